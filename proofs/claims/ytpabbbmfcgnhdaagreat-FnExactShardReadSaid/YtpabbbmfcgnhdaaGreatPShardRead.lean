/- Plain laws: what the plain functions answer. Conditions: each theorem's own. -/
import Derived.Test.YtpabbbmfcgnhdaaGreatMShardRead
set_option linter.unusedVariables false
set_option linter.unusedSimpArgs false
set_option maxRecDepth 100000
namespace Go.AW
theorem w64{n:Int}(h1:-9223372036854775808≤n)(h2:n < 9223372036854775808):IntKind.wrap .i64 n=n:=by
 rw[IntKind.wrap_i64];omega
theorem zO{α:Type}{xs:List α}{i:Nat}(h:i < xs.length):idx xs (i:Int)=some xs[i]:=by
 unfold idx;rw[if_pos (by omega)];simp[h]
theorem zft{α:Type}(xs:List α)(i:Nat):idx xs (i:Int)=xs[i]?:=by
 unfold idx;rw[if_pos (by omega)];simp
theorem zlC{S R:Type}{f:(S→Option R)→S→Option R}(st:Nat→S)(stop:Nat→Option (Option R))(k:Option R)(n:Nat)
  (hs:∀kb i,i < n→(∀j,j < i→stop j=none)→f kb (st i)=match stop i with|some r=>r|none=>kb (st (i+1))) (he:∀kb,(∀j,j < n→stop j=none)→f kb (st n)=k):
  ∀(m i:Nat),i≤n→(∀j,j < i→stop j=none)→n - i < m→iter f m (st i)=match ((List.range n).drop i).findSome? stop with|some r=>r|none=>k
 |0,i,_,_,h=>by omega
 |m+1,i,hi,hp,h=>by
  unfold iter;by_cases e:i=n
  ·subst e;rw[he _ hp];simp[List.drop_eq_nil_of_le]
  ·have hlt:i < n:=by omega
   rw[hs _ i hlt hp,List.drop_eq_getElem_cons (by simpa using hlt)];simp only[List.getElem_range,List.findSome?_cons];cases hq:stop i with
   |some r=>rfl
   |none=>exact zlC st stop k n hs he m (i+1) (by omega) (fun j hj=>by
     by_cases e':j=i
     ·subst e';exact hq
     ·exact hp j (by omega)) (by omega)
theorem zgy{S R:Type}{f:(S→Option R)→S→Option R}(st:Nat→S)(stop:Nat→Option (Option R))(k:Option R)(n:Nat)(hn:n≤1152921504606846976)
  (hs:∀kb i,i < n→(∀j,j < i→stop j=none)→f kb (st i)=match stop i with|some r=>r|none=>kb (st (i+1))) (he:∀kb,(∀j,j < n→stop j=none)→f kb (st n)=k) {s0:S} (h0:s0=st 0):
  iter f FU s0=match (List.range n).findSome? stop with|some r=>r|none=>k:=by
 subst h0;have:=zlC st stop k n hs he FU 0 (by omega) (fun j hj=>by omega) (by unfold FU;omega);simpa using this
theorem zds{S R:Type}{f:(S→Option R)→S→Option R}(st:Nat→S)(stop:Nat→Option (Option R))(k:Option R)(n:Nat)(hn:n≤1152921504606846976)
  (hs:∀kb i,i < n→f kb (st i)=match stop i with|some r=>r|none=>kb (st (i+1))) (he:∀kb,f kb (st n)=k) {s0:S} (h0:s0=st 0):
  iter f FU s0=match (List.range n).findSome? stop with|some r=>r|none=>k:=
 zgy st stop k n hn (fun kb i hi _=>hs kb i hi) (fun kb _=>he kb) h0
theorem qJ{S R:Type}{f:(S→Option R)→S→Option R}(st:Nat→S)(k:Option R)(n:Nat)(hn:n≤1152921504606846976)
  (hs:∀kb i,i < n→f kb (st i)=kb (st (i+1))) (he:∀kb,f kb (st n)=k) {s0:S} (h0:s0=st 0):iter f FU s0=k:=by
 rw[zds st (fun _=>none) k n hn (fun kb i hi=>hs kb i hi) he h0];have:(List.range n).findSome? (fun _=>(none:Option (Option R)))=none:=by
  rw[List.findSome?_eq_none_iff];intro x _;rfl
 rw[this]
theorem zdX{S R:Type}{f:(S→Option R)→S→Option R}(st:Nat→S)(good:Nat→Bool)(r k:Option R)(n:Nat)(hn:n≤1152921504606846976)
  (hs:∀kb i,i < n→(∀j,j < i→good j=true)→f kb (st i)=if good i=true then kb (st (i+1)) else r) (he:∀kb,(∀j,j < n→good j=true)→f kb (st n)=k) {s0:S} (h0:s0=st 0):
  iter f FU s0=if (List.range n).all good=true then k else r:=by
 have tr:∀j,(if good j=true then(none:Option (Option R)) else some r)=none→good j=true:=fun j h=>by
  split at h
  ·assumption
  ·cases h
 rw[zgy st (fun i=>if good i=true then none else some r) k n hn (fun kb i hi hp=>by rw[hs kb i hi (fun j hj=>tr j (hp j hj))];split<;>rfl) (fun kb hp=>he kb (fun j hj=>tr j (hp j hj))) h0];by_cases e:(List.range n).all good=true
 ·have:(List.range n).findSome? (fun i=>if good i=true then none else some r)=none:=by
   rw[List.findSome?_eq_none_iff];intro x hx;rw[List.all_eq_true] at e;simp[e x hx]
  rw[this,if_pos e]
 ·rw[if_neg e];cases h:(List.range n).findSome? (fun i=>if good i=true then none else some r) with
  |none=>
   exfalso;apply e;rw[List.all_eq_true];intro x hx;rw[List.findSome?_eq_none_iff] at h;exact tr x (h x hx)
  |some q=>
   obtain⟨x,hx,hq⟩:=List.exists_of_findSome?_eq_some h;split at hq
   ·cases hq
   ·cases hq;rfl
theorem j8{S R:Type}{f:(S→Option R)→S→Option R}(st:Nat→S)(good:Nat→Bool)(r k:Option R)(n:Nat)(hn:n≤1152921504606846976)
  (hs:∀kb i,i < n→f kb (st i)=if good i=true then kb (st (i+1)) else r) (he:∀kb,f kb (st n)=k) {s0:S} (h0:s0=st 0):
  iter f FU s0=if (List.range n).all good=true then k else r:=
 zdX st good r k n hn (fun kb i hi _=>hs kb i hi) (fun kb _=>he kb) h0
theorem zar{α R:Type}{f:(List α×Int→Option R)→List α×Int→Option R}(xs:List α)(z:α)(k:List α→Option R)(hn:xs.length≤2147483648)
  (hs:∀kb (ys:List α) (i:Nat) (hi:i < xs.length),ys.length=xs.length→f kb (ys,(i:Int))=kb (ys.set i xs[i],((i+1:Nat):Int)))
  (he:∀kb (ys:List α),f kb (ys,(xs.length:Int))=k ys):iter f FU (List.replicate xs.length z,0)=k xs:=by
 refine qJ (fun i=>(xs.take i++List.replicate (xs.length - i) z,(i:Int))) _ xs.length (by omega) (fun kb i hi=> ?_) (fun kb=> ?_) (by simp)
 ·rw[hs kb _ i hi (by simp;omega)];congr 2;have:xs.length - i=(xs.length - (i+1))+1:=by omega
  have hk:min i xs.length=i:=by omega
  show _=(List.take (i+1) xs++_);rw[this,List.replicate_succ,List.set_append_right _ _ (by simp;omega),show List.take (i+1) xs=List.take i xs++[xs[i]] from List.take_succ_eq_append_getElem hi];simp only[List.length_take,hk,Nat.sub_self,List.set_cons_zero];rw[List.append_assoc];rfl
 ·rw[he];simp
theorem xm{α:Type}[DecidableEq α]{xs ys:List α}(h:xs.length=ys.length):(List.range xs.length).all (fun i=>decide (xs[i]? =ys[i]?))=decide (xs=ys):=by
 by_cases e:xs=ys
 ·subst e;simp
 ·rw[decide_eq_false e,List.all_eq_false];apply Classical.byContradiction;intro hc;apply e;apply List.ext_getElem?;intro i;by_cases hi:i < xs.length
  ·apply Classical.byContradiction;intro hne;exact hc ⟨i,List.mem_range.2 hi,by simpa using hne⟩
  ·rw[List.getElem?_eq_none (by omega),List.getElem?_eq_none (by omega)]
theorem qi(i:Nat)(n:Nat)(h:i < n)(hn:n≤1152921504606846976):IntKind.wrap .i64 ((i:Int)+1)=((i+1:Nat):Int):=by
 rw[w64 (by omega) (by omega)];omega
def zcX{α:Type}(p:α→Bool)(xs:List α):Int:=match xs.findIdx? p with
 |some k=>(k:Int)
 |none=>-1
theorem JI{α:Type}(p:α→Bool)(xs:List α):decide (0≤zcX p xs)=xs.any p:=by
 unfold zcX;cases h:xs.findIdx? p with
 |none=>
  rw[List.findIdx?_eq_none_iff] at h;have:xs.any p=false:=by rw[List.any_eq_false];intro x hx;simp[h x hx]
  simp[this]
 |some k=>
  rw[List.findIdx?_eq_some_iff_getElem] at h;obtain⟨hk,hp,_⟩:=h;have:xs.any p=true:=List.any_eq_true.2 ⟨xs[k],List.getElem_mem hk,hp⟩;simp[this]
theorem Ju{α:Type}(xs:List α)(p:α→Bool){f:(Int→Option Int)→Int→Option Int}(hn:xs.length≤1152921504606846976)
  (hs:∀kb (i:Nat) (hi:i < xs.length),f kb (i:Int)=if p xs[i]=true then some (i:Int) else kb ((i+1:Nat):Int)) (he:∀kb,f kb (xs.length:Int)=some (-1)):iter f FU 0=some (zcX p xs):=by
 rw[zds (s0:=(0:Int)) (fun i=>(i:Int)) (fun i:Nat=>(xs[i]?).bind fun x=>if p x=true then some (some (i:Int)) else none) (some (-1)) xs.length hn (fun kb i hi=> ?_) (fun kb=>he kb) rfl]
 ·have key:∀(ys:List α) (o:Nat),(List.range ys.length).findSome? (fun i:Nat=>(ys[i]?).bind fun x=>if p x=true then some (some ((o+i:Nat):Int)) else none)=(ys.findIdx? p).map fun k=>some ((o+k:Nat):Int):=by
   intro ys;induction ys with
   |nil=>intro o;rfl
   |cons y ys ih=>
    intro o;rw[List.length_cons,List.range_succ_eq_map,List.findSome?_cons,List.findSome?_map,List.findIdx?_cons];simp only[List.getElem?_cons_zero,Option.bind_some];by_cases e:p y=true
    ·simp[e]
    ·simp only[e,if_false,Function.comp_def,List.getElem?_cons_succ,Bool.false_eq_true];have:=ih (o+1);rw[show(fun i:Nat=>(ys[i]?).bind fun x=>if p x=true then some (some ((o+(i+1):Nat):Int)) else none)=fun i:Nat=>(ys[i]?).bind fun x=>if p x=true then some (some ((o+1+i:Nat):Int)) else none from by funext i;rw[show o+(i+1)=o+1+i by omega]];rw[this];cases ys.findIdx? p<;>simp;omega
  have:=key xs 0;simp only[Nat.zero_add] at this;rw[this];unfold zcX;cases xs.findIdx? p<;>rfl
 ·rw[hs kb i hi,List.getElem?_eq_getElem hi];simp only[Option.bind_some];by_cases e:p xs[i]=true<;>simp[e]
theorem ziq{α:Type}(xs:List α)(p:α→Bool):((List.range xs.length).all fun i=>((xs[i]?).map p).getD true)=xs.all p:=by
 rw[Bool.eq_iff_iff,List.all_eq_true,List.all_eq_true];constructor
 ·intro H x hx;obtain⟨i,hi,rfl⟩:=List.mem_iff_getElem.1 hx;have:=H i (List.mem_range.2 hi);rw[List.getElem?_eq_getElem hi] at this;exact this
 ·intro H i hi;have hi:=List.mem_range.1 hi;rw[List.getElem?_eq_getElem hi];exact H _ (List.getElem_mem hi)
theorem zen{α R:Type}(xs:List α)(p:α→Bool)(r k:Option R){f:(Int→Option R)→Int→Option R}(hn:xs.length≤1152921504606846976)
  (hs:∀kb (i:Nat) (hi:i < xs.length),f kb (i:Int)=if p xs[i]=true then r else kb ((i+1:Nat):Int)) (he:∀kb,f kb (xs.length:Int)=k):iter f FU 0=if xs.any p=true then r else k:=by
 rw[j8 (s0:=(0:Int)) (fun i=>(i:Int)) (fun i=>((xs[i]?).map fun x=>!p x).getD true) r k xs.length hn (fun kb i hi=> ?_) (fun kb=>he kb) rfl,ziq xs fun x=>!p x]
 ·cases h:xs.any p with
  |true=>
   have:(xs.all fun x=>!p x)=false:=by
    rw[List.all_eq_false];obtain⟨x,hx,hp⟩:=List.any_eq_true.1 h;exact⟨x,hx,by simp[hp]⟩
   simp[this]
  |false=>
   have:(xs.all fun x=>!p x)=true:=by
    rw[List.all_eq_true];intro x hx;rw[List.any_eq_false] at h;simp[h x hx]
   simp[this]
 ·rw[hs kb i hi,List.getElem?_eq_getElem hi];cases h:p xs[i]<;>simp[h]
theorem X9{α R:Type}(xs:List α)(p:α→Bool)(r k:Option R){f:(Int→Option R)→Int→Option R}(hn:xs.length≤1152921504606846976)
  (hs:∀kb (i:Nat) (hi:i < xs.length),f kb (i:Int)=if p xs[i]=true then kb ((i+1:Nat):Int) else r) (he:∀kb,f kb (xs.length:Int)=k):iter f FU 0=if xs.all p=true then k else r:=by
 rw[j8 (s0:=(0:Int)) (fun i=>(i:Int)) (fun i=>((xs[i]?).map p).getD true) r k xs.length hn (fun kb i hi=> ?_) (fun kb=>he kb) rfl,ziq xs p];rw[hs kb i hi,List.getElem?_eq_getElem hi];rfl
def yr{α:Type}(f:α→Nat):List α→Nat
 |[]=>0
 |x::xs=>f x+yr f xs
theorem zdg{α:Type}(f:α→Nat):∀(xs ys:List α),yr f (xs++ys)=yr f xs+yr f ys
 |[],ys=>by simp[yr]
 |x::xs,ys=>by simp[yr,zdg f xs ys];omega
theorem Ku{α:Type}(f:α→Nat){xs:List α}{i:Nat}(hi:i < xs.length):yr f (xs.take (i+1))=yr f (xs.take i)+f xs[i]:=by
 rw[List.take_succ_eq_append_getElem hi,zdg];simp[yr]
theorem Kt{α:Type}(f:α→Nat)(xs:List α)(i:Nat):yr f (xs.take i)≤yr f xs:=by
 have:=zdg f (xs.take i) (xs.drop i);rw[List.take_append_drop] at this;omega
theorem znN{α:Type}(f:α→Nat){xs:List α}{i:Nat}(hi:i < xs.length):f xs[i]≤yr f xs:=by
 have h1:=Ku f hi;have h2:=Kt f xs (i+1);omega
def qp(z lo hi:Int):Bool:=decide (lo≤z)&&decide (z≤hi)
theorem zfy(z lo hi:Int):Zb z lo hi=some (qp z lo hi):=by
 unfold Zb qp;by_cases h:lo≤z<;>simp[h]
theorem zdP(z lo hi:Int):Ze z lo hi=some (qp z lo hi):=by
 unfold Ze qp;by_cases h:lo≤z<;>simp[h]
theorem zjz(z:Int):J9 z=some (qp z 0 999):=by simp[J9,zfy]
theorem zlM(z:Int):Y9 z=some (qp z 0 999):=by simp[Y9,zdP]
theorem zmg(z:Int):YV z=some (qp z 0 1000000000):=by simp[YV,zfy]
theorem zml(z:Int):YM z=some (qp z 0 1000000000):=by simp[YM,zdP]
theorem zeJ(z:Int):ZL z=some (qp z 1 60):=by simp[ZL,zfy]
theorem zjj(z:Int):Jm z=some (qp z 1 60):=by simp[Jm,zdP]
def qk(a:zm):Bool:=decide (0≤a.Lo)&&decide (a.Lo < a.Hi)&&decide (a.Hi≤1000)
theorem yI(a:zm):qT a=some (qk a):=by
 unfold qT qk;by_cases h:0≤a.Lo<;>by_cases h':a.Lo < a.Hi<;>simp[h,h']
theorem QW(a:zm):yp a=some (qk a):=by
 unfold yp qk;by_cases h:0≤a.Lo<;>by_cases h':a.Lo < a.Hi<;>simp[h,h']
theorem zlQ(z:Int):YQ z=some (qp z 0 3):=by simp[YQ,zdP]
theorem zgO(xs:List zm)(h:xs.length≤maxLen)(z:Int)(h1:0≤z)(h2:z≤1048576):Qc xs z=some (if z < xs.length then -1 else z - xs.length):=by
 unfold Qc;have:IntKind.wrap .i64 (z - (xs.length:Int))=z - xs.length:=by unfold maxLen at h;exact w64 (by omega) (by omega)
 rw[this];split<;>split<;>first|rfl|omega
theorem zgX(xs:List zm)(h:xs.length≤1048576):Qj xs=some xs:=by
 unfold Qj;rw[if_pos ⟨by omega,by omega⟩];simp only[Int.toNat_natCast];refine zar xs _ xB (by omega) (fun kb ys i hi hy=> ?_) (fun kb ys=> ?_)
 ·unfold xG;simp only[zO hi,zO (show i < ys.length by omega),y0,Option.bind_some,Int.toNat_natCast,qi i _ hi (by omega)];rw[if_pos (by omega)]
 ·unfold xG;rw[if_neg (by omega)]
theorem zmy(a b:zm):YX a b=some (decide (a=b)):=by
 unfold YX;cases a;cases b;simp only[zm.mk.injEq]
 repeat' split
 all_goals simp_all
theorem zg5(xs ys:List zm)(h:xs.length≤1048576):Qk xs ys=some (decide (xs=ys)):=by
 unfold Qk;split
 ·rename_i hl;have:¬xs=ys:=fun e=>hl (by rw[e]);simp[this]
 ·rename_i hl;have hl:xs.length=ys.length:=by omega
  rw[j8 (s0:=(0:Int)) (fun i=>(i:Int)) (fun i=>decide (xs[i]? =ys[i]?)) (some false) (some true) xs.length (by omega) (fun kb i hi=> ?_) (fun kb=> ?_) rfl,xm hl]
  ·by_cases e:xs=ys<;>simp[e]
  ·unfold Y8;simp only[zO hi,zO (show i < ys.length by omega),zmy,Option.bind_some,qi i _ hi (by omega)];rw[if_pos (by omega),List.getElem?_eq_getElem hi,List.getElem?_eq_getElem (show i < ys.length by omega)];simp
  ·unfold Y8;rw[if_neg (by omega)];rfl
def zdp(xs:List zm)(i:Nat):Bool:=match xs[i]? with
 |none=>true
 |some c=>qk c&&(i == 0||match xs[i - 1]? with|some p=>decide (p.Hi≤c.Lo)|none=>true)
def qw(xs:List zm):Bool:=decide (xs.length≤16)&&(List.range xs.length).all (zdp xs)
theorem KU(xs:List zm)(h:xs.length≤1048576):Zp xs=some (qw xs):=by
 unfold Zp qw;split
 ·rename_i h1;have:¬xs.length≤16:=by omega
  simp[this]
 ·rename_i h1;have:xs.length≤16:=by omega
  rw[j8 (s0:=(0:Int)) (fun i=>(i:Int)) (zdp xs) (some false) (some true) xs.length (by omega) (fun kb i hi=> ?_) (fun kb=> ?_) rfl]
  ·simp only[this,decide_true,Bool.true_and];split<;>simp_all
  ·unfold xo ZQ zdp;simp only[zO hi,yI,Option.bind_some,qi i _ hi (by omega),List.getElem?_eq_getElem hi];rw[if_pos (by omega)];cases qk xs[i]<;>simp;by_cases h0:0 < i
   ·have h2:IntKind.wrap .i64 ((i:Int) - 1)=((i - 1:Nat):Int):=by rw[w64 (by omega) (by omega)];omega
    have h3:i - 1 < xs.length:=by omega
    have h4:¬i=0:=by omega
    simp only[h0,if_true,h2,zO h3,Option.bind_some,List.getElem?_eq_getElem h3,h4,false_or];by_cases h5:xs[i].Lo < xs[i - 1].Hi
    ·have:¬xs[i - 1].Hi≤xs[i].Lo:=by omega
     simp[h5,this]
    ·have:xs[i - 1].Hi≤xs[i].Lo:=by omega
     simp[h5,this]
   ·have h4:i=0:=by omega
    simp[h4]
  ·unfold xo;rw[if_neg (by omega)];rfl
theorem zcu(xs:List zm)(h:xs.length≤1048576):Qf xs=some (qw xs):=by
 unfold Qf qw;rw[j8 (s0:=(0:Int)) (fun i=>(i:Int)) (zdp xs) (some false) (some<|decide (xs.length≤16)) xs.length (by omega) (fun kb i hi=> ?_) (fun kb=> ?_) rfl]
 ·split<;>simp_all
 ·unfold xL ZW zdp;simp only[zO hi,QW,Option.bind_some,qi i _ hi (by omega),List.getElem?_eq_getElem hi];rw[if_pos (by omega)];cases qk xs[i]<;>simp;by_cases h0:0 < i
  ·have h2:IntKind.wrap .i64 ((i:Int) - 1)=((i - 1:Nat):Int):=by rw[w64 (by omega) (by omega)];omega
   have h3:i - 1 < xs.length:=by omega
   have h4:¬i=0:=by omega
   simp only[h0,if_true,h2,zO h3,Option.bind_some,List.getElem?_eq_getElem h3,h4,false_or];by_cases h5:xs[i].Lo < xs[i - 1].Hi
   ·have:¬xs[i - 1].Hi≤xs[i].Lo:=by omega
    simp[h5,this]
   ·have:xs[i - 1].Hi≤xs[i].Lo:=by omega
    simp[h5,this]
  ·have h4:i=0:=by omega
   simp[h4]
 ·unfold xL xP;rw[if_neg (by omega)];have:((xs.length:Int)≤16)↔xs.length≤16:=by omega
  simp[this]
theorem zbd{xs:List zm}(h:qw xs=true){i:Nat}(hi:i < xs.length):qk xs[i]=true:=by
 unfold qw at h;simp only[Bool.and_eq_true,List.all_eq_true] at h;have:=h.2 i (List.mem_range.2 hi);unfold zdp at this;rw[List.getElem?_eq_getElem hi] at this;simp only[Bool.and_eq_true] at this;exact this.1
theorem zdC{xs:List zm}(h:qw xs=true):xs.length≤16:=by
 unfold qw at h;simp at h;exact h.1
def KV(xs:List zm)(z:Int):Int:=xs.foldl (fun at_ b=>if b.Lo≤at_∧at_ < b.Hi then b.Hi else at_) z
def yY(xs:List zm)(a:zm):Bool:=decide (a.Hi≤KV xs a.Lo)
theorem zfN{xs:List zm}{i:Nat}(hi:i < xs.length)(z:Int):KV (xs.take (i+1)) z=if xs[i].Lo≤KV (xs.take i) z∧KV (xs.take i) z < xs[i].Hi then xs[i].Hi else KV (xs.take i) z:=by
 unfold KV;rw[List.take_succ_eq_append_getElem hi,List.foldl_append];rfl
theorem zdm(xs:List zm)(a:zm)(h:xs.length≤1048576):Zd xs a=some (yY xs a):=by
 unfold Zd yY;refine qJ (fun i=>(KV (xs.take i) a.Lo,(i:Int))) _ xs.length (by omega) (fun kb i hi=> ?_) (fun kb=> ?_) (by simp[KV])
 ·unfold Xe QN;simp only[zO hi,Option.bind_some,qi i _ hi (by omega),zfN hi];rw[if_pos (by omega)];generalize KV (xs.take i) a.Lo=z;by_cases c1:xs[i].Lo≤z<;>by_cases c2:z < xs[i].Hi<;>simp[c1,c2]
 ·unfold Xe kC;rw[if_neg (by simp)];simp
theorem zam(xs:List zm)(a:zm)(h:xs.length≤1048576):jR xs a=some (qw xs&&qk a&&yY xs a):=by
 have J:yu xs a false=some (yY xs a):=by
  unfold yu yY;rw[if_neg (by simp)];refine qJ (fun i=>(KV (xs.take i) a.Lo,(i:Int))) _ xs.length (by omega) (fun kb i hi=> ?_) (fun kb=> ?_) (by simp[KV])
  ·unfold Jq ZD;simp only[zO hi,Option.bind_some,qi i _ hi (by omega),zfN hi];rw[if_pos (by omega)];generalize KV (xs.take i) a.Lo=z;by_cases c1:xs[i].Lo≤z<;>by_cases c2:z < xs[i].Hi<;>simp[c1,c2]
  ·unfold Jq JL;rw[if_neg (by simp)];simp
 have J2:yu xs a true=some false:=rfl;unfold jR;simp only[KU _ h,yI,Option.bind_some];cases qw xs<;>cases qk a<;>simp[J,J2]
def zkd(xs:List Int)(i:Nat):Bool:=match xs[i]? with
 |none=>true
 |some c=>qp c 1 60&&(i == 0||match xs[i - 1]? with|some p=>decide (p < c)|none=>true)
def jQ(xs:List Int):Bool:=(List.range xs.length).all (zkd xs)
theorem zjs(xs:List Int)(h:xs.length≤1048576):J4 xs=some (jQ xs):=by
 unfold J4 jQ;rw[j8 (s0:=(0:Int)) (fun i=>(i:Int)) (zkd xs) (some false) (some true) xs.length (by omega) (fun kb i hi=> ?_) (fun kb=> ?_) rfl]
 ·split<;>simp_all
 ·unfold XJ QV zkd;simp only[zO hi,zeJ,Option.bind_some,qi i _ hi (by omega),List.getElem?_eq_getElem hi];rw[if_pos (by omega)];cases qp xs[i] 1 60<;>simp;by_cases h0:0 < i
  ·have h2:IntKind.wrap .i64 ((i:Int) - 1)=((i - 1:Nat):Int):=by rw[w64 (by omega) (by omega)];omega
   have h3:i - 1 < xs.length:=by omega
   have h4:¬i=0:=by omega
   simp only[h0,if_true,h2,zO h3,Option.bind_some,List.getElem?_eq_getElem h3,h4,false_or];by_cases h5:xs[i]≤xs[i - 1]
   ·have:¬xs[i - 1] < xs[i]:=by omega
    simp[h5,this]
   ·have:xs[i - 1] < xs[i]:=by omega
    simp[h5,this]
  ·have h4:i=0:=by omega
   simp[h4]
 ·unfold XJ;rw[if_neg (by omega)];rfl
theorem zcZ(xs:List Int)(h:xs.length≤1048576):yU xs=some (jQ xs):=by
 unfold yU jQ;rw[j8 (s0:=(0:Int)) (fun i=>(i:Int)) (zkd xs) (some false) (some true) xs.length (by omega) (fun kb i hi=> ?_) (fun kb=> ?_) rfl]
 ·split<;>simp_all
 ·unfold Yf Zj zkd;simp only[zO hi,zjj,Option.bind_some,qi i _ hi (by omega),List.getElem?_eq_getElem hi];rw[if_pos (by omega)];cases qp xs[i] 1 60<;>simp;by_cases h0:0 < i
  ·have h2:IntKind.wrap .i64 ((i:Int) - 1)=((i - 1:Nat):Int):=by rw[w64 (by omega) (by omega)];omega
   have h3:i - 1 < xs.length:=by omega
   have h4:¬i=0:=by omega
   simp only[h0,if_true,h2,zO h3,Option.bind_some,List.getElem?_eq_getElem h3,h4,false_or];by_cases h5:xs[i]≤xs[i - 1]
   ·have:¬xs[i - 1] < xs[i]:=by omega
    simp[h5,this]
   ·have:xs[i - 1] < xs[i]:=by omega
    simp[h5,this]
  ·have h4:i=0:=by omega
   simp[h4]
 ·unfold Yf;rw[if_neg (by omega)];rfl
theorem zdY{xs:List Int}(h:jQ xs=true){i:Nat}(hi:i < xs.length):(1≤xs[i]∧xs[i]≤60)∧(0 < i→xs[i - 1]'(by omega) < xs[i]):=by
 unfold jQ at h;simp only[List.all_eq_true] at h;have:=h i (List.mem_range.2 hi);unfold zkd qp at this;rw[List.getElem?_eq_getElem hi] at this;simp only[Bool.and_eq_true,decide_eq_true_eq,Bool.or_eq_true,beq_iff_eq] at this;refine⟨this.1,fun h0=> ?_⟩;rcases this.2 with e|e
 ·omega
 ·rw[List.getElem?_eq_getElem (show i - 1 < xs.length by omega)] at e;simpa using e
theorem zb8{xs:List Int}(h:jQ xs=true):∀{i j:Nat} (hj:j < xs.length) (hij:i < j),xs[i]'(by omega) < xs[j]
 |i,j+1,hj,hij=>by
  have h1:=(zdY h hj).2 (by omega);simp only[Nat.add_sub_cancel] at h1;by_cases e:i=j
  ·subst e;exact h1
  ·have:=zb8 h (i:=i) (j:=j) (by omega) (by omega);omega
theorem zhd{xs:List Int}(h:jQ xs=true):∀{j:Nat} (hj:j < xs.length),(j:Int)+1≤xs[j]
 |0,hj=>by have:=(zdY h hj).1.1;omega
 |j+1,hj=>by
  have h1:=zhd h (j:=j) (by omega);have h2:=zb8 h hj (i:=j) (by omega);omega
theorem Kl{xs:List Int}(h:jQ xs=true):xs.length≤60:=by
 by_cases e:xs.length=0
 ·omega
 ·have h1:=zhd h (j:=xs.length - 1) (by omega);have h2:=(zdY h (i:=xs.length - 1) (by omega)).1.2;omega
theorem zba{xs:List Int}(h:jQ xs=true):xs.Nodup:=by
 refine List.pairwise_iff_getElem.2 fun i j hi hj hij=> ?_;have:=zb8 h hj hij;omega
theorem zjp(xs:List Int):(Go.Lib.compact xs).length=xs.length↔∀i (h:i+1 < xs.length),xs[i+1]≠xs[i]:=by
 unfold Go.Lib.compact Go.Lib.compactUpTo;rw[List.length_map];have:(List.filter (Go.Lib.keeps xs.toArray)<|List.range xs.length).length=xs.length↔∀i∈List.range xs.length,Go.Lib.keeps xs.toArray i=true:=by
  have:=List.length_filter_eq_length_iff (l:=List.range xs.length) (p:=Go.Lib.keeps xs.toArray);rw[List.length_range] at this;exact this
 rw[this];constructor
 ·intro H i hi;have:=H (i+1) (List.mem_range.2 hi);unfold Go.Lib.keeps at this;intro e;have h1:xs.toArray[i+1]! =xs[i+1]:=by rw[getElem!_pos _ _ (by simpa using hi)];simp
  have h2:xs.toArray[i]! =xs[i]:=by rw[getElem!_pos _ _ (by simp;omega)];simp
  simp[h1,h2,e] at this
 ·intro H i hi;have hi:=List.mem_range.1 hi;unfold Go.Lib.keeps;cases i with
  |zero=>simp
  |succ i=>
   have h1:xs.toArray[i+1]! =xs[i+1]:=by rw[getElem!_pos _ _ (by simpa using hi)];simp
   have h2:xs.toArray[i]! =xs[i]:=by rw[getElem!_pos _ _ (by simp;omega)];simp
   have:=H i hi;simp[h1,h2,this]
theorem zi0{xs:List Int}(hs:xs.Pairwise (·≤·)):(∀i (h:i+1 < xs.length),xs[i+1]≠xs[i])↔xs.Nodup:=by
 constructor
 ·intro H;have lt:∀{i j:Nat} (hj:j < xs.length) (hij:i < j),xs[i]'(by omega) < xs[j]:=by
   intro i j;induction j with
   |zero=>intro _ h;omega
   |succ j ih=>
    intro hj hij;have h1:=H j hj;have h2:=List.pairwise_iff_getElem.1 hs j (j+1) (by omega) hj (by omega);by_cases e:i=j
    ·subst e;omega
    ·have:=ih (by omega) (by omega);omega
  refine List.pairwise_iff_getElem.2 fun i j hi hj hij=> ?_;have:=lt hj hij;omega
 ·intro H i hi e;exact List.pairwise_iff_getElem.1 H i (i+1) (by omega) hi (by omega) e.symm
theorem zkF(zs:List Int):(zdk zs).Perm zs:=List.mergeSort_perm zs _
theorem zji(zs:List Int):(zdk zs).Pairwise (·≤·):=by
 have:=List.pairwise_mergeSort (le:=fun x y:Int=>decide (x≤y)) (by intro a b c h1 h2;simp at *;omega) (by intro a b;simp;omega) zs;exact this.imp fun h=>by simpa using h
theorem zi7(zs:List Int):(Go.Lib.compact<|zdk zs).length=zs.length↔zs.Nodup:=by
 rw[←zat zs,zjp,zi0<|zji zs];exact(zkF zs).nodup_iff
def XX{α:Type}(g:Nat→α)(xs:List α)(i:Nat):List α:=(List.range i).map g++xs.drop i
theorem JP{α:Type}(g:Nat→α){xs:List α}{i:Nat}(h:i≤xs.length):(XX g xs i).length=xs.length:=by
 unfold XX;simp;omega
theorem zbz{α:Type}(g:Nat→α){xs:List α}{i:Nat}(h:i < xs.length):idx (XX g xs i) (i:Int)=some xs[i]:=by
 rw[zft];unfold XX;rw[List.getElem?_append_right (by simp)];simp[h]
theorem zbP{α:Type}(g:Nat→α){xs:List α}{i:Nat}(h:i < xs.length):(XX g xs i).set i (g i)=XX g xs (i+1):=by
 unfold XX;rw[List.set_append,if_neg (by simp),List.range_succ,List.map_append,List.append_assoc];congr 1;have e:i - ((List.range i).map g).length=0:=by simp
 rw[e,List.drop_eq_getElem_cons h];rfl
theorem zaq{α:Type}(g:Nat→α)(xs:List α):XX g xs 0=xs:=by simp[XX]
theorem zbk{α:Type}(g:Nat→α)(xs:List α):XX g xs xs.length=(List.range xs.length).map g:=by simp[XX]
theorem xu{α:Type}{xs:List α}{i:Nat}{a:α}(h:i < xs.length):idx (xs.set i a) (i:Int)=some a:=by
 rw[zO (by simpa using h)];simp
theorem zau{α:Type}(g:Nat→α){n i:Nat}(h:i < n):idx ((List.range n).map g) (i:Int)=some (g i):=by
 rw[zO (by simpa using h)];simp
theorem zdj{α R:Type}{f:(List α×Int→Option R)→List α×Int→Option R}(xs:List α)(q:α→Bool)(k:List α→Option R)(hn:xs.length≤1048576)
  (hs:∀kb (ys:List α) (i:Nat) (hi:i < xs.length),ys.length≤i→f kb (ys,(i:Int))=if q xs[i]=true then kb (ys++[xs[i]],((i+1:Nat):Int)) else kb (ys,((i+1:Nat):Int)))
  (he:∀kb (ys:List α),f kb (ys,(xs.length:Int))=k ys):iter f FU ([],0)=k (xs.filter q):=by
 refine qJ (fun i=>((xs.take i).filter q,(i:Int))) _ xs.length (by omega) (fun kb i hi=> ?_) (fun kb=> ?_) (by simp)
 ·rw[hs kb _ i hi (Nat.le_trans (List.length_filter_le _ _) (by simp;omega))];rw[List.take_succ_eq_append_getElem hi,List.filter_append];by_cases h:q xs[i]=true<;>simp[h]
 ·rw[he,List.take_length]
def XF{α:Type}(xs:List α)(p:α→Bool)(k0:Nat):Nat→List α×Nat
 |0=>(xs,k0)
 |n+1=>match xs[k0+1+n]? with
  |some x=>if p x then XF xs p k0 n else((XF xs p k0 n).1.set (XF xs p k0 n).2 x,(XF xs p k0 n).2+1)
  |none=>XF xs p k0 n
theorem zfq{α:Type}(xs:List α)(p:α→Bool)(k0:Nat)(hk:k0 < xs.length)(h0:(xs.take (k0+1)).filter (fun x=>!p x)=xs.take k0):∀n,k0+1+n≤xs.length→
  (XF xs p k0 n).1.length=xs.length∧(XF xs p k0 n).2 < k0+1+n∧(XF xs p k0 n).1.take (XF xs p k0 n).2=(xs.take (k0+1+n)).filter (fun x=>!p x)∧∀m,k0+1+n≤m→(XF xs p k0 n).1[m]? =xs[m]?
 |0,h=>by
  refine⟨rfl,by simp[XF],?_,fun m _=>rfl⟩;simp only[XF,Nat.add_zero];rw[h0]
 |n+1,h=>by
  obtain⟨h1,h2,h3,h4⟩:=zfq xs p k0 hk h0 n (by omega);have hlt:k0+1+n < xs.length:=by omega
  simp only[XF,List.getElem?_eq_getElem hlt];have ht:(xs.take (k0+1+(n+1))).filter (fun x=>!p x)=(xs.take (k0+1+n)).filter (fun x=>!p x)++(if p xs[k0+1+n]=true then[] else[xs[k0+1+n]]):=by
   rw[show k0+1+(n+1)=(k0+1+n)+1 by omega,List.take_succ_eq_append_getElem hlt,List.filter_append];congr 1;by_cases c:p xs[k0+1+n]=true<;>simp[c]
  by_cases c:p xs[k0+1+n]=true
  ·simp only[c,if_true];refine⟨h1,by omega,by rw[ht,c];simpa using h3,fun m hm=>h4 m (by omega)⟩
  ·simp only[c,Bool.false_eq_true,if_false];refine⟨by simpa using h1,by omega,?_,fun m hm=> ?_⟩
   ·rw[ht,←h3];rw[if_neg c,List.take_succ_eq_append_getElem (by rw[List.length_set,h1];omega),List.take_set_of_le<|Nat.le_refl _];simp
   ·rw[List.getElem?_set_ne (by omega)];exact h4 m (by omega)
theorem zjG{α R:Type}{f:(List α×Int×Int→Option R)→List α×Int×Int→Option R}(xs:List α)(p:α→Bool)(k:List α→Nat→Option R)(hn:xs.length≤1048576)(k0:Nat)(hk:k0 < xs.length)(h0:(xs.take (k0+1)).filter (fun x=>!p x)=xs.take k0)
  (hs:∀kb (ys:List α) (i j:Nat) (hj:j < xs.length),i < j→ys.length=xs.length→ys[j]? =some xs[j]→f kb (ys,(i:Int),(j:Int))=if p xs[j]=true then kb (ys,(i:Int),((j+1:Nat):Int)) else kb (ys.set i xs[j],((i+1:Nat):Int),((j+1:Nat):Int)))
  (he:∀kb (ys:List α) (i:Nat),i≤xs.length→ys.length=xs.length→f kb (ys,(i:Int),(xs.length:Int))=k ys i):
  ∃ys,ys.length=xs.length∧(xs.filter fun x=>!p x).length≤xs.length∧ys.take (xs.filter fun x=>!p x).length=xs.filter (fun x=>!p x)∧iter f FU (xs,(k0:Int),((k0+1:Nat):Int))=k ys (xs.filter fun x=>!p x).length:=by
 obtain⟨h1,h2,h3,_⟩:=zfq xs p k0 hk h0 (xs.length - (k0+1)) (by omega);rw[show k0+1+(xs.length - (k0+1))=xs.length by omega,List.take_length] at h3;rw[show k0+1+(xs.length - (k0+1))=xs.length by omega] at h2;have hl:(XF xs p k0 (xs.length - (k0+1))).2=(xs.filter fun x=>!p x).length:=by
  rw[←h3,List.length_take,h1];omega
 refine⟨_,h1,List.length_filter_le _ _,by rw[←hl];exact h3,?_⟩;rw[←hl];refine qJ (fun n=>((XF xs p k0 n).1,((XF xs p k0 n).2:Int),((k0+1+n:Nat):Int))) _ (xs.length - (k0+1)) (by omega) (fun kb n hlt=> ?_) (fun kb=> ?_) (by simp[XF])
 ·obtain⟨g1,g2,g3,g4⟩:=zfq xs p k0 hk h0 n (by omega);have hj:k0+1+n < xs.length:=by omega
  show f kb ((XF xs p k0 n).1,((XF xs p k0 n).2:Int),((k0+1+n:Nat):Int))=kb ((XF xs p k0 (n+1)).1,((XF xs p k0 (n+1)).2:Int),((k0+1+(n+1):Nat):Int));rw[hs kb _ _ _ hj g2 g1 (by rw[g4 _ (Nat.le_refl _),List.getElem?_eq_getElem hj])];have e:XF xs p k0 (n+1)=if p xs[k0+1+n]=true then XF xs p k0 n else((XF xs p k0 n).1.set (XF xs p k0 n).2 xs[k0+1+n],(XF xs p k0 n).2+1):=by
   simp only[XF,List.getElem?_eq_getElem hj]
  rw[e];by_cases c:p xs[k0+1+n]=true
  ·simp only[c,if_true];rfl
  ·simp only[c,Bool.false_eq_true,if_false];rfl
 ·show f kb ((XF xs p k0 (xs.length - (k0+1))).1,((XF xs p k0 (xs.length - (k0+1))).2:Int),((k0+1+(xs.length - (k0+1)):Nat):Int))=_;rw[show k0+1+(xs.length - (k0+1))=xs.length by omega];exact he kb _ _ (by omega) h1
theorem zkb{α:Type}{p:α→Bool}{xs:List α}(e:zcX p xs= -1):xs.filter (fun x=>!p x)=xs:=by
 unfold zcX at e;split at e
 ·omega
 ·rename_i h;rw[List.findIdx?_eq_none_iff] at h;rw[List.filter_eq_self];intro x hx;simp[h x hx]
theorem ziJ{α:Type}{p:α→Bool}{xs:List α}(e:¬zcX p xs= -1):∃k:Nat,zcX p xs=(k:Int)∧k < xs.length∧(xs.take (k+1)).filter (fun x=>!p x)=xs.take k:=by
 unfold zcX at e ⊢;split
 ·rename_i k h;rw[List.findIdx?_eq_some_iff_getElem] at h;obtain⟨hk,hp,hb⟩:=h;refine⟨k,rfl,hk,?_⟩;rw[List.take_succ_eq_append_getElem hk,List.filter_append,List.filter_eq_self.2 ?_]
  ·simp[hp]
  ·intro x hx;obtain⟨j,hj,rfl⟩:=List.getElem_of_mem hx;have hj':j < k:=by simp at hj;omega
   have:=hb j hj';simp only[List.getElem_take];simpa using this
 ·rename_i h;rw[h] at e;exact absurd O e
theorem zgt{α:Type}{ys:List α}{i:Nat}(zs ws:List α)(h:i≤ys.length):List.take i (List.take i ys++zs++ws)=List.take i ys:=by
 rw[List.append_assoc,List.take_append_of_le_length (by simp;omega),List.take_take,Nat.min_self]
def XP(xs:List zr)(i:Nat):Bool:=match xs[i]? with
 |none=>true
 |some c=>qp c.Key 0 999&&qp c.Value 0 1000000000&&(i == 0||match xs[i - 1]? with|some p=>decide (p.Key < c.Key)|none=>true)
def qW(xs:List zr):Bool:=decide (xs.length≤60)&&(List.range xs.length).all (XP xs)
theorem YW(xs:List zr)(h:xs.length≤1048576):Z3 xs=some (qW xs):=by
 unfold Z3 qW;split
 ·rename_i h1;have:¬xs.length≤60:=by omega
  simp[this]
 ·rename_i h1;have:xs.length≤60:=by omega
  rw[j8 (s0:=(0:Int)) (fun i=>(i:Int)) (XP xs) (some false) (some true) xs.length (by omega) (fun kb i hi=> ?_) (fun kb=> ?_) rfl]
  ·simp only[this,decide_true,Bool.true_and];split<;>simp_all
  ·unfold kO Zx XP;simp only[zO hi,zjz,zmg,Option.bind_some,qi i _ hi (by omega),List.getElem?_eq_getElem hi];rw[if_pos (by omega)];cases qp xs[i].Key 0 999<;>simp;cases qp xs[i].Value 0 1000000000<;>simp;by_cases h0:0 < i
   ·have h2:IntKind.wrap .i64 ((i:Int) - 1)=((i - 1:Nat):Int):=by rw[w64 (by omega) (by omega)];omega
    have h3:i - 1 < xs.length:=by omega
    have h4:¬i=0:=by omega
    simp only[h0,if_true,h2,zO h3,Option.bind_some,List.getElem?_eq_getElem h3,h4,false_or];by_cases h5:xs[i].Key≤xs[i - 1].Key
    ·have:¬xs[i - 1].Key < xs[i].Key:=by omega
     simp[h5,this]
    ·have:xs[i - 1].Key < xs[i].Key:=by omega
     simp[h5,this]
   ·have h4:i=0:=by omega
    simp[h4]
  ·unfold kO;rw[if_neg (by omega)];rfl
theorem zaH(xs:List zr)(h:xs.length≤1048576):Z8 xs=some (qW xs):=by
 unfold Z8 qW;rw[j8 (s0:=(0:Int)) (fun i=>(i:Int)) (XP xs) (some false) (some<|decide (xs.length≤60)) xs.length (by omega) (fun kb i hi=> ?_) (fun kb=> ?_) rfl]
 ·split<;>simp_all
 ·unfold Xc Zt XP;simp only[zO hi,zlM,zml,Option.bind_some,qi i _ hi (by omega),List.getElem?_eq_getElem hi];rw[if_pos (by omega)];cases qp xs[i].Key 0 999<;>simp;cases qp xs[i].Value 0 1000000000<;>simp;by_cases h0:0 < i
  ·have h2:IntKind.wrap .i64 ((i:Int) - 1)=((i - 1:Nat):Int):=by rw[w64 (by omega) (by omega)];omega
   have h3:i - 1 < xs.length:=by omega
   have h4:¬i=0:=by omega
   simp only[h0,if_true,h2,zO h3,Option.bind_some,List.getElem?_eq_getElem h3,h4,false_or];by_cases h5:xs[i].Key≤xs[i - 1].Key
   ·have:¬xs[i - 1].Key < xs[i].Key:=by omega
    simp[h5,this]
   ·have:xs[i - 1].Key < xs[i].Key:=by omega
    simp[h5,this]
  ·have h4:i=0:=by omega
   simp[h4]
 ·unfold Xc kM;rw[if_neg (by omega)];have:((xs.length:Int)≤60)↔xs.length≤60:=by omega
  simp[this]
def asc(xs:List zr):Prop:=∀i j (hi:i < xs.length) (hj:j < xs.length),i < j→xs[i].Key < xs[j].Key
theorem zew{xs:List zr}(h:qW xs=true):xs.length≤60:=by
 unfold qW at h;simp at h;exact h.1
theorem zeQ{xs:List zr}(h:qW xs=true){i:Nat}(hi:i < xs.length):XP xs i=true:=by
 unfold qW at h;simp only[Bool.and_eq_true,List.all_eq_true] at h;exact h.2 i (List.mem_range.2 hi)
theorem zhT{xs:List zr}(h:qW xs=true){i:Nat}(hi:i < xs.length):0≤xs[i].Key∧xs[i].Key≤999∧0≤xs[i].Value∧xs[i].Value≤1000000000:=by
 have:=zeQ h hi;unfold XP qp at this;rw[List.getElem?_eq_getElem hi] at this;simp only[Bool.and_eq_true,decide_eq_true_eq] at this;exact⟨this.1.1.1,this.1.1.2,this.1.2.1,this.1.2.2⟩
theorem zhU{xs:List zr}(h:qW xs=true):asc xs:=by
 have step:∀i (hi:i+1 < xs.length),xs[i].Key < xs[i+1].Key:=by
  intro i hi;have:=zeQ h hi;unfold XP at this;rw[List.getElem?_eq_getElem hi] at this;simp only[Bool.and_eq_true,Nat.add_sub_cancel,List.getElem?_eq_getElem (show i < xs.length by omega)] at this;simpa using this.2
 intro i j hi hj hlt;induction j with
 |zero=>omega
 |succ j ih=>
  by_cases e:i=j
  ·subst e;exact step i hj
  ·have:=ih (by omega) (by omega);have:=step j hj;omega
theorem mid{a b:Nat}(h:a < b)(hb:b≤1048576):IntKind.wrap .i64 (Int.fdiv (IntKind.wrap .u64<|IntKind.wrap .i64 ((a:Int)+(b:Int)))<|2 ^ (min (Int.toNat 1)<|IntKind.bits .u64))=(((a+b) / 2:Nat):Int):=by
 rw[w64 (n:=(a:Int)+b) (by omega) (by omega)];have h1:IntKind.wrap .u64 ((a:Int)+b)=(a:Int)+b:=by
  unfold IntKind.wrap;simp only[IntKind.bits,IntKind.signed];simp;omega
 rw[h1];have h2:(min (Int.toNat 1)<|IntKind.bits .u64)=1:=by decide
 rw[h2];have h3:((a:Int)+b).fdiv (2 ^ 1)=(((a+b) / 2:Nat):Int):=by
  rw[Int.fdiv_eq_ediv_of_nonneg _ (by decide)];omega
 rw[h3];exact w64 (by omega) (by omega)
theorem zmD(xs:List zr)(k:Int)(hs:asc xs)(hl:xs.length≤1048576)(hk:∀i (hi:i < xs.length),-1000000000000≤xs[i].Key∧xs[i].Key≤1000000000000)(h1:-9000000000000000000≤k)(h2:k≤9000000000000000000):
  ∃p:Nat,p≤xs.length∧(∀i (hi:i < xs.length),i < p↔xs[i].Key < k)∧YB xs k=some ((p:Int),decide ((xs[p]?).map (·.Key)=some k)):=by
 have hc:∀i (hi:i < xs.length),ZS xs[i] k=some (xs[i].Key - k):=fun i hi=>by
  unfold ZS;have:=hk i hi;rw[w64 (by omega) (by omega)]
 have loop:∀(m lo hi:Nat),lo≤hi→hi≤xs.length→hi - lo < m→(∀i (h:i < xs.length),i < lo→xs[i].Key < k)→(∀i (h:i < xs.length),hi≤i→¬xs[i].Key < k)→
   ∃p:Nat,p≤xs.length∧(∀i (hi:i < xs.length),i < p↔xs[i].Key < k)∧
    iter (qg xs k<|zX xs k) m ((lo:Int),(hi:Int))=zX xs k (p:Int):=by
  intro m;induction m with
  |zero=>intro lo hi _ _ h;omega
  |succ m ih=>
   intro lo hi hle hhi hm hlow hhigh;unfold iter;unfold qg;by_cases e:lo=hi
   ·subst e;refine⟨lo,hhi,fun i h=>⟨hlow i h,fun hlt=> ?_⟩,?_⟩
    ·apply Classical.byContradiction;intro hn;exact hhigh i h (by omega) hlt
    ·rw[if_neg (by simp)]
   ·have hlt:lo < hi:=by omega
    rw[if_pos (by simp;omega)];simp only[mid hlt (show hi≤1048576 by omega)];have hmid:(lo+hi) / 2 < xs.length:=by omega
    rw[zO hmid];simp only[Option.bind_some,hc _ hmid];by_cases hv:xs[(lo+hi) / 2].Key - k < 0
    ·rw[if_pos hv,qi ((lo+hi) / 2) (xs.length) hmid (by omega)];refine ih ((lo+hi) / 2+1) hi (by omega) hhi (by omega) (fun i h hi'=> ?_) hhigh;by_cases e2:i=(lo+hi) / 2
     ·subst e2;omega
     ·have:=hs i ((lo+hi) / 2) h hmid (by omega);omega
    ·rw[if_neg hv];refine ih lo ((lo+hi) / 2) (by omega) (by omega) (by omega) hlow (fun i h hi'=> ?_);by_cases e2:i=(lo+hi) / 2
     ·subst e2;omega
     ·have:=hs ((lo+hi) / 2) i hmid h (by omega);omega
 obtain⟨p,hp,hiff,hit⟩:=loop FU 0 xs.length (by omega) (by omega) (by unfold FU;omega) (fun i h h0=>by omega) (fun i h h0=>by omega);refine⟨p,hp,hiff,?_⟩;unfold YB qz;have hit:iter (qg xs k<|zX xs k) FU (0,(xs.length:Int))=_:=hit;rw[hit];unfold zX;by_cases e:p < xs.length
 ·rw[if_pos (by omega),zO e];simp only[Option.bind_some,hc p e,List.getElem?_eq_getElem e,Option.map_some];congr 2;rw[decide_eq_decide];simp;omega
 ·rw[if_neg (by omega),List.getElem?_eq_none (by omega)];simp
theorem zdi{α β:Type}:∀(xs:List α) (g:α→Option β),(List.range xs.length).findSome? (fun i=>(xs[i]?).bind g)= xs.findSome? g
 |[],_=>rfl
 |x::xs,g=>by
  rw[List.length_cons,List.range_succ_eq_map,List.findSome?_cons,List.findSome?_cons,List.findSome?_map];simp only[List.getElem?_cons_zero,Option.bind_some];cases g x with
  |some y=>rfl
  |none=>
   simp only[Function.comp_def,List.getElem?_cons_succ];exact zdi xs g
def za3(xs:List zr)(k:Int):Int:=match xs.find? fun c=>decide (c.Key=k) with
 |some c=>c.Value
 |none=>-1
theorem zmY(xs:List zr)(k:Int)(hl:xs.length≤1048576):km xs k=some (za3 xs k):=by
 unfold km;rw[zds (s0:=(0:Int)) (fun i=>(i:Int)) (fun i:Nat=>match xs[i]? with|some c=>if c.Key=k then some (some c.Value) else none|none=>none) (some (-1)) xs.length (by omega) (fun kb i hi=> ?_) (fun kb=> ?_) rfl]
 ·have:∀ys:List zr,ys.findSome? (fun c=>if c.Key=k then some (some c.Value) else none)=(ys.find? fun c=>decide (c.Key=k)).map fun c=>some c.Value:=by
   intro ys;induction ys with
   |nil=>rfl
   |cons y ys ih=>
    simp only[List.findSome?_cons,List.find?_cons];by_cases e:y.Key=k
    ·simp[e]
    ·simp[e,ih]
  have h2:(List.range xs.length).findSome? (fun i:Nat=>match xs[i]? with|some c=>if c.Key=k then some (some c.Value) else none|none=>none)= xs.findSome? (fun c=>if c.Key=k then some (some c.Value) else none):=by
   have key:∀(g:zr→Option (Option Int)),(List.range xs.length).findSome? (fun i:Nat=>match xs[i]? with|some c=>g c|none=>none)= xs.findSome? g:=fun g=>by
    have e:(fun i:Nat=>match xs[i]? with|some c=>g c|none=>none)=fun i=>(xs[i]?).bind g:=by funext i;cases xs[i]?<;>rfl
    rw[e];exact zdi xs g
   exact key _
  rw[h2,this];unfold za3;cases xs.find? fun c=>decide (c.Key=k)<;>rfl
 ·unfold XR;simp only[zO hi,Option.bind_some,qi i _ hi (by omega),List.getElem?_eq_getElem hi];rw[if_pos (by omega)];by_cases e:xs[i].Key=k<;>simp[e]
 ·unfold XR;rw[if_neg (by omega)];rfl
theorem zi2{xs:List zr}{k:Int}(hs:asc xs){p:Nat}(hp:p≤xs.length)(hiff:∀i (hi:i < xs.length),i < p↔xs[i].Key < k):
  za3 xs k=match xs[p]? with|some c=>if c.Key=k then c.Value else -1|none=>-1:=by
 unfold za3;by_cases e:∃h:p < xs.length,xs[p].Key=k
 ·obtain⟨h,e⟩:=e;have:xs.find? (fun c=>decide (c.Key=k))=some xs[p]:=by
   rw[List.find?_eq_some_iff_getElem];refine⟨by simp[e],p,h,rfl,fun j hj=> ?_⟩;have:=(hiff j (by omega)).1 hj;simp;omega
  rw[this,List.getElem?_eq_getElem h];simp[e]
 ·have:xs.find? (fun c=>decide (c.Key=k))=none:=by
   rw[List.find?_eq_none];intro x hx;obtain⟨i,hi,rfl⟩:=List.mem_iff_getElem.1 hx;simp only[decide_eq_true_eq];intro hk;apply e;have h1:=hiff i hi;by_cases e1:p < xs.length
   ·refine⟨e1,?_⟩;have h2:=hiff p e1;by_cases e2:i=p
    ·subst e2;exact hk
    ·have:¬i < p:=by omega
     have h3:=hs p i e1 hi (by omega);omega
   ·omega
  rw[this];by_cases e1:p < xs.length
  ·rw[List.getElem?_eq_getElem e1];have:¬xs[p].Key=k:=fun h=>e ⟨e1,h⟩;simp[this]
  ·rw[List.getElem?_eq_none (by omega)]
theorem zl4(xs:List zr)(k:Int)(hg:qW xs=true)(h1:-9000000000000000000≤k)(h2:k≤9000000000000000000):YS xs k=some (za3 xs k):=by
 have hs:=zhU hg;have hl:=zew hg;obtain⟨p,hp,hiff,hb⟩:=zmD xs k hs (by omega) (fun i hi=>by have:=zhT hg hi;omega) h1 h2;unfold YS;rw[hb,zi2 hs hp hiff];simp only[Option.bind_some,decide_eq_true_eq];by_cases e:p < xs.length
 ·rw[List.getElem?_eq_getElem e];simp only[Option.map_some,Option.some.injEq,zO e,Option.bind_some];split<;>rfl
 ·rw[List.getElem?_eq_none (by omega)];simp
theorem zeB(xs:List zr)(h:xs.length≤1048576):yK xs=some xs:=by
 unfold yK yB;split<;>first|(simp;done)|(simp;omega)
theorem zeD(xs:List zu)(h:xs.length≤1048576):yd xs=some xs:=by
 unfold yd yx;split<;>first|(simp;done)|(simp;omega)
theorem zaS(xs:List Int)(h:xs.length≤1048576):jT xs=some xs:=by
 unfold jT yL;split<;>first|(simp;done)|(simp;omega)
theorem zdL(xs:List zm)(h:xs.length≤1048576):yy xs=some xs:=by
 unfold yy yi;split<;>first|(simp;done)|(simp;omega)
theorem zh4(xs:List zr)(h:xs.length≤1048576):y5 xs=some xs:=by
 unfold y5 yg;split<;>first|(simp;done)|(simp;omega)
def zdb(xs:List Int):Prop:=xs.Pairwise (· < ·)
theorem zdu:∀{xs ys:List Int},zdb xs→zdb ys→(∀z,z∈xs↔z∈ys)→xs=ys
 |[],[],_,_,_=>rfl
 |[],b::bs,_,_,h=>by have:=(h b).2 (by simp);cases this
 |a::az,[],_,_,h=>by have:=(h a).1 (by simp);cases this
 |a::az,b::bs,h1,h2,h=>by
  unfold zdb at h1 h2;rw[List.pairwise_cons] at h1 h2;have e:a=b:=by
   rcases List.mem_cons.1 ((h a).1 (by simp)) with e|e
   ·exact e
   ·rcases List.mem_cons.1 ((h b).2 (by simp)) with e'|e'
    ·exact e'.symm
    ·have:=h1.1 b e';have:=h2.1 a e;omega
  subst e;congr 1;refine zdu h1.2 h2.2 fun z=>⟨fun hz=> ?_,fun hz=> ?_⟩
  ·rcases List.mem_cons.1 ((h z).1 (by simp[hz])) with e|e
   ·subst e;have:=h1.1 z hz;omega
   ·exact e
  ·rcases List.mem_cons.1 ((h z).2 (by simp[hz])) with e|e
   ·subst e;have:=h2.1 z hz;omega
   ·exact e
def iL(x:Int):List Int→Bool→List Int
 |[],put=>if put then[] else[x]
 |c::cs,put=>(if (!put&&decide (x≤c))=true then[x] else[])++((if ¬c=x then[c] else[])++iL x cs (put||decide (x≤c)))
theorem zfa(x z:Int):∀(xs:List Int) (b:Bool),z∈iL x xs b↔(b=false∧z=x)∨(z∈xs∧¬z=x)
 |[],b=>by cases b<;>simp[iL]
 |c::cs,b=>by
  simp only[iL,List.mem_append,zfa x z cs,List.mem_cons];by_cases h1:x≤c<;>by_cases h2:c=x<;>cases b<;>simp[h1,h2]<;>by_cases h3:z=x<;>simp[h3]<;>omega
theorem zgU(x:Int):∀(xs:List Int) (b:Bool),zdb xs→zdb (iL x xs b)
 |[],b,_=>by cases b<;>simp[iL,zdb]
 |c::cs,b,h=>by
  unfold zdb at h;rw[List.pairwise_cons] at h;have ih:=zgU x cs (b||decide (x≤c)) h.2;unfold zdb at ih ⊢;simp only[iL];rw[List.pairwise_append,List.pairwise_append];refine⟨by split<;>simp,⟨by split<;>simp,ih,fun y hy z hz=> ?_⟩,fun y hy z hz=> ?_⟩
  ·split at hy
   ·simp only[List.mem_singleton] at hy;subst hy;rw[zfa] at hz;rcases hz with⟨hz,rfl⟩|⟨hz,_⟩
    ·simp at hz;omega
    ·exact h.1 z hz
   ·cases hy
  ·split at hy
   ·rename_i hb;simp only[Bool.and_eq_true,Bool.not_eq_true',decide_eq_true_eq] at hb;simp only[List.mem_singleton] at hy;subst hy;rw[List.mem_append] at hz;rcases hz with hz|hz
    ·split at hz
     ·simp only[List.mem_singleton] at hz;omega
     ·cases hz
    ·rw[zfa] at hz;rcases hz with⟨hz,rfl⟩|⟨hz,_⟩
     ·simp[hb.2] at hz
     ·have:=h.1 z hz;omega
   ·cases hy
theorem zkG(x:Int):∀(xs:List Int) (b:Bool),(iL x xs b).length≤xs.length+(if b then 0 else 1)
 |[],b=>by cases b<;>simp[iL]
 |c::cs,b=>by
  have ih:=zkG x cs (b||decide (x≤c));simp only[iL,List.length_append,List.length_cons];by_cases h1:x≤c<;>by_cases h2:c=x<;>cases b<;>simp[h1,h2] at ih ⊢<;>omega
def zha(x:Int):Nat→List Int→Bool
 |0,_=>false
 |n+1,xs=>zha x n xs||match xs[n]? with|some c=>decide (x≤c)|none=>false
theorem zpR(x:Int){xs:List Int}{i:Nat}(hi:i < xs.length)(b:Bool):iL x (xs.drop i) b=(if (!b&&decide (x≤xs[i]))=true then[x] else[])++((if ¬xs[i]=x then[xs[i]] else[])++iL x (xs.drop (i+1)) (b||decide (x≤xs[i]))):=by
 rw[List.drop_eq_getElem_cons hi];rfl
def iP(x:Int)(xs:List Int):Nat→List Int
 |0=>[]
 |i+1=>iP x xs i++(match xs[i]? with|some c=>(if (!(zha x i xs)&&decide (x≤c))=true then[x] else[])++(if ¬c=x then[c] else[])|none=>[])
theorem zkI(x:Int)(xs:List Int):∀i,(iP x xs i).length≤2 * i
 |0=>by simp[iP]
 |i+1=>by
  have ih:=zkI x xs i;simp only[iP,List.length_append];have:(match xs[i]? with|some c=>(if (!(zha x i xs)&&decide (x≤c))=true then[x] else[])++(if ¬c=x then[c] else[])|none=>[]).length≤2:=by
   cases xs[i]? with
   |none=>simp
   |some c=>simp only[List.length_append];split<;>split<;>simp
  omega
theorem zm4(x:Int)(xs:List Int):∀i,i≤xs.length→iL x xs false=iP x xs i++iL x (xs.drop i) (zha x i xs)
 |0,_=>by simp[iP,zha]
 |i+1,hi=>by
  have hlt:i < xs.length:=by omega
  rw[zm4 x xs i (by omega),zpR x hlt];simp only[iP,zha,List.getElem?_eq_getElem hlt,List.append_assoc]
theorem zjw(xs:List Int)(x:Int)(h:xs.length≤1048576):J6 xs x=some (iL x xs false):=by
 unfold J6;refine qJ (fun i=>(iP x xs i,zha x i xs,(i:Int))) _ xs.length (by omega) (fun kb i hi=> ?_) (fun kb=> ?_) (by simp[iP,zha])
 ·have hl:=zkI x xs i;unfold XN J0 Qe;simp only[zO hi,Option.bind_some,qi i _ hi (by omega),iP,zha,List.getElem?_eq_getElem hi];rw[if_pos (by omega)];generalize zha x i xs=b;generalize iP x xs i=acc at hl;cases b<;>by_cases h1:x≤xs[i]<;>by_cases h2:xs[i]=x<;>simp[h1,h2]<;>first|omega|(rw[if_pos (by omega),if_pos (by omega)])
 ·have hl:=zkI x xs xs.length;rw[zm4 x xs xs.length (Nat.le_refl _)];unfold XN XM;rw[if_neg (by simp)];simp only[List.drop_length];generalize zha x xs.length xs=b;generalize iP x xs xs.length=acc at hl;cases b<;>simp[iL]<;>omega
theorem zk2(xs:List Int)(k:Int)(hs:zdb xs)(hl:xs.length≤1048576):
  ∃p:Nat,p≤xs.length∧(∀i (hi:i < xs.length),i < p↔xs[i] < k)∧yb xs k=some ((p:Int),decide (xs[p]? =some k)):=by
 have hs:∀i j (hi:i < xs.length) (hj:j < xs.length),i < j→xs[i] < xs[j]:=fun i j hi hj hij=>List.pairwise_iff_getElem.1 hs i j hi hj hij;have hc:∀z,YI z k=some (decide (z < k)):=fun z=>by simp[YI,JU]
 have loop:∀(m lo hi:Nat),lo≤hi→hi≤xs.length→hi - lo < m→(∀i (h:i < xs.length),i < lo→xs[i] < k)→(∀i (h:i < xs.length),hi≤i→¬xs[i] < k)→
   ∃p:Nat,p≤xs.length∧(∀i (hi:i < xs.length),i < p↔xs[i] < k)∧
    iter (jP xs k<|qS xs k) m ((lo:Int),(hi:Int))=qS xs k (p:Int):=by
  intro m;induction m with
  |zero=>intro lo hi _ _ h;omega
  |succ m ih=>
   intro lo hi hle hhi hm hlow hhigh;unfold iter;unfold jP;by_cases e:lo=hi
   ·subst e;refine⟨lo,hhi,fun i h=>⟨hlow i h,fun hlt=> ?_⟩,?_⟩
    ·apply Classical.byContradiction;intro hn;exact hhigh i h (by omega) hlt
    ·rw[if_neg (by simp)]
   ·have hlt:lo < hi:=by omega
    rw[if_pos (by simp;omega)];simp only[mid hlt (show hi≤1048576 by omega)];have hmid:(lo+hi) / 2 < xs.length:=by omega
    rw[zO hmid];rw[Option.bind_some,hc,Option.bind_some];by_cases hv:xs[(lo+hi) / 2] < k
    ·rw[if_pos (decide_eq_true hv),qi ((lo+hi) / 2) (xs.length) hmid (by omega)];refine ih ((lo+hi) / 2+1) hi (by omega) hhi (by omega) (fun i h hi'=> ?_) hhigh;by_cases e2:i=(lo+hi) / 2
     ·subst e2;omega
     ·have:=hs i ((lo+hi) / 2) h hmid (by omega);omega
    ·rw[if_neg (by simpa using hv)];refine ih lo ((lo+hi) / 2) (by omega) (by omega) (by omega) hlow (fun i h hi'=> ?_);by_cases e2:i=(lo+hi) / 2
     ·subst e2;omega
     ·have:=hs ((lo+hi) / 2) i hmid h (by omega);omega
 obtain⟨p,hp,hiff,hit⟩:=loop FU 0 xs.length (by omega) (by omega) (by unfold FU;omega) (fun i h h0=>by omega) (fun i h h0=>by omega);refine⟨p,hp,hiff,?_⟩;unfold yb;have hit:iter (jP xs k<|qS xs k) FU (0,(xs.length:Int))=_:=hit;rw[hit];unfold qS;by_cases e:p < xs.length
 ·rw[if_pos (by omega),zO e];simp only[Option.bind_some,List.getElem?_eq_getElem e,Z4,not_true,decide_false,Bool.false_eq_true,if_false];by_cases h:xs[p]=k<;>simp[h]
 ·rw[if_neg (by omega),List.getElem?_eq_none (by omega)];simp
theorem zd1(xs:List Int)(x:Int)(hs:zdb xs)(hl:xs.length≤1048576):Zv xs x=some (iL x xs false):=by
 obtain⟨p,hp,hiff,hb⟩:=zk2 xs x hs hl;unfold Zv;simp only[hb,Option.bind_some,zaS _ hl];by_cases hf:xs[p]? =some x
 ·simp only[hf,decide_true,if_true];congr 1;refine zdu hs (zgU x xs false hs) fun z=> ?_;rw[zfa];obtain⟨hlt,e⟩:=List.getElem?_eq_some_iff.1 hf;have hx:x∈xs:=by rw[←e];exact List.getElem_mem hlt
  by_cases hz:z=x
  ·subst hz;simp[hx]
  ·simp[hz]
 ·simp only[hf,decide_false,Bool.false_eq_true,if_false];unfold xX;rw[if_pos ⟨by omega,by omega,rfl,by omega⟩];simp only[Int.toNat_natCast,Option.bind_some];congr 1;have hlow:∀c∈xs.take p,c < x:=fun c hc=>by
   obtain⟨i,hi,rfl⟩:=List.getElem_of_mem hc;rw[List.getElem_take];exact(hiff i (by simp at hi;omega)).1 (by simp at hi;omega)
  have hhigh:∀c∈xs.drop p,x < c:=fun c hc=>by
   obtain⟨i,hi,rfl⟩:=List.getElem_of_mem hc;rw[List.getElem_drop];have hlt:p+i < xs.length:=by simp at hi;omega
   have h1:=hiff (p+i) hlt;by_cases h0:i=0
   ·subst h0;have:¬xs[p+0]=x:=fun e=>hf (by rw[←e];simp);omega
   ·have h2:=List.pairwise_iff_getElem.1 hs p (p+i) (by omega) hlt (by omega);have h3:=hiff p (by omega);omega
  refine zdu ?_ (zgU x xs false hs) fun z=> ?_
  ·unfold zdb at hs ⊢;rw[List.pairwise_append];refine⟨hs.sublist<|List.take_sublist _ _,?_,fun a ha b hb=> ?_⟩
   ·rw[List.singleton_append,List.pairwise_cons];exact⟨hhigh,hs.sublist<|List.drop_sublist _ _⟩
   ·rw[List.singleton_append] at hb;rcases List.mem_cons.1 hb with rfl|hb
    ·exact hlow a ha
    ·have:=hlow a ha;have:=hhigh b hb;omega
  ·rw[zfa];have hm:z∈xs↔z∈xs.take p∨z∈xs.drop p:=by
    conv=>lhs;rw[←List.take_append_drop p xs]
    exact List.mem_append
   rw[hm];simp only[List.mem_append,List.mem_singleton];by_cases hz:z=x
   ·simp[hz]
   ·simp[hz]
def yV(ts:List Int):List Int:=ts.foldl (fun acc t=>iL t acc false) []
theorem zfP(ts:List Int)(t:Int):yV (ts++[t])=iL t (yV ts) false:=by simp[yV]
theorem Xs(ts:List Int):zdb (yV ts)∧(∀z,z∈yV ts↔z∈ts)∧(yV ts).length≤ts.length:=by
 have key:∀(n:Nat) (ts:List Int),ts.length=n→zdb (yV ts)∧(∀z,z∈yV ts↔z∈ts)∧(yV ts).length≤ts.length:=by
  intro n;induction n with
  |zero=>intro ts h;have:ts=[]:=List.eq_nil_of_length_eq_zero h;subst this;simp[yV,zdb]
  |succ n ih=>
   intro ts h;have hne:ts≠[]:=by intro e;subst e;cases h
   obtain⟨us,t,rfl⟩:∃us t,ts=us++[t]:=⟨ts.dropLast,ts.getLast hne,(List.dropLast_concat_getLast hne).symm⟩;obtain⟨h1,h2,h3⟩:=ih us (by simpa using h);rw[zfP];refine⟨zgU t _ false h1,fun z=> ?_,?_⟩
   ·rw[zfa,h2];by_cases hz:z=t<;>simp[hz]
   ·have:=zkG t (yV us) false;simp at this ⊢;omega
 exact key ts.length ts rfl
def X8(m:Int):Bool:=decide (m=1)||decide (m=2)
theorem ziH(m:Int):Ja m=some (X8 m):=by
 unfold Ja X8;by_cases h:m=1<;>simp[h]
theorem zgB(m:Int):QA m=some (X8 m):=by
 unfold QA X8;by_cases h:m=1<;>simp[h]
def Xm(a b:zm):Bool:=decide (a.Lo < b.Hi)&&decide (b.Lo < a.Hi)
theorem zlv(a b:zm):Jn a b=some (Xm a b):=by
 unfold Jn Xm;by_cases h:a.Lo < b.Hi<;>simp[h]
def jA(a b:zu):Bool:=decide (¬a.Tx=b.Tx)&&(decide (a.Mode=2)||decide (b.Mode=2))&&Xm ⟨a.Lo,a.Hi⟩ ⟨b.Lo,b.Hi⟩
theorem zez(a b:zu):xe a b=some (jA a b):=by
 unfold xe jo jA;simp only[zlv,Option.bind_some];by_cases h:a.Tx=b.Tx<;>by_cases h1:a.Mode=2<;>by_cases h2:b.Mode=2<;>simp[h,h1,h2]
theorem zn7(a b:Int):X2 a b=some (min a b):=by
 unfold X2;split<;>congr 1<;>omega
theorem zoG(a b:Int):X4 a b=some (max a b):=by
 unfold X4;split<;>congr 1<;>omega
theorem zfJ(a b:zm):ZV a b=some (if qk a&&qk b&&qk ⟨max a.Lo b.Lo,min a.Hi b.Hi⟩ then(⟨max a.Lo b.Lo,min a.Hi b.Hi⟩,true) else(⟨0,0⟩,false)):=by
 unfold ZV Zh;simp only[zn7,zoG,yI,Option.bind_some];cases qk a<;>cases qk b<;>cases qk ⟨max a.Lo b.Lo,min a.Hi b.Hi⟩<;>simp
theorem zlD{a b:zm}(ha:qk a=true)(hb:qk b=true):qk ⟨max a.Lo b.Lo,min a.Hi b.Hi⟩=Xm a b:=by
 unfold qk at *;unfold Xm;simp only[Bool.and_eq_true,decide_eq_true_eq] at ha hb;rw[Bool.eq_iff_iff];simp only[Bool.and_eq_true,decide_eq_true_eq];omega
theorem zhh(a b:zu)(ha:qk ⟨a.Lo,a.Hi⟩=true)(hb:qk ⟨b.Lo,b.Hi⟩=true):Qh a b=some (jA a b):=by
 unfold Qh jL jA;simp only[zfJ,Option.bind_some,ha,hb,Bool.true_and];have:=zlD ha hb;simp only at this;rw[this];cases Xm ⟨a.Lo,a.Hi⟩ ⟨b.Lo,b.Hi⟩<;>by_cases h:a.Tx=b.Tx<;>by_cases h1:a.Mode=2<;>simp[h,h1]
theorem zld(a b:zu):jA a b=jA b a:=by
 unfold jA Xm;rw[Bool.eq_iff_iff];simp only[Bool.and_eq_true,Bool.or_eq_true,decide_eq_true_eq];constructor<;>rintro⟨⟨h1,h2⟩,h3,h4⟩<;>exact⟨⟨fun e=>h1 e.symm,h2.symm⟩,h4,h3⟩
def Kg(a:zu):Bool:=qp a.Tx 1 60&&qk ⟨a.Lo,a.Hi⟩&&X8 a.Mode
def KN(xs:List zu)(i:Nat):Bool:=match xs[i]? with
 |none=>true
 |some a=>Kg a&&(xs.take i).all fun b=>!jA a b
def qt(xs:List zu):Bool:=decide (xs.length≤40)&&(List.range xs.length).all (KN xs)
def zle{α:Type}(f:α→Bool):Option α→Bool
 |some b=>f b
 |none=>true
theorem zm6{α:Type}(xs:List α)(f:α→Bool)(n:Nat)(h:n≤xs.length):(xs.take n).all f=(List.range n).all fun k=>zle f xs[k]?:=by
 rw[Bool.eq_iff_iff,List.all_eq_true,List.all_eq_true];constructor
 ·intro H k hk;have hk:=List.mem_range.1 hk;have:k < xs.length:=by omega
  rw[List.getElem?_eq_getElem this];show f _=true;exact H _ (by rw[List.mem_take_iff_getElem];exact⟨k,by omega,rfl⟩)
 ·intro H x hx;rw[List.mem_take_iff_getElem] at hx;obtain⟨k,hk,rfl⟩:=hx;have:=H k (List.mem_range.2 (by omega));rw[List.getElem?_eq_getElem (by omega)] at this;exact this
theorem zjD{xs:List zu}{i:Nat}(h:∀k,k < i→KN xs k=true){k:Nat}(hk:k < i)(hl:k < xs.length):qk ⟨xs[k].Lo,xs[k].Hi⟩=true:=by
 have:=h k hk;unfold KN Kg at this;rw[List.getElem?_eq_getElem hl] at this;simp only[Bool.and_eq_true] at this;exact this.1.1.2
theorem zcO(xs:List zu)(h:xs.length≤1048576):Jh xs=some (qt xs):=by
 unfold Jh qt;split
 ·have:¬xs.length≤40:=by omega
  simp[this]
 ·have:xs.length≤40:=by omega
  rw[zdX (s0:=(0:Int)) (fun i=>(i:Int)) (KN xs) (some false) (some true) xs.length (by omega) (fun kb i hi hp=> ?_) (fun kb _=> ?_) rfl]
  ·simp only[this,decide_true,Bool.true_and];split<;>simp_all
  ·unfold kA ZP KN Kg;simp only[zO hi,zeJ,ziH,yI,jL,Option.bind_some,List.getElem?_eq_getElem hi];rw[if_pos (by omega)];generalize hg:(List.take i xs).all (fun b=>!jA xs[i] b)=g;cases h1:qp xs[i].Tx 1 60<;>simp;cases h2:qk ⟨xs[i].Lo,xs[i].Hi⟩<;>simp;cases h3:X8 xs[i].Mode<;>simp;rw[j8 (s0:=(0:Int)) (fun k=>(k:Int)) (fun k=>zle (fun b=>!jA xs[i] b) xs[k]?) (some false) (kb ((i+1:Nat):Int)) i (by omega) (fun kb' k hk=> ?_) (fun kb'=> ?_) rfl]
   ·rw[←hg,zm6 xs _ i (by omega)];simp only[Int.natCast_add,Int.cast_ofNat_Int]
   ·unfold xH;have hkl:k < xs.length:=by omega
    simp only[zO hi,zO hkl,Option.bind_some,zhh _ _ h2<|zjD hp hk hkl,qi k _ hk (by omega),List.getElem?_eq_getElem hkl,zle];rw[if_pos (by omega)];cases jA xs[i] xs[k]<;>simp
   ·unfold xH Zq;rw[if_neg (by omega),qi i _ hi (by omega)]
  ·unfold kA;rw[if_neg (by omega)];rfl
theorem zdT(xs:List zu)(a:zu)(h:xs.length≤1048576):qD xs a=some (!xs.all fun b=>!jA a b):=by
 unfold qD jI;have hb:∀x,QX x a=some (jA a x):=fun x=>by simp[QX,zez]
 rw[zds (s0:=(0:Int)) (fun i=>(i:Int)) (fun i:Nat=>match xs[i]? with|some b=>if jA a b=true then some (some (i:Int)) else none|none=>none) (some (-1)) xs.length (by omega) (fun kb i hi=> ?_) (fun kb=> ?_) rfl]
 ·cases hf:(List.range xs.length).findSome? (fun i:Nat=>match xs[i]? with|some b=>if jA a b=true then some (some (i:Int)) else none|none=>none) with
  |none=>
   rw[List.findSome?_eq_none_iff] at hf;have:(xs.all fun b=>!jA a b)=true:=by
    rw[List.all_eq_true];intro x hx;obtain⟨k,hk,rfl⟩:=List.mem_iff_getElem.1 hx;have:=hf k (List.mem_range.2 hk);rw[List.getElem?_eq_getElem hk] at this;cases hc:jA a xs[k] with
    |false=>rfl
    |true=>simp[hc] at this
   simp[this]
  |some q=>
   obtain⟨x,hx,hq⟩:=List.exists_of_findSome?_eq_some hf;have hk:=List.mem_range.1 hx;rw[List.getElem?_eq_getElem hk] at hq;simp only at hq;split at hq
   ·rename_i hc;cases hq;have:(xs.all fun b=>!jA a b)=false:=by
     rw[List.all_eq_false];exact⟨xs[x],List.getElem_mem hk,by simp[hc]⟩
    simp[this]
   ·cases hq
 ·unfold jw;simp only[zO hi,Option.bind_some,hb,qi i _ hi (by omega),List.getElem?_eq_getElem hi];rw[if_pos (by omega)];cases jA a xs[i]<;>simp
 ·unfold jw;rw[if_neg (by omega)];rfl
theorem zaL(xs:List zu)(h:xs.length≤1048576):Z6 xs=some (qt xs):=by
 unfold Z6 qt;rw[j8 (s0:=(0:Int)) (fun i=>(i:Int)) (KN xs) (some false) (some<|decide (xs.length≤40)) xs.length (by omega) (fun kb i hi=> ?_) (fun kb=> ?_) rfl]
 ·split<;>simp_all
 ·unfold kB Zu KN Kg;have hc:cut xs 0 (i:Int)=some (xs.take i):=by
   unfold cut;rw[if_pos ⟨by omega,by omega,by omega⟩];simp
  simp only[zO hi,zjj,zgB,QW,jo,Option.bind_some,List.getElem?_eq_getElem hi,hc,zdT (xs.take i) xs[i] (by simp;omega),qi i _ hi (by omega)];rw[if_pos (by omega)];generalize hg:(List.take i xs).all (fun b=>!jA xs[i] b)=g;cases h1:qp xs[i].Tx 1 60<;>simp;cases h2:qk ⟨xs[i].Lo,xs[i].Hi⟩<;>simp;cases h3:X8 xs[i].Mode<;>simp;cases g<;>simp
 ·unfold kB kU;rw[if_neg (by omega)];have:((xs.length:Int)≤40)↔xs.length≤40:=by omega
  simp[this]
def YN(tx:Int)(a:zm)(mode:Int)(l:zu):Bool:=decide (l.Tx=tx)&&(decide (l.Mode=mode)||decide (l.Mode=2))&&decide (l.Lo≤a.Lo)&&decide (a.Hi≤l.Hi)
theorem Qr{xs:List zu}(h:qt xs=true):xs.length≤40:=by
 unfold qt at h;simp at h;exact h.1
theorem zem{xs:List zu}(h:qt xs=true){i:Nat}(hi:i < xs.length):Kg xs[i]=true:=by
 unfold qt at h;simp only[Bool.and_eq_true,List.all_eq_true] at h;have:=h.2 i (List.mem_range.2 hi);unfold KN at this;rw[List.getElem?_eq_getElem hi] at this;simp only[Bool.and_eq_true] at this;exact this.1
theorem zhJ(a b:zm):YG a b=some (qk a&&qk b&&decide (b.Lo≤a.Lo)&&decide (a.Hi≤b.Hi)):=by
 unfold YG;simp only[yI,Option.bind_some];cases qk a<;>cases qk b<;>by_cases h:b.Lo≤a.Lo<;>simp[h]
theorem zeg(xs:List zu)(tx:Int)(a:zm)(mode:Int)(hg:qt xs=true)(ha:qk a=true)(hm:X8 mode=true):Zn xs tx a mode=some (xs.any<|YN tx a mode):=by
 have hl:=Qr hg;unfold Zn;rw[zen xs (YN tx a mode) (some true) (some false) (by omega) (fun kb i hi=> ?_) (fun kb=> ?_)]
 ·split<;>simp_all
 ·have hgi:=zem hg hi;unfold Kg X8 at hgi;unfold X8 at hm;unfold xq Zi YN;simp only[Bool.and_eq_true,Bool.or_eq_true,decide_eq_true_eq] at hgi hm;simp only[zO hi,jL,zhJ,Option.bind_some,qi i _ hi (by omega),ha,hgi.1.2,Bool.true_and];rw[if_pos (by omega)];by_cases h1:xs[i].Tx=tx<;>by_cases h2:xs[i].Lo≤a.Lo<;>by_cases h3:a.Hi≤xs[i].Hi<;>simp[h1,h2,h3];have:(mode≤xs[i].Mode)↔(xs[i].Mode=mode∨xs[i].Mode=2):=by omega
  simp[this]
 ·unfold xq;rw[if_neg (by omega)];rfl
theorem zh6(l:zu)(tx mode:Int)(a:zm):Z7 l tx mode a=some (YN tx a mode l):=by
 unfold Z7 YN;by_cases h1:l.Tx=tx<;>by_cases h2:l.Lo≤a.Lo<;>by_cases h3:l.Mode=mode<;>by_cases h4:l.Mode=2<;>simp[h1,h2,h3,h4]
theorem zcY(xs:List zu)(tx mode:Int)(a:zm)(h:xs.length≤1048576):qq xs tx mode a=some (xs.any<|YN tx a mode):=by
 unfold qq jj;rw[Ju xs (YN tx a mode) (by omega) (fun kb i hi=> ?_) (fun kb=> ?_)]
 ·simp[JI]
 ·unfold jh;simp only[zO hi,zh6,Option.bind_some,qi i _ hi (by omega)];rw[if_pos (by omega)]
 ·unfold jh;rw[if_neg (by omega)];rfl
def xp(xs:List zu)(tx:Int)(a:zm)(mode:Int):Bool:=qt xs&&qk a&&X8 mode&&xs.any (YN tx a mode)
theorem zbx(xs:List zu)(tx:Int)(a:zm)(mode:Int)(h:xs.length≤1048576):yQ xs tx a mode=some (xp xs tx a mode):=by
 unfold yQ xp;simp only[zaL _ h,QW,zgB,zcY _ _ _ _ h,Option.bind_some];cases h1:qt xs<;>cases h2:qk a<;>cases h3:X8 mode<;>simp
theorem ziy(xs:List zu)(a:Int)(b:Bool)(h:xs.length≤1048576):Q9 xs a b=some (xs.filter (fun l=>decide (l.Tx=a) == b)):=by
 unfold Q9;rw[zdj xs (fun l=>decide (l.Tx=a) == b) (fun ys=>some ys) h (fun kb ys i hi hy=> ?_) (fun kb ys=> ?_)]
 ·unfold kS;simp only[zO hi,Option.bind_some,qi i _ hi (by omega)];rw[if_pos (by omega)];by_cases c:(decide (xs[i].Tx=a) == b)=true
  ·rw[if_pos c,if_pos c,if_pos (by simp;omega)]
  ·rw[if_neg c,if_neg c]
 ·unfold kS Xa;rw[if_neg (by omega)]
theorem zbm(xs:List zu)(c0:(List Int))(p:zu→Bool)(hp:∀v,yE v c0=some (p v))(h:xs.length≤1048576):qU xs c0=some (zcX p xs):=by
 unfold qU;refine Ju xs p (by omega) (fun kb i hi=> ?_) (fun kb=> ?_)
 ·unfold jx;simp only[zO hi,Option.bind_some,hp,qi i _ hi (by omega)];rw[if_pos (by omega)]
 ·unfold jx;rw[if_neg (by omega)];rfl
theorem zcB(xs:List zu)(c0:(List Int))(p:zu→Bool)(hp:∀v,yE v c0=some (p v))(h:xs.length≤1048576):qN xs c0=some (xs.filter fun x=>!p x):=by
 unfold qN;simp only[zbm xs c0 p hp h,Option.bind_some];split
 ·rename_i e;rw[zkb e]
 ·rename_i e;obtain⟨k0,e1,hk,h0⟩:=ziJ e;rw[e1,qi k0 _ hk (by omega)];obtain⟨ys,g1,g2,g3,g4⟩:=zjG (f:=qC c0 qK) xs p (fun ys i=>some (ys.take i)) h k0 hk h0 (fun kb ys i j hj hij hl hx=>by
   unfold qC;have hi:i < ys.length:=by omega
   simp only[zft,hx,hp,Option.bind_some,qi j _ hj (by omega),qi i _ hi (by omega),Int.toNat_natCast,List.getElem?_eq_getElem hi];rw[if_pos (by omega)]) (fun kb ys i hi hl=>by
   unfold qC qK;simp only[Int.toNat_natCast];rw[if_neg (by omega),if_pos ⟨by omega,by omega,by omega⟩,if_pos (by omega),if_pos ⟨by omega,by omega,by omega⟩,zgt _ _ (by omega)])
  rw[g4,g3]
def Kj(p:zu→Bool)(xs:List zu):List Int:=(xs.filter p).map (·.Tx)
theorem zmh(p:zu→Bool){xs:List zu}{i:Nat}(hi:i < xs.length):Kj p (xs.take (i+1))=Kj p (xs.take i)++(if p xs[i]=true then[xs[i].Tx] else[]):=by
 unfold Kj;rw[List.take_succ_eq_append_getElem hi,List.filter_append,List.map_append];by_cases h:p xs[i]=true<;>simp[h]
theorem ziS(p:zu→Bool){xs:List zu}{i:Nat}(hi:i < xs.length):yV (Kj p<|xs.take (i+1))=if p xs[i]=true then iL xs[i].Tx (yV<|Kj p<|xs.take i) false else yV (Kj p<|xs.take i):=by
 rw[zmh p hi];by_cases h:p xs[i]=true
 ·simp only[h,if_true,zfP]
 ·simp[h]
theorem zeu(p:zu→Bool)(xs:List zu)(i:Nat):(yV<|Kj p<|xs.take i).length≤xs.length:=by
 have:=(Xs<|Kj p<|xs.take i).2.2;unfold Kj at this ⊢;rw[List.length_map] at this;have h2:=List.length_filter_le p (xs.take i);simp at h2;omega
def zad(tx:Int)(held:List Int)(t:Int):Bool:=decide (t < tx)||held.contains t
theorem KQ(xs:List Int)(x:Int)(h:xs.length≤1048576):j3 xs x=some (xs.contains x):=by
 unfold j3;rw[zen xs (fun c=>decide (c=x)) (some true) (some false) (by omega) (fun kb i hi=> ?_) (fun kb=> ?_)]
 ·have e:xs.any (fun c=>decide (c=x))=xs.contains x:=by
   rw[Bool.eq_iff_iff,List.any_eq_true,List.contains_iff_mem];simp
  rw[e];cases xs.contains x<;>rfl
 ·unfold XQ;simp only[zO hi,Option.bind_some,qi i _ hi (by omega)];rw[if_pos (by omega)];by_cases e:xs[i]=x<;>simp[e]
 ·unfold XQ Xx;rw[if_neg (by omega)]
theorem Jd(xs:List Int)(x:Int)(h:xs.length≤1048576):qF xs x=some (xs.contains x):=by
 unfold qF JA;rw[Ju xs (fun c=>decide (x=c)) (by omega) (fun kb i hi=> ?_) (fun kb=> ?_)]
 ·simp only[Option.bind_some,JI];congr 1;rw[Bool.eq_iff_iff,List.any_eq_true,List.contains_iff_mem];simp
 ·unfold QI;simp only[zO hi,Option.bind_some,qi i _ hi (by omega)];rw[if_pos (by omega)];by_cases e:x=xs[i]<;>simp[e]
 ·unfold QI;rw[if_neg (by omega)];rfl
theorem zik{xs:List zu}(hg:qt xs=true){i:Nat}(hi:i < xs.length):qk ⟨xs[i].Lo,xs[i].Hi⟩=true:=by
 have:=zem hg hi;unfold Kg at this;simp only[Bool.and_eq_true] at this;exact this.1.2
theorem zid(xs:List zu)(l:zu)(hg:qt xs=true)(hl:qk ⟨l.Lo,l.Hi⟩=true):Q3 xs l=some (yV<|Kj (jA l) xs):=by
 have hle:=Qr hg;unfold Q3;refine qJ (fun i=>(yV<|Kj (jA l)<|xs.take i,(i:Int))) _ xs.length (by omega) (fun kb i hi=> ?_) (fun kb=> ?_) (by simp[yV,Kj])
 ·unfold Xd;have hlen:=zeu (jA l) xs i;simp only[zO hi,Option.bind_some,zhh _ _ (zik hg hi) hl,qi i _ hi (by omega),zld xs[i] l,zjw _ xs[i].Tx (show(yV<|Kj (jA l)<|xs.take i).length≤1048576 by omega),ziS _ hi];rw[if_pos (by omega)];split<;>rfl
 ·unfold Xd kV;rw[if_neg (by omega),List.take_length]
theorem zk5(xs:List zu)(held:List Int)(l:zu)(hle:xs.length≤1000)(hh:held.length≤1048576):Qi xs held l=some (yV<|Kj (jA l) xs,yV<|Kj (fun x=>jA l x&&zad l.Tx held x.Tx) xs):=by
 unfold Qi;refine qJ (fun i=>(yV<|Kj (jA l)<|xs.take i,yV<|Kj (fun x=>jA l x&&zad l.Tx held x.Tx)<|xs.take i,(i:Int))) _ xs.length (by omega) (fun kb i hi=> ?_) (fun kb=> ?_) (by simp[yV,Kj])
 ·unfold xS Qz;have h1:=zeu (jA l) xs i;have h2:=zeu (fun x=>jA l x&&zad l.Tx held x.Tx) xs i;have a1:=(Xs<|Kj (jA l)<|xs.take i).1;have a2:=(Xs<|Kj (fun x=>jA l x&&zad l.Tx held x.Tx)<|xs.take i).1;simp only[zO hi,Option.bind_some,zez,qi i _ hi (by omega),zd1 _ xs[i].Tx a1 (by omega),zd1 _ xs[i].Tx a2 (by omega),Jd _ _ hh,ziS _ hi];rw[if_pos (by omega)];cases hc:jA l xs[i] with
  |false=>simp
  |true=>
   simp only[if_true,Bool.true_and];unfold zad;by_cases hx:xs[i].Tx < l.Tx
   ·simp[hx]
   ·simp only[hx,if_false,decide_false,Bool.false_or];cases held.contains xs[i].Tx<;>simp
 ·unfold xS xl;rw[if_neg (Int.lt_irrefl _),List.take_length]
theorem zmS(xs:List zu)(held:List Int)(l:zu):yV (Kj (fun x=>jA l x&&zad l.Tx held x.Tx) xs)=(yV<|Kj (jA l) xs).filter (zad l.Tx held):=by
 obtain⟨a1,m1,_⟩:=Xs (Kj (fun x=>jA l x&&zad l.Tx held x.Tx) xs);obtain⟨a2,m2,_⟩:=Xs (Kj (jA l) xs);refine zdu a1 (List.Pairwise.sublist List.filter_sublist a2) fun z=> ?_;rw[m1,List.mem_filter,m2];unfold Kj;simp only[List.mem_map,List.mem_filter,Bool.and_eq_true];constructor
 ·rintro⟨x,⟨hx,hc,hw⟩,rfl⟩;exact⟨⟨x,⟨hx,hc⟩,rfl⟩,hw⟩
 ·rintro⟨⟨x,⟨hx,hc⟩,rfl⟩,hw⟩;exact⟨x,⟨hx,hc,hw⟩,rfl⟩
def ks(xs:List zu)(held:List Int)(tx:Int)(a:zm)(mode:Int):Bool:=qt xs&&decide ((held.length:Int)≤60)&&qp tx 1 60&&qk a&&X8 mode
theorem zgC(xs:List zu)(held:List Int)(tx:Int)(a:zm)(mode:Int)(h:xs.length≤1048576):Qg xs held tx a mode=some (ks xs held tx a mode):=by
 unfold Qg ks;simp only[zcO _ h,zeJ,yI,ziH,Option.bind_some];cases qt xs<;>by_cases h1:(held.length:Int)≤60<;>cases qp tx 1 60<;>cases qk a<;>simp[h1]
def Qb(xs:List zu)(tx:Int)(a:zm)(mode:Int):List Int:=yV (Kj (jA ⟨tx,a.Lo,a.Hi,mode⟩) xs)
theorem zbY(xs:List zu)(tx:Int)(a:zm)(mode:Int):(Qb xs tx a mode).length≤xs.length:=by
 have:=zeu (jA ⟨tx,a.Lo,a.Hi,mode⟩) xs xs.length;rw[List.take_length] at this;exact this
def zgk(xs:List zu)(held:List Int)(tx:Int)(a:zm)(mode:Int):List Int:=if ks xs held tx a mode&&!xs.any (YN tx a mode) then(Qb xs tx a mode).filter (zad tx held) else[]
theorem zev(xs:List zu)(held:List Int)(tx:Int)(a:zm)(mode:Int)(h:xs.length≤1048576)(h2:held.length≤1048576):Qv xs held tx a mode=some (zgk xs held tx a mode):=by
 unfold Qv Z0 zgk;simp only[zgC _ _ _ _ _ h,Option.bind_some];cases hk:ks xs held tx a mode
 ·simp
 ·have hk':=hk;unfold ks at hk';simp only[Bool.and_eq_true,decide_eq_true_eq] at hk';obtain⟨⟨⟨⟨hg,_⟩,_⟩,hr⟩,hm⟩:=hk';simp only[if_true,zeg xs tx a mode hg hr hm,Option.bind_some,Bool.true_and];cases xs.any (YN tx a mode)
  ·simp only[Bool.false_eq_true,if_false,Bool.not_false,if_true,zid xs ⟨tx,a.Lo,a.Hi,mode⟩ hg hr,Option.bind_some];have hfl:=zbY xs tx a mode;have hle:=Qr hg;show iter (ZE (Qb xs tx a mode) tx held ZF) FU ([],0)=_;generalize Qb xs tx a mode=fs at hfl;rw[zdj fs (zad tx held) (fun ys=>some ys) (by omega) (fun kb ys i hi hy=> ?_) (fun kb ys=> ?_)]
   ·unfold ZE ZB;simp only[zO hi,Option.bind_some,qi i _ hi (by omega),KQ _ _ h2];rw[if_pos (by omega)];unfold zad;by_cases hx:fs[i] < tx
    ·simp[hx];omega
    ·simp only[hx,if_false,decide_false,Bool.false_or];cases held.contains fs[i]
     ·simp
     ·simp;omega
   ·unfold ZE ZF;rw[if_neg (by omega)]
  ·simp
theorem zjY(v:zu)(foes:List Int)(h:foes.length≤1048576):yE v foes=some (foes.contains v.Tx):=by
 unfold yE;simp only[Jd _ _ h,Option.bind_some]
def zcn(xs:List zu)(held:List Int)(tx:Int)(a:zm)(mode:Int):List zu×List Int×Int:=
 if ks xs held tx a mode=true then
  if xs.any (YN tx a mode)=true then(xs,[],0) else
  if 0 < ((Qb xs tx a mode).filter<|zad tx held).length then(xs,[],2) else
  if (xs.filter fun l=>!(Qb xs tx a mode).contains l.Tx).length=40 then(xs,[],3) else
  ((xs.filter fun l=>!(Qb xs tx a mode).contains l.Tx)++[zu.mk tx a.Lo a.Hi mode],Qb xs tx a mode,0)
 else([],[],1)
theorem zhO(xs:List zu)(held:List Int)(tx:Int)(a:zm)(mode:Int)(h:xs.length≤1048576)(h2:held.length≤1048576):Je xs held tx a mode=some (zcn xs held tx a mode):=by
 have J:∀b:Bool,(b=true→ks xs held tx a mode=false)→(b=false→ks xs held tx a mode=true)→yq xs tx a mode held b=some (zcn xs held tx a mode):=by
  intro b hb1 hb2;unfold yq zcn;cases b with
  |true=>rw[if_pos rfl,hb1 rfl];rfl
  |false=>
   have hk:=hb2 rfl;have hk':=hk;unfold ks at hk';simp only[Bool.and_eq_true,decide_eq_true_eq] at hk';obtain⟨⟨⟨⟨hg,_⟩,_⟩,hr⟩,hm⟩:=hk';have hle:=Qr hg;have hfl:=zbY xs tx a mode;have hd:=zcB xs (Qb xs tx a mode) (fun l=>(Qb xs tx a mode).contains l.Tx) (fun v=>zjY v _ (by omega)) h;have hf:=List.length_filter_le (fun l:zu=>!(Qb xs tx a mode).contains l.Tx) xs;have hc:Qi xs held (zu.mk tx a.Lo a.Hi mode)=some (Qb xs tx a mode,(Qb xs tx a mode).filter<|zad tx held):=by
    rw[zk5 xs held _ (by omega) h2,zmS];rfl
   have hh:yQ xs tx a mode=some (xs.any<|YN tx a mode):=by
    rw[zbx _ _ _ _ h];unfold xp;rw[hg,hr,hm];rfl
   rw[if_neg (by simp),hk,if_pos rfl];simp only[zeD _ h,hh,Option.bind_some,hc,hd];by_cases c1:xs.any (YN tx a mode)=true
   ·rw[if_pos c1,if_pos c1]
   ·rw[if_neg c1,if_neg c1];by_cases c2:0 < ((Qb xs tx a mode).filter<|zad tx held).length
    ·rw[if_pos c2,if_pos (by omega)]
    ·rw[if_neg c2,if_neg (by omega)];by_cases c3:(xs.filter fun l=>!(Qb xs tx a mode).contains l.Tx).length=40
     ·rw[if_pos c3,if_pos (by omega)]
     ·rw[if_neg c3,if_neg (by omega),if_pos (by rw[List.length_append,List.length_singleton];omega)]
 unfold Je;simp only[zaL _ h,Option.bind_some,zjj,QW,zgB];cases c1:qt xs
 ·simp only[Bool.false_eq_true,if_false];exact J true (fun _=>by unfold ks;rw[c1];rfl) (fun h=>by cases h)
 ·simp only[if_true];by_cases c2:60 < (held.length:Int)
  ·rw[if_pos c2];exact J true (fun _=>by unfold ks;rw[c1,decide_eq_false (by omega)];rfl) (fun h=>by cases h)
  ·rw[if_neg c2];cases c3:qp tx 1 60
   ·simp only[Bool.false_eq_true,if_false];exact J true (fun _=>by unfold ks;rw[c3];simp) (fun h=>by cases h)
   ·simp only[if_true];cases c4:qk a
    ·simp only[Bool.false_eq_true,if_false];exact J true (fun _=>by unfold ks;rw[c4];simp) (fun h=>by cases h)
    ·simp only[if_true];refine J _ (fun h=> ?_) (fun h=> ?_)
     ·unfold ks;simp at h;rw[h];simp
     ·unfold ks;simp at h;rw[h,c1,c3,c4,decide_eq_true (by omega)];rfl
theorem zlW(xs:List zr)(h:xs.length≤maxLen)(z:Int)(h1:0≤z)(h2:z≤1048576):Yx xs z=some (if z < xs.length then -1 else z - xs.length):=by
 unfold Yx;have:IntKind.wrap .i64 (z - (xs.length:Int))=z - xs.length:=by unfold maxLen at h;exact w64 (by omega) (by omega)
 rw[this];split<;>split<;>first|rfl|omega
theorem zmr(xs:List zr)(h:xs.length≤1048576):Yy xs=some xs:=by
 unfold Yy;rw[if_pos ⟨by omega,by omega⟩];simp only[Int.toNat_natCast];refine zar xs _ kY (by omega) (fun kb ys i hi hy=> ?_) (fun kb ys=> ?_)
 ·unfold kL;simp only[zO hi,zO (show i < ys.length by omega),KE,Option.bind_some,Int.toNat_natCast,qi i _ hi (by omega)];rw[if_pos (by omega)]
 ·unfold kL;rw[if_neg (by omega)]
theorem zm0(a b:zr):kd a b=some (decide (a=b)):=by
 unfold kd;cases a;cases b;simp only[zr.mk.injEq]
 repeat' split
 all_goals simp_all
theorem zib(xs ys:List zr)(h:xs.length≤1048576):y4 xs ys=some (decide (xs=ys)):=by
 unfold y4;split
 ·rename_i hl;have:¬xs=ys:=fun e=>hl (by rw[e]);simp[this]
 ·rename_i hl;have hl:xs.length=ys.length:=by omega
  rw[j8 (s0:=(0:Int)) (fun i=>(i:Int)) (fun i=>decide (xs[i]? =ys[i]?)) (some false) (some true) xs.length (by omega) (fun kb i hi=> ?_) (fun kb=> ?_) rfl,xm hl]
  ·by_cases e:xs=ys<;>simp[e]
  ·unfold kJ;simp only[zO hi,zO (show i < ys.length by omega),zm0,Option.bind_some,qi i _ hi (by omega)];rw[if_pos (by omega),List.getElem?_eq_getElem hi,List.getElem?_eq_getElem (show i < ys.length by omega)];simp
  ·unfold kJ;rw[if_neg (by omega)];rfl
theorem zkW(xs:List zr)(h:xs.length≤maxLen)(z:Int)(h1:0≤z)(h2:z≤1048576):JX xs z=some (if z < xs.length then -1 else z - xs.length):=by
 unfold JX;have:IntKind.wrap .i64 (z - (xs.length:Int))=z - xs.length:=by unfold maxLen at h;exact w64 (by omega) (by omega)
 rw[this];split<;>split<;>first|rfl|omega
theorem zkE(xs:List zr)(h:xs.length≤1048576):JQ xs=some xs:=by
 unfold JQ;rw[if_pos ⟨by omega,by omega⟩];simp only[Int.toNat_natCast];refine zar xs _ xc (by omega) (fun kb ys i hi hy=> ?_) (fun kb ys=> ?_)
 ·unfold xk;simp only[zO hi,zO (show i < ys.length by omega),XE,Option.bind_some,Int.toNat_natCast,qi i _ hi (by omega)];rw[if_pos (by omega)]
 ·unfold xk;rw[if_neg (by omega)]
theorem zmw(a b:zr):Y1 a b=some (decide (a=b)):=by
 unfold Y1;cases a;cases b;simp only[zr.mk.injEq]
 repeat' split
 all_goals simp_all
theorem zk3(xs ys:List zr)(h:xs.length≤1048576):JS xs ys=some (decide (xs=ys)):=by
 unfold JS;split
 ·rename_i hl;have:¬xs=ys:=fun e=>hl (by rw[e]);simp[this]
 ·rename_i hl;have hl:xs.length=ys.length:=by omega
  rw[j8 (s0:=(0:Int)) (fun i=>(i:Int)) (fun i=>decide (xs[i]? =ys[i]?)) (some false) (some true) xs.length (by omega) (fun kb i hi=> ?_) (fun kb=> ?_) rfl,xm hl]
  ·by_cases e:xs=ys<;>simp[e]
  ·unfold xD;simp only[zO hi,zO (show i < ys.length by omega),zmw,Option.bind_some,qi i _ hi (by omega)];rw[if_pos (by omega),List.getElem?_eq_getElem hi,List.getElem?_eq_getElem (show i < ys.length by omega)];simp
  ·unfold xD;rw[if_neg (by omega)];rfl
theorem zkA(z:Int):JZ z=some (qp z (-1) 1000000000):=by simp[JZ,zdP]
def zas(xs:List zr)(i:Nat):Bool:=match xs[i]? with
 |none=>true
 |some c=>qp c.Key 0 999&&qp c.Value (-1) 1000000000&&(i == 0||match xs[i - 1]? with|some p=>decide (p.Key < c.Key)|none=>true)
def jW(xs:List zr):Bool:=decide (xs.length≤60)&&(List.range xs.length).all (zas xs)
theorem zcz(xs:List zr)(h:xs.length≤1048576):Zo xs=some (jW xs):=by
 unfold Zo jW;split
 ·rename_i h1;have:¬xs.length≤60:=by omega
  simp[this]
 ·rename_i h1;have:xs.length≤60:=by omega
  rw[j8 (s0:=(0:Int)) (fun i=>(i:Int)) (zas xs) (some false) (some true) xs.length (by omega) (fun kb i hi=> ?_) (fun kb=> ?_) rfl]
  ·simp only[this,decide_true,Bool.true_and];split<;>simp_all
  ·unfold xE yR zas;simp only[zO hi,zjz,zfy,Option.bind_some,qi i _ hi (by omega),List.getElem?_eq_getElem hi];rw[if_pos (by omega)];cases qp xs[i].Key 0 999<;>simp;cases qp xs[i].Value (-1) 1000000000<;>simp;by_cases h0:0 < i
   ·have h2:IntKind.wrap .i64 ((i:Int) - 1)=((i - 1:Nat):Int):=by rw[w64 (by omega) (by omega)];omega
    have h3:i - 1 < xs.length:=by omega
    have h4:¬i=0:=by omega
    simp only[h0,if_true,h2,zO h3,Option.bind_some,List.getElem?_eq_getElem h3,h4,false_or];by_cases h5:xs[i].Key≤xs[i - 1].Key
    ·have:¬xs[i - 1].Key < xs[i].Key:=by omega
     simp[h5,this]
    ·have:xs[i - 1].Key < xs[i].Key:=by omega
     simp[h5,this]
   ·have h4:i=0:=by omega
    simp[h4]
  ·unfold xE;rw[if_neg (by omega)];rfl
theorem zcl(xs:List zr)(h:xs.length≤1048576):Qd xs=some (jW xs):=by
 unfold Qd jW;rw[j8 (s0:=(0:Int)) (fun i=>(i:Int)) (zas xs) (some false) (some<|decide (xs.length≤60)) xs.length (by omega) (fun kb i hi=> ?_) (fun kb=> ?_) rfl]
 ·split<;>simp_all
 ·unfold xO yT zas;simp only[zO hi,zlM,zkA,Option.bind_some,qi i _ hi (by omega),List.getElem?_eq_getElem hi];rw[if_pos (by omega)];cases qp xs[i].Key 0 999<;>simp;cases qp xs[i].Value (-1) 1000000000<;>simp;by_cases h0:0 < i
  ·have h2:IntKind.wrap .i64 ((i:Int) - 1)=((i - 1:Nat):Int):=by rw[w64 (by omega) (by omega)];omega
   have h3:i - 1 < xs.length:=by omega
   have h4:¬i=0:=by omega
   simp only[h0,if_true,h2,zO h3,Option.bind_some,List.getElem?_eq_getElem h3,h4,false_or];by_cases h5:xs[i].Key≤xs[i - 1].Key
   ·have:¬xs[i - 1].Key < xs[i].Key:=by omega
    simp[h5,this]
   ·have:xs[i - 1].Key < xs[i].Key:=by omega
    simp[h5,this]
  ·have h4:i=0:=by omega
   simp[h4]
 ·unfold xO xb;rw[if_neg (by omega)];have:((xs.length:Int)≤60)↔xs.length≤60:=by omega
  simp[this]
theorem zbf{xs:List zr}(h:jW xs=true){i:Nat}(hi:i < xs.length):-1≤xs[i].Value∧0≤xs[i].Key∧xs[i].Key≤999:=by
 unfold jW at h;simp only[Bool.and_eq_true,List.all_eq_true] at h;have:=h.2 i (List.mem_range.2 hi);unfold zas qp at this;rw[List.getElem?_eq_getElem hi] at this;simp only[Bool.and_eq_true,decide_eq_true_eq] at this;exact⟨this.1.2.1,this.1.1.1,this.1.1.2⟩
theorem zh7{xs:List zr}(h:jW xs=true):xs.length≤60:=by
 unfold jW at h;simp at h;exact h.1
def zeR(xs:List zr)(w:zr):Bool:=decide (0≤w.Value)&&decide (za3 xs w.Key < 0)
def XW(xs ws:List zr):Int:=if qW xs&&jW ws then((ws.filter<|zeR xs).length:Int) else -1
theorem ziN{α:Type}{ws:List α}{p:α→Bool}{i:Nat}(hi:i < ws.length):((ws.take (i+1)).filter p).length=((ws.take i).filter p).length+if p ws[i]=true then 1 else 0:=by
 rw[List.take_succ_eq_append_getElem hi,List.filter_append,List.length_append];congr 1;by_cases h:p ws[i]=true<;>simp[h]
theorem zf2(xs ws:List zr)(h:xs.length≤1048576)(h':ws.length≤1048576):JY xs ws=some (XW xs ws):=by
 unfold JY XW Jc;simp only[YW _ h,zcz _ h',Option.bind_some];cases hg:qW xs<;>simp;cases hw:jW ws<;>simp;rw[qJ (s0:=((0:Int),(0:Int))) (fun i=>((((ws.take i).filter<|zeR xs).length:Int),(i:Int))) (some ((ws.filter<|zeR xs).length:Int)) ws.length (by omega) (fun kb i hi=> ?_) (fun kb=> ?_) (by simp)]
 ·unfold xi Qs;have hle:((ws.take i).filter<|zeR xs).length≤ws.length:=Nat.le_trans (List.length_filter_le _ _) (by simp;omega);have e:=qi i _ hi (by omega);have e3:IntKind.wrap .i64 ((((ws.take i).filter<|zeR xs).length:Int)+1)=((((ws.take i).filter<|zeR xs).length+1:Nat):Int):=by rw[w64 (by omega) (by omega)];omega
  simp only[zO hi,Option.bind_some,zmY _ _ h,e,e3];rw[if_pos (by omega),ziN hi];unfold zeR;by_cases h0:0≤ws[i].Value<;>by_cases h1:za3 xs ws[i].Key < 0<;>simp[h0,h1]
 ·unfold xi xJ;rw[if_neg (by simp)];simp
theorem zf9(xs ws:List zr)(h:xs.length≤1048576)(h':ws.length≤1048576):JO xs ws=some (XW xs ws):=by
 unfold JO XW QR;simp only[zaH _ h,zcl _ h',Option.bind_some];cases hg:qW xs<;>simp;cases hw:jW ws<;>simp;rw[qJ (s0:=((0:Int),(0:Int))) (fun i=>((((ws.take i).filter<|zeR xs).length:Int),(i:Int))) (some ((ws.filter<|zeR xs).length:Int)) ws.length (by omega) (fun kb i hi=> ?_) (fun kb=> ?_) (by simp)]
 ·unfold xT Qq;have hle:((ws.take i).filter<|zeR xs).length≤ws.length:=Nat.le_trans (List.length_filter_le _ _) (by simp;omega);have e:=qi i _ hi (by omega);have e3:IntKind.wrap .i64 ((((ws.take i).filter<|zeR xs).length:Int)+1)=((((ws.take i).filter<|zeR xs).length+1:Nat):Int):=by rw[w64 (by omega) (by omega)];omega
  have hv:=zbf hw hi;simp only[zO hi,Option.bind_some,zl4 xs _ hg (show -9000000000000000000≤ws[i].Key by omega) (by omega),e,e3];rw[if_pos (by omega),ziN hi];unfold zeR;by_cases h0:0≤ws[i].Value
  ·have:¬ws[i].Value= -1:=by omega
   by_cases h1:za3 xs ws[i].Key < 0<;>simp[h0,h1,this]
  ·have:ws[i].Value= -1:=by omega
   simp[this]
 ·unfold xT xx;rw[if_neg (by simp)];simp
theorem zmu(xs:List zu)(h:xs.length≤maxLen)(z:Int)(h1:0≤z)(h2:z≤1048576):YJ xs z=some (if z < xs.length then -1 else z - xs.length):=by
 unfold YJ;have:IntKind.wrap .i64 (z - (xs.length:Int))=z - xs.length:=by unfold maxLen at h;exact w64 (by omega) (by omega)
 rw[this];split<;>split<;>first|rfl|omega
theorem zl3(xs:List zu)(h:xs.length≤1048576):YH xs=some xs:=by
 unfold YH;rw[if_pos ⟨by omega,by omega⟩];simp only[Int.toNat_natCast];refine zar xs _ kD (by omega) (fun kb ys i hi hy=> ?_) (fun kb ys=> ?_)
 ·unfold k9;simp only[zO hi,zO (show i < ys.length by omega),KH,Option.bind_some,Int.toNat_natCast,qi i _ hi (by omega)];rw[if_pos (by omega)]
 ·unfold k9;rw[if_neg (by omega)]
theorem znm(a b:zu):kl a b=some (decide (a=b)):=by
 unfold kl;cases a;cases b;simp only[zu.mk.injEq]
 repeat' split
 all_goals simp_all
theorem zmt(xs ys:List zu)(h:xs.length≤1048576):Yw xs ys=some (decide (xs=ys)):=by
 unfold Yw;split
 ·rename_i hl;have:¬xs=ys:=fun e=>hl (by rw[e]);simp[this]
 ·rename_i hl;have hl:xs.length=ys.length:=by omega
  rw[j8 (s0:=(0:Int)) (fun i=>(i:Int)) (fun i=>decide (xs[i]? =ys[i]?)) (some false) (some true) xs.length (by omega) (fun kb i hi=> ?_) (fun kb=> ?_) rfl,xm hl]
  ·by_cases e:xs=ys<;>simp[e]
  ·unfold kF;simp only[zO hi,zO (show i < ys.length by omega),znm,Option.bind_some,qi i _ hi (by omega)];rw[if_pos (by omega),List.getElem?_eq_getElem hi,List.getElem?_eq_getElem (show i < ys.length by omega)];simp
  ·unfold kF;rw[if_neg (by omega)];rfl
def ji(x:zP):Nat:=x.Writes.length
theorem zm2(x:zP)(h:KM x)(z:Int)(h1:0≤z)(h2:z≤1048576):ka x z=some (if z < (ji x:Int) then -1 else z - (ji x:Int)):=by
 unfold KM at h;obtain⟨o0,o1⟩:=h;unfold ka ji;rw[zkW x.Writes o1.1 _ (by omega) (by omega)];simp only[Option.bind_some];by_cases c0:z < (x.Writes.length:Int)
 ·rw[if_pos c0,if_pos (by omega)];try rw[if_pos (by omega)]
 rw[if_neg c0,if_neg (by omega)]
 try rw[if_neg (by omega)]
 try (congr 1;omega)
theorem znY(x:zP)(h:ji x≤1048576):kf x=some x:=by simp[kf,zkE _ (show x.Writes.length≤1048576 by unfold ji at h;omega)]
theorem znD(x y:zP)(h:ji x≤1048576):ke x y=some (decide (x=y)):=by
 unfold ke;simp only[zk3 _ _ (show x.Writes.length≤1048576 by unfold ji at h;omega),Option.bind_some];cases x;cases y;simp only[zP.mk.injEq]
 repeat' split
 all_goals simp_all
def z8(xs:(List zP)):Nat:=xs.length+yr (fun y:zP=>ji y) xs
theorem zl8(xs:(List zP))(h:(okS KM) xs)(z:Int)(h1:0≤z)(h2:z≤1048576):YR xs z=some (if z < (z8 xs:Int) then -1 else z - (z8 xs:Int)):=by
 unfold YR;have hm:=h.1;have hw:IntKind.wrap .i64 (z - (xs.length:Int))=z - xs.length:=by unfold maxLen at hm;exact w64 (by omega) (by omega)
 rw[hw];have hsz:(z8 xs:Int)=xs.length+(yr (fun y:zP=>ji y) xs:Nat):=by unfold z8;omega
 rw[hsz];by_cases c:z < xs.length
 ·rw[if_pos (by omega),if_pos (by omega)]
 rw[if_neg (by omega)];rw[zdX (fun i=>(z - (xs.length:Int) - (yr (fun y:zP=>ji y) (xs.take i):Nat),(i:Int))) (fun i=>decide ((yr (fun y:zP=>ji y) (xs.take (i+1)):Int)≤z - xs.length)) (some (-1)) (some (z - (xs.length:Int) - (yr (fun y:zP=>ji y) xs:Nat))) xs.length (by omega) (fun kb i hi hp=> ?_) (fun kb hp=> ?_) (by simp[yr])]
 ·by_cases c2:z < xs.length+(yr (fun y:zP=>ji y) xs:Nat)
  ·rw[if_pos c2,if_neg];rw[Bool.not_eq_true,List.all_eq_false];cases hn:xs.length with
   |zero=>
    have:xs=[]:=List.eq_nil_of_length_eq_zero hn;subst this;simp[yr] at c2 c;omega
   |succ n=>
    refine⟨n,by simp,?_⟩;have:xs.take (n+1)=xs:=by rw[←hn];simp
    rw[this,decide_eq_true_eq];omega
  ·rw[if_neg c2,if_pos]
   ·congr 1;omega
   ·rw[List.all_eq_true];intro i hi;have:=Kt (fun y:zP=>ji y) xs (i+1);simp only[decide_eq_true_eq];omega
 ·have h0:(yr (fun y:zP=>ji y) (xs.take i):Int)≤z - xs.length:=by
   cases i with
   |zero=>simp[yr];omega
   |succ j=>have:=hp j (by omega);simpa using this
  unfold kH;simp only[zO hi,Option.bind_some,qi i _ hi (by omega)];rw[if_pos (by omega),zm2 xs[i] (h.2 _<|List.getElem_mem hi) _ (by omega) (by omega),Ku (fun y:zP=>ji y) hi];simp only[Option.bind_some,Int.natCast_add];by_cases c3:z - (xs.length:Int) - (yr (fun y:zP=>ji y) (xs.take i):Nat) < (ji (xs[i]):Nat)
  ·rw[if_pos c3,if_pos (by omega),if_neg (by simp;omega)]
  ·rw[if_neg c3,if_neg (by omega),if_pos (by simp;omega)];congr 2;omega
 ·unfold kH kQ;rw[if_neg (by simp)];simp
theorem za8{xs:(List zP)}(h:z8 xs≤1048576):xs.length≤1048576∧∀i (hi:i < xs.length),ji (xs[i])≤1048576:=by
 unfold z8 at h;refine⟨by omega,fun i hi=> ?_⟩;have:=znN (fun y:zP=>ji y) hi;omega
theorem zmp(xs:(List zP))(h:z8 xs≤1048576):YF xs=some xs:=by
 obtain⟨hl,hs⟩:=za8 h;unfold YF;rw[if_pos ⟨by omega,by omega⟩];simp only[Int.toNat_natCast];refine zar xs _ kT (by omega) (fun kb ys i hi hy=> ?_) (fun kb ys=> ?_)
 ·unfold kW;simp only[zO hi,zO (show i < ys.length by omega),znY _<|hs i hi,Option.bind_some,Int.toNat_natCast,qi i _ hi (by omega)];rw[if_pos (by omega)]
 ·unfold kW;rw[if_neg (by omega)]
theorem zlN(xs ys:(List zP))(h:z8 xs≤1048576):YD xs ys=some (decide (xs=ys)):=by
 obtain⟨hl,hs⟩:=za8 h;unfold YD;split
 ·rename_i hl;have:¬xs=ys:=fun e=>hl (by rw[e]);simp[this]
 ·rename_i hl;have hl:xs.length=ys.length:=by omega
  rw[j8 (s0:=(0:Int)) (fun i=>(i:Int)) (fun i=>decide (xs[i]? =ys[i]?)) (some false) (some true) xs.length (by omega) (fun kb i hi=> ?_) (fun kb=> ?_) rfl,xm hl]
  ·by_cases e:xs=ys<;>simp[e]
  ·unfold kE;simp only[zO hi,zO (show i < ys.length by omega),znD _ _<|hs i hi,Option.bind_some,qi i _ hi (by omega)];rw[if_pos (by omega),List.getElem?_eq_getElem hi,List.getElem?_eq_getElem (show i < ys.length by omega)];simp
  ·unfold kE;rw[if_neg (by omega)];rfl
theorem zjy(xs:List Int)(h:xs.length≤maxLen)(z:Int)(h1:0≤z)(h2:z≤1048576):J1 xs z=some (if z < xs.length then -1 else z - xs.length):=by
 unfold J1;have:IntKind.wrap .i64 (z - (xs.length:Int))=z - xs.length:=by unfold maxLen at h;exact w64 (by omega) (by omega)
 rw[this];split<;>split<;>first|rfl|omega
theorem zj0(xs:List Int)(h:xs.length≤1048576):J8 xs=some xs:=by
 unfold J8;rw[if_pos ⟨by omega,by omega⟩];simp only[Int.toNat_natCast];refine zar xs _ X1 (by omega) (fun kb ys i hi hy=> ?_) (fun kb ys=> ?_)
 ·unfold XA;simp only[zO hi,zO (show i < ys.length by omega),Option.bind_some,Int.toNat_natCast,qi i _ hi (by omega)];rw[if_pos (by omega)]
 ·unfold XA;rw[if_neg (by omega)]
theorem zjW(xs ys:List Int)(h:xs.length≤1048576):J3 xs ys=some (decide (xs=ys)):=by
 unfold J3;split
 ·rename_i hl;have:¬xs=ys:=fun e=>hl (by rw[e]);simp[this]
 ·rename_i hl;have hl:xs.length=ys.length:=by omega
  rw[j8 (s0:=(0:Int)) (fun i=>(i:Int)) (fun i=>decide (xs[i]? =ys[i]?)) (some false) (some true) xs.length (by omega) (fun kb i hi=> ?_) (fun kb=> ?_) rfl,xm hl]
  ·by_cases e:xs=ys<;>simp[e]
  ·unfold XD;simp only[zO hi,zO (show i < ys.length by omega),Option.bind_some,qi i _ hi (by omega)];rw[if_pos (by omega),List.getElem?_eq_getElem hi,List.getElem?_eq_getElem (show i < ys.length by omega)];simp
  ·unfold XD;rw[if_neg (by omega)];rfl
def zw(x:zt):Nat:=x.Own.length+x.Frozen.length+x.Cells.length+x.Locks.length+z8 x.Helds+x.Wounded.length+x.Ended.length
theorem zmq(x:zt)(h:zbs x)(z:Int)(h1:0≤z)(h2:z≤1048576):YT x z=some (if z < (zw x:Int) then -1 else z - (zw x:Int)):=by
 unfold zbs at h;obtain⟨o0,o1,o2,o3,o4,o5,o6,o7,o8⟩:=h;unfold YT zw;rw[zgO x.Own o1.1 _ (by omega) (by omega)];simp only[Option.bind_some];by_cases c0:z < (x.Own.length:Int)
 ·rw[if_pos c0,if_pos (by omega)];try rw[if_pos (by omega)]
 rw[if_neg c0,if_neg (by omega)];rw[zgO x.Frozen o2.1 _ (by omega) (by omega)];simp only[Option.bind_some];by_cases c1:z - (x.Own.length:Int) < (x.Frozen.length:Int)
 ·rw[if_pos c1,if_pos (by omega)];try rw[if_pos (by omega)]
 rw[if_neg c1,if_neg (by omega)];rw[zlW x.Cells o3.1 _ (by omega) (by omega)];simp only[Option.bind_some];by_cases c2:z - (x.Own.length:Int) - (x.Frozen.length:Int) < (x.Cells.length:Int)
 ·rw[if_pos c2,if_pos (by omega)];try rw[if_pos (by omega)]
 rw[if_neg c2,if_neg (by omega)];rw[zmu x.Locks o4.1 _ (by omega) (by omega)];simp only[Option.bind_some];by_cases c3:z - (x.Own.length:Int) - (x.Frozen.length:Int) - (x.Cells.length:Int) < (x.Locks.length:Int)
 ·rw[if_pos c3,if_pos (by omega)];try rw[if_pos (by omega)]
 rw[if_neg c3,if_neg (by omega)];rw[zl8 x.Helds o5 _ (by omega) (by omega)];simp only[Option.bind_some];by_cases c4:z - (x.Own.length:Int) - (x.Frozen.length:Int) - (x.Cells.length:Int) - (x.Locks.length:Int) < (z8 x.Helds:Int)
 ·rw[if_pos c4,if_pos (by omega)];try rw[if_pos (by omega)]
 rw[if_neg c4,if_neg (by omega)];rw[zjy x.Wounded o6.1 _ (by omega) (by omega)];simp only[Option.bind_some];by_cases c5:z - (x.Own.length:Int) - (x.Frozen.length:Int) - (x.Cells.length:Int) - (x.Locks.length:Int) - (z8 x.Helds:Int) < (x.Wounded.length:Int)
 ·rw[if_pos c5,if_pos (by omega)];try rw[if_pos (by omega)]
 rw[if_neg c5,if_neg (by omega)];rw[zjy x.Ended o7.1 _ (by omega) (by omega)];simp only[Option.bind_some];by_cases c6:z - (x.Own.length:Int) - (x.Frozen.length:Int) - (x.Cells.length:Int) - (x.Locks.length:Int) - (z8 x.Helds:Int) - (x.Wounded.length:Int) < (x.Ended.length:Int)
 ·rw[if_pos c6,if_pos (by omega)];try rw[if_pos (by omega)]
 rw[if_neg c6,if_neg (by omega)]
 try rw[if_neg (by omega)]
 try (congr 1;omega)
theorem zmL(x:zt)(h:zw x≤1048576):Zf x=some x:=by simp[Zf,zgX _ (show x.Own.length≤1048576 by unfold zw at h;omega),zgX _ (show x.Frozen.length≤1048576 by unfold zw at h;omega),zmr _ (show x.Cells.length≤1048576 by unfold zw at h;omega),zl3 _ (show x.Locks.length≤1048576 by unfold zw at h;omega),zmp _ (show z8 x.Helds≤1048576 by unfold zw at h;omega),zj0 _ (show x.Wounded.length≤1048576 by unfold zw at h;omega),zj0 _ (show x.Ended.length≤1048576 by unfold zw at h;omega)]
theorem ziP(x y:zt)(h:zw x≤1048576):Za x y=some (decide (x=y)):=by
 unfold Za;simp only[zg5 _ _ (show x.Own.length≤1048576 by unfold zw at h;omega),zg5 _ _ (show x.Frozen.length≤1048576 by unfold zw at h;omega),zib _ _ (show x.Cells.length≤1048576 by unfold zw at h;omega),zmt _ _ (show x.Locks.length≤1048576 by unfold zw at h;omega),zlN _ _ (show z8 x.Helds≤1048576 by unfold zw at h;omega),zjW _ _ (show x.Wounded.length≤1048576 by unfold zw at h;omega),zjW _ _ (show x.Ended.length≤1048576 by unfold zw at h;omega),Option.bind_some];cases x;cases y;simp only[zt.mk.injEq]
 repeat' split
 all_goals simp_all
def zcC(k:Int):zm:=zm.mk k (IntKind.wrap .i64 (k+1))
theorem zjO(k:Int):ko k=some (zcC k):=rfl
theorem zp0(k:Int):zav k=some (zcC k):=rfl
theorem zi6{k:Int}(h:0≤k∧k≤999):qk (zcC k)=true:=by
 unfold zcC qk;rw[w64 (by omega) (by omega)];simp;omega
theorem zgn(xs:List zP)(h:xs.length≤1048576):yZ xs=some (xs.map (·.Tx)):=by
 unfold yZ;refine qJ (fun i=>((xs.take i).map (·.Tx),(i:Int))) _ xs.length (by omega) (fun kb i hi=> ?_) (fun kb=> ?_) (by simp)
 ·unfold KD;simp only[zO hi,Option.bind_some,qi i _ hi (by omega)];rw[if_pos (by omega),if_pos (by simp;omega),List.take_succ_eq_append_getElem hi,List.map_append];rfl
 ·unfold KD Kz;rw[if_neg (by simp)];simp
theorem ziW(xs:List (List Int))(h:xs.length≤1048576)(hs:yr List.length xs≤100000000):ZC xs=some xs.flatten:=by
 unfold ZC;have hst:=fun i=>Kt List.length xs i;refine qJ (fun i=>(((yr List.length (xs.take i):Nat):Int),(i:Int))) _ xs.length (by omega) (fun kb i hi=> ?_) (fun kb=> ?_) (by simp[yr])
 ·unfold Z9;have h1:=hst (i+1);have h2:=Ku List.length hi;have e:IntKind.wrap .i64 (((yr List.length (xs.take i):Nat):Int)+(xs[i].length:Int))=((yr List.length (xs.take (i+1)):Nat):Int):=by rw[w64 (by omega) (by omega),h2];omega
  simp only[zO hi,Option.bind_some,qi i _ hi (by omega),e];rw[if_pos (by omega),if_neg (by omega)]
 ·unfold Z9 Qt XI;rw[if_neg (by simp)];have h1:=hst xs.length;simp only;rw[if_pos (by omega)];simp only[Option.bind_some];refine qJ (fun i=>((xs.take i).flatten,(i:Int))) _ xs.length (by omega) (fun kb i hi=> ?_) (fun kb=> ?_) (by simp)
  ·unfold Qw;have h3:=hst (i+1);have hf:∀ys:List (List Int),ys.flatten.length=yr List.length ys:=fun ys=>by
    induction ys with
    |nil=>rfl
    |cons y ys ih=>simp only[List.flatten_cons,List.length_append,yr,ih]
   have h2:=Ku List.length hi;have e:(xs.take (i+1)).flatten=(xs.take i).flatten++xs[i]:=by rw[List.take_succ_eq_append_getElem hi,List.flatten_append];simp
   simp only[zO hi,Option.bind_some,qi i _ hi (by omega)];rw[if_pos (by omega),if_pos (by rw[←e,hf];omega),e]
  ·unfold Qw Qp;rw[if_neg (by simp)];simp
def XZ(xs:List zr)(hs:List zP):Int:=(hs.map fun h=>XW xs h.Writes).sum
theorem zj1(xs ws:List zr):-1≤XW xs ws∧XW xs ws≤ws.length:=by
 unfold XW;have:=List.length_filter_le (zeR xs) ws;split<;>omega
theorem zdq(xs:List zr):∀hs:List zP,-(hs.length:Int)≤XZ xs hs∧XZ xs hs≤(yr (fun h:zP=>h.Writes.length) hs:Nat)
 |[]=>by simp[XZ,yr]
 |h::hs=>by
  have:=zdq xs hs;have h2:=zj1 xs h.Writes;unfold XZ at this ⊢;simp only[List.map_cons,List.sum_cons,yr,List.length_cons];omega
theorem zaW(xs:List zr){hs:List zP}{i:Nat}(hi:i < hs.length):XZ xs (hs.take (i+1))=XZ xs (hs.take i)+XW xs hs[i].Writes:=by
 unfold XZ;rw[List.take_succ_eq_append_getElem hi,List.map_append,List.sum_append];simp
theorem ZN(hs:List zP):z8 hs=hs.length+yr (fun h:zP=>h.Writes.length) hs:=rfl
theorem zbD{hs:List zP}(h:z8 hs≤1048576){i:Nat}(hi:i < hs.length):hs[i].Writes.length≤1048576:=by
 rw[ZN] at h;have h1:=Ku (fun h:zP=>h.Writes.length) hi;have h2:=Kt (fun h:zP=>h.Writes.length) hs (i+1);omega
theorem zni(s:zt)(h:zw s≤1048576):kc s=some (XZ s.Cells s.Helds):=by
 have hc:s.Cells.length≤1048576:=by unfold zw at h;omega
 have hh:z8 s.Helds≤1048576:=by unfold zw at h;omega
 have hh2:=hh;rw[ZN] at hh2;unfold kc;refine qJ (fun i=>(XZ s.Cells<|s.Helds.take i,(i:Int))) _ s.Helds.length (by omega) (fun kb i hi=> ?_) (fun kb=> ?_) (by simp[XZ])
 ·unfold XV;have b1:=zdq s.Cells (s.Helds.take (i+1));have b2:=Kt (fun h:zP=>h.Writes.length) s.Helds (i+1);have b3:(s.Helds.take (i+1)).length≤s.Helds.length:=by simp;omega
  rw[zaW s.Cells hi] at b1;simp only[zO hi,zf2 _ _ hc<|zbD hh hi,Option.bind_some,qi i _ hi (by omega),zaW s.Cells hi];rw[if_pos (by omega),w64 (by omega) (by omega)]
 ·unfold XV X0;rw[if_neg (by simp)];simp
theorem zsP(s:zt)(h:zw s≤1048576):KJ s=some ((s.Cells.length:Int)+XZ s.Cells s.Helds):=by
 have hc:s.Cells.length≤1048576:=by unfold zw at h;omega
 have hh:z8 s.Helds≤1048576:=by unfold zw at h;omega
 have hh2:=hh;rw[ZN] at hh2;unfold KJ;refine qJ (fun i=>((s.Cells.length:Int)+XZ s.Cells (s.Helds.take i),(i:Int))) _ s.Helds.length (by omega) (fun kb i hi=> ?_) (fun kb=> ?_) (by simp[XZ])
 ·unfold zah;have b1:=zdq s.Cells (s.Helds.take (i+1));have b2:=Kt (fun h:zP=>h.Writes.length) s.Helds (i+1);have b3:(s.Helds.take (i+1)).length≤s.Helds.length:=by simp;omega
  rw[zaW s.Cells hi] at b1;simp only[zO hi,zf9 _ _ hc<|zbD hh hi,Option.bind_some,qi i _ hi (by omega),zaW s.Cells hi];rw[if_pos (by omega),w64 (by omega) (by omega),Int.add_assoc]
 ·unfold zah zao;rw[if_neg (by simp)];simp
def XU(s:zt)(h:zP):Bool:=h.Writes.all fun w=>s.Locks.any (YN h.Tx (zcC w.Key) 2)
theorem zkl(w:zr)(s:zt)(h:zP)(hs:s.Locks.length≤1048576):QM w s h=some (!xp s.Locks h.Tx (zcC w.Key) 2):=by
 unfold QM;simp only[zp0,zbx _ _ _ _ hs,Option.bind_some]
theorem zdR(ws:List zr)(s:zt)(h:zP)(hs:s.Locks.length≤1048576)(hw:ws.length≤1048576):qu ws s h=some (ws.any fun w=>!xp s.Locks h.Tx (zcC w.Key) 2):=by
 unfold qu jy;rw[Ju ws (fun w=>!xp s.Locks h.Tx (zcC w.Key) 2) (by omega) (fun kb i hi=> ?_) (fun kb=> ?_)]
 ·simp only[Option.bind_some,JI]
 ·unfold jk;simp only[zO hi,zkl _ _ _ hs,Option.bind_some,qi i _ hi (by omega)];rw[if_pos (by omega)]
 ·unfold jk;rw[if_neg (by omega)];rfl
theorem znR{s:zt}{h:zP}(hg:qt s.Locks=true)(hw:jW h.Writes=true):(h.Writes.any fun w=>!xp s.Locks h.Tx (zcC w.Key) 2)= !XU s h:=by
 have:∀w∈h.Writes,(!xp s.Locks h.Tx (zcC w.Key) 2)= !(s.Locks.any<|YN h.Tx (zcC w.Key) 2):=fun w hm=>by
  obtain⟨i,hi,rfl⟩:=List.mem_iff_getElem.1 hm;have hk:=(zbf hw hi).2;unfold xp;rw[hg,zi6 hk];rfl
 unfold XU;rw[List.not_all_eq_any_not];rw[Bool.eq_iff_iff,List.any_eq_true,List.any_eq_true];constructor<;>rintro⟨w,hm,e⟩<;>refine⟨w,hm,?_⟩
 ·rw[←this w hm];exact e
 ·rw[this w hm];exact e
def zdJ(s:zt)(h:zP):Bool:=jW h.Writes&&XU s h
theorem zms(s:zt)(h:zw s≤1048576)(hg:qt s.Locks=true):YO s=some (s.Helds.all (zdJ s)&&jQ (s.Helds.map (·.Tx))):=by
 have hl:s.Locks.length≤1048576:=by unfold zw at h;omega
 have hh:z8 s.Helds≤1048576:=by unfold zw at h;omega
 have hn:s.Helds.length≤1048576:=by rw[ZN] at hh;omega
 unfold YO;rw[X9 s.Helds (zdJ s) (some false) (some (jQ (s.Helds.map (·.Tx)))) (by omega) (fun kb i hi=> ?_) (fun kb=> ?_)]
 ·cases s.Helds.all (zdJ s)<;>simp
 ·unfold kK Q8 zdJ;have hw:=zbD hh hi;simp only[zO hi,zcl _ hw,zdR _ _ _ hl hw,Option.bind_some,qi i _ hi (by omega)];rw[if_pos (by omega)];cases hwg:jW s.Helds[i].Writes
  ·simp
  ·rw[znR hg hwg];cases XU s s.Helds[i]<;>simp
 ·unfold kK kX;rw[if_neg (by omega)];simp only[zgn _ hn,zcZ _ (show(s.Helds.map (·.Tx)).length≤1048576 by simpa using hn),Option.bind_some]
def YZ(s:zt)(i:Nat):Bool:=match s.Helds[i]? with
 |none=>true
 |some h=>qp h.Tx 1 60&&(i == 0||match s.Helds[i - 1]? with|some p=>decide (p.Tx < h.Tx)|none=>true)&&jW h.Writes&&XU s h&&!s.Wounded.contains h.Tx&&!s.Ended.contains h.Tx
theorem zlT(s:zt)(hd:zP)(kx:Unit→Option Bool)(h:zw s≤1048576)(hw:hd.Writes.length≤1048576)(hg:qt s.Locks=true)(hwg:jW hd.Writes=true):jm hd s kx false=if XU s hd=true then(if (!s.Wounded.contains hd.Tx&&!s.Ended.contains hd.Tx)=true then kx () else some false) else some false:=by
 have hW:s.Wounded.length≤1048576:=by unfold zw at h;omega
 have hE:s.Ended.length≤1048576:=by unfold zw at h;omega
 unfold jm XU;rw[if_neg (by simp)];refine X9 hd.Writes (fun w=>s.Locks.any (YN hd.Tx (zcC w.Key) 2)) (some false) _ (by omega) (fun kb i hi=> ?_) (fun kb=> ?_)
 ·unfold QH;have hk:=(zbf hwg hi).2;simp only[zO hi,zjO,zeg _ hd.Tx _ 2 hg (zi6 hk) (by decide),Option.bind_some,qi i _ hi (by omega)];rw[if_pos (by omega)]
 ·unfold QH QJ ZA;rw[if_neg (by omega)];simp only[KQ _ _ hW,KQ _ _ hE,Option.bind_some];cases s.Wounded.contains hd.Tx<;>cases s.Ended.contains hd.Tx<;>simp
theorem zjg(s:zt)(h:zw s≤1048576)(hg:qt s.Locks=true):Qo s=some ((List.range s.Helds.length).all<|YZ s):=by
 have hh:z8 s.Helds≤1048576:=by unfold zw at h;omega
 have hn:s.Helds.length≤1048576:=by rw[ZN] at hh;omega
 unfold Qo;rw[j8 (s0:=(0:Int)) (fun i=>(i:Int)) (YZ s) (some false) (some true) s.Helds.length (by omega) (fun kb i hi=> ?_) (fun kb=> ?_) rfl]
 ·split<;>simp_all
 ·have hw:=zbD hh hi;have J:∀kx,jm s.Helds[i] s kx true=some false:=fun kx=>rfl;unfold JE YZ;simp only[zO hi,zeJ,zcz _ hw,Option.bind_some,List.getElem?_eq_getElem hi];rw[if_pos (by omega)];cases hwg:jW s.Helds[i].Writes
  ·cases qp s.Helds[i].Tx 1 60<;>simp[J];intro h0;have h2:IntKind.wrap .i64 ((i:Int) - 1)=((i - 1:Nat):Int):=by rw[w64 (by omega) (by omega)];omega
   have h3:i - 1 < s.Helds.length:=by omega
   simp only[h2,zO h3,Option.bind_some]
  ·simp only[Bool.not_true,zlT s s.Helds[i] _ h hw hg hwg];unfold jg;rw[qi i _ hi (by omega)];cases qp s.Helds[i].Tx 1 60<;>simp[J];by_cases h0:0 < i
   ·have h2:IntKind.wrap .i64 ((i:Int) - 1)=((i - 1:Nat):Int):=by rw[w64 (by omega) (by omega)];omega
    have h3:i - 1 < s.Helds.length:=by omega
    have h4:¬i=0:=by omega
    simp only[h0,if_true,h2,zO h3,Option.bind_some,List.getElem?_eq_getElem h3,h4,false_or];by_cases h5:s.Helds[i].Tx≤s.Helds[i - 1].Tx
    ·have:¬s.Helds[i - 1].Tx < s.Helds[i].Tx:=by omega
     simp[h5,this]
    ·have:s.Helds[i - 1].Tx < s.Helds[i].Tx:=by omega
     simp[h5,this];cases XU s s.Helds[i]<;>simp
   ·have h4:i=0:=by omega
    subst h4;simp;cases XU s s.Helds[0]<;>simp
 ·unfold JE;rw[if_neg (by omega)];rfl
theorem zkf(s:zt)(a:zm)(h:s.Own.length≤1048576):Jf a s=some (!yY s.Own a):=by
 unfold Jf;simp only[zdm _ _ h,Option.bind_some]
theorem zkm(s:zt)(a:zr)(h:s.Own.length≤1048576):QT a s=some (!yY s.Own (zcC a.Key)):=by
 unfold QT;simp only[zp0,zdm _ _ h,Option.bind_some]
theorem zjE(s:zt)(l:zu)(g:List Int)(h:s.Own.length≤1048576)(hg:g.length≤1048576):QO l s g=some (!yY s.Own ⟨l.Lo,l.Hi⟩||g.contains l.Tx):=by
 unfold QO jo;simp only[zdm _ _ h,Jd _ _ hg,Option.bind_some];cases yY s.Own ⟨l.Lo,l.Hi⟩<;>simp
theorem zeV(xs:List zm)(s:zt)(h:s.Own.length≤1048576)(hx:xs.length≤1048576):qy xs s=some (xs.any fun a=>!yY s.Own a):=by
 unfold qy jt;rw[Ju xs (fun a=>!yY s.Own a) (by omega) (fun kb i hi=> ?_) (fun kb=> ?_)]
 ·simp only[Option.bind_some,JI]
 ·unfold jl;simp only[zO hi,zkf _ _ h,Option.bind_some,qi i _ hi (by omega)];rw[if_pos (by omega)]
 ·unfold jl;rw[if_neg (by omega)];rfl
theorem zeN(xs:List zr)(s:zt)(h:s.Own.length≤1048576)(hx:xs.length≤1048576):qB xs s=some (xs.any fun a=>!yY s.Own (zcC a.Key)):=by
 unfold qB jH;rw[Ju xs (fun a=>!yY s.Own (zcC a.Key)) (by omega) (fun kb i hi=> ?_) (fun kb=> ?_)]
 ·simp only[Option.bind_some,JI]
 ·unfold jq;simp only[zO hi,zkm _ _ h,Option.bind_some,qi i _ hi (by omega)];rw[if_pos (by omega)]
 ·unfold jq;rw[if_neg (by omega)];rfl
theorem zex(xs:List zu)(s:zt)(g:List Int)(h:s.Own.length≤1048576)(hg:g.length≤1048576)(hx:xs.length≤1048576):qA xs s g=some (xs.any fun l=>!yY s.Own ⟨l.Lo,l.Hi⟩||g.contains l.Tx):=by
 unfold qA jG;rw[Ju xs (fun l=>!yY s.Own ⟨l.Lo,l.Hi⟩||g.contains l.Tx) (by omega) (fun kb i hi=> ?_) (fun kb=> ?_)]
 ·simp only[Option.bind_some,JI]
 ·unfold jr;simp only[zO hi,zjE _ _ _ h hg,Option.bind_some,qi i _ hi (by omega)];rw[if_pos (by omega)]
 ·unfold jr;rw[if_neg (by omega)];rfl
def zeK(s:zt):Bool:=s.Frozen.all (yY s.Own)
def zd2(s:zt):Bool:=s.Cells.all fun c=>yY s.Own (zcC c.Key)
def KS(s:zt):Bool:=s.Locks.all fun l=>yY s.Own ⟨l.Lo,l.Hi⟩&&(!s.Wounded.contains l.Tx&&!s.Ended.contains l.Tx)
def zbb(s:zt):Bool:=s.Wounded.all fun t=>!s.Ended.contains t
def za4(s:zt):Bool:=decide ((s.Cells.length:Int)+XZ s.Cells s.Helds≤60)
def zia(s:zt):Bool:=zeK s&&zd2 s&&KS s&&zbb s&&(List.range s.Helds.length).all (YZ s)&&za4 s
theorem zyl(s:zt)(h:zw s≤1048576)(hg:qt s.Locks=true):QP s ()=some ((List.range s.Helds.length).all (YZ s)&&za4 s):=by
 have hc:s.Cells.length≤1048576:=by unfold zw at h;omega
 have hh:z8 s.Helds≤1048576:=by unfold zw at h;omega
 rw[ZN] at hh;have hb:=zdq s.Cells s.Helds;unfold QP za4;simp only[zjg s h hg,zni s h,Option.bind_some];rw[w64 (by omega) (by omega)];cases(List.range s.Helds.length).all (YZ s)<;>simp
theorem zra(s:zt)(h:zw s≤1048576)(hg:qt s.Locks=true):Q2 s ()=some (zbb s&&((List.range s.Helds.length).all (YZ s)&&za4 s)):=by
 have hW:s.Wounded.length≤1048576:=by unfold zw at h;omega
 have hE:s.Ended.length≤1048576:=by unfold zw at h;omega
 unfold Q2 zbb;rw[X9 s.Wounded (fun t=>!s.Ended.contains t) (some false) (some ((List.range s.Helds.length).all (YZ s)&&za4 s)) (by omega) (fun kb i hi=> ?_) (fun kb=> ?_)]
 ·cases s.Wounded.all _<;>simp
 ·unfold xd;simp only[zO hi,KQ _ _ hE,Option.bind_some,qi i _ hi (by omega)];rw[if_pos (by omega)];cases s.Ended.contains s.Wounded[i]<;>simp
 ·unfold xd;rw[if_neg (by omega)];exact zyl s h hg
theorem zCF(s:zt)(h:zw s≤1048576)(hg:qt s.Locks=true)(ho:qw s.Own=true):Jg s ()=some (KS s&&(zbb s&&((List.range s.Helds.length).all (YZ s)&&za4 s))):=by
 have hO:s.Own.length≤1048576:=by unfold zw at h;omega
 have hL:s.Locks.length≤1048576:=by unfold zw at h;omega
 have hW:s.Wounded.length≤1048576:=by unfold zw at h;omega
 have hE:s.Ended.length≤1048576:=by unfold zw at h;omega
 unfold Jg KS;rw[X9 s.Locks (fun l=>yY s.Own ⟨l.Lo,l.Hi⟩&&(!s.Wounded.contains l.Tx&&!s.Ended.contains l.Tx)) (some false) (some (zbb s&&((List.range s.Helds.length).all (YZ s)&&za4 s))) (by omega) (fun kb i hi=> ?_) (fun kb=> ?_)]
 ·cases s.Locks.all _<;>simp
 ·unfold xg ZX jL;simp only[zO hi,zam _ _ hO,ho,zik hg hi,KQ _ _ hE,KQ _ _ hW,Option.bind_some,qi i _ hi (by omega),Bool.true_and];rw[if_pos (by omega)];cases yY s.Own ⟨s.Locks[i].Lo,s.Locks[i].Hi⟩<;>cases s.Wounded.contains s.Locks[i].Tx<;>cases s.Ended.contains s.Locks[i].Tx<;>simp
 ·unfold xg;rw[if_neg (by omega)];exact zra s h hg
theorem znS{xs:List zr}(hg:qW xs=true){i:Nat}(hi:i < xs.length):0≤xs[i].Key∧xs[i].Key≤999:=by
 unfold qW at hg;simp only[Bool.and_eq_true,List.all_eq_true] at hg;have:=hg.2 i (List.mem_range.2 hi);unfold XP qp at this;rw[List.getElem?_eq_getElem hi] at this;simp only[Bool.and_eq_true,decide_eq_true_eq] at this;exact this.1.1
theorem zDV(s:zt)(h:zw s≤1048576)(hg:qt s.Locks=true)(ho:qw s.Own=true)(hs:qW s.Cells=true):JW s ()=some (zd2 s&&(KS s&&(zbb s&&((List.range s.Helds.length).all (YZ s)&&za4 s)))):=by
 have hO:s.Own.length≤1048576:=by unfold zw at h;omega
 have hC:s.Cells.length≤1048576:=by unfold zw at h;omega
 unfold JW zd2;rw[X9 s.Cells (fun c=>yY s.Own (zcC c.Key)) (some false) (some (KS s&&(zbb s&&((List.range s.Helds.length).all (YZ s)&&za4 s)))) (by omega) (fun kb i hi=> ?_) (fun kb=> ?_)]
 ·cases s.Cells.all _<;>simp
 ·unfold xR;simp only[zO hi,zjO,zam _ _ hO,ho,zi6<|znS hs hi,Option.bind_some,qi i _ hi (by omega),Bool.true_and];rw[if_pos (by omega)]
 ·unfold xR;rw[if_neg (by omega)];exact zCF s h hg ho
theorem zDC(s:zt)(h:zw s≤1048576)(hg:qt s.Locks=true)(ho:qw s.Own=true)(hf:qw s.Frozen=true)(hs:qW s.Cells=true):jZ s false=some (zia s):=by
 have hO:s.Own.length≤1048576:=by unfold zw at h;omega
 have hC:s.Frozen.length≤1048576:=by unfold zw at h;omega
 unfold jZ zia zeK;rw[if_neg (by simp)];rw[X9 s.Frozen (yY s.Own) (some false) (some (zd2 s&&(KS s&&(zbb s&&((List.range s.Helds.length).all (YZ s)&&za4 s))))) (by omega) (fun kb i hi=> ?_) (fun kb=> ?_)]
 ·cases s.Frozen.all _<;>simp[Bool.and_assoc]
 ·unfold xA;simp only[zO hi,zam _ _ hO,ho,zbd hf hi,Option.bind_some,qi i _ hi (by omega),Bool.true_and];rw[if_pos (by omega)]
 ·unfold xA;rw[if_neg (by omega)];exact zDV s h hg ho hs
def zab(s:zt):Bool:=qp s.Me 0 3&&qw s.Own&&qw s.Frozen&&qW s.Cells&&qt s.Locks&&qp s.Rank 0 1000000&&(decide (s.Helds.length≤60)&&decide (s.Wounded.length≤60)&&decide (s.Ended.length≤60)&&jQ s.Wounded&&jQ s.Ended)&&zia s
theorem zf6(s:zt)(h:zw s≤1048576):YA s=some (zab s):=by
 have hO:s.Own.length≤1048576:=by unfold zw at h;omega
 have hF:s.Frozen.length≤1048576:=by unfold zw at h;omega
 have hC:s.Cells.length≤1048576:=by unfold zw at h;omega
 have hL:s.Locks.length≤1048576:=by unfold zw at h;omega
 have hW:s.Wounded.length≤1048576:=by unfold zw at h;omega
 have hE:s.Ended.length≤1048576:=by unfold zw at h;omega
 have J2:jY s true=some false:=rfl;have J5:jZ s true=some false:=rfl;unfold YA zab;simp only[zfy,KU _ hO,KU _ hF,YW _ hC,zcO _ hL,Option.bind_some];cases qp s.Me 0 3
 ·simp[J2]
 cases ho:qw s.Own
 ·simp[J2]
 cases hf:qw s.Frozen
 ·simp[J2]
 cases hs:qW s.Cells
 ·simp[J2]
 cases hg:qt s.Locks
 ·simp[J2]
 cases qp s.Rank 0 1000000
 ·simp[J2]
 simp only[if_true,Bool.not_true,Bool.true_and];unfold jY;simp only[zjs _ hW,zjs _ hE,Option.bind_some,Bool.false_eq_true,if_false,J5];by_cases c1:60 < (s.Helds.length:Int)
 ·have:¬s.Helds.length≤60:=by omega
  simp[c1,this]
 by_cases c2:60 < (s.Wounded.length:Int)
 ·have:¬s.Wounded.length≤60:=by omega
  simp[c1,c2,this]
 by_cases c3:60 < (s.Ended.length:Int)
 ·have:¬s.Ended.length≤60:=by omega
  simp[c1,c2,c3,this]
 have d1:s.Helds.length≤60:=by omega
 have d2:s.Wounded.length≤60:=by omega
 have d3:s.Ended.length≤60:=by omega
 simp only[c1,c2,c3,if_false,d1,d2,d3,decide_true,Bool.true_and];cases jQ s.Wounded<;>cases jQ s.Ended<;>simp[J5,zDC s h hg ho hf hs]
def QC(s:zt):List Int:=s.Helds.map (·.Tx)
def zfx(s:zt):Bool:=decide (QC s++(s.Wounded++s.Ended)).Nodup
def zlp(s:zt):Bool:=qp s.Me 0 3&&qw s.Own&&qw s.Frozen&&qW s.Cells&&qt s.Locks&&(s.Helds.all (zdJ s)&&jQ (QC s))&&jQ s.Wounded&&jQ s.Ended&&qp s.Rank 0 1000000&&(zeK s&&zd2 s&&KS s&&zfx s&&za4 s)
theorem zHh(s:zt)(h:zw s≤1048576):Zr s false=some (KS s&&zfx s&&za4 s):=by
 have hO:s.Own.length≤1048576:=by unfold zw at h;omega
 have hL:s.Locks.length≤1048576:=by unfold zw at h;omega
 have hWE:s.Wounded.length+s.Ended.length≤1048576:=by unfold zw at h;omega
 have hh:z8 s.Helds+s.Wounded.length+s.Ended.length≤1048576:=by unfold zw at h;omega
 rw[ZN] at hh;have hn:s.Helds.length≤1048576:=by omega
 have hfl:[s.Wounded,s.Ended].flatten=s.Wounded++s.Ended:=by simp
 unfold Zr;rw[if_neg (by simp),ziW _ (by simp) (by simp[yr];omega),hfl];simp only[zex _ _ _ hO (show(s.Wounded++s.Ended).length≤1048576 by simpa using hWE) hL,zgn _ hn,Option.bind_some];have eL:(s.Locks.any fun l=>!yY s.Own ⟨l.Lo,l.Hi⟩||(s.Wounded++s.Ended).contains l.Tx)= !KS s:=by
  unfold KS;rw[List.not_all_eq_any_not];congr 1;funext l;rw[List.contains_append];cases yY s.Own ⟨l.Lo,l.Hi⟩<;>cases s.Wounded.contains l.Tx<;>cases s.Ended.contains l.Tx<;>rfl
 rw[eL];cases KS s
 ·simp
 ·simp only[Bool.not_true,Bool.false_eq_true,if_false,Bool.true_and];have hlen:(List.map (fun x=>x.Tx) s.Helds++(s.Wounded++s.Ended)).length≤1048576:=by simp;omega
  rw[if_pos (by omega)];unfold XO YU;rw[if_pos (by omega)];simp only[Option.bind_some];rw[if_pos (zat _),zaS _ (by rw[zat];omega)];simp only[Option.bind_some];rw[if_pos (by rw[zat];omega)];simp only[Option.bind_some,zsP s h];have e:=zi7 (List.map (fun x=>x.Tx) s.Helds++(s.Wounded++s.Ended));unfold zfx QC za4;by_cases c:(List.map (fun x=>x.Tx) s.Helds++(s.Wounded++s.Ended)).Nodup
  ·rw[if_pos (by have:=e.2 c;omega)];simp[c]
  ·rw[if_neg (fun k=>c (e.1 (by omega)))];simp[c]
theorem zgb(s:zt)(h:zw s≤1048576):Q0 s=some (zlp s):=by
 have hO:s.Own.length≤1048576:=by unfold zw at h;omega
 have hF:s.Frozen.length≤1048576:=by unfold zw at h;omega
 have hC:s.Cells.length≤1048576:=by unfold zw at h;omega
 have hL:s.Locks.length≤1048576:=by unfold zw at h;omega
 have hW:s.Wounded.length≤1048576:=by unfold zw at h;omega
 have hE:s.Ended.length≤1048576:=by unfold zw at h;omega
 have J2:qP s true=some false:=rfl;have J5:Zr s true=some false:=rfl;have K2:qP s false=some (zeK s&&zd2 s&&KS s&&zfx s&&za4 s):=by
  unfold qP zeK zd2;rw[if_neg (by simp)];simp only[zeV _ _ hO hF,zeN _ _ hO hC,Option.bind_some];rw[←List.not_all_eq_any_not,←List.not_all_eq_any_not];cases s.Frozen.all fun a=>yY s.Own a<;>cases s.Cells.all fun a=>yY s.Own (zcC a.Key)<;>simp[J5,zHh s h]
 unfold Q0 zlp QC;simp only[zlQ,zcu _ hO,zcu _ hF,zaH _ hC,zaL _ hL,Option.bind_some];cases qp s.Me 0 3
 ·simp[J2]
 cases ho:qw s.Own
 ·simp[J2]
 cases hf:qw s.Frozen
 ·simp[J2]
 cases hs:qW s.Cells
 ·simp[J2]
 cases hg:qt s.Locks
 ·simp[J2]
 simp only[zms s h hg,zcZ _ hW,zcZ _ hE,zdP,Option.bind_some,if_true,Bool.true_and];cases s.Helds.all (zdJ s)
 ·simp[J2]
 cases jQ (s.Helds.map (·.Tx))
 ·simp[J2]
 cases jQ s.Wounded
 ·simp[J2]
 cases jQ s.Ended
 ·simp[J2]
 cases qp s.Rank 0 1000000<;>simp[J2,K2]
theorem zfd(s:zt){i:Nat}(hi:i < s.Helds.length):YZ s i=(zkd (QC s) i&&zdJ s s.Helds[i]&&(!s.Wounded.contains s.Helds[i].Tx&&!s.Ended.contains s.Helds[i].Tx)):=by
 unfold YZ zkd zdJ QC;simp only[List.getElem?_map,List.getElem?_eq_getElem hi,Option.map_some];by_cases h0:i=0
 ·subst h0;simp[Bool.and_assoc]
 ·have h3:i - 1 < s.Helds.length:=by omega
  simp[List.getElem?_eq_getElem h3,h0,Bool.and_assoc]
theorem ziw(s:zt):(List.range s.Helds.length).all (YZ s)=(s.Helds.all (zdJ s)&&jQ (QC s)&&(QC s).all fun t=>!s.Wounded.contains t&&!s.Ended.contains t):=by
 rw[Bool.eq_iff_iff];unfold jQ;simp only[Bool.and_eq_true,List.all_eq_true,List.mem_range];have hl:(QC s).length=s.Helds.length:=by unfold QC;simp
 constructor
 ·intro H;have H':∀i (hi:i < s.Helds.length),_:=fun i hi=>by have:=H i hi;rw[zfd s hi] at this;simpa only[Bool.and_eq_true] using this
  refine⟨⟨fun x hx=> ?_,fun i hi=>(H' i (by omega)).1.1⟩,fun t ht=> ?_⟩
  ·obtain⟨i,hi,rfl⟩:=List.mem_iff_getElem.1 hx;exact(H' i hi).1.2
  ·unfold QC at ht;obtain⟨x,hx,rfl⟩:=List.mem_map.1 ht;obtain⟨i,hi,rfl⟩:=List.mem_iff_getElem.1 hx;exact(H' i hi).2
 ·rintro⟨⟨h1,h2⟩,h3⟩ i hi;rw[zfd s hi];simp only[Bool.and_eq_true];exact⟨⟨h2 i (by omega),h1 _<|List.getElem_mem hi⟩,h3 _ (by unfold QC;exact List.mem_map.2 ⟨_,List.getElem_mem hi,rfl⟩)⟩
theorem znF(s:zt):zab s=zlp s:=by
 unfold zab zlp zia;rw[ziw];rw[Bool.eq_iff_iff];simp only[Bool.and_eq_true,decide_eq_true_eq];have hl:(QC s).length=s.Helds.length:=by unfold QC;simp
 have ap:jQ (QC s)=true→jQ s.Wounded=true→jQ s.Ended=true→(zfx s=true↔(zbb s=true∧((QC s).all fun t=>!s.Wounded.contains t&&!s.Ended.contains t)=true)):=by
  intro g1 g2 g3;unfold zfx zbb;simp only[decide_eq_true_eq,List.nodup_append,List.all_eq_true,Bool.and_eq_true,Bool.not_eq_true',List.mem_append];have nc:∀(xs:List Int) (z:Int),xs.contains z=false↔z∉xs:=fun xs z=>by
   rw[←List.contains_iff_mem];cases xs.contains z<;>simp
  simp only[nc];constructor
  ·rintro⟨_,⟨_,_,d1⟩,d2⟩;exact⟨fun t ht he=>d1 t ht t he rfl,fun t ht=>⟨fun hw=>d2 t ht t (.inl hw) rfl,fun he=>d2 t ht t (.inr he) rfl⟩⟩
  ·rintro⟨w,d⟩;refine⟨zba g1,⟨zba g2,zba g3,fun a ha b hb e=>w a ha (e▸hb)⟩,fun a ha b hb e=> ?_⟩;subst e;rcases hb with hb|hb
   ·exact(d a ha).1 hb
   ·exact(d a ha).2 hb
 constructor
 ·rintro⟨⟨⟨⟨⟨⟨⟨a1,a2⟩,a3⟩,a4⟩,a5⟩,a6⟩,⟨⟨⟨b1,b2⟩,b3⟩,b4⟩,b5⟩,⟨⟨⟨⟨c1,c2⟩,c3⟩,c4⟩,⟨c5,c6⟩,c7⟩,c8⟩;exact⟨⟨⟨⟨⟨⟨⟨⟨⟨a1,a2⟩,a3⟩,a4⟩,a5⟩,c5,c6⟩,b4⟩,b5⟩,a6⟩,⟨⟨⟨c1,c2⟩,c3⟩,(ap c6 b4 b5).2 ⟨c4,c7⟩⟩,c8⟩
 ·rintro⟨⟨⟨⟨⟨⟨⟨⟨⟨a1,a2⟩,a3⟩,a4⟩,a5⟩,c5,c6⟩,b4⟩,b5⟩,a6⟩,⟨⟨⟨c1,c2⟩,c3⟩,c4⟩,c8⟩;have k:=(ap c6 b4 b5).1 c4;exact⟨⟨⟨⟨⟨⟨⟨a1,a2⟩,a3⟩,a4⟩,a5⟩,a6⟩,⟨⟨⟨by have:=Kl c6;omega,Kl b4⟩,Kl b5⟩,b4⟩,b5⟩,⟨⟨⟨⟨c1,c2⟩,c3⟩,k.1⟩,⟨c5,c6⟩,k.2⟩,c8⟩
theorem zg2(s:zt)(h:zw s≤1048576):Q0 s=some (zab s):=by rw[znF];exact zgb s h
def hb(f:Nat→Bool):List Bool:=(List.range 1001).map f
def zax(xs:List zm)(a:zm):Bool:=xs.any fun b=>Xm a b
theorem zkJ(xs:List zm)(a:zm)(h:xs.length≤1048576)(hx:qw xs=true)(ha:qk a=true):JR xs a=some (zax xs a):=by
 unfold JR zax;rw[zen xs (fun b=>Xm a b) (some true) (some false) (by omega) (fun kb i hi=> ?_) (fun kb=> ?_)]
 ·cases xs.any fun b=>Xm a b<;>rfl
 ·unfold xU;simp only[zO hi,Option.bind_some,zfJ,qi i _ hi (by omega),zbd hx hi,ha,Bool.true_and,zlD (zbd hx hi) ha];rw[if_pos (by omega)];have hc:Xm xs[i] a=Xm a xs[i]:=by unfold Xm;rw[Bool.and_comm]
  rw[hc];cases Xm a xs[i]<;>simp
 ·unfold xU;rw[if_neg (by simp)];rfl
theorem zlV(xs:List zm)(a:zm)(h:xs.length≤1048576):YP xs a=some (zax xs a):=by
 unfold YP je ju zax;rw[Ju xs (fun b=>Xm a b) (by omega) (fun kb i hi=> ?_) (fun kb=> ?_)]
 ·simp only[Option.bind_some,JI]
 ·unfold jn xI;simp only[zO hi,Option.bind_some,zlv,qi i _ hi (by omega)];rw[if_pos (by omega)]
 ·unfold jn;rw[if_neg (by simp)];rfl
theorem zfO(s:zt)(h:zw s≤1048576):ZT s=some s:=by
 have hh:s.Helds.length≤1048576:=by unfold zw z8 at h;omega
 have hH:z8 s.Helds≤1048576:=by unfold zw at h;omega
 have hs:s.Own.length≤1048576∧s.Frozen.length≤1048576∧s.Cells.length≤1048576∧s.Locks.length≤1048576∧s.Wounded.length≤1048576∧s.Ended.length≤1048576:=by unfold zw at h;omega
 unfold ZT;simp only[zdL _ hs.1,zdL _ hs.2.1,zeB _ hs.2.2.1,zeD _ hs.2.2.2.1,zaS _ hs.2.2.2.2.1,zaS _ hs.2.2.2.2.2,Option.bind_some];refine qJ (fun i=>((i:Int),s.Helds.take i)) _ s.Helds.length (by omega) (fun kb i hi=> ?_) (fun kb=> ?_) (by simp)
 ·unfold JM;simp only[zO hi,Option.bind_some,zh4 _<|zbD hH hi,qi i _ hi (by omega),List.take_succ_eq_append_getElem hi];rw[if_pos (by omega),if_pos (by simp;omega)]
 ·unfold JM Jv;rw[if_neg (by simp),List.take_length]
theorem zmd(s:zt)(h:zw s≤1048576):YC s=some s:=by
 have hh:s.Helds.length≤1048576:=by unfold zw z8 at h;omega
 have hH:z8 s.Helds≤1048576:=by unfold zw at h;omega
 have hs:s.Own.length≤1048576∧s.Frozen.length≤1048576∧s.Cells.length≤1048576∧s.Locks.length≤1048576∧s.Wounded.length≤1048576∧s.Ended.length≤1048576:=by unfold zw at h;omega
 unfold YC;rw[if_pos (by omega),if_pos (by omega),if_pos (by omega),if_pos (by omega)];refine qJ (fun i=>((i:Int),s.Helds.take i)) _ s.Helds.length (by omega) (fun kb i hi=> ?_) (fun kb=> ?_) (by simp)
 ·have hw:=zbD hH hi;unfold xF;simp only[zO hi,Option.bind_some,qi i _ hi (by omega),List.take_succ_eq_append_getElem hi];rw[if_pos (by omega),if_pos (by omega),if_pos (by simp;omega)]
 ·unfold xF k8;rw[if_neg (by simp),List.take_length,if_pos (by omega),if_pos (by omega)]
def zbp:zt:=⟨0,[],[],[],[],[],[],[],0⟩
theorem zcd{s:zt}(h:zab s=true):qw s.Own=true∧qw s.Frozen=true∧qW s.Cells=true∧qt s.Locks=true:=by
 unfold zab at h;simp only[Bool.and_eq_true] at h;exact⟨h.1.1.1.1.1.1.2,h.1.1.1.1.1.2,h.1.1.1.1.2,h.1.1.1.2⟩
theorem zf3{xs:List zm}{a:zm}(h:xs.length≤1048576)(hx:qw xs=true)(ha:qk a=true):jR xs a=some (yY xs a):=by
 rw[zam _ _ h,hx,ha];rfl
theorem zls{α:Type}(f:α→Nat)(b:Nat):∀(xs:List α),(∀x∈xs,f x≤b)→yr f xs≤b * xs.length
 |[],_=>by simp[yr]
 |x::xs,H=>by
  have:=zls f b xs fun y hy=>H y (List.mem_cons_of_mem _ hy);have:=H x List.mem_cons_self;simp only[yr,List.length_cons,Nat.mul_add,Nat.mul_one];omega
theorem zfE{s:zt}(h:zab s=true):zw s≤5000:=by
 obtain⟨k1,k2,k3,k4⟩:=zcd h;have l1:=zdC k1;have l2:=zdC k2;have l3:=zew k3;have l4:=Qr k4;unfold zab zia at h;simp only[Bool.and_eq_true,decide_eq_true_eq] at h;have h1:=h.1.2.1.1.1.1;have h2:=h.1.2.1.1.1.2;have h3:=h.1.2.1.1.2;have hh:=h.2.1.2;have hw:∀x∈s.Helds,x.Writes.length≤60:=fun x hx=>by
  obtain⟨i,hi,rfl⟩:=List.getElem_of_mem hx;rw[List.all_eq_true] at hh;have:=hh i (List.mem_range.2 hi);rw[zfd s hi] at this;unfold zdJ at this;simp only[Bool.and_eq_true] at this;exact zh7 this.1.2.1
 have hs:=zls (fun x:zP=>x.Writes.length) 60 s.Helds hw;unfold zw;rw[ZN];omega
def Yz(k:Int):zr:=⟨k,k+1⟩
def Xt(k:Int)(n:Nat):List zr:=(List.range n).map fun(i:Nat)=>Yz (k+2 * (i:Int))
theorem zcy(k:Int)(n:Nat):(Xt k n).length=n:=by simp[Xt]
theorem zjc(xs:List zr)(k:Int)(h:xs.length≤1048576)(hk:0≤k)(hk':k≤1000000000000):Qn xs k=some (k+2 * (xs.length:Int),Xt k xs.length):=by
 unfold Qn;refine qJ (fun i=>(XX (fun(i:Nat)=>Yz (k+2 * (i:Int))) xs i,k+2 * (i:Int),(i:Int))) _ xs.length (by omega) (fun kb i hi=> ?_) (fun kb=> ?_) (by simp[zaq])
 ·unfold Jp;have hl:=JP (fun(i:Nat)=>Yz (k+2 * (i:Int))) (Nat.le_of_lt hi);have w1:IntKind.wrap .i64 (k+2 * (i:Int)+1)=k+2 * (i:Int)+1:=w64 (by omega) (by omega);have w2:IntKind.wrap .i64 (k+2 * (i:Int)+1+1)=k+2 * (i:Int)+2:=by rw[w64 (by omega) (by omega)];omega
  have e:k+2 * ((i+1:Nat):Int)=k+2 * (i:Int)+2:=by omega
  have hs:=zbP (fun(i:Nat)=>Yz (k+2 * (i:Int))) hi;have hx:=zbz (fun(i:Nat)=>Yz (k+2 * (i:Int))) hi;show _=kb (XX (fun(i:Nat)=>Yz (k+2 * (i:Int))) xs (i+1),k+2 * ((i+1:Nat):Int),((i+1:Nat):Int));rw[←hs,e];generalize XX (fun(i:Nat)=>Yz (k+2 * (i:Int))) xs i=row at hl hx;have hii:i < row.length:=by rw[hl];exact hi
  simp only[hx,Option.bind_some,Int.toNat_natCast,xu hii,List.set_set,qi i _ hi (by omega),w1,w2,hl,Yz];rw[if_pos (by omega)]
 ·unfold Jp JK;have hl:=JP (fun(i:Nat)=>Yz (k+2 * (i:Int))) (Nat.le_refl xs.length);rw[if_neg (by simp only[hl];omega),if_pos hl,zbk];rfl
theorem zje(n:Nat)(k:Int)(h:n≤1048576)(hk:0≤k)(hk':k≤1000000000000):Qy (Xt k n) k=some (k+2 * (n:Int)):=by
 unfold Qy;refine qJ (fun i=>(k+2 * (i:Int),(i:Int))) _ n (by omega) (fun kb i hi=> ?_) (fun kb=> ?_) (by simp)
 ·unfold Jx;have w1:IntKind.wrap .i64 (k+2 * (i:Int)+1)=k+2 * (i:Int)+1:=w64 (by omega) (by omega);have w2:IntKind.wrap .i64 (k+2 * (i:Int)+1+1)=k+2 * (i:Int)+2:=by rw[w64 (by omega) (by omega)];omega
  have e:k+2 * ((i+1:Nat):Int)=k+2 * (i:Int)+2:=by omega
  have hx:idx (Xt k n) (i:Int)=some (Yz (k+2 * (i:Int))):=zau _ hi;simp only[hx,Option.bind_some,qi i _ hi (by omega),w1,w2,Yz,zcy,not_true,if_false,e];rw[if_pos (by omega)]
 ·unfold Jx Jo;rw[if_neg (by simp only[zcy];omega)]
def Q4(x:zP):Nat:=1+2 * x.Writes.length
def zjh(x:zP)(k:Int):zP:=zP.mk k (Xt (k+1) x.Writes.length)
def zdc(xs:List zP)(k:Int)(i:Nat):zP:=match xs[i]? with
 |some x=>zjh x (k+(yr Q4 (xs.take i):Nat))
 |none=>zP.mk 0 []
theorem zkh(xs:List zP)(k:Int){i:Nat}(hi:i < xs.length):zdc xs k i=zjh xs[i] (k+(yr Q4 (xs.take i):Nat)):=by
 unfold zdc;rw[List.getElem?_eq_getElem hi]
def Z5(xs:List zP)(k:Int):List zP:=(List.range xs.length).map (zdc xs k)
theorem Ji(xs:List zP)(k:Int):(Z5 xs k).length=xs.length:=by simp[Z5]
theorem ziK:∀(xs:List zP),yr Q4 xs=xs.length+2 * yr (fun y:zP=>ji y) xs
 |[]=>rfl
 |x::xs=>by
  have ih:=ziK xs;simp only[yr,List.length_cons,ih,Q4,ji];omega
theorem za1{xs:List zP}(h:z8 xs≤1048576)(i:Nat):yr Q4 (xs.take i)≤4194304:=by
 have h1:=Kt Q4 xs i;have h2:=ziK xs;unfold z8 at h;omega
theorem zfF(xs:List zP)(k:Int)(h:z8 xs≤1048576)(hk:0≤k)(hk':k≤100000000):yP xs k=some (k+(yr Q4 xs:Nat),Z5 xs k):=by
 obtain⟨hl0,hs0⟩:=za8 h;unfold yP;refine qJ (fun i=>(XX (zdc xs k) xs i,k+(yr Q4 (xs.take i):Nat),(i:Int))) _ xs.length (by omega) (fun kb i hi=> ?_) (fun kb=> ?_) (by simp[zaq,yr])
 ·unfold Yp;have hl:=JP (zdc xs k) (Nat.le_of_lt hi);have hs:=zbP (zdc xs k) hi;have hx:=zbz (zdc xs k) hi;have hb:=za1 h i;have hsz:=hs0 i hi;unfold ji at hsz;have e:k+((yr Q4 (xs.take (i+1)):Nat):Int)=k+(yr Q4 (xs.take i):Nat)+1+2 * (xs[i].Writes.length:Int):=by
   rw[Ku Q4 hi];unfold Q4;omega
  show _=kb (XX (zdc xs k) xs (i+1),k+((yr Q4 (xs.take (i+1)):Nat):Int),((i+1:Nat):Int));rw[←hs,e,zkh xs k hi];have hkk:0≤k+((yr Q4 (xs.take i):Nat):Int)∧k+((yr Q4 (xs.take i):Nat):Int)≤110000000:=by omega
  generalize k+((yr Q4 (xs.take i):Nat):Int)=kk at hkk ⊢;generalize XX (zdc xs k) xs i=row at hl hx ⊢;have hii:i < row.length:=by rw[hl];exact hi
  have w1:IntKind.wrap .i64 (kk+1)=kk+1:=w64 (by omega) (by omega);have hS:=zjc xs[i].Writes (kk+1) (by omega) (by omega) (by omega);simp only[hx,Option.bind_some,Int.toNat_natCast,xu hii,List.set_set,qi i _ hi (by omega),w1,hS,hl,zjh];rw[if_pos (by omega)]
 ·unfold Yp Ym;have hl:=JP (zdc xs k) (Nat.le_refl xs.length);rw[if_neg (by simp only[hl];omega),if_pos hl,zbk,List.take_length];rfl
theorem zfY(xs:List zP)(k:Int)(h:z8 xs≤1048576)(hk:0≤k)(hk':k≤100000000):yW (Z5 xs k) k=some (k+(yr Q4 xs:Nat)):=by
 obtain⟨hl0,hs0⟩:=za8 h;unfold yW;refine qJ (fun i=>(k+(yr Q4 (xs.take i):Nat),(i:Int))) _ xs.length (by omega) (fun kb i hi=> ?_) (fun kb=> ?_) (by simp[yr])
 ·unfold Yk;have hx:idx (Z5 xs k) (i:Int)=some (zdc xs k i):=zau _ hi;have hb:=za1 h i;have hsz:=hs0 i hi;unfold ji at hsz;have e:k+((yr Q4 (xs.take (i+1)):Nat):Int)=k+(yr Q4 (xs.take i):Nat)+1+2 * (xs[i].Writes.length:Int):=by
   rw[Ku Q4 hi];unfold Q4;omega
  rw[e];rw[zkh xs k hi] at hx;have hkk:0≤k+((yr Q4 (xs.take i):Nat):Int)∧k+((yr Q4 (xs.take i):Nat):Int)≤110000000:=by omega
  generalize k+((yr Q4 (xs.take i):Nat):Int)=kk at hkk hx ⊢;have w1:IntKind.wrap .i64 (kk+1)=kk+1:=w64 (by omega) (by omega);have hS:=zje xs[i].Writes.length (kk+1) (by omega) (by omega) (by omega);simp only[hx,Option.bind_some,qi i _ hi (by omega),w1,hS,Ji,zjh,not_true,if_false];rw[if_pos (by omega),if_neg (by omega)]
 ·unfold Yk Yi;rw[if_neg (by simp only[Ji];omega),List.take_length]
def Y5(k:Int):zm:=⟨k,k+1⟩
def jC(k:Int)(n:Nat):List zm:=(List.range n).map fun(i:Nat)=>Y5 (k+2 * (i:Int))
theorem yM(k:Int)(n:Nat):(jC k n).length=n:=by simp[jC]
theorem zan(xs:List zm)(k:Int)(h:xs.length≤1048576)(hk:0≤k)(hk':k≤1000000000000):jv xs k=some (k+2 * (xs.length:Int),jC k xs.length):=by
 unfold jv;refine qJ (fun i=>(XX (fun(i:Nat)=>Y5 (k+2 * (i:Int))) xs i,k+2 * (i:Int),(i:Int))) _ xs.length (by omega) (fun kb i hi=> ?_) (fun kb=> ?_) (by simp[zaq])
 ·unfold Jy;have hl:=JP (fun(i:Nat)=>Y5 (k+2 * (i:Int))) (Nat.le_of_lt hi);have w1:IntKind.wrap .i64 (k+2 * (i:Int)+1)=k+2 * (i:Int)+1:=w64 (by omega) (by omega);have w2:IntKind.wrap .i64 (k+2 * (i:Int)+1+1)=k+2 * (i:Int)+2:=by rw[w64 (by omega) (by omega)];omega
  have e:k+2 * ((i+1:Nat):Int)=k+2 * (i:Int)+2:=by omega
  have hs:=zbP (fun(i:Nat)=>Y5 (k+2 * (i:Int))) hi;have hx:=zbz (fun(i:Nat)=>Y5 (k+2 * (i:Int))) hi;show _=kb (XX (fun(i:Nat)=>Y5 (k+2 * (i:Int))) xs (i+1),k+2 * ((i+1:Nat):Int),((i+1:Nat):Int));rw[←hs,e];generalize XX (fun(i:Nat)=>Y5 (k+2 * (i:Int))) xs i=row at hl hx;have hii:i < row.length:=by rw[hl];exact hi
  simp only[hx,Option.bind_some,Int.toNat_natCast,xu hii,List.set_set,qi i _ hi (by omega),w1,w2,hl,Y5];rw[if_pos (by omega)]
 ·unfold Jy Jz;have hl:=JP (fun(i:Nat)=>Y5 (k+2 * (i:Int))) (Nat.le_refl xs.length);rw[if_neg (by simp only[hl];omega),if_pos hl,zbk];rfl
theorem zak(n:Nat)(k:Int)(h:n≤1048576)(hk:0≤k)(hk':k≤1000000000000):js (jC k n) k=some (k+2 * (n:Int)):=by
 unfold js;refine qJ (fun i=>(k+2 * (i:Int),(i:Int))) _ n (by omega) (fun kb i hi=> ?_) (fun kb=> ?_) (by simp)
 ·unfold JB;have w1:IntKind.wrap .i64 (k+2 * (i:Int)+1)=k+2 * (i:Int)+1:=w64 (by omega) (by omega);have w2:IntKind.wrap .i64 (k+2 * (i:Int)+1+1)=k+2 * (i:Int)+2:=by rw[w64 (by omega) (by omega)];omega
  have e:k+2 * ((i+1:Nat):Int)=k+2 * (i:Int)+2:=by omega
  have hx:idx (jC k n) (i:Int)=some (Y5 (k+2 * (i:Int))):=zau _ hi;simp only[hx,Option.bind_some,qi i _ hi (by omega),w1,w2,Y5,yM,not_true,if_false,e];rw[if_pos (by omega)]
 ·unfold JB Jw;rw[if_neg (by simp only[yM];omega)]
def Xy(k:Int):zr:=⟨k,k+1⟩
def Z1(k:Int)(n:Nat):List zr:=(List.range n).map fun(i:Nat)=>Xy (k+2 * (i:Int))
theorem ZY(k:Int)(n:Nat):(Z1 k n).length=n:=by simp[Z1]
theorem zc8(xs:List zr)(k:Int)(h:xs.length≤1048576)(hk:0≤k)(hk':k≤1000000000000):yD xs k=some (k+2 * (xs.length:Int),Z1 k xs.length):=by
 unfold yD;refine qJ (fun i=>(XX (fun(i:Nat)=>Xy (k+2 * (i:Int))) xs i,k+2 * (i:Int),(i:Int))) _ xs.length (by omega) (fun kb i hi=> ?_) (fun kb=> ?_) (by simp[zaq])
 ·unfold Ye;have hl:=JP (fun(i:Nat)=>Xy (k+2 * (i:Int))) (Nat.le_of_lt hi);have w1:IntKind.wrap .i64 (k+2 * (i:Int)+1)=k+2 * (i:Int)+1:=w64 (by omega) (by omega);have w2:IntKind.wrap .i64 (k+2 * (i:Int)+1+1)=k+2 * (i:Int)+2:=by rw[w64 (by omega) (by omega)];omega
  have e:k+2 * ((i+1:Nat):Int)=k+2 * (i:Int)+2:=by omega
  have hs:=zbP (fun(i:Nat)=>Xy (k+2 * (i:Int))) hi;have hx:=zbz (fun(i:Nat)=>Xy (k+2 * (i:Int))) hi;show _=kb (XX (fun(i:Nat)=>Xy (k+2 * (i:Int))) xs (i+1),k+2 * ((i+1:Nat):Int),((i+1:Nat):Int));rw[←hs,e];generalize XX (fun(i:Nat)=>Xy (k+2 * (i:Int))) xs i=row at hl hx;have hii:i < row.length:=by rw[hl];exact hi
  simp only[hx,Option.bind_some,Int.toNat_natCast,xu hii,List.set_set,qi i _ hi (by omega),w1,w2,hl,Xy];rw[if_pos (by omega)]
 ·unfold Ye Yq;have hl:=JP (fun(i:Nat)=>Xy (k+2 * (i:Int))) (Nat.le_refl xs.length);rw[if_neg (by simp only[hl];omega),if_pos hl,zbk];rfl
theorem zcG(n:Nat)(k:Int)(h:n≤1048576)(hk:0≤k)(hk':k≤1000000000000):j7 (Z1 k n) k=some (k+2 * (n:Int)):=by
 unfold j7;refine qJ (fun i=>(k+2 * (i:Int),(i:Int))) _ n (by omega) (fun kb i hi=> ?_) (fun kb=> ?_) (by simp)
 ·unfold Yg;have w1:IntKind.wrap .i64 (k+2 * (i:Int)+1)=k+2 * (i:Int)+1:=w64 (by omega) (by omega);have w2:IntKind.wrap .i64 (k+2 * (i:Int)+1+1)=k+2 * (i:Int)+2:=by rw[w64 (by omega) (by omega)];omega
  have e:k+2 * ((i+1:Nat):Int)=k+2 * (i:Int)+2:=by omega
  have hx:idx (Z1 k n) (i:Int)=some (Xy (k+2 * (i:Int))):=zau _ hi;simp only[hx,Option.bind_some,qi i _ hi (by omega),w1,w2,Xy,ZY,not_true,if_false,e];rw[if_pos (by omega)]
 ·unfold Yg Yn;rw[if_neg (by simp only[ZY];omega)]
def XH(k:Int):zu:=⟨k,k+1,k+2,k+3⟩
def ZZ(k:Int)(n:Nat):List zu:=(List.range n).map fun(i:Nat)=>XH (k+4 * (i:Int))
theorem Jk(k:Int)(n:Nat):(ZZ k n).length=n:=by simp[ZZ]
theorem zfK(xs:List zu)(k:Int)(h:xs.length≤1048576)(hk:0≤k)(hk':k≤1000000000000):yS xs k=some (k+4 * (xs.length:Int),ZZ k xs.length):=by
 unfold yS;refine qJ (fun i=>(XX (fun(i:Nat)=>XH (k+4 * (i:Int))) xs i,k+4 * (i:Int),(i:Int))) _ xs.length (by omega) (fun kb i hi=> ?_) (fun kb=> ?_) (by simp[zaq])
 ·unfold Yo;have hl:=JP (fun(i:Nat)=>XH (k+4 * (i:Int))) (Nat.le_of_lt hi);have w1:IntKind.wrap .i64 (k+4 * (i:Int)+1)=k+4 * (i:Int)+1:=w64 (by omega) (by omega);have w2:IntKind.wrap .i64 (k+4 * (i:Int)+1+1)=k+4 * (i:Int)+2:=by rw[w64 (by omega) (by omega)];omega
  have w3:IntKind.wrap .i64 (k+4 * (i:Int)+2+1)=k+4 * (i:Int)+3:=by rw[w64 (by omega) (by omega)];omega
  have w4:IntKind.wrap .i64 (k+4 * (i:Int)+3+1)=k+4 * (i:Int)+4:=by rw[w64 (by omega) (by omega)];omega
  have e:k+4 * ((i+1:Nat):Int)=k+4 * (i:Int)+4:=by omega
  have hs:=zbP (fun(i:Nat)=>XH (k+4 * (i:Int))) hi;have hx:=zbz (fun(i:Nat)=>XH (k+4 * (i:Int))) hi;show _=kb (XX (fun(i:Nat)=>XH (k+4 * (i:Int))) xs (i+1),k+4 * ((i+1:Nat):Int),((i+1:Nat):Int));rw[←hs,e];generalize XX (fun(i:Nat)=>XH (k+4 * (i:Int))) xs i=row at hl hx;have hii:i < row.length:=by rw[hl];exact hi
  simp only[hx,Option.bind_some,Int.toNat_natCast,xu hii,List.set_set,qi i _ hi (by omega),w1,w2,w3,w4,hl,XH];rw[if_pos (by omega)]
 ·unfold Yo Yc;have hl:=JP (fun(i:Nat)=>XH (k+4 * (i:Int))) (Nat.le_refl xs.length);rw[if_neg (by simp only[hl];omega),if_pos hl,zbk];rfl
theorem zfI(n:Nat)(k:Int)(h:n≤1048576)(hk:0≤k)(hk':k≤1000000000000):yX (ZZ k n) k=some (k+4 * (n:Int)):=by
 unfold yX;refine qJ (fun i=>(k+4 * (i:Int),(i:Int))) _ n (by omega) (fun kb i hi=> ?_) (fun kb=> ?_) (by simp)
 ·unfold Yh;have w1:IntKind.wrap .i64 (k+4 * (i:Int)+1)=k+4 * (i:Int)+1:=w64 (by omega) (by omega);have w2:IntKind.wrap .i64 (k+4 * (i:Int)+1+1)=k+4 * (i:Int)+2:=by rw[w64 (by omega) (by omega)];omega
  have w3:IntKind.wrap .i64 (k+4 * (i:Int)+2+1)=k+4 * (i:Int)+3:=by rw[w64 (by omega) (by omega)];omega
  have w4:IntKind.wrap .i64 (k+4 * (i:Int)+3+1)=k+4 * (i:Int)+4:=by rw[w64 (by omega) (by omega)];omega
  have e:k+4 * ((i+1:Nat):Int)=k+4 * (i:Int)+4:=by omega
  have hx:idx (ZZ k n) (i:Int)=some (XH (k+4 * (i:Int))):=zau _ hi;simp only[hx,Option.bind_some,qi i _ hi (by omega),w1,w2,w3,w4,XH,Jk,not_true,if_false,e];rw[if_pos (by omega)]
 ·unfold Yh Yb;rw[if_neg (by simp only[Jk];omega)]
def zaE(k:Int):Int:=k
def yA(k:Int)(n:Nat):List Int:=(List.range n).map fun(i:Nat)=>zaE (k+1 * (i:Int))
theorem ZM(k:Int)(n:Nat):(yA k n).length=n:=by simp[yA]
theorem zb5(xs:List Int)(k:Int)(h:xs.length≤1048576)(hk:0≤k)(hk':k≤1000000000000):j0 xs k=some (k+1 * (xs.length:Int),yA k xs.length):=by
 unfold j0;refine qJ (fun i=>(XX (fun(i:Nat)=>zaE (k+1 * (i:Int))) xs i,k+1 * (i:Int),(i:Int))) _ xs.length (by omega) (fun kb i hi=> ?_) (fun kb=> ?_) (by simp[zaq])
 ·unfold xj;have hl:=JP (fun(i:Nat)=>zaE (k+1 * (i:Int))) (Nat.le_of_lt hi);have w1:IntKind.wrap .i64 (k+1 * (i:Int)+1)=k+1 * (i:Int)+1:=w64 (by omega) (by omega);have e:k+1 * ((i+1:Nat):Int)=k+1 * (i:Int)+1:=by omega
  have hs:=zbP (fun(i:Nat)=>zaE (k+1 * (i:Int))) hi;have hx:=zbz (fun(i:Nat)=>zaE (k+1 * (i:Int))) hi;show _=kb (XX (fun(i:Nat)=>zaE (k+1 * (i:Int))) xs (i+1),k+1 * ((i+1:Nat):Int),((i+1:Nat):Int));rw[←hs,e];generalize XX (fun(i:Nat)=>zaE (k+1 * (i:Int))) xs i=row at hl hx;have hii:i < row.length:=by rw[hl];exact hi
  simp only[hx,Option.bind_some,Int.toNat_natCast,xu hii,List.set_set,qi i _ hi (by omega),w1,hl,zaE];rw[if_pos (by omega)]
 ·unfold xj xN;have hl:=JP (fun(i:Nat)=>zaE (k+1 * (i:Int))) (Nat.le_refl xs.length);rw[if_neg (by simp only[hl];omega),if_pos hl,zbk];rfl
theorem zca(n:Nat)(k:Int)(h:n≤1048576)(hk:0≤k)(hk':k≤1000000000000):jX (yA k n) k=some (k+1 * (n:Int)):=by
 unfold jX;refine qJ (fun i=>(k+1 * (i:Int),(i:Int))) _ n (by omega) (fun kb i hi=> ?_) (fun kb=> ?_) (by simp)
 ·unfold xM;have w1:IntKind.wrap .i64 (k+1 * (i:Int)+1)=k+1 * (i:Int)+1:=w64 (by omega) (by omega);have e:k+1 * ((i+1:Nat):Int)=k+1 * (i:Int)+1:=by omega
  have hx:idx (yA k n) (i:Int)=some (zaE (k+1 * (i:Int))):=zau _ hi;simp only[hx,Option.bind_some,qi i _ hi (by omega),w1,zaE,ZM,not_true,if_false,e];rw[if_pos (by omega)]
 ·unfold xM xr;rw[if_neg (by simp only[ZM];omega)]
theorem zlc(x:zt)(h:zw x≤1048576):∃r:Int×zt,yz x 1=some r∧0≤r.1∧r.2.Own.length=x.Own.length∧r.2.Frozen.length=x.Frozen.length∧r.2.Cells.length=x.Cells.length∧r.2.Locks.length=x.Locks.length∧r.2.Helds.length=x.Helds.length∧r.2.Wounded.length=x.Wounded.length∧r.2.Ended.length=x.Ended.length∧
  ∀e f,yC (zt.mk e r.2.Own r.2.Frozen r.2.Cells r.2.Locks r.2.Helds r.2.Wounded r.2.Ended f) 1=some r.1:=by
 have hh:=h;unfold zw at hh;have hH:z8 x.Helds≤1048576:=by omega
 have hb:=za1 hH x.Helds.length;rw[List.take_length] at hb;obtain⟨k1,e1⟩:∃k,k=1+2 * (x.Own.length:Int):=⟨_,rfl⟩;obtain⟨k2,e2⟩:∃k,k=k1+2 * (x.Frozen.length:Int):=⟨_,rfl⟩;obtain⟨k3,e3⟩:∃k,k=k2+2 * (x.Cells.length:Int):=⟨_,rfl⟩;obtain⟨k4,e4⟩:∃k,k=k3+4 * (x.Locks.length:Int):=⟨_,rfl⟩;obtain⟨k5,e5⟩:∃k,k=k4+((yr Q4 x.Helds:Nat):Int):=⟨_,rfl⟩;obtain⟨k6,e6⟩:∃k,k=k5+1 * (x.Wounded.length:Int):=⟨_,rfl⟩;obtain⟨k7,e7⟩:∃k,k=k6+1 * (x.Ended.length:Int):=⟨_,rfl⟩;have a1:jv x.Own 1=some (k1,jC 1 x.Own.length):=by rw[e1];exact zan x.Own 1 (by omega) (by omega) (by omega)
 have a2:jv x.Frozen k1=some (k2,jC k1 x.Frozen.length):=by rw[e2];exact zan x.Frozen k1 (by omega) (by omega) (by omega)
 have a3:yD x.Cells k2=some (k3,Z1 k2 x.Cells.length):=by rw[e3];exact zc8 x.Cells k2 (by omega) (by omega) (by omega)
 have a4:yS x.Locks k3=some (k4,ZZ k3 x.Locks.length):=by rw[e4];exact zfK x.Locks k3 (by omega) (by omega) (by omega)
 have a5:yP x.Helds k4=some (k5,Z5 x.Helds k4):=by rw[e5];exact zfF x.Helds k4 hH (by omega) (by omega)
 have a6:j0 x.Wounded k5=some (k6,yA k5 x.Wounded.length):=by rw[e6];exact zb5 x.Wounded k5 (by omega) (by omega) (by omega)
 have a7:j0 x.Ended k6=some (k7,yA k6 x.Ended.length):=by rw[e7];exact zb5 x.Ended k6 (by omega) (by omega) (by omega)
 have b1:js (jC 1 x.Own.length) 1=some k1:=by rw[e1];exact zak x.Own.length 1 (by omega) (by omega) (by omega)
 have b2:js (jC k1 x.Frozen.length) k1=some k2:=by rw[e2];exact zak x.Frozen.length k1 (by omega) (by omega) (by omega)
 have b3:j7 (Z1 k2 x.Cells.length) k2=some k3:=by rw[e3];exact zcG x.Cells.length k2 (by omega) (by omega) (by omega)
 have b4:yX (ZZ k3 x.Locks.length) k3=some k4:=by rw[e4];exact zfI x.Locks.length k3 (by omega) (by omega) (by omega)
 have b5:yW (Z5 x.Helds k4) k4=some k5:=by rw[e5];exact zfY x.Helds k4 hH (by omega) (by omega)
 have b6:jX (yA k5 x.Wounded.length) k5=some k6:=by rw[e6];exact zca x.Wounded.length k5 (by omega) (by omega) (by omega)
 have b7:jX (yA k6 x.Ended.length) k6=some k7:=by rw[e7];exact zca x.Ended.length k6 (by omega) (by omega) (by omega)
 have n1:¬k1 < 0:=by omega
 have n2:¬k2 < 0:=by omega
 have n3:¬k3 < 0:=by omega
 have n4:¬k4 < 0:=by omega
 have n5:¬k5 < 0:=by omega
 have n6:¬k6 < 0:=by omega
 have n7:¬k7 < 0:=by omega
 refine⟨(k7,zt.mk x.Me (jC 1 x.Own.length) (jC k1 x.Frozen.length) (Z1 k2 x.Cells.length) (ZZ k3 x.Locks.length) (Z5 x.Helds k4) (yA k5 x.Wounded.length) (yA k6 x.Ended.length) x.Rank),?_,by simp only;omega,by simp only[yM],by simp only[yM],by simp only[ZY],by simp only[Jk],by simp only[Ji],by simp only[ZM],by simp only[ZM],fun e f=> ?_⟩
 ·unfold yz;simp only[a1,a2,a3,a4,a5,a6,a7,yM,ZY,Jk,Ji,ZM,Option.bind_some,if_true]
 ·unfold yC;simp only[b1,b2,b3,b4,b5,b6,b7,n1,n2,n3,n4,n5,n6,n7,Option.bind_some,if_false]
def inB(lo hi:Int)(c:zr):Bool:=qp c.Key lo (IntKind.wrap .i64 (hi - 1))
theorem zko(a:zm)(z:Int):QQ a z=some (qp z a.Lo<|IntKind.wrap .i64 (a.Hi - 1)):=by
 unfold QQ;simp[zdP]
theorem zb3(xs:List zr)(c0:zm)(c1:Bool)(p:zr→Bool)(hp:∀v,Zw v c0 c1=some (p v))(h:xs.length≤1048576):qY xs c0 c1=some (zcX p xs):=by
 unfold qY;refine Ju xs p (by omega) (fun kb i hi=> ?_) (fun kb=> ?_)
 ·unfold jF;simp only[zO hi,Option.bind_some,hp,qi i _ hi (by omega)];rw[if_pos (by omega)]
 ·unfold jF;rw[if_neg (by omega)];rfl
theorem zc6(xs:List zr)(c0:zm)(c1:Bool)(p:zr→Bool)(hp:∀v,Zw v c0 c1=some (p v))(h:xs.length≤1048576):qQ xs c0 c1=some (xs.filter fun x=>!p x):=by
 unfold qQ;simp only[zb3 xs c0 c1 p hp h,Option.bind_some];split
 ·rename_i e;rw[zkb e]
 ·rename_i e;obtain⟨k0,e1,hk,h0⟩:=ziJ e;rw[e1,qi k0 _ hk (by omega)];obtain⟨ys,g1,g2,g3,g4⟩:=zjG (f:=qI c0 c1 qO) xs p (fun ys i=>some (ys.take i)) h k0 hk h0 (fun kb ys i j hj hij hl hx=>by
   unfold qI;have hi:i < ys.length:=by omega
   simp only[zft,hx,hp,Option.bind_some,qi j _ hj (by omega),qi i _ hi (by omega),Int.toNat_natCast,List.getElem?_eq_getElem hi];rw[if_pos (by omega)]) (fun kb ys i hi hl=>by
   unfold qI qO;simp only[Int.toNat_natCast];rw[if_neg (by omega),if_pos ⟨by omega,by omega,by omega⟩,if_pos (by omega),if_pos ⟨by omega,by omega,by omega⟩,zgt _ _ (by omega)])
  rw[g4,g3]
def XK(xs:List zr)(a:zm)(b:Bool):List zr:=if qW xs&&qk a then xs.filter (fun c=>inB a.Lo a.Hi c == b) else[]
theorem zkt(xs:List zr)(a:zm)(b:Bool):(XK xs a b).length≤xs.length:=by
 unfold XK;split
 ·exact List.length_filter_le _ _
 ·simp
theorem zmb(xs:List zr)(a:zm)(b:Bool)(h:xs.length≤1048576):Y6 xs a b=some (XK xs a b):=by
 unfold Y6 XK;by_cases hg:qW xs=true
 ·by_cases hr:qk a=true
  ·rw[zdj xs (fun c=>inB a.Lo a.Hi c == b) (fun ys=>some ys) h (fun kb ys i hi hy=> ?_) (fun kb ys=> ?_)]
   ·simp[hg,hr]
   ·unfold Qm;simp only[YW _ h,yI,hg,hr,zO hi,Option.bind_some,zfy,qi i _ hi (by omega),if_true];rw[if_pos (by omega)];by_cases c:(inB a.Lo a.Hi xs[i] == b)=true
    ·rw[if_pos c,if_pos (by unfold inB at c;exact c),if_pos (by simp;omega)]
    ·rw[if_neg c,if_neg (by unfold inB at c;exact c)]
   ·unfold Qm Ql;rw[if_neg (by omega)]
  ·unfold FU iter Qm Ql;simp[YW _ h,yI,hg,hr]
 ·unfold FU iter Qm Ql;simp[YW _ h,hg]
theorem zmR(xs:List zr)(a:zm)(b:Bool)(h:xs.length≤1048576):kh xs a b=some (XK xs a b):=by
 unfold kh XK Yv;simp only[zaH _ h,QW,Option.bind_some,zeB _ h,zc6 xs a b (fun c=>(inB a.Lo a.Hi c != b)) (fun v=>by simp[Zw,zko,inB]) h];cases qW xs<;>cases qk a<;>simp<;>exact List.filter_congr fun x _=>by cases inB a.Lo a.Hi x<;>cases b<;>rfl
theorem zlS(xs:List zu)(fs:List Int){j:Nat}(hj:j < fs.length):(xs.filter fun l=>!(fs.take j).contains l.Tx).filter (fun l=>decide (l.Tx=fs[j]) == false)=xs.filter fun l=>!(fs.take (j+1)).contains l.Tx:=by
 rw[List.filter_filter];refine List.filter_congr fun l _=> ?_;rw[List.take_succ_eq_append_getElem hj,List.contains_eq_any_beq,List.contains_eq_any_beq,List.any_append];by_cases h:l.Tx=fs[j]<;>cases(fs.take j).any (fun a=>l.Tx == a)<;>simp[h]
theorem zhH(xs:List zu)(held:List Int)(tx:Int)(a:zm)(mode:Int)(h:xs.length≤1048576)(h2:held.length≤1048576):QY xs held tx a mode=some (zcn xs held tx a mode):=by
 unfold QY zcn;simp only[zgC _ _ _ _ _ h,Option.bind_some];cases hk:ks xs held tx a mode
 ·simp
 ·have hk':=hk;unfold ks at hk';simp only[Bool.and_eq_true,decide_eq_true_eq] at hk';obtain⟨⟨⟨⟨hg,_⟩,_⟩,hr⟩,hm⟩:=hk';have hle:=Qr hg;rw[if_pos rfl,if_pos rfl,if_pos (by omega)];simp only[zeg xs tx a mode hg hr hm,zev _ _ _ _ _ h h2,zid xs ⟨tx,a.Lo,a.Hi,mode⟩ hg hr,Option.bind_some];by_cases c1:xs.any (YN tx a mode)=true
  ·rw[if_pos c1,if_pos c1]
  ·rw[if_neg c1,if_neg c1];have hw:zgk xs held tx a mode=(Qb xs tx a mode).filter (zad tx held):=by
    unfold zgk;rw[hk,Bool.eq_false_iff.2 c1];rfl
   rw[hw];by_cases c2:0 < ((Qb xs tx a mode).filter<|zad tx held).length
   ·rw[if_pos c2,if_pos (by omega)]
   ·rw[if_neg c2,if_neg (by omega)];have hfl:=zbY xs tx a mode;show iter (Q5 (Qb xs tx a mode)<|Jl xs tx a mode<|Qb xs tx a mode) FU (xs,0)=_;generalize Qb xs tx a mode=fs at hfl;have hF:=fun j=>List.length_filter_le (fun l:zu=>!(fs.take j).contains l.Tx) xs;have h0:xs.filter (fun l:zu=>!(fs.take 0).contains l.Tx)=xs:=by simp
    refine qJ (fun j=>(xs.filter fun l=>!(fs.take j).contains l.Tx,(j:Int))) _ fs.length (by omega) (fun kb j hj=> ?_) (fun kb=> ?_) (by rw[h0];rfl)
    ·have hl:=hF j;unfold Q5;simp only[zO hj,Option.bind_some,qi j _ hj (by omega),ziy _ _ _ (show(xs.filter fun l=>!(fs.take j).contains l.Tx).length≤1048576 by omega),zlS xs fs hj];rw[if_pos (by omega)]
    ·have hl:=hF fs.length;rw[List.take_length] at hl ⊢;unfold Q5 Jl;rw[if_neg (Int.lt_irrefl _)];dsimp only;by_cases c3:(xs.filter fun l=>!fs.contains l.Tx).length=40
     ·rw[if_pos c3,if_pos (by omega),if_pos (by omega)]
     ·rw[if_neg c3,if_neg (by omega),if_pos (by rw[List.length_append,List.length_singleton];omega)]
theorem zmf(xs:List zu)(held:List Int)(tx:Int)(a:zm)(mode:Int):(zcn xs held tx a mode).1.length≤xs.length+1∧(zcn xs held tx a mode).2.1.length≤xs.length∧(ks xs held tx a mode=true→xs.length≤40):=by
 have hf:=List.length_filter_le (fun l:zu=>!(Qb xs tx a mode).contains l.Tx) xs;have hfl:=zbY xs tx a mode;refine⟨?_,?_,fun hk=> ?_⟩
 ·unfold zcn;split
  ·split
   ·simp
   ·split
    ·simp
    ·split
     ·simp
     ·show(_++_:List zu).length≤_;rw[List.length_append,List.length_singleton];omega
  ·simp
 ·unfold zcn;split
  ·split
   ·simp
   ·split
    ·simp
    ·split
     ·simp
     ·exact hfl
  ·simp
 ·unfold ks at hk;simp only[Bool.and_eq_true,decide_eq_true_eq] at hk;exact Qr hk.1.1.1.1
def QB(xs ts:List Int):List Int:=ts.foldl (fun acc t=>iL t acc false) xs
theorem zj4(xs ts:List Int)(t:Int):QB xs (ts++[t])=iL t (QB xs ts) false:=by simp[QB]
theorem za6(xs:List Int){ts:List Int}{i:Nat}(hi:i < ts.length):QB xs (ts.take (i+1))=iL ts[i] (QB xs<|ts.take i) false:=by
 rw[List.take_succ_eq_append_getElem hi,zj4]
theorem zcb(xs ts:List Int):∀i,i≤ts.length→(QB xs<|ts.take i).length≤xs.length+i
 |0,_=>by simp[QB]
 |i+1,h=>by
  have ih:=zcb xs ts i (by omega);rw[za6 xs (show i < ts.length by omega)];have:=zkG ts[i] (QB xs<|ts.take i) false;simp only[Bool.false_eq_true,if_false] at this;omega
theorem zhf{xs:List Int}(hx:zdb xs)(ts:List Int):∀i,i≤ts.length→zdb (QB xs<|ts.take i)
 |0,_=>by simpa[QB] using hx
 |i+1,h=>by
  rw[za6 xs (show i < ts.length by omega)];exact zgU _ _ false (zhf hx ts i (by omega))
def xn(s:zt)(tx:Int)(a:zm):List zu×List Int×Int:=zcn s.Locks (QC s) tx a 1
def zfV(s:zt)(tx:Int)(a:zm):zt×List zr×Int:=
 if zab s&&qp tx 1 60&&qk a then
  (if s.Ended.contains tx||(QC s).contains tx then(s,[],2)
  else if s.Wounded.contains tx then(s,[],3)
  else if yY s.Own a&&!zax s.Frozen a then
   (if (xn s tx a).2.2=2 then(s,[],5) else if (xn s tx a).2.2=3 then(s,[],6)
   else(⟨s.Me,s.Own,s.Frozen,s.Cells,(xn s tx a).1,s.Helds,QB s.Wounded (xn s tx a).2.1,s.Ended,s.Rank⟩,XK s.Cells a true,0))
  else(s,[],4))
 else(zbp,[],1)
theorem zbV{s:zt}(h:zab s=true):jQ (QC s)=true∧jQ s.Wounded=true:=by
 unfold zab zia at h;simp only[Bool.and_eq_true] at h;have this:(List.range s.Helds.length).all (YZ s)=true:=h.2.1.2;rw[ziw] at this;simp only[Bool.and_eq_true] at this;exact⟨this.1.2,h.1.2.1.2⟩
theorem zdv{s:zt}{tx:Int}{a:zm}(hs:zab s=true)(hx:qp tx 1 60=true)(hr:qk a=true):
  ((xn s tx a).2.2=0∨(xn s tx a).2.2=2∨(xn s tx a).2.2=3)∧(∀x∈(xn s tx a).2.1,∀l∈(xn s tx a).1,¬l.Tx=x)∧(xn s tx a).1.length≤41∧(xn s tx a).2.1.length≤40:=by
 have hg:=(zcd hs).2.2.2;have hle:=Qr hg;have htl:=Kl (zbV hs).1;have hl:=zmf s.Locks (QC s) tx a 1;have hok:ks s.Locks (QC s) tx a 1=true:=by
  unfold ks;rw[hg,hx,hr,decide_eq_true (by omega)];rfl
 unfold xn;refine⟨?_,?_,by omega,by omega⟩
 ·unfold zcn;rw[if_pos hok];split
  ·exact .inl rfl
  ·split
   ·exact .inr (.inl O)
   ·split
    ·exact .inr (.inr O)
    ·exact .inl rfl
 ·unfold zcn;rw[if_pos hok];split
  ·intro x hx;cases hx
  ·split
   ·intro x hx;cases hx
   ·split
    ·intro x hx;cases hx
    ·intro x hx l hlm e;simp only at hx hlm;rw[List.mem_append] at hlm;rcases hlm with hlm|hlm
     ·rw[List.mem_filter] at hlm;have:=hlm.2;rw[e] at this;simp only[Bool.not_eq_true',List.contains_eq_mem] at this;have:=of_decide_eq_false this;exact this hx
     ·rw[List.mem_singleton] at hlm;subst hlm;simp only at e;subst e;unfold Qb at hx;rw[(Xs _).2.1] at hx;unfold Kj at hx;rw[List.mem_map] at hx;obtain⟨l,hl1,hl2⟩:=hx;rw[List.mem_filter] at hl1;have:=hl1.2;unfold jA at this;simp only[Bool.and_eq_true,decide_eq_true_eq] at this;exact this.1.1 hl2.symm
theorem zlZ(s:zt)(tx:Int)(h:s.Helds.length≤1048576):Y3 s tx=some ((QC s).contains tx):=by
 unfold Y3;rw[zen s.Helds (fun c=>decide (c.Tx=tx)) (some true) (some false) (by omega) (fun kb i hi=> ?_) (fun kb=> ?_)]
 ·have e:s.Helds.any (fun c=>decide (c.Tx=tx))=(QC s).contains tx:=by
   rw[Bool.eq_iff_iff,List.any_eq_true,List.contains_iff_mem];unfold QC;simp[List.mem_map]
  rw[e];cases(QC s).contains tx<;>rfl
 ·unfold kI;simp only[zO hi,Option.bind_some,qi i _ hi (by omega)];rw[if_pos (by omega)];by_cases e:s.Helds[i].Tx=tx<;>simp[e]
 ·unfold kI kZ;rw[if_neg (by omega)]
theorem zi8(s:zt)(h:s.Helds.length≤1048576):Qu s=some (QC s):=by
 unfold Qu;refine qJ (fun i=>((QC s).take i,(i:Int))) _ s.Helds.length (by omega) (fun kb i hi=> ?_) (fun kb=> ?_) (by simp)
 ·have hl:i < (QC s).length:=by unfold QC;simpa using hi
  have hg:(QC s)[i]=s.Helds[i].Tx:=List.getElem_map _;unfold Js;simp only[zO hi,Option.bind_some,qi i _ hi (by omega),List.take_succ_eq_append_getElem hl,hg];rw[if_pos (by omega),if_pos (by simp;omega)]
 ·unfold Js JJ;rw[if_neg (by simp)];have:(QC s).length=s.Helds.length:=by unfold QC;simp
  simp only;rw[←this,List.take_length]
theorem zk9(s:zt)(ts:List Int)(hn:∀x∈ts,∀l∈s.Locks,¬l.Tx=x)(h1:s.Locks.length≤1048576)(h2:s.Wounded.length+ts.length≤1000):JT s ts=some ⟨s.Me,s.Own,s.Frozen,s.Cells,s.Locks,s.Helds,QB s.Wounded ts,s.Ended,s.Rank⟩:=by
 unfold JT;refine qJ (fun i=>((i:Int),s.Locks,QB s.Wounded<|ts.take i)) _ ts.length (by omega) (fun kb i hi=> ?_) (fun kb=> ?_) (by simp[QB])
 ·have hl:=zcb s.Wounded ts i (by omega);have hf:s.Locks.filter (fun l=>decide (l.Tx=ts[i]) == false)=s.Locks:=by
   rw[List.filter_eq_self];intro l hlm;have:=hn ts[i] (List.getElem_mem hi) l hlm;simp[this]
  unfold xK;simp only[zO hi,Option.bind_some,qi i _ hi (by omega),ziy _ _ _ h1,hf,zjw _ _ (show(QB s.Wounded<|ts.take i).length≤1048576 by omega),za6 s.Wounded hi];rw[if_pos (by omega)]
 ·unfold xK xw;rw[if_neg (by simp),List.take_length]
theorem zfs(s:zt)(tx:Int)(a:zm)(h:zw s≤1048576):Jj s tx a=some (zfV s tx a):=by
 have hc:s.Cells.length≤1048576:=by unfold zw at h;omega
 have hk:s.Locks.length≤1048576:=by unfold zw at h;omega
 have hw:s.Wounded.length≤1048576:=by unfold zw at h;omega
 have he:s.Ended.length≤1048576:=by unfold zw at h;omega
 have hf:s.Frozen.length≤1048576:=by unfold zw at h;omega
 have ho:s.Own.length≤1048576:=by unfold zw at h;omega
 have hh:s.Helds.length≤1048576:=by unfold zw z8 at h;omega
 have hth:(QC s).length≤1048576:=by unfold QC;simpa using hh
 have J:yH s tx a true=some (zbp,[],1):=rfl;unfold Jj zfV;simp only[zf6 _ h,zeJ,yI,Option.bind_some];cases hs:zab s with
 |false=>simpa using J
 |true=>
  cases hx:qp tx 1 60 with
  |false=>simpa using J
  |true=>
   cases hr:qk a with
   |false=>simpa using J
   |true=>
    obtain⟨f1,f2,f3,f4⟩:=zdv hs hx hr;have hsm:=zfE hs;obtain⟨k1,k2,_,_⟩:=zcd hs;simp only[if_true,Bool.not_true,Bool.and_self];unfold yH;rw[if_neg (by simp)];have tail:∀t:Bool,Zk s s tx a t=some (if t=true then(s,[],2) else if s.Wounded.contains tx then(s,[],3) else if yY s.Own a&&!zax s.Frozen a then
      (if (xn s tx a).2.2=2 then(s,[],5) else if (xn s tx a).2.2=3 then(s,[],6)
      else(⟨s.Me,s.Own,s.Frozen,s.Cells,(xn s tx a).1,s.Helds,QB s.Wounded (xn s tx a).2.1,s.Ended,s.Rank⟩,XK s.Cells a true,0)) else(s,[],4)):=by
     intro t;unfold Zk;cases t with
     |true=>rfl
     |false=>
      simp only[Bool.false_eq_true,if_false,KQ _ _ hw,Option.bind_some];cases s.Wounded.contains tx with
      |true=>simp only[if_true]
      |false=>
       have hfree:YK s a=some (yY s.Own a&&!zax s.Frozen a):=by
        unfold YK;simp only[zf3 ho k1 hr,zkJ _ _ hf k2 hr,Option.bind_some];cases yY s.Own a<;>simp
       simp only[Bool.false_eq_true,if_false,hfree,Option.bind_some];cases yY s.Own a&&!zax s.Frozen a with
       |false=>simp only[Bool.false_eq_true,if_false]
       |true=>
        have eA:QY s.Locks (QC s) tx a 1=some (xn s tx a):=zhH _ _ _ _ _ hk hth;simp only[if_true,zi8 _ hh,eA,Option.bind_some];have hwd:s.Wounded.length≤60:=Kl (zbV hs).2;have eW:=zk9 ⟨s.Me,s.Own,s.Frozen,s.Cells,(xn s tx a).1,s.Helds,s.Wounded,s.Ended,s.Rank⟩ (xn s tx a).2.1 f2 (by simp only;omega) (by simp only;omega);have eS:Q7 s.Cells a=some (XK s.Cells a true):=by
         unfold Q7;rw[zmb _ _ _ hc];rfl
        rcases f1 with e|e|e
        ·rw[if_neg (by rw[e];simp),if_neg (by rw[e];decide),if_neg (by rw[e];decide),eW];simp only[Option.bind_some,eS]
        ·rw[if_pos (by rw[e];decide),if_pos e,e];rfl
        ·rw[if_pos (by rw[e];decide),if_neg (by rw[e];decide),if_pos e,e];rfl
    simp only[zmd _ h,KQ _ _ he,zlZ _ _ hh,Option.bind_some,tail];cases s.Ended.contains tx with
    |true=>simp only[if_true,Bool.true_or]
    |false=>simp only[Bool.false_eq_true,if_false,Bool.false_or]
theorem zC7(s:zt)(tx:Int)(a:zm)(h:zw s≤1048576)(hs:zab s=true)(hx:qp tx 1 60=true)(hr:qk a=true):
  QZ s tx a 1=some (if (xn s tx a).2.2=2 then(5,s) else if (xn s tx a).2.2=3 then(6,s) else(0,⟨s.Me,s.Own,s.Frozen,s.Cells,(xn s tx a).1,s.Helds,QB s.Wounded (xn s tx a).2.1,s.Ended,s.Rank⟩)):=by
 have hk:s.Locks.length≤1048576:=by unfold zw at h;omega
 have hh:s.Helds.length≤1048576:=by unfold zw z8 at h;omega
 have hth:(QC s).length≤1048576:=by unfold QC;simpa using hh
 obtain⟨f1,f2,f3,f4⟩:=zdv hs hx hr;have eA:Je s.Locks (QC s) tx a 1=some (xn s tx a):=zhO _ _ _ _ _ hk hth;have eT:yZ s.Helds=some (QC s):=zgn _ hh;have hwd:s.Wounded.length≤60:=Kl (zbV hs).2;have hasc:zdb s.Wounded:=List.pairwise_iff_getElem.2 fun i j hi hj hij=>zb8 (zbV hs).2 hj hij;unfold QZ;simp only[eT,eA,Option.bind_some];split
 ·rfl
 ·split
  ·rfl
  ·refine qJ (fun i=>((i:Int),QB s.Wounded<|(xn s tx a).2.1.take i)) _ (xn s tx a).2.1.length (by omega) (fun kb i hi=> ?_) (fun kb=> ?_) (by simp[QB])
   ·have hl:=zcb s.Wounded (xn s tx a).2.1 i (by omega);have ha:=zhf hasc (xn s tx a).2.1 i (by omega);unfold JD;simp only[zO hi,Option.bind_some,qi i _ hi (by omega),zd1 _ _ ha (show(QB s.Wounded<|(xn s tx a).2.1.take i).length≤1048576 by omega),za6 s.Wounded hi];rw[if_pos (by omega)]
   ·unfold JD Jr;rw[if_neg (by simp),List.take_length]
theorem zfc(s:zt)(tx:Int)(a:zm)(h:zw s≤1048576):ZR s tx a=some (zfV s tx a):=by
 have hc:s.Cells.length≤1048576:=by unfold zw at h;omega
 have hw:s.Wounded.length≤1048576:=by unfold zw at h;omega
 have he:s.Ended.length≤1048576:=by unfold zw at h;omega
 have hf:s.Frozen.length≤1048576:=by unfold zw at h;omega
 have ho:s.Own.length≤1048576:=by unfold zw at h;omega
 have hh:s.Helds.length≤1048576:=by unfold zw z8 at h;omega
 have hth:(QC s).length≤1048576:=by unfold QC;simpa using hh
 have J:yJ s tx a true=some (zbp,[],1):=rfl;unfold ZR zfV;simp only[zg2 _ h,zjj,QW,Option.bind_some];cases hs:zab s with
 |false=>simpa using J
 |true=>
  cases hx:qp tx 1 60 with
  |false=>simpa using J
  |true=>
   cases hr:qk a with
   |false=>simpa using J
   |true=>
    obtain⟨f1,f2,f3,f4⟩:=zdv hs hx hr;simp only[if_true,Bool.not_true,Bool.and_self];unfold yJ;rw[if_neg (by simp)];have eT:yZ s.Helds=some (QC s):=zgn _ hh;have eH:ky s tx=some ((QC s).contains tx):=by
     unfold ky;simp only[eT,Jd _ _ hth,Option.bind_some]
    have tail:∀t:Bool,Zl s s tx a t=some (if t=true then(s,[],2) else if s.Wounded.contains tx then(s,[],3) else if yY s.Own a&&!zax s.Frozen a then
      (if (xn s tx a).2.2=2 then(s,[],5) else if (xn s tx a).2.2=3 then(s,[],6)
      else(⟨s.Me,s.Own,s.Frozen,s.Cells,(xn s tx a).1,s.Helds,QB s.Wounded (xn s tx a).2.1,s.Ended,s.Rank⟩,XK s.Cells a true,0)) else(s,[],4)):=by
     intro t;unfold Zl;cases t with
     |true=>rfl
     |false=>
      simp only[Bool.false_eq_true,if_false,Jd _ _ hw,Option.bind_some];cases s.Wounded.contains tx with
      |true=>simp only[if_true]
      |false=>
       have hfree:KL s a=some (yY s.Own a&&!zax s.Frozen a):=by
        unfold KL;simp only[zdm _ _ ho,zlV _ _ hf,Option.bind_some];cases yY s.Own a<;>simp
       simp only[Bool.false_eq_true,if_false,hfree,Option.bind_some];cases yY s.Own a&&!zax s.Frozen a with
       |false=>simp only[Bool.false_eq_true,if_false]
       |true=>
        have eS:Jb s.Cells a=some (XK s.Cells a true):=by
         unfold Jb;rw[zmR _ _ _ hc];rfl
        simp only[if_true,zC7 s tx a h hs hx hr,Option.bind_some,zfO _ h,eS];rcases f1 with e|e|e
        ·simp[e]
        ·simp[e]
        ·simp[e]
    simp only[zfO _ h,Jd _ _ he,eH,Option.bind_some,tail];cases s.Ended.contains tx with
    |true=>simp only[if_true,Bool.true_or]
    |false=>simp only[Bool.false_eq_true,if_false,Bool.false_or]
theorem zkV(s:zt)(tx:Int)(a:zm)(h:zw s≤1048576):zw (zfV s tx a).1≤1048576∧(zfV s tx a).2.1.length≤1048576:=by
 have hc:s.Cells.length≤1048576:=by unfold zw at h;omega
 have hz:zw zbp≤1048576:=by simp[zbp,zw,z8,yr]
 unfold zfV;split
 ·rename_i hk;simp only[Bool.and_eq_true] at hk;obtain⟨⟨hs,hx⟩,hr⟩:=hk;obtain⟨f1,f2,f3,f4⟩:=zdv hs hx hr;split
  ·exact⟨h,by simp⟩
  ·split
   ·exact⟨h,by simp⟩
   ·split
    ·split
     ·exact⟨h,by simp⟩
     ·split
      ·exact⟨h,by simp⟩
      ·have hsm:=zfE hs;have h1:=zcb s.Wounded (xn s tx a).2.1 _ (Nat.le_refl _);rw[List.take_length] at h1;have h2:=zkt s.Cells a true;refine⟨?_,by simp only;omega⟩;unfold zw at hsm ⊢;simp only;omega
    ·exact⟨h,by simp⟩
 ·exact⟨hz,by simp⟩
theorem zjL(x:zt)(h:zw x≤1048576):∃r:Int×zt,yz x 1=some r∧0≤r.1∧r.1≤1000000000000∧r.2.Own.length=x.Own.length∧r.2.Frozen.length=x.Frozen.length∧r.2.Cells.length=x.Cells.length∧r.2.Locks.length=x.Locks.length∧r.2.Helds.length=x.Helds.length∧r.2.Wounded.length=x.Wounded.length∧r.2.Ended.length=x.Ended.length∧
  ∀e f,yC (zt.mk e r.2.Own r.2.Frozen r.2.Cells r.2.Locks r.2.Helds r.2.Wounded r.2.Ended f) 1=some r.1:=by
 have hh:=h;unfold zw at hh;have hH:z8 x.Helds≤1048576:=by omega
 have hb:=za1 hH x.Helds.length;rw[List.take_length] at hb;obtain⟨k1,e1⟩:∃k,k=1+2 * (x.Own.length:Int):=⟨_,rfl⟩;obtain⟨k2,e2⟩:∃k,k=k1+2 * (x.Frozen.length:Int):=⟨_,rfl⟩;obtain⟨k3,e3⟩:∃k,k=k2+2 * (x.Cells.length:Int):=⟨_,rfl⟩;obtain⟨k4,e4⟩:∃k,k=k3+4 * (x.Locks.length:Int):=⟨_,rfl⟩;obtain⟨k5,e5⟩:∃k,k=k4+((yr Q4 x.Helds:Nat):Int):=⟨_,rfl⟩;obtain⟨k6,e6⟩:∃k,k=k5+1 * (x.Wounded.length:Int):=⟨_,rfl⟩;obtain⟨k7,e7⟩:∃k,k=k6+1 * (x.Ended.length:Int):=⟨_,rfl⟩;have a1:jv x.Own 1=some (k1,jC 1 x.Own.length):=by rw[e1];exact zan x.Own 1 (by omega) (by omega) (by omega)
 have a2:jv x.Frozen k1=some (k2,jC k1 x.Frozen.length):=by rw[e2];exact zan x.Frozen k1 (by omega) (by omega) (by omega)
 have a3:yD x.Cells k2=some (k3,Z1 k2 x.Cells.length):=by rw[e3];exact zc8 x.Cells k2 (by omega) (by omega) (by omega)
 have a4:yS x.Locks k3=some (k4,ZZ k3 x.Locks.length):=by rw[e4];exact zfK x.Locks k3 (by omega) (by omega) (by omega)
 have a5:yP x.Helds k4=some (k5,Z5 x.Helds k4):=by rw[e5];exact zfF x.Helds k4 hH (by omega) (by omega)
 have a6:j0 x.Wounded k5=some (k6,yA k5 x.Wounded.length):=by rw[e6];exact zb5 x.Wounded k5 (by omega) (by omega) (by omega)
 have a7:j0 x.Ended k6=some (k7,yA k6 x.Ended.length):=by rw[e7];exact zb5 x.Ended k6 (by omega) (by omega) (by omega)
 have b1:js (jC 1 x.Own.length) 1=some k1:=by rw[e1];exact zak x.Own.length 1 (by omega) (by omega) (by omega)
 have b2:js (jC k1 x.Frozen.length) k1=some k2:=by rw[e2];exact zak x.Frozen.length k1 (by omega) (by omega) (by omega)
 have b3:j7 (Z1 k2 x.Cells.length) k2=some k3:=by rw[e3];exact zcG x.Cells.length k2 (by omega) (by omega) (by omega)
 have b4:yX (ZZ k3 x.Locks.length) k3=some k4:=by rw[e4];exact zfI x.Locks.length k3 (by omega) (by omega) (by omega)
 have b5:yW (Z5 x.Helds k4) k4=some k5:=by rw[e5];exact zfY x.Helds k4 hH (by omega) (by omega)
 have b6:jX (yA k5 x.Wounded.length) k5=some k6:=by rw[e6];exact zca x.Wounded.length k5 (by omega) (by omega) (by omega)
 have b7:jX (yA k6 x.Ended.length) k6=some k7:=by rw[e7];exact zca x.Ended.length k6 (by omega) (by omega) (by omega)
 have n1:¬k1 < 0:=by omega
 have n2:¬k2 < 0:=by omega
 have n3:¬k3 < 0:=by omega
 have n4:¬k4 < 0:=by omega
 have n5:¬k5 < 0:=by omega
 have n6:¬k6 < 0:=by omega
 have n7:¬k7 < 0:=by omega
 refine⟨(k7,zt.mk x.Me (jC 1 x.Own.length) (jC k1 x.Frozen.length) (Z1 k2 x.Cells.length) (ZZ k3 x.Locks.length) (Z5 x.Helds k4) (yA k5 x.Wounded.length) (yA k6 x.Ended.length) x.Rank),?_,by simp only;omega,by simp only;omega,by simp only[yM],by simp only[yM],by simp only[ZY],by simp only[Jk],by simp only[Ji],by simp only[ZM],by simp only[ZM],fun e f=> ?_⟩
 ·unfold yz;simp only[a1,a2,a3,a4,a5,a6,a7,yM,ZY,Jk,Ji,ZM,Option.bind_some,if_true]
 ·unfold yC;simp only[b1,b2,b3,b4,b5,b6,b7,n1,n2,n3,n4,n5,n6,n7,Option.bind_some,if_false]
theorem zd0(a1:zt)(a2:Int)(a3:zm)(h1:zbs a1)(h2:inK .i64 a2)(h3:xz a3):Zm a1 a2 a3=some true:=by
 unfold Zm;rw[zmq a1 h1 _ (by omega) (by omega)];simp only[Option.bind_some];split
 ·rfl
 ·rename_i hz;have hl:zw a1≤1048576:=by omega
  have e1:=zfs a1 a2 a3 hl;have e2:=zfc a1 a2 a3 hl;obtain⟨hr,hr2⟩:=zkV a1 a2 a3 hl;generalize zfV a1 a2 a3=r at e1 e2 hr hr2;obtain⟨r1,r2,r3⟩:=r;simp only at hr hr2;obtain⟨m,g1,g2,g2',g3,g4,g5,g6,g7,g8,g9,g10⟩:=zjL r1 hr;obtain⟨n,f1,f2,f3,f4,f5,f6,f7,f8,f9,f10⟩:=zlc a1 hl;have q1:¬m.1 < 0:=by omega
  have q2:¬n.1 < 0:=by omega
  have k3:=zc8 r2 m.1 hr2 (by omega) (by omega);have k4:=zcG r2.length m.1 hr2 (by omega) (by omega);have q3:¬(m.1+2 * (r2.length:Int) < 0):=by omega
  simp[zmL _ hl,y0,e1,e2,ziP _ _ hr,ziP _ _ hl,zib _ _ hr2,f1,f3,f4,f5,f6,f7,f8,f9,g1,g3,g4,g5,g6,g7,g8,g9,g10,q1,q2,q3,k3,k4,ZY,jE,qZ,jD]
end Go.AW
