/- Plain laws: what the plain functions answer. Conditions: each theorem's own. -/
import Derived.Test.YtpabbbmfcgnhdaaGreatMResend
set_option linter.unusedVariables false
set_option linter.unusedSimpArgs false
set_option maxRecDepth 100000
namespace Go.AW
theorem w64{n:Int}(h1:-9223372036854775808≤n)(h2:n < 9223372036854775808):IntKind.wrap .i64 n=n:=by
 rw[IntKind.wrap_i64];omega
theorem qD{α:Type}{xs:List α}{i:Nat}(h:i < xs.length):idx xs (i:Int)=some xs[i]:=by
 unfold idx;rw[if_pos (by omega)];simp[h]
theorem zdV{α:Type}(xs:List α)(i:Nat):idx xs (i:Int)=xs[i]?:=by
 unfold idx;rw[if_pos (by omega)];simp
theorem zgS{S R:Type}{f:(S→Option R)→S→Option R}(st:Nat→S)(stop:Nat→Option (Option R))(k:Option R)(n:Nat)
  (hs:∀kb i,i < n→(∀j,j < i→stop j=none)→f kb (st i)=match stop i with|some r=>r|none=>kb (st (i+1))) (he:∀kb,(∀j,j < n→stop j=none)→f kb (st n)=k):
  ∀(m i:Nat),i≤n→(∀j,j < i→stop j=none)→n - i < m→iter f m (st i)=match ((List.range n).drop i).findSome? stop with|some r=>r|none=>k
 |0,i,_,_,h=>by omega
 |m+1,i,hi,hp,h=>by
  unfold iter;by_cases e:i=n
  ·subst e;rw[he _ hp];simp[List.drop_eq_nil_of_le]
  ·have hlt:i < n:=by omega
   rw[hs _ i hlt hp,List.drop_eq_getElem_cons (by simpa using hlt)];simp only[List.getElem_range,List.findSome?_cons];cases hq:stop i with
   |some r=>rfl
   |none=>exact zgS st stop k n hs he m (i+1) (by omega) (fun j hj=>by
     by_cases e':j=i
     ·subst e';exact hq
     ·exact hp j (by omega)) (by omega)
theorem zcf{S R:Type}{f:(S→Option R)→S→Option R}(st:Nat→S)(stop:Nat→Option (Option R))(k:Option R)(n:Nat)(hn:n≤1152921504606846976)
  (hs:∀kb i,i < n→(∀j,j < i→stop j=none)→f kb (st i)=match stop i with|some r=>r|none=>kb (st (i+1))) (he:∀kb,(∀j,j < n→stop j=none)→f kb (st n)=k) {s0:S} (h0:s0=st 0):
  iter f FU s0=match (List.range n).findSome? stop with|some r=>r|none=>k:=by
 subst h0;have:=zgS st stop k n hs he FU 0 (by omega) (fun j hj=>by omega) (by unfold FU;omega);simpa using this
theorem zdL{S R:Type}{f:(S→Option R)→S→Option R}(st:Nat→S)(stop:Nat→Option (Option R))(k:Option R)(n:Nat)(hn:n≤1152921504606846976)
  (hs:∀kb i,i < n→f kb (st i)=match stop i with|some r=>r|none=>kb (st (i+1))) (he:∀kb,f kb (st n)=k) {s0:S} (h0:s0=st 0):
  iter f FU s0=match (List.range n).findSome? stop with|some r=>r|none=>k:=
 zcf st stop k n hn (fun kb i hi _=>hs kb i hi) (fun kb _=>he kb) h0
theorem ym{S R:Type}{f:(S→Option R)→S→Option R}(st:Nat→S)(k:Option R)(n:Nat)(hn:n≤1152921504606846976)
  (hs:∀kb i,i < n→f kb (st i)=kb (st (i+1))) (he:∀kb,f kb (st n)=k) {s0:S} (h0:s0=st 0):iter f FU s0=k:=by
 rw[zdL st (fun _=>none) k n hn (fun kb i hi=>hs kb i hi) he h0];have:(List.range n).findSome? (fun _=>(none:Option (Option R)))=none:=by
  rw[List.findSome?_eq_none_iff];intro x _;rfl
 rw[this]
theorem zb5{S R:Type}{f:(S→Option R)→S→Option R}(st:Nat→S)(good:Nat→Bool)(r k:Option R)(n:Nat)(hn:n≤1152921504606846976)
  (hs:∀kb i,i < n→(∀j,j < i→good j=true)→f kb (st i)=if good i=true then kb (st (i+1)) else r) (he:∀kb,(∀j,j < n→good j=true)→f kb (st n)=k) {s0:S} (h0:s0=st 0):
  iter f FU s0=if (List.range n).all good=true then k else r:=by
 have tr:∀j,(if good j=true then(none:Option (Option R)) else some r)=none→good j=true:=fun j h=>by
  split at h
  ·assumption
  ·cases h
 rw[zcf st (fun i=>if good i=true then none else some r) k n hn (fun kb i hi hp=>by rw[hs kb i hi (fun j hj=>tr j (hp j hj))];split<;>rfl) (fun kb hp=>he kb (fun j hj=>tr j (hp j hj))) h0];by_cases e:(List.range n).all good=true
 ·have:(List.range n).findSome? (fun i=>if good i=true then none else some r)=none:=by
   rw[List.findSome?_eq_none_iff];intro x hx;rw[List.all_eq_true] at e;simp[e x hx]
  rw[this,if_pos e]
 ·rw[if_neg e];cases h:(List.range n).findSome? (fun i=>if good i=true then none else some r) with
  |none=>
   exfalso;apply e;rw[List.all_eq_true];intro x hx;rw[List.findSome?_eq_none_iff] at h;exact tr x (h x hx)
  |some q=>
   obtain⟨x,hx,hq⟩:=List.exists_of_findSome?_eq_some h;split at hq
   ·cases hq
   ·cases hq;rfl
theorem Qe{S R:Type}{f:(S→Option R)→S→Option R}(st:Nat→S)(good:Nat→Bool)(r k:Option R)(n:Nat)(hn:n≤1152921504606846976)
  (hs:∀kb i,i < n→f kb (st i)=if good i=true then kb (st (i+1)) else r) (he:∀kb,f kb (st n)=k) {s0:S} (h0:s0=st 0):
  iter f FU s0=if (List.range n).all good=true then k else r:=
 zb5 st good r k n hn (fun kb i hi _=>hs kb i hi) (fun kb _=>he kb) h0
theorem Ka{α R:Type}{f:(List α×Int→Option R)→List α×Int→Option R}(xs:List α)(z:α)(k:List α→Option R)(hn:xs.length≤2147483648)
  (hs:∀kb (ys:List α) (i:Nat) (hi:i < xs.length),ys.length=xs.length→f kb (ys,(i:Int))=kb (ys.set i xs[i],((i+1:Nat):Int)))
  (he:∀kb (ys:List α),f kb (ys,(xs.length:Int))=k ys):iter f FU (List.replicate xs.length z,0)=k xs:=by
 refine ym (fun i=>(xs.take i++List.replicate (xs.length - i) z,(i:Int))) _ xs.length (by omega) (fun kb i hi=> ?_) (fun kb=> ?_) (by simp)
 ·rw[hs kb _ i hi (by simp;omega)];congr 2;have:xs.length - i=(xs.length - (i+1))+1:=by omega
  have hk:min i xs.length=i:=by omega
  show _=(List.take (i+1) xs++_);rw[this,List.replicate_succ,List.set_append_right _ _ (by simp;omega),show List.take (i+1) xs=List.take i xs++[xs[i]] from List.take_succ_eq_append_getElem hi];simp only[List.length_take,hk,Nat.sub_self,List.set_cons_zero];rw[List.append_assoc];rfl
 ·rw[he];simp
theorem YE{α:Type}[DecidableEq α]{xs ys:List α}(h:xs.length=ys.length):(List.range xs.length).all (fun i=>decide (xs[i]? =ys[i]?))=decide (xs=ys):=by
 by_cases e:xs=ys
 ·subst e;simp
 ·rw[decide_eq_false e,List.all_eq_false];apply Classical.byContradiction;intro hc;apply e;apply List.ext_getElem?;intro i;by_cases hi:i < xs.length
  ·apply Classical.byContradiction;intro hne;exact hc ⟨i,List.mem_range.2 hi,by simpa using hne⟩
  ·rw[List.getElem?_eq_none (by omega),List.getElem?_eq_none (by omega)]
theorem yl(i:Nat)(n:Nat)(h:i < n)(hn:n≤1152921504606846976):IntKind.wrap .i64 ((i:Int)+1)=((i+1:Nat):Int):=by
 rw[w64 (by omega) (by omega)];omega
def Xr{α:Type}(p:α→Bool)(xs:List α):Int:=match xs.findIdx? p with
 |some k=>(k:Int)
 |none=>-1
theorem K5{α:Type}(p:α→Bool)(xs:List α):decide (0≤Xr p xs)=xs.any p:=by
 unfold Xr;cases h:xs.findIdx? p with
 |none=>
  rw[List.findIdx?_eq_none_iff] at h;have:xs.any p=false:=by rw[List.any_eq_false];intro x hx;simp[h x hx]
  simp[this]
 |some k=>
  rw[List.findIdx?_eq_some_iff_getElem] at h;obtain⟨hk,hp,_⟩:=h;have:xs.any p=true:=List.any_eq_true.2 ⟨xs[k],List.getElem_mem hk,hp⟩;simp[this]
theorem kY{α:Type}(xs:List α)(p:α→Bool){f:(Int→Option Int)→Int→Option Int}(hn:xs.length≤1152921504606846976)
  (hs:∀kb (i:Nat) (hi:i < xs.length),f kb (i:Int)=if p xs[i]=true then some (i:Int) else kb ((i+1:Nat):Int)) (he:∀kb,f kb (xs.length:Int)=some (-1)):iter f FU 0=some (Xr p xs):=by
 rw[zdL (s0:=(0:Int)) (fun i=>(i:Int)) (fun i:Nat=>(xs[i]?).bind fun x=>if p x=true then some (some (i:Int)) else none) (some (-1)) xs.length hn (fun kb i hi=> ?_) (fun kb=>he kb) rfl]
 ·have key:∀(ys:List α) (o:Nat),(List.range ys.length).findSome? (fun i:Nat=>(ys[i]?).bind fun x=>if p x=true then some (some ((o+i:Nat):Int)) else none)=(ys.findIdx? p).map fun k=>some ((o+k:Nat):Int):=by
   intro ys;induction ys with
   |nil=>intro o;rfl
   |cons y ys ih=>
    intro o;rw[List.length_cons,List.range_succ_eq_map,List.findSome?_cons,List.findSome?_map,List.findIdx?_cons];simp only[List.getElem?_cons_zero,Option.bind_some];by_cases e:p y=true
    ·simp[e]
    ·simp only[e,if_false,Function.comp_def,List.getElem?_cons_succ,Bool.false_eq_true];have:=ih (o+1);rw[show(fun i:Nat=>(ys[i]?).bind fun x=>if p x=true then some (some ((o+(i+1):Nat):Int)) else none)=fun i:Nat=>(ys[i]?).bind fun x=>if p x=true then some (some ((o+1+i:Nat):Int)) else none from by funext i;rw[show o+(i+1)=o+1+i by omega]];rw[this];cases ys.findIdx? p<;>simp;omega
  have:=key xs 0;simp only[Nat.zero_add] at this;rw[this];unfold Xr;cases xs.findIdx? p<;>rfl
 ·rw[hs kb i hi,List.getElem?_eq_getElem hi];simp only[Option.bind_some];by_cases e:p xs[i]=true<;>simp[e]
theorem zha{α:Type}(xs:List α)(p:α→Bool):((List.range xs.length).all fun i=>((xs[i]?).map p).getD true)=xs.all p:=by
 rw[Bool.eq_iff_iff,List.all_eq_true,List.all_eq_true];constructor
 ·intro H x hx;obtain⟨i,hi,rfl⟩:=List.mem_iff_getElem.1 hx;have:=H i (List.mem_range.2 hi);rw[List.getElem?_eq_getElem hi] at this;exact this
 ·intro H i hi;have hi:=List.mem_range.1 hi;rw[List.getElem?_eq_getElem hi];exact H _ (List.getElem_mem hi)
theorem zcl{α R:Type}(xs:List α)(p:α→Bool)(r k:Option R){f:(Int→Option R)→Int→Option R}(hn:xs.length≤1152921504606846976)
  (hs:∀kb (i:Nat) (hi:i < xs.length),f kb (i:Int)=if p xs[i]=true then kb ((i+1:Nat):Int) else r) (he:∀kb,f kb (xs.length:Int)=k):iter f FU 0=if xs.all p=true then k else r:=by
 rw[Qe (s0:=(0:Int)) (fun i=>(i:Int)) (fun i=>((xs[i]?).map p).getD true) r k xs.length hn (fun kb i hi=> ?_) (fun kb=>he kb) rfl,zha xs p];rw[hs kb i hi,List.getElem?_eq_getElem hi];rfl
def jk{α:Type}(f:α→Nat):List α→Nat
 |[]=>0
 |x::xs=>f x+jk f xs
theorem QG{α:Type}(f:α→Nat):∀(xs ys:List α),jk f (xs++ys)=jk f xs+jk f ys
 |[],ys=>by simp[jk]
 |x::xs,ys=>by simp[jk,QG f xs ys];omega
theorem kK{α:Type}(f:α→Nat){xs:List α}{i:Nat}(hi:i < xs.length):jk f (xs.take (i+1))=jk f (xs.take i)+f xs[i]:=by
 rw[List.take_succ_eq_append_getElem hi,QG];simp[jk]
theorem X1{α:Type}(f:α→Nat)(xs:List α)(i:Nat):jk f (xs.take i)≤jk f xs:=by
 have:=QG f (xs.take i) (xs.drop i);rw[List.take_append_drop] at this;omega
theorem ze8{α:Type}(f:α→Nat){xs:List α}{i:Nat}(hi:i < xs.length):f xs[i]≤jk f xs:=by
 have h1:=kK f hi;have h2:=X1 f xs (i+1);omega
theorem zgY(xs:List zT)(h:xs.length≤maxLen)(z:Int)(h1:0≤z)(h2:z≤1048576):QR xs z=some (if z < xs.length then -1 else z - xs.length):=by
 unfold QR;have:IntKind.wrap .i64 (z - (xs.length:Int))=z - xs.length:=by unfold maxLen at h;exact w64 (by omega) (by omega)
 rw[this];split<;>split<;>first|rfl|omega
theorem zhr(xs:List zT)(h:xs.length≤1048576):QS xs=some xs:=by
 unfold QS;rw[if_pos ⟨by omega,by omega⟩];simp only[Int.toNat_natCast];refine Ka xs _ JJ (by omega) (fun kb ys i hi hy=> ?_) (fun kb ys=> ?_)
 ·unfold JR;simp only[qD hi,qD (show i < ys.length by omega),YY,Option.bind_some,Int.toNat_natCast,yl i _ hi (by omega)];rw[if_pos (by omega)]
 ·unfold JR;rw[if_neg (by omega)]
theorem zh4(a b:zT):JD a b=some (decide (a=b)):=by
 unfold JD;cases a;cases b;simp only[zT.mk.injEq]
 repeat' split
 all_goals simp_all
theorem zgV(xs ys:List zT)(h:xs.length≤1048576):QV xs ys=some (decide (xs=ys)):=by
 unfold QV;split
 ·rename_i hl;have:¬xs=ys:=fun e=>hl (by rw[e]);simp[this]
 ·rename_i hl;have hl:xs.length=ys.length:=by omega
  rw[Qe (s0:=(0:Int)) (fun i=>(i:Int)) (fun i=>decide (xs[i]? =ys[i]?)) (some false) (some true) xs.length (by omega) (fun kb i hi=> ?_) (fun kb=> ?_) rfl,YE hl]
  ·by_cases e:xs=ys<;>simp[e]
  ·unfold JP;simp only[qD hi,qD (show i < ys.length by omega),zh4,Option.bind_some,yl i _ hi (by omega)];rw[if_pos (by omega),List.getElem?_eq_getElem hi,List.getElem?_eq_getElem (show i < ys.length by omega)];simp
  ·unfold JP;rw[if_neg (by omega)];rfl
theorem zhc(xs:List zS)(h:xs.length≤maxLen)(z:Int)(h1:0≤z)(h2:z≤1048576):QW xs z=some (if z < xs.length then -1 else z - xs.length):=by
 unfold QW;have:IntKind.wrap .i64 (z - (xs.length:Int))=z - xs.length:=by unfold maxLen at h;exact w64 (by omega) (by omega)
 rw[this];split<;>split<;>first|rfl|omega
theorem zg0(xs:List zS)(h:xs.length≤1048576):QO xs=some xs:=by
 unfold QO;rw[if_pos ⟨by omega,by omega⟩];simp only[Int.toNat_natCast];refine Ka xs _ JS (by omega) (fun kb ys i hi hy=> ?_) (fun kb ys=> ?_)
 ·unfold JQ;simp only[qD hi,qD (show i < ys.length by omega),YU,Option.bind_some,Int.toNat_natCast,yl i _ hi (by omega)];rw[if_pos (by omega)]
 ·unfold JQ;rw[if_neg (by omega)]
theorem zhW(a b:zS):Jx a b=some (decide (a=b)):=by
 unfold Jx;cases a;cases b;simp only[zS.mk.injEq]
 repeat' split
 all_goals simp_all
theorem zg9(xs ys:List zS)(h:xs.length≤1048576):QN xs ys=some (decide (xs=ys)):=by
 unfold QN;split
 ·rename_i hl;have:¬xs=ys:=fun e=>hl (by rw[e]);simp[this]
 ·rename_i hl;have hl:xs.length=ys.length:=by omega
  rw[Qe (s0:=(0:Int)) (fun i=>(i:Int)) (fun i=>decide (xs[i]? =ys[i]?)) (some false) (some true) xs.length (by omega) (fun kb i hi=> ?_) (fun kb=> ?_) rfl,YE hl]
  ·by_cases e:xs=ys<;>simp[e]
  ·unfold JX;simp only[qD hi,qD (show i < ys.length by omega),zhW,Option.bind_some,yl i _ hi (by omega)];rw[if_pos (by omega),List.getElem?_eq_getElem hi,List.getElem?_eq_getElem (show i < ys.length by omega)];simp
  ·unfold JX;rw[if_neg (by omega)];rfl
def jf(x:zK):Nat:=x.Cells.length+x.Seats.length
theorem zhd(x:zK)(h:kB x)(z:Int)(h1:0≤z)(h2:z≤1048576):QD x z=some (if z < (jf x:Int) then -1 else z - (jf x:Int)):=by
 unfold kB at h;obtain⟨o0,o1⟩:=h;unfold QD jf;rw[zgY x.Cells o0.1 _ (by omega) (by omega)];simp only[Option.bind_some];by_cases c0:z < (x.Cells.length:Int)
 ·rw[if_pos c0,if_pos (by omega)];try rw[if_pos (by omega)]
 rw[if_neg c0,if_neg (by omega)];rw[zhc x.Seats o1.1 _ (by omega) (by omega)];simp only[Option.bind_some];by_cases c1:z - (x.Cells.length:Int) < (x.Seats.length:Int)
 ·rw[if_pos c1,if_pos (by omega)];try rw[if_pos (by omega)]
 rw[if_neg c1,if_neg (by omega)]
 try rw[if_neg (by omega)]
 try (congr 1;omega)
theorem zhg(x:zK)(h:jf x≤1048576):QB x=some x:=by simp[QB,zhr _ (show x.Cells.length≤1048576 by unfold jf at h;omega),zg0 _ (show x.Seats.length≤1048576 by unfold jf at h;omega)]
theorem zhe(x y:zK)(h:jf x≤1048576):Q0 x y=some (decide (x=y)):=by
 unfold Q0;simp only[zgV _ _ (show x.Cells.length≤1048576 by unfold jf at h;omega),zg9 _ _ (show x.Seats.length≤1048576 by unfold jf at h;omega),Option.bind_some];cases x;cases y;simp only[zK.mk.injEq]
 repeat' split
 all_goals simp_all
theorem zgC(x y:ji):Q8 x y=some (decide (x=y)):=by
 unfold Q8;cases x;cases y;simp only[ji.mk.injEq]
 repeat' split
 all_goals simp_all
theorem zfY(xs:List zA)(h:xs.length≤maxLen)(z:Int)(h1:0≤z)(h2:z≤1048576):ZR xs z=some (if z < xs.length then -1 else z - xs.length):=by
 unfold ZR;have:IntKind.wrap .i64 (z - (xs.length:Int))=z - xs.length:=by unfold maxLen at h;exact w64 (by omega) (by omega)
 rw[this];split<;>split<;>first|rfl|omega
theorem zgc(xs:List zA)(h:xs.length≤1048576):ZS xs=some xs:=by
 unfold ZS;rw[if_pos ⟨by omega,by omega⟩];simp only[Int.toNat_natCast];refine Ka xs _ Jb (by omega) (fun kb ys i hi hy=> ?_) (fun kb ys=> ?_)
 ·unfold Q9;simp only[qD hi,qD (show i < ys.length by omega),Yo,xz,Option.bind_some,Int.toNat_natCast,yl i _ hi (by omega)];rw[if_pos (by omega)]
 ·unfold Q9;rw[if_neg (by omega)]
theorem zgZ(a b:zA):QA a b=some (decide (a=b)):=by
 unfold QA;simp only[zgC,Option.bind_some];cases a;cases b;simp only[zA.mk.injEq]
 repeat' split
 all_goals simp_all
theorem zfQ(xs ys:List zA)(h:xs.length≤1048576):Z5 xs ys=some (decide (xs=ys)):=by
 unfold Z5;split
 ·rename_i hl;have:¬xs=ys:=fun e=>hl (by rw[e]);simp[this]
 ·rename_i hl;have hl:xs.length=ys.length:=by omega
  rw[Qe (s0:=(0:Int)) (fun i=>(i:Int)) (fun i=>decide (xs[i]? =ys[i]?)) (some false) (some true) xs.length (by omega) (fun kb i hi=> ?_) (fun kb=> ?_) rfl,YE hl]
  ·by_cases e:xs=ys<;>simp[e]
  ·unfold Jd;simp only[qD hi,qD (show i < ys.length by omega),zgZ,Option.bind_some,yl i _ hi (by omega)];rw[if_pos (by omega),List.getElem?_eq_getElem hi,List.getElem?_eq_getElem (show i < ys.length by omega)];simp
  ·unfold Jd;rw[if_neg (by omega)];rfl
def z8(x:z4):Nat:=jf x.Image+x.Entries.length
theorem zgm(x:z4)(h:kV x)(z:Int)(h1:0≤z)(h2:z≤1048576):Je x z=some (if z < (z8 x:Int) then -1 else z - (z8 x:Int)):=by
 unfold kV at h;obtain⟨o0,o1,o2⟩:=h;unfold Je z8;rw[zhd x.Image o1 _ (by omega) (by omega)];simp only[Option.bind_some];by_cases c0:z < (jf x.Image:Int)
 ·rw[if_pos c0,if_pos (by omega)];try rw[if_pos (by omega)]
 rw[if_neg c0,if_neg (by omega)];rw[zfY x.Entries o2.1 _ (by omega) (by omega)];simp only[Option.bind_some];by_cases c1:z - (jf x.Image:Int) < (x.Entries.length:Int)
 ·rw[if_pos c1,if_pos (by omega)];try rw[if_pos (by omega)]
 rw[if_neg c1,if_neg (by omega)]
 try rw[if_neg (by omega)]
 try (congr 1;omega)
theorem zgr(x:z4)(h:z8 x≤1048576):Q7 x=some x:=by simp[Q7,zhg _ (show jf x.Image≤1048576 by unfold z8 at h;omega),zgc _ (show x.Entries.length≤1048576 by unfold z8 at h;omega)]
theorem zel(x y:z4)(h:z8 x≤1048576):ZM x y=some (decide (x=y)):=by
 unfold ZM;simp only[zhe _ _ (show jf x.Image≤1048576 by unfold z8 at h;omega),zfQ _ _ (show x.Entries.length≤1048576 by unfold z8 at h;omega),Option.bind_some];cases x;cases y;simp only[z4.mk.injEq]
 repeat' split
 all_goals simp_all
def qj(x:zE):Nat:=z8 x.Log
theorem zia(x:zE)(h:Y8 x)(z:Int)(h1:0≤z)(h2:z≤1048576):Js x z=some (if z < (qj x:Int) then -1 else z - (qj x:Int)):=by
 unfold Y8 at h;obtain⟨o0,o1,o2,o3,o4,o5,o6⟩:=h;unfold Js qj;rw[zgm x.Log o6 _ (by omega) (by omega)];simp only[Option.bind_some];by_cases c0:z < (z8 x.Log:Int)
 ·rw[if_pos c0,if_pos (by omega)];try rw[if_pos (by omega)]
 rw[if_neg c0,if_neg (by omega)]
 try rw[if_neg (by omega)]
 try (congr 1;omega)
theorem zis(x:zE)(h:qj x≤1048576):JE x=some x:=by simp[JE,zgr _ (show z8 x.Log≤1048576 by unfold qj at h;omega)]
theorem zih(x y:zE)(h:qj x≤1048576):Jv x y=some (decide (x=y)):=by
 unfold Jv;simp only[zel _ _ (show z8 x.Log≤1048576 by unfold qj at h;omega),Option.bind_some];cases x;cases y;simp only[zE.mk.injEq]
 repeat' split
 all_goals simp_all
def jg(xs:(List zE)):Nat:=xs.length+jk (fun y:zE=>qj y) xs
theorem zgX(xs:(List zE))(h:(okS Y8) xs)(z:Int)(h1:0≤z)(h2:z≤1048576):QK xs z=some (if z < (jg xs:Int) then -1 else z - (jg xs:Int)):=by
 unfold QK;have hm:=h.1;have hw:IntKind.wrap .i64 (z - (xs.length:Int))=z - xs.length:=by unfold maxLen at hm;exact w64 (by omega) (by omega)
 rw[hw];have hsz:(jg xs:Int)=xs.length+(jk (fun y:zE=>qj y) xs:Nat):=by unfold jg;omega
 rw[hsz];by_cases c:z < xs.length
 ·rw[if_pos (by omega),if_pos (by omega)]
 rw[if_neg (by omega)];rw[zb5 (fun i=>(z - (xs.length:Int) - (jk (fun y:zE=>qj y) (xs.take i):Nat),(i:Int))) (fun i=>decide ((jk (fun y:zE=>qj y) (xs.take (i+1)):Int)≤z - xs.length)) (some (-1)) (some (z - (xs.length:Int) - (jk (fun y:zE=>qj y) xs:Nat))) xs.length (by omega) (fun kb i hi hp=> ?_) (fun kb hp=> ?_) (by simp[jk])]
 ·by_cases c2:z < xs.length+(jk (fun y:zE=>qj y) xs:Nat)
  ·rw[if_pos c2,if_neg];rw[Bool.not_eq_true,List.all_eq_false];cases hn:xs.length with
   |zero=>
    have:xs=[]:=List.eq_nil_of_length_eq_zero hn;subst this;simp[jk] at c2 c;omega
   |succ n=>
    refine⟨n,by simp,?_⟩;have:xs.take (n+1)=xs:=by rw[←hn];simp
    rw[this,decide_eq_true_eq];omega
  ·rw[if_neg c2,if_pos]
   ·congr 1;omega
   ·rw[List.all_eq_true];intro i hi;have:=X1 (fun y:zE=>qj y) xs (i+1);simp only[decide_eq_true_eq];omega
 ·have h0:(jk (fun y:zE=>qj y) (xs.take i):Int)≤z - xs.length:=by
   cases i with
   |zero=>simp[jk];omega
   |succ j=>have:=hp j (by omega);simpa using this
  unfold JV;simp only[qD hi,Option.bind_some,yl i _ hi (by omega)];rw[if_pos (by omega),zia xs[i] (h.2 _<|List.getElem_mem hi) _ (by omega) (by omega),kK (fun y:zE=>qj y) hi];simp only[Option.bind_some,Int.natCast_add];by_cases c3:z - (xs.length:Int) - (jk (fun y:zE=>qj y) (xs.take i):Nat) < (qj (xs[i]):Nat)
  ·rw[if_pos c3,if_pos (by omega),if_neg (by simp;omega)]
  ·rw[if_neg c3,if_neg (by omega),if_pos (by simp;omega)];congr 2;omega
 ·unfold JV JI;rw[if_neg (by simp)];simp
theorem Qz{xs:(List zE)}(h:jg xs≤1048576):xs.length≤1048576∧∀i (hi:i < xs.length),qj (xs[i])≤1048576:=by
 unfold jg at h;refine⟨by omega,fun i hi=> ?_⟩;have:=ze8 (fun y:zE=>qj y) hi;omega
theorem zg5(xs:(List zE))(h:jg xs≤1048576):QE xs=some xs:=by
 obtain⟨hl,hs⟩:=Qz h;unfold QE;rw[if_pos ⟨by omega,by omega⟩];simp only[Int.toNat_natCast];refine Ka xs _ JW (by omega) (fun kb ys i hi hy=> ?_) (fun kb ys=> ?_)
 ·unfold JU;simp only[qD hi,qD (show i < ys.length by omega),zis _<|hs i hi,Option.bind_some,Int.toNat_natCast,yl i _ hi (by omega)];rw[if_pos (by omega)]
 ·unfold JU;rw[if_neg (by omega)]
theorem zhk(xs ys:(List zE))(h:jg xs≤1048576):QM xs ys=some (decide (xs=ys)):=by
 obtain⟨hl,hs⟩:=Qz h;unfold QM;split
 ·rename_i hl;have:¬xs=ys:=fun e=>hl (by rw[e]);simp[this]
 ·rename_i hl;have hl:xs.length=ys.length:=by omega
  rw[Qe (s0:=(0:Int)) (fun i=>(i:Int)) (fun i=>decide (xs[i]? =ys[i]?)) (some false) (some true) xs.length (by omega) (fun kb i hi=> ?_) (fun kb=> ?_) rfl,YE hl]
  ·by_cases e:xs=ys<;>simp[e]
  ·unfold JT;simp only[qD hi,qD (show i < ys.length by omega),zih _ _<|hs i hi,Option.bind_some,yl i _ hi (by omega)];rw[if_pos (by omega),List.getElem?_eq_getElem hi,List.getElem?_eq_getElem (show i < ys.length by omega)];simp
  ·unfold JT;rw[if_neg (by omega)];rfl
def qC(x:zu):Nat:=z8 x.Log+jg x.Votes
theorem zeC(x:zu)(h:Y2 x)(z:Int)(h1:0≤z)(h2:z≤1048576):Zu x z=some (if z < (qC x:Int) then -1 else z - (qC x:Int)):=by
 unfold Y2 at h;obtain⟨o0,o1,o2,o3,o4,o5,o6,o7,o8,o9⟩:=h;unfold Zu qC;rw[zgm x.Log o6 _ (by omega) (by omega)];simp only[Option.bind_some];by_cases c0:z < (z8 x.Log:Int)
 ·rw[if_pos c0,if_pos (by omega)];try rw[if_pos (by omega)]
 rw[if_neg c0,if_neg (by omega)];rw[zgX x.Votes o7 _ (by omega) (by omega)];simp only[Option.bind_some];by_cases c1:z - (z8 x.Log:Int) < (jg x.Votes:Int)
 ·rw[if_pos c1,if_pos (by omega)];try rw[if_pos (by omega)]
 rw[if_neg c1,if_neg (by omega)]
 try rw[if_neg (by omega)]
 try (congr 1;omega)
theorem zeN(x:zu)(h:qC x≤1048576):jz x=some x:=by simp[jz,zgr _ (show z8 x.Log≤1048576 by unfold qC at h;omega),zg5 _ (show jg x.Votes≤1048576 by unfold qC at h;omega)]
theorem zfd(x y:zu)(h:qC x≤1048576):ZE x y=some (decide (x=y)):=by
 unfold ZE;simp only[zel _ _ (show z8 x.Log≤1048576 by unfold qC at h;omega),zhk _ _ (show jg x.Votes≤1048576 by unfold qC at h;omega),Option.bind_some];cases x;cases y;simp only[zu.mk.injEq]
 repeat' split
 all_goals simp_all
def JB(x:qi):Nat:=z8 x.Log
theorem zi5(x y:qi)(h:JB x≤1048576):Yn x y=some (decide (x=y)):=by
 unfold Yn;simp only[zgC,zel _ _ (show z8 x.Log≤1048576 by unfold JB at h;omega),Option.bind_some];by_cases c0:x.Kind=y.Kind;rotate_left
 ·have hne:¬x=y:=fun e=>c0 (by rw[e]);rw[if_pos c0,decide_eq_false hne]
 rw[if_neg (fun e=>e c0)];by_cases c1:x.From=y.From;rotate_left
 ·have hne:¬x=y:=fun e=>c1 (by rw[e]);rw[if_pos c1,decide_eq_false hne]
 rw[if_neg (fun e=>e c1)];by_cases c2:x.View=y.View;rotate_left
 ·have hne:¬x=y:=fun e=>c2 (by rw[e]);rw[if_pos c2,decide_eq_false hne]
 rw[if_neg (fun e=>e c2)];by_cases c3:x.Op=y.Op;rotate_left
 ·have hne:¬x=y:=fun e=>c3 (by rw[e]);rw[if_pos c3,decide_eq_false hne]
 rw[if_neg (fun e=>e c3)];by_cases c4:x.Commit=y.Commit;rotate_left
 ·have hne:¬x=y:=fun e=>c4 (by rw[e]);rw[if_pos c4,decide_eq_false hne]
 rw[if_neg (fun e=>e c4)];by_cases c5:x.Normal=y.Normal;rotate_left
 ·have hne:¬x=y:=fun e=>c5 (by rw[e]);rw[if_pos c5,decide_eq_false hne]
 rw[if_neg (fun e=>e c5)];by_cases c6:x.Nonce=y.Nonce;rotate_left
 ·have hne:¬x=y:=fun e=>c6 (by rw[e]);rw[if_pos c6,decide_eq_false hne]
 rw[if_neg (fun e=>e c6)];by_cases c7:x.Client=y.Client;rotate_left
 ·have hne:¬x=y:=fun e=>c7 (by rw[e]);rw[if_pos c7,decide_eq_false hne]
 rw[if_neg (fun e=>e c7)];by_cases c8:x.Req=y.Req;rotate_left
 ·have hne:¬x=y:=fun e=>c8 (by rw[e]);rw[if_pos c8,decide_eq_false hne]
 rw[if_neg (fun e=>e c8)];by_cases c9:x.Answer=y.Answer;rotate_left
 ·have hne:¬x=y:=fun e=>c9 (by rw[e]);rw[if_pos c9,decide_eq_false hne]
 rw[if_neg (fun e=>e c9)];by_cases d0:x.Cmd=y.Cmd;rotate_left
 ·have hne:¬x=y:=fun e=>d0 (by rw[e]);rw[decide_eq_false hne,decide_eq_false d0];rfl
 by_cases d1:x.Log=y.Log;rotate_left
 ·have hne:¬x=y:=fun e=>d1 (by rw[e]);rw[decide_eq_false hne,decide_eq_true d0,decide_eq_false d1];rfl
 have e:x=y:=by
  cases x;cases y;simp only at c0 c1 c2 c3 c4 c5 c6 c7 c8 c9 d0 d1;subst c0 c1 c2 c3 c4 c5 c6 c7 c8 c9 d0 d1;rfl
 rw[decide_eq_true d0,decide_eq_true d1,decide_eq_true e];rfl
def yY(x:zO):Nat:=JB x.Msg
theorem zjj(x y:zO)(h:yY x≤1048576):YC x y=some (decide (x=y)):=by
 unfold YC;simp only[zi5 _ _ (show JB x.Msg≤1048576 by unfold yY at h;omega),Option.bind_some];cases x;cases y;simp only[zO.mk.injEq]
 repeat' split
 all_goals simp_all
def yw(xs:(List zO)):Nat:=xs.length+jk (fun y:zO=>yY y) xs
theorem KC{xs:(List zO)}(h:yw xs≤1048576):xs.length≤1048576∧∀i (hi:i < xs.length),yY (xs[i])≤1048576:=by
 unfold yw at h;refine⟨by omega,fun i hi=> ?_⟩;have:=ze8 (fun y:zO=>yY y) hi;omega
theorem zim(xs ys:(List zO))(h:yw xs≤1048576):y9 xs ys=some (decide (xs=ys)):=by
 obtain⟨hl,hs⟩:=KC h;unfold y9;split
 ·rename_i hl;have:¬xs=ys:=fun e=>hl (by rw[e]);simp[this]
 ·rename_i hl;have hl:xs.length=ys.length:=by omega
  rw[Qe (s0:=(0:Int)) (fun i=>(i:Int)) (fun i=>decide (xs[i]? =ys[i]?)) (some false) (some true) xs.length (by omega) (fun kb i hi=> ?_) (fun kb=> ?_) rfl,YE hl]
  ·by_cases e:xs=ys<;>simp[e]
  ·unfold Yv;simp only[qD hi,qD (show i < ys.length by omega),zjj _ _<|hs i hi,Option.bind_some,yl i _ hi (by omega)];rw[if_pos (by omega),List.getElem?_eq_getElem hi,List.getElem?_eq_getElem (show i < ys.length by omega)];simp
  ·unfold Yv;rw[if_neg (by omega)];rfl
def zU(z lo hi:Int):Bool:=decide (lo≤z)&&decide (z≤hi)
theorem zaM(z lo hi:Int):j6 z lo hi=some (zU z lo hi):=by
 unfold j6 zU;by_cases h:lo≤z<;>simp[h]
theorem zav(z lo hi:Int):jy z lo hi=some (zU z lo hi):=by
 unfold jy zU;by_cases h:lo≤z<;>simp[h]
theorem Jh(z:Int):z9 z=some (zU z 0 1000000000):=by simp[z9,zaM]
theorem Yb(z:Int):zV z=some (zU z 0 1000000000):=by simp[zV,zav]
theorem zgF(z:Int):Q3 z=some (zU z 1 1000000000):=by simp[Q3,zav]
theorem zfH(z:Int):Z2 z=some (zU z (-1) 1000000000):=by simp[Z2,zav]
theorem zgu{i n:Nat}(h0:0 < i)(hi:i < n)(hn:n≤1152921504606846976):IntKind.wrap .i64 ((i:Int) - 1)=((i - 1:Nat):Int):=by
 rw[w64 (by omega) (by omega)];omega
def Z1(xs:List zT)(i:Nat):Bool:=match xs[i]? with
 |some c=>zU c.Key 0 1000000000&&zU c.Value 0 1000000000&&(decide (i=0)||(match xs[i - 1]? with|some p=>!decide (c.Key≤p.Key)|none=>true))
 |none=>true
def yk(xs:List zS)(i:Nat):Bool:=match xs[i]? with
 |some c=>zU c.Client 0 1000000000&&zU c.Req 1 1000000000&&zU c.Answer (-1) 1000000000&&(decide (i=0)||(match xs[i - 1]? with|some p=>!decide (c.Client≤p.Client)|none=>true))
 |none=>true
def xS(m:zK):Bool:=(decide (m.Cells.length≤40)&&decide (m.Seats.length≤10))&&(List.range m.Cells.length).all (Z1 m.Cells)&&(List.range m.Seats.length).all (yk m.Seats)
theorem zbd{xs:List zT}{i:Nat}(hi:i < xs.length)(h0:0 < i):Z1 xs i=(zU xs[i].Key 0 1000000000&&zU xs[i].Value 0 1000000000&&!decide (xs[i].Key≤(xs[i - 1]'(by omega)).Key)):=by
 unfold Z1;rw[List.getElem?_eq_getElem hi,List.getElem?_eq_getElem (show i - 1 < xs.length by omega)];simp[show i≠0 by omega]
theorem zcK{xs:List zT}(hi:0 < xs.length):Z1 xs 0=(zU xs[0].Key 0 1000000000&&zU xs[0].Value 0 1000000000):=by
 unfold Z1;rw[List.getElem?_eq_getElem hi];simp
theorem za4{xs:List zS}{i:Nat}(hi:i < xs.length)(h0:0 < i):yk xs i=(zU xs[i].Client 0 1000000000&&zU xs[i].Req 1 1000000000&&zU xs[i].Answer (-1) 1000000000&&!decide (xs[i].Client≤(xs[i - 1]'(by omega)).Client)):=by
 unfold yk;rw[List.getElem?_eq_getElem hi,List.getElem?_eq_getElem (show i - 1 < xs.length by omega)];simp[show i≠0 by omega]
theorem zcn{xs:List zS}(hi:0 < xs.length):yk xs 0=(zU xs[0].Client 0 1000000000&&zU xs[0].Req 1 1000000000&&zU xs[0].Answer (-1) 1000000000):=by
 unfold yk;rw[List.getElem?_eq_getElem hi];simp
theorem zcI(m:zK)(h1:m.Cells.length≤1048576)(h2:m.Seats.length≤1048576):QL m=some (xS m):=by
 have hs:iter (Z9 m Z4) FU 0=some ((List.range m.Seats.length).all<|yk m.Seats):=by
  rw[Qe (s0:=(0:Int)) (fun i=>(i:Int)) (yk m.Seats) (some false) (some true) m.Seats.length (by omega) (fun kb i hi=> ?_) (fun kb=> ?_) rfl]
  ·cases(List.range m.Seats.length).all (yk m.Seats)<;>rfl
  ·unfold Z9 jD;rw[if_pos (by omega)];simp only[qD hi,Option.bind_some,Jh,zaM,yl i _ hi (by omega)];by_cases h0:0 < i
   ·rw[za4 hi h0];simp only[zgu h0 hi (by omega),qD (show i - 1 < m.Seats.length by omega),Option.bind_some,show(0:Int) < (i:Int) by omega,if_true];cases zU m.Seats[i].Client 0 1000000000<;>cases zU m.Seats[i].Req 1 1000000000<;>cases zU m.Seats[i].Answer (-1) 1000000000<;>simp;by_cases hc:m.Seats[i].Client≤m.Seats[i - 1].Client
    ·simp[hc];intro hcc;omega
    ·simp[hc]
   ·have:i=0:=by omega
    subst this;rw[zcn hi];cases zU m.Seats[0].Client 0 1000000000<;>cases zU m.Seats[0].Req 1 1000000000<;>cases zU m.Seats[0].Answer (-1) 1000000000<;>simp
  ·unfold Z9 Z4;rw[if_neg (by omega)]
 have hc:iter (Zi m<|ZZ m) FU 0=some ((List.range m.Cells.length).all (Z1 m.Cells)&&(List.range m.Seats.length).all (yk m.Seats)):=by
  rw[Qe (s0:=(0:Int)) (fun i=>(i:Int)) (Z1 m.Cells) (some false) (some<|(List.range m.Seats.length).all<|yk m.Seats) m.Cells.length (by omega) (fun kb i hi=> ?_) (fun kb=> ?_) rfl]
  ·cases(List.range m.Cells.length).all (Z1 m.Cells)<;>simp
  ·unfold Zi jU;rw[if_pos (by omega)];simp only[qD hi,Option.bind_some,Jh,yl i _ hi (by omega)];by_cases h0:0 < i
   ·rw[zbd hi h0];simp only[zgu h0 hi (by omega),qD (show i - 1 < m.Cells.length by omega),Option.bind_some,show(0:Int) < (i:Int) by omega,if_true];cases zU m.Cells[i].Key 0 1000000000<;>cases zU m.Cells[i].Value 0 1000000000<;>simp;by_cases hc:m.Cells[i].Key≤m.Cells[i - 1].Key
    ·simp[hc];intro hcc;omega
    ·simp[hc]
   ·have:i=0:=by omega
    subst this;rw[zcK hi];cases zU m.Cells[0].Key 0 1000000000<;>cases zU m.Cells[0].Value 0 1000000000<;>simp
  ·unfold Zi ZZ;rw[if_neg (by omega),hs]
 unfold QL Qa xS;rw[hc];by_cases c1:m.Cells.length≤40
 ·rw[if_neg (by omega)];by_cases c2:m.Seats.length≤10
  ·simp[c1,c2,show ¬(10:Int) < (m.Seats.length:Int) by omega]
  ·simp[c1,c2,show(10:Int) < (m.Seats.length:Int) by omega]
 ·rw[if_pos (by omega)];simp[c1]
theorem zcg(m:zK)(h1:m.Cells.length≤1048576)(h2:m.Seats.length≤1048576):QU m=some (xS m):=by
 have hs:iter (Z8 m<|Z6 m) FU 0=some ((List.range m.Seats.length).all (yk m.Seats)&&(decide (m.Cells.length≤40)&&decide (m.Seats.length≤10))):=by
  rw[Qe (s0:=(0:Int)) (fun i=>(i:Int)) (yk m.Seats) (some false) (some (decide (m.Cells.length≤40)&&decide (m.Seats.length≤10))) m.Seats.length (by omega) (fun kb i hi=> ?_) (fun kb=> ?_) rfl]
  ·cases(List.range m.Seats.length).all (yk m.Seats)<;>simp
  ·unfold Z8 jB;rw[if_pos (by omega)];simp only[qD hi,Option.bind_some,Yb,zgF,zfH,yl i _ hi (by omega)];by_cases h0:0 < i
   ·rw[za4 hi h0];simp only[zgu h0 hi (by omega),qD (show i - 1 < m.Seats.length by omega),Option.bind_some,show(0:Int) < (i:Int) by omega,if_true];cases zU m.Seats[i].Client 0 1000000000<;>cases zU m.Seats[i].Req 1 1000000000<;>cases zU m.Seats[i].Answer (-1) 1000000000<;>simp;by_cases hc:m.Seats[i].Client≤m.Seats[i - 1].Client
    ·simp[hc];intro hcc;omega
    ·simp[hc]
   ·have:i=0:=by omega
    subst this;rw[zcn hi];cases zU m.Seats[0].Client 0 1000000000<;>cases zU m.Seats[0].Req 1 1000000000<;>cases zU m.Seats[0].Answer (-1) 1000000000<;>simp
  ·unfold Z8 Z6;rw[if_neg (by omega)];by_cases c1:m.Cells.length≤40
   ·rw[if_pos (by omega)];by_cases c2:m.Seats.length≤10
    ·simp[c1,c2,show(m.Seats.length:Int)≤10 by omega]
    ·simp[c1,c2,show ¬(m.Seats.length:Int)≤10 by omega]
   ·rw[if_neg (by omega)];simp[c1]
 have hc:iter (Zp m<|Z3 m) FU 0=some ((List.range m.Cells.length).all (Z1 m.Cells)&&((List.range m.Seats.length).all (yk m.Seats)&&(decide (m.Cells.length≤40)&&decide (m.Seats.length≤10)))):=by
  rw[Qe (s0:=(0:Int)) (fun i=>(i:Int)) (Z1 m.Cells) (some false) (some ((List.range m.Seats.length).all (yk m.Seats)&&(decide (m.Cells.length≤40)&&decide (m.Seats.length≤10)))) m.Cells.length (by omega) (fun kb i hi=> ?_) (fun kb=> ?_) rfl]
  ·cases(List.range m.Cells.length).all (Z1 m.Cells)<;>simp
  ·unfold Zp jW;rw[if_pos (by omega)];simp only[qD hi,Option.bind_some,Yb,yl i _ hi (by omega)];by_cases h0:0 < i
   ·rw[zbd hi h0];simp only[zgu h0 hi (by omega),qD (show i - 1 < m.Cells.length by omega),Option.bind_some,show(0:Int) < (i:Int) by omega,if_true];cases zU m.Cells[i].Key 0 1000000000<;>cases zU m.Cells[i].Value 0 1000000000<;>simp;by_cases hc:m.Cells[i].Key≤m.Cells[i - 1].Key
    ·simp[hc];intro hcc;omega
    ·simp[hc]
   ·have:i=0:=by omega
    subst this;rw[zcK hi];cases zU m.Cells[0].Key 0 1000000000<;>cases zU m.Cells[0].Value 0 1000000000<;>simp
  ·unfold Zp Z3;rw[if_neg (by omega),hs]
 unfold QU xS;rw[hc];congr 1;cases(List.range m.Cells.length).all (Z1 m.Cells)<;>cases(List.range m.Seats.length).all (yk m.Seats)<;>simp
def zeB(c:ji):Bool:=if c.Kind=2∨c.Kind=3 then zU c.Key 0 1000000000&&zU c.Value 0 1000000000 else if c.Kind=1∨c.Kind=4 then zU c.Key 0 1000000000&&decide (c.Value=0) else false
theorem zd5(c:ji):Yp c=some (zeB c):=by
 unfold Yp Jw QX zeB;simp only[Jh,Option.bind_some];by_cases a1:c.Kind=1<;>by_cases a2:c.Kind=2<;>by_cases a3:c.Kind=3<;>by_cases a4:c.Kind=4<;>first|omega|(simp[a1,a2,a3,a4];done)|(cases zU c.Key 0 1000000000<;>simp[a1,a2,a3,a4])
theorem zd2(c:ji):YA c=some (zeB c):=by
 unfold YA Jr JH zeB;simp only[Yb,Option.bind_some];by_cases a1:c.Kind=1<;>by_cases a2:c.Kind=2<;>by_cases a3:c.Kind=3<;>by_cases a4:c.Kind=4<;>first|omega|(simp[a1,a2,a3,a4];done)|(cases zU c.Key 0 1000000000<;>simp[a1,a2,a3,a4])
def J2(e:zA):Bool:=zU e.Client 0 1000000000&&zU e.Req 1 1000000000&&zeB e.Cmd
theorem zct(e:zA):QQ e=some (J2 e):=by
 unfold QQ J2;simp only[Jh,zaM,zd5,Option.bind_some];cases zU e.Client 0 1000000000<;>cases zU e.Req 1 1000000000<;>simp
theorem zcS(e:zA):QI e=some (J2 e):=by
 unfold QI J2;simp only[Yb,zgF,zd2,Option.bind_some];cases zU e.Client 0 1000000000<;>cases zU e.Req 1 1000000000<;>simp
def Y9(l:z4):Bool:=zU l.Base 0 1000000000&&xS l.Image&&decide (l.Entries.length≤60)&&l.Entries.all J2&&zU (l.Base+(l.Entries.length:Int)) 0 1000000000
theorem Yg{l:z4}(h:z8 l≤1048576):l.Image.Cells.length≤1048576∧l.Image.Seats.length≤1048576∧l.Entries.length≤1048576:=by
 unfold z8 jf at h;omega
theorem xE{z lo hi:Int}(h:zU z lo hi=true):lo≤z∧z≤hi:=by
 unfold zU at h;simpa using h
theorem Xa(l:z4)(h:z8 l≤1048576):ZN l=some (Y9 l):=by
 obtain⟨h1,h2,h3⟩:=Yg h;have hl:iter (JA l JF) FU 0=some (l.Entries.all J2):=by
  rw[zcl l.Entries J2 (some false) (some true) (by omega) (fun kb i hi=> ?_) (fun kb=> ?_)]
  ·cases l.Entries.all J2<;>rfl
  ·unfold JA;simp only[qD hi,zct,Option.bind_some,yl i _ hi (by omega)];rw[if_pos (by omega)]
  ·unfold JA JF;rw[if_neg (by omega)]
 unfold ZN y6 Y9;rw[Jh,zcI _ h1 h2];simp only[hl,Jh,Option.bind_some];cases hb:zU l.Base 0 1000000000
 ·simp
 have hb:=xE hb;cases xS l.Image
 ·simp
 by_cases c:l.Entries.length≤60
 ·rw[w64 (by omega) (by omega)];simp only[if_true,show ¬(60:Int) < (l.Entries.length:Int) by omega,if_false,c,decide_true];cases zU (l.Base+(l.Entries.length:Int)) 0 1000000000<;>simp
 ·simp[c,show(60:Int) < (l.Entries.length:Int) by omega]
theorem zcc(e:zA):QP e=some (!J2 e):=by simp[QP,zcS]
theorem zaN(xs:List zA)(h:xs.length≤1048576):qt xs=some (xs.any fun c=>!J2 c):=by
 unfold qt jd;rw[kY xs (fun c=>!J2 c) (by omega) (fun kb i hi=> ?_) (fun kb=> ?_)]
 ·simp[K5]
 ·unfold qX;simp only[qD hi,zcc,Option.bind_some,yl i _ hi (by omega)];rw[if_pos (by omega)]
 ·unfold qX;rw[if_neg (by omega)];rfl
theorem zgP{α:Type}(xs:List α)(p:α→Bool):(xs.any fun x=>!p x)= !(xs.all p):=by
 induction xs with
 |nil=>rfl
 |cons x xs ih=>simp only[List.any_cons,List.all_cons,ih];cases p x<;>simp
theorem zen(l:z4)(h:z8 l≤1048576):Ys l=some (Y9 l):=by
 obtain⟨h1,h2,h3⟩:=Yg h;unfold Ys Y9;rw[Yb,zcg _ h1 h2,zaN _ h3,zgP];simp only[Yb,Option.bind_some];cases hb:zU l.Base 0 1000000000
 ·simp
 have hb:=xE hb;cases xS l.Image
 ·simp
 by_cases c:l.Entries.length≤60
 ·rw[w64 (by omega) (by omega)];simp only[if_true,show(l.Entries.length:Int)≤60 by omega,c,decide_true];cases l.Entries.all J2<;>simp
 ·simp[c,show ¬(l.Entries.length:Int)≤60 by omega]
theorem Ye{l:z4}(h:Y9 l=true):0≤l.Base∧l.Base≤1000000000∧l.Entries.length≤60:=by
 unfold Y9 at h;simp only[Bool.and_eq_true,decide_eq_true_eq] at h;have:=xE h.1.1.1.1;exact⟨this.1,this.2,h.1.1.2⟩
def kZ(l:z4)(n:Int):Bool:=Y9 l&&zU n l.Base (l.Base+(l.Entries.length:Int))
theorem YX(l:z4)(h:z8 l≤1048576)(ho:Y9 l=true):y8 l=some (l.Base+(l.Entries.length:Int)):=by
 have:=Ye ho;unfold y8;rw[Xa l h,ho];simp only[Option.bind_some,if_true];rw[w64 (by omega) (by omega)]
theorem zgO(l:z4)(n:Int)(h:z8 l≤1048576):Jj l n=some (kZ l n):=by
 unfold Jj kZ;rw[Xa l h];cases ho:Y9 l
 ·simp
 ·simp[YX l h ho,zaM]
theorem zbi(l:z4)(n:Int)(h:z8 l≤1048576):jq l n=some (kZ l n):=by
 unfold jq kZ k7;rw[zen l h];cases ho:Y9 l
 ·simp
 ·have:=Ye ho;rw[w64 (by omega) (by omega)];simp[zav]
theorem zhA(n:Int):Yd n=some (decide (n=1∨n=3∨n=5)):=by
 unfold Yd;by_cases a:n=1<;>by_cases b:n=3<;>simp[a,b]
theorem zo0(n:Int):Y6 n=some (decide (n=1∨n=3∨n=5)):=by
 unfold Y6;by_cases a:n=1<;>by_cases b:n=3<;>simp[a,b]
def ZU(o:Int)(v:zE):Bool:=decide (v.Kind=3∨v.Kind=5∨v.Kind=6∨v.Kind=9)&&zU v.From 0 (IntKind.wrap .i64 (o - 1))&&zU v.View 0 1000000000&&zU v.Normal 0 1000000000&&zU v.Op 0 1000000000&&kZ v.Log v.Commit
theorem zfJ(v:zE)(o:Int)(h:qj v≤1048576):Z0 v o=some (ZU o v):=by
 unfold qj at h;unfold Z0 jV ZU;simp only[zaM,Jh,zgO _ _ h,Option.bind_some];by_cases a:v.Kind=3<;>by_cases b:v.Kind=5<;>by_cases c:v.Kind=6<;>by_cases d:v.Kind=9<;>first|omega|(simp only[a,b,c,d,if_true,if_false,decide_true,decide_false,or_true,true_or,or_self,or_false,false_or,Bool.false_and,Bool.true_and,Bool.false_eq_true];try (cases zU v.From 0 (IntKind.wrap .i64 (o - 1))<;>cases zU v.View 0 1000000000<;>cases zU v.Normal 0 1000000000<;>cases zU v.Op 0 1000000000<;>simp))
theorem zin(v:zE)(o:Int)(h:qj v≤1048576):Jz v o=some (ZU o v):=by
 unfold qj at h;unfold Jz ZU;simp only[zav,Yb,zbi _ _ h,Option.bind_some];by_cases a:v.Kind=3<;>by_cases b:v.Kind=5<;>by_cases c:v.Kind=6<;>by_cases d:v.Kind=9<;>first|omega|(simp only[a,b,c,d,if_true,if_false,decide_true,decide_false,or_true,true_or,or_self,or_false,false_or,Bool.false_and,Bool.true_and,Bool.false_eq_true];try (cases zU v.From 0 (IntKind.wrap .i64 (o - 1))<;>cases zU v.View 0 1000000000<;>cases zU v.Normal 0 1000000000<;>cases zU v.Op 0 1000000000<;>simp))
theorem xB{S R:Type}{f:(S→Option R)→S→Option R}{s0:S}(k:Option R)(he:∀kb,f kb s0=k):iter f FU s0=k:=
 ym (fun _=>s0) k 0 (by omega) (fun kb i hi=>absurd hi (by omega)) (fun kb=>he kb) rfl
def zcz(m:zK):Bool:=decide (m.Cells.length=0)&&decide (m.Seats.length=0)
def zd3(l:z4):Bool:=decide (l.Base=0)&&(decide (l.Entries.length=0)&&zcz l.Image)
theorem zab(m:zK):Zj m (zK.mk [] [])=some (zcz m):=by
 unfold Zj yP zcz;by_cases c:m.Cells.length=0
 ·by_cases s:m.Seats.length=0
  ·have h1:iter (ZK m (zK.mk [] []) yS) FU 0=some true:=xB _ fun kb=>by
    unfold ZK yS;rw[if_neg (by omega)]
   have h2:iter (ZJ m (zK.mk [] [])<|yT m<|zK.mk [] []) FU 0=some true:=xB _ fun kb=>by
    unfold ZJ yT;rw[if_neg (by omega),h1]
   simp[c,s,h2]
  ·simp[c,s]
 ·simp[c]
theorem zbs(l:z4):QC l (z4.mk 0 (zK.mk [] []) [])=some (zd3 l):=by
 unfold QC yL zd3;rw[zab];by_cases b:l.Base=0
 ·by_cases e:l.Entries.length=0
  ·have h1:iter (JO l (z4.mk 0 (zK.mk [] []) []) ZX) FU 0=some true:=xB _ fun kb=>by
    unfold JO ZX;rw[if_neg (by omega)]
   cases hz:zcz l.Image<;>simp[b,e,h1]
  ·simp[b,e]
 ·simp[b]
theorem zdd(xs:List zT):yh xs []=some (decide (xs.length=0)):=by
 unfold yh;by_cases e:xs.length=0
 ·have h1:iter (yO xs [] j5) FU 0=some true:=xB _ fun kb=>by
   unfold yO j5;rw[if_neg (by omega)]
  simp[e,h1]
 ·simp[e]
theorem zdj(xs:List zS):yj xs []=some (decide (xs.length=0)):=by
 unfold yj;by_cases e:xs.length=0
 ·have h1:iter (yR xs [] j4) FU 0=some true:=xB _ fun kb=>by
   unfold yR j4;rw[if_neg (by omega)]
  simp[e,h1]
 ·simp[e]
theorem zcp(xs:List zA):yb xs []=some (decide (xs.length=0)):=by
 unfold yb;by_cases e:xs.length=0
 ·have h1:iter (yH xs [] jP) FU 0=some true:=xB _ fun kb=>by
   unfold yH jP;rw[if_neg (by omega)]
  simp[e,h1]
 ·simp[e]
theorem zfv(l:z4):Zy l=some (zd3 l):=by
 unfold Zy Yy Ja zd3 zcz;simp only[zdd,zdj,zcp,Option.bind_some];by_cases b:l.Base=0<;>by_cases c:l.Image.Cells.length=0<;>by_cases s:l.Image.Seats.length=0<;>by_cases e:l.Entries.length=0<;>simp[b,c,s,e]
def KX(r:zu):Bool:=if r.Mode=1 then decide (r.View=r.Normal)&&decide (r.View=r.Cell) else if r.Mode=2 then decide (r.Normal≤r.View)&&decide (r.View=r.Cell)
 else if r.Mode=0∨r.Mode=3 then decide (r.View=0)&&(decide (r.Normal=0)&&(decide (r.Commit=0)&&(zd3 r.Log&&(decide (r.Mode=3)||decide (r.Votes.length=0))))) else false
def Xl(r:zu):Bool:=decide (r.Of=1∨r.Of=3∨r.Of=5)&&zU r.Me 0 (IntKind.wrap .i64 (r.Of - 1))&&zU r.View 0 1000000000&&zU r.Normal 0 1000000000&&zU r.Cell 0 1000000000&&zU r.Nonce 0 1000000000&&kZ r.Log r.Commit&&decide (r.Votes.length≤20)&&r.Votes.all (ZU r.Of)&&KX r
theorem Qf{r:zu}(h:qC r≤1048576):z8 r.Log≤1048576∧jg r.Votes≤1048576:=by
 unfold qC at h;omega
theorem zeD(r:zu):ye r ()=some (KX r):=by
 unfold ye yA KX;simp only[zbs,Option.bind_some];by_cases a:r.Mode=1
 ·simp only[a,if_true];by_cases b:r.View=r.Normal<;>simp[b]
 by_cases b:r.Mode=2
 ·simp only[b,if_true];by_cases c:r.Normal≤r.View<;>simp[c]
 by_cases c:r.Mode=0
 ·simp only[c,if_true];by_cases d:r.View=0<;>by_cases e:r.Normal=0<;>by_cases f:r.Commit=0<;>cases zd3 r.Log<;>simp[d,e,f]
 by_cases d:r.Mode=3
 ·simp only[d];by_cases d:r.View=0<;>by_cases e:r.Normal=0<;>by_cases f:r.Commit=0<;>cases zd3 r.Log<;>simp[d,e,f]
 ·simp[a,b,c,d]
theorem zaI(r:zu)(h:qC r≤1048576):Zo r=some (Xl r):=by
 obtain⟨h1,h2⟩:=Qf h;obtain⟨hl,hs⟩:=Qz h2;have hloop:iter (yF r<|ye r) FU 0=some (r.Votes.all (ZU r.Of)&&KX r):=by
  rw[zcl r.Votes (ZU r.Of) (some false) (some<|KX r) (by omega) (fun kb i hi=> ?_) (fun kb=> ?_)]
  ·cases r.Votes.all (ZU r.Of)<;>simp
  ·unfold yF;simp only[qD hi,zfJ _ _<|hs i hi,Option.bind_some,yl i _ hi (by omega)];rw[if_pos (by omega)]
  ·unfold yF;rw[if_neg (by omega),zeD]
 unfold Zo qH Xl;simp only[zhA,zaM,Jh,zgO _ _ h1,hloop,Option.bind_some];have hd:decide ((20:Int) < (r.Votes.length:Int))= !decide (r.Votes.length≤20):=by
  by_cases c:r.Votes.length≤20
  ·simp[c];omega
  ·simp[c];omega
 rw[hd];cases decide (r.Of=1∨r.Of=3∨r.Of=5)
 ·simp
 cases zU r.Me 0 (IntKind.wrap .i64 (r.Of - 1))
 ·simp
 cases zU r.View 0 1000000000
 ·simp
 cases zU r.Normal 0 1000000000
 ·simp
 cases zU r.Cell 0 1000000000
 ·simp
 cases zU r.Nonce 0 1000000000
 ·simp
 cases kZ r.Log r.Commit
 ·simp
 cases decide (r.Votes.length≤20)<;>simp
theorem zcZ(v:zE)(r:zu)(h:qj v≤1048576):yz v r=some (!ZU r.Of v):=by simp[yz,zin _ _ h]
theorem XC(xs:List zE)(r:zu)(h:jg xs≤1048576):qh xs r=some (xs.any fun c=>!ZU r.Of c):=by
 obtain⟨hl,hs⟩:=Qz h;unfold qh qR;rw[kY xs (fun c=>!ZU r.Of c) (by omega) (fun kb i hi=> ?_) (fun kb=> ?_)]
 ·simp[K5]
 ·unfold qL;simp only[qD hi,zcZ _ _<|hs i hi,Option.bind_some,yl i _ hi (by omega)];rw[if_pos (by omega)]
 ·unfold qL;rw[if_neg (by omega)];rfl
theorem zaJ(r:zu)(h:qC r≤1048576):Zn r=some (Xl r):=by
 obtain⟨h1,h2⟩:=Qf h;have hm:(if r.Mode=1 then(if r.View=r.Normal then(some<|decide (r.View=r.Cell)) else(some false)) else(if r.Mode=2 then(if r.Normal≤r.View then(some<|decide (r.View=r.Cell)) else(some false)) else(if r.Mode=0 then((jx r)<|decide (r.Mode=0)) else((jx r)<|decide (r.Mode=3)))))=some (KX r):=by
  unfold jx KX;simp only[zfv,Option.bind_some];by_cases a:r.Mode=1
  ·simp only[a,if_true];by_cases b:r.View=r.Normal<;>simp[b]
  by_cases b:r.Mode=2
  ·simp only[b,if_true];by_cases c:r.Normal≤r.View<;>simp[c]
  by_cases c:r.Mode=0
  ·simp only[c,if_true];by_cases d:r.View=0<;>by_cases e:r.Normal=0<;>by_cases f:r.Commit=0<;>cases zd3 r.Log<;>simp[d,e,f]
  by_cases d:r.Mode=3
  ·simp only[d];by_cases d:r.View=0<;>by_cases e:r.Normal=0<;>by_cases f:r.Commit=0<;>cases zd3 r.Log<;>simp[d,e,f]
  ·simp[a,b,c,d]
 unfold Zn qF Xl;simp only[zo0,zav,Yb,zbi _ _ h1,XC _ _ h2,zgP,hm,Option.bind_some];have hd:decide ((20:Int) < (r.Votes.length:Int))= !decide (r.Votes.length≤20):=by
  by_cases c:r.Votes.length≤20
  ·simp[c];omega
  ·simp[c];omega
 rw[hd];cases decide (r.Of=1∨r.Of=3∨r.Of=5)
 ·simp
 cases zU r.Me 0 (IntKind.wrap .i64 (r.Of - 1))
 ·simp
 cases zU r.View 0 1000000000
 ·simp
 cases zU r.Normal 0 1000000000
 ·simp
 cases zU r.Cell 0 1000000000
 ·simp
 cases zU r.Nonce 0 1000000000
 ·simp
 cases kZ r.Log r.Commit
 ·simp
 cases decide (r.Votes.length≤20)
 ·simp
 cases r.Votes.all (ZU r.Of)<;>simp
theorem zc7(xs:List zT)(h:xs.length≤1048576):yg xs=some xs:=by
 unfold yg jA;split<;>first|(simp;done)|(simp;omega)
theorem zc1(xs:List zS)(h:xs.length≤1048576):yp xs=some xs:=by
 unfold yp jC;split<;>first|(simp;done)|(simp;omega)
theorem zbL(xs:List zA)(h:xs.length≤1048576):j8 xs=some xs:=by
 unfold j8 jr;split<;>first|(simp;done)|(simp;omega)
theorem zay(l:z4)(h:z8 l≤1048576):yD l=some l:=by
 obtain⟨h1,h2,h3⟩:=Yg h;simp[yD,Q5,zc7 _ h1,zc1 _ h2,zbL _ h3]
theorem zfk(l:z4)(h:z8 l≤1048576):Qb l=some l:=by
 obtain⟨h1,h2,h3⟩:=Yg h;unfold Qb Y1;rw[if_pos (by omega),if_pos (by omega)];simp only[Option.bind_some];rw[if_pos (by omega)]
theorem ze4(xs:List zE)(h:jg xs≤1048576):Zx xs=some xs:=by
 obtain⟨hl,hs⟩:=Qz h;unfold Zx;refine ym (fun i=>(xs.take i,(i:Int))) _ xs.length (by omega) (fun kb i hi=> ?_) (fun kb=> ?_) rfl
 ·have hv:=hs i hi;unfold qj at hv;have e:xs.take (i+1)=xs.take i++[xs[i]]:=List.take_succ_eq_append_getElem hi;unfold Ql;simp only[qD hi,zay _ hv,Option.bind_some,yl i _ hi (by omega)];rw[if_pos (by omega),if_pos (by simp;omega),e]
 ·unfold Ql Qj;rw[if_neg (by simp)];simp
theorem zdn(r:zu)(h:qC r≤1048576):yB r=some r:=by
 obtain⟨h1,h2⟩:=Qf h;simp[yB,zay _ h1,ze4 _ h2]
def yJ(me:Int)(m:qi):Nat→List zO
 |0=>[]
 |n+1=>yJ me m n++(if (n:Int)=me then[] else[zO.mk (n:Int) m])
theorem yK(me:Int)(m:qi):∀n,(yJ me m n).length≤n
 |0=>by simp[yJ]
 |n+1=>by
  have:=yK me m n;unfold yJ;split<;>simp<;>omega
theorem zbz(r:zu)(m:qi)(n:Nat)(hn:r.Of=(n:Int))(h5:n≤5)(hm:z8 m.Log≤1048576):yX r m=some (yJ r.Me m n):=by
 unfold yX;refine ym (fun i=>(yJ r.Me m i,(i:Int))) _ n (by omega) (fun kb i hi=> ?_) (fun kb=> ?_) rfl
 ·have hl:=yK r.Me m i;unfold Y0;simp only[zfk _ hm,Option.bind_some,yl i n hi (by omega)];rw[if_pos (by omega)];by_cases c:(i:Int)=r.Me
  ·rw[if_neg (fun e=>e c)];show _=kb (yJ r.Me m (i+1),_);simp[yJ,c]
  ·rw[if_pos c,if_pos (by simp;omega)];show _=kb (yJ r.Me m (i+1),_);simp[yJ,c]
 ·unfold Y0 YT;rw[if_neg (by simp;omega)]
theorem zhE(k:qq)(t:Int)(m:qi)(hm:z8 m.Log≤1048576)(ho:k.outs.length≤1000000):jX k t m=some (qq.mk k.Replica (k.outs++[zO.mk t m])):=by
 unfold jX;rw[zay _ hm];simp only[Option.bind_some];rw[if_pos (by simp;omega)]
theorem X8(r:zu)(o:List zO)(m:qi)(n:Nat)(hn:r.Of=(n:Int))(h5:n≤5)(hm:z8 m.Log≤1048576)(ho:o.length≤100000):qP (qq.mk r o) m=some (qq.mk r (o++yJ r.Me m n)):=by
 unfold qP;refine ym (fun i=>((i:Int),r.Me,r.Of,r.Mode,r.View,r.Normal,r.Commit,r.Log.Base,r.Cell,r.Nonce,o++yJ r.Me m i)) _ n (by omega) (fun kb i hi=> ?_) (fun kb=> ?_) (by simp[yJ])
 ·have hl:=yK r.Me m i;unfold yr;simp only[yl i n hi (by omega)];rw[if_pos (by omega)];by_cases c:(i:Int)=r.Me
  ·rw[if_neg (fun e=>e c)];simp[yJ,c]
  ·rw[if_pos c,zhE _ _ _ hm (by simp;omega)];simp[yJ,c]
 ·unfold yr;rw[if_neg (by simp;omega)]
theorem zig(xs:List zE)(k w:Int)(h:xs.length≤1048576):Jq xs k w=some (Xr (fun v=>decide (v.Kind=k)&&decide (v.From=w)) xs):=by
 unfold Jq;refine kY xs _ (by omega) (fun kb i hi=> ?_) (fun kb=> ?_)
 ·unfold Yw QT;simp only[qD hi,Option.bind_some,yl i _ hi (by omega)];rw[if_pos (by omega)];by_cases a:xs[i].Kind=k<;>by_cases b:xs[i].From=w<;>simp[a,b]
 ·unfold Yw Yr;rw[if_neg (by omega)]
theorem zoB(k:qq)(a w:Int)(h:k.Replica.Votes.length≤1048576):yC k a w=some (Xr (fun v=>decide (v.Kind=a)&&decide (v.From=w)) k.Replica.Votes):=by
 unfold yC qG;rw[kY k.Replica.Votes (fun v=>decide (v.Kind=a)&&decide (v.From=w)) (by omega) (fun kb i hi=> ?_) (fun kb=> ?_)]
 ·rfl
 ·unfold qE yV;simp only[qD hi,Option.bind_some,yl i _ hi (by omega)];rw[if_pos (by omega)];by_cases c:k.Replica.Votes[i].Kind=a<;>by_cases b:k.Replica.Votes[i].From=w<;>simp[c,b]
 ·unfold qE;rw[if_neg (by omega)];rfl
theorem xd{r:zu}(h:Xl r=true):(r.Of=1∨r.Of=3∨r.Of=5)∧(0≤r.View∧r.View≤1000000000)∧Y9 r.Log=true∧(r.Log.Base≤r.Commit∧r.Commit≤r.Log.Base+(r.Log.Entries.length:Int))∧r.Votes.length≤20:=by
 unfold Xl kZ at h;simp only[Bool.and_eq_true,decide_eq_true_eq] at h;obtain⟨⟨⟨⟨⟨⟨⟨⟨⟨a1,a2⟩,a3⟩,a4⟩,a5⟩,a6⟩,a7,a8⟩,a9⟩,a10⟩,a11⟩:=h;exact⟨a1,xE a3,a7,xE a8,a9⟩
theorem za3{l:z4}(h:Y9 l=true):l.Base+(l.Entries.length:Int)≤1000000000:=by
 unfold Y9 at h;simp only[Bool.and_eq_true] at h;exact(xE h.2).2
def zl:z4:=z4.mk 0 (zK.mk [] []) []
theorem xU:z8 zl≤1048576:=by simp[z8,jf,zl]
def Xj(r:zu):Bool:=decide (r.Me=Int.tmod r.View r.Of)
theorem zbj(r:zu)(h:Xl r=true):yx r.View r.Of=some (Int.tmod r.View r.Of):=by
 obtain⟨a1,a2,_⟩:=xd h;have hw:zU r.View 0 1000000000=true:=by unfold zU;simp[a2]
 unfold yx y4;rw[Jh,hw];simp only[Option.bind_some,if_true,zhA,a1,decide_true,Bool.not_true,Bool.false_eq_true,if_false];rw[if_pos (by omega)]
theorem zdr(r:zu)(h:Xl r=true):Zq r=some (Xj r):=by
 unfold Zq Xj;rw[zbj r h];simp only[Option.bind_some];congr 1;rw[decide_eq_decide];exact eq_comm
theorem zba(r:zu)(o:List zO)(h:Xl r=true):jl (qq.mk r o)=some (Xj r):=by
 obtain⟨a1,_⟩:=xd h;unfold jl Xj;rw[if_pos (show ¬r.Of=0 by omega)]
def X7(r:zu)(n:Int)(e:zA):qi:=qi.mk 2 r.Me r.View n r.Commit 0 0 e.Client e.Req 0 e.Cmd zl
def kQ(r:zu):qi:=qi.mk 4 r.Me r.View 0 r.Commit 0 0 0 0 0 (ji.mk 0 0 0) zl
def JY(r:zu):qi:=qi.mk 5 r.Me r.View 0 0 0 0 0 0 0 (ji.mk 0 0 0) zl
def kd(r:zu):qi:=qi.mk 8 r.Me 0 0 0 0 r.Nonce 0 0 0 (ji.mk 0 0 0) zl
def doM(r:zu):qi:=qi.mk 6 r.Me r.View 0 r.Commit r.Normal 0 0 0 0 (ji.mk 0 0 0) r.Log
def xt(xs:List zA)(i:Nat):zA:=(xs[i]?).getD (zA.mk 0 0<|ji.mk 0 0 0)
def xn(r:zu)(k n:Nat):Nat→List zO
 |0=>[]
 |i+1=>xn r k n i++yJ r.Me (X7 r (r.Commit+1+(i:Int))<|xt r.Log.Entries (k+i)) n
theorem xD(r:zu)(k n:Nat):∀i,(xn r k n i).length≤n * i
 |0=>by simp[xn]
 |i+1=>by
  have h1:=xD r k n i;have h2:=yK r.Me (X7 r (r.Commit+1+(i:Int))<|xt r.Log.Entries (k+i)) n;simp only[xn,List.length_append,Nat.mul_add,Nat.mul_one];omega
def YH(r:zu):List zO:=
 if Xl r=true then
  if r.Mode=1∧Xj r=true then xn r (r.Commit - r.Log.Base).toNat r.Of.toNat (r.Log.Entries.length - (r.Commit - r.Log.Base).toNat)++yJ r.Me (kQ r) r.Of.toNat
  else if r.Mode=2 then yJ r.Me (JY r) r.Of.toNat++(if 0≤Xr (fun v=>decide (v.Kind=6)&&decide (v.From=r.Me)) r.Votes∧Xj r=false then[zO.mk (Int.tmod r.View r.Of) (doM r)] else[])
  else if r.Mode=3 then yJ r.Me (kd r) r.Of.toNat
  else[]
 else[]
theorem zjl(l:z4)(n:Int)(h:z8 l≤1048576)(ho:Y9 l=true)(h1:l.Base < n)(h2:n≤l.Base+(l.Entries.length:Int)):Yl l n=some (xt l.Entries (n - l.Base - 1).toNat,true):=by
 have hs:=Ye ho;unfold Yl Qd;rw[Xa l h,ho];simp only[Option.bind_some,if_true];rw[if_neg (by omega),YX l h ho];simp only[Option.bind_some];rw[if_neg (by simp;omega),w64 (n:=n - l.Base) (by omega) (by omega),w64 (by omega) (by omega)];have e:n - l.Base - 1=(((n - l.Base - 1).toNat:Nat):Int):=by omega
 have hlt:(n - l.Base - 1).toNat < l.Entries.length:=by omega
 rw[e,qD hlt];simp only[Option.bind_some,Int.toNat_natCast];unfold xt;rw[List.getElem?_eq_getElem hlt];rfl
theorem ze5(r:zu)(n:Int)(h:z8 r.Log≤1048576)(ho:Y9 r.Log=true)(h1:r.Log.Base < n)(h2:n≤r.Log.Base+(r.Log.Entries.length:Int)):Zv r n=some (X7 r n<|xt r.Log.Entries (n - r.Log.Base - 1).toNat):=by
 unfold Zv;rw[zjl r.Log n h ho h1 h2];rfl
theorem zdf(r:zu)(h:qC r≤1048576):JG r=some (YH r):=by
 obtain⟨g1,g2⟩:=Qf h;unfold JG YH;rw[zaI r h];simp only[Option.bind_some];cases hr:Xl r
 ·simp
 obtain⟨a1,a2,a3,a4,a5⟩:=xd hr;have hs:=Ye a3;have hw:=za3 a3;obtain⟨n,hn⟩:∃n:Nat,r.Of=(n:Int):=⟨r.Of.toNat,by omega⟩;have h5:n≤5:=by omega
 have hnn:r.Of.toNat=n:=by omega
 obtain⟨k,hk⟩:∃k:Nat,r.Commit - r.Log.Base=(k:Int):=⟨(r.Commit - r.Log.Base).toNat,by omega⟩;have hkk:(r.Commit - r.Log.Base).toNat=k:=by omega
 simp only[if_true,hnn,hkk,zdr r hr,Option.bind_some];have hmode:∀b:Bool,Zm r j9 b=some (if b=true then xn r k n (r.Log.Entries.length - k)++yJ r.Me (kQ r) n
   else if r.Mode=2 then yJ r.Me (JY r) n++(if 0≤Xr (fun v=>decide (v.Kind=6)&&decide (v.From=r.Me)) r.Votes∧Xj r=false then[zO.mk (Int.tmod r.View r.Of) (doM r)] else[])
   else if r.Mode=3 then yJ r.Me (kd r) n else[]):=fun b=>by
  unfold Zm;cases b with
  |true=>
   simp only[if_true];have hc1:IntKind.wrap .i64 (r.Commit+1)=r.Commit+1:=w64 (by omega) (by omega);rw[hc1];refine ym (fun i=>(xn r k n i,r.Commit+1+(i:Int))) _ (r.Log.Entries.length - k) (by omega) (fun kb i hi=> ?_) (fun kb=> ?_) (by simp[xn])
   ·have hl:=xD r k n i;have hl2:=yK r.Me (X7 r (r.Commit+1+(i:Int))<|xt r.Log.Entries (k+i)) n;have hb:n * i≤5 * 60:=Nat.mul_le_mul h5 (by omega);have e:(r.Commit+1+(i:Int) - r.Log.Base - 1).toNat=k+i:=by omega
    unfold JZ;rw[YX r.Log g1 a3];simp only[Option.bind_some];rw[if_pos (by omega),ze5 r _ g1 a3 (by omega) (by omega),e];simp only[Option.bind_some];rw[zbz r _ n hn h5 xU];simp only[Option.bind_some];rw[if_pos (by simp only[List.length_append];omega),w64 (by omega) (by omega)];show kb _=kb (xn r k n (i+1),_);congr 2;omega
   ·have hl:=xD r k n (r.Log.Entries.length - k);have hl2:=yK r.Me (kQ r) n;have hb:n * (r.Log.Entries.length - k)≤5 * 60:=Nat.mul_le_mul h5 (by omega);unfold JZ JN;rw[YX r.Log g1 a3];simp only[Option.bind_some];rw[if_neg (by omega)];have:=zbz r (kQ r) n hn h5 xU;unfold kQ zl at this;rw[this];simp only[Option.bind_some];have hl2:(yJ r.Me (qi.mk 4 r.Me r.View 0 r.Commit 0 0 0 0 0 (ji.mk 0 0 0)<|z4.mk 0 (zK.mk [] []) []) n).length≤n:=yK _ _ _;rw[if_pos (by simp only[List.length_append];omega)];rfl
  |false=>
   simp only[Bool.false_eq_true,if_false];by_cases m2:r.Mode=2
   ·rw[if_pos m2,if_pos m2];have:=zbz r (JY r) n hn h5 xU;unfold JY zl at this;rw[this,zig _ _ _ (by omega)];simp only[Option.bind_some,zdr r hr];have hl2:(yJ r.Me (qi.mk 5 r.Me r.View 0 0 0 0 0 0 0 (ji.mk 0 0 0)<|z4.mk 0 (zK.mk [] []) []) n).length≤n:=yK _ _ _;unfold Z7 j9 ka;rw[zbj r hr,zfk _ g1];simp only[Option.bind_some];by_cases c:0≤Xr (fun v:zE=>decide (v.Kind=6)&&decide (v.From=r.Me)) r.Votes
    ·rw[if_pos c];cases hld:Xj r
     ·simp only[Bool.not_false,if_true,c,and_self];rw[if_pos (by simp;omega)];rfl
     ·simp[JY,zl]
    ·simp[c,JY,zl]
   ·rw[if_neg m2,if_neg m2];by_cases m3:r.Mode=3
    ·rw[if_pos m3,if_pos m3];have:=zbz r (kd r) n hn h5 xU;unfold kd zl at this;rw[this];rfl
    ·rw[if_neg m3,if_neg m3];rfl
 rw[hmode,hmode];by_cases m1:r.Mode=1
 ·cases Xj r<;>simp[m1]
 ·simp[m1]
theorem Kb(r:zu):zu.mk r.Me r.Of r.Mode r.View r.Normal r.Commit (z4.mk r.Log.Base r.Log.Image r.Log.Entries) r.Votes r.Cell r.Nonce=r:=rfl
theorem zdg(r:zu)(h:qC r≤1048576):Qc r=some (YH r):=by
 obtain⟨g1,g2⟩:=Qf h;obtain⟨g3,g4⟩:=Qz g2;unfold Qc YH;rw[zaJ r h];simp only[Option.bind_some];cases hr:Xl r
 ·simp
 obtain⟨a1,a2,a3,a4,a5⟩:=xd hr;have hs:=Ye a3;have hw:=za3 a3;obtain⟨n,hn⟩:∃n:Nat,r.Of=(n:Int):=⟨r.Of.toNat,by omega⟩;have h5:n≤5:=by omega
 have hnn:r.Of.toNat=n:=by omega
 obtain⟨k,hk⟩:∃k:Nat,r.Commit - r.Log.Base=(k:Int):=⟨(r.Commit - r.Log.Base).toNat,by omega⟩;have hkk:(r.Commit - r.Log.Base).toNat=k:=by omega
 have hkl:k≤r.Log.Entries.length:=by omega
 simp only[if_true,hnn,hkk,zdn r h,zba r _ hr,Option.bind_some];have hmode:∀b:Bool,ZC r jJ b=some (if b=true then xn r k n (r.Log.Entries.length - k)++yJ r.Me (kQ r) n
   else if r.Mode=2 then yJ r.Me (JY r) n++(if 0≤Xr (fun v=>decide (v.Kind=6)&&decide (v.From=r.Me)) r.Votes∧Xj r=false then[zO.mk (Int.tmod r.View r.Of) (doM r)] else[])
   else if r.Mode=3 then yJ r.Me (kd r) n else[]):=fun b=>by
  unfold ZC;cases b with
  |true=>
   simp only[if_true];have hw1:IntKind.wrap .i64 (r.Commit - r.Log.Base)=(k:Int):=by rw[w64 (by omega) (by omega)];exact hk
   rw[hw1,if_pos (by omega)];refine ym (fun i=>((i:Int),r.Me,r.Of,r.Mode,r.View,r.Normal,r.Commit,r.Log.Base,r.Cell,r.Nonce,xn r k n i)) _ (r.Log.Entries.length - k) (by omega) (fun kb i hi=> ?_) (fun kb=> ?_) (by simp[xn])
   ·have hl:=xD r k n i;have hb:n * i≤5 * 60:=Nat.mul_le_mul h5 (by omega);have hki:k+i < r.Log.Entries.length:=by omega
    have hidx:idx (List.take (r.Log.Entries.length - k)<|List.drop k r.Log.Entries) (i:Int)=some (xt r.Log.Entries (k+i)):=by
     rw[zdV,List.getElem?_take,if_pos hi,List.getElem?_drop];unfold xt;rw[List.getElem?_eq_getElem hki];rfl
    unfold J3;simp only[hw1,Int.toNat_natCast,yl i _ hi (by omega),hidx,Option.bind_some,yG];rw[if_pos (by omega)];have hc1:IntKind.wrap .i64 (r.Commit+1)=r.Commit+1:=w64 (by omega) (by omega);have hc2:IntKind.wrap .i64 (r.Commit+1+(i:Int))=r.Commit+1+(i:Int):=w64 (by omega) (by omega);rw[hc1,hc2];have:=X8 r (xn r k n i) (X7 r (r.Commit+1+(i:Int))<|xt r.Log.Entries (k+i)) n hn h5 xU (by omega);unfold X7 zl at this;rw[Kb,this];rfl
   ·have hl:=xD r k n (r.Log.Entries.length - k);have hb:n * (r.Log.Entries.length - k)≤5 * 60:=Nat.mul_le_mul h5 (by omega);unfold J3 JK;simp only[hw1,Int.toNat_natCast];rw[if_neg (by omega)];have:=X8 r (xn r k n (r.Log.Entries.length - k)) (kQ r) n hn h5 xU (by omega);unfold kQ zl at this;rw[Kb,this];rfl
  |false=>
   simp only[Bool.false_eq_true,if_false];by_cases m2:r.Mode=2
   ·rw[if_pos m2,if_pos m2];have:=X8 r [] (JY r) n hn h5 xU (by simp);unfold JY zl at this;rw[this];simp only[Option.bind_some,Kb];rw[zoB _ _ _ (by simpa using g3)];simp only[Option.bind_some,zba r _ hr];have hl2:(yJ r.Me (qi.mk 5 r.Me r.View 0 0 0 0 0 0 0 (ji.mk 0 0 0)<|z4.mk 0 (zK.mk [] []) []) n).length≤n:=yK _ _ _;unfold ZT jJ Ze;simp only[Kb,Option.bind_some,List.nil_append];by_cases c:0≤Xr (fun v:zE=>decide (v.Kind=6)&&decide (v.From=r.Me)) r.Votes
    ·rw[if_pos c];cases hld:Xj r
     ·simp only[Bool.not_false,if_true,c,and_self];rw[if_pos (show ¬r.Of=0 by omega)];rw[zhE _ _ _ g1 (by simp only;omega)];rfl
     ·simp[JY,zl]
    ·simp[c,JY,zl]
   ·rw[if_neg m2,if_neg m2];by_cases m3:r.Mode=3
    ·rw[if_pos m3,if_pos m3];have:=X8 r [] (kd r) n hn h5 xU (by simp);unfold kd zl at this;rw[this];rfl
    ·rw[if_neg m3,if_neg m3];rfl
 rw[hmode,hmode];by_cases m1:r.Mode=1
 ·cases Xj r<;>simp[m1]
 ·simp[m1]
def Y4{α:Type}(g:Nat→α)(xs:List α)(i:Nat):List α:=(List.range i).map g++xs.drop i
theorem Jo{α:Type}(g:Nat→α){xs:List α}{i:Nat}(h:i≤xs.length):(Y4 g xs i).length=xs.length:=by
 unfold Y4;simp;omega
theorem XF{α:Type}(g:Nat→α){xs:List α}{i:Nat}(h:i < xs.length):idx (Y4 g xs i) (i:Int)=some xs[i]:=by
 rw[zdV];unfold Y4;rw[List.getElem?_append_right (by simp)];simp[h]
theorem Xt{α:Type}(g:Nat→α){xs:List α}{i:Nat}(h:i < xs.length):(Y4 g xs i).set i (g i)=Y4 g xs (i+1):=by
 unfold Y4;rw[List.set_append,if_neg (by simp),List.range_succ,List.map_append,List.append_assoc];congr 1;have e:i - ((List.range i).map g).length=0:=by simp
 rw[e,List.drop_eq_getElem_cons h];rfl
theorem kt{α:Type}(g:Nat→α)(xs:List α):Y4 g xs 0=xs:=by simp[Y4]
theorem X0{α:Type}(g:Nat→α)(xs:List α):Y4 g xs xs.length=(List.range xs.length).map g:=by simp[Y4]
theorem YB{α:Type}{xs:List α}{i:Nat}{a:α}(h:i < xs.length):idx (xs.set i a) (i:Int)=some a:=by
 rw[qD (by simpa using h)];simp
theorem Kg{α:Type}(g:Nat→α){n i:Nat}(h:i < n):idx ((List.range n).map g) (i:Int)=some (g i):=by
 rw[qD (by simpa using h)];simp
def Yj(k:Int):zT:=⟨k,k+1⟩
def J8(k:Int)(n:Nat):List zT:=(List.range n).map fun(i:Nat)=>Yj (k+2 * (i:Int))
theorem Zs(k:Int)(n:Nat):(J8 k n).length=n:=by simp[J8]
theorem XS(xs:List zT)(k:Int)(h:xs.length≤1048576)(hk:0≤k)(hk':k≤1000000000000):jR xs k=some (k+2 * (xs.length:Int),J8 k xs.length):=by
 unfold jR;refine ym (fun i=>(Y4 (fun(i:Nat)=>Yj (k+2 * (i:Int))) xs i,k+2 * (i:Int),(i:Int))) _ xs.length (by omega) (fun kb i hi=> ?_) (fun kb=> ?_) (by simp[kt])
 ·unfold Qk;have hl:=Jo (fun(i:Nat)=>Yj (k+2 * (i:Int))) (Nat.le_of_lt hi);have w1:IntKind.wrap .i64 (k+2 * (i:Int)+1)=k+2 * (i:Int)+1:=w64 (by omega) (by omega);have w2:IntKind.wrap .i64 (k+2 * (i:Int)+1+1)=k+2 * (i:Int)+2:=by rw[w64 (by omega) (by omega)];omega
  have e:k+2 * ((i+1:Nat):Int)=k+2 * (i:Int)+2:=by omega
  have hs:=Xt (fun(i:Nat)=>Yj (k+2 * (i:Int))) hi;have hx:=XF (fun(i:Nat)=>Yj (k+2 * (i:Int))) hi;show _=kb (Y4 (fun(i:Nat)=>Yj (k+2 * (i:Int))) xs (i+1),k+2 * ((i+1:Nat):Int),((i+1:Nat):Int));rw[←hs,e];generalize Y4 (fun(i:Nat)=>Yj (k+2 * (i:Int))) xs i=row at hl hx;have hii:i < row.length:=by rw[hl];exact hi
  simp only[hx,Option.bind_some,Int.toNat_natCast,YB hii,List.set_set,yl i _ hi (by omega),w1,w2,hl,Yj];rw[if_pos (by omega)]
 ·unfold Qk Qq;have hl:=Jo (fun(i:Nat)=>Yj (k+2 * (i:Int))) (Nat.le_refl xs.length);rw[if_neg (by simp only[hl];omega),if_pos hl,X0];rfl
theorem zfh(n:Nat)(k:Int)(h:n≤1048576)(hk:0≤k)(hk':k≤1000000000000):ZD (J8 k n) k=some (k+2 * (n:Int)):=by
 unfold ZD;refine ym (fun i=>(k+2 * (i:Int),(i:Int))) _ n (by omega) (fun kb i hi=> ?_) (fun kb=> ?_) (by simp)
 ·unfold Qp;have w1:IntKind.wrap .i64 (k+2 * (i:Int)+1)=k+2 * (i:Int)+1:=w64 (by omega) (by omega);have w2:IntKind.wrap .i64 (k+2 * (i:Int)+1+1)=k+2 * (i:Int)+2:=by rw[w64 (by omega) (by omega)];omega
  have e:k+2 * ((i+1:Nat):Int)=k+2 * (i:Int)+2:=by omega
  have hx:idx (J8 k n) (i:Int)=some (Yj (k+2 * (i:Int))):=Kg _ hi;simp only[hx,Option.bind_some,yl i _ hi (by omega),w1,w2,Yj,Zs,not_true,if_false,e];rw[if_pos (by omega)]
 ·unfold Qp Qt;rw[if_neg (by simp only[Zs];omega)]
def Yk(k:Int):zS:=⟨k,k+1,k+2⟩
def J7(k:Int)(n:Nat):List zS:=(List.range n).map fun(i:Nat)=>Yk (k+3 * (i:Int))
theorem Zw(k:Int)(n:Nat):(J7 k n).length=n:=by simp[J7]
theorem Xz(xs:List zS)(k:Int)(h:xs.length≤1048576)(hk:0≤k)(hk':k≤1000000000000):jT xs k=some (k+3 * (xs.length:Int),J7 k xs.length):=by
 unfold jT;refine ym (fun i=>(Y4 (fun(i:Nat)=>Yk (k+3 * (i:Int))) xs i,k+3 * (i:Int),(i:Int))) _ xs.length (by omega) (fun kb i hi=> ?_) (fun kb=> ?_) (by simp[kt])
 ·unfold Qs;have hl:=Jo (fun(i:Nat)=>Yk (k+3 * (i:Int))) (Nat.le_of_lt hi);have w1:IntKind.wrap .i64 (k+3 * (i:Int)+1)=k+3 * (i:Int)+1:=w64 (by omega) (by omega);have w2:IntKind.wrap .i64 (k+3 * (i:Int)+1+1)=k+3 * (i:Int)+2:=by rw[w64 (by omega) (by omega)];omega
  have w3:IntKind.wrap .i64 (k+3 * (i:Int)+2+1)=k+3 * (i:Int)+3:=by rw[w64 (by omega) (by omega)];omega
  have e:k+3 * ((i+1:Nat):Int)=k+3 * (i:Int)+3:=by omega
  have hs:=Xt (fun(i:Nat)=>Yk (k+3 * (i:Int))) hi;have hx:=XF (fun(i:Nat)=>Yk (k+3 * (i:Int))) hi;show _=kb (Y4 (fun(i:Nat)=>Yk (k+3 * (i:Int))) xs (i+1),k+3 * ((i+1:Nat):Int),((i+1:Nat):Int));rw[←hs,e];generalize Y4 (fun(i:Nat)=>Yk (k+3 * (i:Int))) xs i=row at hl hx;have hii:i < row.length:=by rw[hl];exact hi
  simp only[hx,Option.bind_some,Int.toNat_natCast,YB hii,List.set_set,yl i _ hi (by omega),w1,w2,w3,hl,Yk];rw[if_pos (by omega)]
 ·unfold Qs Qn;have hl:=Jo (fun(i:Nat)=>Yk (k+3 * (i:Int))) (Nat.le_refl xs.length);rw[if_neg (by simp only[hl];omega),if_pos hl,X0];rfl
theorem zfy(n:Nat)(k:Int)(h:n≤1048576)(hk:0≤k)(hk':k≤1000000000000):Zh (J7 k n) k=some (k+3 * (n:Int)):=by
 unfold Zh;refine ym (fun i=>(k+3 * (i:Int),(i:Int))) _ n (by omega) (fun kb i hi=> ?_) (fun kb=> ?_) (by simp)
 ·unfold Qo;have w1:IntKind.wrap .i64 (k+3 * (i:Int)+1)=k+3 * (i:Int)+1:=w64 (by omega) (by omega);have w2:IntKind.wrap .i64 (k+3 * (i:Int)+1+1)=k+3 * (i:Int)+2:=by rw[w64 (by omega) (by omega)];omega
  have w3:IntKind.wrap .i64 (k+3 * (i:Int)+2+1)=k+3 * (i:Int)+3:=by rw[w64 (by omega) (by omega)];omega
  have e:k+3 * ((i+1:Nat):Int)=k+3 * (i:Int)+3:=by omega
  have hx:idx (J7 k n) (i:Int)=some (Yk (k+3 * (i:Int))):=Kg _ hi;simp only[hx,Option.bind_some,yl i _ hi (by omega),w1,w2,w3,Yk,Zw,not_true,if_false,e];rw[if_pos (by omega)]
 ·unfold Qo Qr;rw[if_neg (by simp only[Zw];omega)]
def QF(k:Int):zA:=⟨k,k+1,⟨k+2,k+3,k+4⟩⟩
def QJ(k:Int)(n:Nat):List zA:=(List.range n).map fun(i:Nat)=>QF (k+5 * (i:Int))
theorem JM(k:Int)(n:Nat):(QJ k n).length=n:=by simp[QJ]
theorem kU(xs:List zA)(k:Int)(h:xs.length≤1048576)(hk:0≤k)(hk':k≤1000000000000):jI xs k=some (k+5 * (xs.length:Int),QJ k xs.length):=by
 unfold jI;refine ym (fun i=>(Y4 (fun(i:Nat)=>QF (k+5 * (i:Int))) xs i,k+5 * (i:Int),(i:Int))) _ xs.length (by omega) (fun kb i hi=> ?_) (fun kb=> ?_) (by simp[kt])
 ·unfold ZL;have hl:=Jo (fun(i:Nat)=>QF (k+5 * (i:Int))) (Nat.le_of_lt hi);have w1:IntKind.wrap .i64 (k+5 * (i:Int)+1)=k+5 * (i:Int)+1:=w64 (by omega) (by omega);have w2:IntKind.wrap .i64 (k+5 * (i:Int)+1+1)=k+5 * (i:Int)+2:=by rw[w64 (by omega) (by omega)];omega
  have w3:IntKind.wrap .i64 (k+5 * (i:Int)+2+1)=k+5 * (i:Int)+3:=by rw[w64 (by omega) (by omega)];omega
  have w4:IntKind.wrap .i64 (k+5 * (i:Int)+3+1)=k+5 * (i:Int)+4:=by rw[w64 (by omega) (by omega)];omega
  have w5:IntKind.wrap .i64 (k+5 * (i:Int)+4+1)=k+5 * (i:Int)+5:=by rw[w64 (by omega) (by omega)];omega
  have e:k+5 * ((i+1:Nat):Int)=k+5 * (i:Int)+5:=by omega
  have hs:=Xt (fun(i:Nat)=>QF (k+5 * (i:Int))) hi;have hx:=XF (fun(i:Nat)=>QF (k+5 * (i:Int))) hi;show _=kb (Y4 (fun(i:Nat)=>QF (k+5 * (i:Int))) xs (i+1),k+5 * ((i+1:Nat):Int),((i+1:Nat):Int));rw[←hs,e];generalize Y4 (fun(i:Nat)=>QF (k+5 * (i:Int))) xs i=row at hl hx;have hii:i < row.length:=by rw[hl];exact hi
  simp only[hx,Option.bind_some,Int.toNat_natCast,YB hii,List.set_set,yl i _ hi (by omega),w1,w2,w3,w4,w5,hl,QF];rw[if_pos (by omega)]
 ·unfold ZL ZO;have hl:=Jo (fun(i:Nat)=>QF (k+5 * (i:Int))) (Nat.le_refl xs.length);rw[if_neg (by simp only[hl];omega),if_pos hl,X0];rfl
theorem zeh(n:Nat)(k:Int)(h:n≤1048576)(hk:0≤k)(hk':k≤1000000000000):yZ (QJ k n) k=some (k+5 * (n:Int)):=by
 unfold yZ;refine ym (fun i=>(k+5 * (i:Int),(i:Int))) _ n (by omega) (fun kb i hi=> ?_) (fun kb=> ?_) (by simp)
 ·unfold ZH;have w1:IntKind.wrap .i64 (k+5 * (i:Int)+1)=k+5 * (i:Int)+1:=w64 (by omega) (by omega);have w2:IntKind.wrap .i64 (k+5 * (i:Int)+1+1)=k+5 * (i:Int)+2:=by rw[w64 (by omega) (by omega)];omega
  have w3:IntKind.wrap .i64 (k+5 * (i:Int)+2+1)=k+5 * (i:Int)+3:=by rw[w64 (by omega) (by omega)];omega
  have w4:IntKind.wrap .i64 (k+5 * (i:Int)+3+1)=k+5 * (i:Int)+4:=by rw[w64 (by omega) (by omega)];omega
  have w5:IntKind.wrap .i64 (k+5 * (i:Int)+4+1)=k+5 * (i:Int)+5:=by rw[w64 (by omega) (by omega)];omega
  have e:k+5 * ((i+1:Nat):Int)=k+5 * (i:Int)+5:=by omega
  have hx:idx (QJ k n) (i:Int)=some (QF (k+5 * (i:Int))):=Kg _ hi;simp only[hx,Option.bind_some,yl i _ hi (by omega),w1,w2,w3,w4,w5,QF,JM,not_true,if_false,e];rw[if_pos (by omega)]
 ·unfold ZH ZI;rw[if_neg (by simp only[JM];omega)]
def zci(l:z4):Nat:=2 * l.Image.Cells.length+3 * l.Image.Seats.length+5 * l.Entries.length
def xu(m:zK)(k:Int):zK:=zK.mk (J8 k m.Cells.length) (J7 (k+2 * (m.Cells.length:Int)) m.Seats.length)
def zao(l:z4)(k:Int):z4:=z4.mk l.Base (xu l.Image k) (QJ (k+2 * (l.Image.Cells.length:Int)+3 * (l.Image.Seats.length:Int)) l.Entries.length)
theorem zeS(m:zK)(k:Int)(h1:m.Cells.length≤1048576)(h2:m.Seats.length≤1048576)(hk:0≤k)(hk':k≤1000000000):Zr m k=some (k+2 * (m.Cells.length:Int)+3 * (m.Seats.length:Int),xu m k):=by
 unfold Zr xu;rw[XS _ _ h1 hk (by omega)];simp only[Option.bind_some,Zs,if_true];rw[Xz _ _ h2 (by omega) (by omega)];simp only[Option.bind_some,Zw,if_true]
theorem zho(l:z4)(k:Int)(h:z8 l≤1048576)(hk:0≤k)(hk':k≤1000000000):QY l k=some (k+(zci l:Int),zao l k):=by
 obtain⟨h1,h2,h3⟩:=Yg h;unfold QY zao;rw[zeS _ _ h1 h2 hk hk'];simp only[Option.bind_some];rw[if_pos (by simp[xu,Zs]),if_pos (by simp[xu,Zw]),kU _ _ h3 (by omega) (by omega)];simp only[Option.bind_some,JM,if_true];rw[if_pos (by simp[xu,Zs]),if_pos (by simp[xu,Zw])];congr 2;unfold zci;omega
theorem zgz(l:z4)(k:Int):(zao l k).Image.Cells.length=l.Image.Cells.length:=by simp[zao,xu,Zs]
theorem zgp(l:z4)(k:Int):(zao l k).Image.Seats.length=l.Image.Seats.length:=by simp[zao,xu,Zw]
theorem zgq(l:z4)(k:Int):(zao l k).Entries.length=l.Entries.length:=by simp[zao,JM]
theorem zeo(l:z4):zci l≤5 * z8 l:=by unfold zci z8 jf;omega
def zce(l:z4)(k:Int):z4:=z4.mk k (zK.mk (J8 (k+1) l.Image.Cells.length)<|J7 (k+1+2 * (l.Image.Cells.length:Int)) l.Image.Seats.length) (QJ (k+1+2 * (l.Image.Cells.length:Int)+3 * (l.Image.Seats.length:Int)) l.Entries.length)
def Y5(v:zE):Nat:=7+zci v.Log
def zf1(v:zE)(k:Int):zE:=zE.mk k (k+1) (k+2) (k+3) (k+4) (k+5) (zce v.Log (k+6))
def Kt(xs:List zE)(k:Int)(i:Nat):zE:=match xs[i]? with
 |some x=>zf1 x (k+(jk Y5 (xs.take i):Nat))
 |none=>zE.mk 0 0 0 0 0 0 (z4.mk 0 (zK.mk [] []) [])
theorem zhL(xs:List zE)(k:Int){i:Nat}(hi:i < xs.length):Kt xs k i=zf1 xs[i] (k+(jk Y5 (xs.take i):Nat)):=by
 unfold Kt;rw[List.getElem?_eq_getElem hi]
def Xd(xs:List zE)(k:Int):List zE:=(List.range xs.length).map (Kt xs k)
theorem Xx(xs:List zE)(k:Int):(Xd xs k).length=xs.length:=by simp[Xd]
theorem zdY:∀(xs:List zE),jk Y5 xs≤7 * xs.length+5 * jk (fun y:zE=>qj y) xs
 |[]=>by simp[jk]
 |x::xs=>by
  have ih:=zdY xs;have:=zeo x.Log;simp only[jk,List.length_cons,Y5,qj];unfold qj at ih;omega
theorem zeY{xs:List zE}(h:jg xs≤1048576)(i:Nat):jk Y5 (xs.take i)≤12 * 1048576:=by
 have h1:=X1 Y5 xs i;have h2:=zdY xs;unfold jg at h;omega
theorem zfr(xs:List zE)(k:Int)(h:jg xs≤1048576)(hk:0≤k)(hk':k≤100000000):ZB xs k=some (k+(jk Y5 xs:Nat),Xd xs k):=by
 obtain⟨hl0,hs0⟩:=Qz h;unfold ZB;refine ym (fun i=>(Y4 (Kt xs k) xs i,k+(jk Y5 (xs.take i):Nat),(i:Int))) _ xs.length (by omega) (fun kb i hi=> ?_) (fun kb=> ?_) (by simp[kt,jk])
 ·unfold Qi;have hl:=Jo (Kt xs k) (Nat.le_of_lt hi);have hs:=Xt (Kt xs k) hi;have hx:=XF (Kt xs k) hi;have hb:=zeY h i;have hsz:=hs0 i hi;unfold qj at hsz;have e:k+((jk Y5 (xs.take (i+1)):Nat):Int)=k+(jk Y5 (xs.take i):Nat)+7+2 * (xs[i].Log.Image.Cells.length:Int)+3 * (xs[i].Log.Image.Seats.length:Int)+5 * (xs[i].Log.Entries.length:Int):=by
   rw[kK Y5 hi];unfold Y5 zci;omega
  show _=kb (Y4 (Kt xs k) xs (i+1),k+((jk Y5 (xs.take (i+1)):Nat):Int),((i+1:Nat):Int));rw[←hs,e,zhL xs k hi];have hkk:0≤k+((jk Y5 (xs.take i):Nat):Int)∧k+((jk Y5 (xs.take i):Nat):Int)≤200000000:=by omega
  generalize k+((jk Y5 (xs.take i):Nat):Int)=kk at hkk ⊢;generalize Y4 (Kt xs k) xs i=row at hl hx ⊢;have hii:i < row.length:=by rw[hl];exact hi
  have w1:IntKind.wrap .i64 (kk+1)=kk+1:=w64 (by omega) (by omega);have w2:IntKind.wrap .i64 (kk+1+1)=kk+2:=by rw[w64 (by omega) (by omega)];omega
  have w3:IntKind.wrap .i64 (kk+2+1)=kk+3:=by rw[w64 (by omega) (by omega)];omega
  have w4:IntKind.wrap .i64 (kk+3+1)=kk+4:=by rw[w64 (by omega) (by omega)];omega
  have w5:IntKind.wrap .i64 (kk+4+1)=kk+5:=by rw[w64 (by omega) (by omega)];omega
  have w6:IntKind.wrap .i64 (kk+5+1)=kk+6:=by rw[w64 (by omega) (by omega)];omega
  have w7:IntKind.wrap .i64 (kk+7)=kk+7:=w64 (by omega) (by omega);obtain⟨z1,z2,z3⟩:=Yg hsz;have hC:=XS xs[i].Log.Image.Cells (kk+7) z1 (by omega) (by omega);have hS:=Xz xs[i].Log.Image.Seats (kk+7+2 * (xs[i].Log.Image.Cells.length:Int)) z2 (by omega) (by omega);have hE:=kU xs[i].Log.Entries (kk+7+2 * (xs[i].Log.Image.Cells.length:Int)+3 * (xs[i].Log.Image.Seats.length:Int)) z3 (by omega) (by omega);have e6:kk+6+1=kk+7:=by omega
  simp only[hx,Option.bind_some,Int.toNat_natCast,YB hii,List.set_set,yl i _ hi (by omega),w1,w2,w3,w4,w5,w6,w7,hC,hS,hE,hl,zf1,zce,e6];rw[if_pos (by omega)]
 ·unfold Qi Qv;have hl:=Jo (Kt xs k) (Nat.le_refl xs.length);rw[if_neg (by simp only[hl];omega),if_pos hl,X0,List.take_length];rfl
theorem zda(r:zu)(h:qC r≤1048576):∃v:Int×zu,yE r 1=some v∧0≤v.1∧v.2.Log.Image.Cells.length=r.Log.Image.Cells.length∧v.2.Log.Image.Seats.length=r.Log.Image.Seats.length∧v.2.Log.Entries.length=r.Log.Entries.length∧v.2.Votes.length=r.Votes.length:=by
 obtain⟨g1,g2⟩:=Qf h;have hc:=zeo r.Log;refine⟨(1+(zci r.Log:Int)+(jk Y5 r.Votes:Nat),zu.mk r.Me r.Of r.Mode r.View r.Normal r.Commit (zao r.Log 1) (Xd r.Votes (1+(zci r.Log:Int))) r.Cell r.Nonce),?_,by simp only;omega,zgz _ _,zgp _ _,zgq _ _,Xx _ _⟩;unfold yE;rw[zho _ _ g1 (by omega) (by omega)];simp only[Option.bind_some,zgz,zgp,zgq,if_true];rw[zfr _ _ g2 (by omega) (by omega)];simp only[Option.bind_some,Xx,if_true];rfl
def Y3(o:zO):Nat:=15+zci o.Msg.Log
def zb0(o:zO)(k:Int):zO:=zO.mk k (qi.mk (k+1) (k+2) (k+3) (k+4) (k+5) (k+6) (k+7) (k+8) (k+9) (k+10) (ji.mk (k+11) (k+12) (k+13))<|zce o.Msg.Log (k+14))
def zb9(xs:List zO)(k:Int)(i:Nat):zO:=match xs[i]? with
 |some x=>zb0 x (k+(jk Y3 (xs.take i):Nat))
 |none=>zb0 (zO.mk 0<|qi.mk 0 0 0 0 0 0 0 0 0 0 (ji.mk 0 0 0) zl) 0
theorem zgn(xs:List zO)(k:Int){i:Nat}(hi:i < xs.length):zb9 xs k i=zb0 xs[i] (k+(jk Y3 (xs.take i):Nat)):=by
 unfold zb9;rw[List.getElem?_eq_getElem hi]
def ks(xs:List zO)(k:Int):List zO:=(List.range xs.length).map (zb9 xs k)
theorem ko(xs:List zO)(k:Int):(ks xs k).length=xs.length:=by simp[ks]
theorem zeQ:∀(xs:List zO),jk Y3 xs≤15 * xs.length+5 * jk (fun y:zO=>yY y) xs
 |[]=>by simp[jk]
 |x::xs=>by
  have ih:=zeQ xs;have:=zeo x.Msg.Log;simp only[jk,List.length_cons,Y3,yY,JB];unfold yY JB at ih;omega
theorem zcy{xs:List zO}(h:yw xs≤1048576)(i:Nat):jk Y3 (xs.take i)≤20 * 1048576:=by
 have h1:=X1 Y3 xs i;have h2:=zeQ xs;unfold yw at h;omega
theorem wN0(kk b:Int)(h:0≤kk∧kk≤200000000)(h0:0≤b)(h1:b≤100):IntKind.wrap .i64 (kk+b)=kk+b:=w64 (by omega) (by omega)
theorem wN(kk a b:Int)(h:0≤kk∧kk≤200000000)(h0:0≤a)(h1:a≤100)(e:a+1=b):IntKind.wrap .i64 (kk+a+1)=kk+b:=by
 subst e;rw[w64 (by omega) (by omega)];omega
def zev(o:zO)(kk:Int):Int:=kk+15+2 * (o.Msg.Log.Image.Cells.length:Int)+3 * (o.Msg.Log.Image.Seats.length:Int)+5 * (o.Msg.Log.Entries.length:Int)
theorem zd7{kx:((List zO)×Int)→Option (Int×(List zO))}{kb:((List zO)×Int×Int)→Option (Int×(List zO))}(row:List zO)(kk:Int)(i:Nat)(x:zO)(hx:idx row (i:Int)=some x)(hii:i < row.length)(hsz:z8 x.Msg.Log≤1048576)(hkk:0≤kk∧kk≤200000000):
  ZF kx kb (row,kk,(i:Int))=kb (row.set i<|zb0 x kk,zev x kk,IntKind.wrap .i64 ((i:Int)+1)):=by
 obtain⟨z1,z2,z3⟩:=Yg hsz;have hC:=XS x.Msg.Log.Image.Cells (kk+15) z1 (by omega) (by omega);have hS:=Xz x.Msg.Log.Image.Seats (kk+15+2 * (x.Msg.Log.Image.Cells.length:Int)) z2 (by omega) (by omega);have hE:=kU x.Msg.Log.Entries (kk+15+2 * (x.Msg.Log.Image.Cells.length:Int)+3 * (x.Msg.Log.Image.Seats.length:Int)) z3 (by omega) (by omega);have e6:kk+14+1=kk+15:=by omega
 have w1:IntKind.wrap .i64 (kk+1)=kk+1:=wN0 kk 1 hkk (by decide) (by decide);have w2:IntKind.wrap .i64 (kk+1+1)=kk+2:=wN kk 1 2 hkk (by decide) (by decide) rfl;have w3:IntKind.wrap .i64 (kk+2+1)=kk+3:=wN kk 2 3 hkk (by decide) (by decide) rfl;have w4:IntKind.wrap .i64 (kk+3+1)=kk+4:=wN kk 3 4 hkk (by decide) (by decide) rfl;have w5:IntKind.wrap .i64 (kk+4+1)=kk+5:=wN kk 4 5 hkk (by decide) (by decide) rfl;have w6:IntKind.wrap .i64 (kk+5+1)=kk+6:=wN kk 5 6 hkk (by decide) (by decide) rfl;have w7:IntKind.wrap .i64 (kk+6+1)=kk+7:=wN kk 6 7 hkk (by decide) (by decide) rfl;have w8:IntKind.wrap .i64 (kk+7+1)=kk+8:=wN kk 7 8 hkk (by decide) (by decide) rfl;have w9:IntKind.wrap .i64 (kk+8+1)=kk+9:=wN kk 8 9 hkk (by decide) (by decide) rfl;have w10:IntKind.wrap .i64 (kk+9+1)=kk+10:=wN kk 9 10 hkk (by decide) (by decide) rfl;have w11:IntKind.wrap .i64 (kk+10+1)=kk+11:=wN kk 10 11 hkk (by decide) (by decide) rfl;have w12:IntKind.wrap .i64 (kk+11+1)=kk+12:=wN kk 11 12 hkk (by decide) (by decide) rfl;have w13:IntKind.wrap .i64 (kk+12+1)=kk+13:=wN kk 12 13 hkk (by decide) (by decide) rfl;have w14:IntKind.wrap .i64 (kk+13+1)=kk+14:=wN kk 13 14 hkk (by decide) (by decide) rfl;have w15:IntKind.wrap .i64 (kk+15)=kk+15:=wN0 kk 15 hkk (by decide) (by decide);unfold ZF;rw[if_pos (show(i:Int) < ((row.length:Nat):Int) by exact Int.ofNat_lt.2 hii)];simp only[hx,Option.bind_some,Int.toNat_natCast,YB hii,List.set_set,w1,w2,w3,w4,w5,w6,w7,w8,w9,w10,w11,w12,w13,w14,w15,hC,hS,hE,zb0,zce,zev,e6]
theorem zfD(xs:List zO)(k:Int)(h:yw xs≤1048576)(hk:0≤k)(hk':k≤100000000):ZV xs k=some (k+(jk Y3 xs:Nat),ks xs k):=by
 obtain⟨hl0,hs0⟩:=KC h;unfold ZV;refine ym (fun i=>(Y4 (zb9 xs k) xs i,k+(jk Y3 (xs.take i):Nat),(i:Int))) _ xs.length (by omega) (fun kb i hi=> ?_) (fun kb=> ?_) (by simp[kt,jk])
 ·have hl:=Jo (zb9 xs k) (Nat.le_of_lt hi);have hs:=Xt (zb9 xs k) hi;have hx:=XF (zb9 xs k) hi;have hb:=zcy h i;have hsz:=hs0 i hi;unfold yY JB at hsz;have e:k+((jk Y3 (xs.take (i+1)):Nat):Int)=k+(jk Y3 (xs.take i):Nat)+15+2 * (xs[i].Msg.Log.Image.Cells.length:Int)+3 * (xs[i].Msg.Log.Image.Seats.length:Int)+5 * (xs[i].Msg.Log.Entries.length:Int):=by
   rw[kK Y3 hi];unfold Y3 zci;omega
  show _=kb (Y4 (zb9 xs k) xs (i+1),k+((jk Y3 (xs.take (i+1)):Nat):Int),((i+1:Nat):Int));rw[←hs,e,zgn xs k hi];have hkk:0≤k+((jk Y3 (xs.take i):Nat):Int)∧k+((jk Y3 (xs.take i):Nat):Int)≤200000000:=by omega
  generalize k+((jk Y3 (xs.take i):Nat):Int)=kk at hkk ⊢;generalize Y4 (zb9 xs k) xs i=row at hl hx ⊢;have hii:i < row.length:=by rw[hl];exact hi
  rw[zd7 row kk i _ hx hii hsz hkk,yl i _ hi (by omega)];rfl
 ·unfold ZF Q6;have hl:=Jo (zb9 xs k) (Nat.le_refl xs.length);rw[if_neg (by simp only[hl];omega),if_pos hl,X0,List.take_length];rfl
theorem zew{kx:Int→Option Int}{kb:(Int×Int)→Option Int}(xs:List zO)(kk:Int)(i:Nat)(x:zO)(hx:idx xs (i:Int)=some (zb0 x kk))(hi:i < xs.length)(hsz:z8 x.Msg.Log≤1048576)(hkk:0≤kk∧kk≤200000000):
  Zz xs kx kb (kk,(i:Int))=kb (zev x kk,IntKind.wrap .i64 ((i:Int)+1)):=by
 obtain⟨z1,z2,z3⟩:=Yg hsz;have hC:=zfh x.Msg.Log.Image.Cells.length (kk+15) z1 (by omega) (by omega);have hS:=zfy x.Msg.Log.Image.Seats.length (kk+15+2 * (x.Msg.Log.Image.Cells.length:Int)) z2 (by omega) (by omega);have hE:=zeh x.Msg.Log.Entries.length (kk+15+2 * (x.Msg.Log.Image.Cells.length:Int)+3 * (x.Msg.Log.Image.Seats.length:Int)) z3 (by omega) (by omega);have n1:¬kk+15+2 * (x.Msg.Log.Image.Cells.length:Int) < 0:=by omega
 have n2:¬kk+15+2 * (x.Msg.Log.Image.Cells.length:Int)+3 * (x.Msg.Log.Image.Seats.length:Int) < 0:=by omega
 have n3:¬kk+15+2 * (x.Msg.Log.Image.Cells.length:Int)+3 * (x.Msg.Log.Image.Seats.length:Int)+5 * (x.Msg.Log.Entries.length:Int) < 0:=by omega
 have e6:kk+14+1=kk+15:=by omega
 have w1:IntKind.wrap .i64 (kk+1)=kk+1:=wN0 kk 1 hkk (by decide) (by decide);have w2:IntKind.wrap .i64 (kk+1+1)=kk+2:=wN kk 1 2 hkk (by decide) (by decide) rfl;have w3:IntKind.wrap .i64 (kk+2+1)=kk+3:=wN kk 2 3 hkk (by decide) (by decide) rfl;have w4:IntKind.wrap .i64 (kk+3+1)=kk+4:=wN kk 3 4 hkk (by decide) (by decide) rfl;have w5:IntKind.wrap .i64 (kk+4+1)=kk+5:=wN kk 4 5 hkk (by decide) (by decide) rfl;have w6:IntKind.wrap .i64 (kk+5+1)=kk+6:=wN kk 5 6 hkk (by decide) (by decide) rfl;have w7:IntKind.wrap .i64 (kk+6+1)=kk+7:=wN kk 6 7 hkk (by decide) (by decide) rfl;have w8:IntKind.wrap .i64 (kk+7+1)=kk+8:=wN kk 7 8 hkk (by decide) (by decide) rfl;have w9:IntKind.wrap .i64 (kk+8+1)=kk+9:=wN kk 8 9 hkk (by decide) (by decide) rfl;have w10:IntKind.wrap .i64 (kk+9+1)=kk+10:=wN kk 9 10 hkk (by decide) (by decide) rfl;have w11:IntKind.wrap .i64 (kk+10+1)=kk+11:=wN kk 10 11 hkk (by decide) (by decide) rfl;have w12:IntKind.wrap .i64 (kk+11+1)=kk+12:=wN kk 11 12 hkk (by decide) (by decide) rfl;have w13:IntKind.wrap .i64 (kk+12+1)=kk+13:=wN kk 12 13 hkk (by decide) (by decide) rfl;have w14:IntKind.wrap .i64 (kk+13+1)=kk+14:=wN kk 13 14 hkk (by decide) (by decide) rfl;have w15:IntKind.wrap .i64 (kk+15)=kk+15:=wN0 kk 15 hkk (by decide) (by decide);unfold Zz;rw[if_pos (show(i:Int) < (xs.length:Int) by exact Int.ofNat_lt.2 hi)];simp only[hx,Option.bind_some,w1,w2,w3,w4,w5,w6,w7,w8,w9,w10,w11,w12,w13,w14,w15,hC,hS,hE,zb0,zce,zev,e6,n1,n2,n3,not_true,if_false]
theorem zfM(xs:List zO)(k:Int)(h:yw xs≤1048576)(hk:0≤k)(hk':k≤100000000):yM (ks xs k) k=some (k+(jk Y3 xs:Nat)):=by
 obtain⟨hl0,hs0⟩:=KC h;unfold yM;refine ym (fun i=>(k+(jk Y3 (xs.take i):Nat),(i:Int))) _ xs.length (by omega) (fun kb i hi=> ?_) (fun kb=> ?_) (by simp[jk])
 ·have hx:idx (ks xs k) (i:Int)=some (zb9 xs k i):=Kg _ hi;have hb:=zcy h i;have hsz:=hs0 i hi;unfold yY JB at hsz;have e:k+((jk Y3 (xs.take (i+1)):Nat):Int)=k+(jk Y3 (xs.take i):Nat)+15+2 * (xs[i].Msg.Log.Image.Cells.length:Int)+3 * (xs[i].Msg.Log.Image.Seats.length:Int)+5 * (xs[i].Msg.Log.Entries.length:Int):=by
   rw[kK Y3 hi];unfold Y3 zci;omega
  rw[e];rw[zgn xs k hi] at hx;have hkk:0≤k+((jk Y3 (xs.take i):Nat):Int)∧k+((jk Y3 (xs.take i):Nat):Int)≤200000000:=by omega
  generalize k+((jk Y3 (xs.take i):Nat):Int)=kk at hkk hx ⊢;rw[zew _ kk i _ hx (by rw[ko];exact hi) hsz hkk,yl i _ hi (by omega)];rfl
 ·unfold Zz Ji;rw[if_neg (by simp only[ko];omega),List.take_length]
theorem xO(me:Int)(m:qi)(hm:z8 m.Log=0):∀n,jk (fun y:zO=>yY y) (yJ me m n)=0
 |0=>rfl
 |n+1=>by
  unfold yJ;rw[QG,xO me m hm n];split<;>simp[jk,yY,JB,hm]
theorem zcJ(r:zu)(k n:Nat):∀i,jk (fun y:zO=>yY y) (xn r k n i)=0
 |0=>rfl
 |i+1=>by
  unfold xn;rw[QG,zcJ r k n i,xO _ _ rfl]
theorem zf9{l:z4}(h:Y9 l=true):z8 l≤110:=by
 unfold Y9 xS at h;simp only[Bool.and_eq_true,decide_eq_true_eq] at h;unfold z8 jf;omega
theorem zcV(r:zu):yw (YH r)≤1048576:=by
 unfold YH;split;rotate_left
 ·simp[yw,jk]
 rename_i hr;obtain⟨a1,a2,a3,a4,a5⟩:=xd hr;have hs:=Ye a3;have hz:=zf9 a3;have hn:r.Of.toNat≤5:=by omega
 generalize r.Of.toNat=n at hn;split
 ·have h1:=xD r (r.Commit - r.Log.Base).toNat n (r.Log.Entries.length - (r.Commit - r.Log.Base).toNat);have h2:=yK r.Me (kQ r) n;have hb:n * (r.Log.Entries.length - (r.Commit - r.Log.Base).toNat)≤5 * 60:=Nat.mul_le_mul hn (by omega);unfold yw;rw[QG,zcJ,xO _ _ rfl,List.length_append];omega
 split
 ·have h2:=yK r.Me (JY r) n;unfold yw;rw[QG,xO _ _ rfl,List.length_append];split
  ·simp only[List.length_cons,List.length_nil,jk,yY,JB,doM];omega
  ·simp only[List.length_nil,jk];omega
 split
 ·have h2:=yK r.Me (kd r) n;unfold yw;rw[xO _ _ rfl];omega
 ·simp[yw,jk]
theorem zbq(a1:zu)(h1:Y2 a1):yU a1=some true:=by
 unfold yU;rw[zeC a1 h1 _ (by omega) (by omega)];simp only[Option.bind_some];split
 ·rfl
 ·rename_i hz;have hl:qC a1≤1048576:=by omega
  have e1:=zdf a1 hl;have e2:=zdg a1 hl;have hr:=zcV a1;generalize YH a1=r at e1 e2 hr;obtain⟨m,g1,g2,g3,g4,g5,g6⟩:=zda a1 hl;have q1:¬m.1 < 0:=by omega
  have k1:=zfD r 1 hr (by omega) (by omega);have k2:=zfM r 1 hr (by omega) (by omega);have q2:¬1+((jk Y3 r:Nat):Int) < 0:=by omega
  simp[zeN _ hl,e1,e2,zim _ _ hr,zfd _ _ hl,g1,g3,g4,g5,g6,q1,k1,k2,q2,jH,ko]
end Go.AW
