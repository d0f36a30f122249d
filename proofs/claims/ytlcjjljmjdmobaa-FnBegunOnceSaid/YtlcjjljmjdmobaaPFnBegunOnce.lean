/- Plain laws: what the plain functions answer. Conditions: each theorem's own. -/
import Derived.Test.YtlcjjljmjdmobaaMFnBegunOnce
set_option linter.unusedVariables false
set_option linter.unusedSimpArgs false
set_option maxRecDepth 100000
namespace Go.AW
theorem w64{n:Int}(h1:-9223372036854775808≤n)(h2:n < 9223372036854775808):IntKind.wrap .i64 n=n:=by
 rw[IntKind.wrap_i64];omega
theorem z5{α:Type}{xs:List α}{i:Nat}(h:i < xs.length):idx xs (i:Int)=some xs[i]:=by
 unfold idx
 rw[if_pos (by omega)]
 simp[h]
theorem zc0{S R:Type}{f:(S→Option R)→S→Option R}(st:Nat→S)(stop:Nat→Option (Option R))(k:Option R)(n:Nat)
  (hs:∀kb i,i < n→(∀j,j < i→stop j=none)→f kb (st i)=match stop i with|some r=>r|none=>kb (st (i+1))) (he:∀kb,(∀j,j < n→stop j=none)→f kb (st n)=k):
  ∀(m i:Nat),i≤n→(∀j,j < i→stop j=none)→n - i < m→iter f m (st i)=match ((List.range n).drop i).findSome? stop with|some r=>r|none=>k
 |0,i,_,_,h=>by omega
 |m+1,i,hi,hp,h=>by
  unfold iter
  by_cases e:i=n
  ·subst e
   rw[he _ hp]
   simp[List.drop_eq_nil_of_le]
  ·have hlt:i < n:=by omega
   rw[hs _ i hlt hp,List.drop_eq_getElem_cons (by simpa using hlt)]
   simp only[List.getElem_range,List.findSome?_cons]
   cases hq:stop i with
   |some r=>rfl
   |none=>exact zc0 st stop k n hs he m (i+1) (by omega) (fun j hj=>by
     by_cases e':j=i
     ·subst e';exact hq
     ·exact hp j (by omega)) (by omega)
theorem K8{S R:Type}{f:(S→Option R)→S→Option R}(st:Nat→S)(stop:Nat→Option (Option R))(k:Option R)(n:Nat)(hn:n≤1152921504606846976)
  (hs:∀kb i,i < n→(∀j,j < i→stop j=none)→f kb (st i)=match stop i with|some r=>r|none=>kb (st (i+1))) (he:∀kb,(∀j,j < n→stop j=none)→f kb (st n)=k) {s0:S} (h0:s0=st 0):
  iter f FU s0=match (List.range n).findSome? stop with|some r=>r|none=>k:=by
 subst h0
 have:=zc0 st stop k n hs he FU 0 (by omega) (fun j hj=>by omega) (by unfold FU;omega)
 simpa using this
theorem Xu{S R:Type}{f:(S→Option R)→S→Option R}(st:Nat→S)(stop:Nat→Option (Option R))(k:Option R)(n:Nat)(hn:n≤1152921504606846976)
  (hs:∀kb i,i < n→f kb (st i)=match stop i with|some r=>r|none=>kb (st (i+1))) (he:∀kb,f kb (st n)=k) {s0:S} (h0:s0=st 0):
  iter f FU s0=match (List.range n).findSome? stop with|some r=>r|none=>k:=
 K8 st stop k n hn (fun kb i hi _=>hs kb i hi) (fun kb _=>he kb) h0
theorem Q9{S R:Type}{f:(S→Option R)→S→Option R}(st:Nat→S)(k:Option R)(n:Nat)(hn:n≤1152921504606846976)
  (hs:∀kb i,i < n→f kb (st i)=kb (st (i+1))) (he:∀kb,f kb (st n)=k) {s0:S} (h0:s0=st 0):iter f FU s0=k:=by
 rw[Xu st (fun _=>none) k n hn (fun kb i hi=>hs kb i hi) he h0]
 have:(List.range n).findSome? (fun _=>(none:Option (Option R)))=none:=by
  rw[List.findSome?_eq_none_iff];intro x _;rfl
 rw[this]
theorem zcA{S R:Type}{f:(S→Option R)→S→Option R}(st:Nat→S)(good:Nat→Bool)(r k:Option R)(n:Nat)(hn:n≤1152921504606846976)
  (hs:∀kb i,i < n→(∀j,j < i→good j=true)→f kb (st i)=if good i=true then kb (st (i+1)) else r) (he:∀kb,(∀j,j < n→good j=true)→f kb (st n)=k) {s0:S} (h0:s0=st 0):
  iter f FU s0=if (List.range n).all good=true then k else r:=by
 have tr:∀j,(if good j=true then(none:Option (Option R)) else some r)=none→good j=true:=fun j h=>by
  split at h
  ·assumption
  ·cases h
 rw[K8 st (fun i=>if good i=true then none else some r) k n hn (fun kb i hi hp=>by rw[hs kb i hi (fun j hj=>tr j (hp j hj))];split<;>rfl) (fun kb hp=>he kb (fun j hj=>tr j (hp j hj))) h0]
 by_cases e:(List.range n).all good=true
 ·have:(List.range n).findSome? (fun i=>if good i=true then none else some r)=none:=by
   rw[List.findSome?_eq_none_iff]
   intro x hx
   rw[List.all_eq_true] at e
   simp[e x hx]
  rw[this,if_pos e]
 ·rw[if_neg e]
  cases h:(List.range n).findSome? (fun i=>if good i=true then none else some r) with
  |none=>
   exfalso
   apply e
   rw[List.all_eq_true]
   intro x hx
   rw[List.findSome?_eq_none_iff] at h
   exact tr x (h x hx)
  |some q=>
   obtain⟨x,hx,hq⟩:=List.exists_of_findSome?_eq_some h
   split at hq
   ·cases hq
   ·cases hq;rfl
theorem ZR{S R:Type}{f:(S→Option R)→S→Option R}(st:Nat→S)(good:Nat→Bool)(r k:Option R)(n:Nat)(hn:n≤1152921504606846976)
  (hs:∀kb i,i < n→f kb (st i)=if good i=true then kb (st (i+1)) else r) (he:∀kb,f kb (st n)=k) {s0:S} (h0:s0=st 0):
  iter f FU s0=if (List.range n).all good=true then k else r:=
 zcA st good r k n hn (fun kb i hi _=>hs kb i hi) (fun kb _=>he kb) h0
theorem yh(i:Nat)(n:Nat)(h:i < n)(hn:n≤1152921504606846976):IntKind.wrap .i64 ((i:Int)+1)=((i+1:Nat):Int):=by
 rw[w64 (by omega) (by omega)];omega
def Yb{α:Type}(p:α→Bool)(xs:List α):Int:=match xs.findIdx? p with
 |some k=>(k:Int)
 |none=>-1
theorem QZ{α:Type}(p:α→Bool)(xs:List α):decide (0≤Yb p xs)=xs.any p:=by
 unfold Yb
 cases h:xs.findIdx? p with
 |none=>
  rw[List.findIdx?_eq_none_iff] at h
  have:xs.any p=false:=by rw[List.any_eq_false];intro x hx;simp[h x hx]
  simp[this]
 |some k=>
  rw[List.findIdx?_eq_some_iff_getElem] at h
  obtain⟨hk,hp,_⟩:=h
  have:xs.any p=true:=List.any_eq_true.2 ⟨xs[k],List.getElem_mem hk,hp⟩
  simp[this]
theorem J8{α:Type}(xs:List α)(p:α→Bool){f:(Int→Option Int)→Int→Option Int}(hn:xs.length≤1152921504606846976)
  (hs:∀kb (i:Nat) (hi:i < xs.length),f kb (i:Int)=if p xs[i]=true then some (i:Int) else kb ((i+1:Nat):Int)) (he:∀kb,f kb (xs.length:Int)=some (-1)):iter f FU 0=some (Yb p xs):=by
 rw[Xu (s0:=(0:Int)) (fun i=>(i:Int)) (fun i:Nat=>(xs[i]?).bind fun x=>if p x=true then some (some (i:Int)) else none) (some (-1)) xs.length hn (fun kb i hi=> ?_) (fun kb=>he kb) rfl]
 ·have key:∀(ys:List α) (o:Nat),(List.range ys.length).findSome? (fun i:Nat=>(ys[i]?).bind fun x=>if p x=true then some (some ((o+i:Nat):Int)) else none)=(ys.findIdx? p).map fun k=>some ((o+k:Nat):Int):=by
   intro ys
   induction ys with
   |nil=>intro o;rfl
   |cons y ys ih=>
    intro o
    rw[List.length_cons,List.range_succ_eq_map,List.findSome?_cons,List.findSome?_map,List.findIdx?_cons]
    simp only[List.getElem?_cons_zero,Option.bind_some]
    by_cases e:p y=true
    ·simp[e]
    ·simp only[e,if_false,Function.comp_def,List.getElem?_cons_succ,Bool.false_eq_true]
     have:=ih (o+1)
     rw[show(fun i:Nat=>(ys[i]?).bind fun x=>if p x=true then some (some ((o+(i+1):Nat):Int)) else none)=fun i:Nat=>(ys[i]?).bind fun x=>if p x=true then some (some ((o+1+i:Nat):Int)) else none from by funext i;rw[show o+(i+1)=o+1+i by omega]]
     rw[this]
     cases ys.findIdx? p<;>simp;omega
  have:=key xs 0
  simp only[Nat.zero_add] at this
  rw[this]
  unfold Yb
  cases xs.findIdx? p<;>rfl
 ·rw[hs kb i hi,List.getElem?_eq_getElem hi]
  simp only[Option.bind_some]
  by_cases e:p xs[i]=true<;>simp[e]
theorem zar{α:Type}(xs:List α)(p:α→Bool):((List.range xs.length).all fun i=>((xs[i]?).map p).getD true)=xs.all p:=by
 rw[Bool.eq_iff_iff,List.all_eq_true,List.all_eq_true]
 constructor
 ·intro H x hx
  obtain⟨i,hi,rfl⟩:=List.mem_iff_getElem.1 hx
  have:=H i (List.mem_range.2 hi)
  rw[List.getElem?_eq_getElem hi] at this
  exact this
 ·intro H i hi
  have hi:=List.mem_range.1 hi
  rw[List.getElem?_eq_getElem hi]
  exact H _ (List.getElem_mem hi)
theorem zb0{α R:Type}(xs:List α)(p:α→Bool)(r k:Option R){f:(Int→Option R)→Int→Option R}(hn:xs.length≤1152921504606846976)
  (hs:∀kb (i:Nat) (hi:i < xs.length),f kb (i:Int)=if p xs[i]=true then r else kb ((i+1:Nat):Int)) (he:∀kb,f kb (xs.length:Int)=k):iter f FU 0=if xs.any p=true then r else k:=by
 rw[ZR (s0:=(0:Int)) (fun i=>(i:Int)) (fun i=>((xs[i]?).map fun x=>!p x).getD true) r k xs.length hn (fun kb i hi=> ?_) (fun kb=>he kb) rfl,zar xs fun x=>!p x]
 ·cases h:xs.any p with
  |true=>
   have:(xs.all fun x=>!p x)=false:=by
    rw[List.all_eq_false];obtain⟨x,hx,hp⟩:=List.any_eq_true.1 h;exact⟨x,hx,by simp[hp]⟩
   simp[this]
  |false=>
   have:(xs.all fun x=>!p x)=true:=by
    rw[List.all_eq_true];intro x hx;rw[List.any_eq_false] at h;simp[h x hx]
   simp[this]
 ·rw[hs kb i hi,List.getElem?_eq_getElem hi]
  cases h:p xs[i]<;>simp[h]
theorem zcJ{α R:Type}(xs:List α)(p:α→Bool)(r k:Option R){f:(Int→Option R)→Int→Option R}(hn:xs.length≤1152921504606846976)
  (hs:∀kb (i:Nat) (hi:i < xs.length),f kb (i:Int)=if p xs[i]=true then kb ((i+1:Nat):Int) else r) (he:∀kb,f kb (xs.length:Int)=k):iter f FU 0=if xs.all p=true then k else r:=by
 rw[ZR (s0:=(0:Int)) (fun i=>(i:Int)) (fun i=>((xs[i]?).map p).getD true) r k xs.length hn (fun kb i hi=> ?_) (fun kb=>he kb) rfl,zar xs p]
 rw[hs kb i hi,List.getElem?_eq_getElem hi]
 rfl
def ZJ{α:Type}(f:α→Nat):List α→Nat
 |[]=>0
 |x::xs=>f x+ZJ f xs
theorem xh{α:Type}(f:α→Nat):∀(xs ys:List α),ZJ f (xs++ys)=ZJ f xs+ZJ f ys
 |[],ys=>by simp[ZJ]
 |x::xs,ys=>by simp[ZJ,xh f xs ys];omega
theorem zdu{α:Type}(f:α→Nat){xs:List α}{i:Nat}(hi:i < xs.length):ZJ f (xs.take (i+1))=ZJ f (xs.take i)+f xs[i]:=by
 rw[List.take_succ_eq_append_getElem hi,xh]
 simp[ZJ]
theorem zdI{α:Type}(f:α→Nat)(xs:List α)(i:Nat):ZJ f (xs.take i)≤ZJ f xs:=by
 have:=xh f (xs.take i) (xs.drop i)
 rw[List.take_append_drop] at this
 omega
theorem zby{α:Type}(f:α→Nat){xs:List α}{i:Nat}(hi:i < xs.length):f xs[i]≤ZJ f xs:=by
 have h1:=zdu f hi
 have h2:=zdI f xs (i+1)
 omega
theorem Kn{α:Type}{xs:List α}{i:Nat}(h:i≤xs.length):cut xs 0 (i:Int)=some (xs.take i):=by
 unfold cut
 rw[if_pos ⟨by omega,by omega,by omega⟩]
 simp
theorem zaa{α:Type}(p:α→Bool){xs:List α}{i:Nat}(hi:i < xs.length):(xs.take (i+1)).countP p=(xs.take i).countP p+if p xs[i]=true then 1 else 0:=by
 rw[List.take_succ_eq_append_getElem hi,List.countP_append]
 simp[List.countP_cons]
theorem zcv{α:Type}(p:α→Bool)(xs:List α)(i:Nat):(xs.take i).countP p≤xs.length:=by
 have h1:=List.countP_le_length (p:=p) (l:=xs.take i)
 have h2:(xs.take i).length≤xs.length:=by simp;omega
 omega
def zX(z lo hi:Int):Bool:=decide (lo≤z)&&decide (z≤hi)
theorem Jp(z lo hi:Int):qM z lo hi=some (zX z lo hi):=by
 unfold qM zX;by_cases h:lo≤z<;>simp[h]
theorem YY(z lo hi:Int):jz z lo hi=some (zX z lo hi):=by
 unfold jz zX;by_cases h:lo≤z<;>simp[h]
theorem zdU(z:Int):Qv z=some (zX z 0 999):=by simp[Qv,Jp]
theorem ze6(z:Int):QV z=some (zX z 0 999):=by simp[QV,YY]
theorem xK(z:Int):Zm z=some (zX z 0 1000000000):=by simp[Zm,Jp]
theorem Xk(z:Int):Zw z=some (zX z 0 1000000000):=by simp[Zw,YY]
def Q8(a:qo):Bool:=decide (0≤a.Lo)&&decide (a.Lo < a.Hi)&&decide (a.Hi≤1000)
theorem KB(a:qo):Z2 a=some (Q8 a):=by
 unfold Z2 Q8;by_cases h:0≤a.Lo<;>by_cases h':a.Lo < a.Hi<;>simp[h,h']
theorem Kw(a:qo):Z1 a=some (Q8 a):=by
 unfold Z1 Q8;by_cases h:0≤a.Lo<;>by_cases h':a.Lo < a.Hi<;>simp[h,h']
theorem zdF(z:Int):Z7 z=some (zX z 0 3):=by simp[Z7,YY]
def Zh(cb:List Int)(c:Int×Int):Prop:=0≤c.1∧c.1≤(cb.length:Int)∧cb.length≤1048576
def jE{α:Type}(cb:List Int)(P:α→Prop)(m:Option (α×(Int×Int))):Prop:=∃x c,m=some (x,c)∧Zh cb c∧P x
theorem jE.bind{α β:Type}{cb:List Int}{P:α→Prop}{Q:β→Prop}{m:Option (α×(Int×Int))}{f:α×(Int×Int)→Option (β×(Int×Int))}(h:jE cb P m)(hf:∀x c,Zh cb c→P x→jE cb Q (f (x,c))):jE cb Q (m.bind f):=by
 obtain⟨x,c,rfl,hc,hp⟩:=h
 exact hf x c hc hp
theorem jE.some{α:Type}{cb:List Int}{P:α→Prop}{x:α}{c:Int×Int}(hc:Zh cb c)(hp:P x):jE cb P (some (x,c)):=⟨x,c,rfl,hc,hp⟩
theorem zfv(x y:Int)(k:Nat)(hk:(BitVec.ofInt 64 y).toNat=k)(hk':k < 9223372036854775808):0≤IntKind.wrap .i64 ((BitVec.ofInt (IntKind.bits .i64) x&&& BitVec.ofInt (IntKind.bits .i64) y).toNat:Int)∧IntKind.wrap .i64 ((BitVec.ofInt (IntKind.bits .i64) x&&& BitVec.ofInt (IntKind.bits .i64) y).toNat:Int)≤k:=by
 have h:(BitVec.ofInt (IntKind.bits .i64) x&&& BitVec.ofInt (IntKind.bits .i64) y).toNat≤k:=by
  rw[BitVec.toNat_and,←hk]
  exact Nat.and_le_right
 rw[w64 (by omega) (by omega)]
 omega
theorem zlB(x:Int):0≤IntKind.wrap .i64 ((BitVec.ofInt (IntKind.bits .i64) x&&& BitVec.ofInt (IntKind.bits .i64) 255).toNat:Int)∧IntKind.wrap .i64 ((BitVec.ofInt (IntKind.bits .i64) x&&& BitVec.ofInt (IntKind.bits .i64) 255).toNat:Int)≤255:=zfv x 255 255 (by decide) (by decide)
theorem xr{cb:List Int}{c:Int×Int}(h:Zh cb c):jE cb (fun x=>0≤x∧x≤255) (jX cb c):=by
 obtain⟨h1,h2,h3⟩:=h
 unfold jX
 split
 ·rename_i hlt
  obtain⟨n,hn⟩:∃n:Nat,c.1=(n:Int):=⟨c.1.toNat,by omega⟩
  rw[hn,z5 (show n < cb.length by omega)]
  simp only[Option.bind_some]
  refine jE.some ⟨?_,?_,h3⟩ (zlB _)
  ·simp only;rw[w64 (by omega) (by omega)];omega
  ·simp only;rw[w64 (by omega) (by omega)];omega
 ·exact jE.some ⟨h1,h2,h3⟩ (zlB _)
theorem qA{cb:List Int}{c:Int×Int}(h:Zh cb c)(n:Int):jE cb (fun x=>0≤x∧(0 < n→x < n)∧(n≤0→x=0)) (zv cb c n):=by
 unfold zv
 split
 ·exact jE.some h ⟨Int.le_refl _,fun h'=>by omega,fun _=>rfl⟩
 ·rename_i h0
  split
  ·refine(xr h).bind fun x c1 hc1 hx=> ?_
   rw[if_pos (by omega)]
   exact jE.some hc1 ⟨Int.tmod_nonneg _ hx.1,fun _=>Int.tmod_lt_of_pos _ (by omega),fun h'=>absurd h' h0⟩
  ·refine(xr h).bind fun x1 c1 hc1 hx1=>(xr hc1).bind fun x2 c2 hc2 hx2=>(xr hc2).bind fun x3 c3 hc3 hx3=>(xr hc3).bind fun x4 c4 hc4 hx4=> ?_
   rw[if_pos (by omega)]
   simp only at hx1 hx2 hx3 hx4 ⊢
   rw[w64 (n:=x1 * 16777216) (by omega) (by omega),w64 (n:=x2 * 65536) (by omega) (by omega),w64 (n:=x3 * 256) (by omega) (by omega),w64 (n:=x1 * 16777216+x2 * 65536) (by omega) (by omega),w64 (n:=x1 * 16777216+x2 * 65536+x3 * 256) (by omega) (by omega),w64 (n:=x1 * 16777216+x2 * 65536+x3 * 256+x4) (by omega) (by omega)]
   exact jE.some hc4 ⟨Int.tmod_nonneg _ (by omega),fun _=>Int.tmod_lt_of_pos _ (by omega),fun h'=>absurd h' h0⟩
theorem YG{cb:List Int}{c:Int×Int}(h:Zh cb c)(n:Int):jE cb (fun _=>True) (qb cb c n):=by
 unfold qb
 exact(qA h n).bind fun x c1 hc1 _=>jE.some hc1 trivial
theorem XH{cb:List Int}{c:Int×Int}(h:Zh cb c)(xs:List Int)(hx:0 < xs.length):jE cb (fun x=>x∈xs) (yy cb c xs):=by
 unfold yy
 refine(qA h _).bind fun x c1 hc1 ⟨h1,h2,_⟩=> ?_
 obtain⟨n,rfl⟩:∃n:Nat,x=(n:Int):=⟨x.toNat,by omega⟩
 have hn:n < xs.length:=by have:=h2 (by omega);omega
 simp only[z5 hn,Option.bind_some]
 exact jE.some hc1 (List.getElem_mem hn)
def zfk(cb:List Int):Nat→Int
 |0=>IntKind.wrap .i64 (97097+(cb.length:Int))
 |i+1=>IntKind.wrap .i64 ((BitVec.ofInt (IntKind.bits .i64) (IntKind.wrap .i64 ((IntKind.wrap .i64 ((IntKind.wrap .i64 (zfk cb i * 131))+(IntKind.wrap .i64 ((cb[i]?).getD 0))))+7))&&& BitVec.ofInt (IntKind.bits .i64) 1073741823).toNat:Int)
theorem zeM(cb:List Int)(h:cb.length≤1048576):∃c,Q0 cb=some c∧Zh cb c:=by
 refine⟨(0,zfk cb (min cb.length 4000)),?_,by simp[Zh];exact h⟩
 unfold Q0
 refine Q9 (fun i=>(zfk cb i,(i:Int))) _ (min cb.length 4000) (by omega) (fun kb i hi=> ?_) (fun kb=> ?_) rfl
 ·have hi':i < cb.length:=by omega
  unfold JE
  simp only
  rw[if_pos (by omega),if_pos (by omega),z5 hi',yh i _ hi' (by omega)]
  simp only[Option.bind_some,zfk,List.getElem?_eq_getElem hi',Option.getD_some]
 ·unfold JE JG
  simp only
  split
  ·rw[if_neg (by omega)]
  ·rfl
theorem zd9(cb:List Int)(h:cb.length≤1048576)(a:Int)(ha:2≤a):∃n,QA cb a=some n∧2≤n∧n≤a:=by
 have h1:0≤Int.tdiv (cb.length:Int) 20:=Int.tdiv_nonneg (by omega) (by decide)
 have h2:Int.tdiv (cb.length:Int) 20≤(cb.length:Int):=by
  rw[Int.tdiv_eq_ediv_of_nonneg (by omega)];omega
 unfold QA
 rw[w64 (n:=Int.tdiv (cb.length:Int) 20) (by omega) (by omega),w64 (by omega) (by omega)]
 split
 ·exact⟨_,rfl,by omega,by omega⟩
 ·exact⟨_,rfl,by omega,by omega⟩
theorem Ku{S R:Type}{f:(S→Option R)→S→Option R}(I:Nat→S→Prop)(n:Nat)(hn:n≤1152921504606846976){s0:S}(h0:I 0 s0)(xR:Option R→Prop)
  (hs:∀i,i < n→∀s,I i s→∀kb,∃s',I (i+1) s'∧f kb s=kb s') (he:∀s,I n s→∀kb,xR (f kb s)):xR (iter f FU s0):=by
 have key:∀(d i m:Nat) (s:S),i+d=n→d < m→I i s→xR (iter f m s):=by
  intro d
  induction d with
  |zero=>
   intro i m s e hm hi
   have:i=n:=by omega
   subst this
   cases m with
   |zero=>omega
   |succ m=>exact he s hi _
  |succ d ih=>
   intro i m s e hm hi
   cases m with
   |zero=>omega
   |succ m=>
    obtain⟨s',h1,h2⟩:=hs i (by omega) s hi (iter f m)
    show xR (f (iter f m) s)
    rw[h2]
    exact ih (i+1) m s' (by omega) (by omega) h1
 exact key n 0 FU s0 (by omega) (by unfold FU;omega) h0
def znk(xs:List qy)(i:Nat):Bool:=match xs[i]? with
 |none=>true
 |some c=>zX c.Key 0 999&&zX c.Value 0 1000000000&&(i == 0||match xs[i - 1]? with|some p=>decide (p.Key < c.Key)|none=>true)
theorem zcl(z:Int):ZL z=some (zX z (-1) 1000000000):=by simp[ZL,YY]
def JX(xs:List qy)(i:Nat):Bool:=match xs[i]? with
 |none=>true
 |some c=>zX c.Key 0 999&&zX c.Value (-1) 1000000000&&(i == 0||match xs[i - 1]? with|some p=>decide (p.Key < c.Key)|none=>true)
def Zg(xs:List qy):Bool:=decide (xs.length≤60)&&(List.range xs.length).all (JX xs)
theorem X1(xs:List qy)(h:xs.length≤1048576):yY xs=some (Zg xs):=by
 unfold yY Zg
 split
 ·rename_i h1
  have:¬xs.length≤60:=by omega
  simp[this]
 ·rename_i h1
  have:xs.length≤60:=by omega
  rw[ZR (s0:=(0:Int)) (fun i=>(i:Int)) (JX xs) (some false) (some true) xs.length (by omega) (fun kb i hi=> ?_) (fun kb=> ?_) rfl]
  ·simp only[this,decide_true,Bool.true_and];split<;>simp_all
  ·unfold Qb jO JX
   simp only[z5 hi,zdU,Jp,Option.bind_some,yh i _ hi (by omega),List.getElem?_eq_getElem hi]
   rw[if_pos (by omega)]
   cases zX xs[i].Key 0 999<;>simp
   cases zX xs[i].Value (-1) 1000000000<;>simp
   by_cases h0:0 < i
   ·have h2:IntKind.wrap .i64 ((i:Int) - 1)=((i - 1:Nat):Int):=by rw[w64 (by omega) (by omega)];omega
    have h3:i - 1 < xs.length:=by omega
    have h4:¬i=0:=by omega
    simp only[h0,if_true,h2,z5 h3,Option.bind_some,List.getElem?_eq_getElem h3,h4,false_or]
    by_cases h5:xs[i].Key≤xs[i - 1].Key
    ·have:¬xs[i - 1].Key < xs[i].Key:=by omega
     simp[h5,this]
    ·have:xs[i - 1].Key < xs[i].Key:=by omega
     simp[h5,this]
   ·have h4:i=0:=by omega
    simp[h4]
  ·unfold Qb
   rw[if_neg (by omega)];rfl
theorem X3(xs:List qy)(h:xs.length≤1048576):yZ xs=some (Zg xs):=by
 unfold yZ Zg
 rw[ZR (s0:=(0:Int)) (fun i=>(i:Int)) (JX xs) (some false) (some (decide (xs.length≤60))) xs.length (by omega) (fun kb i hi=> ?_) (fun kb=> ?_) rfl]
 ·split<;>simp_all
 ·unfold Qn jT JX
  simp only[z5 hi,ze6,zcl,Option.bind_some,yh i _ hi (by omega),List.getElem?_eq_getElem hi]
  rw[if_pos (by omega)]
  cases zX xs[i].Key 0 999<;>simp
  cases zX xs[i].Value (-1) 1000000000<;>simp
  by_cases h0:0 < i
  ·have h2:IntKind.wrap .i64 ((i:Int) - 1)=((i - 1:Nat):Int):=by rw[w64 (by omega) (by omega)];omega
   have h3:i - 1 < xs.length:=by omega
   have h4:¬i=0:=by omega
   simp only[h0,if_true,h2,z5 h3,Option.bind_some,List.getElem?_eq_getElem h3,h4,false_or]
   by_cases h5:xs[i].Key≤xs[i - 1].Key
   ·have:¬xs[i - 1].Key < xs[i].Key:=by omega
    simp[h5,this]
   ·have:xs[i - 1].Key < xs[i].Key:=by omega
    simp[h5,this]
  ·have h4:i=0:=by omega
   simp[h4]
 ·unfold Qn Qi
  rw[if_neg (by omega)]
  have:((xs.length:Int)≤60)↔xs.length≤60:=by omega
  simp[this]
theorem zez{xs:List qy}(h:Zg xs=true){i:Nat}(hi:i < xs.length):-1≤xs[i].Value∧0≤xs[i].Key∧xs[i].Key≤999:=by
 unfold Zg at h
 simp only[Bool.and_eq_true,List.all_eq_true] at h
 have:=h.2 i (List.mem_range.2 hi)
 unfold JX zX at this
 rw[List.getElem?_eq_getElem hi] at this
 simp only[Bool.and_eq_true,decide_eq_true_eq] at this
 exact⟨this.1.2.1,this.1.1.1,this.1.1.2⟩
def jk(x:zn):Nat:=x.Reads.length+x.Writes.length
def zN(xs:(List zn)):Nat:=xs.length+ZJ (fun y:zn=>jk y) xs
theorem Za{xs:(List zn)}(h:zN xs≤1048576):xs.length≤1048576∧∀i (hi:i < xs.length),jk (xs[i])≤1048576:=by
 unfold zN at h
 refine⟨by omega,fun i hi=> ?_⟩
 have:=zby (fun y:zn=>jk y) hi
 omega
def J0(xs:List qo):Bool:=decide (xs.length≤16)&&xs.all Q8
theorem zbS(a:qo):Zt a=some (!Q8 a):=by
 unfold Zt;simp[Kw]
theorem x8(xs:List qo)(h:xs.length≤1048576):z7 xs=some (xs.any fun c=>!Q8 c):=by
 unfold z7 qK
 rw[J8 xs (fun c=>!Q8 c) (by omega) (fun kb i hi=> ?_) (fun kb=> ?_)]
 ·simp[QZ]
 ·unfold qD
  simp only[z5 hi,zbS,Option.bind_some,yh i _ hi (by omega)]
  rw[if_pos (by omega)]
 ·unfold qD
  rw[if_neg (by omega)];rfl
theorem zfl{α:Type}(p:α→Bool)(xs:List α):(xs.any fun c=>!p c)= !xs.all p:=by rw[List.any_eq_not_all_not];simp
theorem zdL(xs:List qo)(h:xs.length≤1048576):Zu xs=some (J0 xs):=by
 unfold Zu J0
 simp only[x8 _ h,zfl,Option.bind_some]
 by_cases c:xs.length≤16
 ·rw[if_pos (by omega)];simp[c]
 ·rw[if_neg (by omega)];simp[c]
def Jt(xs:List zn)(i:Nat):Bool:=match xs[i]? with
 |some s=>zX s.Group 0 3&&(i == 0||(match xs[i - 1]? with|some p=>decide (p.Group < s.Group)|none=>true))&&J0 s.Reads&&Zg s.Writes&&zX s.Vote 0 2
 |none=>true
def jF(xs:List zn):Bool:=decide (xs.length≤4)&&(List.range xs.length).all (Jt xs)
theorem za5{R:Type}(s:zn)(kx:Unit→Option Bool)(h:s.Reads.length≤1048576):iter (y2 s kx) FU 0=if s.Reads.all Q8=true then kx () else some false:=by
 refine zcJ s.Reads Q8 (some false) (kx ()) (by omega) (fun kb i hi=> ?_) (fun kb=> ?_)
 ·unfold y2
  simp only[z5 hi,KB,Option.bind_some,yh i _ hi (by omega)]
  rw[if_pos (by omega)]
 ·unfold y2
  rw[if_neg (by omega)]
theorem Y4(xs:List zn)(h:zN xs≤1048576):yX xs=some (jF xs):=by
  obtain⟨hl,hs⟩:=Za h
  unfold yX jF
  split
  · rename_i h1
    have:¬xs.length≤4:=by omega
    simp[this]
  · rename_i h1
    have h4:xs.length≤4:=by omega
    rw[ZR (s0:=(0:Int)) (fun i=>(i:Int)) (Jt xs) (some false) (some true) xs.length (by omega) (fun kb i hi=> ?_) (fun kb=> ?_) rfl]
    · simp only[h4,decide_true,Bool.true_and];split<;>simp_all
    · have hsi := hs i hi
      have hr:xs[i].Reads.length≤1048576:=by unfold jk at hsi;omega
      have hw:xs[i].Writes.length≤1048576:=by unfold jk at hsi;omega
      unfold Qd qw Jt
      simp only[z5 hi,Jp,X1 _ hw,za5 (R:=Bool) _ _ hr,qt,Option.bind_some,yh i _ hi (by omega),List.getElem?_eq_getElem hi,J0]
      rw[if_pos (by omega)]
      have e16:(16 < (xs[i].Reads.length:Int))↔¬xs[i].Reads.length≤16:=by omega
      simp only[e16]
      cases zX xs[i].Group 0 3<;>simp
      cases hwg:Zg xs[i].Writes<;>cases hv:zX xs[i].Vote 0 2<;>by_cases c16:xs[i].Reads.length≤16<;>cases hall:xs[i].Reads.all Q8<;>
        (by_cases h0:0 < i
         · have h2 : IntKind.wrap .i64 ((i : Int) - 1) = ((i - 1 : Nat) : Int) := by rw [w64 (by omega) (by omega)]; omega
           have h3:i - 1 < xs.length:=by omega
           have h4:¬i=0:=by omega
           have h16:¬16 < xs[i].Reads.length↔xs[i].Reads.length≤16:=by omega
           simp only[h0,if_true,h2,z5 h3,Option.bind_some,List.getElem?_eq_getElem h3,h4,false_or]
           by_cases h5:xs[i].Group≤xs[i - 1].Group
           · have : ¬ xs[i - 1].Group < xs[i].Group := by omega
             simp[h5,this]
           · have : xs[i - 1].Group < xs[i].Group := by omega
             first
             |(simp[h5,this,c16];done)
             |(simp[h5,this,c16];intro hh;omega)
             |(simp[h5,this,c16,hall];done)
         · have h4 : i = 0 := by omega
           subst h4
           first
           |(simp[c16];done)
           |(simp[c16];intro hh;omega)
           |(simp[c16,hall];done))
    · unfold Qd
      rw[if_neg (by omega)];rfl
theorem X2(xs:List zn)(h:zN xs≤1048576):ZK xs=some (jF xs):=by
  obtain⟨hl,hs⟩:=Za h
  unfold ZK jF
  rw[ZR (s0:=(0:Int)) (fun i=>(i:Int)) (Jt xs) (some false) (some (decide (xs.length≤4))) xs.length (by omega) (fun kb i hi=> ?_) (fun kb=> ?_) rfl]
  · split<;>simp_all
  · have hsi := hs i hi
    have hr:xs[i].Reads.length≤1048576:=by unfold jk at hsi;omega
    have hw:xs[i].Writes.length≤1048576:=by unfold jk at hsi;omega
    unfold Qa qJ Jt
    simp only[z5 hi,zdF,YY,X3 _ hw,zdL _ hr,Option.bind_some,yh i _ hi (by omega),List.getElem?_eq_getElem hi]
    rw[if_pos (by omega)]
    cases zX xs[i].Group 0 3<;>simp
    cases hwg:Zg xs[i].Writes<;>cases hv:zX xs[i].Vote 0 2<;>cases hrg:J0 xs[i].Reads<;>
      (by_cases h0:0 < i
       · have h2 : IntKind.wrap .i64 ((i : Int) - 1) = ((i - 1 : Nat) : Int) := by rw [w64 (by omega) (by omega)]; omega
         have h3:i - 1 < xs.length:=by omega
         have h4:¬i=0:=by omega
         simp only[h0,if_true,h2,z5 h3,Option.bind_some,List.getElem?_eq_getElem h3,h4,false_or]
         by_cases h5:xs[i].Group≤xs[i - 1].Group
         · have : ¬ xs[i - 1].Group < xs[i].Group := by omega
           simp[h5,this]
         · have : xs[i - 1].Group < xs[i].Group := by omega
           simp[h5,this]
       · have h4 : i = 0 := by omega
         subst h4
         simp)
  · unfold Qa Qj
    rw[if_neg (by omega)]
    have:((xs.length:Int)≤4)↔xs.length≤4:=by omega
    simp[this]
theorem xX{xs:List zn}(H:jF xs=true):xs.length≤4∧∀s∈xs,zX s.Vote 0 2=true:=by
 unfold jF at H
 simp only[Bool.and_eq_true,decide_eq_true_eq,List.all_eq_true,List.mem_range] at H
 refine⟨H.1,fun s hs=> ?_⟩
 obtain⟨i,hi,rfl⟩:=List.mem_iff_getElem.1 hs
 have h:=H.2 i hi
 unfold Jt at h
 simp only[List.getElem?_eq_getElem hi,Bool.and_eq_true] at h
 exact h.2
def jt(x:zD):Nat:=zN x.Shares
def z6(xs:(List zD)):Nat:=xs.length+ZJ (fun y:zD=>jt y) xs
theorem Z5{xs:(List zD)}(h:z6 xs≤1048576):xs.length≤1048576∧∀i (hi:i < xs.length),jt (xs[i])≤1048576:=by
 unfold z6 at h
 refine⟨by omega,fun i hi=> ?_⟩
 have:=zby (fun y:zD=>jt y) hi
 omega
def zU(x:zl):Nat:=z6 x.Recs+x.Order.length
def ye(z:Int)(s:zn):Bool:=decide (s.Vote=z)
theorem x7(xs:List zn)(z:Int)(h:xs.length≤1048576):jv xs z=some ((xs.countP (ye z):Nat):Int):=by
 unfold jv
 refine Q9 (s0:=((0:Int),(0:Int))) (fun i=>((((xs.take i).countP (ye z):Nat):Int),(i:Int))) _ xs.length (by omega) (fun kb i hi=> ?_) (fun kb=> ?_) (by simp)
 ·unfold Qm
  have hc:=zcv (ye z) xs i
  simp only[z5 hi,Option.bind_some,yh i _ hi (by omega),zaa _ hi]
  rw[if_pos (by omega),w64 (by omega) (by omega)]
  by_cases c:xs[i].Vote=z
  ·simp[c,ye]
  ·simp[c,ye]
 ·unfold Qm Qe
  rw[if_neg (by simp)]
  simp
theorem zeX(xs:List zn)(z:Int)(h:xs.length≤1048576):y4 xs z=some (xs.any (ye z)):=by
 unfold y4 qE qT
 rw[J8 xs (ye z) (by omega) (fun kb i hi=> ?_) (fun kb=> ?_)]
 ·simp[QZ]
 ·unfold qO QX
  simp only[z5 hi,Option.bind_some,yh i _ hi (by omega)]
  rw[if_pos (by omega)]
  rfl
 ·unfold qO
  rw[if_neg (by omega)];rfl
theorem zbt(z:Int):Qh z=some (zX z 1 1000000000):=by simp[Qh,YY]
def ZZ(r:zD):Bool:=zX r.Client 0 1000000000&&zX r.Req 1 1000000000&&jF r.Shares&&
 (if r.State=1 then decide (r.Shares.length=0) else if r.State=2 then r.Shares.any (ye 0)&&!r.Shares.any (ye 2) else if r.State=3 then !r.Shares.any (ye 0)&&!r.Shares.any (ye 2) else decide (r.State=4))
theorem zcU(z:Int)(xs:List zn):(0 < ((xs.countP (ye z):Nat):Int))↔xs.any (ye z)=true:=by
 rw[List.any_eq_true]
 have:=List.countP_pos_iff (p:=ye z) (l:=xs)
 constructor
 ·intro h;exact this.1 (by omega)
 ·intro h;have:=this.2 h;omega
theorem zd1(z:Int)(xs:List zn):(((xs.countP (ye z):Nat):Int)=0)↔xs.any (ye z)=false:=by
 have h1:=zcU z xs
 constructor
 ·intro h
  cases ha:xs.any (ye z) with
  |true=>have:=h1.2 ha;omega
  |false=>rfl
 ·intro h
  have:¬(0 < ((xs.countP (ye z):Nat):Int)):=fun e=>by have:=h1.1 e;rw[h] at this;cases this
  omega
theorem zfm{xs:List zn}(H:∀s∈xs,zX s.Vote 0 2=true):(((xs.countP (ye 1):Nat):Int)=(xs.length:Int))↔(xs.any (ye 0)=false∧xs.any (ye 2)=false):=by
 have e:(((xs.countP (ye 1):Nat):Int)=(xs.length:Int))↔xs.countP (ye 1)=xs.length:=by omega
 rw[e,List.countP_eq_length,List.any_eq_false,List.any_eq_false]
 constructor
 ·intro h
  refine⟨fun s hs=> ?_,fun s hs=> ?_⟩<;>have:=h s hs<;>unfold ye at this ⊢<;>simp at this ⊢<;>omega
 ·intro⟨h1,h2⟩ s hs
  have a:=h1 s hs;have b:=h2 s hs;have c:=H s hs
  unfold ye zX at *
  simp at a b c ⊢
  omega
theorem zcO(r:zD)(h:zN r.Shares≤1048576):ZM r=some (ZZ r):=by
 obtain⟨hl,_⟩:=Za h
 unfold ZM yr ZZ
 simp only[xK,Jp,Y4 _ h,x7 _ _ hl,Option.bind_some,zcU,zd1]
 have hv:jF r.Shares=true→_:=fun hg=>zfm (xX hg).2
 generalize r.Shares.any (ye 0)=b0 at hv ⊢
 generalize r.Shares.any (ye 2)=b2 at hv ⊢
 generalize jF r.Shares=b4 at hv ⊢
 cases zX r.Client 0 1000000000
 ·simp
 cases zX r.Req 1 1000000000
 ·simp
 cases b4
 ·simp
 simp only[hv rfl]
 by_cases c1:r.State=1
 ·simp[c1]
 ·by_cases c2:r.State=2
  ·cases b0<;>cases b2<;>simp[c2]
  ·by_cases c3:r.State=3
   ·cases b0<;>cases b2<;>simp[c3]
   ·simp[c1,c2,c3]
theorem zfx(r:zD)(h:zN r.Shares≤1048576):Jc r=some (ZZ r):=by
 obtain⟨hl,_⟩:=Za h
 unfold Jc ZQ ZZ
 simp only[Xk,zbt,X2 _ h,zeX _ _ hl,Option.bind_some]
 generalize r.Shares.any (ye 0)=b0
 generalize r.Shares.any (ye 2)=b2
 generalize jF r.Shares=b4
 cases zX r.Client 0 1000000000
 ·simp
 cases zX r.Req 1 1000000000
 ·simp
 cases b4
 ·simp
 by_cases c1:r.State=1
 ·simp[c1]
 ·by_cases c2:r.State=2
  ·cases b0<;>cases b2<;>simp[c2]
  ·by_cases c3:r.State=3
   ·cases b0<;>cases b2<;>simp[c3]
   ·simp[c1,c2,c3]
def JB(r q:zD):Bool:=decide (q.Client=r.Client)&&decide (q.Req=r.Req)
def xv(xs:List zD)(i:Nat):Bool:=match xs[i]? with
 |some r=>decide (r.Tx=(i:Int)+1)&&ZZ r&&!(xs.take i).any (JB r)
 |none=>true
def Jk(r:zD):Bool:=decide (r.State=3)
def QL(rs:List zD)(os:List Int)(i:Nat):Bool:=match os[i]? with
 |some o=>zX o 1 rs.length&&(match rs[(o - 1).toNat]? with|some r=>Jk r|none=>false)&&!(os.take i).any (fun z=>decide (o=z))
 |none=>true
def qa(c:zl):Bool:=decide (c.Recs.length≤60)&&(List.range c.Recs.length).all (xv c.Recs)&&(List.range c.Order.length).all (QL c.Recs c.Order)&&decide (c.Recs.countP Jk=c.Order.length)
theorem zbG(xs:List Int)(z:Int)(h:xs.length≤1048576):yJ xs z=some (Yb (fun y=>decide (z=y)) xs):=by
 unfold yJ
 rw[J8 xs (fun y=>decide (z=y)) (by omega) (fun kb i hi=> ?_) (fun kb=> ?_)]
 ·unfold Zl
  simp only[z5 hi,Option.bind_some,yh i _ hi (by omega)]
  rw[if_pos (by omega)]
  simp
 ·unfold Zl
  rw[if_neg (by omega)];rfl
theorem K4(xs:List Int)(z:Int)(h:xs.length≤1048576):jL xs z=some (xs.any fun y=>decide (z=y)):=by
 unfold jL
 simp[zbG _ _ h,QZ]
theorem zes(xs:List Int)(z:Int)(h:xs.length≤1048576):Qz xs z=some (xs.any fun y=>decide (z=y)):=by
 unfold Qz
 rw[zb0 xs (fun y=>decide (z=y)) (some true) (some false) (by omega) (fun kb i hi=> ?_) (fun kb=> ?_)]
 ·cases xs.any fun y=>decide (z=y)<;>simp
 ·unfold Ja
  simp only[z5 hi,Option.bind_some,yh i _ hi (by omega)]
  rw[if_pos (by omega)]
  by_cases c:xs[i]=z
  ·simp[c]
  ·have:¬z=xs[i]:=fun e=>c e.symm
   simp[c,this]
 ·unfold Ja
  rw[if_neg (by omega)];rfl
theorem kl(xs:List zD)(r:zD)(h:xs.length≤1048576):qg xs r=some (xs.any (JB r)):=by
 unfold qg qS
 rw[J8 xs (JB r) (by omega) (fun kb i hi=> ?_) (fun kb=> ?_)]
 ·simp[QZ]
 ·unfold qP Z9 JB
  simp only[z5 hi,Option.bind_some,yh i _ hi (by omega)]
  rw[if_pos (by omega)]
  by_cases c:xs[i].Client=r.Client<;>simp[c]
 ·unfold qP
  rw[if_neg (by omega)];rfl
theorem Z4(c:zl)(h:zU c≤1048576):yH c=some (qa c):=by
 have hR:z6 c.Recs≤1048576:=by unfold zU at h;omega
 have hO:c.Order.length≤1048576:=by unfold zU at h;omega
 obtain⟨hl,hs⟩:=Z5 hR
 unfold yH qa
 split
 ·rename_i h1
  have:¬c.Recs.length≤60:=by omega
  simp[this]
 ·rename_i h1
  have h6:c.Recs.length≤60:=by omega
  rw[ZR (s0:=((0:Int),(0:Int))) (fun i=>((((c.Recs.take i).countP Jk:Nat):Int),(i:Int))) (xv c.Recs) (some false) (some ((List.range c.Order.length).all (QL c.Recs c.Order)&&decide (c.Recs.countP Jk=c.Order.length))) c.Recs.length (by omega) (fun kb i hi=> ?_) (fun kb=> ?_) (by simp)]
  ·generalize (List.range c.Recs.length).all (xv c.Recs)=b1
   generalize (List.range c.Order.length).all (QL c.Recs c.Order)=b2
   cases b1<;>simp[h6]
  ·have hsi:zN c.Recs[i].Shares≤1048576:=by have:=hs i hi;unfold jt at this;omega
   have hc:=zcv Jk c.Recs i
   unfold Qf yu xv
   simp only[z5 hi,zfx _ hsi,Kn (Nat.le_of_lt hi),kl (c.Recs.take i) _ (by simp;omega),Option.bind_some,yh i _ hi (by omega),List.getElem?_eq_getElem hi,zaa _ hi]
   rw[if_pos (by omega),w64 (by omega) (by omega)]
   have e1:((i+1:Nat):Int)=(i:Int)+1:=by omega
   rw[e1]
   generalize ZZ c.Recs[i]=b1
   generalize (List.take i c.Recs).any (JB c.Recs[i])=b2
   by_cases c1:c.Recs[i].Tx=(i:Int)+1<;>cases b1<;>cases b2<;>by_cases c3:c.Recs[i].State=3<;>simp[c1,c3,Jk]
  ·unfold Qf QF
   rw[if_neg (by omega)]
   rw[ZR (s0:=(0:Int)) (fun i=>(i:Int)) (QL c.Recs c.Order) (some false) (some (decide (c.Recs.countP Jk=c.Order.length))) c.Order.length (by omega) (fun kb i hi=> ?_) (fun kb=> ?_) rfl]
   ·generalize (List.range c.Order.length).all (QL c.Recs c.Order)=b2
    cases b2<;>simp
   ·unfold QM yw QL
    simp only[z5 hi,YY,Kn (Nat.le_of_lt hi),K4 (c.Order.take i) _ (by simp;omega),Option.bind_some,yh i _ hi (by omega),List.getElem?_eq_getElem hi]
    rw[if_pos (by omega)]
    cases hw:zX c.Order[i] 1 (c.Recs.length:Int) with
    |false=>simp
    |true=>
     have hw':1≤c.Order[i]∧c.Order[i]≤c.Recs.length:=by unfold zX at hw;simpa using hw
     have hk:(c.Order[i] - 1).toNat < c.Recs.length:=by omega
     have e2:IntKind.wrap .i64 (c.Order[i] - 1)=(((c.Order[i] - 1).toNat:Nat):Int):=by rw[w64 (by omega) (by omega)];omega
     simp only[if_true,e2,z5 hk,Option.bind_some,List.getElem?_eq_getElem hk,Bool.true_and,Jk]
     generalize (List.take i c.Order).any (fun y=>decide (c.Order[i]=y))=b2
     generalize c.Recs[(c.Order[i] - 1).toNat].State=z
     by_cases c3:z=3<;>cases b2<;>simp[c3]
   ·unfold QM QK
    rw[if_neg (by omega)]
    simp
    omega
theorem zag(c:zl)(r:zD)(cnt:Int)(kx:Unit→Option Bool)(i:Nat)(hi:i < c.Recs.length)(hl:c.Recs.length≤1048576):
  iter (Zq (cnt,(i:Int)) c r kx) FU 0=if (c.Recs.take i).any (JB r)=true then some false else kx ():=by
 have hn:(c.Recs.take i).length=i:=by simp;omega
 refine zb0 (c.Recs.take i) (JB r) (some false) (kx ()) (by omega) (fun kb j hj=> ?_) (fun kb=> ?_)
 ·have hj':j < c.Recs.length:=by omega
  unfold Zq Zn JB
  simp only[z5 hj',Option.bind_some,yh j _ hj' (by omega),List.getElem_take]
  rw[if_pos (by omega)]
  by_cases c1:c.Recs[j].Client=r.Client<;>by_cases c2:c.Recs[j].Req=r.Req<;>simp[c1,c2]
 ·unfold Zq
  rw[if_neg (by omega)]
theorem jI(c:zl)(h:zU c≤1048576):jr c=some (qa c):=by
 have hR:z6 c.Recs≤1048576:=by unfold zU at h;omega
 have hO:c.Order.length≤1048576:=by unfold zU at h;omega
 obtain⟨hl,hs⟩:=Z5 hR
 have hcn:c.Recs.countP Jk≤c.Recs.length:=List.countP_le_length
 unfold jr ZN qa
 split
 ·rename_i h1
  have:¬c.Recs.length≤60:=by omega
  simp[this]
 ·rename_i h1
  have h6:c.Recs.length≤60:=by omega
  by_cases hb:60 < (c.Order.length:Int)
  ·have:¬c.Recs.countP Jk=c.Order.length:=by omega
   simp[hb,this]
  simp only[hb,decide_false,Bool.false_eq_true,if_false]
  rw[ZR (s0:=((0:Int),(0:Int))) (fun i=>((((c.Recs.take i).countP Jk:Nat):Int),(i:Int))) (xv c.Recs) (some false) (some ((List.range c.Order.length).all (QL c.Recs c.Order)&&decide (c.Recs.countP Jk=c.Order.length))) c.Recs.length (by omega) (fun kb i hi=> ?_) (fun kb=> ?_) (by simp)]
  ·generalize (List.range c.Recs.length).all (xv c.Recs)=b1
   generalize (List.range c.Order.length).all (QL c.Recs c.Order)=b2
   cases b1<;>simp[h6]
  ·have hsi:zN c.Recs[i].Shares≤1048576:=by have:=hs i hi;unfold jt at this;omega
   have hc:=zcv Jk c.Recs i
   unfold Ql Zs xv
   simp only[z5 hi,zcO _ hsi,zag c _ _ _ i hi hl,Option.bind_some,yh i _ hi (by omega),List.getElem?_eq_getElem hi,zaa _ hi]
   unfold Qc jV
   simp only[yh i _ hi (by omega)]
   rw[if_pos (by omega),w64 (by omega) (by omega)]
   have e1:((i+1:Nat):Int)=(i:Int)+1:=by omega
   rw[e1]
   generalize ZZ c.Recs[i]=b1
   generalize (List.take i c.Recs).any (JB c.Recs[i])=b2
   by_cases c1:c.Recs[i].Tx=(i:Int)+1<;>cases b1<;>cases b2<;>by_cases c3:c.Recs[i].State=3<;>simp[c1,c3,Jk]
  ·unfold Ql QE
   rw[if_neg (by omega)]
   rw[ZR (s0:=(0:Int)) (fun i=>(i:Int)) (QL c.Recs c.Order) (some false) (some (decide (c.Recs.countP Jk=c.Order.length))) c.Order.length (by omega) (fun kb i hi=> ?_) (fun kb=> ?_) rfl]
   ·generalize (List.range c.Order.length).all (QL c.Recs c.Order)=b2
    cases b2<;>simp
   ·unfold QG yx QL
    simp only[z5 hi,Jp,Kn (Nat.le_of_lt hi),zes (c.Order.take i) _ (by simp;omega),Option.bind_some,yh i _ hi (by omega),List.getElem?_eq_getElem hi]
    rw[if_pos (by omega)]
    cases hw:zX c.Order[i] 1 (c.Recs.length:Int) with
    |false=>simp
    |true=>
     have hw':1≤c.Order[i]∧c.Order[i]≤c.Recs.length:=by unfold zX at hw;simpa using hw
     have hk:(c.Order[i] - 1).toNat < c.Recs.length:=by omega
     have e2:IntKind.wrap .i64 (c.Order[i] - 1)=(((c.Order[i] - 1).toNat:Nat):Int):=by rw[w64 (by omega) (by omega)];omega
     simp only[if_true,e2,z5 hk,Option.bind_some,List.getElem?_eq_getElem hk,Bool.true_and,Jk]
     generalize (List.take i c.Order).any (fun y=>decide (c.Order[i]=y))=b2
     generalize c.Recs[(c.Order[i] - 1).toNat].State=z
     by_cases c3:z=3<;>cases b2<;>simp[c3]
   ·unfold QG QJ
    rw[if_neg (by omega)]
    simp
    omega
theorem zbE(xs:List Int)(h:xs.length≤1048576):yL xs=some xs:=by
 unfold yL jK
 split<;>first|(simp;done)|(simp;omega)
theorem zai(xs:List qo)(h:xs.length≤1048576):j5 xs=some xs:=by
 unfold j5 jo
 split<;>first|(simp;done)|(simp;omega)
theorem zal(xs:List qy)(h:xs.length≤1048576):j8 xs=some xs:=by
 unfold j8 jq
 split<;>first|(simp;done)|(simp;omega)
theorem kN{α:Type}{xs:List α}{i:Nat}{a:α}(h:i < xs.length):idx (xs.set i a) (i:Int)=some a:=by
 rw[z5 (by simpa using h)]
 simp
theorem XJ(xs:List zn)(h:zN xs≤1048576):yq xs=some xs:=by
 obtain⟨hl,hs⟩:=Za h
 unfold yq
 refine Q9 (fun i=>(xs.take i,(i:Int))) _ xs.length (by omega) (fun kb i hi=> ?_) (fun kb=> ?_) (by simp)
 ·have hsz:=hs i hi
  unfold jk at hsz
  unfold ZU
  simp only[z5 hi,Option.bind_some,yh i _ hi (by omega)]
  rw[if_pos (by omega),if_pos (by omega),if_pos (by omega),if_pos (by simp;omega),List.take_succ_eq_append_getElem hi]
 ·unfold ZU ZW
  rw[if_neg (Int.lt_irrefl _),List.take_length]
theorem za8(xs:List zn)(h:zN xs≤1048576):y3 xs=some xs:=by
 obtain⟨hl,hs⟩:=Za h
 unfold y3
 refine Q9 (fun i=>(xs.take i,(i:Int))) _ xs.length (by omega) (fun kb i hi=> ?_) (fun kb=> ?_) (by simp)
 ·have hsz:=hs i hi
  unfold jk at hsz
  unfold ZC
  simp only[z5 hi,Option.bind_some,yh i _ hi (by omega),zai xs[i].Reads (by omega),zal xs[i].Writes (by omega)]
  rw[if_pos (by omega),if_pos (by simp;omega),List.take_succ_eq_append_getElem hi]
 ·unfold ZC ZB
  rw[if_neg (Int.lt_irrefl _),List.take_length]
theorem JW(c:zl)(h:zU c≤1048576):j7 c=some c:=by
 have hR:z6 c.Recs≤1048576:=by unfold zU at h;omega
 have hO:c.Order.length≤1048576:=by unfold zU at h;omega
 obtain⟨hl,hs⟩:=Z5 hR
 unfold j7
 rw[if_pos (by omega)]
 refine Q9 (fun i=>((i:Int),c.Recs.take i)) _ c.Recs.length (by omega) (fun kb i hi=> ?_) (fun kb=> ?_) (by simp)
 ·have hsz:=hs i hi
  unfold jt at hsz
  unfold QI
  simp only[z5 hi,Option.bind_some,yh i _ hi (by omega),XJ c.Recs[i].Shares hsz]
  rw[if_pos (by omega),if_pos (by simp;omega),List.take_succ_eq_append_getElem hi]
 ·unfold QI QC
  rw[if_neg (Int.lt_irrefl _),List.take_length]
theorem XF(c:zl)(h:zU c≤1048576):Zv c=some c:=by
 have hR:z6 c.Recs≤1048576:=by unfold zU at h;omega
 have hO:c.Order.length≤1048576:=by unfold zU at h;omega
 obtain⟨hl,hs⟩:=Z5 hR
 unfold Zv
 simp only[zbE _ hO,Option.bind_some]
 refine Q9 (fun i=>((i:Int),c.Recs.take i)) _ c.Recs.length (by omega) (fun kb i hi=> ?_) (fun kb=> ?_) (by simp)
 ·have hsz:=hs i hi
  unfold jt at hsz
  unfold ZX
  simp only[z5 hi,Option.bind_some,yh i _ hi (by omega),za8 c.Recs[i].Shares hsz]
  rw[if_pos (by omega),if_pos (by simp;omega),List.take_succ_eq_append_getElem hi]
 ·unfold ZX ZY
  rw[if_neg (Int.lt_irrefl _),List.take_length]
theorem kC{α:Type}(f:α→Nat):∀(xs:List α) (i:Nat) (y:α),(∀x,xs[i]? =some x→f y=f x)→ZJ f (xs.set i y)=ZJ f xs
 |[],_,_,_=>rfl
 |x::xs,0,y,h=>by simp[ZJ,h x rfl]
 |x::xs,i+1,y,h=>by
  simp only[List.set_cons_succ,ZJ]
  rw[kC f xs i y (fun z hz=>h z (by simpa using hz))]
theorem K5(xs:List zD)(i:Nat)(y:zD)(h:∀x,xs[i]? =some x→jt y=jt x):z6 (xs.set i y)=z6 xs:=by
 unfold z6
 rw[List.length_set,kC _ xs i y h]
def zb5(m:Nat)(x y:Option (zl×Int)):Prop:=∃r:zl×Int,x=some r∧y=some r∧z6 r.1.Recs≤m∧r.1.Order.length≤m
theorem zb5.zero{m:Nat}{z:Int}:zb5 m (some (zl.mk [] [],z)) (some (zl.mk [] [],z)):=⟨_,rfl,rfl,by simp[z6,ZJ],by simp⟩
theorem zaj{r:zD}(h:ZZ r=true):1≤r.State∧r.State≤4:=by
 unfold ZZ at h
 simp only[Bool.and_eq_true] at h
 have h:=h.2
 by_cases h1:r.State=1
 ·omega
 ·rw[if_neg h1] at h
  by_cases h2:r.State=2
  ·omega
  ·rw[if_neg h2] at h
   by_cases h3:r.State=3
   ·omega
   ·rw[if_neg h3] at h
    have:=of_decide_eq_true h
    omega
theorem Ys{c:zl}(H:qa c=true){i:Nat}(hi:i < c.Recs.length):ZZ c.Recs[i]=true:=by
 unfold qa at H
 simp only[Bool.and_eq_true,decide_eq_true_eq,List.all_eq_true,List.mem_range] at H
 have h:=H.1.1.2 i hi
 unfold xv at h
 simp only[List.getElem?_eq_getElem hi,Bool.and_eq_true,decide_eq_true_eq] at h
 exact h.1.2
def x6(k q:Int)(r:zD):Bool:=decide (r.Client=k)&&decide (r.Req=q)
def jQ(c:zl)(k q:Int):Int:=if qa c=true then Yb (x6 k q) c.Recs+1 else 0
theorem kP(xs:List zD)(k q:Int)(h:xs.length≤1048576):qi xs k q=some (Yb (x6 k q) xs):=by
 unfold qi
 rw[J8 xs (x6 k q) (by omega) (fun kb i hi=> ?_) (fun kb=> ?_)]
 ·unfold qF Zz x6
  simp only[z5 hi,Option.bind_some,yh i _ hi (by omega)]
  rw[if_pos (by omega)]
  by_cases c:xs[i].Client=k<;>simp[c]
 ·unfold qF
  rw[if_neg (by omega)];rfl
theorem K6{α:Type}(p:α→Bool)(xs:List α):-1≤Yb p xs∧Yb p xs < xs.length:=by
 unfold Yb
 cases h:xs.findIdx? p with
 |none=>simp;omega
 |some k=>
  rw[List.findIdx?_eq_some_iff_getElem] at h
  obtain⟨hk,_⟩:=h
  simp;omega
theorem zcG{α:Type}(xs:List α)(p:α→Bool)(g:Int→Int)(z:Int){f:(Int→Option Int)→Int→Option Int}(hn:xs.length≤1152921504606846976)
  (hs:∀kb (i:Nat) (hi:i < xs.length),f kb (i:Int)=if p xs[i]=true then some (g i) else kb ((i+1:Nat):Int)) (he:∀kb,f kb (xs.length:Int)=some z):iter f FU 0=some (if Yb p xs < 0 then z else g (Yb p xs)):=by
 rw[Xu (s0:=(0:Int)) (fun i=>(i:Int)) (fun i:Nat=>(xs[i]?).bind fun x=>if p x=true then some (some (g (i:Int))) else none) (some z) xs.length hn (fun kb i hi=> ?_) (fun kb=>he kb) rfl]
 ·have key:∀(ys:List α) (o:Nat),(List.range ys.length).findSome? (fun i:Nat=>(ys[i]?).bind fun x=>if p x=true then some (some (g ((o+i:Nat):Int))) else none)=(ys.findIdx? p).map fun k=>some (g ((o+k:Nat):Int)):=by
   intro ys
   induction ys with
   |nil=>intro o;rfl
   |cons y ys ih=>
    intro o
    rw[List.length_cons,List.range_succ_eq_map,List.findSome?_cons,List.findSome?_map,List.findIdx?_cons]
    simp only[List.getElem?_cons_zero,Option.bind_some]
    by_cases e:p y=true
    ·simp[e]
    ·simp only[e,if_false,Function.comp_def,List.getElem?_cons_succ,Bool.false_eq_true]
     have:=ih (o+1)
     rw[show(fun i:Nat=>(ys[i]?).bind fun x=>if p x=true then some (some (g ((o+(i+1):Nat):Int))) else none)=fun i:Nat=>(ys[i]?).bind fun x=>if p x=true then some (some (g ((o+1+i:Nat):Int))) else none from by funext i;rw[show o+(i+1)=o+1+i by omega]]
     rw[this]
     cases ys.findIdx? p with
     |none=>rfl
     |some k=>simp only[Option.map_some];rw[show o+1+k=o+(k+1) by omega]
  have:=key xs 0
  simp only[Nat.zero_add] at this
  rw[this]
  unfold Yb
  cases xs.findIdx? p with
  |none=>simp
  |some k=>simp only[Option.map_some];rw[if_neg (by omega)]
 ·rw[hs kb i hi,List.getElem?_eq_getElem hi]
  simp only[Option.bind_some]
  by_cases e:p xs[i]=true<;>simp[e]
theorem zbc{c:zl}(H:qa c=true){i:Nat}(hi:i < c.Recs.length):c.Recs[i].Tx=(i:Int)+1:=by
 unfold qa at H
 simp only[Bool.and_eq_true,decide_eq_true_eq,List.all_eq_true,List.mem_range] at H
 have h:=H.1.1.2 i hi
 unfold xv at h
 simp only[List.getElem?_eq_getElem hi,Bool.and_eq_true,decide_eq_true_eq] at h
 exact h.1.1
theorem Jr(c:zl)(k q:Int)(h:zU c≤1048576):Zx c k q=some (jQ c k q):=by
 have hR:z6 c.Recs≤1048576:=by unfold zU at h;omega
 obtain⟨hl,hs⟩:=Z5 hR
 unfold Zx jQ
 cases hg:qa c with
 |true=>
  rw[zcG c.Recs (x6 k q) (fun z=>z+1) 0 (by omega) (fun kb i hi=> ?_) (fun kb=> ?_)]
  ·simp only[if_true]
   congr 1
   have:=K6 (x6 k q) c.Recs
   split<;>omega
  ·unfold y6 yC x6
   simp only[jI _ h,hg,z5 hi,zbc hg hi,Option.bind_some,yh i _ hi (by omega),if_true]
   rw[if_pos (by omega)]
   by_cases c1:c.Recs[i].Client=k<;>by_cases c2:c.Recs[i].Req=q<;>simp[c1,c2]
  ·unfold y6
   rw[if_neg (by omega)];rfl
 |false=>
  show iter _ (FU) 0=_
  rw[show FU=(FU - 1)+1 from by unfold FU;omega]
  unfold iter
  unfold y6
  simp only[jI _ h,hg,Option.bind_some]
  split<;>rfl
theorem Jw(c:zl)(k q:Int)(h:zU c≤1048576):yp c k q=some (jQ c k q):=by
 have hR:z6 c.Recs≤1048576:=by unfold zU at h;omega
 obtain⟨hl,hs⟩:=Z5 hR
 have hi:=K6 (x6 k q) c.Recs
 unfold yp jQ
 simp only[Z4 _ h,kP _ _ _ hl,Option.bind_some]
 rw[w64 (by omega) (by omega)]
 cases qa c<;>simp
 omega
theorem jY{c:zl}(H:qa c=true):c.Recs.length≤60∧c.Order.length≤60:=by
 unfold qa at H
 simp only[Bool.and_eq_true,decide_eq_true_eq] at H
 have:=List.countP_le_length (p:=Jk) (l:=c.Recs)
 omega
theorem XM{α:Type}(f:α→Nat):∀(xs:List α) (i:Nat) (y:α),ZJ f (xs.set i y)≤ZJ f xs+f y
 |[],_,_=>by simp[ZJ]
 |x::xs,0,y=>by simp only[List.set_cons_zero,ZJ];omega
 |x::xs,i+1,y=>by
  have:=XM f xs i y
  simp only[List.set_cons_succ,ZJ]
  omega
theorem zbJ(xs:List zD)(i:Nat)(y:zD):z6 (xs.set i y)≤z6 xs+jt y:=by
 unfold z6
 have:=XM (fun y:zD=>jt y) xs i y
 rw[List.length_set]
 omega
theorem zbl{α:Type}(f:α→Nat)(b:Nat):∀(xs:List α),(∀x∈xs,f x≤b)→ZJ f xs≤b * xs.length
 |[],_=>by simp[ZJ]
 |x::xs,H=>by
  have:=zbl f b xs fun y hy=>H y (List.mem_cons_of_mem _ hy)
  have:=H x List.mem_cons_self
  simp only[ZJ,List.length_cons,Nat.mul_add,Nat.mul_one]
  omega
theorem Y3{xs:List zn}(H:jF xs=true):zN xs≤484:=by
 unfold jF at H
 simp only[Bool.and_eq_true,decide_eq_true_eq,List.all_eq_true,List.mem_range] at H
 obtain⟨hl,ha⟩:=H
 unfold zN
 have:=zbl (fun y:zn=>jk y) 120 xs fun s hs=> ?_
 ·have:120 * xs.length≤480:=by omega
  omega
 ·obtain⟨i,hi,rfl⟩:=List.mem_iff_getElem.1 hs
  have h:=ha i hi
  unfold Jt J0 Zg at h
  simp only[List.getElem?_eq_getElem hi,Bool.and_eq_true,decide_eq_true_eq] at h
  show xs[i].Reads.length+xs[i].Writes.length≤120
  omega
theorem QY{c:zl}(H:qa c=true):z6 c.Recs≤30000:=by
 have hl:=(jY H).1
 unfold z6
 have:=zbl (fun y:zD=>jt y) 484 c.Recs fun s hs=> ?_
 ·have:484 * c.Recs.length≤29040:=by omega
  omega
 ·obtain⟨i,hi,rfl⟩:=List.mem_iff_getElem.1 hs
  have h:=Ys H hi
  unfold ZZ at h
  simp only[Bool.and_eq_true] at h
  exact Y3 h.1.2
def Xs(m:Nat)(x y:Option (zl×Int×Int)):Prop:=∃r:zl×Int×Int,x=some r∧y=some r∧z6 r.1.Recs≤m∧r.1.Order.length≤m
theorem size_append(xs:List zD)(y:zD):z6 (xs++[y])=z6 xs+1+jt y:=by
 unfold z6
 have:ZJ (fun y:zD=>jt y) (xs++[y])=ZJ (fun y:zD=>jt y) xs+jt y:=by
  induction xs with
  |nil=>simp[ZJ]
  |cons x xs ih=>simp only[List.cons_append,ZJ,ih];omega
 rw[this,List.length_append,List.length_singleton]
 omega
theorem zfc(c:zl)(k q:Int)(h:zU c≤1048576):Xs 1048576 (zY c k q) (jl c k q):=by
 unfold zY jl
 simp only[jI _ h,Z4 _ h,xK,Xk,Jp,zbt,Option.bind_some]
 have Z:Xs 1048576 (z3 c k q true) (qq c k q true):=⟨_,rfl,rfl,by simp[z6,ZJ],by simp⟩
 cases hc:qa c with
 |false=>simpa using Z
 |true=>
  have hn:=jY hc
  have hz:=QY hc
  have hJ:Xs 1048576 (z3 c k q false) (qq c k q false):=by
   unfold z3 qq
   rw[if_neg (by simp),if_neg (by simp)]
   simp only[JW _ h,XF _ h,Jr _ _ _ h,Jw _ _ _ h,Option.bind_some]
   split
   ·exact⟨_,rfl,rfl,by simp only;omega,by simp only;omega⟩
   ·split
    ·exact⟨_,rfl,rfl,by simp only;omega,by simp only;omega⟩
    ·rw[if_pos (by simp;omega)]
     refine⟨_,rfl,rfl,?_,by simp only;omega⟩
     simp only[size_append]
     have e:jt (zD.mk (IntKind.wrap .i64 ((c.Recs.length:Int)+1)) k q 1 [])=zN []:=rfl
     have e2:zN []=0:=rfl
     omega
  cases zX k 0 1000000000<;>cases zX q 1 1000000000<;>simp only[Bool.false_eq_true,if_true,if_false,Bool.not_true,Bool.not_false]<;>first|exact Z|exact hJ
theorem zaO{S R:Type}{f:(S→Option R)→S→Option R}(I:Nat→S→Prop)(n:Nat)(hn:n≤1152921504606846976){s0:S}(h0:I 0 s0)(xR:Option R→Prop)
  (hs:∀i,i≤n→∀s,I i s→∀kb,(i < n∧∃s',I (i+1) s'∧f kb s=kb s')∨xR (f kb s)):xR (iter f FU s0):=by
 have key:∀(d i m:Nat) (s:S),i+d=n→d < m→I i s→xR (iter f m s):=by
  intro d
  induction d with
  |zero=>
   intro i m s e hm hi
   obtain⟨m,rfl⟩:∃k,m=k+1:=⟨m - 1,by omega⟩
   rcases hs i (by omega) s hi (iter f m) with⟨h,_⟩|h
   ·omega
   ·exact h
  |succ d ih=>
   intro i m s e hm hi
   obtain⟨m,rfl⟩:∃k,m=k+1:=⟨m - 1,by omega⟩
   rcases hs i (by omega) s hi (iter f m) with⟨_,s',hs',e'⟩|h
   ·show xR (f (iter f m) s)
    rw[e']
    exact ih (i+1) m s' (by omega) (by omega) hs'
   ·exact h
 exact key n 0 FU s0 (by omega) (by unfold FU;omega) h0
theorem Kc{cb:List Int}{c:Int×Int}(h:Zh cb c):jE cb (fun xs:List qy=>xs.length≤4) (j3 cb c):=by
 unfold j3
 refine(qA h 20).bind fun k c1 hc1 _=> ?_
 refine zaO (fun(i:Nat) (s:List qy×Int×Int×Int×Int)=>s.1.length=i∧s.2.2.1=(i:Int)∧Zh cb s.2.2.2) 4 (by omega) ⟨rfl,rfl,hc1⟩ (jE cb (fun xs:List qy=>xs.length≤4)) (fun i hi s ⟨h1,h2,h3⟩ kb=> ?_)
 unfold ZS
 obtain⟨n,c2,e2,hc2,n1,n2,_⟩:=qA h3 4
 have n2:=n2 (by omega)
 simp only[e2,Option.bind_some,h2]
 by_cases hlt:(i:Int) < n
 ·rw[if_pos hlt]
  obtain⟨v,c3,e3,hc3,_⟩:=qA hc2 99
  obtain⟨b,c4,e4,hc4,_⟩:=YG hc3 5
  left
  refine⟨by omega,?_⟩
  simp only[e3,e4,Option.bind_some]
  unfold jH
  obtain⟨g,c5,e5,hc5,_⟩:=qA hc4 8
  split
  ·simp only[h2,e5,Option.bind_some,yh i 4 (by omega) (by omega)]
   rw[if_pos (by simp;omega)]
   exact⟨_,⟨by simp;omega,rfl,hc5⟩,rfl⟩
  ·simp only[h2,e5,Option.bind_some,yh i 4 (by omega) (by omega)]
   rw[if_pos (by simp;omega)]
   exact⟨_,⟨by simp;omega,rfl,hc5⟩,rfl⟩
 ·rw[if_neg hlt]
  right
  unfold yQ
  exact jE.some hc2 (by simp only;omega)
theorem zam{cb:List Int}{c:Int×Int}(h:Zh cb c):jE cb (fun _:qo=>True) (yN cb c):=by
 unfold yN
 exact(qA h 40).bind fun a c1 hc1 _=>(qA hc1 6).bind fun b c2 hc2 _=>jE.some hc2 trivial
theorem zdv(xs:List zn)(hn:0 < xs.length)(z:Int):zN (xs.set (Int.toNat ((0:Nat):Int)) (zn.mk xs[0].Group xs[0].Reads xs[0].Writes z))=zN xs:=by
 unfold zN
 rw[List.length_set,kC _ xs _ _ (fun x hx=>by
  rw[show Int.toNat ((0:Nat):Int)=0 from rfl,List.getElem?_eq_getElem hn,Option.some.injEq] at hx
  subst hx
  rfl)]
theorem xV(xs:List zn)(y:zn):zN (xs++[y])=zN xs+1+jk y:=by
 unfold zN
 have:ZJ (fun y:zn=>jk y) (xs++[y])=ZJ (fun y:zn=>jk y) xs+jk y:=by
  induction xs with
  |nil=>simp[ZJ]
  |cons x xs ih=>simp only[List.cons_append,ZJ,ih];omega
 rw[this,List.length_append,List.length_singleton]
 omega
theorem X0{cb:List Int}{c:Int×Int}(h:Zh cb c):jE cb (fun ss:List zn=>zN ss≤100) (jc cb c):=by
 unfold jc
 refine Ku (fun(i:Nat) (s:List zn×Int×Int×Int)=>zN s.1≤10 * i∧s.2.1=(i:Int)∧Zh cb s.2.2) 4 (by omega) ⟨by simp[zN,ZJ],rfl,h⟩ (jE cb (fun ss:List zn=>zN ss≤100)) (fun i hi s ⟨h1,h2,h3⟩ kb=> ?_) (fun s ⟨h1,h2,h3⟩ kb=> ?_)
 ·unfold yk
  simp only[h2]
  rw[if_pos (by omega)]
  obtain⟨b,c2,e2,hc2,_⟩:=YG h3 2
  simp only[e2,Option.bind_some]
  cases b with
  |true=>
   simp only[if_true]
   unfold qN
   simp only[h2,yh i 4 hi (by omega)]
   exact⟨_,⟨by simp only;omega,rfl,hc2⟩,rfl⟩
  |false=>
   simp only[Bool.false_eq_true,if_false]
   obtain⟨ws,c3,e3,hc3,hw⟩:=Kc hc2
   simp only[e3,Option.bind_some]
   have hsl:s.1.length≤10 * i:=by unfold zN at h1;omega
   refine zaO (fun(j:Nat) (t:Int×Int×Int×List qo)=>t.1=(j:Int)∧t.2.2.2.length=j∧Zh cb (t.2.1,t.2.2.1)) 3 (by omega) ⟨rfl,rfl,hc3⟩ (fun o=>∃s',(zN s'.1≤10 * (i+1)∧s'.2.1=((i+1:Nat):Int)∧Zh cb s'.2.2)∧o=kb s') (fun j hj t ⟨t1,t2,t3⟩ kb2=> ?_)
   unfold ZH
   obtain⟨n,c4,e4,hc4,n1,n2,_⟩:=qA t3 3
   have n2:=n2 (by omega)
   simp only[e4,Option.bind_some,t1]
   by_cases hlt:(j:Int) < n
   ·rw[if_pos hlt]
    obtain⟨a,c5,e5,hc5,_⟩:=zam hc4
    left
    refine⟨by omega,?_⟩
    simp only[e5,Option.bind_some,yh j 3 (by omega) (by omega)]
    rw[if_pos (by simp;omega)]
    exact⟨_,⟨rfl,by simp;omega,hc5⟩,rfl⟩
   ·rw[if_neg hlt]
    right
    unfold yj qN
    rw[if_pos (by simp;omega)]
    simp only[h2,yh i 4 hi (by omega)]
    refine⟨_,⟨?_,rfl,hc4⟩,rfl⟩
    simp only[xV]
    have:jk (zn.mk (i:Int) t.2.2.2 ws 0)=t.2.2.2.length+ws.length:=rfl
    omega
 ·unfold yk
  simp only[h2]
  rw[if_neg (by omega)]
  unfold yP
  have hsl:s.1.length≤40:=by unfold zN at h1;omega
  refine(qA h3 30).bind fun z c3 hc3 _=> ?_
  split
  ·refine(qA hc3 6).bind fun g c4 hc4 _=> ?_
   rw[if_pos (by simp;omega)]
   refine jE.some hc4 ?_
   simp only[xV]
   have:jk (zn.mk (IntKind.wrap .i64 (g - 1)) [] [] 0)=0:=rfl
   omega
  ·split
   ·split
    ·rename_i h0
     refine(qA hc3 4).bind fun v c4 hc4 _=> ?_
     have h0':0 < s.1.length:=by simpa using h0
     rw[show((0:Int))=((0:Nat):Int) from rfl,z5 h0',Option.bind_some]
     refine jE.some hc4 ?_
     simp only
     have:=zdv s.1 h0' v
     omega
    ·exact jE.some hc3 (by simp only;omega)
   ·exact jE.some hc3 (by simp only;omega)
theorem zae(c:zl)(k:Int)(h:zU c≤1048576):∃z,y8 c k=some z∧jm c k=some z∧(¬z=0→qa c=true∧1≤k∧k≤c.Recs.length∧∃r,c.Recs[(k - 1).toNat]? =some r∧r.State=z):=by
 have hR:z6 c.Recs≤1048576:=by unfold zU at h;omega
 obtain⟨hl,hs⟩:=Z5 hR
 unfold y8 jm yF jM Q6
 simp only[jI _ h,Z4 _ h,Jp,YY,Option.bind_some]
 cases hc:qa c with
 |false=>exact⟨0,by simp,by simp,by simp⟩
 |true=>
  cases hw:zX k 1 (c.Recs.length:Int) with
  |false=>exact⟨0,by simp,by simp,by simp⟩
  |true=>
   have hw':1≤k∧k≤c.Recs.length:=by unfold zX at hw;simpa using hw
   have hk:(k - 1).toNat < c.Recs.length:=by omega
   have e2:IntKind.wrap .i64 (k - 1)=(((k - 1).toNat:Nat):Int):=by rw[w64 (by omega) (by omega)];omega
   refine⟨c.Recs[(k - 1).toNat].State,?_,?_,fun _=>⟨rfl,hw'.1,hw'.2,_,List.getElem?_eq_getElem hk,rfl⟩⟩<;>rw[e2,z5 hk]<;>simp
def J5(xs:List zn):List Int:=(xs.filter (ye 0)).map (·.Group)
theorem kz(xs:List zn)(i:Nat):(J5 (xs.take i)).length≤i:=by
 unfold J5
 have h:=List.length_filter_le (ye 0) (xs.take i)
 simp at h ⊢
 omega
theorem XK{xs:List zn}{i:Nat}(hi:i < xs.length):J5 (xs.take (i+1))=J5 (xs.take i)++(if xs[i].Vote=0 then[xs[i].Group] else[]):=by
 unfold J5
 rw[List.take_succ_eq_append_getElem hi,List.filter_append,List.map_append]
 congr 1
 by_cases c:xs[i].Vote=0<;>simp[ye,c]
theorem Ke(r:zD)(h:r.Shares.length≤1048576):iter (yi r yI) FU (([]:List Int),0)=some (J5 r.Shares):=by
 refine Q9 (fun i=>(J5 (r.Shares.take i),(i:Int))) _ r.Shares.length (by omega) (fun kb i hi=> ?_) (fun kb=> ?_) (by simp[J5])
 ·have hl:=kz r.Shares i
  unfold yi
  simp only[z5 hi,Option.bind_some,yh i _ hi (by omega),XK hi]
  rw[if_pos (by omega)]
  by_cases c:r.Shares[i].Vote=0
  ·rw[if_pos c,if_pos c,if_pos (by rw[List.length_append,List.length_singleton];omega)]
  ·rw[if_neg c,if_neg c,List.append_nil]
 ·unfold yi yI
  rw[if_neg (Int.lt_irrefl _),List.take_length]
theorem XV(r:zD)(h:r.Shares.length≤1048576):iter (yf r yG) FU (([]:List Int),0)=some (J5 r.Shares):=by
 refine Q9 (fun i=>(J5 (r.Shares.take i),(i:Int))) _ r.Shares.length (by omega) (fun kb i hi=> ?_) (fun kb=> ?_) (by simp[J5])
 ·have hl:=kz r.Shares i
  unfold yf
  simp only[z5 hi,Option.bind_some,yh i _ hi (by omega),XK hi]
  rw[if_pos (by omega)]
  by_cases c:r.Shares[i].Vote=0
  ·rw[if_pos c,if_pos c,if_pos (by rw[List.length_append,List.length_singleton];omega)]
  ·rw[if_neg c,if_neg c,List.append_nil]
 ·unfold yf yG
  rw[if_neg (Int.lt_irrefl _),List.take_length]
theorem kK(c:zl)(k:Int)(h:zU c≤1048576):∃r,z9 c k=some r∧y7 c k=some r∧r.length≤1048576:=by
 have hR:z6 c.Recs≤1048576:=by unfold zU at h;omega
 obtain⟨hl,hs⟩:=Z5 hR
 obtain⟨z,e1,e2,e3⟩:=zae c k h
 unfold z9 y7
 simp only[e1,e2,Option.bind_some]
 by_cases c1:z=2
 ·obtain⟨_,k1,k2,r,hr,_⟩:=e3 (by omega)
  have hk:(k - 1).toNat < c.Recs.length:=by omega
  have e5:IntKind.wrap .i64 (k - 1)=(((k - 1).toNat:Nat):Int):=by rw[w64 (by omega) (by omega)];omega
  have hsz:=hs _ hk
  unfold jt at hsz
  have hsl:=(Za hsz).1
  rw[if_neg (by simp[c1]),if_neg (by simp[c1]),e5,z5 hk]
  simp only[Option.bind_some,Ke _ hsl,XV _ hsl]
  refine⟨_,rfl,rfl,?_⟩
  have:=kz c.Recs[(k - 1).toNat].Shares c.Recs[(k - 1).toNat].Shares.length
  rw[List.take_length] at this
  omega
 ·exact⟨[],by rw[if_pos c1],by rw[if_pos c1],by simp⟩
def zbY(g:Int)(s:zn):Bool:=decide (s.Group=g)&&decide (s.Vote=0)
def Yu(p:zn→Bool)(xs:List zn):Nat→Int
 |0=>-1
 |i+1=>match xs[i]? with
  |some s=>if p s=true then(i:Int) else Yu p xs i
  |none=>Yu p xs i
theorem zaB(p:zn→Bool)(xs:List zn):∀i,-1≤Yu p xs i∧Yu p xs i < i
 |0=>by simp[Yu]
 |i+1=>by
  have:=zaB p xs i
  unfold Yu
  split
  ·split<;>omega
  ·omega
theorem zbZ(r:zD)(g:Int)(kx:Int→Option (zl×Int))(h:r.Shares.length≤1048576):iter (yM r g kx) FU ((-1),0)=kx (Yu (zbY g) r.Shares r.Shares.length):=by
 refine Q9 (fun i=>(Yu (zbY g) r.Shares i,(i:Int))) _ r.Shares.length (by omega) (fun kb i hi=> ?_) (fun kb=> ?_) rfl
 ·unfold yM yE
  simp only[z5 hi,Option.bind_some,yh i _ hi (by omega),Yu,List.getElem?_eq_getElem hi]
  rw[if_pos (by omega)]
  unfold zbY
  by_cases c1:r.Shares[i].Group=g<;>by_cases c2:r.Shares[i].Vote=0<;>simp[c1,c2]
 ·unfold yM
  rw[if_neg (by simp)]
theorem KM{r:zD}(h:ZZ r=true):jF r.Shares=true:=by
 unfold ZZ at h
 simp only[Bool.and_eq_true] at h
 exact h.1.2
theorem zdz(xs:List zn)(n:Nat)(hn:n < xs.length)(z:Int):zN (xs.set n (zn.mk xs[n].Group xs[n].Reads xs[n].Writes z))=zN xs:=by
 unfold zN
 rw[List.length_set,kC _ xs n _ (fun x hx=>by
  rw[List.getElem?_eq_getElem hn,Option.some.injEq] at hx
  subst hx
  rfl)]
def qU(c:zl):Prop:=z6 c.Recs≤40000∧c.Order.length≤200
theorem qU.size{c:zl}(h:qU c):zU c≤1048576:=by
 unfold qU at h
 unfold zU
 omega
theorem qU.zero:qU (zl.mk [] []):=by simp[qU,z6,ZJ]
theorem zeE{c:zl}(k q:Int)(hs:qU c):∃r,zY c k q=some r∧qU r.1:=by
 have h:=hs.size
 unfold zY
 simp only[jI _ h,xK,Jp,Option.bind_some]
 have Z:∃r,z3 c k q true=some r∧qU r.1:=⟨_,rfl,qU.zero⟩
 cases hc:qa c with
 |false=>simpa using Z
 |true=>
  have hn:=jY hc
  have hz:=QY hc
  have hJ:∃r,z3 c k q false=some r∧qU r.1:=by
   unfold z3
   rw[if_neg (by simp)]
   simp only[JW _ h,Jr _ _ _ h,Option.bind_some]
   split
   ·exact⟨_,rfl,hs⟩
   ·split
    ·exact⟨_,rfl,hs⟩
    ·rw[if_pos (by simp;omega)]
     refine⟨_,rfl,?_,by simp only;omega⟩
     simp only[size_append]
     have e:jt (zD.mk (IntKind.wrap .i64 ((c.Recs.length:Int)+1)) k q 1 [])=zN []:=rfl
     have e2:zN []=0:=rfl
     omega
  cases zX k 0 1000000000<;>cases zX q 1 1000000000<;>simp only[Bool.false_eq_true,if_true,if_false,Bool.not_true,Bool.not_false]<;>first|exact Z|exact hJ
theorem zf2{c:zl}(k:Int)(hs:qU c):∃r,jN c k=some r∧qU r.1:=by
 have h:=hs.size
 have hl:c.Recs.length≤40000:=by have:=hs.1;unfold z6 at this;omega
 unfold jN
 simp only[jI _ h,JW _ h,Jp,Option.bind_some]
 cases hc:qa c with
 |false=>exact⟨_,rfl,qU.zero⟩
 |true=>
  simp only[if_true]
  cases hw1:zX k 1 (c.Recs.length:Int) with
  |false=>simp only[Bool.false_eq_true,if_false];exact⟨_,rfl,hs⟩
  |true=>
   have hw':1≤k∧k≤c.Recs.length:=by unfold zX at hw1;simpa using hw1
   have hk:(k - 1).toNat < c.Recs.length:=by omega
   have e5:IntKind.wrap .i64 (k - 1)=(((k - 1).toNat:Nat):Int):=by rw[w64 (by omega) (by omega)];omega
   simp only[if_true,e5,z5 hk,Option.bind_some,Int.toNat_natCast]
   split
   ·exact⟨_,rfl,hs⟩
   ·refine⟨_,rfl,?_,hs.2⟩
    simp only
    rw[K5 c.Recs _ _ (fun x hx=>by
     rw[List.getElem?_eq_getElem hk,Option.some.injEq] at hx
     subst hx
     rfl)]
    exact hs.1
theorem zd8{c:zl}(k:Int)(ss:List zn)(hs:qU c)(hss:zN ss≤1048576):∃r,jy c k ss=some r∧qU r.1:=by
 have h0:=hs.size
 obtain⟨hsl,_⟩:=Za hss
 have J1:∃r,ji c k ss true=some r∧qU r.1:=⟨_,rfl,qU.zero⟩
 unfold jy
 simp only[jI _ h0,Y4 _ hss,x7 _ _ hsl,Option.bind_some]
 cases hc:qa c with
 |false=>simpa using J1
 |true=>
  cases hg:jF ss with
  |false=>simpa using J1
  |true=>
   simp only[if_true]
   by_cases hcnt:((ss.countP (ye 0):Nat):Int)=(ss.length:Int)
   rotate_left
   ·rw[decide_eq_true hcnt];exact J1
   rw[decide_eq_false (by simpa using hcnt)]
   have hz:=QY hc
   have hlen:=jY hc
   have hsg:=Y3 hg
   unfold ji j2
   rw[if_neg (by simp)]
   simp only[JW _ h0,Jp,Option.bind_some]
   cases hw1:zX k 1 (c.Recs.length:Int) with
   |false=>simp only[Bool.false_eq_true,if_false];exact⟨_,rfl,hs⟩
   |true=>
    have hw':1≤k∧k≤c.Recs.length:=by unfold zX at hw1;simpa using hw1
    have hk:(k - 1).toNat < c.Recs.length:=by omega
    have e5:IntKind.wrap .i64 (k - 1)=(((k - 1).toNat:Nat):Int):=by rw[w64 (by omega) (by omega)];omega
    simp only[if_true,e5,z5 hk,Option.bind_some]
    split
    ·exact⟨_,rfl,hs⟩
    ·simp only[XJ _ hss,Option.bind_some,Int.toNat_natCast,List.set_set,kN hk]
     have key:=fun st=>zbJ c.Recs (k - 1).toNat (zD.mk c.Recs[(k - 1).toNat].Tx c.Recs[(k - 1).toNat].Client c.Recs[(k - 1).toNat].Req st ss)
     have e:∀st,jt (zD.mk c.Recs[(k - 1).toNat].Tx c.Recs[(k - 1).toNat].Client c.Recs[(k - 1).toNat].Req st ss)=zN ss:=fun _=>rfl
     split
     ·rw[if_pos (by simp;omega)]
      refine⟨_,rfl,?_,by simp;omega⟩
      have:=key 3;have:=e 3
      simp only;omega
     ·refine⟨_,rfl,?_,hs.2⟩
      have:=key 2;have:=e 2
      simp only;omega
theorem zgA{c:zl}(k g:Int)(yes:Bool)(hs:qU c):∃r,qG c k g yes=some r∧qU r.1:=by
 have h:=hs.size
 unfold qG
 simp only[jI _ h,JW _ h,Jp,Option.bind_some]
 cases hc:qa c with
 |false=>exact⟨_,rfl,qU.zero⟩
 |true=>
  simp only[if_true]
  have hlen:=jY hc
  cases hw1:zX k 1 (c.Recs.length:Int) with
  |false=>simp only[Bool.false_eq_true,if_false];exact⟨_,rfl,hs⟩
  |true=>
   have hw':1≤k∧k≤c.Recs.length:=by unfold zX at hw1;simpa using hw1
   have hk:(k - 1).toNat < c.Recs.length:=by omega
   have e5:IntKind.wrap .i64 (k - 1)=(((k - 1).toNat:Nat):Int):=by rw[w64 (by omega) (by omega)];omega
   have hsg:=KM (Ys hc hk)
   have hsl:c.Recs[(k - 1).toNat].Shares.length≤4:=(xX hsg).1
   simp only[if_true,e5,z5 hk,Option.bind_some,zbZ _ _ _ (show c.Recs[(k - 1).toNat].Shares.length≤1048576 by omega)]
   unfold ZD
   have hz:=zaB (zbY g) c.Recs[(k - 1).toNat].Shares c.Recs[(k - 1).toNat].Shares.length
   generalize Yu (zbY g) c.Recs[(k - 1).toNat].Shares c.Recs[(k - 1).toNat].Shares.length=z at hz
   have over:∃r,jR c yes c.Recs[(k - 1).toNat] z k true=some r∧qU r.1:=⟨_,rfl,hs⟩
   by_cases c1:c.Recs[(k - 1).toNat].State=2
   rotate_left
   ·rw[if_pos c1];exact over
   rw[if_neg (fun hne=>hne c1)]
   by_cases c2:z < 0
   ·rw[decide_eq_true c2];exact over
   rw[decide_eq_false c2]
   obtain⟨n,rfl⟩:∃n:Nat,z=(n:Int):=⟨z.toNat,by omega⟩
   have hn:n < c.Recs[(k - 1).toNat].Shares.length:=by omega
   unfold jR yB
   have hsz:=fun v=>zdz c.Recs[(k - 1).toNat].Shares n hn v
   have hset:=fun(st:Int) (ss:List zn) (e:zN ss=zN c.Recs[(k - 1).toNat].Shares)=>K5 c.Recs (k - 1).toNat (zD.mk c.Recs[(k - 1).toNat].Tx c.Recs[(k - 1).toNat].Client c.Recs[(k - 1).toNat].Req st ss) (fun x hx=>by
    rw[List.getElem?_eq_getElem hk,Option.some.injEq] at hx
    subst hx
    exact e)
   simp only[Bool.false_eq_true,if_false,e5,z5 hn,Option.bind_some,Int.toNat_natCast,kN hk,List.set_set]
   have hl2:∀v,(c.Recs[(k - 1).toNat].Shares.set n (zn.mk c.Recs[(k - 1).toNat].Shares[n].Group c.Recs[(k - 1).toNat].Shares[n].Reads c.Recs[(k - 1).toNat].Shares[n].Writes v)).length≤1048576:=fun v=>by rw[List.length_set];omega
   cases yes with
   |false=>
    simp only[Bool.false_eq_true,if_false]
    exact⟨_,rfl,by simp only;rw[hset _ _ (hsz 2)];exact hs.1,hs.2⟩
   |true=>
    simp only[if_true,x7 _ _ (hl2 1),Option.bind_some]
    split
    ·rw[if_pos (by simp;omega)]
     exact⟨_,rfl,by simp only;rw[hset _ _ (hsz 1)];exact hs.1,by simp;omega⟩
    ·exact⟨_,rfl,by simp only;rw[hset _ _ (hsz 1)];exact hs.1,hs.2⟩
theorem zfd{c:zl}(k:Int)(hs:qU c):∃r,z9 c k=some r∧r.length≤1048576:=by
 obtain⟨r,e1,_,hr⟩:=kK c k hs.size
 exact⟨r,e1,hr⟩
theorem zcV{cb:List Int}{rs:List zD}{os:List Int}{c:Int×Int}(hs:qU (zl.mk rs os))(hc:Zh cb c)(i n:Nat)(hi:i < n)(hn:n≤1000)(kb:(Int×Int×Int×List zD×List Int)→Option (zl×(Int×Int))):
  ∃s':Int×Int×Int×List zD×List Int,(s'.1=((i+1:Nat):Int)∧Zh cb (s'.2.1,s'.2.2.1)∧qU (zl.mk s'.2.2.2.1 s'.2.2.2.2))∧
  ((zv cb c (IntKind.wrap .i64 (((rs.length:Nat):Int)+1))).bind fun v14=>((zv cb v14.2 6).bind fun v16=>(if v16.1=0 then((zv cb v16.2 4).bind fun v19=>((zv cb v19.2 20).bind fun v21=>((zY (zl.mk rs os) v19.1 (IntKind.wrap .i64 (1+v21.1))).bind fun v23=>(if ¬v23.2.2=1 then(kb ((IntKind.wrap .i64 ((i:Int)+1)),v21.2.1,v21.2.2,v23.1.Recs,v23.1.Order)) else(kb ((IntKind.wrap .i64 ((i:Int)+1)),v21.2.1,v21.2.2,rs,os)))))) else(if v16.1=1 then((zv cb v16.2 4).bind fun v27=>((zv cb v27.2 20).bind fun v29=>((zY (zl.mk rs os) v27.1 (IntKind.wrap .i64 (1+v29.1))).bind fun v31=>(if ¬v31.2.2=1 then(kb ((IntKind.wrap .i64 ((i:Int)+1)),v29.2.1,v29.2.2,v31.1.Recs,v31.1.Order)) else(kb ((IntKind.wrap .i64 ((i:Int)+1)),v29.2.1,v29.2.2,rs,os)))))) else(if v16.1=2 then((jc cb v16.2).bind fun v35=>((jy (zl.mk rs os) (IntKind.wrap .i64 (1+v14.1)) v35.1).bind fun v37=>(if ¬v37.2=1 then(kb ((IntKind.wrap .i64 ((i:Int)+1)),v35.2.1,v35.2.2,v37.1.Recs,v37.1.Order)) else(kb ((IntKind.wrap .i64 ((i:Int)+1)),v35.2.1,v35.2.2,rs,os))))) else(if v16.1=3 then((z9 (zl.mk rs os) (IntKind.wrap .i64 (1+v14.1))).bind fun v41=>(if 0 < ((v41.length:Nat):Int) then((idx v41 0).bind fun v44=>((qb cb v16.2 5).bind fun v46=>((qG (zl.mk rs os) (IntKind.wrap .i64 (1+v14.1)) v44 (!v46.1)).bind fun v48=>(if ¬v48.2=1 then(kb ((IntKind.wrap .i64 ((i:Int)+1)),v46.2.1,v46.2.2,v48.1.Recs,v48.1.Order)) else(kb ((IntKind.wrap .i64 ((i:Int)+1)),v46.2.1,v46.2.2,rs,os)))))) else(if ¬(1:Int)=1 then(kb ((IntKind.wrap .i64 ((i:Int)+1)),v16.2.1,v16.2.2,rs,os)) else(kb ((IntKind.wrap .i64 ((i:Int)+1)),v16.2.1,v16.2.2,rs,os))))) else(if v16.1=4 then((z9 (zl.mk rs os) (IntKind.wrap .i64 (1+v14.1))).bind fun v53=>(if 0 < ((v53.length:Nat):Int) then((idx v53 0).bind fun v56=>((qb cb v16.2 5).bind fun v58=>((qG (zl.mk rs os) (IntKind.wrap .i64 (1+v14.1)) v56 (!v58.1)).bind fun v60=>(if ¬v60.2=1 then(kb ((IntKind.wrap .i64 ((i:Int)+1)),v58.2.1,v58.2.2,v60.1.Recs,v60.1.Order)) else(kb ((IntKind.wrap .i64 ((i:Int)+1)),v58.2.1,v58.2.2,rs,os)))))) else(if ¬(1:Int)=1 then(kb ((IntKind.wrap .i64 ((i:Int)+1)),v16.2.1,v16.2.2,rs,os)) else(kb ((IntKind.wrap .i64 ((i:Int)+1)),v16.2.1,v16.2.2,rs,os))))) else((qb cb v16.2 3).bind fun v64=>(if v64.1=true then((jN (zl.mk rs os) (IntKind.wrap .i64 (1+v14.1))).bind fun v67=>(if ¬v67.2=1 then(kb ((IntKind.wrap .i64 ((i:Int)+1)),v64.2.1,v64.2.2,v67.1.Recs,v67.1.Order)) else(kb ((IntKind.wrap .i64 ((i:Int)+1)),v64.2.1,v64.2.2,rs,os)))) else(if ¬(1:Int)=1 then(kb ((IntKind.wrap .i64 ((i:Int)+1)),v64.2.1,v64.2.2,rs,os)) else(kb ((IntKind.wrap .i64 ((i:Int)+1)),v64.2.1,v64.2.2,rs,os))))))))))))=kb s':=by
 have hst:=yh i n hi (by omega)
 have fin:∀{c':Int×Int} (r:zl) (code:Int),Zh cb c'→qU r→∃s':Int×Int×Int×List zD×List Int,(s'.1=((i+1:Nat):Int)∧Zh cb (s'.2.1,s'.2.2.1)∧qU (zl.mk s'.2.2.2.1 s'.2.2.2.2))∧(if ¬code=1 then(kb ((IntKind.wrap .i64 ((i:Int)+1)),c'.1,c'.2,r.Recs,r.Order)) else(kb ((IntKind.wrap .i64 ((i:Int)+1)),c'.1,c'.2,rs,os)))=kb s':=by
  intro c' r code hc' hr
  by_cases h1:code=1
  ·rw[if_neg (by simpa using h1)]
   exact⟨_,⟨hst,hc',hs⟩,rfl⟩
  ·rw[if_pos h1]
   exact⟨_,⟨hst,hc',hr⟩,rfl⟩
 obtain⟨t,c1,e1,hc1,_⟩:=qA hc (IntKind.wrap .i64 (((rs.length:Nat):Int)+1))
 obtain⟨w,c2,e2,hc2,_⟩:=qA hc1 6
 simp only[e1,e2,Option.bind_some]
 have begin1:∀c2:Int×Int,Zh cb c2→∃s':Int×Int×Int×List zD×List Int,(s'.1=((i+1:Nat):Int)∧Zh cb (s'.2.1,s'.2.2.1)∧qU (zl.mk s'.2.2.2.1 s'.2.2.2.2))∧((zv cb c2 4).bind fun v19=>((zv cb v19.2 20).bind fun v21=>((zY (zl.mk rs os) v19.1 (IntKind.wrap .i64 (1+v21.1))).bind fun v23=>(if ¬v23.2.2=1 then(kb ((IntKind.wrap .i64 ((i:Int)+1)),v21.2.1,v21.2.2,v23.1.Recs,v23.1.Order)) else(kb ((IntKind.wrap .i64 ((i:Int)+1)),v21.2.1,v21.2.2,rs,os))))))=kb s':=by
  intro c2 hc2
  obtain⟨a,c3,e3,hc3,_⟩:=qA hc2 4
  obtain⟨b,c4,e4,hc4,_⟩:=qA hc3 20
  obtain⟨r,er,hr⟩:=zeE a (IntKind.wrap .i64 (1+b)) hs
  simp only[e3,e4,er,Option.bind_some]
  exact fin r.1 r.2.2 hc4 hr
 have vote1:∀c2:Int×Int,Zh cb c2→∃s':Int×Int×Int×List zD×List Int,(s'.1=((i+1:Nat):Int)∧Zh cb (s'.2.1,s'.2.2.1)∧qU (zl.mk s'.2.2.2.1 s'.2.2.2.2))∧((z9 (zl.mk rs os) (IntKind.wrap .i64 (1+t))).bind fun v41=>(if 0 < ((v41.length:Nat):Int) then((idx v41 0).bind fun v44=>((qb cb c2 5).bind fun v46=>((qG (zl.mk rs os) (IntKind.wrap .i64 (1+t)) v44 (!v46.1)).bind fun v48=>(if ¬v48.2=1 then(kb ((IntKind.wrap .i64 ((i:Int)+1)),v46.2.1,v46.2.2,v48.1.Recs,v48.1.Order)) else(kb ((IntKind.wrap .i64 ((i:Int)+1)),v46.2.1,v46.2.2,rs,os)))))) else(if ¬(1:Int)=1 then(kb ((IntKind.wrap .i64 ((i:Int)+1)),c2.1,c2.2,rs,os)) else(kb ((IntKind.wrap .i64 ((i:Int)+1)),c2.1,c2.2,rs,os)))))=kb s':=by
  intro c2 hc2
  obtain⟨ws,ew,_⟩:=zfd (IntKind.wrap .i64 (1+t)) hs
  simp only[ew,Option.bind_some]
  by_cases hw:0 < ((ws.length:Nat):Int)
  ·rw[if_pos hw]
   have hw':0 < ws.length:=by omega
   rw[show(0:Int)=((0:Nat):Int) from rfl,z5 hw',Option.bind_some]
   obtain⟨b,c3,e3,hc3,_⟩:=YG hc2 5
   obtain⟨r,er,hr⟩:=zgA (IntKind.wrap .i64 (1+t)) ws[0] (!b) hs
   simp only[e3,er,Option.bind_some]
   exact fin r.1 r.2 hc3 hr
  ·rw[if_neg hw]
   exact fin (zl.mk rs os) 1 hc2 hs
 split
 ·exact begin1 c2 hc2
 ·split
  ·exact begin1 c2 hc2
  ·split
   ·obtain⟨ss,c3,e3,hc3,hss⟩:=X0 hc2
    obtain⟨r,er,hr⟩:=zd8 (IntKind.wrap .i64 (1+t)) ss hs (by omega)
    simp only[e3,er,Option.bind_some]
    exact fin r.1 r.2 hc3 hr
   ·split
    ·exact vote1 c2 hc2
    ·split
     ·exact vote1 c2 hc2
     ·obtain⟨b,c3,e3,hc3,_⟩:=YG hc2 3
      simp only[e3,Option.bind_some]
      split
      ·obtain⟨r,er,hr⟩:=zf2 (IntKind.wrap .i64 (1+t)) hs
       simp only[er,Option.bind_some]
       exact fin r.1 r.2 hc3 hr
      ·exact fin (zl.mk rs os) 1 hc3 hs
theorem KT{cb:List Int}{c:Int×Int}(h:Zh cb c)(most:Int)(h0:0≤most)(hm:most≤90):jE cb qU (yg cb c most):=by
 unfold yg
 rw[w64 (by omega) (by omega)]
 refine(qA h _).bind fun n c1 hc1 ⟨n1,n2,_⟩=>(YG hc1 20).bind fun b c2 hc2 _=> ?_
 have n2:=n2 (by omega)
 obtain⟨k,rfl⟩:∃k:Nat,n=(k:Int):=⟨n.toNat,by omega⟩
 split
 ·refine Ku (fun(i:Nat) (s:Int×Int×Int×List zD×List Int)=>s.1=(i:Int)∧Zh cb (s.2.1,s.2.2.1)∧qU (zl.mk s.2.2.2.1 s.2.2.2.2)) 90 (by omega) ⟨rfl,hc2,qU.zero⟩ (jE cb qU) (fun i hi s ⟨h1,h2,h3⟩ kb=> ?_) (fun s ⟨h1,h2,h3⟩ kb=> ?_)
  ·unfold yT
   simp only[h1]
   rw[if_pos (by omega)]
   exact zcV h3 h2 i 90 hi (by omega) kb
  ·unfold yT y0
   simp only[h1]
   rw[if_neg (by omega)]
   exact jE.some h2 h3
 ·refine Ku (fun(i:Nat) (s:Int×Int×Int×List zD×List Int)=>s.1=(i:Int)∧Zh cb (s.2.1,s.2.2.1)∧qU (zl.mk s.2.2.2.1 s.2.2.2.2)) k (by omega) ⟨rfl,hc2,qU.zero⟩ (jE cb qU) (fun i hi s ⟨h1,h2,h3⟩ kb=> ?_) (fun s ⟨h1,h2,h3⟩ kb=> ?_)
  ·unfold yS
   simp only[h1]
   rw[if_pos (by omega)]
   exact zcV h3 h2 i k hi (by omega) kb
  ·unfold yS yR
   simp only[h1]
   rw[if_neg (by omega)]
   exact jE.some h2 h3
theorem zbk{cb:List Int}{c:Int×Int}(h:Zh cb c)(most:Int)(h0:0≤most)(hm:most≤90):jE cb (fun c:zl=>zU c≤1048576) (y9 cb c most):=by
 unfold y9
 refine(KT h most h0 hm).bind fun d c1 hc1 hd=>(qA hc1 30).bind fun z c2 hc2 _=> ?_
 have hd':=hd
 unfold qU at hd'
 have hl:d.Recs.length≤40000:=by have:=hd'.1;unfold z6 at this;omega
 split
 ·refine(qA hc2 5).bind fun v c3 hc3 _=> ?_
  rw[if_pos (by simp;omega)]
  refine jE.some hc3 ?_
  unfold zU
  simp
  omega
 ·split
  ·split
   ·rename_i h1
    refine(qA hc2 _).bind fun n c3 hc3 ⟨n1,n2,_⟩=>(qA hc3 6).bind fun st c4 hc4 _=> ?_
    have n2:=n2 h1
    obtain⟨k,rfl⟩:∃k:Nat,n=(k:Int):=⟨n.toNat,by omega⟩
    have hk:k < d.Recs.length:=by simp only at n2;omega
    simp only[z5 hk,Option.bind_some,Int.toNat_natCast]
    refine jE.some hc4 ?_
    unfold zU
    simp only
    rw[K5 d.Recs _ _ (fun x hx=>by
     rw[List.getElem?_eq_getElem hk,Option.some.injEq] at hx
     subst hx
     rfl)]
    omega
   ·exact jE.some hc2 hd.size
  ·split
   ·refine(qA hc2 9).bind fun v c3 hc3 _=> ?_
    rw[if_pos (by simp;omega)]
    refine jE.some hc3 ?_
    unfold zU
    simp only[size_append]
    have e:jt (zD.mk v 0 1 1 [])=0:=rfl
    omega
   ·exact jE.some hc2 hd.size
theorem Xo(cb:List Int)(h:cb.length≤1048576):∃c k q,jp cb=some (c,k,q)∧zU c≤1048576:=by
 unfold jp
 obtain⟨c,ec,hc⟩:=zeM cb h
 obtain⟨n,en,n1,n2⟩:=zd9 cb h 30 (by omega)
 obtain⟨d,c1,ed,hc1,hd⟩:=zbk hc n (by omega) (by omega)
 simp only[ec,en,ed,Option.bind_some]
 unfold ZV
 obtain⟨b,c2,e2,hc2,_⟩:=YG hc1 20
 simp only[e2,Option.bind_some]
 split
 ·obtain⟨x,c3,e3,hc3,_⟩:=XH hc2 [(-1),1000000000,1000000001] (by simp)
  obtain⟨y,c4,e4,hc4,_⟩:=XH hc3 [0,1000000000,1000000001] (by simp)
  simp only[e3,e4,Option.bind_some]
  exact⟨_,_,_,rfl,hd⟩
 ·obtain⟨x,c3,e3,hc3,_⟩:=qA hc2 4
  obtain⟨y,c4,e4,hc4,_⟩:=qA hc3 20
  simp only[e3,e4,Option.bind_some]
  exact⟨_,_,_,rfl,hd⟩
def xl(c:zl)(k q:Int):zl×Int×Int:=
 if qa c&&zX k 0 1000000000&&zX q 1 1000000000 then(if 0 < jQ c k q then(c,jQ c k q,0) else if (c.Recs.length:Int)=60 then(c,0,4) else(zl.mk (c.Recs++[zD.mk ((c.Recs.length:Int)+1) k q 1 []]) c.Order,(c.Recs.length:Int)+1,0)) else(zl.mk [] [],0,1)
theorem zc9(c:zl)(k q:Int)(h:zU c≤1048576):zY c k q=some (xl c k q)∧jl c k q=some (xl c k q):=by
 unfold zY jl xl
 simp only[jI _ h,Z4 _ h,xK,Xk,Jp,zbt,Option.bind_some]
 have Z:z3 c k q true=some (zl.mk [] [],0,1)∧qq c k q true=some (zl.mk [] [],0,1):=⟨rfl,rfl⟩
 cases hc:qa c with
 |false=>simpa using Z
 |true=>
  have hn:=jY hc
  have ew:IntKind.wrap .i64 ((c.Recs.length:Int)+1)=(c.Recs.length:Int)+1:=w64 (by omega) (by omega)
  have hJ:∀x,x=(if 0 < jQ c k q then(c,jQ c k q,(0:Int)) else if (c.Recs.length:Int)=60 then(c,(0:Int),(4:Int)) else(zl.mk (c.Recs++[zD.mk ((c.Recs.length:Int)+1) k q 1 []]) c.Order,(c.Recs.length:Int)+1,(0:Int)))→z3 c k q false=some x∧qq c k q false=some x:=by
   intro x hx
   subst hx
   unfold z3 qq
   simp only[Bool.false_eq_true,if_false,JW _ h,XF _ h,Jr _ _ _ h,Jw _ _ _ h,Option.bind_some,ew]
   have hle:(c.Recs++[zD.mk ((c.Recs.length:Int)+1) k q 1 []]).length≤2147483648:=by simp;omega
   by_cases h1:0 < jQ c k q
   ·simp only[h1,if_true,and_self]
   ·by_cases h2:(c.Recs.length:Int)=60
    ·simp only[h1,h2,if_true,if_false,and_self]
    ·simp only[h1,h2,hle,if_true,if_false,and_self]
  cases zX k 0 1000000000<;>cases zX q 1 1000000000<;>simp only[Bool.false_eq_true,if_true,if_false,Bool.not_true,Bool.not_false,Bool.and_true,Bool.and_false]<;>first|exact Z|exact hJ _ rfl
theorem zdi{c:zl}{k q:Int}(hc:qa c=true)(h1:zX k 0 1000000000=true)(h2:zX q 1 1000000000=true)(hf:¬0 < jQ c k q)(hn:¬(c.Recs.length:Int)=60):
  qa (zl.mk (c.Recs++[zD.mk ((c.Recs.length:Int)+1) k q 1 []]) c.Order)=true∧Yb (x6 k q) (c.Recs++[zD.mk ((c.Recs.length:Int)+1) k q 1 []])=(c.Recs.length:Int):=by
 have hno:∀r∈c.Recs,x6 k q r=false:=by
  have h0:=QZ (x6 k q) c.Recs
  unfold jQ at hf
  rw[if_pos hc] at hf
  rw[decide_eq_false (by omega)] at h0
  have h0:=h0.symm
  rw[List.any_eq_false] at h0
  intro r hr
  have:=h0 r hr
  simpa using this
 constructor
 ·have hlen:=jY hc
  unfold qa at hc ⊢
  simp only[Bool.and_eq_true,decide_eq_true_eq,List.all_eq_true,List.mem_range] at hc ⊢
  obtain⟨⟨⟨g1,g2⟩,g3⟩,g4⟩:=hc
  refine⟨⟨⟨by simp;omega,fun i hi=> ?_⟩,fun i hi=> ?_⟩,?_⟩
  ·rw[List.length_append,List.length_singleton] at hi
   by_cases hlt:i < c.Recs.length
   ·have:=g2 i hlt
    unfold xv at this ⊢
    rw[List.getElem?_append_left hlt,List.take_append_of_le_length (by omega)]
    exact this
   ·have:i=c.Recs.length:=by omega
    subst this
    unfold xv
    rw[List.getElem?_append_right (Nat.le_refl _),Nat.sub_self]
    simp only[List.getElem?_cons_zero,List.take_left']
    simp only[decide_true,Bool.true_and,Bool.and_eq_true,Bool.not_eq_true']
    refine⟨?_,?_⟩
    ·unfold ZZ
     rw[h1,h2]
     rfl
    ·rw[List.any_eq_false]
     intro r hr
     have:=hno r hr
     unfold x6 at this
     unfold JB
     simp only[Bool.and_eq_true,decide_eq_true_eq,not_and]
     simp only[Bool.and_eq_false_iff,decide_eq_false_iff_not] at this
     intro e1 e2
     rcases this with h|h
     ·exact h (by first|exact e1|exact e1.symm)
     ·exact h (by first|exact e2|exact e2.symm)
  ·have:=g3 i hi
   unfold QL at this ⊢
   cases ho:c.Order[i]? with
   |none=>rfl
   |some o=>
    rw[ho] at this
    simp only[Bool.and_eq_true] at this ⊢
    obtain⟨⟨a1,a2⟩,a3⟩:=this
    unfold zX at a1 ⊢
    simp only[Bool.and_eq_true,decide_eq_true_eq] at a1 ⊢
    have hlt:(o - 1).toNat < c.Recs.length:=by omega
    rw[List.getElem?_append_left hlt]
    exact⟨⟨⟨a1.1,by simp;omega⟩,a2⟩,a3⟩
  ·rw[List.countP_append]
   simpa[Jk] using g4
 ·unfold Yb
  have:(c.Recs++[zD.mk ((c.Recs.length:Int)+1) k q 1 []]).findIdx? (x6 k q)=some c.Recs.length:=by
   rw[List.findIdx?_eq_some_iff_getElem]
   refine⟨by simp,by simp[x6],fun j hj=> ?_⟩
   rw[List.getElem_append_left hj,hno _ (List.getElem_mem hj)]
   simp
  rw[this]
theorem zdk{c:zl}(h:zU c≤1048576)(hc:qa c=true){t:Int}(h1:1≤t)(h2:t≤c.Recs.length):∃z,jm c t=some z∧0 < z:=by
 have hl:=jY hc
 have hk:(t - 1).toNat < c.Recs.length:=by omega
 have e5:IntKind.wrap .i64 (t - 1)=(((t - 1).toNat:Nat):Int):=by rw[w64 (by omega) (by omega)];omega
 have hst:=zaj (Ys hc hk)
 have hw:zX t 1 (c.Recs.length:Int)=true:=by unfold zX;simp;omega
 refine⟨c.Recs[(t - 1).toNat].State,?_,by omega⟩
 unfold jm Q6 jM
 simp only[Z4 _ h,hc,YY,hw,Option.bind_some,if_true,Bool.not_true,Bool.false_eq_true,if_false,e5,z5 hk]
theorem XG(c:zl)(k q t:Int)(h:zU c≤1048576)(hc:qa c=true)(h1:zX k 0 1000000000=true)(h2:zX q 1 1000000000=true)(hf:jQ c k q=t)(ht:0 < t)(v7:zl×Int×Int)(hv:v7=(c,t,0))(c0:zl):
  qX v7 (c0,k,q) false=some true:=by
 subst hv
 have hb:xl c k q=(c,t,0):=by
  unfold xl
  rw[hc,h1,h2,hf]
  simp only[Bool.and_self,if_true,ht]
 have hle:t≤c.Recs.length:=by
  have:=K6 (x6 k q) c.Recs
  unfold jQ at hf
  rw[if_pos hc] at hf
  omega
 obtain⟨z,ez,hz⟩:=zdk h hc (show 1≤t by omega) hle
 obtain⟨w,w1,w2,_⟩:=kK c t h
 unfold qX
 simp only[Bool.false_eq_true,if_false,(zc9 c k q h).2,hb,Option.bind_some,Jw _ _ _ h,hf,ez,hz,w1,w2,if_true,not_true]
 simp
theorem zak(a1:List Int)(h:okS (inK .u8) a1):ZG a1=some true:=by
 unfold ZG YQ
 simp only[Option.bind_some,decide_eq_true_eq]
 split
 ·rfl
 rename_i hbig
 have hn:a1.length≤1048576:=by omega
 obtain⟨c,k,q,ed,hs⟩:=Xo a1 hn
 obtain⟨b1,b2⟩:=zc9 c k q hs
 simp only[ed,b1,b2,Option.bind_some]
 rw[if_neg (by simp)]
 have e0:decide (¬True)=false:=by simp
 rw[e0]
 cases hok:(qa c&&zX k 0 1000000000&&zX q 1 1000000000) with
 |false=>
  have:xl c k q=(zl.mk [] [],0,1):=by unfold xl;rw[hok];rfl
  rw[this]
  rfl
 |true=>
  simp only[Bool.and_eq_true] at hok
  obtain⟨⟨hc,h1⟩,h2⟩:=hok
  by_cases hf:0 < jQ c k q
  ·refine XG c k q _ hs hc h1 h2 rfl hf _ ?_ c
   unfold xl
   rw[hc,h1,h2]
   simp only[Bool.and_self,if_true,hf]
  ·by_cases h60:(c.Recs.length:Int)=60
   ·have:xl c k q=(c,0,4):=by
     unfold xl
     rw[hc,h1,h2]
     simp only[Bool.and_self,if_true,hf,if_false,h60]
    rw[this]
    unfold qX
    simp
   ·obtain⟨n1,n2⟩:=zdi hc h1 h2 hf h60
    have hz:=QY n1
    have hl:=jY n1
    have hs':zU (zl.mk (c.Recs++[zD.mk ((c.Recs.length:Int)+1) k q 1 []]) c.Order)≤1048576:=by
     unfold zU
     simp only at hl hz ⊢
     omega
    refine XG _ k q ((c.Recs.length:Int)+1) hs' n1 h1 h2 ?_ (by omega) _ ?_ c
    ·unfold jQ
     rw[if_pos n1,n2]
    ·unfold xl
     rw[hc,h1,h2]
     simp only[Bool.and_self,if_true,hf,if_false,h60]
end Go.AW
