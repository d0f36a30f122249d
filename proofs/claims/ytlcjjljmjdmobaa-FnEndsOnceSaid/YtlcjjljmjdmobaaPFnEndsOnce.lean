/- Plain laws: what the plain functions answer. Conditions: each theorem's own. -/
import Derived.Test.YtlcjjljmjdmobaaMFnEndsOnce
set_option linter.unusedVariables false
set_option linter.unusedSimpArgs false
set_option maxRecDepth 100000
namespace Go.AW
theorem w64{n:Int}(h1:-9223372036854775808≤n)(h2:n < 9223372036854775808):IntKind.wrap .i64 n=n:=by
 rw[IntKind.wrap_i64];omega
theorem zX{α:Type}{xs:List α}{i:Nat}(h:i < xs.length):idx xs (i:Int)=some xs[i]:=by
 unfold idx
 rw[if_pos (by omega)]
 simp[h]
theorem zdO{S R:Type}{f:(S→Option R)→S→Option R}(st:Nat→S)(stop:Nat→Option (Option R))(k:Option R)(n:Nat)
  (hs:∀kb i,i < n→(∀j,j < i→stop j=none)→f kb (st i)=match stop i with|some r=>r|none=>kb (st (i+1))) (he:∀kb,(∀j,j < n→stop j=none)→f kb (st n)=k):
  ∀(m i:Nat),i≤n→(∀j,j < i→stop j=none)→n - i < m→iter f m (st i)=match ((List.range n).drop i).findSome? stop with|some r=>r|none=>k
 |0,i,_,_,h=>by omega
 |m+1,i,hi,hp,h=>by
  unfold iter
  by_cases e:i=n
  ·subst e
   rw[he _ hp]
   simp[List.drop_eq_nil_of_le]
  ·have hlt:i < n:=by omega
   rw[hs _ i hlt hp,List.drop_eq_getElem_cons (by simpa using hlt)]
   simp only[List.getElem_range,List.findSome?_cons]
   cases hq:stop i with
   |some r=>rfl
   |none=>exact zdO st stop k n hs he m (i+1) (by omega) (fun j hj=>by
     by_cases e':j=i
     ·subst e';exact hq
     ·exact hp j (by omega)) (by omega)
theorem zaz{S R:Type}{f:(S→Option R)→S→Option R}(st:Nat→S)(stop:Nat→Option (Option R))(k:Option R)(n:Nat)(hn:n≤1152921504606846976)
  (hs:∀kb i,i < n→(∀j,j < i→stop j=none)→f kb (st i)=match stop i with|some r=>r|none=>kb (st (i+1))) (he:∀kb,(∀j,j < n→stop j=none)→f kb (st n)=k) {s0:S} (h0:s0=st 0):
  iter f FU s0=match (List.range n).findSome? stop with|some r=>r|none=>k:=by
 subst h0
 have:=zdO st stop k n hs he FU 0 (by omega) (fun j hj=>by omega) (by unfold FU;omega)
 simpa using this
theorem Kf{S R:Type}{f:(S→Option R)→S→Option R}(st:Nat→S)(stop:Nat→Option (Option R))(k:Option R)(n:Nat)(hn:n≤1152921504606846976)
  (hs:∀kb i,i < n→f kb (st i)=match stop i with|some r=>r|none=>kb (st (i+1))) (he:∀kb,f kb (st n)=k) {s0:S} (h0:s0=st 0):
  iter f FU s0=match (List.range n).findSome? stop with|some r=>r|none=>k:=
 zaz st stop k n hn (fun kb i hi _=>hs kb i hi) (fun kb _=>he kb) h0
theorem Ja{S R:Type}{f:(S→Option R)→S→Option R}(st:Nat→S)(k:Option R)(n:Nat)(hn:n≤1152921504606846976)
  (hs:∀kb i,i < n→f kb (st i)=kb (st (i+1))) (he:∀kb,f kb (st n)=k) {s0:S} (h0:s0=st 0):iter f FU s0=k:=by
 rw[Kf st (fun _=>none) k n hn (fun kb i hi=>hs kb i hi) he h0]
 have:(List.range n).findSome? (fun _=>(none:Option (Option R)))=none:=by
  rw[List.findSome?_eq_none_iff];intro x _;rfl
 rw[this]
theorem zdE{S R:Type}{f:(S→Option R)→S→Option R}(st:Nat→S)(good:Nat→Bool)(r k:Option R)(n:Nat)(hn:n≤1152921504606846976)
  (hs:∀kb i,i < n→(∀j,j < i→good j=true)→f kb (st i)=if good i=true then kb (st (i+1)) else r) (he:∀kb,(∀j,j < n→good j=true)→f kb (st n)=k) {s0:S} (h0:s0=st 0):
  iter f FU s0=if (List.range n).all good=true then k else r:=by
 have tr:∀j,(if good j=true then(none:Option (Option R)) else some r)=none→good j=true:=fun j h=>by
  split at h
  ·assumption
  ·cases h
 rw[zaz st (fun i=>if good i=true then none else some r) k n hn (fun kb i hi hp=>by rw[hs kb i hi (fun j hj=>tr j (hp j hj))];split<;>rfl) (fun kb hp=>he kb (fun j hj=>tr j (hp j hj))) h0]
 by_cases e:(List.range n).all good=true
 ·have:(List.range n).findSome? (fun i=>if good i=true then none else some r)=none:=by
   rw[List.findSome?_eq_none_iff]
   intro x hx
   rw[List.all_eq_true] at e
   simp[e x hx]
  rw[this,if_pos e]
 ·rw[if_neg e]
  cases h:(List.range n).findSome? (fun i=>if good i=true then none else some r) with
  |none=>
   exfalso
   apply e
   rw[List.all_eq_true]
   intro x hx
   rw[List.findSome?_eq_none_iff] at h
   exact tr x (h x hx)
  |some q=>
   obtain⟨x,hx,hq⟩:=List.exists_of_findSome?_eq_some h
   split at hq
   ·cases hq
   ·cases hq;rfl
theorem Qn{S R:Type}{f:(S→Option R)→S→Option R}(st:Nat→S)(good:Nat→Bool)(r k:Option R)(n:Nat)(hn:n≤1152921504606846976)
  (hs:∀kb i,i < n→f kb (st i)=if good i=true then kb (st (i+1)) else r) (he:∀kb,f kb (st n)=k) {s0:S} (h0:s0=st 0):
  iter f FU s0=if (List.range n).all good=true then k else r:=
 zdE st good r k n hn (fun kb i hi _=>hs kb i hi) (fun kb _=>he kb) h0
theorem yy(i:Nat)(n:Nat)(h:i < n)(hn:n≤1152921504606846976):IntKind.wrap .i64 ((i:Int)+1)=((i+1:Nat):Int):=by
 rw[w64 (by omega) (by omega)];omega
def JW{α:Type}(p:α→Bool)(xs:List α):Int:=match xs.findIdx? p with
 |some k=>(k:Int)
 |none=>-1
theorem JF{α:Type}(p:α→Bool)(xs:List α):decide (0≤JW p xs)=xs.any p:=by
 unfold JW
 cases h:xs.findIdx? p with
 |none=>
  rw[List.findIdx?_eq_none_iff] at h
  have:xs.any p=false:=by rw[List.any_eq_false];intro x hx;simp[h x hx]
  simp[this]
 |some k=>
  rw[List.findIdx?_eq_some_iff_getElem] at h
  obtain⟨hk,hp,_⟩:=h
  have:xs.any p=true:=List.any_eq_true.2 ⟨xs[k],List.getElem_mem hk,hp⟩
  simp[this]
theorem JY{α:Type}(xs:List α)(p:α→Bool){f:(Int→Option Int)→Int→Option Int}(hn:xs.length≤1152921504606846976)
  (hs:∀kb (i:Nat) (hi:i < xs.length),f kb (i:Int)=if p xs[i]=true then some (i:Int) else kb ((i+1:Nat):Int)) (he:∀kb,f kb (xs.length:Int)=some (-1)):iter f FU 0=some (JW p xs):=by
 rw[Kf (s0:=(0:Int)) (fun i=>(i:Int)) (fun i:Nat=>(xs[i]?).bind fun x=>if p x=true then some (some (i:Int)) else none) (some (-1)) xs.length hn (fun kb i hi=> ?_) (fun kb=>he kb) rfl]
 ·have key:∀(ys:List α) (o:Nat),(List.range ys.length).findSome? (fun i:Nat=>(ys[i]?).bind fun x=>if p x=true then some (some ((o+i:Nat):Int)) else none)=(ys.findIdx? p).map fun k=>some ((o+k:Nat):Int):=by
   intro ys
   induction ys with
   |nil=>intro o;rfl
   |cons y ys ih=>
    intro o
    rw[List.length_cons,List.range_succ_eq_map,List.findSome?_cons,List.findSome?_map,List.findIdx?_cons]
    simp only[List.getElem?_cons_zero,Option.bind_some]
    by_cases e:p y=true
    ·simp[e]
    ·simp only[e,if_false,Function.comp_def,List.getElem?_cons_succ,Bool.false_eq_true]
     have:=ih (o+1)
     rw[show(fun i:Nat=>(ys[i]?).bind fun x=>if p x=true then some (some ((o+(i+1):Nat):Int)) else none)=fun i:Nat=>(ys[i]?).bind fun x=>if p x=true then some (some ((o+1+i:Nat):Int)) else none from by funext i;rw[show o+(i+1)=o+1+i by omega]]
     rw[this]
     cases ys.findIdx? p<;>simp;omega
  have:=key xs 0
  simp only[Nat.zero_add] at this
  rw[this]
  unfold JW
  cases xs.findIdx? p<;>rfl
 ·rw[hs kb i hi,List.getElem?_eq_getElem hi]
  simp only[Option.bind_some]
  by_cases e:p xs[i]=true<;>simp[e]
theorem zbq{α:Type}(xs:List α)(p:α→Bool):((List.range xs.length).all fun i=>((xs[i]?).map p).getD true)=xs.all p:=by
 rw[Bool.eq_iff_iff,List.all_eq_true,List.all_eq_true]
 constructor
 ·intro H x hx
  obtain⟨i,hi,rfl⟩:=List.mem_iff_getElem.1 hx
  have:=H i (List.mem_range.2 hi)
  rw[List.getElem?_eq_getElem hi] at this
  exact this
 ·intro H i hi
  have hi:=List.mem_range.1 hi
  rw[List.getElem?_eq_getElem hi]
  exact H _ (List.getElem_mem hi)
theorem zc2{α R:Type}(xs:List α)(p:α→Bool)(r k:Option R){f:(Int→Option R)→Int→Option R}(hn:xs.length≤1152921504606846976)
  (hs:∀kb (i:Nat) (hi:i < xs.length),f kb (i:Int)=if p xs[i]=true then r else kb ((i+1:Nat):Int)) (he:∀kb,f kb (xs.length:Int)=k):iter f FU 0=if xs.any p=true then r else k:=by
 rw[Qn (s0:=(0:Int)) (fun i=>(i:Int)) (fun i=>((xs[i]?).map fun x=>!p x).getD true) r k xs.length hn (fun kb i hi=> ?_) (fun kb=>he kb) rfl,zbq xs fun x=>!p x]
 ·cases h:xs.any p with
  |true=>
   have:(xs.all fun x=>!p x)=false:=by
    rw[List.all_eq_false];obtain⟨x,hx,hp⟩:=List.any_eq_true.1 h;exact⟨x,hx,by simp[hp]⟩
   simp[this]
  |false=>
   have:(xs.all fun x=>!p x)=true:=by
    rw[List.all_eq_true];intro x hx;rw[List.any_eq_false] at h;simp[h x hx]
   simp[this]
 ·rw[hs kb i hi,List.getElem?_eq_getElem hi]
  cases h:p xs[i]<;>simp[h]
theorem zda{α R:Type}(xs:List α)(p:α→Bool)(r k:Option R){f:(Int→Option R)→Int→Option R}(hn:xs.length≤1152921504606846976)
  (hs:∀kb (i:Nat) (hi:i < xs.length),f kb (i:Int)=if p xs[i]=true then kb ((i+1:Nat):Int) else r) (he:∀kb,f kb (xs.length:Int)=k):iter f FU 0=if xs.all p=true then k else r:=by
 rw[Qn (s0:=(0:Int)) (fun i=>(i:Int)) (fun i=>((xs[i]?).map p).getD true) r k xs.length hn (fun kb i hi=> ?_) (fun kb=>he kb) rfl,zbq xs p]
 rw[hs kb i hi,List.getElem?_eq_getElem hi]
 rfl
def Qk{α:Type}(f:α→Nat):List α→Nat
 |[]=>0
 |x::xs=>f x+Qk f xs
theorem kf{α:Type}(f:α→Nat):∀(xs ys:List α),Qk f (xs++ys)=Qk f xs+Qk f ys
 |[],ys=>by simp[Qk]
 |x::xs,ys=>by simp[Qk,kf f xs ys];omega
theorem zem{α:Type}(f:α→Nat){xs:List α}{i:Nat}(hi:i < xs.length):Qk f (xs.take (i+1))=Qk f (xs.take i)+f xs[i]:=by
 rw[List.take_succ_eq_append_getElem hi,kf]
 simp[Qk]
theorem zd8{α:Type}(f:α→Nat)(xs:List α)(i:Nat):Qk f (xs.take i)≤Qk f xs:=by
 have:=kf f (xs.take i) (xs.drop i)
 rw[List.take_append_drop] at this
 omega
theorem zcy{α:Type}(f:α→Nat){xs:List α}{i:Nat}(hi:i < xs.length):f xs[i]≤Qk f xs:=by
 have h1:=zem f hi
 have h2:=zd8 f xs (i+1)
 omega
theorem zaA{α:Type}{xs:List α}{i:Nat}(h:i≤xs.length):cut xs 0 (i:Int)=some (xs.take i):=by
 unfold cut
 rw[if_pos ⟨by omega,by omega,by omega⟩]
 simp
theorem zaN{α:Type}(p:α→Bool){xs:List α}{i:Nat}(hi:i < xs.length):(xs.take (i+1)).countP p=(xs.take i).countP p+if p xs[i]=true then 1 else 0:=by
 rw[List.take_succ_eq_append_getElem hi,List.countP_append]
 simp[List.countP_cons]
theorem zdr{α:Type}(p:α→Bool)(xs:List α)(i:Nat):(xs.take i).countP p≤xs.length:=by
 have h1:=List.countP_le_length (p:=p) (l:=xs.take i)
 have h2:(xs.take i).length≤xs.length:=by simp;omega
 omega
def zP(z lo hi:Int):Bool:=decide (lo≤z)&&decide (z≤hi)
theorem Z8(z lo hi:Int):jb z lo hi=some (zP z lo hi):=by
 unfold jb zP;by_cases h:lo≤z<;>simp[h]
theorem Yz(z lo hi:Int):jX z lo hi=some (zP z lo hi):=by
 unfold jX zP;by_cases h:lo≤z<;>simp[h]
theorem zeU(z:Int):Jg z=some (zP z 0 999):=by simp[Jg,Z8]
theorem zgv(z:Int):JO z=some (zP z 0 999):=by simp[JO,Yz]
theorem kF(z:Int):ZU z=some (zP z 0 1000000000):=by simp[ZU,Z8]
theorem XZ(z:Int):Z5 z=some (zP z 0 1000000000):=by simp[Z5,Yz]
def JR(a:qi):Bool:=decide (0≤a.Lo)&&decide (a.Lo < a.Hi)&&decide (a.Hi≤1000)
theorem K7(a:qi):QI a=some (JR a):=by
 unfold QI JR;by_cases h:0≤a.Lo<;>by_cases h':a.Lo < a.Hi<;>simp[h,h']
theorem zaF(a:qi):QG a=some (JR a):=by
 unfold QG JR;by_cases h:0≤a.Lo<;>by_cases h':a.Lo < a.Hi<;>simp[h,h']
theorem zen(z:Int):QF z=some (zP z 0 3):=by simp[QF,Yz]
def ZV(cb:List Int)(c:Int×Int):Prop:=0≤c.1∧c.1≤(cb.length:Int)∧cb.length≤1048576
def yc{α:Type}(cb:List Int)(P:α→Prop)(m:Option (α×(Int×Int))):Prop:=∃x c,m=some (x,c)∧ZV cb c∧P x
theorem yc.bind{α β:Type}{cb:List Int}{P:α→Prop}{Q:β→Prop}{m:Option (α×(Int×Int))}{f:α×(Int×Int)→Option (β×(Int×Int))}(h:yc cb P m)(hf:∀x c,ZV cb c→P x→yc cb Q (f (x,c))):yc cb Q (m.bind f):=by
 obtain⟨x,c,rfl,hc,hp⟩:=h
 exact hf x c hc hp
theorem yc.some{α:Type}{cb:List Int}{P:α→Prop}{x:α}{c:Int×Int}(hc:ZV cb c)(hp:P x):yc cb P (some (x,c)):=⟨x,c,rfl,hc,hp⟩
theorem zgw(x y:Int)(k:Nat)(hk:(BitVec.ofInt 64 y).toNat=k)(hk':k < 9223372036854775808):0≤IntKind.wrap .i64 ((BitVec.ofInt (IntKind.bits .i64) x&&& BitVec.ofInt (IntKind.bits .i64) y).toNat:Int)∧IntKind.wrap .i64 ((BitVec.ofInt (IntKind.bits .i64) x&&& BitVec.ofInt (IntKind.bits .i64) y).toNat:Int)≤k:=by
 have h:(BitVec.ofInt (IntKind.bits .i64) x&&& BitVec.ofInt (IntKind.bits .i64) y).toNat≤k:=by
  rw[BitVec.toNat_and,←hk]
  exact Nat.and_le_right
 rw[w64 (by omega) (by omega)]
 omega
theorem zku(x:Int):0≤IntKind.wrap .i64 ((BitVec.ofInt (IntKind.bits .i64) x&&& BitVec.ofInt (IntKind.bits .i64) 255).toNat:Int)∧IntKind.wrap .i64 ((BitVec.ofInt (IntKind.bits .i64) x&&& BitVec.ofInt (IntKind.bits .i64) 255).toNat:Int)≤255:=zgw x 255 255 (by decide) (by decide)
theorem ko{cb:List Int}{c:Int×Int}(h:ZV cb c):yc cb (fun x=>0≤x∧x≤255) (ym cb c):=by
 obtain⟨h1,h2,h3⟩:=h
 unfold ym
 split
 ·rename_i hlt
  obtain⟨n,hn⟩:∃n:Nat,c.1=(n:Int):=⟨c.1.toNat,by omega⟩
  rw[hn,zX (show n < cb.length by omega)]
  simp only[Option.bind_some]
  refine yc.some ⟨?_,?_,h3⟩ (zku _)
  ·simp only;rw[w64 (by omega) (by omega)];omega
  ·simp only;rw[w64 (by omega) (by omega)];omega
 ·exact yc.some ⟨h1,h2,h3⟩ (zku _)
theorem jm{cb:List Int}{c:Int×Int}(h:ZV cb c)(n:Int):yc cb (fun x=>0≤x∧(0 < n→x < n)∧(n≤0→x=0)) (zC cb c n):=by
 unfold zC
 split
 ·exact yc.some h ⟨Int.le_refl _,fun h'=>by omega,fun _=>rfl⟩
 ·rename_i h0
  split
  ·refine(ko h).bind fun x c1 hc1 hx=> ?_
   rw[if_pos (by omega)]
   exact yc.some hc1 ⟨Int.tmod_nonneg _ hx.1,fun _=>Int.tmod_lt_of_pos _ (by omega),fun h'=>absurd h' h0⟩
  ·refine(ko h).bind fun x1 c1 hc1 hx1=>(ko hc1).bind fun x2 c2 hc2 hx2=>(ko hc2).bind fun x3 c3 hc3 hx3=>(ko hc3).bind fun x4 c4 hc4 hx4=> ?_
   rw[if_pos (by omega)]
   simp only at hx1 hx2 hx3 hx4 ⊢
   rw[w64 (n:=x1 * 16777216) (by omega) (by omega),w64 (n:=x2 * 65536) (by omega) (by omega),w64 (n:=x3 * 256) (by omega) (by omega),w64 (n:=x1 * 16777216+x2 * 65536) (by omega) (by omega),w64 (n:=x1 * 16777216+x2 * 65536+x3 * 256) (by omega) (by omega),w64 (n:=x1 * 16777216+x2 * 65536+x3 * 256+x4) (by omega) (by omega)]
   exact yc.some hc4 ⟨Int.tmod_nonneg _ (by omega),fun _=>Int.tmod_lt_of_pos _ (by omega),fun h'=>absurd h' h0⟩
theorem ke{cb:List Int}{c:Int×Int}(h:ZV cb c)(n:Int):yc cb (fun _=>True) (qw cb c n):=by
 unfold qw
 exact(jm h n).bind fun x c1 hc1 _=>yc.some hc1 trivial
def zgj(cb:List Int):Nat→Int
 |0=>IntKind.wrap .i64 (97097+(cb.length:Int))
 |i+1=>IntKind.wrap .i64 ((BitVec.ofInt (IntKind.bits .i64) (IntKind.wrap .i64 ((IntKind.wrap .i64 ((IntKind.wrap .i64 (zgj cb i * 131))+(IntKind.wrap .i64 ((cb[i]?).getD 0))))+7))&&& BitVec.ofInt (IntKind.bits .i64) 1073741823).toNat:Int)
theorem zfH(cb:List Int)(h:cb.length≤1048576):∃c,JT cb=some c∧ZV cb c:=by
 refine⟨(0,zgj cb (min cb.length 4000)),?_,by simp[ZV];exact h⟩
 unfold JT
 refine Ja (fun i=>(zgj cb i,(i:Int))) _ (min cb.length 4000) (by omega) (fun kb i hi=> ?_) (fun kb=> ?_) rfl
 ·have hi':i < cb.length:=by omega
  unfold Yi
  simp only
  rw[if_pos (by omega),if_pos (by omega),zX hi',yy i _ hi' (by omega)]
  simp only[Option.bind_some,zgj,List.getElem?_eq_getElem hi',Option.getD_some]
 ·unfold Yi Yh
  simp only
  split
  ·rw[if_neg (by omega)]
  ·rfl
theorem zeQ(cb:List Int)(h:cb.length≤1048576)(a:Int)(ha:2≤a):∃n,Jb cb a=some n∧2≤n∧n≤a:=by
 have h1:0≤Int.tdiv (cb.length:Int) 20:=Int.tdiv_nonneg (by omega) (by decide)
 have h2:Int.tdiv (cb.length:Int) 20≤(cb.length:Int):=by
  rw[Int.tdiv_eq_ediv_of_nonneg (by omega)];omega
 unfold Jb
 rw[w64 (n:=Int.tdiv (cb.length:Int) 20) (by omega) (by omega),w64 (by omega) (by omega)]
 split
 ·exact⟨_,rfl,by omega,by omega⟩
 ·exact⟨_,rfl,by omega,by omega⟩
theorem XG{S R:Type}{f:(S→Option R)→S→Option R}(I:Nat→S→Prop)(n:Nat)(hn:n≤1152921504606846976){s0:S}(h0:I 0 s0)(kK:Option R→Prop)
  (hs:∀i,i < n→∀s,I i s→∀kb,∃s',I (i+1) s'∧f kb s=kb s') (he:∀s,I n s→∀kb,kK (f kb s)):kK (iter f FU s0):=by
 have key:∀(d i m:Nat) (s:S),i+d=n→d < m→I i s→kK (iter f m s):=by
  intro d
  induction d with
  |zero=>
   intro i m s e hm hi
   have:i=n:=by omega
   subst this
   cases m with
   |zero=>omega
   |succ m=>exact he s hi _
  |succ d ih=>
   intro i m s e hm hi
   cases m with
   |zero=>omega
   |succ m=>
    obtain⟨s',h1,h2⟩:=hs i (by omega) s hi (iter f m)
    show kK (f (iter f m) s)
    rw[h2]
    exact ih (i+1) m s' (by omega) (by omega) h1
 exact key n 0 FU s0 (by omega) (by unfold FU;omega) h0
def znP(xs:List qj)(i:Nat):Bool:=match xs[i]? with
 |none=>true
 |some c=>zP c.Key 0 999&&zP c.Value 0 1000000000&&(i == 0||match xs[i - 1]? with|some p=>decide (p.Key < c.Key)|none=>true)
theorem zdh(z:Int):Ql z=some (zP z (-1) 1000000000):=by simp[Ql,Yz]
def YH(xs:List qj)(i:Nat):Bool:=match xs[i]? with
 |none=>true
 |some c=>zP c.Key 0 999&&zP c.Value (-1) 1000000000&&(i == 0||match xs[i - 1]? with|some p=>decide (p.Key < c.Key)|none=>true)
def Ze(xs:List qj):Bool:=decide (xs.length≤60)&&(List.range xs.length).all (YH xs)
theorem Ky(xs:List qj)(h:xs.length≤1048576):Zq xs=some (Ze xs):=by
 unfold Zq Ze
 split
 ·rename_i h1
  have:¬xs.length≤60:=by omega
  simp[this]
 ·rename_i h1
  have:xs.length≤60:=by omega
  rw[Qn (s0:=(0:Int)) (fun i=>(i:Int)) (YH xs) (some false) (some true) xs.length (by omega) (fun kb i hi=> ?_) (fun kb=> ?_) rfl]
  ·simp only[this,decide_true,Bool.true_and];split<;>simp_all
  ·unfold QQ yh YH
   simp only[zX hi,zeU,Z8,Option.bind_some,yy i _ hi (by omega),List.getElem?_eq_getElem hi]
   rw[if_pos (by omega)]
   cases zP xs[i].Key 0 999<;>simp
   cases zP xs[i].Value (-1) 1000000000<;>simp
   by_cases h0:0 < i
   ·have h2:IntKind.wrap .i64 ((i:Int) - 1)=((i - 1:Nat):Int):=by rw[w64 (by omega) (by omega)];omega
    have h3:i - 1 < xs.length:=by omega
    have h4:¬i=0:=by omega
    simp only[h0,if_true,h2,zX h3,Option.bind_some,List.getElem?_eq_getElem h3,h4,false_or]
    by_cases h5:xs[i].Key≤xs[i - 1].Key
    ·have:¬xs[i - 1].Key < xs[i].Key:=by omega
     simp[h5,this]
    ·have:xs[i - 1].Key < xs[i].Key:=by omega
     simp[h5,this]
   ·have h4:i=0:=by omega
    simp[h4]
  ·unfold QQ
   rw[if_neg (by omega)];rfl
theorem KI(xs:List qj)(h:xs.length≤1048576):Zp xs=some (Ze xs):=by
 unfold Zp Ze
 rw[Qn (s0:=(0:Int)) (fun i=>(i:Int)) (YH xs) (some false) (some (decide (xs.length≤60))) xs.length (by omega) (fun kb i hi=> ?_) (fun kb=> ?_) rfl]
 ·split<;>simp_all
 ·unfold QM yg YH
  simp only[zX hi,zgv,zdh,Option.bind_some,yy i _ hi (by omega),List.getElem?_eq_getElem hi]
  rw[if_pos (by omega)]
  cases zP xs[i].Key 0 999<;>simp
  cases zP xs[i].Value (-1) 1000000000<;>simp
  by_cases h0:0 < i
  ·have h2:IntKind.wrap .i64 ((i:Int) - 1)=((i - 1:Nat):Int):=by rw[w64 (by omega) (by omega)];omega
   have h3:i - 1 < xs.length:=by omega
   have h4:¬i=0:=by omega
   simp only[h0,if_true,h2,zX h3,Option.bind_some,List.getElem?_eq_getElem h3,h4,false_or]
   by_cases h5:xs[i].Key≤xs[i - 1].Key
   ·have:¬xs[i - 1].Key < xs[i].Key:=by omega
    simp[h5,this]
   ·have:xs[i - 1].Key < xs[i].Key:=by omega
    simp[h5,this]
  ·have h4:i=0:=by omega
   simp[h4]
 ·unfold QM QT
  rw[if_neg (by omega)]
  have:((xs.length:Int)≤60)↔xs.length≤60:=by omega
  simp[this]
theorem zfs{xs:List qj}(h:Ze xs=true){i:Nat}(hi:i < xs.length):-1≤xs[i].Value∧0≤xs[i].Key∧xs[i].Key≤999:=by
 unfold Ze at h
 simp only[Bool.and_eq_true,List.all_eq_true] at h
 have:=h.2 i (List.mem_range.2 hi)
 unfold YH zP at this
 rw[List.getElem?_eq_getElem hi] at this
 simp only[Bool.and_eq_true,decide_eq_true_eq] at this
 exact⟨this.1.2.1,this.1.1.1,this.1.1.2⟩
def jH(x:zf):Nat:=x.Reads.length+x.Writes.length
def zG(xs:(List zf)):Nat:=xs.length+Qk (fun y:zf=>jH y) xs
theorem yo{xs:(List zf)}(h:zG xs≤1048576):xs.length≤1048576∧∀i (hi:i < xs.length),jH (xs[i])≤1048576:=by
 unfold zG at h
 refine⟨by omega,fun i hi=> ?_⟩
 have:=zcy (fun y:zf=>jH y) hi
 omega
def YK(xs:List qi):Bool:=decide (xs.length≤16)&&xs.all JR
theorem zcg(a:qi):Z6 a=some (!JR a):=by
 unfold Z6;simp[zaF]
theorem kU(xs:List qi)(h:xs.length≤1048576):qg xs=some (xs.any fun c=>!JR c):=by
 unfold qg qZ
 rw[JY xs (fun c=>!JR c) (by omega) (fun kb i hi=> ?_) (fun kb=> ?_)]
 ·simp[JF]
 ·unfold qS
  simp only[zX hi,zcg,Option.bind_some,yy i _ hi (by omega)]
  rw[if_pos (by omega)]
 ·unfold qS
  rw[if_neg (by omega)];rfl
theorem zfF{α:Type}(p:α→Bool)(xs:List α):(xs.any fun c=>!p c)= !xs.all p:=by rw[List.any_eq_not_all_not];simp
theorem zeg(xs:List qi)(h:xs.length≤1048576):ZT xs=some (YK xs):=by
 unfold ZT YK
 simp only[kU _ h,zfF,Option.bind_some]
 by_cases c:xs.length≤16
 ·rw[if_pos (by omega)];simp[c]
 ·rw[if_neg (by omega)];simp[c]
def Qq(xs:List zf)(i:Nat):Bool:=match xs[i]? with
 |some s=>zP s.Group 0 3&&(i == 0||(match xs[i - 1]? with|some p=>decide (p.Group < s.Group)|none=>true))&&YK s.Reads&&Ze s.Writes&&zP s.Vote 0 2
 |none=>true
def qq(xs:List zf):Bool:=decide (xs.length≤4)&&(List.range xs.length).all (Qq xs)
theorem zb7{R:Type}(s:zf)(kx:Unit→Option Bool)(h:s.Reads.length≤1048576):iter (Zw s kx) FU 0=if s.Reads.all JR=true then kx () else some false:=by
 refine zda s.Reads JR (some false) (kx ()) (by omega) (fun kb i hi=> ?_) (fun kb=> ?_)
 ·unfold Zw
  simp only[zX hi,K7,Option.bind_some,yy i _ hi (by omega)]
  rw[if_pos (by omega)]
 ·unfold Zw
  rw[if_neg (by omega)]
theorem Jt(xs:List zf)(h:zG xs≤1048576):Zr xs=some (qq xs):=by
  obtain⟨hl,hs⟩:=yo h
  unfold Zr qq
  split
  · rename_i h1
    have:¬xs.length≤4:=by omega
    simp[this]
  · rename_i h1
    have h4:xs.length≤4:=by omega
    rw[Qn (s0:=(0:Int)) (fun i=>(i:Int)) (Qq xs) (some false) (some true) xs.length (by omega) (fun kb i hi=> ?_) (fun kb=> ?_) rfl]
    · simp only[h4,decide_true,Bool.true_and];split<;>simp_all
    · have hsi := hs i hi
      have hr:xs[i].Reads.length≤1048576:=by unfold jH at hsi;omega
      have hw:xs[i].Writes.length≤1048576:=by unfold jH at hsi;omega
      unfold QL qL Qq
      simp only[zX hi,Z8,Ky _ hw,zb7 (R:=Bool) _ _ hr,qJ,Option.bind_some,yy i _ hi (by omega),List.getElem?_eq_getElem hi,YK]
      rw[if_pos (by omega)]
      have e16:(16 < (xs[i].Reads.length:Int))↔¬xs[i].Reads.length≤16:=by omega
      simp only[e16]
      cases zP xs[i].Group 0 3<;>simp
      cases hwg:Ze xs[i].Writes<;>cases hv:zP xs[i].Vote 0 2<;>by_cases c16:xs[i].Reads.length≤16<;>cases hall:xs[i].Reads.all JR<;>
        (by_cases h0:0 < i
         · have h2 : IntKind.wrap .i64 ((i : Int) - 1) = ((i - 1 : Nat) : Int) := by rw [w64 (by omega) (by omega)]; omega
           have h3:i - 1 < xs.length:=by omega
           have h4:¬i=0:=by omega
           have h16:¬16 < xs[i].Reads.length↔xs[i].Reads.length≤16:=by omega
           simp only[h0,if_true,h2,zX h3,Option.bind_some,List.getElem?_eq_getElem h3,h4,false_or]
           by_cases h5:xs[i].Group≤xs[i - 1].Group
           · have : ¬ xs[i - 1].Group < xs[i].Group := by omega
             simp[h5,this]
           · have : xs[i - 1].Group < xs[i].Group := by omega
             first
             |(simp[h5,this,c16];done)
             |(simp[h5,this,c16];intro hh;omega)
             |(simp[h5,this,c16,hall];done)
         · have h4 : i = 0 := by omega
           subst h4
           first
           |(simp[c16];done)
           |(simp[c16];intro hh;omega)
           |(simp[c16,hall];done))
    · unfold QL
      rw[if_neg (by omega)];rfl
theorem xG(xs:List zf)(h:zG xs≤1048576):Zt xs=some (qq xs):=by
  obtain⟨hl,hs⟩:=yo h
  unfold Zt qq
  rw[Qn (s0:=(0:Int)) (fun i=>(i:Int)) (Qq xs) (some false) (some (decide (xs.length≤4))) xs.length (by omega) (fun kb i hi=> ?_) (fun kb=> ?_) rfl]
  · split<;>simp_all
  · have hsi := hs i hi
    have hr:xs[i].Reads.length≤1048576:=by unfold jH at hsi;omega
    have hw:xs[i].Writes.length≤1048576:=by unfold jH at hsi;omega
    unfold QW qV Qq
    simp only[zX hi,zen,Yz,KI _ hw,zeg _ hr,Option.bind_some,yy i _ hi (by omega),List.getElem?_eq_getElem hi]
    rw[if_pos (by omega)]
    cases zP xs[i].Group 0 3<;>simp
    cases hwg:Ze xs[i].Writes<;>cases hv:zP xs[i].Vote 0 2<;>cases hrg:YK xs[i].Reads<;>
      (by_cases h0:0 < i
       · have h2 : IntKind.wrap .i64 ((i : Int) - 1) = ((i - 1 : Nat) : Int) := by rw [w64 (by omega) (by omega)]; omega
         have h3:i - 1 < xs.length:=by omega
         have h4:¬i=0:=by omega
         simp only[h0,if_true,h2,zX h3,Option.bind_some,List.getElem?_eq_getElem h3,h4,false_or]
         by_cases h5:xs[i].Group≤xs[i - 1].Group
         · have : ¬ xs[i - 1].Group < xs[i].Group := by omega
           simp[h5,this]
         · have : xs[i - 1].Group < xs[i].Group := by omega
           simp[h5,this]
       · have h4 : i = 0 := by omega
         subst h4
         simp)
  · unfold QW QP
    rw[if_neg (by omega)]
    have:((xs.length:Int)≤4)↔xs.length≤4:=by omega
    simp[this]
theorem Qr{xs:List zf}(H:qq xs=true):xs.length≤4∧∀s∈xs,zP s.Vote 0 2=true:=by
 unfold qq at H
 simp only[Bool.and_eq_true,decide_eq_true_eq,List.all_eq_true,List.mem_range] at H
 refine⟨H.1,fun s hs=> ?_⟩
 obtain⟨i,hi,rfl⟩:=List.mem_iff_getElem.1 hs
 have h:=H.2 i hi
 unfold Qq at h
 simp only[List.getElem?_eq_getElem hi,Bool.and_eq_true] at h
 exact h.2
def js(x:zi):Nat:=zG x.Shares
def qb(xs:(List zi)):Nat:=xs.length+Qk (fun y:zi=>js y) xs
theorem Zb{xs:(List zi)}(h:qb xs≤1048576):xs.length≤1048576∧∀i (hi:i < xs.length),js (xs[i])≤1048576:=by
 unfold qb at h
 refine⟨by omega,fun i hi=> ?_⟩
 have:=zcy (fun y:zi=>js y) hi
 omega
def zH(x:zj):Nat:=qb x.Recs+x.Order.length
def qX(z:Int)(s:zf):Bool:=decide (s.Vote=z)
theorem Jv(xs:List zf)(z:Int)(h:xs.length≤1048576):jP xs z=some ((xs.countP (qX z):Nat):Int):=by
 unfold jP
 refine Ja (s0:=((0:Int),(0:Int))) (fun i=>((((xs.take i).countP (qX z):Nat):Int),(i:Int))) _ xs.length (by omega) (fun kb i hi=> ?_) (fun kb=> ?_) (by simp)
 ·unfold QV
  have hc:=zdr (qX z) xs i
  simp only[zX hi,Option.bind_some,yy i _ hi (by omega),zaN _ hi]
  rw[if_pos (by omega),w64 (by omega) (by omega)]
  by_cases c:xs[i].Vote=z
  ·simp[c,qX]
  ·simp[c,qX]
 ·unfold QV QY
  rw[if_neg (by simp)]
  simp
theorem zb3(xs:List zf)(z:Int)(h:xs.length≤1048576):j6 xs z=some (xs.any (qX z)):=by
 unfold j6 qT jk
 rw[JY xs (qX z) (by omega) (fun kb i hi=> ?_) (fun kb=> ?_)]
 ·simp[JF]
 ·unfold jc JI
  simp only[zX hi,Option.bind_some,yy i _ hi (by omega)]
  rw[if_pos (by omega)]
  rfl
 ·unfold jc
  rw[if_neg (by omega)];rfl
theorem zbM(z:Int):QS z=some (zP z 1 1000000000):=by simp[QS,Yz]
def jO(r:zi):Bool:=zP r.Client 0 1000000000&&zP r.Req 1 1000000000&&qq r.Shares&&
 (if r.State=1 then decide (r.Shares.length=0) else if r.State=2 then r.Shares.any (qX 0)&&!r.Shares.any (qX 2) else if r.State=3 then !r.Shares.any (qX 0)&&!r.Shares.any (qX 2) else decide (r.State=4))
theorem zb5(z:Int)(xs:List zf):(0 < ((xs.countP (qX z):Nat):Int))↔xs.any (qX z)=true:=by
 rw[List.any_eq_true]
 have:=List.countP_pos_iff (p:=qX z) (l:=xs)
 constructor
 ·intro h;exact this.1 (by omega)
 ·intro h;have:=this.2 h;omega
theorem zaq(z:Int)(xs:List zf):(((xs.countP (qX z):Nat):Int)=0)↔xs.any (qX z)=false:=by
 have h1:=zb5 z xs
 constructor
 ·intro h
  cases ha:xs.any (qX z) with
  |true=>have:=h1.2 ha;omega
  |false=>rfl
 ·intro h
  have:¬(0 < ((xs.countP (qX z):Nat):Int)):=fun e=>by have:=h1.1 e;rw[h] at this;cases this
  omega
theorem zgl{xs:List zf}(H:∀s∈xs,zP s.Vote 0 2=true):(((xs.countP (qX 1):Nat):Int)=(xs.length:Int))↔(xs.any (qX 0)=false∧xs.any (qX 2)=false):=by
 have e:(((xs.countP (qX 1):Nat):Int)=(xs.length:Int))↔xs.countP (qX 1)=xs.length:=by omega
 rw[e,List.countP_eq_length,List.any_eq_false,List.any_eq_false]
 constructor
 ·intro h
  refine⟨fun s hs=> ?_,fun s hs=> ?_⟩<;>have:=h s hs<;>unfold qX at this ⊢<;>simp at this ⊢<;>omega
 ·intro⟨h1,h2⟩ s hs
  have a:=h1 s hs;have b:=h2 s hs;have c:=H s hs
  unfold qX zP at *
  simp at a b c ⊢
  omega
theorem zdj(r:zi)(h:zG r.Shares≤1048576):Qm r=some (jO r):=by
 obtain⟨hl,_⟩:=yo h
 unfold Qm yT jO
 simp only[kF,Z8,Jt _ h,Jv _ _ hl,Option.bind_some,zb5,zaq]
 have hv:qq r.Shares=true→_:=fun hg=>zgl (Qr hg).2
 generalize r.Shares.any (qX 0)=b0 at hv ⊢
 generalize r.Shares.any (qX 2)=b2 at hv ⊢
 generalize qq r.Shares=b4 at hv ⊢
 cases zP r.Client 0 1000000000
 ·simp
 cases zP r.Req 1 1000000000
 ·simp
 cases b4
 ·simp
 simp only[hv rfl]
 by_cases c1:r.State=1
 ·simp[c1]
 ·by_cases c2:r.State=2
  ·cases b0<;>cases b2<;>simp[c2]
  ·by_cases c3:r.State=3
   ·cases b0<;>cases b2<;>simp[c3]
   ·simp[c1,c2,c3]
theorem zgd(r:zi)(h:zG r.Shares≤1048576):JS r=some (jO r):=by
 obtain⟨hl,_⟩:=yo h
 unfold JS Qo jO
 simp only[XZ,zbM,xG _ h,zb3 _ _ hl,Option.bind_some]
 generalize r.Shares.any (qX 0)=b0
 generalize r.Shares.any (qX 2)=b2
 generalize qq r.Shares=b4
 cases zP r.Client 0 1000000000
 ·simp
 cases zP r.Req 1 1000000000
 ·simp
 cases b4
 ·simp
 by_cases c1:r.State=1
 ·simp[c1]
 ·by_cases c2:r.State=2
  ·cases b0<;>cases b2<;>simp[c2]
  ·by_cases c3:r.State=3
   ·cases b0<;>cases b2<;>simp[c3]
   ·simp[c1,c2,c3]
def ZJ(r q:zi):Bool:=decide (q.Client=r.Client)&&decide (q.Req=r.Req)
def YY(xs:List zi)(i:Nat):Bool:=match xs[i]? with
 |some r=>decide (r.Tx=(i:Int)+1)&&jO r&&!(xs.take i).any (ZJ r)
 |none=>true
def Jc(r:zi):Bool:=decide (r.State=3)
def ZB(rs:List zi)(os:List Int)(i:Nat):Bool:=match os[i]? with
 |some o=>zP o 1 rs.length&&(match rs[(o - 1).toNat]? with|some r=>Jc r|none=>false)&&!(os.take i).any (fun z=>decide (o=z))
 |none=>true
def zS(c:zj):Bool:=decide (c.Recs.length≤60)&&(List.range c.Recs.length).all (YY c.Recs)&&(List.range c.Order.length).all (ZB c.Recs c.Order)&&decide (c.Recs.countP Jc=c.Order.length)
theorem zcQ(xs:List Int)(z:Int)(h:xs.length≤1048576):Zc xs z=some (JW (fun y=>decide (z=y)) xs):=by
 unfold Zc
 rw[JY xs (fun y=>decide (z=y)) (by omega) (fun kb i hi=> ?_) (fun kb=> ?_)]
 ·unfold ZP
  simp only[zX hi,Option.bind_some,yy i _ hi (by omega)]
  rw[if_pos (by omega)]
  simp
 ·unfold ZP
  rw[if_neg (by omega)];rfl
theorem zaG(xs:List Int)(z:Int)(h:xs.length≤1048576):yb xs z=some (xs.any fun y=>decide (z=y)):=by
 unfold yb
 simp[zcQ _ _ h,JF]
theorem zff(xs:List Int)(z:Int)(h:xs.length≤1048576):Jd xs z=some (xs.any fun y=>decide (z=y)):=by
 unfold Jd
 rw[zc2 xs (fun y=>decide (z=y)) (some true) (some false) (by omega) (fun kb i hi=> ?_) (fun kb=> ?_)]
 ·cases xs.any fun y=>decide (z=y)<;>simp
 ·unfold JP
  simp only[zX hi,Option.bind_some,yy i _ hi (by omega)]
  rw[if_pos (by omega)]
  by_cases c:xs[i]=z
  ·simp[c]
  ·have:¬z=xs[i]:=fun e=>c e.symm
   simp[c,this]
 ·unfold JP
  rw[if_neg (by omega)];rfl
theorem Xl(xs:List zi)(r:zi)(h:xs.length≤1048576):qm xs r=some (xs.any (ZJ r)):=by
 unfold qm jl
 rw[JY xs (ZJ r) (by omega) (fun kb i hi=> ?_) (fun kb=> ?_)]
 ·simp[JF]
 ·unfold jd QU ZJ
  simp only[zX hi,Option.bind_some,yy i _ hi (by omega)]
  rw[if_pos (by omega)]
  by_cases c:xs[i].Client=r.Client<;>simp[c]
 ·unfold jd
  rw[if_neg (by omega)];rfl
theorem jw(c:zj)(h:zH c≤1048576):jh c=some (zS c):=by
 have hR:qb c.Recs≤1048576:=by unfold zH at h;omega
 have hO:c.Order.length≤1048576:=by unfold zH at h;omega
 obtain⟨hl,hs⟩:=Zb hR
 unfold jh zS
 split
 ·rename_i h1
  have:¬c.Recs.length≤60:=by omega
  simp[this]
 ·rename_i h1
  have h6:c.Recs.length≤60:=by omega
  rw[Qn (s0:=((0:Int),(0:Int))) (fun i=>((((c.Recs.take i).countP Jc:Nat):Int),(i:Int))) (YY c.Recs) (some false) (some ((List.range c.Order.length).all (ZB c.Recs c.Order)&&decide (c.Recs.countP Jc=c.Order.length))) c.Recs.length (by omega) (fun kb i hi=> ?_) (fun kb=> ?_) (by simp)]
  ·generalize (List.range c.Recs.length).all (YY c.Recs)=b1
   generalize (List.range c.Order.length).all (ZB c.Recs c.Order)=b2
   cases b1<;>simp[h6]
  ·have hsi:zG c.Recs[i].Shares≤1048576:=by have:=hs i hi;unfold js at this;omega
   have hc:=zdr Jc c.Recs i
   unfold QN yW YY
   simp only[zX hi,zgd _ hsi,zaA (Nat.le_of_lt hi),Xl (c.Recs.take i) _ (by simp;omega),Option.bind_some,yy i _ hi (by omega),List.getElem?_eq_getElem hi,zaN _ hi]
   rw[if_pos (by omega),w64 (by omega) (by omega)]
   have e1:((i+1:Nat):Int)=(i:Int)+1:=by omega
   rw[e1]
   generalize jO c.Recs[i]=b1
   generalize (List.take i c.Recs).any (ZJ c.Recs[i])=b2
   by_cases c1:c.Recs[i].Tx=(i:Int)+1<;>cases b1<;>cases b2<;>by_cases c3:c.Recs[i].State=3<;>simp[c1,c3,Jc]
  ·unfold QN Jp
   rw[if_neg (by omega)]
   rw[Qn (s0:=(0:Int)) (fun i=>(i:Int)) (ZB c.Recs c.Order) (some false) (some (decide (c.Recs.countP Jc=c.Order.length))) c.Order.length (by omega) (fun kb i hi=> ?_) (fun kb=> ?_) rfl]
   ·generalize (List.range c.Order.length).all (ZB c.Recs c.Order)=b2
    cases b2<;>simp
   ·unfold Jk yV ZB
    simp only[zX hi,Yz,zaA (Nat.le_of_lt hi),zaG (c.Order.take i) _ (by simp;omega),Option.bind_some,yy i _ hi (by omega),List.getElem?_eq_getElem hi]
    rw[if_pos (by omega)]
    cases hw:zP c.Order[i] 1 (c.Recs.length:Int) with
    |false=>simp
    |true=>
     have hw':1≤c.Order[i]∧c.Order[i]≤c.Recs.length:=by unfold zP at hw;simpa using hw
     have hk:(c.Order[i] - 1).toNat < c.Recs.length:=by omega
     have e2:IntKind.wrap .i64 (c.Order[i] - 1)=(((c.Order[i] - 1).toNat:Nat):Int):=by rw[w64 (by omega) (by omega)];omega
     simp only[if_true,e2,zX hk,Option.bind_some,List.getElem?_eq_getElem hk,Bool.true_and,Jc]
     generalize (List.take i c.Order).any (fun y=>decide (c.Order[i]=y))=b2
     generalize c.Recs[(c.Order[i] - 1).toNat].State=z
     by_cases c3:z=3<;>cases b2<;>simp[c3]
   ·unfold Jk Jm
    rw[if_neg (by omega)]
    simp
    omega
theorem zaX(c:zj)(r:zi)(cnt:Int)(kx:Unit→Option Bool)(i:Nat)(hi:i < c.Recs.length)(hl:c.Recs.length≤1048576):
  iter (ZY (cnt,(i:Int)) c r kx) FU 0=if (c.Recs.take i).any (ZJ r)=true then some false else kx ():=by
 have hn:(c.Recs.take i).length=i:=by simp;omega
 refine zc2 (c.Recs.take i) (ZJ r) (some false) (kx ()) (by omega) (fun kb j hj=> ?_) (fun kb=> ?_)
 ·have hj':j < c.Recs.length:=by omega
  unfold ZY Z7 ZJ
  simp only[zX hj',Option.bind_some,yy j _ hj' (by omega),List.getElem_take]
  rw[if_pos (by omega)]
  by_cases c1:c.Recs[j].Client=r.Client<;>by_cases c2:c.Recs[j].Req=r.Req<;>simp[c1,c2]
 ·unfold ZY
  rw[if_neg (by omega)]
theorem ql(c:zj)(h:zH c≤1048576):jv c=some (zS c):=by
 have hR:qb c.Recs≤1048576:=by unfold zH at h;omega
 have hO:c.Order.length≤1048576:=by unfold zH at h;omega
 obtain⟨hl,hs⟩:=Zb hR
 have hcn:c.Recs.countP Jc≤c.Recs.length:=List.countP_le_length
 unfold jv Qi zS
 split
 ·rename_i h1
  have:¬c.Recs.length≤60:=by omega
  simp[this]
 ·rename_i h1
  have h6:c.Recs.length≤60:=by omega
  by_cases hb:60 < (c.Order.length:Int)
  ·have:¬c.Recs.countP Jc=c.Order.length:=by omega
   simp[hb,this]
  simp only[hb,decide_false,Bool.false_eq_true,if_false]
  rw[Qn (s0:=((0:Int),(0:Int))) (fun i=>((((c.Recs.take i).countP Jc:Nat):Int),(i:Int))) (YY c.Recs) (some false) (some ((List.range c.Order.length).all (ZB c.Recs c.Order)&&decide (c.Recs.countP Jc=c.Order.length))) c.Recs.length (by omega) (fun kb i hi=> ?_) (fun kb=> ?_) (by simp)]
  ·generalize (List.range c.Recs.length).all (YY c.Recs)=b1
   generalize (List.range c.Order.length).all (ZB c.Recs c.Order)=b2
   cases b1<;>simp[h6]
  ·have hsi:zG c.Recs[i].Shares≤1048576:=by have:=hs i hi;unfold js at this;omega
   have hc:=zdr Jc c.Recs i
   unfold Q0 ZX YY
   simp only[zX hi,zdj _ hsi,zaX c _ _ _ i hi hl,Option.bind_some,yy i _ hi (by omega),List.getElem?_eq_getElem hi,zaN _ hi]
   unfold QZ ye
   simp only[yy i _ hi (by omega)]
   rw[if_pos (by omega),w64 (by omega) (by omega)]
   have e1:((i+1:Nat):Int)=(i:Int)+1:=by omega
   rw[e1]
   generalize jO c.Recs[i]=b1
   generalize (List.take i c.Recs).any (ZJ c.Recs[i])=b2
   by_cases c1:c.Recs[i].Tx=(i:Int)+1<;>cases b1<;>cases b2<;>by_cases c3:c.Recs[i].State=3<;>simp[c1,c3,Jc]
  ·unfold Q0 Ji
   rw[if_neg (by omega)]
   rw[Qn (s0:=(0:Int)) (fun i=>(i:Int)) (ZB c.Recs c.Order) (some false) (some (decide (c.Recs.countP Jc=c.Order.length))) c.Order.length (by omega) (fun kb i hi=> ?_) (fun kb=> ?_) rfl]
   ·generalize (List.range c.Order.length).all (ZB c.Recs c.Order)=b2
    cases b2<;>simp
   ·unfold Jo yQ ZB
    simp only[zX hi,Z8,zaA (Nat.le_of_lt hi),zff (c.Order.take i) _ (by simp;omega),Option.bind_some,yy i _ hi (by omega),List.getElem?_eq_getElem hi]
    rw[if_pos (by omega)]
    cases hw:zP c.Order[i] 1 (c.Recs.length:Int) with
    |false=>simp
    |true=>
     have hw':1≤c.Order[i]∧c.Order[i]≤c.Recs.length:=by unfold zP at hw;simpa using hw
     have hk:(c.Order[i] - 1).toNat < c.Recs.length:=by omega
     have e2:IntKind.wrap .i64 (c.Order[i] - 1)=(((c.Order[i] - 1).toNat:Nat):Int):=by rw[w64 (by omega) (by omega)];omega
     simp only[if_true,e2,zX hk,Option.bind_some,List.getElem?_eq_getElem hk,Bool.true_and,Jc]
     generalize (List.take i c.Order).any (fun y=>decide (c.Order[i]=y))=b2
     generalize c.Recs[(c.Order[i] - 1).toNat].State=z
     by_cases c3:z=3<;>cases b2<;>simp[c3]
   ·unfold Jo Jn
    rw[if_neg (by omega)]
    simp
    omega
theorem zcm(xs:List Int)(h:xs.length≤1048576):yX xs=some xs:=by
 unfold yX j9
 split<;>first|(simp;done)|(simp;omega)
theorem za3(xs:List qi)(h:xs.length≤1048576):yu xs=some xs:=by
 unfold yu jM
 split<;>first|(simp;done)|(simp;omega)
theorem zaW(xs:List qj)(h:xs.length≤1048576):yp xs=some xs:=by
 unfold yp jL
 split<;>first|(simp;done)|(simp;omega)
theorem QK{α:Type}{xs:List α}{i:Nat}{a:α}(h:i < xs.length):idx (xs.set i a) (i:Int)=some a:=by
 rw[zX (by simpa using h)]
 simp
theorem YV(xs:List zf)(h:zG xs≤1048576):yR xs=some xs:=by
 obtain⟨hl,hs⟩:=yo h
 unfold yR
 refine Ja (fun i=>(xs.take i,(i:Int))) _ xs.length (by omega) (fun kb i hi=> ?_) (fun kb=> ?_) (by simp)
 ·have hsz:=hs i hi
  unfold jH at hsz
  unfold Qz
  simp only[zX hi,Option.bind_some,yy i _ hi (by omega)]
  rw[if_pos (by omega),if_pos (by omega),if_pos (by omega),if_pos (by simp;omega),List.take_succ_eq_append_getElem hi]
 ·unfold Qz Qv
  rw[if_neg (Int.lt_irrefl _),List.take_length]
theorem XD(xs:List zf)(h:zG xs≤1048576):yD xs=some xs:=by
 obtain⟨hl,hs⟩:=yo h
 unfold yD
 refine Ja (fun i=>(xs.take i,(i:Int))) _ xs.length (by omega) (fun kb i hi=> ?_) (fun kb=> ?_) (by simp)
 ·have hsz:=hs i hi
  unfold jH at hsz
  unfold Qh
  simp only[zX hi,Option.bind_some,yy i _ hi (by omega),za3 xs[i].Reads (by omega),zaW xs[i].Writes (by omega)]
  rw[if_pos (by omega),if_pos (by simp;omega),List.take_succ_eq_append_getElem hi]
 ·unfold Qh Qd
  rw[if_neg (Int.lt_irrefl _),List.take_length]
theorem Zs(c:zj)(h:zH c≤1048576):yq c=some c:=by
 have hR:qb c.Recs≤1048576:=by unfold zH at h;omega
 have hO:c.Order.length≤1048576:=by unfold zH at h;omega
 obtain⟨hl,hs⟩:=Zb hR
 unfold yq
 rw[if_pos (by omega)]
 refine Ja (fun i=>((i:Int),c.Recs.take i)) _ c.Recs.length (by omega) (fun kb i hi=> ?_) (fun kb=> ?_) (by simp)
 ·have hsz:=hs i hi
  unfold js at hsz
  unfold Jj
  simp only[zX hi,Option.bind_some,yy i _ hi (by omega),YV c.Recs[i].Shares hsz]
  rw[if_pos (by omega),if_pos (by simp;omega),List.take_succ_eq_append_getElem hi]
 ·unfold Jj Jr
  rw[if_neg (Int.lt_irrefl _),List.take_length]
theorem Ys(c:zj)(h:zH c≤1048576):jW c=some c:=by
 have hR:qb c.Recs≤1048576:=by unfold zH at h;omega
 have hO:c.Order.length≤1048576:=by unfold zH at h;omega
 obtain⟨hl,hs⟩:=Zb hR
 unfold jW
 simp only[zcm _ hO,Option.bind_some]
 refine Ja (fun i=>((i:Int),c.Recs.take i)) _ c.Recs.length (by omega) (fun kb i hi=> ?_) (fun kb=> ?_) (by simp)
 ·have hsz:=hs i hi
  unfold js at hsz
  unfold Qw
  simp only[zX hi,Option.bind_some,yy i _ hi (by omega),XD c.Recs[i].Shares hsz]
  rw[if_pos (by omega),if_pos (by simp;omega),List.take_succ_eq_append_getElem hi]
 ·unfold Qw Qy
  rw[if_neg (Int.lt_irrefl _),List.take_length]
theorem XO{α:Type}(f:α→Nat):∀(xs:List α) (i:Nat) (y:α),(∀x,xs[i]? =some x→f y=f x)→Qk f (xs.set i y)=Qk f xs
 |[],_,_,_=>rfl
 |x::xs,0,y,h=>by simp[Qk,h x rfl]
 |x::xs,i+1,y,h=>by
  simp only[List.set_cons_succ,Qk]
  rw[XO f xs i y (fun z hz=>h z (by simpa using hz))]
theorem kj(xs:List zi)(i:Nat)(y:zi)(h:∀x,xs[i]? =some x→js y=js x):qb (xs.set i y)=qb xs:=by
 unfold qb
 rw[List.length_set,XO _ xs i y h]
def jD(m:Nat)(x y:Option (zj×Int)):Prop:=∃r:zj×Int,x=some r∧y=some r∧qb r.1.Recs≤m∧r.1.Order.length≤m
theorem jD.zero{m:Nat}{z:Int}:jD m (some (zj.mk [] [],z)) (some (zj.mk [] [],z)):=⟨_,rfl,rfl,by simp[qb,Qk],by simp⟩
theorem jD.same{c:zj}{z:Int}(h:zH c≤1048576):jD 1048576 (some (c,z)) (some (c,z)):=by
 unfold zH at h
 exact⟨_,rfl,rfl,by simp only;omega,by simp only;omega⟩
theorem zaU{r:zi}(h:jO r=true):1≤r.State∧r.State≤4:=by
 unfold jO at h
 simp only[Bool.and_eq_true] at h
 have h:=h.2
 by_cases h1:r.State=1
 ·omega
 ·rw[if_neg h1] at h
  by_cases h2:r.State=2
  ·omega
  ·rw[if_neg h2] at h
   by_cases h3:r.State=3
   ·omega
   ·rw[if_neg h3] at h
    have:=of_decide_eq_true h
    omega
theorem ZE{c:zj}(H:zS c=true){i:Nat}(hi:i < c.Recs.length):jO c.Recs[i]=true:=by
 unfold zS at H
 simp only[Bool.and_eq_true,decide_eq_true_eq,List.all_eq_true,List.mem_range] at H
 have h:=H.1.1.2 i hi
 unfold YY at h
 simp only[List.getElem?_eq_getElem hi,Bool.and_eq_true,decide_eq_true_eq] at h
 exact h.1.2
theorem zfy{z:Int}(h:z≤4):JG z=some (decide (2 < z)):=by
 unfold JG
 by_cases h1:z=3
 ·subst h1;rfl
 ·rw[if_neg h1]
  congr 1
  rw[decide_eq_decide]
  omega
theorem zce(c:zj)(k:Int)(h:zH c≤1048576):jD 1048576 (qK c k) (ZZ c k):=by
 have hR:qb c.Recs≤1048576:=by unfold zH at h;omega
 have hO:c.Order.length≤1048576:=by unfold zH at h;omega
 obtain⟨hl,hs⟩:=Zb hR
 unfold qK ZZ j5
 simp only[ql _ h,jw _ h,Zs _ h,Ys _ h,Z8,Yz,Option.bind_some]
 cases hc:zS c with
 |false=>exact jD.zero
 |true=>
  simp only[if_true]
  have hw:zP k 1 (c.Recs.length:Int)=(decide (1≤k)&&decide (k≤(c.Recs.length:Int))):=rfl
  cases hw1:zP k 1 (c.Recs.length:Int) with
  |false=>
   simp only[Bool.false_eq_true,if_false]
   exact jD.same h
  |true=>
   have hw':1≤k∧k≤c.Recs.length:=by unfold zP at hw1;simpa using hw1
   have hk:(k - 1).toNat < c.Recs.length:=by omega
   have e5:IntKind.wrap .i64 (k - 1)=(((k - 1).toNat:Nat):Int):=by rw[w64 (by omega) (by omega)];omega
   have hst:=zaU (ZE hc hk)
   simp only[if_true,e5,zX hk,Option.bind_some,zfy hst.2,Int.toNat_natCast]
   by_cases c1:2 < c.Recs[(k - 1).toNat].State
   ·simp only[c1,decide_true,if_true]
    exact jD.same h
   ·simp only[c1,decide_false,Bool.false_eq_true,if_false]
    refine⟨_,rfl,rfl,?_,hO⟩
    simp only
    rw[kj c.Recs _ _ (fun x hx=>by
     rw[List.getElem?_eq_getElem hk,Option.some.injEq] at hx
     subst hx
     rfl)]
    exact hR
def Xu(k q:Int)(r:zi):Bool:=decide (r.Client=k)&&decide (r.Req=q)
def Z4(c:zj)(k q:Int):Int:=if zS c=true then JW (Xu k q) c.Recs+1 else 0
theorem XN(xs:List zi)(k q:Int)(h:xs.length≤1048576):qx xs k q=some (JW (Xu k q) xs):=by
 unfold qx
 rw[JY xs (Xu k q) (by omega) (fun kb i hi=> ?_) (fun kb=> ?_)]
 ·unfold qR Qf Xu
  simp only[zX hi,Option.bind_some,yy i _ hi (by omega)]
  rw[if_pos (by omega)]
  by_cases c:xs[i].Client=k<;>simp[c]
 ·unfold qR
  rw[if_neg (by omega)];rfl
theorem zcJ{α:Type}(p:α→Bool)(xs:List α):-1≤JW p xs∧JW p xs < xs.length:=by
 unfold JW
 cases h:xs.findIdx? p with
 |none=>simp;omega
 |some k=>
  rw[List.findIdx?_eq_some_iff_getElem] at h
  obtain⟨hk,_⟩:=h
  simp;omega
theorem zc9{α:Type}(xs:List α)(p:α→Bool)(g:Int→Int)(z:Int){f:(Int→Option Int)→Int→Option Int}(hn:xs.length≤1152921504606846976)
  (hs:∀kb (i:Nat) (hi:i < xs.length),f kb (i:Int)=if p xs[i]=true then some (g i) else kb ((i+1:Nat):Int)) (he:∀kb,f kb (xs.length:Int)=some z):iter f FU 0=some (if JW p xs < 0 then z else g (JW p xs)):=by
 rw[Kf (s0:=(0:Int)) (fun i=>(i:Int)) (fun i:Nat=>(xs[i]?).bind fun x=>if p x=true then some (some (g (i:Int))) else none) (some z) xs.length hn (fun kb i hi=> ?_) (fun kb=>he kb) rfl]
 ·have key:∀(ys:List α) (o:Nat),(List.range ys.length).findSome? (fun i:Nat=>(ys[i]?).bind fun x=>if p x=true then some (some (g ((o+i:Nat):Int))) else none)=(ys.findIdx? p).map fun k=>some (g ((o+k:Nat):Int)):=by
   intro ys
   induction ys with
   |nil=>intro o;rfl
   |cons y ys ih=>
    intro o
    rw[List.length_cons,List.range_succ_eq_map,List.findSome?_cons,List.findSome?_map,List.findIdx?_cons]
    simp only[List.getElem?_cons_zero,Option.bind_some]
    by_cases e:p y=true
    ·simp[e]
    ·simp only[e,if_false,Function.comp_def,List.getElem?_cons_succ,Bool.false_eq_true]
     have:=ih (o+1)
     rw[show(fun i:Nat=>(ys[i]?).bind fun x=>if p x=true then some (some (g ((o+(i+1):Nat):Int))) else none)=fun i:Nat=>(ys[i]?).bind fun x=>if p x=true then some (some (g ((o+1+i:Nat):Int))) else none from by funext i;rw[show o+(i+1)=o+1+i by omega]]
     rw[this]
     cases ys.findIdx? p with
     |none=>rfl
     |some k=>simp only[Option.map_some];rw[show o+1+k=o+(k+1) by omega]
  have:=key xs 0
  simp only[Nat.zero_add] at this
  rw[this]
  unfold JW
  cases xs.findIdx? p with
  |none=>simp
  |some k=>simp only[Option.map_some];rw[if_neg (by omega)]
 ·rw[hs kb i hi,List.getElem?_eq_getElem hi]
  simp only[Option.bind_some]
  by_cases e:p xs[i]=true<;>simp[e]
theorem zbY{c:zj}(H:zS c=true){i:Nat}(hi:i < c.Recs.length):c.Recs[i].Tx=(i:Int)+1:=by
 unfold zS at H
 simp only[Bool.and_eq_true,decide_eq_true_eq,List.all_eq_true,List.mem_range] at H
 have h:=H.1.1.2 i hi
 unfold YY at h
 simp only[List.getElem?_eq_getElem hi,Bool.and_eq_true,decide_eq_true_eq] at h
 exact h.1.1
theorem J6(c:zj)(k q:Int)(h:zH c≤1048576):ZR c k q=some (Z4 c k q):=by
 have hR:qb c.Recs≤1048576:=by unfold zH at h;omega
 obtain⟨hl,hs⟩:=Zb hR
 unfold ZR Z4
 cases hg:zS c with
 |true=>
  rw[zc9 c.Recs (Xu k q) (fun z=>z+1) 0 (by omega) (fun kb i hi=> ?_) (fun kb=> ?_)]
  ·simp only[if_true]
   congr 1
   have:=zcJ (Xu k q) c.Recs
   split<;>omega
  ·unfold Zz yY Xu
   simp only[ql _ h,hg,zX hi,zbY hg hi,Option.bind_some,yy i _ hi (by omega),if_true]
   rw[if_pos (by omega)]
   by_cases c1:c.Recs[i].Client=k<;>by_cases c2:c.Recs[i].Req=q<;>simp[c1,c2]
  ·unfold Zz
   rw[if_neg (by omega)];rfl
 |false=>
  show iter _ (FU) 0=_
  rw[show FU=(FU - 1)+1 from by unfold FU;omega]
  unfold iter
  unfold Zz
  simp only[ql _ h,hg,Option.bind_some]
  split<;>rfl
theorem xg(c:zj)(k q:Int)(h:zH c≤1048576):Z2 c k q=some (Z4 c k q):=by
 have hR:qb c.Recs≤1048576:=by unfold zH at h;omega
 obtain⟨hl,hs⟩:=Zb hR
 have hi:=zcJ (Xu k q) c.Recs
 unfold Z2 Z4
 simp only[jw _ h,XN _ _ _ hl,Option.bind_some]
 rw[w64 (by omega) (by omega)]
 cases zS c<;>simp
 omega
theorem zcG{xs:List zf}(H:∀s∈xs,zP s.Vote 0 2=true):(((xs.countP (qX 0):Nat):Int)=(xs.length:Int))↔(xs.any (qX 1)=false∧xs.any (qX 2)=false):=by
 have e:(((xs.countP (qX 0):Nat):Int)=(xs.length:Int))↔xs.countP (qX 0)=xs.length:=by omega
 rw[e,List.countP_eq_length,List.any_eq_false,List.any_eq_false]
 constructor
 ·intro h
  refine⟨fun s hs=> ?_,fun s hs=> ?_⟩<;>have:=h s hs<;>unfold qX at this ⊢<;>simp at this ⊢<;>omega
 ·intro⟨h1,h2⟩ s hs
  have a:=h1 s hs;have b:=h2 s hs;have c:=H s hs
  unfold qX zP at *
  simp at a b c ⊢
  omega
theorem qH{c:zj}(H:zS c=true):c.Recs.length≤60∧c.Order.length≤60:=by
 unfold zS at H
 simp only[Bool.and_eq_true,decide_eq_true_eq] at H
 have:=List.countP_le_length (p:=Jc) (l:=c.Recs)
 omega
theorem Ko{α:Type}(f:α→Nat):∀(xs:List α) (i:Nat) (y:α),Qk f (xs.set i y)≤Qk f xs+f y
 |[],_,_=>by simp[Qk]
 |x::xs,0,y=>by simp only[List.set_cons_zero,Qk];omega
 |x::xs,i+1,y=>by
  have:=Ko f xs i y
  simp only[List.set_cons_succ,Qk]
  omega
theorem x7(xs:List zi)(i:Nat)(y:zi):qb (xs.set i y)≤qb xs+js y:=by
 unfold qb
 have:=Ko (fun y:zi=>js y) xs i y
 rw[List.length_set]
 omega
theorem zdg(c:zj)(k:Int)(ss:List zf)(h:zH c+zG ss≤1048576)(hc:zS c=true):jD 1048576 (qo c k ss false) (qU c k ss false):=by
 have h0:zH c≤1048576:=by omega
 have hR:qb c.Recs≤1048576:=by unfold zH at h;omega
 have hO:c.Order.length≤1048576:=by unfold zH at h;omega
 have hss:zG ss≤1048576:=by omega
 obtain⟨hl,hs⟩:=Zb hR
 have hlen:=qH hc
 unfold qo qU jt yw j5
 rw[if_neg (by simp),if_neg (by simp)]
 simp only[Zs _ h0,Ys _ h0,Z8,Yz,Option.bind_some]
 cases hw1:zP k 1 (c.Recs.length:Int) with
 |false=>
  simp only[Bool.false_eq_true,if_false]
  exact jD.same h0
 |true=>
  have hw':1≤k∧k≤c.Recs.length:=by unfold zP at hw1;simpa using hw1
  have hk:(k - 1).toNat < c.Recs.length:=by omega
  have e5:IntKind.wrap .i64 (k - 1)=(((k - 1).toNat:Nat):Int):=by rw[w64 (by omega) (by omega)];omega
  simp only[if_true,e5,zX hk,Option.bind_some]
  by_cases c1:c.Recs[(k - 1).toNat].State=1
  ·simp only[c1,not_true,if_false,YV _ hss,XD _ hss,Option.bind_some,Int.toNat_natCast,List.set_set,QK hk]
   by_cases c2:(ss.length:Int)=0
   ·simp only[c2,if_true]
    rw[if_pos (by simp;omega)]
    refine⟨_,rfl,rfl,?_,by simp;omega⟩
    have:=x7 c.Recs (k - 1).toNat (zi.mk c.Recs[(k - 1).toNat].Tx c.Recs[(k - 1).toNat].Client c.Recs[(k - 1).toNat].Req 3 ss)
    unfold zH at h
    have e:js (zi.mk c.Recs[(k - 1).toNat].Tx c.Recs[(k - 1).toNat].Client c.Recs[(k - 1).toNat].Req 3 ss)=zG ss:=rfl
    simp only
    omega
   ·simp only[c2,if_false]
    refine⟨_,rfl,rfl,?_,hO⟩
    have:=x7 c.Recs (k - 1).toNat (zi.mk c.Recs[(k - 1).toNat].Tx c.Recs[(k - 1).toNat].Client c.Recs[(k - 1).toNat].Req 2 ss)
    unfold zH at h
    have e:js (zi.mk c.Recs[(k - 1).toNat].Tx c.Recs[(k - 1).toNat].Client c.Recs[(k - 1).toNat].Req 2 ss)=zG ss:=rfl
    simp only
    omega
  ·simp only[c1,not_false_eq_true,if_true]
   exact jD.same h0
theorem kT(c:zj)(k:Int)(ss:List zf)(h:zH c+zG ss≤1048576):jD 1048576 (qc c k ss) (yd c k ss):=by
 have h0:zH c≤1048576:=by omega
 have hss:zG ss≤1048576:=by omega
 obtain⟨hsl,_⟩:=yo hss
 have J1:qo c k ss true=some (zj.mk [] [],1):=rfl
 have J2:qU c k ss true=some (zj.mk [] [],1):=rfl
 unfold qc yd
 simp only[ql _ h0,jw _ h0,Jt _ hss,xG _ hss,Jv _ _ hsl,zb3 _ _ hsl,Option.bind_some]
 cases hc:zS c with
 |false=>simp only[Bool.false_eq_true,if_false,J1,J2];exact jD.zero
 |true=>
  cases hg:qq ss with
  |false=>simp only[Bool.false_eq_true,if_false,if_true,J1,J2];exact jD.zero
  |true=>
   have hn:=zcG (Qr hg).2
   simp only[if_true,hn]
   cases h1:ss.any (qX 1) with
   |true=>simp[J1,J2];exact jD.zero
   |false=>
    cases h2:ss.any (qX 2) with
    |true=>simp[J1,J2];exact jD.zero
    |false=>
     simp only[Bool.false_eq_true,if_false,and_self,not_true,decide_false]
     exact zdg c k ss h hc
theorem zb0{α:Type}(f:α→Nat)(b:Nat):∀(xs:List α),(∀x∈xs,f x≤b)→Qk f xs≤b * xs.length
 |[],_=>by simp[Qk]
 |x::xs,H=>by
  have:=zb0 f b xs fun y hy=>H y (List.mem_cons_of_mem _ hy)
  have:=H x List.mem_cons_self
  simp only[Qk,List.length_cons,Nat.mul_add,Nat.mul_one]
  omega
theorem Yw{xs:List zf}(H:qq xs=true):zG xs≤484:=by
 unfold qq at H
 simp only[Bool.and_eq_true,decide_eq_true_eq,List.all_eq_true,List.mem_range] at H
 obtain⟨hl,ha⟩:=H
 unfold zG
 have:=zb0 (fun y:zf=>jH y) 120 xs fun s hs=> ?_
 ·have:120 * xs.length≤480:=by omega
  omega
 ·obtain⟨i,hi,rfl⟩:=List.mem_iff_getElem.1 hs
  have h:=ha i hi
  unfold Qq YK Ze at h
  simp only[List.getElem?_eq_getElem hi,Bool.and_eq_true,decide_eq_true_eq] at h
  show xs[i].Reads.length+xs[i].Writes.length≤120
  omega
theorem Za{c:zj}(H:zS c=true):qb c.Recs≤30000:=by
 have hl:=(qH H).1
 unfold qb
 have:=zb0 (fun y:zi=>js y) 484 c.Recs fun s hs=> ?_
 ·have:484 * c.Recs.length≤29040:=by omega
  omega
 ·obtain⟨i,hi,rfl⟩:=List.mem_iff_getElem.1 hs
  have h:=ZE H hi
  unfold jO at h
  simp only[Bool.and_eq_true] at h
  exact Yw h.1.2
def X6(m:Nat)(x y:Option (zj×Int×Int)):Prop:=∃r:zj×Int×Int,x=some r∧y=some r∧qb r.1.Recs≤m∧r.1.Order.length≤m
theorem size_append(xs:List zi)(y:zi):qb (xs++[y])=qb xs+1+js y:=by
 unfold qb
 have:Qk (fun y:zi=>js y) (xs++[y])=Qk (fun y:zi=>js y) xs+js y:=by
  induction xs with
  |nil=>simp[Qk]
  |cons x xs ih=>simp only[List.cons_append,Qk,ih];omega
 rw[this,List.length_append,List.length_singleton]
 omega
theorem zgD(c:zj)(k q:Int)(h:zH c≤1048576):X6 1048576 (z5 c k q) (j0 c k q):=by
 unfold z5 j0
 simp only[ql _ h,jw _ h,kF,XZ,Z8,zbM,Option.bind_some]
 have Z:X6 1048576 (z8 c k q true) (qA c k q true):=⟨_,rfl,rfl,by simp[qb,Qk],by simp⟩
 cases hc:zS c with
 |false=>simpa using Z
 |true=>
  have hn:=qH hc
  have hz:=Za hc
  have hJ:X6 1048576 (z8 c k q false) (qA c k q false):=by
   unfold z8 qA
   rw[if_neg (by simp),if_neg (by simp)]
   simp only[Zs _ h,Ys _ h,J6 _ _ _ h,xg _ _ _ h,Option.bind_some]
   split
   ·exact⟨_,rfl,rfl,by simp only;omega,by simp only;omega⟩
   ·split
    ·exact⟨_,rfl,rfl,by simp only;omega,by simp only;omega⟩
    ·rw[if_pos (by simp;omega)]
     refine⟨_,rfl,rfl,?_,by simp only;omega⟩
     simp only[size_append]
     have e:js (zi.mk (IntKind.wrap .i64 ((c.Recs.length:Int)+1)) k q 1 [])=zG []:=rfl
     have e2:zG []=0:=rfl
     omega
  cases zP k 0 1000000000<;>cases zP q 1 1000000000<;>simp only[Bool.false_eq_true,if_true,if_false,Bool.not_true,Bool.not_false]<;>first|exact Z|exact hJ
theorem zbe{S R:Type}{f:(S→Option R)→S→Option R}(I:Nat→S→Prop)(n:Nat)(hn:n≤1152921504606846976){s0:S}(h0:I 0 s0)(kK:Option R→Prop)
  (hs:∀i,i≤n→∀s,I i s→∀kb,(i < n∧∃s',I (i+1) s'∧f kb s=kb s')∨kK (f kb s)):kK (iter f FU s0):=by
 have key:∀(d i m:Nat) (s:S),i+d=n→d < m→I i s→kK (iter f m s):=by
  intro d
  induction d with
  |zero=>
   intro i m s e hm hi
   obtain⟨m,rfl⟩:∃k,m=k+1:=⟨m - 1,by omega⟩
   rcases hs i (by omega) s hi (iter f m) with⟨h,_⟩|h
   ·omega
   ·exact h
  |succ d ih=>
   intro i m s e hm hi
   obtain⟨m,rfl⟩:∃k,m=k+1:=⟨m - 1,by omega⟩
   rcases hs i (by omega) s hi (iter f m) with⟨_,s',hs',e'⟩|h
   ·show kK (f (iter f m) s)
    rw[e']
    exact ih (i+1) m s' (by omega) (by omega) hs'
   ·exact h
 exact key n 0 FU s0 (by omega) (by unfold FU;omega) h0
theorem KH{cb:List Int}{c:Int×Int}(h:ZV cb c):yc cb (fun xs:List qj=>xs.length≤4) (yr cb c):=by
 unfold yr
 refine(jm h 20).bind fun k c1 hc1 _=> ?_
 refine zbe (fun(i:Nat) (s:List qj×Int×Int×Int×Int)=>s.1.length=i∧s.2.2.1=(i:Int)∧ZV cb s.2.2.2) 4 (by omega) ⟨rfl,rfl,hc1⟩ (yc cb (fun xs:List qj=>xs.length≤4)) (fun i hi s ⟨h1,h2,h3⟩ kb=> ?_)
 unfold Qt
 obtain⟨n,c2,e2,hc2,n1,n2,_⟩:=jm h3 4
 have n2:=n2 (by omega)
 simp only[e2,Option.bind_some,h2]
 by_cases hlt:(i:Int) < n
 ·rw[if_pos hlt]
  obtain⟨v,c3,e3,hc3,_⟩:=jm hc2 99
  obtain⟨b,c4,e4,hc4,_⟩:=ke hc3 5
  left
  refine⟨by omega,?_⟩
  simp only[e3,e4,Option.bind_some]
  unfold j7
  obtain⟨g,c5,e5,hc5,_⟩:=jm hc4 8
  split
  ·simp only[h2,e5,Option.bind_some,yy i 4 (by omega) (by omega)]
   rw[if_pos (by simp;omega)]
   exact⟨_,⟨by simp;omega,rfl,hc5⟩,rfl⟩
  ·simp only[h2,e5,Option.bind_some,yy i 4 (by omega) (by omega)]
   rw[if_pos (by simp;omega)]
   exact⟨_,⟨by simp;omega,rfl,hc5⟩,rfl⟩
 ·rw[if_neg hlt]
  right
  unfold Zj
  exact yc.some hc2 (by simp only;omega)
theorem za2{cb:List Int}{c:Int×Int}(h:ZV cb c):yc cb (fun _:qi=>True) (y4 cb c):=by
 unfold y4
 exact(jm h 40).bind fun a c1 hc1 _=>(jm hc1 6).bind fun b c2 hc2 _=>yc.some hc2 trivial
theorem zek(xs:List zf)(hn:0 < xs.length)(z:Int):zG (xs.set (Int.toNat ((0:Nat):Int)) (zf.mk xs[0].Group xs[0].Reads xs[0].Writes z))=zG xs:=by
 unfold zG
 rw[List.length_set,XO _ xs _ _ (fun x hx=>by
  rw[show Int.toNat ((0:Nat):Int)=0 from rfl,List.getElem?_eq_getElem hn,Option.some.injEq] at hx
  subst hx
  rfl)]
theorem kQ(xs:List zf)(y:zf):zG (xs++[y])=zG xs+1+jH y:=by
 unfold zG
 have:Qk (fun y:zf=>jH y) (xs++[y])=Qk (fun y:zf=>jH y) xs+jH y:=by
  induction xs with
  |nil=>simp[Qk]
  |cons x xs ih=>simp only[List.cons_append,Qk,ih];omega
 rw[this,List.length_append,List.length_singleton]
 omega
theorem KD{cb:List Int}{c:Int×Int}(h:ZV cb c):yc cb (fun ss:List zf=>zG ss≤100) (ju cb c):=by
 unfold ju
 refine XG (fun(i:Nat) (s:List zf×Int×Int×Int)=>zG s.1≤10 * i∧s.2.1=(i:Int)∧ZV cb s.2.2) 4 (by omega) ⟨by simp[zG,Qk],rfl,h⟩ (yc cb (fun ss:List zf=>zG ss≤100)) (fun i hi s ⟨h1,h2,h3⟩ kb=> ?_) (fun s ⟨h1,h2,h3⟩ kb=> ?_)
 ·unfold yN
  simp only[h2]
  rw[if_pos (by omega)]
  obtain⟨b,c2,e2,hc2,_⟩:=ke h3 2
  simp only[e2,Option.bind_some]
  cases b with
  |true=>
   simp only[if_true]
   unfold je
   simp only[h2,yy i 4 hi (by omega)]
   exact⟨_,⟨by simp only;omega,rfl,hc2⟩,rfl⟩
  |false=>
   simp only[Bool.false_eq_true,if_false]
   obtain⟨ws,c3,e3,hc3,hw⟩:=KH hc2
   simp only[e3,Option.bind_some]
   have hsl:s.1.length≤10 * i:=by unfold zG at h1;omega
   refine zbe (fun(j:Nat) (t:Int×Int×Int×List qi)=>t.1=(j:Int)∧t.2.2.2.length=j∧ZV cb (t.2.1,t.2.2.1)) 3 (by omega) ⟨rfl,rfl,hc3⟩ (fun o=>∃s',(zG s'.1≤10 * (i+1)∧s'.2.1=((i+1:Nat):Int)∧ZV cb s'.2.2)∧o=kb s') (fun j hj t ⟨t1,t2,t3⟩ kb2=> ?_)
   unfold Qb
   obtain⟨n,c4,e4,hc4,n1,n2,_⟩:=jm t3 3
   have n2:=n2 (by omega)
   simp only[e4,Option.bind_some,t1]
   by_cases hlt:(j:Int) < n
   ·rw[if_pos hlt]
    obtain⟨a,c5,e5,hc5,_⟩:=za2 hc4
    left
    refine⟨by omega,?_⟩
    simp only[e5,Option.bind_some,yy j 3 (by omega) (by omega)]
    rw[if_pos (by simp;omega)]
    exact⟨_,⟨rfl,by simp;omega,hc5⟩,rfl⟩
   ·rw[if_neg hlt]
    right
    unfold yL je
    rw[if_pos (by simp;omega)]
    simp only[h2,yy i 4 hi (by omega)]
    refine⟨_,⟨?_,rfl,hc4⟩,rfl⟩
    simp only[kQ]
    have:jH (zf.mk (i:Int) t.2.2.2 ws 0)=t.2.2.2.length+ws.length:=rfl
    omega
 ·unfold yN
  simp only[h2]
  rw[if_neg (by omega)]
  unfold Zk
  have hsl:s.1.length≤40:=by unfold zG at h1;omega
  refine(jm h3 30).bind fun z c3 hc3 _=> ?_
  split
  ·refine(jm hc3 6).bind fun g c4 hc4 _=> ?_
   rw[if_pos (by simp;omega)]
   refine yc.some hc4 ?_
   simp only[kQ]
   have:jH (zf.mk (IntKind.wrap .i64 (g - 1)) [] [] 0)=0:=rfl
   omega
  ·split
   ·split
    ·rename_i h0
     refine(jm hc3 4).bind fun v c4 hc4 _=> ?_
     have h0':0 < s.1.length:=by simpa using h0
     rw[show((0:Int))=((0:Nat):Int) from rfl,zX h0',Option.bind_some]
     refine yc.some hc4 ?_
     simp only
     have:=zek s.1 h0' v
     omega
    ·exact yc.some hc3 (by simp only;omega)
   ·exact yc.some hc3 (by simp only;omega)
theorem za7(c:zj)(k:Int)(h:zH c≤1048576):∃z,Zx c k=some z∧jp c k=some z∧(¬z=0→zS c=true∧1≤k∧k≤c.Recs.length∧∃r,c.Recs[(k - 1).toNat]? =some r∧r.State=z):=by
 have hR:qb c.Recs≤1048576:=by unfold zH at h;omega
 obtain⟨hl,hs⟩:=Zb hR
 unfold Zx jp y3 yk j5
 simp only[ql _ h,jw _ h,Z8,Yz,Option.bind_some]
 cases hc:zS c with
 |false=>exact⟨0,by simp,by simp,by simp⟩
 |true=>
  cases hw:zP k 1 (c.Recs.length:Int) with
  |false=>exact⟨0,by simp,by simp,by simp⟩
  |true=>
   have hw':1≤k∧k≤c.Recs.length:=by unfold zP at hw;simpa using hw
   have hk:(k - 1).toNat < c.Recs.length:=by omega
   have e2:IntKind.wrap .i64 (k - 1)=(((k - 1).toNat:Nat):Int):=by rw[w64 (by omega) (by omega)];omega
   refine⟨c.Recs[(k - 1).toNat].State,?_,?_,fun _=>⟨rfl,hw'.1,hw'.2,_,List.getElem?_eq_getElem hk,rfl⟩⟩<;>rw[e2,zX hk]<;>simp
def xZ(xs:List zf):List Int:=(xs.filter (qX 0)).map (·.Group)
theorem KO(xs:List zf)(i:Nat):(xZ (xs.take i)).length≤i:=by
 unfold xZ
 have h:=List.length_filter_le (qX 0) (xs.take i)
 simp at h ⊢
 omega
theorem zcu{xs:List zf}{i:Nat}(hi:i < xs.length):xZ (xs.take (i+1))=xZ (xs.take i)++(if xs[i].Vote=0 then[xs[i].Group] else[]):=by
 unfold xZ
 rw[List.take_succ_eq_append_getElem hi,List.filter_append,List.map_append]
 congr 1
 by_cases c:xs[i].Vote=0<;>simp[qX,c]
theorem KB(r:zi)(h:r.Shares.length≤1048576):iter (yG r Zd) FU (([]:List Int),0)=some (xZ r.Shares):=by
 refine Ja (fun i=>(xZ (r.Shares.take i),(i:Int))) _ r.Shares.length (by omega) (fun kb i hi=> ?_) (fun kb=> ?_) (by simp[xZ])
 ·have hl:=KO r.Shares i
  unfold yG
  simp only[zX hi,Option.bind_some,yy i _ hi (by omega),zcu hi]
  rw[if_pos (by omega)]
  by_cases c:r.Shares[i].Vote=0
  ·rw[if_pos c,if_pos c,if_pos (by rw[List.length_append,List.length_singleton];omega)]
  ·rw[if_neg c,if_neg c,List.append_nil]
 ·unfold yG Zd
  rw[if_neg (Int.lt_irrefl _),List.take_length]
theorem zcC(c:zj)(k:Int)(h:zH c≤1048576):∃r,qy c k=some r∧r.length≤1048576:=by
 have hR:qb c.Recs≤1048576:=by unfold zH at h;omega
 obtain⟨hl,hs⟩:=Zb hR
 obtain⟨z,e1,e2,e3⟩:=za7 c k h
 unfold qy
 simp only[e1,e2,Option.bind_some]
 by_cases c1:z=2
 ·obtain⟨_,k1,k2,r,hr,_⟩:=e3 (by omega)
  have hk:(k - 1).toNat < c.Recs.length:=by omega
  have e5:IntKind.wrap .i64 (k - 1)=(((k - 1).toNat:Nat):Int):=by rw[w64 (by omega) (by omega)];omega
  have hsz:=hs _ hk
  unfold js at hsz
  have hsl:=(yo hsz).1
  rw[if_neg (by simp[c1]),e5,zX hk]
  simp only[Option.bind_some,KB _ hsl]
  refine⟨_,rfl,?_⟩
  have:=KO c.Recs[(k - 1).toNat].Shares c.Recs[(k - 1).toNat].Shares.length
  rw[List.take_length] at this
  omega
 ·exact⟨[],by rw[if_pos c1],by simp⟩
def YB(g:Int)(s:zf):Bool:=decide (s.Group=g)&&decide (s.Vote=0)
def QE(p:zf→Bool)(xs:List zf):Nat→Int
 |0=>-1
 |i+1=>match xs[i]? with
  |some s=>if p s=true then(i:Int) else QE p xs i
  |none=>QE p xs i
theorem kw(p:zf→Bool)(xs:List zf):∀i,-1≤QE p xs i∧QE p xs i < i
 |0=>by simp[QE]
 |i+1=>by
  have:=kw p xs i
  unfold QE
  split
  ·split<;>omega
  ·omega
theorem x5{p:zf→Bool}{xs:List zf}:∀i,(∀j (hj:j < xs.length),j < i→p xs[j]=false)→QE p xs i= -1
 |0,_=>rfl
 |i+1,h=>by
  unfold QE
  cases e:xs[i]? with
  |none=>exact x5 i fun j hj hi=>h j hj (by omega)
  |some s=>
   obtain⟨hl,rfl⟩:=List.getElem?_eq_some_iff.1 e
   simp only
   rw[if_neg (by rw[h i hl (by omega)];simp)]
   exact x5 i fun j hj hi=>h j hj (by omega)
theorem km{p:zf→Bool}{xs:List zf}{k:Nat}(hk:k < xs.length)(hp:p xs[k]=true):∀i,k < i→(∀j (hj:j < xs.length),k < j→j < i→p xs[j]=false)→QE p xs i=(k:Int)
 |0,h,_=>by omega
 |i+1,h,hn=>by
  unfold QE
  by_cases e:i=k
  ·subst e
   rw[List.getElem?_eq_getElem hk]
   simp only[hp,if_true]
  ·cases e1:xs[i]? with
   |none=>exact km hk hp i (by omega) fun j hj h1 h2=>hn j hj h1 (by omega)
   |some s=>
    obtain⟨hl,rfl⟩:=List.getElem?_eq_some_iff.1 e1
    simp only
    rw[if_neg (by rw[hn i hl (by omega) (by omega)];simp)]
    exact km hk hp i (by omega) fun j hj h1 h2=>hn j hj h1 (by omega)
theorem zes{xs:List zf}(h:qq xs=true):∀i j (hi:i < xs.length) (hj:j < xs.length),i < j→xs[i].Group < xs[j].Group:=by
 have step:∀i (hi:i+1 < xs.length),xs[i].Group < xs[i+1].Group:=by
  intro i hi
  unfold qq at h
  simp only[Bool.and_eq_true,List.all_eq_true] at h
  have:=h.2 (i+1) (List.mem_range.2 hi)
  unfold Qq at this
  rw[List.getElem?_eq_getElem hi] at this
  simp only[Bool.and_eq_true,Bool.or_eq_true,beq_iff_eq] at this
  have:=this.1.1.1.2
  rw[Nat.add_sub_cancel,List.getElem?_eq_getElem (show i < xs.length by omega)] at this
  simpa using this
 intro i j hi hj hij
 obtain⟨d,rfl⟩:∃d,j=i+1+d:=⟨j - (i+1),by omega⟩
 induction d with
 |zero=>exact step i hj
 |succ d ih=>
  have h1:=ih (by omega) (by omega)
  have h2:=step (i+1+d) (by omega)
  have e:i+1+(d+1)=i+1+d+1:=by omega
  simp only[e]
  omega
theorem zdA{xs:List zf}(h:qq xs=true)(g:Int):JW (YB g) xs=QE (YB g) xs xs.length:=by
 unfold JW
 cases e:xs.findIdx? (YB g) with
 |none=>
  rw[List.findIdx?_eq_none_iff] at e
  exact(x5 _ fun j hj _=>e _ (List.getElem_mem hj)).symm
 |some k=>
  rw[List.findIdx?_eq_some_iff_getElem] at e
  obtain⟨hk,hp,_⟩:=e
  refine(km hk hp _ hk fun j hj h1 _=> ?_).symm
  have:=zes h k j hk hj h1
  unfold YB at hp ⊢
  simp only[Bool.and_eq_true,decide_eq_true_eq] at hp
  rw[decide_eq_false (by omega)]
  rfl
theorem Xx(xs:List zf)(g:Int)(h:xs.length≤1048576):qh xs g=some (JW (YB g) xs):=by
 unfold qh
 rw[JY xs (YB g) (by omega) (fun kb i hi=> ?_) (fun kb=> ?_)]
 ·unfold qN Qg YB
  simp only[zX hi,Option.bind_some,yy i _ hi (by omega)]
  rw[if_pos (by omega)]
  by_cases c:xs[i].Group=g<;>simp[c]
 ·unfold qN
  rw[if_neg (by omega)];rfl
theorem xT(r:zi)(g:Int)(kx:Int→Option (zj×Int))(h:r.Shares.length≤1048576):iter (y2 r g kx) FU ((-1),0)=kx (QE (YB g) r.Shares r.Shares.length):=by
 refine Ja (fun i=>(QE (YB g) r.Shares i,(i:Int))) _ r.Shares.length (by omega) (fun kb i hi=> ?_) (fun kb=> ?_) rfl
 ·unfold y2 y8
  simp only[zX hi,Option.bind_some,yy i _ hi (by omega),QE,List.getElem?_eq_getElem hi]
  rw[if_pos (by omega)]
  unfold YB
  by_cases c1:r.Shares[i].Group=g<;>by_cases c2:r.Shares[i].Vote=0<;>simp[c1,c2]
 ·unfold y2
  rw[if_neg (by simp)]
theorem YS{r:zi}(h:jO r=true):qq r.Shares=true:=by
 unfold jO at h
 simp only[Bool.and_eq_true] at h
 exact h.1.2
theorem zbn(xs:List zf)(n:Nat)(hn:n < xs.length)(z:Int):zG (xs.set n (zf.mk xs[n].Group xs[n].Reads xs[n].Writes z))=zG xs:=by
 unfold zG
 rw[List.length_set,XO _ xs n _ (fun x hx=>by
  rw[List.getElem?_eq_getElem hn,Option.some.injEq] at hx
  subst hx
  rfl)]
theorem zcE(c:zj)(k g:Int)(yes:Bool)(h:zH c≤1048576):jD 1048576 (z9 c k g yes) (Z1 c k g yes):=by
 have hR:qb c.Recs≤1048576:=by unfold zH at h;omega
 have hO:c.Order.length≤1048576:=by unfold zH at h;omega
 obtain⟨hl,hs⟩:=Zb hR
 unfold z9 Z1 j5
 simp only[ql _ h,jw _ h,Zs _ h,Ys _ h,Z8,Yz,Option.bind_some]
 cases hc:zS c with
 |false=>exact jD.zero
 |true=>
  simp only[if_true]
  have hlen:=qH hc
  cases hw1:zP k 1 (c.Recs.length:Int) with
  |false=>
   simp only[Bool.false_eq_true,if_false]
   exact jD.same h
  |true=>
   have hw':1≤k∧k≤c.Recs.length:=by unfold zP at hw1;simpa using hw1
   have hk:(k - 1).toNat < c.Recs.length:=by omega
   have e5:IntKind.wrap .i64 (k - 1)=(((k - 1).toNat:Nat):Int):=by rw[w64 (by omega) (by omega)];omega
   have hsg:=YS (ZE hc hk)
   have hsl:c.Recs[(k - 1).toNat].Shares.length≤4:=(Qr hsg).1
   simp only[if_true,e5,zX hk,Option.bind_some,Xx _ _ (show c.Recs[(k - 1).toNat].Shares.length≤1048576 by omega),xT _ _ _ (show c.Recs[(k - 1).toNat].Shares.length≤1048576 by omega),zdA hsg]
   unfold yf
   have hz:=kw (YB g) c.Recs[(k - 1).toNat].Shares c.Recs[(k - 1).toNat].Shares.length
   generalize QE (YB g) c.Recs[(k - 1).toNat].Shares c.Recs[(k - 1).toNat].Shares.length=z at hz
   have over:jD 1048576 (qO c yes c.Recs[(k - 1).toNat] z k true) (yi c yes c.Recs[(k - 1).toNat] z k true):=jD.same h
   by_cases c1:c.Recs[(k - 1).toNat].State=2
   rotate_left
   ·rw[if_pos c1,if_pos c1];exact over
   rw[if_neg (fun hne=>hne c1),if_neg (fun hne=>hne c1)]
   by_cases c2:z < 0
   ·rw[decide_eq_true c2];exact over
   rw[decide_eq_false c2]
   obtain⟨n,rfl⟩:∃n:Nat,z=(n:Int):=⟨z.toNat,by omega⟩
   have hn:n < c.Recs[(k - 1).toNat].Shares.length:=by omega
   unfold qO yi jS Zf
   have hsz:=fun v=>zbn c.Recs[(k - 1).toNat].Shares n hn v
   have hset:=fun(st:Int) (ss:List zf) (e:zG ss=zG c.Recs[(k - 1).toNat].Shares)=>kj c.Recs (k - 1).toNat (zi.mk c.Recs[(k - 1).toNat].Tx c.Recs[(k - 1).toNat].Client c.Recs[(k - 1).toNat].Req st ss) (fun x hx=>by
    rw[List.getElem?_eq_getElem hk,Option.some.injEq] at hx
    subst hx
    exact e)
   simp only[Bool.false_eq_true,if_false,e5,zX hn,Option.bind_some,Int.toNat_natCast,QK hk,List.set_set]
   have hl2:∀v,(c.Recs[(k - 1).toNat].Shares.set n (zf.mk c.Recs[(k - 1).toNat].Shares[n].Group c.Recs[(k - 1).toNat].Shares[n].Reads c.Recs[(k - 1).toNat].Shares[n].Writes v)).length≤1048576:=fun v=>by rw[List.length_set];omega
   cases yes with
   |false=>
    simp only[Bool.false_eq_true,if_false]
    exact⟨_,rfl,rfl,by simp only;rw[hset _ _ (hsz 2)];exact hR,hO⟩
   |true=>
    simp only[if_true,Jv _ _ (hl2 1),zb3 _ _ (hl2 1),Option.bind_some,zaq]
    cases hv:(c.Recs[(k - 1).toNat].Shares.set n (zf.mk c.Recs[(k - 1).toNat].Shares[n].Group c.Recs[(k - 1).toNat].Shares[n].Reads c.Recs[(k - 1).toNat].Shares[n].Writes 1)).any (qX 0) with
    |true=>
     simp only[Bool.true_eq_false,if_false,if_true]
     exact⟨_,rfl,rfl,by simp only;rw[hset _ _ (hsz 1)];exact hR,hO⟩
    |false=>
     simp only[Bool.false_eq_true,if_false,if_true]
     rw[if_pos (by simp;omega)]
     exact⟨_,rfl,rfl,by simp only;rw[hset _ _ (hsz 1)];exact hR,by simp;omega⟩
def jo(c:zj):Prop:=qb c.Recs≤40000∧c.Order.length≤200
theorem jo.size{c:zj}(h:jo c):zH c≤1048576:=by
 unfold jo at h
 unfold zH
 omega
theorem jo.zero:jo (zj.mk [] []):=by simp[jo,qb,Qk]
theorem zfW{c:zj}(k q:Int)(hs:jo c):∃r,z5 c k q=some r∧jo r.1:=by
 have h:=hs.size
 unfold z5
 simp only[ql _ h,kF,Z8,Option.bind_some]
 have Z:∃r,z8 c k q true=some r∧jo r.1:=⟨_,rfl,jo.zero⟩
 cases hc:zS c with
 |false=>simpa using Z
 |true=>
  have hn:=qH hc
  have hz:=Za hc
  have hJ:∃r,z8 c k q false=some r∧jo r.1:=by
   unfold z8
   rw[if_neg (by simp)]
   simp only[Zs _ h,J6 _ _ _ h,Option.bind_some]
   split
   ·exact⟨_,rfl,hs⟩
   ·split
    ·exact⟨_,rfl,hs⟩
    ·rw[if_pos (by simp;omega)]
     refine⟨_,rfl,?_,by simp only;omega⟩
     simp only[size_append]
     have e:js (zi.mk (IntKind.wrap .i64 ((c.Recs.length:Int)+1)) k q 1 [])=zG []:=rfl
     have e2:zG []=0:=rfl
     omega
  cases zP k 0 1000000000<;>cases zP q 1 1000000000<;>simp only[Bool.false_eq_true,if_true,if_false,Bool.not_true,Bool.not_false]<;>first|exact Z|exact hJ
theorem zjv{c:zj}(k:Int)(hs:jo c):∃r,qK c k=some r∧jo r.1:=by
 have h:=hs.size
 have hl:c.Recs.length≤40000:=by have:=hs.1;unfold qb at this;omega
 unfold qK
 simp only[ql _ h,Zs _ h,Z8,Option.bind_some]
 cases hc:zS c with
 |false=>exact⟨_,rfl,jo.zero⟩
 |true=>
  simp only[if_true]
  cases hw1:zP k 1 (c.Recs.length:Int) with
  |false=>simp only[Bool.false_eq_true,if_false];exact⟨_,rfl,hs⟩
  |true=>
   have hw':1≤k∧k≤c.Recs.length:=by unfold zP at hw1;simpa using hw1
   have hk:(k - 1).toNat < c.Recs.length:=by omega
   have e5:IntKind.wrap .i64 (k - 1)=(((k - 1).toNat:Nat):Int):=by rw[w64 (by omega) (by omega)];omega
   simp only[if_true,e5,zX hk,Option.bind_some,Int.toNat_natCast]
   split
   ·exact⟨_,rfl,hs⟩
   ·refine⟨_,rfl,?_,hs.2⟩
    simp only
    rw[kj c.Recs _ _ (fun x hx=>by
     rw[List.getElem?_eq_getElem hk,Option.some.injEq] at hx
     subst hx
     rfl)]
    exact hs.1
theorem zeE{c:zj}(k:Int)(ss:List zf)(hs:jo c)(hss:zG ss≤1048576):∃r,qc c k ss=some r∧jo r.1:=by
 have h0:=hs.size
 obtain⟨hsl,_⟩:=yo hss
 have J1:∃r,qo c k ss true=some r∧jo r.1:=⟨_,rfl,jo.zero⟩
 unfold qc
 simp only[ql _ h0,Jt _ hss,Jv _ _ hsl,Option.bind_some]
 cases hc:zS c with
 |false=>simpa using J1
 |true=>
  cases hg:qq ss with
  |false=>simpa using J1
  |true=>
   simp only[if_true]
   by_cases hcnt:((ss.countP (qX 0):Nat):Int)=(ss.length:Int)
   rotate_left
   ·rw[decide_eq_true hcnt];exact J1
   rw[decide_eq_false (by simpa using hcnt)]
   have hz:=Za hc
   have hlen:=qH hc
   have hsg:=Yw hg
   unfold qo jt
   rw[if_neg (by simp)]
   simp only[Zs _ h0,Z8,Option.bind_some]
   cases hw1:zP k 1 (c.Recs.length:Int) with
   |false=>simp only[Bool.false_eq_true,if_false];exact⟨_,rfl,hs⟩
   |true=>
    have hw':1≤k∧k≤c.Recs.length:=by unfold zP at hw1;simpa using hw1
    have hk:(k - 1).toNat < c.Recs.length:=by omega
    have e5:IntKind.wrap .i64 (k - 1)=(((k - 1).toNat:Nat):Int):=by rw[w64 (by omega) (by omega)];omega
    simp only[if_true,e5,zX hk,Option.bind_some]
    split
    ·exact⟨_,rfl,hs⟩
    ·simp only[YV _ hss,Option.bind_some,Int.toNat_natCast,List.set_set,QK hk]
     have key:=fun st=>x7 c.Recs (k - 1).toNat (zi.mk c.Recs[(k - 1).toNat].Tx c.Recs[(k - 1).toNat].Client c.Recs[(k - 1).toNat].Req st ss)
     have e:∀st,js (zi.mk c.Recs[(k - 1).toNat].Tx c.Recs[(k - 1).toNat].Client c.Recs[(k - 1).toNat].Req st ss)=zG ss:=fun _=>rfl
     split
     ·rw[if_pos (by simp;omega)]
      refine⟨_,rfl,?_,by simp;omega⟩
      have:=key 3;have:=e 3
      simp only;omega
     ·refine⟨_,rfl,?_,hs.2⟩
      have:=key 2;have:=e 2
      simp only;omega
theorem zje{c:zj}(k g:Int)(yes:Bool)(hs:jo c):∃r,z9 c k g yes=some r∧jo r.1:=by
 have h:=hs.size
 unfold z9
 simp only[ql _ h,Zs _ h,Z8,Option.bind_some]
 cases hc:zS c with
 |false=>exact⟨_,rfl,jo.zero⟩
 |true=>
  simp only[if_true]
  have hlen:=qH hc
  cases hw1:zP k 1 (c.Recs.length:Int) with
  |false=>simp only[Bool.false_eq_true,if_false];exact⟨_,rfl,hs⟩
  |true=>
   have hw':1≤k∧k≤c.Recs.length:=by unfold zP at hw1;simpa using hw1
   have hk:(k - 1).toNat < c.Recs.length:=by omega
   have e5:IntKind.wrap .i64 (k - 1)=(((k - 1).toNat:Nat):Int):=by rw[w64 (by omega) (by omega)];omega
   have hsg:=YS (ZE hc hk)
   have hsl:c.Recs[(k - 1).toNat].Shares.length≤4:=(Qr hsg).1
   simp only[if_true,e5,zX hk,Option.bind_some,xT _ _ _ (show c.Recs[(k - 1).toNat].Shares.length≤1048576 by omega)]
   unfold yf
   have hz:=kw (YB g) c.Recs[(k - 1).toNat].Shares c.Recs[(k - 1).toNat].Shares.length
   generalize QE (YB g) c.Recs[(k - 1).toNat].Shares c.Recs[(k - 1).toNat].Shares.length=z at hz
   have over:∃r,qO c yes c.Recs[(k - 1).toNat] z k true=some r∧jo r.1:=⟨_,rfl,hs⟩
   by_cases c1:c.Recs[(k - 1).toNat].State=2
   rotate_left
   ·rw[if_pos c1];exact over
   rw[if_neg (fun hne=>hne c1)]
   by_cases c2:z < 0
   ·rw[decide_eq_true c2];exact over
   rw[decide_eq_false c2]
   obtain⟨n,rfl⟩:∃n:Nat,z=(n:Int):=⟨z.toNat,by omega⟩
   have hn:n < c.Recs[(k - 1).toNat].Shares.length:=by omega
   unfold qO jS
   have hsz:=fun v=>zbn c.Recs[(k - 1).toNat].Shares n hn v
   have hset:=fun(st:Int) (ss:List zf) (e:zG ss=zG c.Recs[(k - 1).toNat].Shares)=>kj c.Recs (k - 1).toNat (zi.mk c.Recs[(k - 1).toNat].Tx c.Recs[(k - 1).toNat].Client c.Recs[(k - 1).toNat].Req st ss) (fun x hx=>by
    rw[List.getElem?_eq_getElem hk,Option.some.injEq] at hx
    subst hx
    exact e)
   simp only[Bool.false_eq_true,if_false,e5,zX hn,Option.bind_some,Int.toNat_natCast,QK hk,List.set_set]
   have hl2:∀v,(c.Recs[(k - 1).toNat].Shares.set n (zf.mk c.Recs[(k - 1).toNat].Shares[n].Group c.Recs[(k - 1).toNat].Shares[n].Reads c.Recs[(k - 1).toNat].Shares[n].Writes v)).length≤1048576:=fun v=>by rw[List.length_set];omega
   cases yes with
   |false=>
    simp only[Bool.false_eq_true,if_false]
    exact⟨_,rfl,by simp only;rw[hset _ _ (hsz 2)];exact hs.1,hs.2⟩
   |true=>
    simp only[if_true,Jv _ _ (hl2 1),Option.bind_some]
    split
    ·rw[if_pos (by simp;omega)]
     exact⟨_,rfl,by simp only;rw[hset _ _ (hsz 1)];exact hs.1,by simp;omega⟩
    ·exact⟨_,rfl,by simp only;rw[hset _ _ (hsz 1)];exact hs.1,hs.2⟩
theorem zfK{c:zj}(k:Int)(hs:jo c):∃r,qy c k=some r∧r.length≤1048576:=by
 exact zcC c k hs.size
theorem zdI{cb:List Int}{rs:List zi}{os:List Int}{c:Int×Int}(hs:jo (zj.mk rs os))(hc:ZV cb c)(i n:Nat)(hi:i < n)(hn:n≤1000)(kb:(Int×Int×Int×List zi×List Int)→Option (zj×(Int×Int))):
  ∃s':Int×Int×Int×List zi×List Int,(s'.1=((i+1:Nat):Int)∧ZV cb (s'.2.1,s'.2.2.1)∧jo (zj.mk s'.2.2.2.1 s'.2.2.2.2))∧
  ((zC cb c (IntKind.wrap .i64 (((rs.length:Nat):Int)+1))).bind fun v14=>((zC cb v14.2 6).bind fun v16=>(if v16.1=0 then((zC cb v16.2 4).bind fun v19=>((zC cb v19.2 20).bind fun v21=>((z5 (zj.mk rs os) v19.1 (IntKind.wrap .i64 (1+v21.1))).bind fun v23=>(if ¬v23.2.2=1 then(kb ((IntKind.wrap .i64 ((i:Int)+1)),v21.2.1,v21.2.2,v23.1.Recs,v23.1.Order)) else(kb ((IntKind.wrap .i64 ((i:Int)+1)),v21.2.1,v21.2.2,rs,os)))))) else(if v16.1=1 then((zC cb v16.2 4).bind fun v27=>((zC cb v27.2 20).bind fun v29=>((z5 (zj.mk rs os) v27.1 (IntKind.wrap .i64 (1+v29.1))).bind fun v31=>(if ¬v31.2.2=1 then(kb ((IntKind.wrap .i64 ((i:Int)+1)),v29.2.1,v29.2.2,v31.1.Recs,v31.1.Order)) else(kb ((IntKind.wrap .i64 ((i:Int)+1)),v29.2.1,v29.2.2,rs,os)))))) else(if v16.1=2 then((ju cb v16.2).bind fun v35=>((qc (zj.mk rs os) (IntKind.wrap .i64 (1+v14.1)) v35.1).bind fun v37=>(if ¬v37.2=1 then(kb ((IntKind.wrap .i64 ((i:Int)+1)),v35.2.1,v35.2.2,v37.1.Recs,v37.1.Order)) else(kb ((IntKind.wrap .i64 ((i:Int)+1)),v35.2.1,v35.2.2,rs,os))))) else(if v16.1=3 then((qy (zj.mk rs os) (IntKind.wrap .i64 (1+v14.1))).bind fun v41=>(if 0 < ((v41.length:Nat):Int) then((idx v41 0).bind fun v44=>((qw cb v16.2 5).bind fun v46=>((z9 (zj.mk rs os) (IntKind.wrap .i64 (1+v14.1)) v44 (!v46.1)).bind fun v48=>(if ¬v48.2=1 then(kb ((IntKind.wrap .i64 ((i:Int)+1)),v46.2.1,v46.2.2,v48.1.Recs,v48.1.Order)) else(kb ((IntKind.wrap .i64 ((i:Int)+1)),v46.2.1,v46.2.2,rs,os)))))) else(if ¬(1:Int)=1 then(kb ((IntKind.wrap .i64 ((i:Int)+1)),v16.2.1,v16.2.2,rs,os)) else(kb ((IntKind.wrap .i64 ((i:Int)+1)),v16.2.1,v16.2.2,rs,os))))) else(if v16.1=4 then((qy (zj.mk rs os) (IntKind.wrap .i64 (1+v14.1))).bind fun v53=>(if 0 < ((v53.length:Nat):Int) then((idx v53 0).bind fun v56=>((qw cb v16.2 5).bind fun v58=>((z9 (zj.mk rs os) (IntKind.wrap .i64 (1+v14.1)) v56 (!v58.1)).bind fun v60=>(if ¬v60.2=1 then(kb ((IntKind.wrap .i64 ((i:Int)+1)),v58.2.1,v58.2.2,v60.1.Recs,v60.1.Order)) else(kb ((IntKind.wrap .i64 ((i:Int)+1)),v58.2.1,v58.2.2,rs,os)))))) else(if ¬(1:Int)=1 then(kb ((IntKind.wrap .i64 ((i:Int)+1)),v16.2.1,v16.2.2,rs,os)) else(kb ((IntKind.wrap .i64 ((i:Int)+1)),v16.2.1,v16.2.2,rs,os))))) else((qw cb v16.2 3).bind fun v64=>(if v64.1=true then((qK (zj.mk rs os) (IntKind.wrap .i64 (1+v14.1))).bind fun v67=>(if ¬v67.2=1 then(kb ((IntKind.wrap .i64 ((i:Int)+1)),v64.2.1,v64.2.2,v67.1.Recs,v67.1.Order)) else(kb ((IntKind.wrap .i64 ((i:Int)+1)),v64.2.1,v64.2.2,rs,os)))) else(if ¬(1:Int)=1 then(kb ((IntKind.wrap .i64 ((i:Int)+1)),v64.2.1,v64.2.2,rs,os)) else(kb ((IntKind.wrap .i64 ((i:Int)+1)),v64.2.1,v64.2.2,rs,os))))))))))))=kb s':=by
 have hst:=yy i n hi (by omega)
 have fin:∀{c':Int×Int} (r:zj) (code:Int),ZV cb c'→jo r→∃s':Int×Int×Int×List zi×List Int,(s'.1=((i+1:Nat):Int)∧ZV cb (s'.2.1,s'.2.2.1)∧jo (zj.mk s'.2.2.2.1 s'.2.2.2.2))∧(if ¬code=1 then(kb ((IntKind.wrap .i64 ((i:Int)+1)),c'.1,c'.2,r.Recs,r.Order)) else(kb ((IntKind.wrap .i64 ((i:Int)+1)),c'.1,c'.2,rs,os)))=kb s':=by
  intro c' r code hc' hr
  by_cases h1:code=1
  ·rw[if_neg (by simpa using h1)]
   exact⟨_,⟨hst,hc',hs⟩,rfl⟩
  ·rw[if_pos h1]
   exact⟨_,⟨hst,hc',hr⟩,rfl⟩
 obtain⟨t,c1,e1,hc1,_⟩:=jm hc (IntKind.wrap .i64 (((rs.length:Nat):Int)+1))
 obtain⟨w,c2,e2,hc2,_⟩:=jm hc1 6
 simp only[e1,e2,Option.bind_some]
 have begin1:∀c2:Int×Int,ZV cb c2→∃s':Int×Int×Int×List zi×List Int,(s'.1=((i+1:Nat):Int)∧ZV cb (s'.2.1,s'.2.2.1)∧jo (zj.mk s'.2.2.2.1 s'.2.2.2.2))∧((zC cb c2 4).bind fun v19=>((zC cb v19.2 20).bind fun v21=>((z5 (zj.mk rs os) v19.1 (IntKind.wrap .i64 (1+v21.1))).bind fun v23=>(if ¬v23.2.2=1 then(kb ((IntKind.wrap .i64 ((i:Int)+1)),v21.2.1,v21.2.2,v23.1.Recs,v23.1.Order)) else(kb ((IntKind.wrap .i64 ((i:Int)+1)),v21.2.1,v21.2.2,rs,os))))))=kb s':=by
  intro c2 hc2
  obtain⟨a,c3,e3,hc3,_⟩:=jm hc2 4
  obtain⟨b,c4,e4,hc4,_⟩:=jm hc3 20
  obtain⟨r,er,hr⟩:=zfW a (IntKind.wrap .i64 (1+b)) hs
  simp only[e3,e4,er,Option.bind_some]
  exact fin r.1 r.2.2 hc4 hr
 have vote1:∀c2:Int×Int,ZV cb c2→∃s':Int×Int×Int×List zi×List Int,(s'.1=((i+1:Nat):Int)∧ZV cb (s'.2.1,s'.2.2.1)∧jo (zj.mk s'.2.2.2.1 s'.2.2.2.2))∧((qy (zj.mk rs os) (IntKind.wrap .i64 (1+t))).bind fun v41=>(if 0 < ((v41.length:Nat):Int) then((idx v41 0).bind fun v44=>((qw cb c2 5).bind fun v46=>((z9 (zj.mk rs os) (IntKind.wrap .i64 (1+t)) v44 (!v46.1)).bind fun v48=>(if ¬v48.2=1 then(kb ((IntKind.wrap .i64 ((i:Int)+1)),v46.2.1,v46.2.2,v48.1.Recs,v48.1.Order)) else(kb ((IntKind.wrap .i64 ((i:Int)+1)),v46.2.1,v46.2.2,rs,os)))))) else(if ¬(1:Int)=1 then(kb ((IntKind.wrap .i64 ((i:Int)+1)),c2.1,c2.2,rs,os)) else(kb ((IntKind.wrap .i64 ((i:Int)+1)),c2.1,c2.2,rs,os)))))=kb s':=by
  intro c2 hc2
  obtain⟨ws,ew,_⟩:=zfK (IntKind.wrap .i64 (1+t)) hs
  simp only[ew,Option.bind_some]
  by_cases hw:0 < ((ws.length:Nat):Int)
  ·rw[if_pos hw]
   have hw':0 < ws.length:=by omega
   rw[show(0:Int)=((0:Nat):Int) from rfl,zX hw',Option.bind_some]
   obtain⟨b,c3,e3,hc3,_⟩:=ke hc2 5
   obtain⟨r,er,hr⟩:=zje (IntKind.wrap .i64 (1+t)) ws[0] (!b) hs
   simp only[e3,er,Option.bind_some]
   exact fin r.1 r.2 hc3 hr
  ·rw[if_neg hw]
   exact fin (zj.mk rs os) 1 hc2 hs
 split
 ·exact begin1 c2 hc2
 ·split
  ·exact begin1 c2 hc2
  ·split
   ·obtain⟨ss,c3,e3,hc3,hss⟩:=KD hc2
    obtain⟨r,er,hr⟩:=zeE (IntKind.wrap .i64 (1+t)) ss hs (by omega)
    simp only[e3,er,Option.bind_some]
    exact fin r.1 r.2 hc3 hr
   ·split
    ·exact vote1 c2 hc2
    ·split
     ·exact vote1 c2 hc2
     ·obtain⟨b,c3,e3,hc3,_⟩:=ke hc2 3
      simp only[e3,Option.bind_some]
      split
      ·obtain⟨r,er,hr⟩:=zjv (IntKind.wrap .i64 (1+t)) hs
       simp only[er,Option.bind_some]
       exact fin r.1 r.2 hc3 hr
      ·exact fin (zj.mk rs os) 1 hc3 hs
theorem K3{cb:List Int}{c:Int×Int}(h:ZV cb c)(most:Int)(h0:0≤most)(hm:most≤90):yc cb jo (yK cb c most):=by
 unfold yK
 rw[w64 (by omega) (by omega)]
 refine(jm h _).bind fun n c1 hc1 ⟨n1,n2,_⟩=>(ke hc1 20).bind fun b c2 hc2 _=> ?_
 have n2:=n2 (by omega)
 obtain⟨k,rfl⟩:∃k:Nat,n=(k:Int):=⟨n.toNat,by omega⟩
 split
 ·refine XG (fun(i:Nat) (s:Int×Int×Int×List zi×List Int)=>s.1=(i:Int)∧ZV cb (s.2.1,s.2.2.1)∧jo (zj.mk s.2.2.2.1 s.2.2.2.2)) 90 (by omega) ⟨rfl,hc2,jo.zero⟩ (yc cb jo) (fun i hi s ⟨h1,h2,h3⟩ kb=> ?_) (fun s ⟨h1,h2,h3⟩ kb=> ?_)
  ·unfold Zi
   simp only[h1]
   rw[if_pos (by omega)]
   exact zdI h3 h2 i 90 hi (by omega) kb
  ·unfold Zi Zy
   simp only[h1]
   rw[if_neg (by omega)]
   exact yc.some h2 h3
 ·refine XG (fun(i:Nat) (s:Int×Int×Int×List zi×List Int)=>s.1=(i:Int)∧ZV cb (s.2.1,s.2.2.1)∧jo (zj.mk s.2.2.2.1 s.2.2.2.2)) k (by omega) ⟨rfl,hc2,jo.zero⟩ (yc cb jo) (fun i hi s ⟨h1,h2,h3⟩ kb=> ?_) (fun s ⟨h1,h2,h3⟩ kb=> ?_)
  ·unfold Zh
   simp only[h1]
   rw[if_pos (by omega)]
   exact zdI h3 h2 i k hi (by omega) kb
  ·unfold Zh Zl
   simp only[h1]
   rw[if_neg (by omega)]
   exact yc.some h2 h3
theorem zbQ{cb:List Int}{c:Int×Int}(h:ZV cb c)(most:Int)(h0:0≤most)(hm:most≤90):yc cb (fun c:zj=>zH c≤1048576) (ZC cb c most):=by
 unfold ZC
 refine(K3 h most h0 hm).bind fun d c1 hc1 hd=>(jm hc1 30).bind fun z c2 hc2 _=> ?_
 have hd':=hd
 unfold jo at hd'
 have hl:d.Recs.length≤40000:=by have:=hd'.1;unfold qb at this;omega
 split
 ·refine(jm hc2 5).bind fun v c3 hc3 _=> ?_
  rw[if_pos (by simp;omega)]
  refine yc.some hc3 ?_
  unfold zH
  simp
  omega
 ·split
  ·split
   ·rename_i h1
    refine(jm hc2 _).bind fun n c3 hc3 ⟨n1,n2,_⟩=>(jm hc3 6).bind fun st c4 hc4 _=> ?_
    have n2:=n2 h1
    obtain⟨k,rfl⟩:∃k:Nat,n=(k:Int):=⟨n.toNat,by omega⟩
    have hk:k < d.Recs.length:=by simp only at n2;omega
    simp only[zX hk,Option.bind_some,Int.toNat_natCast]
    refine yc.some hc4 ?_
    unfold zH
    simp only
    rw[kj d.Recs _ _ (fun x hx=>by
     rw[List.getElem?_eq_getElem hk,Option.some.injEq] at hx
     subst hx
     rfl)]
    omega
   ·exact yc.some hc2 hd.size
  ·split
   ·refine(jm hc2 9).bind fun v c3 hc3 _=> ?_
    rw[if_pos (by simp;omega)]
    refine yc.some hc3 ?_
    unfold zH
    simp only[size_append]
    have e:js (zi.mk v 0 1 1 [])=0:=rfl
    omega
   ·exact yc.some hc2 hd.size
def KV(c:zj)(k q:Int):zj×Int×Int:=
 if zS c&&zP k 0 1000000000&&zP q 1 1000000000 then(if 0 < Z4 c k q then(c,Z4 c k q,0) else if (c.Recs.length:Int)=60 then(c,0,4) else(zj.mk (c.Recs++[zi.mk ((c.Recs.length:Int)+1) k q 1 []]) c.Order,(c.Recs.length:Int)+1,0)) else(zj.mk [] [],0,1)
theorem zfv(c:zj)(k q:Int)(h:zH c≤1048576):z5 c k q=some (KV c k q)∧j0 c k q=some (KV c k q):=by
 unfold z5 j0 KV
 simp only[ql _ h,jw _ h,kF,XZ,Z8,zbM,Option.bind_some]
 have Z:z8 c k q true=some (zj.mk [] [],0,1)∧qA c k q true=some (zj.mk [] [],0,1):=⟨rfl,rfl⟩
 cases hc:zS c with
 |false=>simpa using Z
 |true=>
  have hn:=qH hc
  have ew:IntKind.wrap .i64 ((c.Recs.length:Int)+1)=(c.Recs.length:Int)+1:=w64 (by omega) (by omega)
  have hJ:∀x,x=(if 0 < Z4 c k q then(c,Z4 c k q,(0:Int)) else if (c.Recs.length:Int)=60 then(c,(0:Int),(4:Int)) else(zj.mk (c.Recs++[zi.mk ((c.Recs.length:Int)+1) k q 1 []]) c.Order,(c.Recs.length:Int)+1,(0:Int)))→z8 c k q false=some x∧qA c k q false=some x:=by
   intro x hx
   subst hx
   unfold z8 qA
   simp only[Bool.false_eq_true,if_false,Zs _ h,Ys _ h,J6 _ _ _ h,xg _ _ _ h,Option.bind_some,ew]
   have hle:(c.Recs++[zi.mk ((c.Recs.length:Int)+1) k q 1 []]).length≤2147483648:=by simp;omega
   by_cases h1:0 < Z4 c k q
   ·simp only[h1,if_true,and_self]
   ·by_cases h2:(c.Recs.length:Int)=60
    ·simp only[h1,h2,if_true,if_false,and_self]
    ·simp only[h1,h2,hle,if_true,if_false,and_self]
  cases zP k 0 1000000000<;>cases zP q 1 1000000000<;>simp only[Bool.false_eq_true,if_true,if_false,Bool.not_true,Bool.not_false,Bool.and_true,Bool.and_false]<;>first|exact Z|exact hJ _ rfl
theorem zev{c:zj}{k q:Int}(hc:zS c=true)(h1:zP k 0 1000000000=true)(h2:zP q 1 1000000000=true)(hf:¬0 < Z4 c k q)(hn:¬(c.Recs.length:Int)=60):
  zS (zj.mk (c.Recs++[zi.mk ((c.Recs.length:Int)+1) k q 1 []]) c.Order)=true∧JW (Xu k q) (c.Recs++[zi.mk ((c.Recs.length:Int)+1) k q 1 []])=(c.Recs.length:Int):=by
 have hno:∀r∈c.Recs,Xu k q r=false:=by
  have h0:=JF (Xu k q) c.Recs
  unfold Z4 at hf
  rw[if_pos hc] at hf
  rw[decide_eq_false (by omega)] at h0
  have h0:=h0.symm
  rw[List.any_eq_false] at h0
  intro r hr
  have:=h0 r hr
  simpa using this
 constructor
 ·have hlen:=qH hc
  unfold zS at hc ⊢
  simp only[Bool.and_eq_true,decide_eq_true_eq,List.all_eq_true,List.mem_range] at hc ⊢
  obtain⟨⟨⟨g1,g2⟩,g3⟩,g4⟩:=hc
  refine⟨⟨⟨by simp;omega,fun i hi=> ?_⟩,fun i hi=> ?_⟩,?_⟩
  ·rw[List.length_append,List.length_singleton] at hi
   by_cases hlt:i < c.Recs.length
   ·have:=g2 i hlt
    unfold YY at this ⊢
    rw[List.getElem?_append_left hlt,List.take_append_of_le_length (by omega)]
    exact this
   ·have:i=c.Recs.length:=by omega
    subst this
    unfold YY
    rw[List.getElem?_append_right (Nat.le_refl _),Nat.sub_self]
    simp only[List.getElem?_cons_zero,List.take_left']
    simp only[decide_true,Bool.true_and,Bool.and_eq_true,Bool.not_eq_true']
    refine⟨?_,?_⟩
    ·unfold jO
     rw[h1,h2]
     rfl
    ·rw[List.any_eq_false]
     intro r hr
     have:=hno r hr
     unfold Xu at this
     unfold ZJ
     simp only[Bool.and_eq_true,decide_eq_true_eq,not_and]
     simp only[Bool.and_eq_false_iff,decide_eq_false_iff_not] at this
     intro e1 e2
     rcases this with h|h
     ·exact h (by first|exact e1|exact e1.symm)
     ·exact h (by first|exact e2|exact e2.symm)
  ·have:=g3 i hi
   unfold ZB at this ⊢
   cases ho:c.Order[i]? with
   |none=>rfl
   |some o=>
    rw[ho] at this
    simp only[Bool.and_eq_true] at this ⊢
    obtain⟨⟨a1,a2⟩,a3⟩:=this
    unfold zP at a1 ⊢
    simp only[Bool.and_eq_true,decide_eq_true_eq] at a1 ⊢
    have hlt:(o - 1).toNat < c.Recs.length:=by omega
    rw[List.getElem?_append_left hlt]
    exact⟨⟨⟨a1.1,by simp;omega⟩,a2⟩,a3⟩
  ·rw[List.countP_append]
   simpa[Jc] using g4
 ·unfold JW
  have:(c.Recs++[zi.mk ((c.Recs.length:Int)+1) k q 1 []]).findIdx? (Xu k q)=some c.Recs.length:=by
   rw[List.findIdx?_eq_some_iff_getElem]
   refine⟨by simp,by simp[Xu],fun j hj=> ?_⟩
   rw[List.getElem_append_left hj,hno _ (List.getElem_mem hj)]
   simp
  rw[this]
def xb(c d:zj):Prop:=zS d=true∧(∃xs,d.Order=c.Order++xs)∧c.Recs.length≤d.Recs.length∧∀i (h:i < c.Recs.length),2 < c.Recs[i].State→∃h':i < d.Recs.length,d.Recs[i].State=c.Recs[i].State
theorem xb.same{c:zj}(h:zS c=true):xb c c:=⟨h,⟨[],by simp⟩,Nat.le_refl _,fun i hi _=>⟨hi,rfl⟩⟩
def zel(r:zi):Int×Int:=(r.Client,r.Req)
theorem zdT(q:zi)(xs:List zi):xs.any (ZJ q)=(xs.map zel).any (fun p=>decide (p.1=q.Client)&&decide (p.2=q.Req)):=by
 rw[List.any_map];rfl
theorem zf2{xs:List zi}{k:Nat}(hk:k < xs.length){r:zi}(e2:r.Client=xs[k].Client)(e3:r.Req=xs[k].Req):(xs.set k r).map zel=xs.map zel:=by
 have:zel r=(xs.map zel)[k]'(by simpa using hk):=by simp[zel,e2,e3]
 rw[List.map_set,this,List.set_getElem_self]
theorem zd0{xs:List zi}{k:Nat}(hk:k < xs.length){r:zi}(e2:r.Client=xs[k].Client)(e3:r.Req=xs[k].Req)(i:Nat)(q:zi):((xs.set k r).take i).any (ZJ q)=(xs.take i).any (ZJ q):=by
 rw[zdT,zdT,List.map_take,List.map_take,zf2 hk e2 e3]
theorem zbC{xs:List zi}{k:Nat}(hk:k < xs.length){r:zi}(e1:r.Tx=xs[k].Tx)(e2:r.Client=xs[k].Client)(e3:r.Req=xs[k].Req)(hr:jO r=true){i:Nat}(hi:i < xs.length)(h:YY xs i=true):YY (xs.set k r) i=true:=by
 unfold YY at h ⊢
 rw[List.getElem?_eq_getElem hi] at h
 rw[List.getElem?_set]
 by_cases e:k=i
 ·subst e
  rw[if_pos rfl,if_pos hi]
  simp only[Bool.and_eq_true,decide_eq_true_eq] at h ⊢
  have hq:ZJ r=ZJ xs[k]:=by unfold ZJ;rw[e2,e3]
  rw[zd0 hk e2 e3,hq]
  exact⟨⟨e1.trans h.1.1,hr⟩,h.2⟩
 ·rw[if_neg e,List.getElem?_eq_getElem hi]
  simp only
  rw[zd0 hk e2 e3]
  exact h
theorem Kl{rs:List zi}{os:List Int}(ts:List Int){k:Nat}(hk:k < rs.length)(hs:rs[k].State≠3)(r:zi){i:Nat}(hi:i < os.length)(h:ZB rs os i=true):ZB (rs.set k r) (os++ts) i=true:=by
 unfold ZB at h ⊢
 rw[List.getElem?_eq_getElem hi] at h
 rw[List.getElem?_append_left hi,List.getElem?_eq_getElem hi,List.take_append_of_le_length (by omega),List.length_set]
 simp only[Bool.and_eq_true] at h ⊢
 obtain⟨⟨a,b⟩,c⟩:=h
 refine⟨⟨a,?_⟩,c⟩
 rw[List.getElem?_set_ne]
 ·exact b
 ·intro e
  rw[←e,List.getElem?_eq_getElem hk] at b
  exact hs (of_decide_eq_true b)
theorem zeD{c:zj}{k:Nat}(hk:k < c.Recs.length)(hc:zS c=true)(hs:c.Recs[k].State≠3){r:zi}(e1:r.Tx=c.Recs[k].Tx)(e2:r.Client=c.Recs[k].Client)(e3:r.Req=c.Recs[k].Req)(hr:jO r=true):
  (r.State≠3→zS (zj.mk (c.Recs.set k r) c.Order)=true)∧(r.State=3→zS (zj.mk (c.Recs.set k r) (c.Order++[(k:Int)+1]))=true):=by
 unfold zS at hc ⊢
 simp only[Bool.and_eq_true,decide_eq_true_eq,List.all_eq_true,List.mem_range] at hc ⊢
 obtain⟨⟨⟨g1,g2⟩,g3⟩,g4⟩:=hc
 have hd:Jc c.Recs[k]=false:=decide_eq_false hs
 have hn:((k:Int)+1 - 1).toNat=k:=by omega
 constructor
 ·intro h3
  refine⟨⟨⟨by simpa using g1,fun i hi=>zbC hk e1 e2 e3 hr (by simpa using hi) (g2 i (by simpa using hi))⟩,fun i hi=> ?_⟩,?_⟩
  ·have:=Kl [] hk hs r hi (g3 i hi)
   simpa using this
  ·have h4:Jc r=false:=decide_eq_false h3
   rw[List.countP_set hk]
   simp only[hd,h4,Bool.false_eq_true,if_false]
   omega
 ·intro h3
  refine⟨⟨⟨by simpa using g1,fun i hi=>zbC hk e1 e2 e3 hr (by simpa using hi) (g2 i (by simpa using hi))⟩,fun i hi=> ?_⟩,?_⟩
  ·rw[List.length_append,List.length_singleton] at hi
   by_cases hlt:i < c.Order.length
   ·exact Kl _ hk hs r hlt (g3 i hlt)
   ·have:i=c.Order.length:=by omega
    subst this
    unfold ZB
    rw[List.getElem?_append_right (Nat.le_refl _),Nat.sub_self,List.take_left' rfl]
    simp only[List.getElem?_cons_zero,List.length_set,Bool.and_eq_true,Bool.not_eq_true',hn]
    refine⟨⟨?_,?_⟩,?_⟩
    ·unfold zP;simp;omega
    ·rw[List.getElem?_set_self hk];exact decide_eq_true h3
    ·rw[List.any_eq_false]
     intro z hz e
     obtain⟨i,hi,rfl⟩:=List.getElem_of_mem hz
     have h:=g3 i hi
     unfold ZB at h
     rw[List.getElem?_eq_getElem hi] at h
     simp only[Bool.and_eq_true] at h
     have e:=of_decide_eq_true e
     have hb:=h.1.2
     rw[←e,hn,List.getElem?_eq_getElem hk] at hb
     exact hs (of_decide_eq_true hb)
  ·have h4:Jc r=true:=decide_eq_true h3
   rw[List.countP_set hk,List.length_append,List.length_singleton]
   simp only[hd,h4,Bool.false_eq_true,if_false,if_true]
   omega
theorem KR{c:zj}{k:Nat}(hk:k < c.Recs.length)(hc:zS c=true)(hs:c.Recs[k].State≤2){r:zi}(e1:r.Tx=c.Recs[k].Tx)(e2:r.Client=c.Recs[k].Client)(e3:r.Req=c.Recs[k].Req)(hr:jO r=true):
  (r.State≠3→xb c (zj.mk (c.Recs.set k r) c.Order))∧(r.State=3→xb c (zj.mk (c.Recs.set k r) (c.Order++[(k:Int)+1]))):=by
 obtain⟨a,b⟩:=zeD hk hc (by omega) e1 e2 e3 hr
 have hst:∀i (h:i < c.Recs.length),2 < c.Recs[i].State→∃h':i < (c.Recs.set k r).length,(c.Recs.set k r)[i].State=c.Recs[i].State:=by
  intro i hi h2
  refine⟨by simpa using hi,?_⟩
  rw[List.getElem_set]
  split
  ·rename_i e;subst e;omega
  ·rfl
 exact⟨fun h=>⟨a h,⟨[],by simp⟩,by simp,hst⟩,fun h=>⟨b h,⟨_,rfl⟩,by simp,hst⟩⟩
theorem zgc{c:zj}(k q:Int)(hc:zS c=true)(h1:zP k 0 1000000000=true)(h2:zP q 1 1000000000=true):xb c (KV c k q).1:=by
 unfold KV
 rw[hc,h1,h2]
 simp only[Bool.and_self,if_true]
 split
 ·exact xb.same hc
 ·rename_i hf
  split
  ·exact xb.same hc
  ·rename_i hn
   refine⟨(zev hc h1 h2 hf hn).1,⟨[],by simp⟩,by simp,fun i hi h=>⟨by simp;omega,?_⟩⟩
   simp only
   rw[List.getElem_append_left hi]
theorem ziA{c:zj}(k:Int)(hs:zH c≤1048576)(hc:zS c=true):∃r,qK c k=some r∧xb c r.1:=by
 have hl:=qH hc
 unfold qK
 simp only[ql _ hs,Zs _ hs,Z8,Option.bind_some,hc,if_true]
 cases hw1:zP k 1 (c.Recs.length:Int) with
 |false=>simp only[Bool.false_eq_true,if_false];exact⟨_,rfl,xb.same hc⟩
 |true=>
  have hw':1≤k∧k≤c.Recs.length:=by unfold zP at hw1;simpa using hw1
  have hk:(k - 1).toNat < c.Recs.length:=by omega
  have e5:IntKind.wrap .i64 (k - 1)=(((k - 1).toNat:Nat):Int):=by rw[w64 (by omega) (by omega)];omega
  simp only[if_true,e5,zX hk,Option.bind_some,Int.toNat_natCast]
  split
  ·exact⟨_,rfl,xb.same hc⟩
  ·refine⟨_,rfl,(KR hk hc (by omega) (r:=zi.mk c.Recs[(k - 1).toNat].Tx c.Recs[(k - 1).toNat].Client c.Recs[(k - 1).toNat].Req 4 c.Recs[(k - 1).toNat].Shares) rfl rfl rfl ?_).1 (by simp)⟩
   have hr:=ZE hc hk
   unfold jO at hr ⊢
   simp only[Bool.and_eq_true] at hr ⊢
   exact⟨hr.1,by simp⟩
theorem zcw{c:zj}(k:Int)(ss:List zf)(h0:zH c≤1048576)(hc:zS c=true)(hss:zG ss≤1048576)(hg:qq ss=true)(h1:ss.any (qX 1)=false)(h2:ss.any (qX 2)=false):∃r,qc c k ss=some r∧xb c r.1:=by
 obtain⟨hsl,_⟩:=yo hss
 unfold qc
 have hn:=(zcG (Qr hg).2).2 ⟨h1,h2⟩
 simp only[ql _ h0,Jt _ hss,Jv _ _ hsl,Option.bind_some,hc,hg,if_true,hn,not_true,decide_false]
 have hz:=Za hc
 have hlen:=qH hc
 have hsg:=Yw hg
 unfold qo jt
 rw[if_neg (by simp)]
 simp only[Zs _ h0,Z8,Option.bind_some]
 cases hw1:zP k 1 (c.Recs.length:Int) with
 |false=>simp only[Bool.false_eq_true,if_false];exact⟨_,rfl,xb.same hc⟩
 |true=>
  have hw':1≤k∧k≤c.Recs.length:=by unfold zP at hw1;simpa using hw1
  have hk:(k - 1).toNat < c.Recs.length:=by omega
  have ek:k=(((k - 1).toNat:Nat):Int)+1:=by omega
  have e5:IntKind.wrap .i64 (k - 1)=(((k - 1).toNat:Nat):Int):=by rw[w64 (by omega) (by omega)];omega
  have hr:=ZE hc hk
  simp only[if_true,e5,zX hk,Option.bind_some]
  split
  ·exact⟨_,rfl,xb.same hc⟩
  ·rename_i c1
   have c1:c.Recs[(k - 1).toNat].State=1:=Classical.byContradiction c1
   simp only[YV _ hss,Option.bind_some,Int.toNat_natCast,List.set_set,QK hk]
   have good:∀st:Int,(st=2∧ss.any (qX 0)=true)∨(st=3∧ss.any (qX 0)=false)→jO (zi.mk c.Recs[(k - 1).toNat].Tx c.Recs[(k - 1).toNat].Client c.Recs[(k - 1).toNat].Req st ss)=true:=by
    intro st h
    unfold jO at hr ⊢
    simp only[Bool.and_eq_true] at hr ⊢
    refine⟨⟨hr.1.1,hg⟩,?_⟩
    rcases h with⟨rfl,h⟩|⟨rfl,h⟩<;>simp[h,h2]
   have sg:=fun(st:Int) (hr:jO (zi.mk c.Recs[(k - 1).toNat].Tx c.Recs[(k - 1).toNat].Client c.Recs[(k - 1).toNat].Req st ss)=true)=>KR (r:=zi.mk c.Recs[(k - 1).toNat].Tx c.Recs[(k - 1).toNat].Client c.Recs[(k - 1).toNat].Req st ss) hk hc (by omega) rfl rfl rfl hr
   split
   ·rename_i hz
    have e0:ss=[]:=List.eq_nil_of_length_eq_zero (by omega)
    rw[if_pos (by simp;omega)]
    have:=(sg 3 (good 3 (Or.inr ⟨rfl,by rw[e0];rfl⟩))).2 rfl
    rw[←ek] at this
    exact⟨_,rfl,this⟩
   ·rename_i hz
    have ha:ss.any (qX 0)=true:=by
     rw[←zb5]
     omega
    exact⟨_,rfl,(sg 2 (good 2 (Or.inl ⟨rfl,ha⟩))).1 (by simp)⟩
theorem zdB{xs:List zf}(H:qq xs=true){n:Nat}(hn:n < xs.length){v:Int}(hv:zP v 0 2=true):qq (xs.set n (zf.mk xs[n].Group xs[n].Reads xs[n].Writes v))=true:=by
 unfold qq at H ⊢
 simp only[Bool.and_eq_true,decide_eq_true_eq,List.all_eq_true,List.mem_range,List.length_set] at H ⊢
 refine⟨H.1,fun i hi=> ?_⟩
 have h:=H.2 i hi
 unfold Qq at h ⊢
 rw[List.getElem?_eq_getElem hi] at h
 have eg:∀j (hj:j < xs.length),∃s,(xs.set n (zf.mk xs[n].Group xs[n].Reads xs[n].Writes v))[j]? =some s∧s.Group=xs[j].Group∧s.Reads=xs[j].Reads∧s.Writes=xs[j].Writes∧(s.Vote=xs[j].Vote∨s.Vote=v):=by
  intro j hj
  rw[List.getElem?_set]
  by_cases e:n=j
  ·subst e
   rw[if_pos rfl,if_pos hj]
   exact⟨_,rfl,rfl,rfl,rfl,Or.inr rfl⟩
  ·rw[if_neg e,List.getElem?_eq_getElem hj]
   exact⟨_,rfl,rfl,rfl,rfl,Or.inl rfl⟩
 obtain⟨s,e1,e2,e3,e4,e5⟩:=eg i hi
 rw[e1]
 simp only[Bool.and_eq_true,Bool.or_eq_true,beq_iff_eq] at h ⊢
 rw[e2,e3,e4]
 refine⟨⟨⟨⟨h.1.1.1.1,?_⟩,h.1.1.2⟩,h.1.2⟩,?_⟩
 ·rcases h.1.1.1.2 with h0|h0
  ·exact Or.inl h0
  ·right
   by_cases h0i:i - 1 < xs.length
   ·obtain⟨p,p1,p2,_⟩:=eg (i - 1) h0i
    rw[List.getElem?_eq_getElem h0i] at h0
    rw[p1]
    simp only[p2]
    exact h0
   ·omega
 ·rcases e5 with e|e
  ·rw[e];exact h.2
  ·rw[e];exact hv
theorem zcA{xs:List zf}{n:Nat}{s:zf}{z:Int}(h1:xs.any (qX z)=false)(h2:s.Vote≠z):(xs.set n s).any (qX z)=false:=by
 rw[List.any_eq_false] at h1 ⊢
 intro x hx
 rcases List.mem_or_eq_of_mem_set hx with h|h
 ·exact h1 x h
 ·subst h
  unfold qX
  simpa using h2
theorem zhf{c:zj}(k g:Int)(yes:Bool)(h:zH c≤1048576)(hc:zS c=true):∃r,z9 c k g yes=some r∧xb c r.1:=by
 unfold z9
 simp only[ql _ h,Zs _ h,Z8,Option.bind_some,hc,if_true]
 have hlen:=qH hc
 cases hw1:zP k 1 (c.Recs.length:Int) with
 |false=>simp only[Bool.false_eq_true,if_false];exact⟨_,rfl,xb.same hc⟩
 |true=>
  have hw':1≤k∧k≤c.Recs.length:=by unfold zP at hw1;simpa using hw1
  have hk:(k - 1).toNat < c.Recs.length:=by omega
  have ek:k=(((k - 1).toNat:Nat):Int)+1:=by omega
  have e5:IntKind.wrap .i64 (k - 1)=(((k - 1).toNat:Nat):Int):=by rw[w64 (by omega) (by omega)];omega
  have hr:=ZE hc hk
  have hsg:=YS hr
  have hsl:c.Recs[(k - 1).toNat].Shares.length≤4:=(Qr hsg).1
  simp only[if_true,e5,zX hk,Option.bind_some,xT _ _ _ (show c.Recs[(k - 1).toNat].Shares.length≤1048576 by omega)]
  unfold yf
  have hz:=kw (YB g) c.Recs[(k - 1).toNat].Shares c.Recs[(k - 1).toNat].Shares.length
  generalize QE (YB g) c.Recs[(k - 1).toNat].Shares c.Recs[(k - 1).toNat].Shares.length=z at hz
  have over:∃r,qO c yes c.Recs[(k - 1).toNat] z k true=some r∧xb c r.1:=⟨_,rfl,xb.same hc⟩
  by_cases c1:c.Recs[(k - 1).toNat].State=2
  rotate_left
  ·rw[if_pos c1];exact over
  rw[if_neg (fun hne=>hne c1)]
  by_cases c2:z < 0
  ·rw[decide_eq_true c2];exact over
  rw[decide_eq_false c2]
  obtain⟨n,rfl⟩:∃n:Nat,z=(n:Int):=⟨z.toNat,by omega⟩
  have hn:n < c.Recs[(k - 1).toNat].Shares.length:=by omega
  unfold qO jS
  simp only[Bool.false_eq_true,if_false,e5,zX hn,Option.bind_some,Int.toNat_natCast,QK hk,List.set_set]
  have hl2:∀v,(c.Recs[(k - 1).toNat].Shares.set n (zf.mk c.Recs[(k - 1).toNat].Shares[n].Group c.Recs[(k - 1).toNat].Shares[n].Reads c.Recs[(k - 1).toNat].Shares[n].Writes v)).length≤1048576:=fun v=>by rw[List.length_set];omega
  have no2:c.Recs[(k - 1).toNat].Shares.any (qX 2)=false:=by
   have:=hr
   unfold jO at this
   simp only[Bool.and_eq_true] at this
   have:=this.2
   rw[if_neg (by omega),if_pos c1] at this
   simp only[Bool.and_eq_true,Bool.not_eq_true'] at this
   exact this.2
  have good:∀(st v:Int),zP v 0 2=true→(st=4∨st=2∧v≠2∧(c.Recs[(k - 1).toNat].Shares.set n (zf.mk c.Recs[(k - 1).toNat].Shares[n].Group c.Recs[(k - 1).toNat].Shares[n].Reads c.Recs[(k - 1).toNat].Shares[n].Writes v)).any (qX 0)=true∨st=3∧v≠2∧(c.Recs[(k - 1).toNat].Shares.set n (zf.mk c.Recs[(k - 1).toNat].Shares[n].Group c.Recs[(k - 1).toNat].Shares[n].Reads c.Recs[(k - 1).toNat].Shares[n].Writes v)).any (qX 0)=false)→
    jO (zi.mk c.Recs[(k - 1).toNat].Tx c.Recs[(k - 1).toNat].Client c.Recs[(k - 1).toNat].Req st (c.Recs[(k - 1).toNat].Shares.set n (zf.mk c.Recs[(k - 1).toNat].Shares[n].Group c.Recs[(k - 1).toNat].Shares[n].Reads c.Recs[(k - 1).toNat].Shares[n].Writes v)))=true:=by
   intro st v hv h
   unfold jO at hr ⊢
   simp only[Bool.and_eq_true] at hr ⊢
   refine⟨⟨hr.1.1,zdB hsg hn hv⟩,?_⟩
   rcases h with rfl|⟨rfl,hv2,h⟩|⟨rfl,hv2,h⟩
   ·simp
   ·have n2:=zcA (n:=n) (s:=zf.mk c.Recs[(k - 1).toNat].Shares[n].Group c.Recs[(k - 1).toNat].Shares[n].Reads c.Recs[(k - 1).toNat].Shares[n].Writes v) no2 hv2
    rw[if_neg (by omega),if_pos rfl,h,n2]
    rfl
   ·have n2:=zcA (n:=n) (s:=zf.mk c.Recs[(k - 1).toNat].Shares[n].Group c.Recs[(k - 1).toNat].Shares[n].Reads c.Recs[(k - 1).toNat].Shares[n].Writes v) no2 hv2
    rw[if_neg (by omega),if_neg (by omega),if_pos rfl,h,n2]
    rfl
  have sg:=fun(st:Int) (v:Int) (hr:jO (zi.mk c.Recs[(k - 1).toNat].Tx c.Recs[(k - 1).toNat].Client c.Recs[(k - 1).toNat].Req st (c.Recs[(k - 1).toNat].Shares.set n (zf.mk c.Recs[(k - 1).toNat].Shares[n].Group c.Recs[(k - 1).toNat].Shares[n].Reads c.Recs[(k - 1).toNat].Shares[n].Writes v)))=true)=>KR (r:=zi.mk c.Recs[(k - 1).toNat].Tx c.Recs[(k - 1).toNat].Client c.Recs[(k - 1).toNat].Req st (c.Recs[(k - 1).toNat].Shares.set n (zf.mk c.Recs[(k - 1).toNat].Shares[n].Group c.Recs[(k - 1).toNat].Shares[n].Reads c.Recs[(k - 1).toNat].Shares[n].Writes v))) hk hc (by omega) rfl rfl rfl hr
  cases yes with
  |false=>
   simp only[Bool.false_eq_true,if_false]
   exact⟨_,rfl,(sg 4 2 (good 4 2 (by decide) (Or.inl rfl))).1 (by simp)⟩
  |true=>
   simp only[if_true,Jv _ _ (hl2 1),Option.bind_some,zaq]
   split
   ·rename_i hv
    rw[if_pos (by simp;omega)]
    have:=(sg 3 1 (good 3 1 (by decide) (Or.inr (Or.inr ⟨rfl,by decide,hv⟩)))).2 rfl
    rw[←ek] at this
    exact⟨_,rfl,this⟩
   ·rename_i hv
    have hst:zi.mk c.Recs[(k - 1).toNat].Tx c.Recs[(k - 1).toNat].Client c.Recs[(k - 1).toNat].Req c.Recs[(k - 1).toNat].State (c.Recs[(k - 1).toNat].Shares.set n (zf.mk c.Recs[(k - 1).toNat].Shares[n].Group c.Recs[(k - 1).toNat].Shares[n].Reads c.Recs[(k - 1).toNat].Shares[n].Writes 1))=zi.mk c.Recs[(k - 1).toNat].Tx c.Recs[(k - 1).toNat].Client c.Recs[(k - 1).toNat].Req 2 (c.Recs[(k - 1).toNat].Shares.set n (zf.mk c.Recs[(k - 1).toNat].Shares[n].Group c.Recs[(k - 1).toNat].Shares[n].Reads c.Recs[(k - 1).toNat].Shares[n].Writes 1)):=by rw[c1]
    rw[hst]
    exact⟨_,rfl,(sg 2 1 (good 2 1 (by decide) (Or.inr (Or.inl ⟨rfl,by decide,by simpa using hv⟩)))).1 (by simp)⟩
theorem zdK{c:zj}{m:Nat}{x y:Option (zj×Int)}(h1:jD m x y)(h2:∃r,x=some r∧xb c r.1):∃r,x=some r∧y=some r∧xb c r.1:=by
 obtain⟨r,e1,e2,_⟩:=h1
 obtain⟨q,e3,hg⟩:=h2
 rw[e1,Option.some.injEq] at e3
 subst e3
 exact⟨r,e1,e2,hg⟩
theorem zaT(cb:List Int)(h:cb.length≤1048576):∃c,yj cb=some c∧zH c≤1048576:=by
 unfold yj
 obtain⟨c,ec,hc⟩:=zfH cb h
 obtain⟨n,en,n1,n2⟩:=zeQ cb h 30 (by omega)
 obtain⟨d,c1,ed,hc1,hd⟩:=zbQ hc n (by omega) (by omega)
 simp only[ec,en,ed,Option.bind_some]
 exact⟨_,rfl,hd⟩
theorem zjo{a1:List Int}(h:okS (inK .u8) a1)(hn:a1.length≤1048576)(i:Int)(h0:0≤i)(h1:i≤1000):∃x,Jy a1 i=some x∧0≤x∧x≤255:=by
 unfold Jy
 split
 ·rename_i hlt
  have hk:i.toNat < a1.length:=by omega
  have hx:=h.2 a1[i.toNat] (List.getElem_mem hk)
  unfold inK IntKind.min IntKind.max at hx
  simp only[IntKind.bits,IntKind.signed] at hx
  simp at hx
  have ei:idx a1 i=some a1[i.toNat]:=by
   have:=zX hk
   rwa [show((i.toNat:Nat):Int)=i by omega] at this
  rw[ei,Option.bind_some]
  exact⟨_,rfl,by rw[w64 (by omega) (by omega)];omega,by rw[w64 (by omega) (by omega)];omega⟩
 ·refine⟨_,rfl,?_⟩
  rw[w64 (n:=i * 7) (by omega) (by omega),w64 (by omega) (by omega),Int.tmod_eq_emod_of_nonneg (by omega)]
  omega
theorem zfl{c:zj}(h:zH c≤1048576)(hc:zS c=true){k:Nat}(hk:k < c.Recs.length):jp c ((k:Int)+1)=some c.Recs[k].State:=by
 have hl:=qH hc
 have e5:IntKind.wrap .i64 ((k:Int)+1 - 1)=((k:Nat):Int):=by rw[w64 (by omega) (by omega)];omega
 have hw:zP ((k:Int)+1) 1 (c.Recs.length:Int)=true:=by unfold zP;simp;omega
 unfold jp j5 yk
 simp only[jw _ h,hc,Yz,hw,Option.bind_some,if_true,Bool.not_true,Bool.false_eq_true,if_false,e5,zX hk]
theorem zbx{c:zj}(hc:zS c=true):zH c≤1048576:=by
 have h1:=Za hc
 have h2:=qH hc
 unfold zH
 omega
theorem zfS{c d:zj}(hc:zS c=true)(hg:xb c d)(i z:Int)(kx:List zi×List Int→Option Bool):qG (i,c.Recs,c.Order) kx (z,z,d.Recs,d.Order)=kx (d.Recs,d.Order):=by
 obtain⟨g1,⟨xs,g2⟩,g3,g4⟩:=hg
 have hs:=zbx g1
 have hlc:=qH hc
 have ed:(zj.mk d.Recs d.Order)=d:=rfl
 unfold qG
 have hlen:d.Order.length=c.Order.length+xs.length:=by rw[g2];simp
 simp only[not_true,if_false,ed,jw _ hs,g1,Option.bind_some,if_true]
 rw[if_neg (by omega),decide_eq_false (by omega)]
 unfold jG
 rw[if_neg (by simp)]
 refine Ja (fun i=>(i:Int)) _ c.Order.length (by omega) (fun kb i hi=> ?_) (fun kb=> ?_) rfl
 ·unfold ZQ
  have hd:i < d.Order.length:=by omega
  simp only[zX hi,zX hd,Option.bind_some,yy i _ hi (by omega)]
  rw[if_pos (by omega),if_neg]
  intro h
  apply h
  have:d.Order[i]? =c.Order[i]?:=by rw[g2,List.getElem?_append_left hi]
  rw[List.getElem?_eq_getElem hd,List.getElem?_eq_getElem hi] at this
  exact Option.some.inj this
 ·unfold ZQ ZM
  rw[if_neg (by simp)]
  refine Ja (fun i=>((i+1:Nat):Int)) _ c.Recs.length (by omega) (fun kb i hi=> ?_) (fun kb=> ?_) rfl
  ·unfold ZO
   have e1:IntKind.wrap .i64 (((i+1:Nat):Int) - 1)=(i:Int):=by rw[w64 (by omega) (by omega)];omega
   have e2:IntKind.wrap .i64 (((i+1:Nat):Int)+1)=((i+1+1:Nat):Int):=by rw[w64 (by omega) (by omega)];omega
   have e3:((i+1:Nat):Int)=(i:Int)+1:=by omega
   have hdi:i < d.Recs.length:=by omega
   have es:=zfl hs g1 hdi
   simp only[ed,e1,zX hi,Option.bind_some]
   rw[if_pos (by omega)]
   unfold yF
   rw[e2]
   split
   ·rename_i h2
    obtain⟨_,h3⟩:=g4 i hi h2
    rw[e3,es]
    simp only[Option.bind_some,h3,not_true,decide_false,Bool.false_eq_true,if_false]
   ·simp
  ·unfold ZO ZI
   rw[if_neg (by show ¬((c.Recs.length+1:Nat):Int)≤(c.Recs.length:Int);omega)]
theorem zeh{g:Int}(h0:0≤g)(h1:g≤2):qq [zf.mk g [] [qj.mk 1 2] 0]=true:=by
 have hw:Ze [qj.mk 1 2]=true:=by decide
 have h3:zP g 0 3=true:=by unfold zP;simp;omega
 unfold qq
 simp only[List.length_cons,List.length_nil,List.all_eq_true,List.mem_range,Bool.and_eq_true,decide_eq_true_eq]
 refine⟨by omega,fun i hi=> ?_⟩
 have:i=0:=by omega
 subst this
 unfold Qq
 simp only[List.getElem?_cons_zero,h3,hw]
 rfl
theorem zbZ(a1:List Int)(h:okS (inK .u8) a1):QA a1=some true:=by
 unfold QA xw
 simp only[Option.bind_some,decide_eq_true_eq]
 split
 ·rfl
 rename_i hbig
 have hn:a1.length≤1048576:=by omega
 obtain⟨c,ed,hs⟩:=zaT a1 hn
 simp only[ed,ql _ hs,Option.bind_some]
 cases hc:zS c with
 |false=>
  simp only[Bool.false_eq_true,if_false,jw _ hs,hc,Option.bind_some]
  unfold jp
  simp only[jw _ hs,hc,Option.bind_some]
  rfl
 |true=>
  simp only[if_true]
  refine XG (fun(i:Nat) (s:Int×List zi×List Int)=>s.1=(i:Int)∧zS (zj.mk s.2.1 s.2.2)=true) 14 (by omega) ⟨rfl,hc⟩ (fun o=>o=some true) (fun i hi s ⟨h1,h2⟩ kb=> ?_) (fun s ⟨h1,h2⟩ kb=> ?_)
  ·obtain⟨s0,rs,os⟩:=s
   simp only at h1 h2
   subst h1
   have hz:=zbx h2
   have hl:=qH h2
   simp only at hl
   have e3:IntKind.wrap .i64 (3 * (i:Int))=3 * (i:Int):=w64 (by omega) (by omega)
   have e4:IntKind.wrap .i64 (3 * (i:Int)+1)=3 * (i:Int)+1:=w64 (by omega) (by omega)
   have e5:IntKind.wrap .i64 (3 * (i:Int)+2)=3 * (i:Int)+2:=w64 (by omega) (by omega)
   have e6:IntKind.wrap .i64 ((rs.length:Int)+2)=(rs.length:Int)+2:=w64 (by omega) (by omega)
   obtain⟨x,ex,x0,x1⟩:=zjo h hn (3 * (i:Int)) (by omega) (by omega)
   obtain⟨y,ey,y0,y1⟩:=zjo h hn (3 * (i:Int)+1) (by omega) (by omega)
   obtain⟨v,ev,v0,v1⟩:=zjo h hn (3 * (i:Int)+2) (by omega) (by omega)
   have fin:∀r:zj×Int,xb (zj.mk rs os) r.1→∃s',(s'.1=((i+1:Nat):Int)∧zS (zj.mk s'.2.1 s'.2.2)=true)∧qG ((i:Int),rs,os) (qa kb ((i:Int),rs,os)) (r.2,r.2,r.1.Recs,r.1.Order)=kb s':=by
    intro r hg
    have:=zfS h2 hg (i:Int) r.2 (qa kb ((i:Int),rs,os))
    rw[this]
    exact⟨_,⟨yy i 14 hi (by omega),hg.1⟩,rfl⟩
   have t5:Int.tmod y 5=y % 5:=Int.tmod_eq_emod_of_nonneg y0
   have t9:Int.tmod v 9=v % 9:=Int.tmod_eq_emod_of_nonneg v0
   have t3:Int.tmod y 3=y % 3:=Int.tmod_eq_emod_of_nonneg y0
   unfold ZK
   simp only[e3,e4,e5,e6,ex,ey,ev,Option.bind_some]
   rw[if_pos (by omega),if_pos (by omega)]
   split
   ·have e7:IntKind.wrap .i64 (1+Int.tmod v 9)=1+v % 9:=by rw[t9];exact w64 (by omega) (by omega)
    have w1:zP (Int.tmod y 5) 0 1000000000=true:=by rw[t5];unfold zP;simp;omega
    have w2:zP (1+v % 9) 1 1000000000=true:=by unfold zP;simp;omega
    obtain⟨b1,b2⟩:=zfv (zj.mk rs os) (Int.tmod y 5) (1+v % 9) hz
    rw[e7,b1,b2]
    simp only[Option.bind_some]
    exact fin ((KV (zj.mk rs os) (Int.tmod y 5) (1+v % 9)).1,(KV (zj.mk rs os) (Int.tmod y 5) (1+v % 9)).2.2) (zgc _ _ h2 w1 w2)
   ·split
    ·split
     ·obtain⟨r,r1,r2,hg⟩:=zdK (kT (zj.mk rs os) (Int.tmod x ((rs.length:Int)+2)) [] (by have:zG []=0:=rfl;have:=Za h2;unfold zH;simp only at this ⊢;omega)) (zcw (c:=zj.mk rs os) (Int.tmod x ((rs.length:Int)+2)) [] hz h2 (by decide) (by decide) rfl rfl)
      rw[r1,r2]
      simp only[Option.bind_some]
      exact fin r hg
     ·have hss:zG [zf.mk (Int.tmod y 3) [] [qj.mk 1 2] 0]=2:=rfl
      obtain⟨r,r1,r2,hg⟩:=zdK (kT (zj.mk rs os) (Int.tmod x ((rs.length:Int)+2)) [zf.mk (Int.tmod y 3) [] [qj.mk 1 2] 0] (by have:=Za h2;unfold zH;simp only at this ⊢;omega)) (zcw (c:=zj.mk rs os) (Int.tmod x ((rs.length:Int)+2)) [zf.mk (Int.tmod y 3) [] [qj.mk 1 2] 0] hz h2 (by omega) (zeh (by omega) (by omega)) rfl rfl)
      rw[r1,r2]
      simp only[Option.bind_some]
      exact fin r hg
    ·split
     ·obtain⟨r,r1,r2,hg⟩:=zdK (zcE (zj.mk rs os) (Int.tmod x ((rs.length:Int)+2)) (Int.tmod y 3) (decide (y < 200)) hz) (zhf (c:=zj.mk rs os) (Int.tmod x ((rs.length:Int)+2)) (Int.tmod y 3) (decide (y < 200)) hz h2)
      rw[r1,r2]
      simp only[Option.bind_some]
      exact fin r hg
     ·obtain⟨r,r1,r2,hg⟩:=zdK (zce (zj.mk rs os) (Int.tmod x ((rs.length:Int)+2)) hz) (ziA (c:=zj.mk rs os) (Int.tmod x ((rs.length:Int)+2)) hz h2)
      rw[r1,r2]
      simp only[Option.bind_some]
      exact fin r hg
  ·unfold ZK ZH
   rw[if_neg (by omega)]
end Go.AW
