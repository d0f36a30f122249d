/- Plain laws: what the plain functions answer. Conditions: each theorem's own. -/
import Derived.Test.YtpabbbmfcgnhdaaGreatMFnAnswered
set_option linter.unusedVariables false
set_option linter.unusedSimpArgs false
set_option maxRecDepth 100000
namespace Go.AW
theorem w64{n:Int}(h1:-9223372036854775808≤n)(h2:n < 9223372036854775808):IntKind.wrap .i64 n=n:=by
 rw[IntKind.wrap_i64];omega
theorem zaR{α:Type}{xs:List α}{i:Nat}(h:i < xs.length):idx xs (i:Int)=some xs[i]:=by
 unfold idx;rw[if_pos (by omega)];simp[h]
theorem zi7{α:Type}(xs:List α)(i:Nat):idx xs (i:Int)=xs[i]?:=by
 unfold idx;rw[if_pos (by omega)];simp
theorem zh6{S R:Type}{f:(S→Option R)→S→Option R}(st:Nat→S)(stop:Nat→Option (Option R))(k:Option R)(n:Nat)
  (hs:∀kb i,i < n→(∀j,j < i→stop j=none)→f kb (st i)=match stop i with|some r=>r|none=>kb (st (i+1))) (he:∀kb,(∀j,j < n→stop j=none)→f kb (st n)=k):
  ∀(m i:Nat),i≤n→(∀j,j < i→stop j=none)→n - i < m→iter f m (st i)=match ((List.range n).drop i).findSome? stop with|some r=>r|none=>k
 |0,i,_,_,h=>by omega
 |m+1,i,hi,hp,h=>by
  unfold iter;by_cases e:i=n
  ·subst e;rw[he _ hp];simp[List.drop_eq_nil_of_le]
  ·have hlt:i < n:=by omega
   rw[hs _ i hlt hp,List.drop_eq_getElem_cons (by simpa using hlt)];simp only[List.getElem_range,List.findSome?_cons];cases hq:stop i with
   |some r=>rfl
   |none=>exact zh6 st stop k n hs he m (i+1) (by omega) (fun j hj=>by
     by_cases e':j=i
     ·subst e';exact hq
     ·exact hp j (by omega)) (by omega)
theorem zhn{S R:Type}{f:(S→Option R)→S→Option R}(st:Nat→S)(stop:Nat→Option (Option R))(k:Option R)(n:Nat)(hn:n≤1152921504606846976)
  (hs:∀kb i,i < n→(∀j,j < i→stop j=none)→f kb (st i)=match stop i with|some r=>r|none=>kb (st (i+1))) (he:∀kb,(∀j,j < n→stop j=none)→f kb (st n)=k) {s0:S} (h0:s0=st 0):
  iter f FU s0=match (List.range n).findSome? stop with|some r=>r|none=>k:=by
 subst h0;have:=zh6 st stop k n hs he FU 0 (by omega) (fun j hj=>by omega) (by unfold FU;omega);simpa using this
theorem ziV{S R:Type}{f:(S→Option R)→S→Option R}(st:Nat→S)(stop:Nat→Option (Option R))(k:Option R)(n:Nat)(hn:n≤1152921504606846976)
  (hs:∀kb i,i < n→f kb (st i)=match stop i with|some r=>r|none=>kb (st (i+1))) (he:∀kb,f kb (st n)=k) {s0:S} (h0:s0=st 0):
  iter f FU s0=match (List.range n).findSome? stop with|some r=>r|none=>k:=
 zhn st stop k n hn (fun kb i hi _=>hs kb i hi) (fun kb _=>he kb) h0
theorem YP{S R:Type}{f:(S→Option R)→S→Option R}(st:Nat→S)(k:Option R)(n:Nat)(hn:n≤1152921504606846976)
  (hs:∀kb i,i < n→f kb (st i)=kb (st (i+1))) (he:∀kb,f kb (st n)=k) {s0:S} (h0:s0=st 0):iter f FU s0=k:=by
 rw[ziV st (fun _=>none) k n hn (fun kb i hi=>hs kb i hi) he h0];have:(List.range n).findSome? (fun _=>(none:Option (Option R)))=none:=by
  rw[List.findSome?_eq_none_iff];intro x _;rfl
 rw[this]
theorem zo0(i:Nat)(n:Nat)(h:i < n)(hn:n≤1152921504606846976):IntKind.wrap .i64 ((i:Int)+1)=((i+1:Nat):Int):=by
 rw[w64 (by omega) (by omega)];omega
def YA(n:Nat):List Int:=if h:n≤127 then[(n:Int)] else((n % 128+128:Nat):Int)::YA (n / 128)
termination_by n
theorem Yh{n:Nat}(h:n≤127):YA n=[(n:Int)]:=by unfold YA;rw[dif_pos h]
theorem zao{n:Nat}(h:¬n≤127):YA n=((n % 128+128:Nat):Int)::YA (n / 128):=by rw[YA];rw[dif_neg h]
theorem kJ:∀(k n:Nat),n < 128 ^ (k+1)→(YA n).length≤k+1∧1≤(YA n).length
 |0,n,h=>by rw[Yh (by omega)];simp
 |k+1,n,h=>by
  by_cases e:n≤127
  ·rw[Yh e];simp
  ·rw[zao e];have:=kJ k (n / 128) (by rw[Nat.pow_succ] at h;exact Nat.div_lt_of_lt_mul (by rw[Nat.mul_comm];exact h));simp;omega
theorem w8{n:Int}(h1:0≤n)(h2:n < 256):IntKind.wrap .u8 n=n:=by
 simp only[IntKind.wrap,IntKind.bits,IntKind.signed];simp;omega
theorem zi8(fuel:Nat):∀(k n:Nat) (acc:List Int),n < 128 ^ (k+1)→k≤8→k < fuel→acc.length+k≤1000→iter (yK j5) fuel ((n:Int),acc)=some (acc++YA n):=by
 induction fuel with
 |zero=>intro k n acc _ _ h;omega
 |succ fuel ih=>
  intro k n acc h hk hf ha;rw[show iter (yK j5) (fuel+1) ((n:Int),acc)=yK j5 (iter (yK j5) fuel) ((n:Int),acc) from rfl];generalize iter (yK j5) fuel=kb at ih ⊢;unfold yK;by_cases e:n≤127
  ·rw[if_neg (by simp only;omega),Yh e];unfold j5;simp only;rw[if_pos (by simp;omega),w8 (by omega) (by omega)]
  ·rw[if_pos (by simp only;omega),if_pos (by simp;omega)];have hn:n < 128 ^ 9:=Nat.lt_of_lt_of_le h (Nat.pow_le_pow_right (by decide) (by omega));have h9:(128:Nat) ^ 9=9223372036854775808:=by decide
   have e1:IntKind.wrap .u8 (IntKind.wrap .i64 (Int.tmod (n:Int) 128+128))=((n % 128+128:Nat):Int):=by
    have:Int.tmod (n:Int) 128=((n % 128:Nat):Int):=by
     rw[Int.tmod_eq_emod_of_nonneg (by omega)];rfl
    rw[this,w64 (by omega) (by omega),w8 (by omega) (by omega)];omega
   have e2:IntKind.wrap .i64 (Int.tdiv (n:Int) 128)=((n / 128:Nat):Int):=by
    have:Int.tdiv (n:Int) 128=((n / 128:Nat):Int):=by
     rw[Int.tdiv_eq_ediv_of_nonneg (by omega)];rfl
    rw[this,w64 (by omega) (by omega)]
   cases k with
   |zero=>omega
   |succ k=>
    simp only[e1,e2];rw[ih k (n / 128) _ (by rw[Nat.pow_succ] at h;exact Nat.div_lt_of_lt_mul (by rw[Nat.mul_comm];exact h)) (by omega) (by omega) (by simp;omega),zao e];simp
theorem zgj(n:Nat)(h:n < 128 ^ 9):yy (n:Int)=some (YA n):=by
 unfold yy;rw[if_neg (by omega),zi8 FU 8 n [] h (by omega) (by unfold FU;omega) (by simp)];rfl
theorem zik{α β:Type}{x:Option α}{f:α→Option β}{a:α}{r:β}(h1:x=some a)(h2:f a=some r):x.bind f=some r:=by rw[h1];exact h2
theorem zhu{α:Type}{c:Prop}[d:Decidable c]{x y:α}{r:α}(h:decide c=true)(h2:x=r):(if c then x else y)=r:=by rw[if_pos (of_decide_eq_true h)];exact h2
theorem zgG{α:Type}{c:Prop}[d:Decidable c]{x y:α}{r:α}(h:decide c=false)(h2:y=r):(if c then x else y)=r:=by rw[if_neg (of_decide_eq_false h)];exact h2
theorem zeT{S R:Type}{f:(S→Option R)→S→Option R}{n:Nat}{s:S}{r:Option R}(h:f (iter f n) s=r):iter f (n+1) s=r:=h
theorem evl{P:Prop}(h:P:=by
 repeat' first
  |with_reducible assumption
  |with_reducible rfl
  |apply zik
  |(apply zhu;with_unfolding_all exact O)
  |(apply zgG;with_unfolding_all exact O)
  |apply zeT
  |rfl):P:=h
theorem zie{pre post:List Int}{x:Int}{i:Int}(h:i=(pre.length:Int)):idx (pre++x::post) i=some x:=by
 subst h;rw[zi7];simp
theorem zGl(i:Nat):(2:Int) ^ (7 * i)=((128 ^ i:Nat):Int):=by
 rw[Int.pow_mul];simp
theorem wN{n:Nat}(h:n < 2 ^ 62):IntKind.wrap .i64 (n:Int)=(n:Int):=w64 (by omega) (by omega)
theorem zi6(a1:List Int)(at_:Nat)(ha:a1.length≤1000000)(fuel:Nat):∀(k i x acc:Nat) (pre post:List Int),a1=pre++(YA x++post)→pre.length=at_+i→x < 128 ^ (k+1)→i+k≤8→(0 < x∨i=0)→acc+x * 128 ^ i < 2 ^ 62→k < fuel→
  iter (yE (at_:Int) a1) fuel ((acc:Int),(i:Int))=some (((acc+x * 128 ^ i:Nat):Int),((at_+i+(YA x).length:Nat):Int),true):=by
 induction fuel with
 |zero=>intro k i x acc pre post _ _ _ _ _ _ h;omega
 |succ fuel ih=>
  intro k i x acc pre post he hp hx hk h0 hs hf;rw[show iter (yE (at_:Int) a1) (fuel+1) ((acc:Int),(i:Int))=yE (at_:Int) a1 (iter (yE (at_:Int) a1) fuel) ((acc:Int),(i:Int)) from rfl];generalize iter (yE (at_:Int) a1) fuel=kb at ih ⊢;have hl:a1.length=pre.length+((YA x).length+post.length):=by rw[he];simp
  have hpl:=(kJ k x hx).2;have e1:IntKind.wrap .i64 ((at_:Int)+(i:Int))=((at_+i:Nat):Int):=by rw[w64 (by omega) (by omega)];omega
  have e2:IntKind.wrap .i64 (7 * (i:Int))=((7 * i:Nat):Int):=by rw[w64 (by omega) (by omega)];omega
  have hmin:min (Int.toNat ((7 * i:Nat):Int)) (IntKind.bits .i64)=7 * i:=by
   simp only[Int.toNat_natCast,IntKind.bits];omega
  have hpos:0 < 128 ^ i:=Nat.pow_pos (by decide);have add:∀y:Nat,acc+y * 128 ^ i < 2 ^ 62→IntKind.wrap .i64 ((acc:Int)+IntKind.wrap .i64 (IntKind.wrap .i64 (y:Int) * ((128 ^ i:Nat):Int)))=((acc+y * 128 ^ i:Nat):Int):=by
   intro y hy;have h1:y≤y * 128 ^ i:=Nat.le_mul_of_pos_right _ hpos;have h2:(y:Int) * ((128 ^ i:Nat):Int)=((y * 128 ^ i:Nat):Int):=(Int.natCast_mul _ _).symm;generalize y * 128 ^ i=p at *;rw[wN (by omega),h2,wN (by omega),←Int.natCast_add,wN hy]
  unfold yE;simp only[e1,e2,hmin,zGl];rw[if_pos (by omega),if_pos (by omega)];by_cases e:x≤127
  ·have hb:idx a1 ((at_+i:Nat):Int)=some (x:Int):=by rw[he,Yh e];exact zie (by omega)
   have ht:Int.tmod (x:Int) 128=(x:Int):=by rw[Int.tmod_eq_emod_of_nonneg (by omega)];omega
   have hend:ZK ((acc:Int),(i:Int)) (x:Int) (at_:Int) ()=some (((acc+x * 128 ^ i:Nat):Int),((at_+i+(YA x).length:Nat):Int),true):=by
    unfold ZK;simp only[e1,e2,hmin,zGl,ht,Yh e];rw[add x hs,w64 (by omega) (by omega)];rfl
   simp only[hb,Option.bind_some];rw[if_pos (by omega),if_neg (by omega)];by_cases z:x=0
   ·rw[if_pos (by omega),if_neg (by omega)];exact hend
   ·rw[if_neg (by omega)];exact hend
  ·rw[zao e] at he;have hb:idx a1 ((at_+i:Nat):Int)=some ((x % 128+128:Nat):Int):=by rw[he];exact zie (by omega)
   have ht:Int.tmod ((x % 128+128:Nat):Int) 128=((x % 128:Nat):Int):=by rw[Int.tmod_eq_emod_of_nonneg (by omega)];omega
   simp only[hb,Option.bind_some,ht];rw[if_pos (by omega),if_pos (by omega)];have hdm:x % 128 * 128 ^ i+x / 128 * 128 ^ (i+1)=x * 128 ^ i:=by
    rw[Nat.pow_succ,←Nat.mul_assoc,Nat.mul_right_comm,←Nat.add_mul,Nat.mod_add_div' x 128]
   cases k with
   |zero=>omega
   |succ k=>
    have hlt:acc+x % 128 * 128 ^ i < 2 ^ 62:=by
     generalize x % 128 * 128 ^ i=p1 at *;generalize x / 128 * 128 ^ (i+1)=p2 at *;generalize x * 128 ^ i=p3 at *;omega
    have:=ih k (i+1) (x / 128) (acc+x % 128 * 128 ^ i) (pre++[((x % 128+128:Nat):Int)]) post (by rw[he];simp) (by simp;omega) (by rw[Nat.pow_succ] at hx;exact Nat.div_lt_of_lt_mul (by rw[Nat.mul_comm];exact hx)) (by omega) (.inl (by omega)) (by rw[Nat.add_assoc,hdm];exact hs) (by omega);rw[add _ hlt,w64 (show -9223372036854775808≤(i:Int)+1 by omega) (by omega),show(i:Int)+1=((i+1:Nat):Int) by omega,this,zao e,Nat.add_assoc acc,hdm];simp only[List.length_cons];congr 3;omega
theorem zgy(pre post:List Int)(x:Nat)(hx:x < 2 ^ 40)(hl:(pre++(YA x++post)).length≤1000000):Zf (pre++(YA x++post)) (pre.length:Int)=some ((x:Int),((pre.length+(YA x).length:Nat):Int),true):=by
 have hpl:=(kJ 8 x (by omega)).2;have hlen:(pre++(YA x++post)).length=pre.length+((YA x).length+post.length):=by simp
 have h:=zi6 _ pre.length hl FU 8 0 x 0 pre post O O (by omega) (by omega) (.inr O) (by omega) (by unfold FU;omega);simp only[Nat.pow_zero,Nat.mul_one,Nat.zero_add,Nat.add_zero] at h;unfold Zf qi;rw[w64 (by omega) (by omega),if_pos (by omega)];simp only[Option.bind_some];rw[if_pos (by simp only[decide_eq_true_eq];omega)];exact h
theorem zcy(i n:Nat)(h:i < n)(hn:n≤1000000):IntKind.wrap .i64 ((i:Int)+1)=((i+1:Nat):Int):=zo0 i n h (by omega)
def zqL(r:Int):Int:=if IntKind.wrap .u32 (BitVec.ofInt (IntKind.bits .u32) r&&& BitVec.ofInt (IntKind.bits .u32) 1).toNat=1 then IntKind.wrap .u32 (BitVec.ofInt (IntKind.bits .u32) (Int.fdiv r<|2 ^ (min (Int.toNat 1)<|IntKind.bits .u32)) ^^^ BitVec.ofInt (IntKind.bits .u32) 3988292384).toNat else Int.fdiv r (2 ^ (min (Int.toNat 1)<|IntKind.bits .u32))
def zi4:Nat→Int→Int
 |0,r=>r
 |n+1,r=>zqL (zi4 n r)
theorem ztI(kx:Int→Option Int)(r:Int):iter (Y0 kx) FU (r,0)=kx (zi4 8 r):=by
 refine YP (fun j=>(zi4 j r,(j:Int))) _ 8 (by omega) (fun kb i hi=> ?_) (fun kb=> ?_) rfl
 ·unfold Y0;simp only;rw[if_pos (by omega),zcy i 8 hi (by omega)];show _=kb (zqL<|zi4 i r,_);unfold zqL;split<;>rfl
 ·unfold Y0;simp only;rw[if_neg (by omega)]
def zoP(b:List Int):Nat→Int
 |0=>4294967295
 |n+1=>zi4 8 (IntKind.wrap .u32 (BitVec.ofInt (IntKind.bits .u32) (zoP b n) ^^^ BitVec.ofInt (IntKind.bits .u32) (IntKind.wrap .u32<|(b[n]?).getD 0)).toNat)
theorem zGW(b:List Int)(h:b.length≤1000000):Kv b=some (IntKind.wrap .i64<|zhP .u32<|zoP b b.length):=by
 refine YP (fun j=>(zoP b j,(j:Int))) _ b.length (by omega) (fun kb i hi=> ?_) (fun kb=> ?_) rfl
 ·unfold Xr;simp only;rw[if_pos (by omega),zaR hi,Option.bind_some,ztI];unfold Xq;simp only;rw[zcy i b.length hi h];show _=kb (zi4 8 _,_);rw[List.getElem?_eq_getElem hi];rfl
 ·unfold Xr;simp only;rw[if_neg (by omega)]
theorem wI{n:Int}(h1:0≤n)(h2:n≤10000000000):IntKind.wrap .i64 n=n:=w64 (by omega) (by omega)
theorem ziQ(a b c:List Int)(h:a.length+b.length+c.length≤1000000):yJ [a,b,c]=some (a++(b++c)):=by
 unfold yJ;refine YP (fun j=>(((([a,b,c].take j).map fun x=>(x.length:Int)).sum),(j:Int))) _ 3 (by omega) (fun kb i hi=> ?_) (fun kb=> ?_) rfl
 ·unfold Za
  match i,hi with
  |0,_=>simp[idx];rw[wI (by omega) (by omega),if_neg (by omega)];rfl
  |1,_=>simp[idx];rw[wI (by omega) (by omega),if_neg (by omega)];rfl
  |2,_=>simp[idx];rw[wI (by omega) (by omega),if_neg (by omega)];simp[Int.add_assoc];rfl
 ·unfold Za;simp;unfold ZE Yr;rw[if_pos ⟨by omega,by omega⟩,Option.bind_some];refine YP (fun j=>(([a,b,c].take j).flatten,(j:Int))) _ 3 (by omega) (fun kb i hi=> ?_) (fun kb=> ?_) rfl
  ·unfold ZD
   match i,hi with
   |0,_=>simp[idx];rw[if_pos (by omega)];rfl
   |1,_=>simp[idx];rw[if_pos (by omega)];rfl
   |2,_=>simp[idx];rw[if_pos (by omega)];rfl
  ·unfold ZD;simp[ZC]
def zjK(b:List Int):List Int:=
 let n:=IntKind.wrap .i64 (zhP .u32<|zoP b b.length)
 [IntKind.wrap .u8 n,IntKind.wrap .u8<|Int.fdiv n<|2 ^ (min (Int.toNat 8)<|IntKind.bits .i64),IntKind.wrap .u8<|Int.fdiv n<|2 ^ (min (Int.toNat 16)<|IntKind.bits .i64),IntKind.wrap .u8<|Int.fdiv n<|2 ^ (min (Int.toNat 24)<|IntKind.bits .i64)]
def frm(b:List Int):List Int:=YA b.length++(b++zjK b)
theorem ziy(b:List Int)(h:b.length≤4000):Jt b=some (frm b,true):=by
 have hp:=(kJ 1 b.length (by omega)).1;unfold Jt;rw[if_neg (by omega),zGW b (by omega),Option.bind_some,zgj b.length (by omega),Option.bind_some,ziQ _ _ _ (by simp;omega)];rfl
theorem zkg(b:List Int):(zjK b).length=4:=rfl
theorem zit(b:List Int):(frm b).length=(YA b.length).length+(b.length+4):=by simp[frm,zjK]
theorem zmx(b:List Int)(h:b.length≤1000000):y6 b b=some true:=by
 unfold y6;rw[if_neg (by simp)];refine YP (fun j=>(j:Int)) _ b.length (by omega) (fun kb i hi=> ?_) (fun kb=> ?_) rfl
 ·unfold ZT;rw[if_pos (by omega),zaR hi,Option.bind_some,Option.bind_some,if_neg (by simp),zcy i b.length hi h]
 ·unfold ZT;rw[if_neg (by omega)]
theorem zoj(b:List Int)(h:b.length≤1000000):y7 b=some b:=by
 unfold y7 jT;rw[if_pos (show b.length≤2147483648 by omega)];split<;>rfl
theorem ziX(b:List Int)(h:b.length≤4000):Jr (frm b) 0=some (b,((frm b).length:Int),0):=by
 have hp:=(kJ 1 b.length (by omega)).1;have hl:=zit b;have hc:=zkg b;have hg:=zgy [] (b++zjK b) b.length (by omega) (by simp;omega);simp only[List.nil_append,List.length_nil,Nat.zero_add] at hg;have hg:Zf (frm b) 0=_:=hg;have e1:IntKind.wrap .i64 (((YA b.length).length:Int)+(b.length:Int))=(((YA b.length).length+b.length:Nat):Int):=by rw[wI (by omega) (by omega)];omega
 have e2:IntKind.wrap .i64 ((((YA b.length).length+b.length:Nat):Int)+4)=((frm b).length:Int):=by rw[wI (by omega) (by omega),hl];omega
 have c1:cut (frm b) ((YA b.length).length:Int) (((YA b.length).length+b.length:Nat):Int)=some b:=by
  unfold cut;rw[if_pos ⟨by omega,by omega,by omega⟩,Int.toNat_natCast,Int.toNat_natCast];simp[frm]
 have c2:cut (frm b) 0 ((frm b).length:Int)=some (frm b):=by
  unfold cut;rw[if_pos ⟨by omega,by omega,by omega⟩,Int.toNat_natCast];simp
 have c3:IntKind.wrap .i64 (((frm b).length:Int) - ((YA b.length).length:Int))=(b.length:Int)+4:=by rw[wI (by omega) (by omega)];omega
 have c4:IntKind.wrap .i64 ((b.length:Int)+4)=(b.length:Int)+4:=wI (by omega) (by omega);unfold Jr;rw[hg,Option.bind_some];simp only;rw[if_pos trivial,if_neg (by omega),c3,c4,if_neg (by omega),e1,e2,c1,Option.bind_some,zoj b (by omega),Option.bind_some,ziy b h,Option.bind_some,c2,Option.bind_some,zmx (frm b) (by omega),Option.bind_some,if_pos rfl]
def pI(x:Int):List Int:=YA x.toNat
def yI(xs:List Int):List Int:=(xs.map pI).flatten
def zeE(xs:List Int)(i:Nat):Int:=((yI<|xs.take i).length:Int)
def okI(x:Int):Prop:=0≤x∧x < 1099511627776
theorem zfY{x:Int}(h:okI x):(pI x).length≤6∧1≤(pI x).length:=kJ 5 x.toNat (by
 have h2:=h.2;have:(128:Nat) ^ (5+1)=4398046511104:=by decide
 omega)
theorem zhf{x:Int}(h:okI x):yy x=some (pI x):=by
 have h9:(128:Nat) ^ 9=9223372036854775808:=by decide
 obtain⟨n,rfl⟩:∃n:Nat,x=(n:Int):=⟨x.toNat,by have:=h.1;omega⟩;exact zgj n (by have:=h.2;omega)
theorem X3:∀{xs:List Int},(∀x∈xs,okI x)→(yI xs).length≤6 * xs.length
 |[],_=>by simp[yI]
 |x::xs,h=>by
  have h1:=zfY (h x (by simp));have h2:=X3 (xs:=xs) fun y hy=>h y (by simp[hy]);simp only[yI,List.map_cons,List.flatten_cons,List.length_append,List.length_cons] at h2 ⊢;omega
theorem zbY(xs ys:List Int):yI (xs++ys)=yI xs++yI ys:=by simp[yI]
theorem zkR(x:Int):yI [x]=pI x:=by simp[yI]
theorem zeZ(xs:List Int)(h:∀x∈xs,okI x)(hl:xs.length≤1000):Jf xs=some (yI xs):=by
 refine YP (fun j=>(yI<|xs.take j,(j:Int))) _ xs.length (by omega) (fun kb i hi=> ?_) (fun kb=> ?_) rfl
 ·have hx:=h xs[i] (List.getElem_mem hi);have e:yI (xs.take (i+1))=yI (xs.take i)++pI xs[i]:=by
   rw[List.take_add_one,zbY,List.getElem?_eq_getElem hi];simp[yI]
  have hb:=X3 (xs:=xs.take i) fun x hx=>h x (List.mem_of_mem_take hx);have h6:=zfY hx;have ht:(xs.take i).length≤xs.length:=by simp;omega
  unfold Yc;simp only;rw[if_pos (by omega),zaR hi,Option.bind_some,if_neg (by have:=hx.1;omega),zhf hx,Option.bind_some,if_pos (by simp only[List.length_append];omega),zcy i xs.length hi (by omega),e]
 ·unfold Yc;simp only;rw[if_neg (by omega),List.take_length]
theorem zCM(xs:List Int)(h:∀x∈xs,okI x)(hl:xs.length≤1000){i:Nat}{x:Int}(hi:xs[i]? =some x):Zf (yI xs) (zeE xs i)=some (x,zeE xs (i+1),true):=by
 obtain⟨hlt,rfl⟩:=List.getElem?_eq_some_iff.1 hi;have hx:=h xs[i] (List.getElem_mem hlt);have e:yI (xs.take (i+1))=yI (xs.take i)++pI xs[i]:=by
  rw[List.take_add_one,zbY,List.getElem?_eq_getElem hlt];simp[yI]
 have e2:yI xs=yI (xs.take i)++(pI xs[i]++yI (xs.drop (i+1))):=by
  rw[←List.append_assoc,←e,←zbY,List.take_append_drop]
 have hb:=X3 h;have g:=zgy (yI<|xs.take i) (yI<|xs.drop (i+1)) xs[i].toNat (by have:=hx.1;have:=hx.2;omega) (by
  have:yI (xs.take i)++(YA xs[i].toNat++yI (xs.drop (i+1)))=yI xs:=e2.symm;rw[this];omega)
 have e3:yI (xs.take i)++(YA xs[i].toNat++yI (xs.drop (i+1)))=yI xs:=e2.symm;rw[e3] at g;unfold zeE;rw[g,e,List.length_append];have:((xs[i].toNat:Nat):Int)=xs[i]:=by have:=hx.1;omega
 rw[this];rfl
theorem ziW(xs:List Int):zeE xs 0=0:=by simp[zeE,yI]
theorem zkA(xs:List Int){n:Nat}(h:xs.length=n):zeE xs n=((yI xs).length:Int):=by subst h;simp[zeE]
def zgX(l:qk):List Int:=[l.Base,0,0,(l.Entries.length:Int)]++(l.Entries.map fun e=>[e.Client,e.Req,e.Cmd.Kind,e.Cmd.Key,e.Cmd.Value]).flatten
def KY(m:qg)(z:Int):List Int:=if z=120 then[m.Cmd.Kind,m.Cmd.Key,m.Cmd.Value] else if z=76 then zgX m.Log else[zf4 z m.From m.View m.Op m.Commit m.Normal m.Nonce m.Client m.Req m.Answer]
theorem zji(l:qk)(h0:qj l=some true)(hc:l.Image=⟨[],[]⟩)(hn:l.Entries.length≤10)(h:∀x∈zgX l,okI x):Q7 l=some (yI<|zgX l,true):=by
 obtain⟨b,im,es⟩:=l;obtain rfl:im=⟨[],[]⟩:=hc;have hn:es.length≤10:=hn;have hl:∀n,((es.take n).map fun e=>[e.Client,e.Req,e.Cmd.Kind,e.Cmd.Key,e.Cmd.Value]).flatten.length=5 * (es.take n).length:=fun n=>by
  generalize es.take n=ys;induction ys with
  |nil=>rfl
  |cons y ys ih=>simp only[List.map_cons,List.flatten_cons,List.length_append,List.length_cons,List.length_nil,ih];omega
 unfold Q7;rw[h0,Option.bind_some,if_pos rfl];refine zeT (n:=4611686018427387903) ?_;unfold xE;rw[if_neg (by simp)];unfold Yg;rw[if_pos (by simp)];refine zeT (n:=4611686018427387903) ?_;unfold xr;rw[if_neg (by simp)];unfold Yb;rw[if_pos (by simp)];refine YP (fun j=>([b,0,0,(es.length:Int)]++((es.take j).map fun e=>[e.Client,e.Req,e.Cmd.Kind,e.Cmd.Key,e.Cmd.Value]).flatten,(j:Int))) _ es.length (by omega) (fun kb i hi=> ?_) (fun kb=> ?_) rfl
 ·have ht:(es.take i).length≤10:=by simp;omega
  have e:((es.take (i+1)).map fun e=>[e.Client,e.Req,e.Cmd.Kind,e.Cmd.Key,e.Cmd.Value]).flatten=((es.take i).map fun e=>[e.Client,e.Req,e.Cmd.Kind,e.Cmd.Key,e.Cmd.Value]).flatten++[es[i].Client,es[i].Req,es[i].Cmd.Kind,es[i].Cmd.Key,es[i].Cmd.Value]:=by
   rw[List.take_add_one,List.getElem?_eq_getElem hi,List.map_append,List.flatten_append];rfl
  unfold Jy;simp only;rw[if_pos (by omega),zaR hi,Option.bind_some,if_pos (by simp only[List.length_append,hl,List.length_cons,List.length_nil];omega),zcy i es.length hi (by omega),e];simp
 ·unfold Jy;simp only;rw[if_neg (by omega),List.take_length];unfold Jz;have hl2:=hl es.length;rw[List.take_length] at hl2;have:=zeZ (zgX ⟨b,⟨[],[]⟩,es⟩) h (by simp only[zgX,List.length_append,hl2,List.length_cons,List.length_nil];omega);simp only[zgX] at this ⊢;rw[this];rfl
structure zFE(v:ByteArray)(fs:List Int):Prop where
 size:v.size=fs.length
 at_:∀i:Nat,sidx v (i:Int)=fs[i]?
def zcE(m:qg)(fs:List Int):List Int:=m.Kind::(fs.map<|KY m).flatten
theorem zgO{f:Int→List Int}:∀{fs:List Int},(∀z∈fs,(f z).length≤60)→((fs.map f).flatten).length≤60 * fs.length
 |[],_=>by simp
 |z::fs,h=>by
  have h1:=h z (by simp);have h2:=zgO (fs:=fs) fun y hy=>h y (by simp[hy]);simp only[List.map_cons,List.flatten_cons,List.length_append,List.length_cons] at h2 ⊢;omega
theorem zDl(m:qg){v:ByteArray}{fs:List Int}(hfit:jH m=some true)(hform:jD m.Kind=some v)(hv:zFE v fs)(hn:fs.length≤10)(hk:okI m.Kind)(hok:∀z∈fs,z≠65∧(KY m z).length≤60∧∀x∈KY m z,okI x)
  (hlog:76∈fs→qj m.Log=some true∧m.Log.Image=⟨[],[]⟩∧m.Log.Entries.length≤10):Zy m=some (frm<|yI<|zcE m fs,true):=by
 have mem:∀{j:Nat} {x:Int},x∈((fs.take j).map<|KY m).flatten→okI x:=fun{j x} hx=>by
  simp only[List.mem_flatten,List.mem_map] at hx;obtain⟨_,⟨z,hz,rfl⟩,hx⟩:=hx;exact(hok z<|List.mem_of_mem_take hz).2.2 x hx
 have len:∀j:Nat,(yI ((fs.take j).map<|KY m).flatten).length≤3600:=fun j=>by
  have h1:=X3 (xs:=((fs.take j).map<|KY m).flatten) fun x hx=>mem hx;have h2:=zgO (f:=KY m) (fs:=fs.take j) fun z hz=>(hok z<|List.mem_of_mem_take hz).2.1;have h3:(fs.take j).length≤fs.length:=by simp;omega
  omega
 have hk6:=zfY hk;unfold Zy;rw[hfit,Option.bind_some,if_pos rfl,zhf hk,Option.bind_some,hform,Option.bind_some];refine YP (fun j=>(pI m.Kind++yI ((fs.take j).map<|KY m).flatten,(j:Int))) _ fs.length (by omega) (fun kb i hi=> ?_) (fun kb=> ?_) (by simp[yI])
 ·have hz:=List.getElem_mem hi;obtain⟨k1,k2,k3⟩:=hok _ hz;have e:yI ((fs.take (i+1)).map<|KY m).flatten=yI ((fs.take i).map<|KY m).flatten++yI (KY m fs[i]):=by
   rw[List.take_add_one,List.getElem?_eq_getElem hi,List.map_append,List.flatten_append,zbY];simp[yI]
  have hs:=hv.at_ i;rw[List.getElem?_eq_getElem hi] at hs;have l1:=len i;have l2:=X3 k3;unfold JE;simp only;rw[if_pos (by rw[hv.size];omega),hs,Option.bind_some,zcy i fs.length hi (by omega),e,←List.append_assoc];generalize fs[i]=z at *;by_cases e1:z=120
  ·subst e1;rw[if_pos rfl,zeZ [m.Cmd.Kind,m.Cmd.Key,m.Cmd.Value] k3 (by simp),Option.bind_some];exact if_pos (by simp only[List.length_append] at *;simp only[KY,if_true] at l2 k2;omega)
  ·rw[if_neg e1];by_cases e2:z=76
   ·subst e2;obtain⟨g1,g2,g3⟩:=hlog hz;have e3:KY m 76=zgX m.Log:=rfl;rw[e3] at k2 k3 l2 ⊢;rw[if_pos rfl,zji m.Log g1 g2 g3 k3,Option.bind_some];exact if_pos (by simp only[List.length_append];omega)
   ·have e3:KY m z=[zf4 z m.From m.View m.Op m.Commit m.Normal m.Nonce m.Client m.Req m.Answer]:=by unfold KY;rw[if_neg e1,if_neg e2]
    rw[e3] at k3 ⊢;have k4:okI (zf4 z m.From m.View m.Op m.Commit m.Normal m.Nonce m.Client m.Req m.Answer):=k3 _ (by simp);rw[if_neg e2,if_neg k1,Option.bind_some,zhf k4,Option.bind_some,zkR];have:=zfY k4;exact if_pos (by simp only[List.length_append];omega)
 ·have l1:=len fs.length;rw[List.take_length] at l1;unfold JE;simp only;rw[if_neg (by rw[hv.size];omega),List.take_length];unfold J6;rw[ziy _ (by simp only[List.length_append];omega)];rfl
theorem zjn{S R:Type}{f:(S→Option R)→S→Option R}{s:S}{r:Option R}(h:f (iter f 4611686018427387903) s=r):iter f FU s=r:=h
theorem zif{α:Type}{b:Bool}{x y r:α}(h:b=true)(h2:x=r):(if b=true then x else y)=r:=by rw[if_pos h];exact h2
theorem zHo{α:Type}{b c:ByteArray}{x y r:α}(h:(b.toList == c.toList)=false)(h2:y=r):(if (b.toList == c.toList)=true then x else y)=r:=by rw[if_neg (by rw[h];simp)];exact h2
theorem evw{P:Prop}(h:P:=by
 repeat' with_reducible first
  |assumption
  |rfl
  |exact zCM _ (by assumption) (Nat.le_of_ble_eq_true O) rfl
  |apply zik
  |(apply zHo;decide+kernel)
  |(apply zif;assumption)
  |(apply zhu;decide+kernel)
  |(apply zgG;decide+kernel)
  |(apply zhu;with_unfolding_all exact O)
  |(apply zgG;with_unfolding_all exact O)
  |(apply zgG;exact decide_eq_false (not_not_intro<|zkA _ rfl))
  |apply zjn
  |apply zeT
  |with_unfolding_all rfl):P:=h
abbrev rest(b:List Int)(n:Int)(at_:Int):Option (qg×Int):=(jA b (at_,true)).bind fun v7=>(jD v7.1).bind fun v9=>if v7.2.2=true then(if (v9.toList == ByteArray.empty.toList)=true then none else(iter (Ym v9 (b,n,0)<|Qs (b,n,0) v7) FU (0,0,0,0,0,0,0,0,0,0,0,0,0,0,([]:List zD),([]:List zN),([]:List zA),v7.2.1,v7.2.2))) else none
theorem zkd{xs:List Int}{m:qg}(hl:(yI xs).length≤4000)(h:rest (yI xs) ((frm<|yI xs).length:Int) (zeE xs 0)=some (m,0)):Zk (frm<|yI xs)=some (m,0):=by
 unfold Zk;rw[ziX _ hl,Option.bind_some,if_neg (by simp),if_neg (by simp),←ziW xs];exact h
abbrev lg(es:List zA):qk:=⟨0,⟨[],[]⟩,es⟩
abbrev zio(f v o cm rq:Int)(c:qX):qg:=⟨2,f,v,o,cm,0,0,1,rq,0,c,lg []⟩
abbrev c0:qX:=⟨0,0,0⟩
abbrev mOk(f v o:Int):qg:=⟨3,f,v,o,0,0,0,0,0,0,c0,lg []⟩
abbrev zdb(f v cm:Int):qg:=⟨4,f,v,0,cm,0,0,0,0,0,c0,lg []⟩
abbrev ze8(f v:Int):qg:=⟨5,f,v,0,0,0,0,0,0,0,c0,lg []⟩
abbrev mDo(f v cm:Int)(es:List zA):qg:=⟨6,f,v,0,cm,0,0,0,0,0,c0,lg es⟩
abbrev zka(f v cm:Int)(es:List zA):qg:=⟨7,f,v,0,cm,0,0,0,0,0,c0,lg es⟩
abbrev zgw(f n:Int):qg:=⟨8,f,0,0,0,0,n,0,0,0,c0,lg []⟩
abbrev zij(f v n cm:Int)(es:List zA):qg:=⟨9,f,v,0,cm,0,n,0,0,0,c0,lg es⟩
abbrev e1(c:qX):zA:=⟨1,1,c⟩
theorem zcP:∀(b:List Int) (a:ByteArray),(∀x∈b,0≤x∧x < 256)→Zn (b.foldl (fun r n=>r.push (UInt8.ofNat n.toNat)) a)=Zn a++b
 |[],a,_=>by simp
 |x::b,a,h=>by
  have hx:=h x (by simp);rw[List.foldl_cons,zcP b _ fun y hy=>h y (by simp[hy])];have:Zn (a.push<|UInt8.ofNat x.toNat)=Zn a++[x]:=by
   unfold Zn;simp only[ByteArray.push,Array.toList_push,List.map_append,List.map_cons,List.map_nil];congr 2;have:(UInt8.ofNat x.toNat).toNat=x.toNat:=by
    rw[UInt8.toNat_ofNat'];omega
   rw[this];omega
  rw[this];simp
theorem zfz{b:List Int}(h:∀x∈b,0≤x∧x < 256):Zn (KT b)=b:=by
 unfold KT;rw[zcP b _ h];rfl
theorem zcQ(a:ByteArray):a.size=(Zn a).length:=by
 unfold Zn;rw[List.length_map,Array.length_toList];rfl
theorem zhC(v:ByteArray):zFE v (Zn v):=by
 refine⟨zcQ v,fun i=> ?_⟩;unfold sidx Zn;rw[if_pos (by omega),Int.toNat_natCast,List.getElem?_map,Array.getElem?_toList];congr 1
theorem wU8(n:Int):0≤IntKind.wrap .u8 n∧IntKind.wrap .u8 n < 256:=by
 simp only[IntKind.wrap,IntKind.bits,IntKind.signed];simp;omega
theorem zcg:∀(k n:Nat),n < 128 ^ (k+1)→∀x∈YA n,0≤x∧x < 256
 |0,n,h,x,hx=>by rw[Yh (by omega)] at hx;simp at hx;omega
 |k+1,n,h,x,hx=>by
  by_cases e:n≤127
  ·rw[Yh e] at hx;simp at hx;omega
  ·rw[zao e] at hx;rcases List.mem_cons.1 hx with rfl|hx
   ·omega
   ·exact zcg k (n / 128) (by rw[Nat.pow_succ] at h;exact Nat.div_lt_of_lt_mul (by rw[Nat.mul_comm];exact h)) x hx
theorem zkx{xs:List Int}(h:∀x∈xs,okI x)(hl:(yI xs).length≤4000):∀x∈frm (yI xs),0≤x∧x < 256:=by
 intro x hx;have h6:(128:Nat) ^ (5+1)=4398046511104:=by decide
 rcases List.mem_append.1 hx with hx|hx
 ·exact zcg 5 _ (by omega) x hx
 rcases List.mem_append.1 hx with hx|hx
 ·simp only[yI,List.mem_flatten,List.mem_map] at hx;obtain⟨_,⟨y,hy,rfl⟩,hx⟩:=hx;exact zcg 5 y.toNat (by have:=(h y hy).2;omega) x hx
 ·simp only[zjK,List.mem_cons,List.not_mem_nil,or_false] at hx;rcases hx with rfl|rfl|rfl|rfl<;>exact wU8 _
structure Wr(m:qg)(w:List Int):Prop where
 p:Zy m=some (w,true)
 a:0 < (w.length:Int)
 b:(w.length:Int)≤4100
 u:Zk (Zn<|KT w)=some (m,0)
 s:decide (((KT w).size:Int)≤4100)=true
 f:jH m=some true
theorem zJO(m:qg)(v:ByteArray){fs xs:List Int}(hfs:Zn v=fs)(hxs:zcE m fs=xs)(hfit:jH m=some true)(hform:jD m.Kind=some v)(hn:fs.length≤10)(h65:∀z∈fs,z≠65)(h60:∀z∈fs,(KY m z).length≤60)(hx:∀x∈xs,okI x)(hl:xs.length≤60)
  (hlog:qj m.Log=some true∧m.Log.Image=⟨[],[]⟩∧m.Log.Entries.length≤10) (hr:∀n,rest (yI xs) n (zeE xs 0)=some (m,0)):∃w,Wr m w:=by
 subst hfs;subst hxs;have he:=X3 hx;have hL:(yI<|zcE m<|Zn v).length≤4000:=by omega
 have P:=zDl m hfit hform (zhC v) hn (hx _ (by simp[zcE])) (fun z hz=>⟨h65 z hz,h60 z hz,fun x h=>hx x (by
  unfold zcE;exact List.mem_cons_of_mem _ (List.mem_flatten.2 ⟨_,List.mem_map.2 ⟨z,hz,rfl⟩,h⟩))⟩) (fun _=>hlog)
 have B:=zfz (zkx hx hL);have hp:=kJ 1 (yI<|zcE m<|Zn v).length (by omega);have hf:=zit (yI<|zcE m<|Zn v);refine⟨_,P,by omega,by omega,?_,?_,hfit⟩
 ·rw[B];exact zkd hL (hr _)
 ·rw[decide_eq_true_eq,zcQ,B];omega
end Go.AW
