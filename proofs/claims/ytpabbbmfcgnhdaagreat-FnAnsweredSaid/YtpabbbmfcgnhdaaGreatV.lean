/- A region that runs in whatever order its edges allow: its run in the text's order stands for all. Lemmas. Conditions: none. -/
import Derived.Test.YtpabbbmfcgnhdaaGreatU
import Derived.Orders
set_option linter.unusedVariables false
namespace Go.AW
structure RO where
 g:GOp
 dep:Nat
 A:List Nat
def St.hide(s:St):List Nat→St
 |[]=>s
 |A=>s.mask A
theorem j9(s:St)(A:List Nat):(s.hide A).sl=s.sl:=by cases A<;>rfl
theorem xK(s:St)(A:List Nat)(n:Nat):(s.hide A).hp n=if A.contains (n / 64) then none else s.hp n:=by
 cases A with
 |nil=>simp[St.hide]
 |cons a A=>rfl
def Ka(P:Program):List RO→St→(St→Prop)→Prop
 |[],s,Q=>Q s
 |r::rs,s,Q=>je P (s.hide r.A) r.g fun out=>Ka P rs (s.app out) Q
def zew(P:Program):List RO→St→List Out→St→Prop
 |[],s,[],s'=>s'=s
 |r::rs,s,o::os,s'=>(je P (s.hide r.A) r.g (·=o)∧qO r.g.o o)∧zew P rs (s.app o) os s'
 |_,_,_,_=>False
theorem zeQ{P:Program}:∀{L:List RO} {s:St} {Q:St→Prop},Ka P L s Q→∃os s',zew P L s os s'∧Q s'
 |[],s,Q,h=>⟨[],s,rfl,h⟩
 |r::rs,s,Q,h=>by
  obtain⟨o,h1,h2,h3⟩:=zaV h;obtain⟨os,s',h4,h5⟩:=zeQ h2;exact⟨o::os,s',⟨⟨h1,h3⟩,h4⟩,h5⟩
def qy(D:Nat→Bool):Nat→List Out→St→St
 |_,[],s=>s
 |k,o::os,s=>qy D (k+1) os (if D k then s.app o else s)
theorem zap(D:Nat→Bool):∀(os:List Out) (k:Nat) (s:St),qy D (k+1) os s=qy (fun p=>D (p+1)) k os s
 |[],_,_=>rfl
 |o::os,k,s=>by simp only[qy];exact zap D os (k+1) _
theorem x8{D D':Nat→Bool}:∀(os:List Out) (k:Nat) (s:St),(∀p,k≤p→p < k+os.length→D p=D' p)→qy D k os s=qy D' k os s
 |[],_,_,_=>rfl
 |o::os,k,s,h=>by
  simp only[qy];rw[h k (Nat.le_refl _) (by simp)];exact x8 os (k+1) _ fun p hp hp'=>h p (by omega) (by simp only[List.length_cons];omega)
theorem Xe{D:Nat→Bool}:∀(os:List Out) (k:Nat) (s:St),(∀p,k≤p→D p=false)→qy D k os s=s
 |[],_,_,_=>rfl
 |o::os,k,s,h=>by
  simp only[qy,h k<|Nat.le_refl _];exact Xe os (k+1) s fun p hp=>h p (by omega)
theorem zew.len{P:Program}:∀{L:List RO} {s s':St} {os:List Out},zew P L s os s'→os.length=L.length
 |[],_,_,[],_=>rfl
 |_::_,_,_,_::_,h=>by simp[h.2.len]
 |[],_,_,_::_,h=>h.elim
 |_::_,_,_,[],h=>h.elim
theorem zew.all{P:Program}:∀{L:List RO} {s s':St} {os:List Out},zew P L s os s'→∀k,qy (fun _=>true) k os s=s'
 |[],_,_,[],h,_=>h.symm
 |_::_,_,_,_::_,h,k=>by simp only[qy,if_true];exact h.2.all (k+1)
 |[],_,_,_::_,h,_=>h.elim
 |_::_,_,_,[],h,_=>h.elim
theorem zew.at{P:Program}:∀{L:List RO} {s s':St} {os:List Out},zew P L s os s'→∀{i:Nat} {r:RO},L[i]? =some r→
  ∃o,os[i]? =some o∧je P ((qy (fun p=>decide (p < i)) 0 os s).hide r.A) r.g (·=o)∧qO r.g.o o
 |[],_,_,[],_,i,r,hr=>by simp at hr
 |r0::rs,s,s',o::os,h,0,r,hr=>by
  simp only[List.getElem?_cons_zero,Option.some.injEq] at hr;subst hr;refine⟨o,rfl,?_,h.1.2⟩;rw[Xe _ _ _ (fun p _=>by simp)];exact h.1.1
 |r0::rs,s,s',o::os,h,i+1,r,hr=>by
  simp only[List.getElem?_cons_succ] at hr;obtain⟨o',h1,h2,h3⟩:=h.2.at hr;refine⟨o',by simpa using h1,?_,h3⟩;simp only[qy,Nat.zero_lt_succ,decide_true,if_true];rw[zap];simpa using h2
 |[],_,_,_::_,h,_,_,_=>h.elim
 |_::_,_,_,[],h,_,_,_=>h.elim
def yR:bh→Nat→Option Blk
 |[],_=>none
 |(k,b)::r,n=>(yR r n).or (if n=k then some b else none)
theorem xC:∀(B:bh) (s:St) (n:Nat),(s.blks B).hp n=(yR B n).or (s.hp n)
 |[],_,_=>by simp[St.blks,yR]
 |(k,b)::r,s,n=>by
  simp only[St.blks,yR];rw[xC r];cases yR r n with
  |some x=>simp
  |none=>simp only[Option.none_or,St.blk];split<;>simp
theorem Yx:∀{B:bh} {n:Nat},n∉B.map (·.1)→yR B n=none
 |[],_,_=>rfl
 |(k,b)::r,n,h=>by
  simp only[List.map_cons,List.mem_cons,not_or] at h;simp[yR,Yx h.2,h.1]
theorem Js:∀(B:bh) (s:St),(s.blks B).sl=s.sl∧(s.blks B).gh=s.gh
 |[],_=>⟨rfl,rfl⟩
 |(k,b)::r,s=>by simp only[St.blks];exact Js r _
theorem St.ext'{s s':St}(h1:∀t,s.sl t=s'.sl t)(h2:∀n,s.hp n=s'.hp n)(h3:s.gh=s'.gh):s=s':=by
 obtain⟨a,b,c⟩:=s;obtain⟨a',b',c'⟩:=s';have e1:a=a':=funext h1;have e2:b=b':=funext h2;have e3:c=c':=h3;rw[e1,e2,e3]
theorem kL(s:St)(o:Out)(t:Nat):(s.app o).sl t=match o.sl with|some (d,v)=>if t=d then v else(s.erOpt o.er).sl t|none=>(s.erOpt o.er).sl t:=by
 unfold St.app;cases o.sl with
 |none=>simp only[St.setOpt,(Js _ _).1]
 |some p=>simp only[St.setOpt,St.set,(Js _ _).1]
theorem KG(s:St)(o:Out)(n:Nat):(s.app o).hp n=(yR o.hp n).or ((s.erOpt o.er).hp n):=by
 have:(s.app o).hp n=((s.erOpt o.er).blks o.hp).hp n:=by
  unfold St.app;cases o.sl<;>rfl
 rw[this,xC]
theorem zf3(s:St)(o:Out):(s.app o).gh=(s.erOpt o.er).gh:=by
 unfold St.app;cases o.sl with
 |none=>simp only[St.setOpt,(Js _ _).2]
 |some p=>simp only[St.setOpt,St.set,(Js _ _).2]
structure Com(o o':Out):Prop where
 er:o.er=[]
 er':o'.er=[]
 sl:∀d,o.sl.map (·.1)=some d→o'.sl.map (·.1)≠some d
 hp:∀n∈o.hp.map (·.1),n∉o'.hp.map (·.1)
theorem Com.app{o o':Out}(h:Com o o')(s:St):(s.app o).app o'=(s.app o').app o:=by
 have e:∀s:St,s.erOpt o.er=s:=fun s=>by rw[h.er];rfl
 have e':∀s:St,s.erOpt o'.er=s:=fun s=>by rw[h.er'];rfl
 refine St.ext' (fun t=> ?_) (fun n=> ?_) ?_
 ·simp only[kL,e,e'];have hs:=h.sl;cases ho:o.sl with
  |none=>rfl
  |some p=>
   cases ho':o'.sl with
   |none=>rfl
   |some p'=>
    have:=hs p.1 (by simp[ho]);simp only[ho',Option.map_some,ne_eq,Option.some.injEq] at this;simp only;by_cases h1:t=p'.1
    ·by_cases h2:t=p.1
     ·exact absurd (h1.symm.trans h2) this
     ·simp[h1,this]
    ·simp[h1]
 ·simp only[KG,e,e'];by_cases h1:n∈o.hp.map (·.1)
  ·rw[Yx (h.hp n h1)];simp
  ·rw[Yx h1];simp
 ·simp only[zf3,e,e']
theorem zdo{D:Nat→Bool}{o:Out}:∀(os:List Out) (k:Nat) (s:St),(∀p o',os[p]? =some o'→D (k+p)=true→Com o o')→qy D k os (s.app o)=(qy D k os s).app o
 |[],_,_,_=>rfl
 |o'::os,k,s,h=>by
  simp only[qy];have hrec:=fun s=>zdo os (k+1) s fun p o'' hp hd=>h (p+1) o'' (by simpa using hp) (by rw[←hd];congr 1;omega);cases hd:D k with
  |false=>simp only[Bool.false_eq_true,if_false];exact hrec s
  |true=>
   simp only[if_true];rw[(h 0 o' O (by simpa using hd)).app];exact hrec _
theorem zfd{D D':Nat→Bool}{i:Nat}{o:Out}(hD:D i=false)(hD':∀p,D' p=(D p||p == i)):∀(os:List Out) (k:Nat) (s:St),k≤i→os[i - k]? =some o→
  (∀p o',os[p]? =some o'→i < k+p→D (k+p)=true→Com o o')→qy D' k os s=(qy D k os s).app o
 |[],k,s,_,h,_=>by simp at h
 |o'::os,k,s,hk,h,hc=>by
  simp only[qy];by_cases e:k=i
  ·subst e;simp only[Nat.sub_self,List.getElem?_cons_zero,Option.some.injEq] at h;subst h;rw[hD' k,hD];simp only[beq_self_eq_true,Bool.or_true,if_true,Bool.false_eq_true,if_false];rw[x8 (D':=D) os (k+1) _ fun p hp hp'=>by rw[hD'];simp;omega];exact zdo os (k+1) s fun p o'' hp hd=>hc (p+1) o'' (by simpa using hp) (by omega) (by rw[←hd];congr 1;omega)
  ·have hki:k+1≤i:=by omega
   have:D' k=D k:=by rw[hD'];simp[e]
   rw[this];refine zfd hD hD' os (k+1) _ hki ?_ fun p o'' hp hlt hd=>hc (p+1) o'' (by simpa using hp) (by omega) (by rw[←hd];congr 1;omega);have e2:i - k=(i - (k+1))+1:=by omega
   rw[e2] at h;simpa using h
structure kQ(X Y:Nat→Prop)(s s':St):Prop where
 sl:∀t,X t→s.sl t=s'.sl t
 hp:∀n,Y n→s.hp n=s'.hp n
theorem kQ.app{X Y:Nat→Prop}{s s':St}(h:kQ X Y s s')(o:Out):kQ X Y (s.app o) (s'.app o) where
 sl t ht:=by
  have:(s.erOpt o.er).sl t=(s'.erOpt o.er).sl t:=by
   cases o.er with
   |nil=>exact h.sl t ht
   |cons a l=>simp only[St.erOpt,St.er,h.sl t ht]
  simp only[kL,this]
 hp n hn:=by
  have:(s.erOpt o.er).hp n=(s'.erOpt o.er).hp n:=by
   cases o.er with
   |nil=>exact h.hp n hn
   |cons a l=>simp only[St.erOpt,St.er,h.hp n hn]
  simp only[KG,this]
def XB(X Y:Nat→Prop)(o:Out):Prop:=o.er=[]∧(∀d,o.sl.map (·.1)=some d→¬X d)∧∀n∈o.hp.map (·.1),¬Y n
theorem XB.app{X Y:Nat→Prop}{o:Out}(h:XB X Y o)(s:St):kQ X Y (s.app o) s:=by
 obtain⟨h1,h2,h3⟩:=h;have e:s.erOpt o.er=s:=by rw[h1];rfl
 refine⟨fun t ht=> ?_,fun n hn=> ?_⟩
 ·simp only[kL,e];cases ho:o.sl with
  |none=>rfl
  |some p=>
   have:=h2 p.1 (by simp[ho]);simp only;rw[if_neg (fun(e:t=p.1)=>this (e▸ht))]
 ·simp only[KG,e];rw[Yx fun hm=>h3 n hm hn];rfl
theorem kQ.trans{X Y:Nat→Prop}{a b c:St}(h:kQ X Y a b)(h':kQ X Y b c):kQ X Y a c:=
 ⟨fun t ht=>(h.sl t ht).trans (h'.sl t ht),fun n hn=>(h.hp n hn).trans (h'.hp n hn)⟩
theorem kQ.symm{X Y:Nat→Prop}{a b:St}(h:kQ X Y a b):kQ X Y b a:=⟨fun t ht=>(h.sl t ht).symm,fun n hn=>(h.hp n hn).symm⟩
theorem zal{X Y:Nat→Prop}{D D':Nat→Bool}:∀(os:List Out) (k:Nat) (s s':St),(∀p o,os[p]? =some o→D (k+p)=D' (k+p)∨XB X Y o)→kQ X Y s s'→kQ X Y (qy D k os s) (qy D' k os s')
 |[],_,_,_,_,h=>h
 |o::os,k,s,s',hp,h=>by
  simp only[qy];refine zal os (k+1) _ _ (fun p o' ho=>by
   have:=hp (p+1) o' (by simpa using ho)
   rwa [show k+(p+1)=k+1+p by omega] at this) ?_
  have h0:=hp 0 o rfl;simp only[Nat.add_zero] at h0;rcases h0 with e|u
  ·rw[e];cases D' k with
   |true=>exact h.app o
   |false=>exact h
  ·cases D k<;>cases D' k
   ·exact h
   ·exact h.trans (u.app s').symm
   ·exact(u.app s).trans h
   ·exact h.app o
def xI(x y:GOp):Bool:=
 !x.o.isApp&&!y.o.isApp&&(!x.o.loud||y.o.calm)&&(!y.o.loud||x.o.calm)&&
 (match x.o.dst with|some d=>!y.reads.contains d&&y.o.dst != some d|none=>true)&&
 (match y.o.dst with|some d=>!x.reads.contains d|none=>true)
def Yd(x:RO)(y:GOp):Bool:=x.g.o.calm||!y.o.allocs||(match y.o.dst with|some d=>x.A.contains d|none=>true)
def zcn(x:RO):Bool:=match x.g.o.dst with|some d=>!x.A.contains d|none=>true
def zcJ(L:List RO)(o:Oper):Nat:=o.after.foldl (fun acc e=>if Region.binds .any e then acc|||2 ^ e.on|||((L[e.on]?).map (·.dep)).getD 0 else acc) 0
def zou(L:List RO):Bool:=L.zipIdx.all fun(y,q)=>(L.take q).zipIdx.all fun(x,p)=>y.dep.testBit p||(xI x.g y.g&&Yd y x.g&&Yd x y.g)
def zee(ops:List Oper)(L:List RO):Bool:=
 ops.length == L.length&&L.all zcn&&zou L&&(ops.zip L).zipIdx.all fun((o,r),q)=>r.dep == zcJ L o&&decide (r.dep < 2 ^ q)
theorem zfg(L:List RO){p:Nat}:∀(es:List Edge) (acc:Nat),
  (es.foldl (fun acc e=>if Region.binds .any e then acc|||2 ^ e.on|||((L[e.on]?).map (·.dep)).getD 0 else acc) acc).testBit p=true↔
   acc.testBit p=true∨∃e∈es,Region.binds .any e=true∧(e.on=p∨∃r,L[e.on]? =some r∧r.dep.testBit p=true)
 |[],acc=>by simp
 |e::es,acc=>by
  simp only[List.foldl_cons];rw[zfg L es];have key:((if Region.binds .any e then acc|||2 ^ e.on|||((L[e.on]?).map (·.dep)).getD 0 else acc).testBit p=true)↔
    acc.testBit p=true∨(Region.binds .any e=true∧(e.on=p∨∃r,L[e.on]? =some r∧r.dep.testBit p=true)):=by
   cases hb:Region.binds .any e with
   |false=>simp
   |true=>
    simp only[if_true,Nat.testBit_or,Bool.or_eq_true,Nat.testBit_two_pow,decide_eq_true_eq,true_and];cases hL:L[e.on]? with
    |none=>simp
    |some r=>simp[or_assoc]
  rw[key];simp only[List.mem_cons,exists_eq_or_imp,or_assoc]
theorem Kz{L:List RO}{o:Oper}{p:Nat}:(zcJ L o).testBit p=true↔∃e∈o.after,Region.binds .any e=true∧(e.on=p∨∃r,L[e.on]? =some r∧r.dep.testBit p=true):=by
 unfold zcJ;rw[←Array.foldl_toList,zfg];simp
theorem Yu{α:Type}{l:List α}{f:α×Nat→Bool}(h:l.zipIdx.all f=true){i:Nat}{a:α}(ha:l[i]? =some a):f (a,i)=true:=
 List.all_eq_true.1 h (a,i) (by rw[List.mem_zipIdx_iff_getElem?];simpa using ha)
theorem zbw{d p q:Nat}(h:d < 2 ^ q)(hb:d.testBit p=true):p < q:=by
 have:=Nat.ge_two_pow_of_testBit hb;by_cases hpq:p < q
 ·exact hpq
 ·have:2 ^ q≤2 ^ p:=Nat.pow_le_pow_right (by omega) (by omega);omega
structure zhK(ops:Array Oper)(L:List RO):Prop where
 len:ops.size=L.length
 self:∀r∈L,zcn r=true
 pair:∀(p q:Nat) (x y:RO),p < q→L[p]? =some x→L[q]? =some y→y.dep.testBit p=true∨(xI x.g y.g=true∧Yd y x.g=true∧Yd x y.g=true)
 dep:∀(q:Nat) (o:Oper) (r:RO),ops[q]? =some o→L[q]? =some r→(∀p,r.dep.testBit p=true↔∃e∈o.after,Region.binds .any e=true∧(e.on=p∨∃r,L[e.on]? =some r∧r.dep.testBit p=true))∧∀p,r.dep.testBit p=true→p < q
theorem zgT{ops:Array Oper}{L:List RO}(h:zee ops.toList L=true):zhK ops L:=by
 unfold zee at h;simp only[Bool.and_eq_true,beq_iff_eq] at h;obtain⟨⟨⟨h1,h2⟩,h3⟩,h4⟩:=h;refine⟨by simpa using h1,fun r hr=>List.all_eq_true.1 h2 r hr,fun p q x y hpq hx hy=> ?_,fun q o r ho hr=> ?_⟩
 ·have:=Yu h3 hy;simp only at this;have:=Yu this (i:=p) (a:=x) (by rw[List.getElem?_take];simp[hpq,hx]);simp only[Bool.or_eq_true,Bool.and_eq_true] at this;exact this.imp id fun⟨⟨a,b⟩,c⟩=>⟨a,b,c⟩
 ·have hz:(ops.toList.zip L)[q]? =some (o,r):=by
   rw[List.getElem?_zip_eq_some];exact⟨by simpa using ho,hr⟩
  have:=Yu h4 hz;simp only[Bool.and_eq_true,beq_iff_eq,decide_eq_true_eq] at this;exact⟨fun p=>by rw[this.1];exact Kz,fun p hp=>zbw this.2 hp⟩
theorem zeL{o:IOp}(h:o.calm=true):o.allocs=false∧o.loud=false:=by
 cases o<;>first|exact⟨rfl,rfl⟩|cases h
theorem zei{x y:GOp}{o o':Out}(h:xI x y=true)(S:qO x.o o)(S':qO y.o o'):Com o o':=by
 unfold xI at h;simp only[Bool.and_eq_true,Bool.not_eq_true',Bool.or_eq_true] at h;obtain⟨⟨⟨⟨⟨h1,h2⟩,h3⟩,h4⟩,h5⟩,h6⟩:=h;have hd:∀d,x.o.dst=some d→y.o.dst≠some d:=fun d hd=>by
  rw[hd] at h5;simp only[Bool.and_eq_true,bne_iff_ne] at h5;exact h5.2
 refine⟨S.er h1,S'.er h2,fun d h=> ?_,fun n hn hn'=> ?_⟩
 ·rw[S.sl] at h;rw[S'.sl];exact hd d h
 ·cases hl:x.o.loud with
  |true=>
   have:=zeL (h3.resolve_left (by simp[hl]));rw[S'.hp0 this.1 this.2] at hn';simp at hn'
  |false=>
   cases hl':y.o.loud with
   |true=>
    have:=zeL (h4.resolve_left (by simp[hl']));rw[S.hp0 this.1 this.2] at hn;simp at hn
   |false=>
    obtain⟨d,e1,e2⟩:=S.hp hl n hn;obtain⟨d',e3,e4⟩:=S'.hp hl' n hn';exact hd d e1 (by rw[e3,←e4,e2])
theorem XG{x:RO}{y:GOp}{o:Out}(h:xI x.g y=true∨xI y x.g=true)(hh:Yd x y=true)(S:qO y.o o):
  XB (fun t=>t∈x.g.reads) (fun n=>x.g.o.calm=false∧x.A.contains (n / 64)=false) o:=by
 have h':y.o.isApp=false∧(y.o.loud=true→x.g.o.calm=true)∧∀d,y.o.dst=some d→d∉x.g.reads:=by
  rcases h with h|h<;>
  ·unfold xI at h;simp only[Bool.and_eq_true,Bool.not_eq_true',Bool.or_eq_true] at h;obtain⟨⟨⟨⟨⟨h1,h2⟩,h3⟩,h4⟩,h5⟩,h6⟩:=h;refine⟨by assumption,fun hl=>by simp_all,fun d hd=> ?_⟩;simp_all
 refine⟨S.er h'.1,fun d hd=>h'.2.2 d (by rw[←S.sl];exact hd),fun n hn hc=> ?_⟩;cases hl:y.o.loud with
 |true=>rw[h'.2.1 hl] at hc;cases hc.1
 |false=>
  obtain⟨d,e1,e2⟩:=S.hp hl n hn;cases ha:y.o.allocs with
  |false=>rw[S.hp0 ha hl] at hn;simp at hn
  |true=>
   unfold Yd at hh;rw[hc.1,ha,e1] at hh;simp only[Bool.not_true,Bool.or_self,Bool.false_or] at hh;rw[e2,hh] at hc;cases hc.2
theorem YD{α β:Type}{f:α→Option β}:∀{l:List α} {r:List β},l.mapM f=some r→∀(i:Nat) (a:α),l[i]? =some a→∃b,f a=some b∧r[i]? =some b
 |[],r,h,i,a,ha=>by simp at ha
 |x::l,r,h,i,a,ha=>by
  simp only[List.mapM_cons,Option.pure_def,Option.bind_eq_bind,obi] at h;obtain⟨b,hb,bs,hbs,he⟩:=h;cases he;cases i with
  |zero=>simp at ha;subst ha;exact⟨b,hb,rfl⟩
  |succ i=>simpa using YD hbs i a (by simpa using ha)
def zox(L:List RO)(D:Nat→Bool):Prop:=∀q r,L[q]? =some r→D q=true→∀p,r.dep.testBit p=true→D p=true
theorem ziI{P:Program}{ops:Array Oper}{L:List RO}{s s':St}{os:List Out}(H:zhK ops L)(R:zew P L s os s'){D:Nat→Bool}(hc:zox L D)(hlen:∀p,D p=true→p < L.length)
  {i:Nat} {r:RO} (hr:L[i]? =some r) (hi:D i=false) (hdep:∀p,r.dep.testBit p=true→D p=true):
  ∃o,je P (qy D 0 os s) r.g (·=o)∧∀D',(∀p,D' p=(D p||p == i))→qy D' 0 os s=(qy D 0 os s).app o:=by
 obtain⟨o,ho,hst,hsh⟩:=R.at hr;have un:∀p x o',L[p]? =some x→os[p]? =some o'→p≠i→(p < i→D p=false)→(i < p→D p=true)→qO x.g.o o'→(xI r.g x.g=true∨xI x.g r.g=true)∧Yd r x.g=true:=fun p x o' hx ho' hne hlt hgt S=>by
  rcases Nat.lt_or_ge p i with h|h
  ·rcases H.pair p i x r h hx hr with e|e
   ·have:=hdep p e;rw[hlt h] at this;cases this
   ·exact⟨.inr e.1,e.2.1⟩
  ·have h':i < p:=by omega
   rcases H.pair i p r x h' hr hx with e|e
   ·have:=hc p x hx (hgt h') i e;rw[hi] at this;cases this
   ·exact⟨.inl e.1,e.2.2⟩
 refine⟨o,?_,fun D' hD'=> ?_⟩
 ·have A:kQ (fun t=>t∈r.g.reads) (fun n=>r.g.o.calm=false∧r.A.contains (n / 64)=false) (qy D 0 os s) (qy (fun p=>decide (p < i)) 0 os s):=by
   refine zal os 0 s s (fun p o' ho'=> ?_) ⟨fun _ _=>rfl,fun _ _=>rfl⟩;rw[Nat.zero_add];by_cases hpi:p=i
   ·subst hpi;left;rw[hi];simp
   ·have hpl:p < L.length:=by rw[←R.len];exact(List.getElem?_eq_some_iff.1 ho').1
    obtain⟨x,hx⟩:∃x,L[p]? =some x:=⟨L[p],by simp[hpl]⟩;obtain⟨o2,e1,_,S⟩:=R.at hx;rw[ho'] at e1;cases e1;by_cases hcase:(p < i→D p=false)∧(i < p→D p=true)
    ·right;obtain⟨c1,c2⟩:=un p x o' hx ho' hpi hcase.1 hcase.2 S;exact XG c1 c2 S
    ·left;rcases Nat.lt_or_ge p i with h|h
     ·have:D p=true:=by
       cases hd:D p with
       |true=>rfl
       |false=>exact absurd ⟨fun _=>hd,fun h'=>by omega⟩ hcase
      rw[this];simp[h]
     ·have:D p=false:=by
       cases hd:D p with
       |false=>rfl
       |true=>exact absurd ⟨fun h'=>by omega,fun _=>hd⟩ hcase
      rw[this];simp;omega
  refine zcL.step (s:=(qy (fun p=>decide (p < i)) 0 os s).hide r.A) ⟨fun t ht=> ?_,fun hcalm=>⟨fun n b hb=> ?_,fun d hd n hn hb=> ?_⟩⟩ hst
  ·rw[j9];exact A.sl t ht
  ·rw[xK] at hb;split at hb
   ·cases hb
   ·rename_i hA;rw[A.hp n ⟨hcalm,by simpa using hA⟩];exact hb
  ·have hself:=H.self r (List.mem_of_getElem? hr);unfold zcn at hself;rw[hd] at hself;simp only[Bool.not_eq_true'] at hself;rw[xK,hn,hself] at hb;rw[A.hp n ⟨hcalm,by rw[hn];exact hself⟩];simpa using hb
 ·refine zfd hi hD' os 0 s (Nat.zero_le _) (by simpa using ho) fun p o' ho' hlt hd=> ?_;rw[Nat.zero_add] at hlt hd;have hpl:p < L.length:=hlen p hd;obtain⟨x,hx⟩:∃x,L[p]? =some x:=⟨L[p],by simp[hpl]⟩;obtain⟨o2,e1,_,S⟩:=R.at hx;rw[ho'] at e1;cases e1;rcases H.pair i p r x hlt hr hx with e|e
  ·have:=hc p x hx hd i e;rw[hi] at this;cases this
  ·exact zei e.1 hsh S
variable {cx:Cx} {Q:Exit→Act→World→Prop} {ops:Array Oper}
def left(L:List RO)(D:Nat→Bool):Nat:=(List.range L.length).countP fun p=>!D p
theorem zcz{α:Type}{f g:α→Bool}:∀{l:List α},(∀a∈l,f a=true→g a=true)→(∃a∈l,g a=true∧f a=false)→l.countP f < l.countP g
 |[],_,h=>by simp at h
 |a::l,h,⟨b,hb,h1,h2⟩=>by
  have hle:l.countP f≤l.countP g:=List.countP_mono_left fun x hx=>h x (by simp[hx]);rcases List.mem_cons.1 hb with e|e
  ·subst e;rw[List.countP_cons,List.countP_cons,h1,h2];simp;omega
  ·have:=zcz (l:=l) (fun x hx=>h x (by simp[hx])) ⟨b,e,h1,h2⟩;rw[List.countP_cons,List.countP_cons];have:=h a (by simp);cases hf:f a<;>cases hg:g a<;>simp_all<;>omega
theorem ZX{l:Array Bool}{i:Nat}(h:i < l.size)(a b:Bool):l.getD i a=l.getD i b:=by
 simp[Array.getD_eq_getD_getElem?,h]
theorem zhx{L:List RO}{s s':St}{os:List Out}(H:zhK ops L)(hG:∀(i:Nat) (o:Oper) (r:RO),ops[i]? =some o→L[i]? =some r→toG cx.P cx.n ops o=some r.g)(R:zew cx.P L s os s')
  (hQ:∀m' a' w',zt cx m' s' a' w'→Q .normal a' w'):∀(fuel:Nat) (listed:Array Bool) (m:M) (a:Act) (w:World),listed.size=ops.size→left L (fun p=>listed.getD p false)≤fuel→
   zox L (fun p=>listed.getD p false)→zt cx m (qy (fun p=>listed.getD p false) 0 os s) a w→wpAny cx.P .any ops Q fuel listed a w:=by
 have fin:∀(listed:Array Bool) (m:M) (a:Act) (w:World),listed.size=ops.size→zt cx m (qy (fun p=>listed.getD p false) 0 os s) a w→Region.ready .any ops listed=[]→Q .normal a w:=fun listed m a w hsz RM hr=>by
  have all:∀n q,q < n→q < L.length→listed.getD q false=true:=by
   intro n;induction n with
   |zero=>intro q hq;omega
   |succ n ih=>
    intro q hq hqL;cases hd:listed.getD q false with
    |true=>rfl
    |false=>
     exfalso;have hqs:q < ops.size:=by rw[H.len];exact hqL
     have:q∈Region.ready .any ops listed:=by
      rw[mem_ready];refine⟨by rw[ZX (by omega) true false];exact hd,ops[q],by simp[hqs],fun e he hb=> ?_⟩;obtain⟨r,hr'⟩:∃r,L[q]? =some r:=⟨L[q],by simp[hqL]⟩;have:=H.dep q ops[q] r (by simp[hqs]) hr';have hbit:=(this.1 e.on).2 ⟨e,he,hb,.inl rfl⟩;have hlt:=this.2 _ hbit;exact ih e.on (by omega) (by omega)
     rw[hr] at this;cases this
  rw[x8 (D':=fun _=>true) os 0 s (fun p _ hp=>by rw[R.len,Nat.zero_add] at hp;exact all (p+1) p (by omega) hp),R.all 0] at RM;exact hQ m a w RM
 intro fuel;induction fuel with
 |zero=>
  intro listed m a w hsz hl hb RM;have hr:Region.ready .any ops listed=[]:=by
   apply List.eq_nil_iff_forall_not_mem.2;intro j hj;obtain⟨h0,o,ho,_⟩:=mem_ready.1 hj;have hjs:j < ops.size:=(Array.getElem?_eq_some_iff.1 ho).1;have:left L (fun p=>listed.getD p false)=0:=by omega
   unfold left at this;rw[List.countP_eq_zero] at this;have:=this j (by rw[List.mem_range,←H.len];exact hjs);rw[ZX (by omega) true false] at h0;simp[h0] at this
  exact⟨hr,fin listed m a w hsz RM hr⟩
 |succ fuel ih=>
  intro listed m a w hsz hl hb RM;refine⟨fin listed m a w hsz RM,fun i hi=> ?_⟩;obtain⟨h0,o,ho,hall⟩:=mem_ready.1 hi;have his:i < ops.size:=(Array.getElem?_eq_some_iff.1 ho).1;have hiL:i < L.length:=by rw[←H.len];exact his
  rw[ZX (by omega) true false] at h0;obtain⟨r,hr⟩:∃r,L[i]? =some r:=⟨L[i],by simp[hiL]⟩;have hdepS:=H.dep i o r ho hr;have hdep:∀p,r.dep.testBit p=true→listed.getD p false=true:=fun p hp=>by
   obtain⟨e,he,heb,h⟩:=(hdepS.1 p).1 hp;have he1:=hall e he heb;rcases h with rfl|⟨r',hr',hp'⟩
   ·exact he1
   ·exact hb _ r' hr' he1 p hp'
  have hlen:∀p,listed.getD p false=true→p < L.length:=fun p hp=>by
   rw[←H.len,←hsz];rcases Nat.lt_or_ge p listed.size with h|h
   ·exact h
   ·rw[Array.getD_eq_getD_getElem?,Array.getElem?_eq_none h] at hp;cases hp
  obtain⟨out,hst,hadd⟩:=ziI H R (D:=fun p=>listed.getD p false) hb hlen hr h0 hdep;have hset:∀p,(listed.setIfInBounds i true).getD p false=(listed.getD p false||p == i):=fun p=>by
   rw[Array.getD_eq_getD_getElem?,Array.getD_eq_getD_getElem?,Array.getElem?_setIfInBounds];by_cases e:i=p
   ·subst e;simp[hsz,his]
   ·have:(p == i)=false:=by simp;omega
    simp[e,this]
  have hnext:=hadd (fun p=>(listed.setIfInBounds i true).getD p false) hset;have key:=x4 (Q:=Q) (ops:=ops) (K:=wpAny cx.P .any ops Q fuel (listed.setIfInBounds i true)) RM (hG i o r ho hr) hst (fun out' e m' a' w' R'=>by
   have e':out'=out:=e;rw[e'] at R';refine ih _ m' a' w' (by simp[hsz]) ?_ ?_ (by rw[hnext];exact R')
   ·have:left L (fun p=>(listed.setIfInBounds i true).getD p false) < left L (fun p=>listed.getD p false):=by
     unfold left;refine zcz (fun p _ hp=> ?_) ⟨i,List.mem_range.2 hiL,by simp[h0],by show(!(listed.setIfInBounds i true).getD i false)=false;rw[hset];simp⟩;have hp':(!(listed.setIfInBounds i true).getD p false)=true:=hp;rw[hset] at hp';simp only[Bool.not_or,Bool.and_eq_true] at hp';exact hp'.1
    omega
   ·intro q r' hr' hq p hp;have hq:(listed.setIfInBounds i true).getD q false=true:=hq;show(listed.setIfInBounds i true).getD p false=true;rw[hset] at hq ⊢;simp only[Bool.or_eq_true,beq_iff_eq] at hq ⊢;left;rcases hq with hq|rfl
    ·exact hb q r' hr' hq p hp
    ·rw[hr] at hr';cases hr';exact hdep p hp)
  unfold wpOp;simp only[ho];split
  ·rename_i hw;rw[if_pos hw] at key;exact .inl key
  ·rename_i hw;rw[if_neg hw] at key;exact key
theorem zhT{L:List RO}{m:M}{s:St}{a:Act}{w:World}{Q':St→Prop}{id:Nat}(hm:cx.P.follows .mixedOrders=true)(hok:zee ops.toList L=true)
  (hG:ops.toList.mapM (toG cx.P cx.n ops)=some (L.map (·.g))) (R:zt cx m s a w) (h:Ka cx.P L s Q') (hQ:∀s',Q' s'→∀m' a' w',zt cx m' s' a' w'→Q .normal a' w'):
  (Code.region id ops true).wp cx.P Q a w:=by
 obtain⟨os,s',hr,hq⟩:=zeQ h;have H:=zgT hok;refine wp_region_any hm (zhx H (fun i o r ho hr'=> ?_) hr (hQ s' hq) ops.size _ m a _ (by simp) ?_ ?_ ?_)
 ·have:=YD hG i o (by simpa using ho);obtain⟨g,h1,h2⟩:=this;rw[List.getElem?_map,hr'] at h2;cases h2;exact h1
 ·unfold left;refine Nat.le_trans List.countP_le_length ?_;rw[List.length_range,H.len];exact Nat.le_refl _
 ·intro q r _ hq;simp[Array.getElem?_replicate] at hq;split at hq<;>simp at hq
 ·rw[Xe _ _ _ (fun p _=>by simp[Array.getElem?_replicate];split<;>simp)];exact⟨R.size,R.defers,R.sl,R.hp,R.own,⟨R.fr.os,R.fr.tape,R.fr.output,R.fr.size,R.fr.kept⟩,R.gh⟩
end Go.AW
