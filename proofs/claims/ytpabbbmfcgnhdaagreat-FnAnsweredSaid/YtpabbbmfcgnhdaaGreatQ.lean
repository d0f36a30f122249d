/- A call by a contract: what it hands back gets names, or is borrowed. Lemmas. Conditions: none. -/
import Derived.Test.YtpabbbmfcgnhdaaGreatP
set_option linter.unusedVariables false
namespace Go.AW
variable {cx:Cx} {m:M} {s:St} {a:Act} {w:World}
def QA(n:Nat):D→C×List (Nat×Blk)
 | .sl sz xs=>(.sl n 0 xs.length,[(n,.data sz xs true none)])
 | .int k z=>(.d<|.int k z,[])
 | .bool b=>(.d<|.bool b,[])
 | .str b=>(.d<|.str b,[])
 | .pin v=>(.d<|.pin v,[])
 | .ptr cs=>(.ptr<|.nm n 0 0,[(n,if cs.all D.flat then .vars cs.length (cs.map C.d) else .own cs)])
 |_=>(.any,[])
def jN:Nat→List D→List C×List (Nat×Blk)
 |_,[]=>([],[])
 |n,x::xs=>((QA n x).1::(jN (n+1) xs).1,(QA n x).2++(jN (n+1) xs).2)
def JZ(n:Nat):D→V×List (Nat×Blk)
 | .agg cs=>(.agg (jN n cs).1,(jN n cs).2)
 |x=>(.one (QA n x).1,(QA n x).2)
def Zt:Nat→List D→List V×List (Nat×Blk)
 |_,[]=>([],[])
 |n,x::xs=>((JZ n x).1::(Zt (n+16) xs).1,(JZ n x).2++(Zt (n+16) xs).2)
def ZP(n:Nat)(rs:List D):V×List (Nat×Blk):=match rs with
 |[r]=>JZ n r
 |rs=>(.tup (Zt n rs).1,(Zt n rs).2)
def qp(s:St):List Nat→Prop
 |[]=>True
 |n::ns=>s.hp n=none∧n∉ns∧qp s ns
theorem zft:∀(B:bh) (s:St) (n:Nat),n∉B.map (·.1)→(s.blks B).hp n=s.hp n
 |[],_,_,_=>rfl
 |(k,b)::B,s,n,h=>by
  simp only[List.map_cons,List.mem_cons,not_or] at h;show((s.blk k b).blks B).hp n=_;rw[zft B _ n h.2];simp[St.blk,h.1]
theorem xW:∀(B C:bh) (s:St),s.blks (B++C)=(s.blks B).blks C
 |[],_,_=>rfl
 |(_,_)::B,C,s=>xW B C _
theorem Xy:∀(ns:List Nat) {B:bh} {s:St},(∀n∈ns,n∉B.map (·.1))→qp s ns→qp (s.blks B) ns
 |[],_,_,_,_=>trivial
 |n::ns,B,s,h,H=>⟨by rw[zft _ _ _ (h n (by simp))];exact H.1,H.2.1,Xy ns (fun k hk=>h k (by simp[hk])) H.2.2⟩
theorem xP:∀{ns ms:List Nat} {s:St},qp s (ns++ms)→qp s ns∧qp s ms∧∀n∈ms,n∉ns
 |[],ms,s,H=>⟨trivial,H,fun _ _=>by simp⟩
 |n::ns,ms,s,H=>by
  obtain⟨h1,h2,h3⟩:=H;obtain⟨k1,k2,k3⟩:=xP (ns:=ns) h3;have h2:n∉ns++ms:=h2;simp only[List.mem_append,not_or] at h2;exact⟨⟨h1,h2.1,k1⟩,k2,fun j hj=>by
   simp only[List.mem_cons,not_or];exact⟨fun e=>by subst e;exact h2.2 hj,k3 j hj⟩⟩
theorem zt.nameG(R:zt cx m s a w){n res:Nat}{k:Blk}{f:NI}{bs:List Nat}(hn:s.hp n=none)(hres:m.inf res=none)(hne:n≠res)(hown:∀b∈bs,m.own b=some res∧b < w.heap.size∧cx.mine b)
  (hN:zT cx ⟨fun j=>if j=n then some f else m.inf j,fun b=>if b∈bs then some n else m.own b⟩ w.heap n (some k) (some f)):
  zt cx ⟨fun j=>if j=n then some f else m.inf j,fun b=>if b∈bs then some n else m.own b⟩ (s.blk n k) a w∧Ext [] m w.heap ⟨fun j=>if j=n then some f else m.inf j,fun b=>if b∈bs then some n else m.own b⟩ w.heap:=by
 have hmn:=R.noInf hn;have E:Ext [] m w.heap ⟨fun j=>if j=n then some f else m.inf j,fun b=>if b∈bs then some n else m.own b⟩ w.heap:=by
  refine⟨fun j _ g hg=> ?_,fun b x y z hb ho=>⟨?_,rfl⟩,fun b x y z j g hb _ hg ho _=>⟨?_,rfl⟩⟩
  ·show(if j=n then some f else m.inf j)=some g;rw[if_neg (by intro e;subst e;rw[hmn] at hg;cases hg)];exact hg
  ·show(if b∈bs then some n else m.own b)=none;rw[if_neg (by intro e;rw[(hown b e).1] at ho;cases ho)];exact ho
  ·show(if b∈bs then some n else m.own b)=some j;rw[if_neg (by intro e;rw[(hown b e).1] at ho;cases ho;rw[hres] at hg;cases hg)];exact ho
 refine⟨⟨R.size,R.defers,fun t=>E.ver0 (R.sl t),fun j=> ?_,⟨fun b j hb=> ?_,fun b hb hW=> ?_⟩,R.fr,fun t=>E.ver0 (R.gh t)⟩,E⟩
 ·by_cases hj:j=n
  ·subst hj;simp only[St.blk,if_true];exact hN
  ·simp only[St.blk,if_neg hj];have HJ:=R.hp j;cases hi:m.inf j with
   |none=>
    rw[hi] at HJ;cases hs:s.hp j with
    |none=>trivial
    |some b=>rw[hs] at HJ;exact HJ.elim
   |some g=>
    rw[hi] at HJ;have:=zT.ext E (fun b hb x hx=>⟨?_,rfl⟩) hi HJ
    ·exact this
    ·show(if b∈bs then some n else m.own b)=some j;rw[if_neg (by intro e;rw[(hown b e).1] at hb;cases hb;rw[hres] at hi;cases hi)];exact hb
 ·simp only at hb;split at hb
  ·rename_i h;exact(hown b h).2.1
  ·exact R.own.1 b j hb
 ·show(if b∈bs then some n else m.own b)=_;rw[if_neg (by intro e;rcases(hown b e).2.2 with h|h;(· omega);exact hW h)];exact R.own.2 b hb hW
theorem zt.name(R:zt cx m s a w){n res sz:Nat}{xs:List (List D)}{u:Value}{bs:List Nat}(hn:s.hp n=none)(hres:m.inf res=none)(hne:n≠res)(H:Rd true w.heap (.sl sz xs) u bs)(hnd:bs.Nodup)
  (hown:∀b∈bs,m.own b=some res∧cx.mine b):
  ∃m',zt cx m' (s.blk n<|.data sz xs true none) a w∧qE m' w.heap (.sl n 0 xs.length) u∧Ext [] m w.heap m' w.heap∧m'.inf res=none∧∀b,b∉bs→m'.own b=m.own b:=by
 have hlt:∀b∈bs,m.own b=some res∧b < w.heap.size∧cx.mine b:=fun b hb=>by
  obtain⟨x,y,z,e⟩:=Rd.there _ _ _ H b hb;exact⟨(hown b hb).1,zH e,(hown b hb).2⟩
 simp only[Rd] at H;obtain⟨ad,cap,rfl,H⟩:=H;rcases H with⟨rfl,rfl,hc⟩|⟨b,off,cells,T,fz,bs',rfl,hh,rfl,hl,hfit,ho,hr⟩
 ·have hc0:cap=0:=hc trivial;subst hc0;obtain⟨R',E⟩:=R.nameG (k:= .data sz [] true none) (f:=⟨none,sz,0⟩) (bs:=[]) hn hres hne hlt (by unfold zT;exact⟨rfl,sz,true,none,rfl,rfl,by simp⟩);exact⟨_,R',⟨rfl,⟨none,sz,0⟩,by simp,by simp,ad,by simp,by simp⟩,E,by simp[Ne.symm hne,hres],by simp⟩
 ·obtain⟨rfl,rfl⟩:=ho trivial;obtain⟨hb1,hb2⟩:=List.nodup_cons.1 hnd;obtain⟨R',E⟩:=R.nameG (k:= .data sz xs true none) (f:=⟨some b,sz,cap⟩) (bs:=b::bs') hn hres hne hlt (by
   unfold zT;refine⟨(hown b (by simp)).2,by simp,cells,T,hh,by simpa using hfit,rfl,by simp,bs',by simpa using hr,fun _=>⟨hb2,fun c hc=>⟨by simp[hc],?_⟩⟩,by simp⟩;intro e;cases e;exact hb1 hc)
  exact⟨_,R',⟨rfl,⟨some b,sz,cap⟩,by simp,by simpa using hl,some ⟨b,0,none⟩,by simp,fun _=>⟨b,rfl,by simp⟩⟩,E,by simp[Ne.symm hne,hres],fun c hc=>by simp only;rw[if_neg hc]⟩
theorem zce{h:Hp}:∀{cs:List D} {vs:List Value} {bs:List Nat},cs.all D.flat=true→RdL true h cs vs bs→bs=[]∧zl (qE m h) (cs.map C.d) vs
 |[],vs,bs,_,H=>by
  simp only[RdL] at H;obtain⟨rfl,rfl⟩:=H;exact⟨rfl,trivial⟩
 |d::ds,vs,bs,hf,H=>by
  simp only[RdL] at H;obtain⟨v,vs',b1,b2,rfl,rfl,hc,h1,h2⟩:=H;simp only[List.all_cons,Bool.and_eq_true] at hf;have e1:=Zh hf.1 h1;subst e1;obtain⟨rfl,h3⟩:=zce hf.2 h2;exact⟨rfl,⟨j8 hc h1,[],Rd.weak _ _ _ h1,by simp⟩,h3⟩
theorem zt.nameP(R:zt cx m s a w){n res:Nat}{cs:List D}{u:Value}{bs:List Nat}(hcs:cs.all D.flat=true)(hn:s.hp n=none)(hres:m.inf res=none)(hne:n≠res)(H:Rd true w.heap (.ptr cs) u bs)(hnd:bs.Nodup)
  (hown:∀b∈bs,m.own b=some res∧cx.mine b):
  ∃m',zt cx m' (s.blk n<|.vars cs.length<|cs.map C.d) a w∧qE m' w.heap (.ptr<|.nm n 0 0) u∧Ext [] m w.heap m' w.heap∧m'.inf res=none∧∀b,b∉bs→m'.own b=m.own b:=by
 have hlt:∀b∈bs,m.own b=some res∧b < w.heap.size∧cx.mine b:=fun b hb=>by
  obtain⟨x,y,z,e⟩:=Rd.there _ _ _ H b hb;exact⟨(hown b hb).1,zH e,(hown b hb).2⟩
 simp only[Rd] at H;obtain⟨b,off,cells,T,fz,bs',rfl,hh,rfl,ho,hr⟩:=H;obtain⟨rfl,rfl,hsz⟩:=ho trivial;have hfull:(cells.toList.drop 0).take cs.length=cells.toList:=by
  rw[List.drop_zero];apply List.take_of_length_le;simp;omega
 rw[hfull] at hr;obtain⟨rfl,hall⟩:=zce (m:=⟨fun j=>if j=n then some ⟨some b,cs.length,1⟩ else m.inf j,fun c=>if c∈[b] then some n else m.own c⟩) hcs hr;obtain⟨R',E⟩:=R.nameG (k:= .vars cs.length (cs.map C.d)) (f:=⟨some b,cs.length,1⟩) (bs:=[b]) hn hres hne hlt (by
  unfold zT;exact⟨(hown b (by simp)).2,by simp,cells,T,hh,by simp;omega,rfl,hall⟩)
 exact⟨_,R',⟨rfl,⟨some b,cs.length,1⟩,b,by simp,rfl,by simp⟩,E,by simp[Ne.symm hne,hres],fun c hc=>by simp only;rw[if_neg hc]⟩
theorem zt.nameO(R:zt cx m s a w){n res:Nat}{cs:List D}{u:Value}{bs:List Nat}(hn:s.hp n=none)(hres:m.inf res=none)(hne:n≠res)(H:Rd true w.heap (.ptr cs) u bs)(hnd:bs.Nodup)
  (hown:∀b∈bs,m.own b=some res∧cx.mine b):
  ∃m',zt cx m' (s.blk n<|.own cs) a w∧qE m' w.heap (.ptr<|.nm n 0 0) u∧Ext [] m w.heap m' w.heap∧m'.inf res=none∧∀b,b∉bs→m'.own b=m.own b:=by
 have hlt:∀b∈bs,m.own b=some res∧b < w.heap.size∧cx.mine b:=fun b hb=>by
  obtain⟨x,y,z,e⟩:=Rd.there _ _ _ H b hb;exact⟨(hown b hb).1,zH e,(hown b hb).2⟩
 simp only[Rd] at H;obtain⟨b,off,cells,T,fz,bs',rfl,hh,rfl,ho,hr⟩:=H;obtain⟨rfl,rfl,hsz⟩:=ho trivial;have hfull:(cells.toList.drop 0).take cs.length=cells.toList:=by
  rw[List.drop_zero];apply List.take_of_length_le;simp;omega
 rw[hfull] at hr;obtain⟨hb1,hb2⟩:=List.nodup_cons.1 hnd;obtain⟨R',E⟩:=R.nameG (k:= .own cs) (f:=⟨some b,cs.length,1⟩) (bs:=b::bs') hn hres hne hlt (by
  unfold zT;refine⟨(hown b (by simp)).2,by simp,cells,T,hh,by simp;omega,rfl,bs',hr,hb2,fun c hc=>⟨by simp[hc],?_⟩⟩;intro e;cases e;exact hb1 hc)
 exact⟨_,R',⟨rfl,⟨some b,cs.length,1⟩,b,by simp,rfl,by simp⟩,E,by simp[Ne.symm hne,hres],fun c hc=>by simp only;rw[if_neg hc]⟩
theorem zcV(R:zt cx m s a w){n res:Nat}{x:D}{u:Value}{bs:List Nat}(hx:x.isCell=true)(hf:qp s ((QA n x).2.map (·.1)))(hres:m.inf res=none)(hne:res∉(QA n x).2.map (·.1))(H:Rd true w.heap x u bs)(hnd:bs.Nodup)
  (hown:∀b∈bs,m.own b=some res∧cx.mine b):
  ∃m',zt cx m' (s.blks (QA n x).2) a w∧qE m' w.heap (QA n x).1 u∧Ext [] m w.heap m' w.heap∧m'.inf res=none∧∀b,b∉bs→m'.own b=m.own b:=by
 have E0:Ext [] m w.heap m w.heap:=⟨fun _ _ _ h=>h,fun _ _ _ _ _ h=>⟨h,rfl⟩,fun _ _ _ _ _ _ _ _ _ h _=>⟨h,rfl⟩⟩;have hcell:=j8 hx H;cases x with
 |sl sz xs=>
  obtain⟨m',h1,h2,h3,h4,h5⟩:=R.name hf.1 hres (by simp[QA] at hne;exact Ne.symm hne) H hnd hown;exact⟨m',h1,h2,h3,h4,h5⟩
 |int k z=>
  have hw:=Rd.weak _ _ _ H;have:bs=[]:=Zh (x:= .int k z) O H;subst this;exact⟨m,R,⟨hcell,[],hw,by simp⟩,E0,hres,fun _ _=>rfl⟩
 |bool b=>
  have hw:=Rd.weak _ _ _ H;have:bs=[]:=Zh (x:= .bool b) O H;subst this;exact⟨m,R,⟨hcell,[],hw,by simp⟩,E0,hres,fun _ _=>rfl⟩
 |str b=>
  have hw:=Rd.weak _ _ _ H;have:bs=[]:=Zh (x:= .str b) O H;subst this;exact⟨m,R,⟨hcell,[],hw,by simp⟩,E0,hres,fun _ _=>rfl⟩
 |agg _=>simp[D.isCell] at hx
 |ptr cs=>
  by_cases hc:cs.all D.flat=true
  ·have e:QA n (.ptr cs)=(.ptr<|.nm n 0 0,[(n,.vars cs.length<|cs.map C.d)]):=by simp only[QA];rw[if_pos hc]
   rw[e] at hf hne ⊢;exact R.nameP hc hf.1 hres (by simp at hne;exact Ne.symm hne) H hnd hown
  ·have e:QA n (.ptr cs)=(.ptr<|.nm n 0 0,[(n,.own cs)]):=by simp only[QA];rw[if_neg hc]
   rw[e] at hf hne ⊢;exact R.nameO hf.1 hres (by simp at hne;exact Ne.symm hne) H hnd hown
 |pin v=>
  have hw:=Rd.weak _ _ _ H;have:bs=[]:=Zh (x:= .pin v) O H;subst this;exact⟨m,R,⟨hcell,[],hw,by simp⟩,E0,hres,fun _ _=>rfl⟩
 |both _ _=>exact⟨m,R,⟨hcell,trivial⟩,E0,hres,fun _ _=>rfl⟩
 |fn _ _=>exact⟨m,R,⟨hcell,trivial⟩,E0,hres,fun _ _=>rfl⟩
theorem Ext.trans{m1 m2 m3:M}{h1 h2 h3:Hp}(E:Ext [] m1 h1 m2 h2)(F:Ext [] m2 h2 m3 h3):Ext [] m1 h1 m3 h3 where
 inf n hn f hf:=F.inf n hn f (E.inf n hn f hf)
 free b c T f hb ho:=by
  obtain⟨a1,a2⟩:=E.free b c T f hb ho;obtain⟨b1,b2⟩:=F.free b c T f (a2.trans hb) a1;exact⟨b1,b2.trans a2⟩
 hid b c T z n f hb hk hf ho hr:=by
  obtain⟨a1,a2⟩:=E.hid b c T z n f hb hk hf ho hr;obtain⟨b1,b2⟩:=F.hid b c T z n f (a2.trans hb) hk (E.inf n O f hf) a1 hr;exact⟨b1,b2.trans a2⟩
theorem KN:∀{xs:List D} {m:M} {s:St} (_:zt cx m s a w) {n res:Nat} {us:List Value} {bs:List Nat} (_:qp s ((jN n xs).2.map (·.1))) (_:m.inf res=none) (_:res∉(jN n xs).2.map (·.1)) (_:RdL true w.heap xs us bs) (_:bs.Nodup)
  (_:∀b∈bs,m.own b=some res∧cx.mine b),
  ∃m',zt cx m' (s.blks (jN n xs).2) a w∧zl (qE m' w.heap) (jN n xs).1 us∧Ext [] m w.heap m' w.heap∧m'.inf res=none∧∀b,b∉bs→m'.own b=m.own b
 |[],m,s,R,n,res,us,bs,_,hres,_,H,_,_=>by
  simp only[RdL] at H;obtain⟨rfl,rfl⟩:=H;exact⟨m,R,trivial,⟨fun _ _ _ h=>h,fun _ _ _ _ _ h=>⟨h,rfl⟩,fun _ _ _ _ _ _ _ _ _ h _=>⟨h,rfl⟩⟩,hres,fun _ _=>rfl⟩
 |x::xs,m,s,R,n,res,us,bs,hf,hres,hne,H,hnd,hown=>by
  simp only[RdL] at H;obtain⟨u,us',b1,b2,rfl,rfl,hcell,h1,h2⟩:=H;simp only[jN,List.map_append] at hf hne;simp only[List.mem_append,not_or] at hne;obtain⟨f1,f2,f3⟩:=xP hf;obtain⟨n1,n2,n3⟩:=List.nodup_append.1 hnd;obtain⟨m1,R1,c1,E1,r1,o1⟩:=zcV R hcell f1 hres hne.1 h1 n1 (fun b hb=>hown b (by simp[hb]));obtain⟨m2,R2,c2,E2,r2,o2⟩:=KN (xs:=xs) R1 (Xy _ f3 f2) r1 hne.2 h2 n2 (fun b hb=>by
   rw[o1 b (fun hb1=>n3 b hb1 b hb O)];exact hown b (by simp[hb]))
  refine⟨m2,?_,⟨E2.c (QC _) c1,c2⟩,E1.trans E2,r2,fun b hb=> ?_⟩
  ·simp only[jN];rw[xW];exact R2
  ·simp only[List.mem_append,not_or] at hb;rw[o2 b hb.2,o1 b hb.1]
theorem zay(R:zt cx m s a w){n res:Nat}{x:D}{u:Value}{bs:List Nat}(hf:qp s ((JZ n x).2.map (·.1)))(hres:m.inf res=none)(hne:res∉(JZ n x).2.map (·.1))(H:Rd true w.heap x u bs)(hnd:bs.Nodup)
  (hown:∀b∈bs,m.own b=some res∧cx.mine b):
  ∃m',zt cx m' (s.blks (JZ n x).2) a w∧zcm m' w.heap (JZ n x).1 u∧Ext [] m w.heap m' w.heap∧m'.inf res=none∧∀b,b∉bs→m'.own b=m.own b:=by
 cases x with
 |agg cs=>
  simp only[Rd] at H;obtain⟨vs,rfl,H⟩:=H;obtain⟨m',h1,h2,h3,h4,h5⟩:=KN (n:=n) R hf hres hne H hnd hown;exact⟨m',h1,⟨vs,rfl,h2⟩,h3,h4,h5⟩
 |_=>exact zcV R O hf hres hne H hnd hown
theorem Ext.k{m':M}{h h':Hp}(E:Ext [] m h m' h'){x:V}{v:Value}(H:zcm m h x v):zcm m' h' x v:=by
 cases x with
 |top=>trivial
 |one c=>exact E.c (QC c) H
 |agg cs=>
  obtain⟨vs,hv,hall⟩:=H;exact⟨vs,hv,zl.mono (fun c _ v=>E.c (QC c)) hall⟩
 |tup _=>exact H.elim
theorem zcm.v{h:Hp}{x:V}{v:Value}(H:zcm m h x v):qK m h x v:=by
 cases x with
 |top=>trivial
 |one c=>exact H
 |agg cs=>exact H
 |tup _=>exact H.elim
theorem zbC:∀{xs:List D} {m:M} {s:St} (_:zt cx m s a w) {n res:Nat} {us:List Value} {bs:List (List Nat)} (_:qp s ((Zt n xs).2.map (·.1))) (_:m.inf res=none) (_:res∉(Zt n xs).2.map (·.1)) (_:K7 true w.heap xs us bs) (_:bs.flatten.Nodup)
  (_:∀b∈bs.flatten,m.own b=some res∧cx.mine b),
  ∃m',zt cx m' (s.blks (Zt n xs).2) a w∧zl (zcm m' w.heap) (Zt n xs).1 us∧Ext [] m w.heap m' w.heap∧m'.inf res=none∧∀b,b∉bs.flatten→m'.own b=m.own b
 |[],m,s,R,n,res,[],[],_,hres,_,H,_,_=>⟨m,R,trivial,⟨fun _ _ _ h=>h,fun _ _ _ _ _ h=>⟨h,rfl⟩,fun _ _ _ _ _ _ _ _ _ h _=>⟨h,rfl⟩⟩,hres,fun _ _=>rfl⟩
 |x::xs,m,s,R,n,res,u::us,b1::bs,hf,hres,hne,H,hnd,hown=>by
  obtain⟨h1,h2⟩:=H;simp only[Zt,List.map_append] at hf hne;simp only[List.mem_append,not_or] at hne;simp only[List.flatten_cons] at hnd hown;obtain⟨f1,f2,f3⟩:=xP hf;obtain⟨n1,n2,n3⟩:=List.nodup_append.1 hnd;obtain⟨m1,R1,c1,E1,r1,o1⟩:=zay R f1 hres hne.1 h1 n1 (fun b hb=>hown b (by simp only[List.mem_append];exact .inl hb));obtain⟨m2,R2,c2,E2,r2,o2⟩:=zbC (xs:=xs) R1 (Xy _ f3 f2) r1 hne.2 h2 n2 (fun b hb=>by
   rw[o1 b (fun hb1=>n3 b hb1 b hb O)];exact hown b (by simp only[List.mem_append];exact .inr hb))
  refine⟨m2,?_,⟨E2.k c1,c2⟩,E1.trans E2,r2,fun b hb=> ?_⟩
  ·simp only[Zt];rw[xW];exact R2
  ·simp only[List.flatten_cons,List.mem_append,not_or] at hb;rw[o2 b hb.2,o1 b hb.1]
 |[],_,_,_,_,_,_::_,_,_,_,_,H,_,_=>H.elim
 |[],_,_,_,_,_,[],_::_,_,_,_,H,_,_=>H.elim
 |_::_,_,_,_,_,_,[],_,_,_,_,H,_,_=>H.elim
 |_::_,_,_,_,_,_,_::_,[],_,_,_,H,_,_=>H.elim
theorem zcW(R:zt cx m s a w){n res:Nat}{rs:List D}{u:Value}{bs:List (List Nat)}(hf:qp s ((ZP n rs).2.map (·.1)))(hres:m.inf res=none)(hne:res∉(ZP n rs).2.map (·.1))(H:Res true w.heap rs u bs)(hnd:bs.flatten.Nodup)
  (hown:∀b∈bs.flatten,m.own b=some res∧cx.mine b):
  ∃m',zt cx m' (s.blks (ZP n rs).2) a w∧qK m' w.heap (ZP n rs).1 u∧Ext [] m w.heap m' w.heap:=by
 unfold Res at H;split at H
 ·rename_i r;obtain⟨b,rfl,H⟩:=H;simp only[List.flatten_cons,List.flatten_nil,List.append_nil] at hnd hown;obtain⟨m',h1,h2,h3,_⟩:=zay R hf hres hne H hnd hown;exact⟨m',h1,h2.v,h3⟩
 ·rename_i hr;obtain⟨vs,rfl,H⟩:=H;have e:ZP n rs=(.tup (Zt n rs).1,(Zt n rs).2):=by
   unfold ZP;split
   ·rename_i r;exact absurd O (hr r)
   ·rfl
  rw[e] at hf hne ⊢;obtain⟨m',h1,h2,h3,_⟩:=zbC R hf hres hne H hnd hown;exact⟨m',h1,⟨vs,rfl,h2⟩,h3⟩
end Go.AW
