/- A struct behind a pointer that is handed over with all that its slices hold: gathered into one name, and scattered again. Lemmas. Conditions: none. -/
import Derived.Test.YtpabbbmfcgnhdaaGreatYv
set_option linter.unusedVariables false
namespace Go.AW
theorem zt.gather{cx:Cx}{m:M}{s:St}{a:Act}{w:World}(R:zt cx m s a w){n sz:Nat}{cs:List C}{ds:List D}{ns:List Nat}(hk:s.hp n=some (.vars sz cs))(hcl:cs.length=sz)(hO:cOs s cs ds ns)(hnd:ns.Nodup)(hnn:n∉ns)(hlt:∀k∈ns,k < 1000000):
  ∃m',zt cx m' ((s.er ns).blk n<|.own ds) a w∧∀k f,ns.contains k=false→m.inf k=some f→m'.inf k=some f:=by
 have hN:=R.hp n;rw[hk] at hN;cases hf:m.inf n with
 |none=>rw[hf] at hN;exact hN.elim
 |some f=>
 rw[hf] at hN;unfold zT at hN;cases hb:f.blk with
 |none=>
  simp only[hb] at hN;obtain⟨_,_,_,_,e0,_⟩:=hN;cases e0
 |some b=>
 simp only[hb] at hN;obtain⟨g1,g2,cells,T,g4,g5,g6,g7⟩:=hN;obtain⟨BX,hr0,hnx,hBX⟩:=XQ R hnd g7 hO;obtain⟨R1,E1⟩:=R.give (n:=n) hlt hBX;have hnc:ns.contains n=false:=by
  rw[Bool.eq_false_iff];intro h;rw[List.contains_iff_mem] at h;exact hnn h
 have hnX:∀c,m.own c=some n→c∉BX:=fun c hc hx=>by
  obtain⟨_,j',hj',_,_,_,e'⟩:=hBX c hx;rw[hc] at e';cases e';exact hnn hj'
 have own1:∀c,m.own c=some n→(m.give ns BX n).own c=some n:=fun c hc=>by
  show(if c∈BX then some n else m.own c)=some n;rw[if_neg (hnX c hc)];exact hc
 have Yl:∀c∈BX,(m.give ns BX n).own c=some n:=fun c hc=>by
  show(if c∈BX then some n else m.own c)=some n;rw[if_pos hc]
 have hdl:ds.length=sz:=by rw[←hr0.length,g7.length,hcl]
 have hk1:(s.er ns).hp n=some ((Blk.vars sz cs).er ns):=by
  show(if ns.contains n then none else(s.hp n).map (Blk.er ns))=_;rw[hnc,hk];rfl
 refine⟨m.give ns BX n,R1.swapB hk1 fun f' hf' _=> ?_,fun k f hk hf=>by
  show(if ns.contains k then none else m.inf k)=some f;rw[hk];simpa using hf⟩
 have hff:f'=f:=by
  have:(if ns.contains n then none else m.inf n)=some f':=hf';rw[hnc,hf] at this;cases this;rfl
 subst hff;unfold zT;simp only[hb];refine⟨g1,own1 b g2,cells,T,g4,g5,by rw[g6,hdl],BX,hr0,hnx,fun c hc=>⟨Yl c hc,fun e=> ?_⟩⟩;rw[hb] at e;cases e;exact hnX _ g2 hc
theorem zeP(n:Nat){sz:Nat}{cs:List C}{ds:List D}{ns:List Nat}{l l' gl gl':bg}{h h':bh}(hb:LB h n (.vars sz cs))(hO:VOs h cs ds ns)(hok:KU n ns=true)(hcl:cs.length=sz)(h1:erL ns l l')(h2:erH ns h h')(h3:erL ns gl gl'):
  Wk (mk l' ((n,.own ds)::h')<|lk gl') (mk l h<|lk gl):=fun cx a w ⟨m,R⟩=>by
 unfold KU at hok;simp only[Bool.and_eq_true,decide_eq_true_eq,Bool.not_eq_true',List.all_eq_true] at hok;obtain⟨m',R',_⟩:=R.gather (n:=n) hb hcl hO.cOs hok.1.1 (fun hm=>by have:=hok.1.2;rw[List.contains_iff_mem.2 hm] at this;cases this) (fun k hk=>by have:=hok.2 k hk;rwa [Nat.blt_eq] at this);rw[zcY h1 h2 h3] at R';exact⟨m',R'⟩
theorem zl.any{m:M}{h:Hp}:∀{ds:List D} {vs:List Value} {bs:List Nat},RdL true h ds vs bs→zl (qE m h) (ds.map fun _=>C.any) vs
 |[],vs,bs,H=>by simp only[RdL] at H;obtain⟨rfl,_⟩:=H;trivial
 |d::ds,vs,bs,H=>by
  simp only[RdL] at H;obtain⟨v,vs',b1,b2,rfl,rfl,hc,h1,h2⟩:=H;exact⟨⟨j8 hc h1,trivial⟩,zl.any h2⟩
theorem zcX{s s':St}:∀{ns:List Nat},(∀k∈ns,s.hp k=none→s'.hp k=none)→qp s ns→qp s' ns
 |[],_,_=>trivial
 |n::ns,H,h=>⟨H n (by simp) h.1,h.2.1,zcX (fun k hk=>H k (by simp[hk])) h.2.2⟩
theorem zcZ{s:St}:∀{ns:List Nat},qp s ns→∀k∈ns,s.hp k=none
 |n::ns,h,k,hk=>by
  rcases List.mem_cons.1 hk with rfl|hk
  ·exact h.1
  ·exact zcZ h.2.2 k hk
theorem zt.scatter{cx:Cx}{m:M}{s:St}{a:Act}{w:World}(R:zt cx m s a w){n n0 res:Nat}{ds:List D}(hk:s.hp n=some (.own ds))(hn:n < 1000000)(hf:qp s (res::(jN n0 ds).2.map (·.1))):
  ∃m',zt cx m' ((((s.er [zI n]).blk n<|.vars ds.length (ds.map fun _=>C.any)).blks (jN n0 ds).2).blk n<|.vars ds.length (jN n0 ds).1) a w∧∀k f,k≠zI n→m.inf k=some f→m'.inf k=some f:=by
 obtain⟨hres,hne,hf⟩:=hf;have hnn:n∉(jN n0 ds).2.map (·.1):=fun h=>by
  have:=zcZ hf n h;rw[hk] at this;cases this
 have hN:=R.hp n;rw[hk] at hN;cases hfi:m.inf n with
 |none=>rw[hfi] at hN;exact hN.elim
 |some f=>
 rw[hfi] at hN;unfold zT at hN;cases hb:f.blk with
 |none=>
  simp only[hb] at hN;obtain⟨_,_,_,_,e0,_⟩:=hN;cases e0
 |some b=>
 simp only[hb] at hN;obtain⟨g1,g2,cells,T,g4,g5,g6,bs,hr,hnd,hown⟩:=hN;have hcn:∀k,([zI n]:List Nat).contains k=true↔k=zI n:=fun k=>by
  rw[List.contains_iff_mem,List.mem_singleton]
 have hsn:([zI n]:List Nat).contains n=false:=by
  rw[Bool.eq_false_iff,Ne,hcn];unfold zI;omega
 have hri:m.inf res=none:=R.noInf hres
 let m1:M:=⟨fun k=>if ([zI n]:List Nat).contains k then none else m.inf k,fun c=>if c∈bs then some res else m.own c⟩
 have hbb:b∉bs:=fun h=>(hown b h).2 hb;have E:Ext [zI n] m w.heap m1 w.heap:=by
  refine⟨fun k hk' f hf=> ?_,fun c x T' z hc ho=>⟨?_,rfl⟩,fun c x T' z k f' hc hk' hf' ho hne'=>⟨?_,rfl⟩⟩
  ·show(if ([zI n]:List Nat).contains k then none else m.inf k)=some f;rw[hk'];simpa using hf
  ·show(if c∈bs then some res else m.own c)=none;rw[if_neg (fun h=>by have:=(hown c h).1;rw[ho] at this;cases this)];exact ho
  ·show(if c∈bs then some res else m.own c)=some k;rw[if_neg (fun h=>by
    have:=(hown c h).1;rw[ho] at this;have e:k=n:=Option.some.inj this;subst e;simp only[Bool.or_eq_false_iff] at hk';have:=(hcn<|zI k).2 rfl;rw[hk'.2] at this;cases this)]
   exact ho
 have R1:zt cx m1 ((s.er [zI n]).blk n<|.vars ds.length (ds.map fun _=>C.any)) a w:=by
  refine⟨R.size,R.defers,fun t=>E.ver (R.sl t),fun k=> ?_,⟨fun c k hc=> ?_,fun c hc hW=> ?_⟩,R.fr,fun t=>E.ver (R.gh t)⟩
  ·show zT cx m1 w.heap k (if k=n then _ else(if ([zI n]:List Nat).contains k then none else(s.hp k).map (Blk.er [zI n]))) (if ([zI n]:List Nat).contains k then none else m.inf k);by_cases e:k=n
   ·subst e;rw[if_pos rfl,hsn,hfi];simp only[Bool.false_eq_true,if_false];unfold zT;simp only[hb];refine⟨g1,?_,cells,T,g4,g5,g6,zl.any hr⟩;show(if b∈bs then some res else m.own b)=some k;rw[if_neg hbb];exact g2
   ·rw[if_neg e];have HN:=R.hp k;cases hc0:([zI n]:List Nat).contains k with
    |true=>trivial
    |false=>
     simp only[Bool.false_eq_true,if_false];cases hi:m.inf k with
     |none=>
      rw[hi] at HN;cases hb':s.hp k with
      |none=>trivial
      |some x=>rw[hb'] at HN;exact HN.elim
     |some f'=>
      rw[hi] at HN;cases hb':s.hp k with
      |none=>rw[hb'] at HN;exact HN.elim
      |some x=>
       rw[hb'] at HN;have hc2:([zI n]:List Nat).contains (zI k)=false:=by
        rw[Bool.eq_false_iff,Ne,hcn];unfold zI;omega
       refine Ext.n E (by rw[hc0,hc2];rfl) (fun c hfb=> ?_) hi HN;unfold zT at HN;simp only[hfb] at HN;refine⟨?_,rfl⟩;show(if c∈bs then some res else m.own c)=some k;rw[if_neg (fun h=>by have:=(hown c h).1;rw[HN.2.1] at this;cases this;exact e O)];exact HN.2.1
  ·have hc:(if c∈bs then some res else m.own c)=some k:=hc;split at hc
   ·rename_i hx;exact R.own.1 c n (hown c hx).1
   ·exact R.own.1 c k hc
  ·show(if c∈bs then some res else m.own c)=_;rw[if_neg]
   ·exact R.own.2 c hc hW
   ·intro hx;have:=R.own.2 c hc hW;rw[(hown c hx).1] at this;have:=cx.far c n this.symm;omega
 have hf1:qp ((s.er [zI n]).blk n<|.vars ds.length (ds.map fun _=>C.any)) ((jN n0 ds).2.map (·.1)):=by
  refine zcX (fun k hk' h=> ?_) hf;show(if k=n then _ else(if ([zI n]:List Nat).contains k then none else(s.hp k).map (Blk.er [zI n])))=none;have hkn:k≠n:=fun e=>hnn (e▸hk');rw[if_neg hkn,h];simp
 have hres1:m1.inf res=none:=by
  show(if ([zI n]:List Nat).contains res then none else m.inf res)=none;rw[hri];simp
 obtain⟨m2,R2,hall,E2,r2,o2⟩:=KN (n:=n0) (res:=res) R1 hf1 hres1 hne hr hnd (fun c hc=>⟨by
  show(if c∈bs then some res else m.own c)=some res;rw[if_pos hc],R.mine_of_own (hown c hc).1 hn⟩)
 have hk2:(((s.er [zI n]).blk n<|.vars ds.length (ds.map fun _=>C.any)).blks (jN n0 ds).2).hp n=some (.vars ds.length (ds.map fun _=>C.any)):=by
  rw[zft _ _ _ hnn];show(if n=n then _ else _)=_;rw[if_pos rfl]
 refine⟨m2,R2.swapB hk2 fun f' hf' A=> ?_,fun k f hk hf=>E2.inf k O f (by
  show(if ([zI n]:List Nat).contains k then none else m.inf k)=some f;rw[if_neg (fun h=>hk ((hcn k).1 h))];exact hf)⟩
 have hff:m2.inf n=some f:=E2.inf n O f (by
  show(if ([zI n]:List Nat).contains n then none else m.inf n)=some f;rw[hsn];simpa using hfi)
 rw[hff] at hf';cases hf';unfold zT at A ⊢;simp only[hb] at A ⊢;obtain⟨a1,a2,cells',T',a4,a5,a6,_⟩:=A;have a4':=a4;rw[g4] at a4';cases a4';exact⟨a1,a2,_,_,a4,a5,a6,hall⟩
theorem zdB{cx:Cx}{m:M}{a:Act}{w:World}{n n0 res:Nat}{ds:List D}{cs0 cs':List C}{B:bh}{k:Nat}{l l' gl gl':bg}{h h':bh}(hb:LB h n (.own ds))(hn:Nat.blt n 1000000=true)(hB:jN n0 ds=(cs0,B))(hW:Xh cs0 cs')(hl:ds.length=k)(hf:qp (mk [] h fun _=> .top) (res::B.map (·.1)))(h1:erL [zI n] l l')(h2:erH [zI n] h h')(h3:erL [zI n] gl gl')(R:zt cx m (mk l h<|lk gl) a w):
  ∃m',zt cx m' (mk l' ((n,.vars k cs')::(B.reverse++h'))<|lk gl') a w∧∀k f,k≠zI n→m.inf k=some f→m'.inf k=some f:=by
 subst hl;have hf:qp (mk l h<|lk gl) (res::(jN n0 ds).2.map (·.1)):=by
  rw[hB];rw[XW (s:=mk [] h fun _=> .top) (s':=mk l h (lk gl)) rfl];exact hf
 obtain⟨m',R',hI⟩:=R.scatter (n:=n) (n0:=n0) hb (by rwa [Nat.blt_eq] at hn) hf;rw[hB] at R';refine⟨m',?_,hI⟩;have R':=R'.swapB (n:=n) (k:= .vars ds.length cs0) (k':= .vars ds.length cs') (by show(if n=n then _ else _)=_;rw[if_pos rfl]) fun f hf A=>A.var fun L HL=>hW.all HL;have e:((((((mk l h<|lk gl).er [zI n]).blk n<|.vars ds.length (ds.map fun _=>C.any)).blks B).blk n<|.vars ds.length cs0).blk n<|.vars ds.length cs')=mk l' ((n,.vars ds.length cs')::(B.reverse++h')) (lk gl'):=by
  refine St.ext' (fun t=> ?_) (fun j=> ?_) ?_
  ·show((((mk l h<|lk gl).er [zI n]).blk n<|.vars ds.length (ds.map fun _=>C.any)).blks B).sl t=lk l' t;rw[(Js B _).1];exact(h1.lk t).symm
  ·show(if j=n then _ else(if j=n then _ else((((mk l h<|lk gl).er [zI n]).blk n<|.vars ds.length (ds.map fun _=>C.any)).blks B).hp j))=lkB ((n,_)::(B.reverse++h')) j;simp only[lkB];by_cases e:j=n
   ·rw[if_pos e,if_pos e]
   ·rw[if_neg e,if_neg e,if_neg e,xC,Ko,h2.lk j];show(yR B j).or (if j=n then _ else(if ([zI n]:List Nat).contains j then none else(lkB h j).map (Blk.er [zI n])))=_;rw[if_neg e]
  ·show((((mk l h<|lk gl).er [zI n]).blk n<|.vars ds.length (ds.map fun _=>C.any)).blks B).gh=lk gl';rw[(Js B _).2];funext t;exact(h3.lk t).symm
 rw[e] at R';exact R'
theorem zht(n n0 res:Nat){ds:List D}{cs0 cs':List C}{B:bh}{k:Nat}{l l' gl gl':bg}{h h':bh}(hb:LB h n (.own ds))(hn:Nat.blt n 1000000=true)(hB:jN n0 ds=(cs0,B))(hW:Xh cs0 cs')(hl:ds.length=k)(hf:qp (mk [] h fun _=> .top) (res::B.map (·.1)))(h1:erL [zI n] l l')(h2:erH [zI n] h h')(h3:erL [zI n] gl gl'):
  Wk (mk l' ((n,.vars k cs')::(B.reverse++h'))<|lk gl') (mk l h<|lk gl):=fun cx a w ⟨m,R⟩=>(zdB hb hn hB hW hl hf h1 h2 h3 R).imp fun _ h=>h.1
def zHi(m:M)(K:List (Nat×NI)):Prop:=∀p∈K,m.inf p.1=some p.2
structure RMf(P:Program)(n:Nat)(K:List (Nat×NI))(L:List RO)(s:St)(Q:St→Prop):Prop where
 out:∀(gs:List GOp),L=(gs.map fun g=>⟨g,0,[]⟩)→∀(cx:Cx) (ops:Array Oper) (l:List Oper) (m:M) (a:Act) (w:World) (Qx:Exit→Act→World→Prop),cx.P=P→cx.n=n→l.mapM (toG cx.P cx.n ops)=some gs→zt cx m s a w→zHi m K→
  (∀s',Q s'→∀m' a' w',zt cx m' s' a' w'→Qx .normal a' w')→wpList cx.P ops Qx l a w
def SlV(f:NI)(off len:Nat)(v:Value):Prop:=v.oneCell'=true∧off+len≤f.cap∧∃ad,v= .slice ad len (f.cap - off)∧(off < f.cap→∃b,f.blk=some b∧ad=some ⟨b,off * f.sz,none⟩)
section
variable {P:Program} {nn:Nat} {L:List RO} {Q:St→Prop} {l l' gl gl':bg} {h h':bh} {g:Nat→V} {KF:List (Nat×NI)}
theorem rmF(K:RMf P nn [] L (mk l h g) Q):RM P nn L (mk l h g) Q:=⟨fun gs hL cx ops l m a w Qx hP hn hm R hQ=>K.out gs hL cx ops l m a w Qx hP hn hm R (fun _ h=>by cases h) hQ⟩
theorem qD(K:RM P nn L (mk l h g) Q):RMf P nn KF L (mk l h g) Q:=⟨fun gs hL cx ops l m a w Qx hP hn hm R _ hQ=>K.out gs hL cx ops l m a w Qx hP hn hm R hQ⟩
theorem zHJ{n k q k' off len:Nat}{cs:List C}{e:Value→List C}(hb:LB h n (.vars k cs))(hq:cs[q]? =some (.sl k' off len))(he:∀v,cs.set q (.d<|.pin v)=e v)
  (K:∀f v,SlV f off len v→RMf P nn ((k',f)::KF) L (mk l ((n,.vars k<|e v)::h) g) Q):RMf P nn KF L (mk l h g) Q:=⟨fun gs hL cx ops lo m a w Qx hP hn hm R hI hQ=>by
 have hN:=R.hp n;have hb':(mk l h g).hp n=some (.vars k cs):=hb;rw[hb'] at hN;cases hf:m.inf n with
 |none=>rw[hf] at hN;exact hN.elim
 |some f0=>
 rw[hf] at hN;unfold zT at hN;cases hbk:f0.blk with
 |none=>
  simp only[hbk] at hN;obtain⟨_,_,_,_,e0,_⟩:=hN;cases e0
 |some b=>
 simp only[hbk] at hN;obtain⟨g1,g2,cells,T,g4,g5,g6,g7⟩:=hN;obtain⟨v,hv,hc⟩:=g7.at hq;obtain⟨c1,f,hfi,c2,ad,c3,c4⟩:=hc;refine(K f v ⟨c1,c2,ad,c3,c4⟩).out gs hL cx ops lo m a w Qx hP hn hm (R.swapB (n:=n) hb' fun f' hf' _=> ?_) (fun p hp=> ?_) hQ
 ·rw[hf] at hf';cases hf';unfold zT;simp only[hbk];refine⟨g1,g2,cells,T,g4,g5,g6,?_⟩;rw[←he v];have:=zl.set q (a:=C.d (.pin v)) (b:=v) (R:=qE m w.heap) (by
   refine⟨c1,[],?_,by simp⟩;simp only[Rd];exact⟨⟨trivial,ad,_,_,c3⟩,trivial⟩) g7
  have e1:cells.toList.set q v=cells.toList:=by
   obtain⟨h1,h2⟩:=List.getElem?_eq_some_iff.1 hv;rw[←h2];exact List.set_getElem_self h1
  rwa [e1] at this
 ·rcases List.mem_cons.1 hp with rfl|hp
  ·exact hfi
  ·exact hI p hp⟩
theorem zlP{n k q k' off len:Nat}{cs cs':List C}{f:NI}{v:Value}(hv:SlV f off len v)(hb:LB h n (.vars k cs))(hq:cs[q]? =some (.d<|.pin v))(hm:(k',f)∈KF)(he:cs.set q (.sl k' off len)=cs')
  (K:RMf P nn KF L (mk l ((n,.vars k cs')::h) g) Q):RMf P nn KF L (mk l h g) Q:=⟨fun gs hL cx ops lo m a w Qx hP hn hm' R hI hQ=>by
 subst he;refine K.out gs hL cx ops lo m a w Qx hP hn hm' (R.swapB (n:=n) (k:= .vars k cs) hb fun f' hf' A=>A.var fun L HL=>HL.swap hq fun u hu=> ?_) hI hQ;obtain⟨h1,bs,hr,_⟩:=hu;simp only[Rd] at hr;have e:v=u:=hr.1.1;subst e;exact⟨hv.1,f,hI _ hm,hv.2⟩⟩
theorem zaA(n:Nat){sz:Nat}{cs:List C}{ds:List D}{ns:List Nat}(hb:LB h n (.vars sz cs))(hO:VOs h cs ds ns)(hok:KU n ns=true)(hcl:cs.length=sz)(h1:erL ns l l')(h2:erH ns h h')(h3:erL ns gl gl')(hk:(KF.all fun p=>!ns.contains p.1)=true)
  (K:RMf P nn KF L (mk l' ((n,.own ds)::h')<|lk gl') Q):RMf P nn KF L (mk l h<|lk gl) Q:=⟨fun gs hL cx ops lo m a w Qx hP hn hm R hI hQ=>by
 unfold KU at hok;simp only[Bool.and_eq_true,decide_eq_true_eq,Bool.not_eq_true',List.all_eq_true] at hok;obtain⟨m',R',hI'⟩:=R.gather (n:=n) hb hcl hO.cOs hok.1.1 (fun hm=>by have:=hok.1.2;rw[List.contains_iff_mem.2 hm] at this;cases this) (fun k hk=>by have:=hok.2 k hk;rwa [Nat.blt_eq] at this);rw[zcY h1 h2 h3] at R';exact K.out gs hL cx ops lo m' a w Qx hP hn hm R' (fun p hp=>hI' _ _ (by have:=List.all_eq_true.1 hk p hp;simpa using this) (hI p hp)) hQ⟩
theorem zjc(n n0 res:Nat){ds:List D}{cs0 cs':List C}{B:bh}{k:Nat}(hb:LB h n (.own ds))(hn:Nat.blt n 1000000=true)(hB:jN n0 ds=(cs0,B))(hW:Xh cs0 cs')(hl:ds.length=k)(hf:qp (mk [] h fun _=> .top) (res::B.map (·.1)))(h1:erL [zI n] l l')(h2:erH [zI n] h h')(h3:erL [zI n] gl gl')(hk:(KF.all fun p=>!Nat.beq p.1 (zI n))=true)
  (K:RMf P nn KF L (mk l' ((n,.vars k cs')::(B.reverse++h'))<|lk gl') Q):RMf P nn KF L (mk l h<|lk gl) Q:=⟨fun gs hL cx ops lo m a w Qx hP hn' hm R hI hQ=>by
 obtain⟨m',R',hI'⟩:=zdB hb hn hB hW hl hf h1 h2 h3 R;refine K.out gs hL cx ops lo m' a w Qx hP hn' hm R' (fun p hp=>hI' _ _ (fun e=> ?_) (hI p hp)) hQ;have:=List.all_eq_true.1 hk p hp;rw[e] at this;simp at this⟩
end
theorem RMf.call{P:Program}{n:Nat}{K:List (Nat×NI)}{L:List RO}{s:St}{Q':St→Prop}{d:Nat}{f:Opd}{args:List Opd}(h:zbf P s d (s.ev f) (args.map s.ev) (fun out=>RMf P n K L (s.app out) Q'∧(K.all fun p=>!out.er.contains p.1&&!(out.hp.map (·.1)).contains p.1)=true)):RMf P n K (⟨⟨none,.callv d f args⟩,0,[]⟩::L) s Q':=⟨fun gs hL cx ops l m a w Qx hP hn hm R hI hQ=>by
 subst hP;subst hn;cases gs with
 |nil=>cases hL
 |cons g gs=>
  simp only[List.map_cons,List.cons.injEq,RO.mk.injEq,and_true] at hL;obtain⟨rfl,hL⟩:=hL;cases l with
  |nil=>simp at hm
  |cons o l=>
   simp only[List.mapM_cons,Option.pure_def,Option.bind_eq_bind,obi] at hm;obtain⟨g',hg,gs',hgs,he⟩:=hm;cases he;obtain⟨h1,h2,_⟩:=Y4 hg;have key:∃c:Call,o.op= .call c∧Qa cx.P cx.n o c=some (.callv d f args):=by
    unfold x9 at h1;split at h1
    case h_24 c hop=>exact⟨c,hop,h1⟩
    case h_25=>cases h1
    case h_9=>
     split at h1;rotate_left
     ·cases h1
     simp only[obi,omi] at h1;obtain⟨_,_,_,_,_,_,h1⟩:=h1;cases h1
    all_goals
     rw[obi] at h1;obtain⟨d,hd,h1⟩:=h1
     repeat' (first|(rw[obi] at h1;obtain⟨_,_,h1⟩:=h1)|(rw[omi] at h1;obtain⟨_,_,h1⟩:=h1;cases h1;done)|(split at h1)|(cases h1;done))
   obtain⟨c,hop,hc⟩:=key;obtain⟨callee,xs,ts⟩:=c;have kk:∃f0,callee= .value f0∧yw cx.n o=some d∧zJ f0=some f∧xs.toList.mapM zJ=some args:=by
    unfold Qa at hc;split at hc
    case h_8 f0 hf0=>
     simp only at hf0;subst hf0;simp only[obi,omi] at hc;obtain⟨d',hd,f',hf,xs',hxs,hc⟩:=hc;cases hc;exact⟨f0,rfl,hd,hf,hxs⟩
    case h_9=>cases hc
    case h_5=>
     simp only[obi] at hc;obtain⟨_,_,_,_,_,_,_,_,_,_,_,_,hc⟩:=hc;split at hc
     ·simp only[omi] at hc;obtain⟨_,_,hc⟩:=hc;cases hc
     ·cases hc
    case h_2=>
     rw[obi] at hc;obtain⟨_,_,hc⟩:=hc;rw[obi] at hc;obtain⟨_,_,hc⟩:=hc;split at hc;rotate_left
     ·simp only[obi] at hc;obtain⟨_,_,_,_,_,_,_,_,_,_,_,_,hc⟩:=hc;split at hc
      ·simp only[obi,omi] at hc;obtain⟨_,_,_,_,hc⟩:=hc;cases hc
      ·cases hc
     simp only[obi] at hc;obtain⟨_,_,_,_,_,_,_,_,hc⟩:=hc;split at hc;rotate_left
     ·cases hc
     simp only[obi,omi] at hc;obtain⟨_,_,_,_,hc⟩:=hc;cases hc
    all_goals
     simp only[obi,omi] at hc;obtain⟨_,_,hc⟩:=hc
     repeat' (obtain⟨_,_,hc⟩:=hc)
     first|(cases hc;done)|skip
   obtain⟨f0,rfl,hdd,hf,hxs⟩:=kk;have:=zch (Q:=Qx) (K:=wpList cx.P ops Qx l) R hop (zd hdd).1 (zd hdd).2 hf hxs h (fun out hk m' a' w' R' hF=>hk.1.out gs hL cx ops l m' a' w' Qx O O hgs R' (fun p hp=>by
    have h1:=List.all_eq_true.1 hk.2 p hp;simp only[Bool.and_eq_true,Bool.not_eq_true'] at h1;exact(hF p.1 h1.1 h1.2 p.2<|hI p hp).1) hQ)
   unfold wpList;have hw:Region.wanted o (yielded ops a.tmps)=true:=by simp[Region.wanted,h2 rfl]
   rw[if_pos hw];exact .inl this⟩
section
variable {P:Program} {nn:Nat} {L:List RO} {Q:St→Prop} {l l':bg} {h h' h2:bh} {gl gl':bg} {d f:Nat} {fo:Opd} {fv u:V} {us vs:List V} {args:List Opd} {as:List Ar} {ON ls G E:List Nat} {rs':List D} {MB bs:bh} {KF:List (Nat×NI)}
theorem zlH(hf0:Ev l fo fv)(hcl:Cl fv f us)(hf:Fn P f as true rs')(ha:Evs l args vs)(hA:AO h (vs++us) as ON ls)(hM:yV (vs++us) as=MB)(hE:yX G MB=E)(hok:JK ON ls G (MB.map (·.1))=true)(hs:SZ h MB)
  (h1:erL E l l') (h2':erH E h h') (h3:erL E gl gl') (hu:XK rs'=u) (hh:MB.reverse++h'=h2)
  (hKk:(KF.all fun p=>!E.contains p.1&&!(MB.map (·.1)).contains p.1)=true) (K:RMf P nn KF L (mk ((d,u)::l') h2<|lk gl') Q):RMf P nn KF (⟨⟨none,.callv d fo args⟩,0,[]⟩::L) (mk l h<|lk gl) Q:=RMf.call (by
 subst hM;subst hE;subst hh;subst hu;simp only[JK,Bool.and_eq_true,decide_eq_true_eq,List.all_eq_true] at hok;obtain⟨⟨⟨⟨⟨k1,k2⟩,k3⟩,k4⟩,k5⟩,k6⟩:=hok;rw[hf0.ev,ha.ev];refine⟨(f,us),as,ON,ls,G,rs',false,hcl,hA.args,k1,fun n hn=>by simpa using k2 n hn,.inl hf,fun n hn=>by simpa using k3 n hn,fun n hn=>by simpa using k4 n hn,fun n hn=>by have h:=k5 n hn;rw[Nat.blt_eq] at h;exact h,fun n hn=>by have h:=k6 n hn;rw[Nat.blt_eq] at h;exact h,fun p hp=>hs.mem p hp,?_⟩;simp only[Bool.false_eq_true,if_false];refine⟨?_,by simpa using hKk⟩;show RMf P nn KF L ((mk l h<|lk gl).app _) Q;have:=zd2 (E:=yX G (yV (vs++us) as)) (d:=d) (u:=XK rs') (MB:=yV (vs++us) as) (bs:=[]) h1 h2' h3;rw[List.append_nil] at this;rw[this];exact K)
end
def PQ(Q:Exit→St→Prop):Exit→St→Prop:=fun e s=>∃t,Wk t s∧Q e t
theorem PQ.at{Q:Exit→St→Prop}{e:Exit}{s t:St}(hw:Wk t s)(h:Q e t):PQ Q e s:=⟨t,hw,h⟩
theorem AW.post{P:Program}{n:Nat}{c:IC}{Q:Exit→St→Prop}{s:St}(h:AW P n c (PQ Q) s):AW P n c Q s:=
 ⟨fun cx code hh hh' a w hP hn ht R=>wp_mono (h.h cx code hh hh' a w hP hn ht R) fun e a w ⟨s',⟨t,hw,hq⟩,r⟩=>⟨t,hq,hw cx a w r⟩⟩
def ZW:List C→List C→Prop
 |[],[]=>True
 |c::cs,c'::cs'=>CWk c c'∧ZW cs cs'
 |_,_=>False
theorem ZW.nil:ZW [] []:=trivial
theorem ZW.k{c:C}{cs cs':List C}(H:ZW cs cs'):ZW (c::cs) (c::cs'):=⟨CWk.rfl,H⟩
theorem ZW.z{sz:Nat}{cs cs':List C}(H:ZW cs cs'):ZW (.zs::cs) (.d (.sl sz [])::cs'):=⟨CWk.zs,H⟩
theorem ZW.all{m:M}{h:Hp}:∀{cs cs':List C} {us:List Value},ZW cs cs'→zl (qE m h) cs us→zl (qE m h) cs' us
 |[],[],_,_,H=>H
 |_::_,_::_,[],_,H=>H.elim
 |_::_,_::_,_::_,W,H=>⟨W.1 _ _ _ H.1,ZW.all W.2 H.2⟩
 |[],_::_,_,W,_=>W.elim
 |_::_,[],_,W,_=>W.elim
theorem kc{cs cs':List C}(W:ZW cs cs'):VWk (.agg cs) (.agg cs'):=fun m h x H=>by
 have H:zcm m h (.agg cs) x:=H;obtain⟨vs,e,H⟩:=H;exact⟨vs,e,ZW.all W H⟩
theorem zaw(t:Nat){v v':V}{l:bg}{h:bh}{g:Nat→V}(hx:Ev l (.t t) v)(hw:VWk v v'):Wk (mk ((t,v')::l) h g) (mk l h g):=by
 refine zfV (fun k m hp x H=> ?_) O fun _=>rfl;show qK m hp (lk ((t,v')::l) k) x;have H:qK m hp (lk l k) x:=H;simp only[lk];split
 ·rename_i e;subst e;rw[hx.lk] at H;exact hw _ _ _ H
 ·exact H
end Go.AW
