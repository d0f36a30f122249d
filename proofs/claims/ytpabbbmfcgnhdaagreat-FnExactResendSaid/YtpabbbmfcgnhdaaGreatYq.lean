/- A row that is owned no longer, and what is held to its value while it is known what it is. Lemmas. Conditions: none. -/
import Derived.Test.YtpabbbmfcgnhdaaGreatYm
set_option linter.unusedVariables false
set_option linter.unusedSimpArgs false
namespace Go.AW
theorem zgL:∀{ds es:List D},ql ds es→ds.length=es.length
 |[],[],_=>rfl
 |_::_,_::_,W=>by simp only[List.length_cons,zgL W.2.2]
 |[],_::_,W=>W.elim
 |_::_,[],W=>W.elim
theorem zjz{ds es:List D}(W:ql ds es):RdI (.ptr ds) (.ptr es):=fun h v bs H=>by
 simp only[Rd] at H;obtain⟨b,off,cells,T,fz,bs',e,hh,rfl,ho,H⟩:=H;obtain⟨bs2,i,j⟩:=W.read H;rw[←zgL W] at j;refine⟨b::bs2,fun c hc=> ?_,by simp only[Rd];exact⟨b,off,cells,T,fz,bs2,e,hh,_root_.rfl,fun h'=>by simp at h',j⟩⟩;rcases List.mem_cons.1 hc with rfl|hc
 ·exact .head _
 ·exact .tail _ (i c hc)
theorem zic{v:Value}{sz:Nat}{xs:List (List D)}:RdI (.pin v) (.both v<|.sl sz xs):=fun h u bs H=>by
 simp only[Rd] at H;obtain⟨⟨e,_⟩,a,cap,e2,_⟩:=H;exact⟨[],by simp,by simp only[Rd];exact⟨⟨e,_,_,_,e2⟩,trivial⟩⟩
theorem zfO{v:Value}{sz:Nat}{xs:List (List D)}:CWk (.d<|.both v<|.sl sz xs) (.d<|.pin v):=fun m h u ⟨h1,bs,h2,h3⟩=>by
 simp only[Rd] at h2;obtain⟨⟨e,_⟩,a,cap,e2,_⟩:=h2;exact⟨h1,[],by simp only[Rd];exact⟨⟨e,_,_,_,e2⟩,trivial⟩,by simp⟩
theorem xM{c:C}:CWk c .any:=fun m h u H=>⟨H.1,trivial⟩
section
variable {P:Program} {nn:Nat} {l l' gl gl':bB} {h h':bC} {g:Nat→V} {Q:Exit→St→Prop} {c:IC}
theorem zf7{n k q:Nat}{cs:List C}{x:D}{e:Value→List C}(hb:LB h n (.vars k cs))(hq:cs[q]? =some (.d x))(he:∀v,cs.set q (.d<|.both v x)=e v)
  (K:∀v,AW P nn c Q<|mk l ((n,.vars k<|e v)::h) g):AW P nn c Q (mk l h g):=⟨fun cx code hh hh' a w hP hn ht ⟨m,R⟩=>by
 have hb':(mk l h g).hp n=some (.vars k cs):=hb;have hN:=R.hp n;rw[hb'] at hN;cases hf:m.inf n with
 |none=>rw[hf] at hN;exact hN.elim
 |some f=>
  rw[hf] at hN;unfold zY at hN;cases hfb:f.blk with
  |none=>
   simp only[hfb] at hN;obtain⟨_,_,_,_,e0,_⟩:=hN;cases e0
  |some b=>
   simp only[hfb] at hN;obtain⟨_,_,cells,T,g4,g5,g6,g7⟩:=hN;obtain⟨v,hv,hx⟩:=g7.at hq;refine(K v).h cx code hh hh' a w hP hn ht ⟨m,?_⟩;rw[←he v];refine R.swapB (n:=n) (k:= .vars k cs) hb fun f' hf' A=> ?_;rw[hf] at hf';cases hf';unfold zY at A ⊢;simp only[hfb] at A ⊢;obtain⟨a1,a2,cells',T',a4,a5,a6,a7⟩:=A;rw[g4] at a4;cases a4;refine⟨a1,a2,cells,T,g4,a5,a6,?_⟩;obtain⟨h1,bs,h2,h3⟩:=hx;have hnew:qJ m w.heap (.d<|.both v x) v:=⟨h1,bs,by simp only[Rd];exact⟨⟨trivial,h1⟩,h2⟩,h3⟩;have:=zw.set q hnew a7;have e1:cells.toList.set q v=cells.toList:=by
    obtain⟨h1,h2⟩:=List.getElem?_eq_some_iff.1 hv;rw[←h2];exact List.set_getElem_self h1
   rwa [e1] at this⟩
theorem zd1(t:Nat){n k q i:Nat}{cs es es':List C}{x:D}{v:Value}(hb:LB h n (.vars k cs))(hq:cs[q]? =some (.d<|.both v x))(hx:Ev l (.t t) (.agg es))(hi:es[i]? =some (.d<|.pin v))(he:es.set i (.d x)=es'):Wk (mk ((t,.agg es')::l) h g) (mk l h g):=fun cx a w ⟨m,R⟩=>by
 subst he;have hb':(mk l h g).hp n=some (.vars k cs):=hb;have hN:=R.hp n;rw[hb'] at hN;have key:∀u,qJ m w.heap (.d<|.pin v) u→qJ m w.heap (.d x) u:=fun u hu=>by
  cases hf:m.inf n with
  |none=>rw[hf] at hN;exact hN.elim
  |some f=>
   rw[hf] at hN;unfold zY at hN;cases hfb:f.blk with
   |none=>
    simp only[hfb] at hN;obtain⟨_,_,_,_,e0,_⟩:=hN;cases e0
   |some b=>
    simp only[hfb] at hN;obtain⟨_,_,cells,T,g4,g5,g6,g7⟩:=hN;obtain⟨y,hy,h1,bs,h2,h3⟩:=g7.at hq;simp only[Rd] at h2;obtain⟨h4,bs',h5,_⟩:=hu;simp only[Rd] at h5;have e1:v=u:=h5.1.1;have e2:v=y:=h2.1.1;subst e1;subst e2;exact⟨h1,bs,h2.2,h3⟩
 refine⟨m,R.size,R.defers,fun j=> ?_,R.hp,R.own,R.fr,R.gh⟩;show qV m w.heap (lk ((t,.agg<|es.set i<|.d x)::l) j) _;have H:=R.sl j;have H:qV m w.heap (lk l j) (a.tmps.getD j undef):=H;simp only[lk];split
 ·rename_i e;subst e;rw[hx.lk] at H;obtain⟨vs,e,H⟩:=H;obtain⟨u,hu,hc⟩:=H.at hi;have:=zw.set i (key u hc) H;have e1:vs.toList.set i u=vs.toList:=by
   obtain⟨h1,h2⟩:=List.getElem?_eq_some_iff.1 hu;rw[←h2];exact List.set_getElem_self h1
  rw[e1] at this;exact⟨vs,e,this⟩
 ·exact H
theorem zaT{α:Type}{f:α→List D}(n:Nat){b k i sz len:Nat}{own:Bool}{cp:Option Nat}{xs:List α}{cs cs':List C}(hb:LB h b (.vars k cs))(hq:cs[i]? =some (.sl n 0 len))(hn:LB h n (.data sz (xs.map f) own cp))(hl:xs.length=len)(hfl:∀x,((f x).all D.flat)=true)(hlt:Nat.blt n 1000000=true)
  (h1:erL [n] l l') (h2:erH [n] h h') (h3:erL [n] gl gl') (hc:(cs.map<|C.er [n]).set i (.d<|.sl sz<|xs.map f)=cs'):Wk (mk l' ((b,.vars k cs')::h')<|lk gl') (mk l h<|lk gl):=fun cx a w ⟨m,R⟩=>by
 subst hc;subst hl;have hlt:n < 1000000:=by rwa [Nat.blt_eq] at hlt
 have hb':(mk l h<|lk gl).hp b=some (.vars k cs):=hb;have hn':(mk l h<|lk gl).hp n=some (.data sz (xs.map f) own cp):=hn;have hbn:b≠n:=fun e=>by subst e;rw[hb'] at hn';cases hn'
 have hcb:([n].contains b||[n].contains (zQ b))=([n].contains<|zQ b):=by simp[hbn]
 have hNb:=R.hp b;rw[hb'] at hNb;cases hf:m.inf b with
 |none=>rw[hf] at hNb;exact hNb.elim
 |some fb=>
 rw[hf] at hNb;unfold zY at hNb;cases hfb:fb.blk with
 |none=>
  simp only[hfb] at hNb;obtain⟨_,_,_,_,e0,_⟩:=hNb;cases e0
 |some rb=>
 simp only[hfb] at hNb;obtain⟨b1,b2,cells,T,b4,b5,b6,b7⟩:=hNb;obtain⟨u,hu,hu1,fn,hfn,hcap,ad,rfl,had⟩:=b7.at hq;have hNn:=R.hp n;rw[hn',hfn] at hNn
 let m':M:={inf:=fun j=>if j=n then none else m.inf j,own:=fun c=>if fn.blk=some c then none else m.own c}
 have hroot:∀c,fn.blk=some c→m.own c=some n:=fun c hc=>by
  unfold zY at hNn;simp only[hc] at hNn;exact hNn.2.1
 have E:Ext [n] m w.heap m' w.heap:=⟨fun j hj f hf=>by
   have:j≠n:=by simpa using hj
   simp[m',this,hf],fun c x y z hc ho=>⟨by
   show(if fn.blk=some c then none else m.own c)=none;split
   ·rfl
   ·exact ho,rfl⟩,fun c x y z j g hc hj hg ho hne=>⟨by
   have hjn:j≠n:=by intro e;subst e;simp at hj
   show(if fn.blk=some c then none else m.own c)=some j;rw[if_neg (fun e=> ?_)]
   ·exact ho
   ·rw[hroot c e] at ho;cases ho;exact hjn rfl,rfl⟩⟩
 have hval:qJ m' w.heap (.d<|.sl sz<|xs.map f) (.slice ad xs.length (fn.cap - 0)):=by
  refine⟨hu1,?_⟩;unfold zY at hNn;cases hfn2:fn.blk with
  |none=>
   simp only[hfn2] at hNn;obtain⟨q1,z0,o0,c0,q2,q3,_⟩:=hNn;simp only[Blk.data.injEq] at q2;obtain⟨_,q2,_,_⟩:=q2;have hx0:xs=[]:=by simpa using q2
   subst hx0;exact⟨[],by simp only[Rd];exact⟨ad,_,rfl,.inl (by simp)⟩,by simp⟩
  |some c0=>
   simp only[hfn2] at hNn;obtain⟨q1,q2,cs0,T0,q4,q5,q6,q7,bs0,q8,_⟩:=hNn;have hfl':((xs.map f).all fun e=>e.all D.flat)=true:=by
    rw[List.all_eq_true];intro e he;obtain⟨x,_,rfl⟩:=List.mem_map.1 he;exact hfl x
   obtain⟨rfl,q9⟩:=RdLL.flat hfl' q8;by_cases h0:0 < fn.cap
   ·obtain⟨c1,e1,rfl⟩:=had h0;rw[hfn2] at e1;cases e1;refine⟨[c0],?_,?_⟩
    ·simp only[Rd];refine⟨_,_,by rw[List.length_map],.inr ⟨c0,0 * fn.sz,cs0,T0,(0,0),[],rfl,q4,rfl,?_,?_,fun h=>(by cases h),?_⟩⟩
     ·rw[List.length_map];omega
     ·rw[Nat.zero_mul,Nat.zero_add,Nat.sub_zero,←q6];exact q5
     ·rw[Nat.zero_mul,List.drop_zero];exact RdLL.weak _ _ _ _ q9
    ·intro c hc;have:c=c0:=by simpa using hc
     subst this;show(if fn.blk=some c then none else m.own c)=none;rw[if_pos hfn2]
   ·have hx0:xs=[]:=by
     have:xs.length=0:=by omega
     exact List.eq_nil_of_length_eq_zero this
    subst hx0;exact⟨[],by simp only[Rd];exact⟨ad,_,rfl,.inl (by simp)⟩,by simp⟩
 have R1:zH cx m' ((mk l h<|lk gl).er [n]) a w:=by
  refine⟨R.size,R.defers,fun t=>E.ver (R.sl t),fun j=> ?_,⟨fun c j hc=> ?_,fun c hc hW=> ?_⟩,R.fr,fun t=>E.ver (R.gh t)⟩
  ·by_cases e:j=n
   ·subst e;have h1:((mk l h<|lk gl).er [j]).hp j=none:=by simp[St.er]
    have h2:m'.inf j=none:=by simp[m']
    rw[h1,h2];trivial
   ·have h1:((mk l h<|lk gl).er [n]).hp j=((mk l h<|lk gl).hp j).map (Blk.er [n]):=by simp[St.er,e]
    have h2:m'.inf j=m.inf j:=by simp[m',e]
    rw[h1,h2];have hN:=R.hp j;have own':∀c,m.own c=some j→m'.own c=some j:=fun c hc=>by
     show(if fn.blk=some c then none else m.own c)=some j;rw[if_neg (fun e'=> ?_)]
     ·exact hc
     ·rw[hroot c e'] at hc;cases hc;exact e rfl
    cases hk:(mk l h<|lk gl).hp j with
    |none=>
     rw[hk] at hN;cases hf:m.inf j with
     |none=>trivial
     |some f=>rw[hf] at hN;exact hN.elim
    |some k=>
     rw[hk] at hN;cases hf:m.inf j with
     |none=>rw[hf] at hN;exact hN.elim
     |some f=>
      rw[hf] at hN;simp only[Option.map_some];unfold zY at hN ⊢;simp only at hN ⊢;cases hfb:f.blk with
      |none=>
       simp only[hfb] at hN ⊢;obtain⟨h3,sz,o,cp,rfl,h4⟩:=hN;exact⟨h3,sz,o,cp,rfl,h4⟩
      |some b=>
       simp only[hfb] at hN ⊢;obtain⟨h3,h4,cells,T,h5,h6,h7⟩:=hN;refine⟨h3,own' b h4,cells,T,h5,h6,?_⟩;cases k with
       |data sz xs o cp=>
        obtain⟨g1,g2,bs,g3,g4,g5⟩:=h7;refine⟨g1,g2,bs,g3,fun ho=>⟨(g4 ho).1,fun c hc=>⟨own' c ((g4 ho).2 c hc).1,((g4 ho).2 c hc).2⟩⟩,fun ho c hc=> ?_⟩;show(if fn.blk=some c then none else m.own c)=none;split
        ·rfl
        ·exact g5 ho c hc
       |vars sz cs=>
        obtain⟨h8,h9⟩:=h7;exact⟨h8,zw.map (C.er [n]) (fun c _ v h=>E.cer h) h9⟩
       |own ds=>
        obtain⟨g1,bs,g3,g4,g5⟩:=h7;exact⟨g1,bs,g3,g4,fun c hc=>⟨own' c (g5 c hc).1,(g5 c hc).2⟩⟩
  ·have hc:(if fn.blk=some c then none else m.own c)=some j:=hc;split at hc
   ·cases hc
   ·exact R.own.1 c j hc
  ·show(if fn.blk=some c then none else m.own c)=cx.own0 c;split
   ·rename_i e;rcases R.mine_of_own (hroot c e) hlt with h|h
    ·omega
    ·exact absurd h hW
   ·exact R.own.2 c hc hW
 have hb1:((mk l h<|lk gl).er [n]).hp b=some (.vars k<|cs.map<|C.er [n]):=by
  have:((mk l h<|lk gl).er [n]).hp b=((mk l h<|lk gl).hp b).map (Blk.er [n]):=by simp[St.er,hbn]
  rw[this,hb'];rfl
 have R2:=R1.swapB (n:=b) (k:= .vars k (cs.map<|C.er [n])) (k':= .vars k ((cs.map<|C.er [n]).set i<|.d<|.sl sz<|xs.map f)) hb1 fun f' hf' A=>by
  have e2:m'.inf b=some fb:=by simp[m',hbn,hf]
  rw[e2] at hf';cases hf';unfold zY at A ⊢;simp only[hfb] at A ⊢;obtain⟨a1,a2,cells',T',a4,a5,a6,a7⟩:=A;rw[b4] at a4;cases a4;refine⟨a1,a2,cells,T,b4,a5,a6,?_⟩;have:=zw.set i hval a7;have e1:cells.toList.set i (.slice ad xs.length (fn.cap - 0))=cells.toList:=by
   obtain⟨h1,h2⟩:=List.getElem?_eq_some_iff.1 hu;rw[←h2];exact List.set_getElem_self h1
  rwa [e1] at this
 rw[XK h1 h2 h3] at R2;exact⟨m',R2⟩
theorem jQ(n q:Nat){k:Nat}{cs cs':List C}{c c':C}(hb:LB h n (.vars k cs))(hq:cs[q]? =some c)(hw:CWk c c')(he:cs.set q c'=cs'):Wk (mk l ((n,.vars k cs')::h) g) (mk l h g):=fun cx a w ⟨m,R⟩=>by
 subst he;refine⟨m,R.swapB (n:=n) (k:= .vars k cs) hb fun f' hf' A=> ?_⟩;unfold zY at A ⊢;cases hfb:f'.blk with
 |none=>
  simp only[hfb] at A;obtain⟨_,_,_,_,e0,_⟩:=A;cases e0
 |some b=>
  simp only[hfb] at A ⊢;obtain⟨a1,a2,cells,T,a4,a5,a6,a7⟩:=A;refine⟨a1,a2,cells,T,a4,a5,a6,?_⟩;obtain⟨u,hu,hc⟩:=a7.at hq;have:=zw.set q (hw _ _ _ hc) a7;have e1:cells.toList.set q u=cells.toList:=by
   obtain⟨h1,h2⟩:=List.getElem?_eq_some_iff.1 hu;rw[←h2];exact List.set_getElem_self h1
  rwa [e1] at this
end
end Go.AW
