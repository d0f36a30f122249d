/- A row that is owned no longer, and what is held to its value while it is known what it is. Lemmas. Conditions: none. -/
import Derived.Test.YtpabbbmfcgnhdaaGreatYo
import Derived.Test.YtpabbbmfcgnhdaaGreatYv
import Derived.Test.YtpabbbmfcgnhdaaGreatYw
set_option linter.unusedVariables false
set_option linter.unusedSimpArgs false
namespace Go.AW
theorem zh2:∀{ds es:List D},yB ds es→ds.length=es.length
 |[],[],_=>rfl
 |_::_,_::_,W=>by simp only[List.length_cons,zh2 W.2.2]
 |[],_::_,W=>W.elim
 |_::_,[],W=>W.elim
theorem zGP{ds es:List D}(W:yB ds es):RdI (.ptr ds) (.ptr es):=fun h v bs H=>by
 simp only[Rd] at H;obtain⟨b,off,cells,T,fz,bs',e,hh,rfl,ho,H⟩:=H;obtain⟨bs2,i,j⟩:=W.read H;rw[←zh2 W] at j;refine⟨b::bs2,fun c hc=> ?_,by simp only[Rd];exact⟨b,off,cells,T,fz,bs2,e,hh,_root_.rfl,fun h'=>by simp at h',j⟩⟩;rcases List.mem_cons.1 hc with rfl|hc
 ·exact .head _
 ·exact .tail _ (i c hc)
theorem zzj{v:Value}{sz:Nat}{xs:List (List D)}:CWk (.d<|.both v<|.sl sz xs) (.d<|.pin v):=fun m h u ⟨h1,bs,h2,h3⟩=>by
 simp only[Rd] at h2;obtain⟨⟨e,_⟩,a,cap,e2,_⟩:=h2;exact⟨h1,[],by simp only[Rd];exact⟨⟨e,_,_,_,e2⟩,trivial⟩,by simp⟩
section
variable {P:Program} {nn:Nat} {l l' gl gl':bg} {h h':bh} {g:Nat→V} {Q:Exit→St→Prop} {c:IC}
theorem zLF{n k q:Nat}{cs:List C}{x:D}{e:Value→List C}(hb:LB h n (.vars k cs))(hq:cs[q]? =some (.d x))(he:∀v,cs.set q (.d<|.both v x)=e v)
  (K:∀v,AW P nn c Q<|mk l ((n,.vars k<|e v)::h) g):AW P nn c Q (mk l h g):=⟨fun cx code hh hh' a w hP hn ht ⟨m,R⟩=>by
 have hb':(mk l h g).hp n=some (.vars k cs):=hb;have hN:=R.hp n;rw[hb'] at hN;cases hf:m.inf n with
 |none=>rw[hf] at hN;exact hN.elim
 |some f=>
  rw[hf] at hN;unfold zT at hN;cases hfb:f.blk with
  |none=>
   simp only[hfb] at hN;obtain⟨_,_,_,_,e0,_⟩:=hN;cases e0
  |some b=>
   simp only[hfb] at hN;obtain⟨_,_,cells,T,g4,g5,g6,g7⟩:=hN;obtain⟨v,hv,hx⟩:=g7.at hq;refine(K v).h cx code hh hh' a w hP hn ht ⟨m,?_⟩;rw[←he v];refine R.swapB (n:=n) (k:= .vars k cs) hb fun f' hf' A=> ?_;rw[hf] at hf';cases hf';unfold zT at A ⊢;simp only[hfb] at A ⊢;obtain⟨a1,a2,cells',T',a4,a5,a6,a7⟩:=A;rw[g4] at a4;cases a4;refine⟨a1,a2,cells,T,g4,a5,a6,?_⟩;obtain⟨h1,bs,h2,h3⟩:=hx;have hnew:qE m w.heap (.d<|.both v x) v:=⟨h1,bs,by simp only[Rd];exact⟨⟨trivial,h1⟩,h2⟩,h3⟩;have:=zl.set q hnew a7;have e1:cells.toList.set q v=cells.toList:=by
    obtain⟨h1,h2⟩:=List.getElem?_eq_some_iff.1 hv;rw[←h2];exact List.set_getElem_self h1
   rwa [e1] at this⟩
theorem ziC{α:Type}{f:α→List D}(n:Nat){b k i sz len:Nat}{own:Bool}{cp:Option Nat}{xs:List α}{cs cs':List C}(hb:LB h b (.vars k cs))(hq:cs[i]? =some (.sl n 0 len))(hn:LB h n (.data sz (xs.map f) own cp))(hl:xs.length=len)(hfl:∀x,((f x).all D.flat)=true)(hlt:Nat.blt n 1000000=true)
  (h1:erL [n] l l') (h2:erH [n] h h') (h3:erL [n] gl gl') (hc:(cs.map<|C.er [n]).set i (.d<|.sl sz<|xs.map f)=cs'):Wk (mk l' ((b,.vars k cs')::h')<|lk gl') (mk l h<|lk gl):=fun cx a w ⟨m,R⟩=>by
 subst hc;subst hl;have hlt:n < 1000000:=by rwa [Nat.blt_eq] at hlt
 have hb':(mk l h<|lk gl).hp b=some (.vars k cs):=hb;have hn':(mk l h<|lk gl).hp n=some (.data sz (xs.map f) own cp):=hn;have hbn:b≠n:=fun e=>by subst e;rw[hb'] at hn';cases hn'
 have hcb:([n].contains b||[n].contains (zI b))=([n].contains<|zI b):=by simp[hbn]
 have hNb:=R.hp b;rw[hb'] at hNb;cases hf:m.inf b with
 |none=>rw[hf] at hNb;exact hNb.elim
 |some fb=>
 rw[hf] at hNb;unfold zT at hNb;cases hfb:fb.blk with
 |none=>
  simp only[hfb] at hNb;obtain⟨_,_,_,_,e0,_⟩:=hNb;cases e0
 |some rb=>
 simp only[hfb] at hNb;obtain⟨b1,b2,cells,T,b4,b5,b6,b7⟩:=hNb;obtain⟨u,hu,hu1,fn,hfn,hcap,ad,rfl,had⟩:=b7.at hq;have hNn:=R.hp n;rw[hn',hfn] at hNn
 let m':M:={inf:=fun j=>if j=n then none else m.inf j,own:=fun c=>if fn.blk=some c then none else m.own c}
 have hroot:∀c,fn.blk=some c→m.own c=some n:=fun c hc=>by
  unfold zT at hNn;simp only[hc] at hNn;exact hNn.2.1
 have E:Ext [n] m w.heap m' w.heap:=⟨fun j hj f hf=>by
   have:j≠n:=by simpa using hj
   simp[m',this,hf],fun c x y z hc ho=>⟨by
   show(if fn.blk=some c then none else m.own c)=none;split
   ·rfl
   ·exact ho,rfl⟩,fun c x y z j g hc hj hg ho hne=>⟨by
   have hjn:j≠n:=by intro e;subst e;simp at hj
   show(if fn.blk=some c then none else m.own c)=some j;rw[if_neg (fun e=> ?_)]
   ·exact ho
   ·rw[hroot c e] at ho;cases ho;exact hjn rfl,rfl⟩⟩
 have hval:qE m' w.heap (.d<|.sl sz<|xs.map f) (.slice ad xs.length (fn.cap - 0)):=by
  refine⟨hu1,?_⟩;unfold zT at hNn;cases hfn2:fn.blk with
  |none=>
   simp only[hfn2] at hNn;obtain⟨q1,z0,o0,c0,q2,q3,_⟩:=hNn;simp only[Blk.data.injEq] at q2;obtain⟨_,q2,_,_⟩:=q2;have hx0:xs=[]:=by simpa using q2
   subst hx0;exact⟨[],by simp only[Rd];exact⟨ad,_,rfl,.inl (by simp)⟩,by simp⟩
  |some c0=>
   simp only[hfn2] at hNn;obtain⟨q1,q2,cs0,T0,q4,q5,q6,q7,bs0,q8,_⟩:=hNn;have hfl':((xs.map f).all fun e=>e.all D.flat)=true:=by
    rw[List.all_eq_true];intro e he;obtain⟨x,_,rfl⟩:=List.mem_map.1 he;exact hfl x
   obtain⟨rfl,q9⟩:=RdLL.flat hfl' q8;by_cases h0:0 < fn.cap
   ·obtain⟨c1,e1,rfl⟩:=had h0;rw[hfn2] at e1;cases e1;refine⟨[c0],?_,?_⟩
    ·simp only[Rd];refine⟨_,_,by rw[List.length_map],.inr ⟨c0,0 * fn.sz,cs0,T0,(0,0),[],rfl,q4,rfl,?_,?_,fun h=>(by cases h),?_⟩⟩
     ·rw[List.length_map];omega
     ·rw[Nat.zero_mul,Nat.zero_add,Nat.sub_zero,←q6];exact q5
     ·rw[Nat.zero_mul,List.drop_zero];exact RdLL.weak _ _ _ _ q9
    ·intro c hc;have:c=c0:=by simpa using hc
     subst this;show(if fn.blk=some c then none else m.own c)=none;rw[if_pos hfn2]
   ·have hx0:xs=[]:=by
     have:xs.length=0:=by omega
     exact List.eq_nil_of_length_eq_zero this
    subst hx0;exact⟨[],by simp only[Rd];exact⟨ad,_,rfl,.inl (by simp)⟩,by simp⟩
 have R1:zt cx m' ((mk l h<|lk gl).er [n]) a w:=by
  refine⟨R.size,R.defers,fun t=>E.ver (R.sl t),fun j=> ?_,⟨fun c j hc=> ?_,fun c hc hW=> ?_⟩,R.fr,fun t=>E.ver (R.gh t)⟩
  ·by_cases e:j=n
   ·subst e;have h1:((mk l h<|lk gl).er [j]).hp j=none:=by simp[St.er]
    have h2:m'.inf j=none:=by simp[m']
    rw[h1,h2];trivial
   ·have h1:((mk l h<|lk gl).er [n]).hp j=((mk l h<|lk gl).hp j).map (Blk.er [n]):=by simp[St.er,e]
    have h2:m'.inf j=m.inf j:=by simp[m',e]
    rw[h1,h2];have hN:=R.hp j;have own':∀c,m.own c=some j→m'.own c=some j:=fun c hc=>by
     show(if fn.blk=some c then none else m.own c)=some j;rw[if_neg (fun e'=> ?_)]
     ·exact hc
     ·rw[hroot c e'] at hc;cases hc;exact e rfl
    cases hk:(mk l h<|lk gl).hp j with
    |none=>
     rw[hk] at hN;cases hf:m.inf j with
     |none=>trivial
     |some f=>rw[hf] at hN;exact hN.elim
    |some k=>
     rw[hk] at hN;cases hf:m.inf j with
     |none=>rw[hf] at hN;exact hN.elim
     |some f=>
      rw[hf] at hN;simp only[Option.map_some];unfold zT at hN ⊢;simp only at hN ⊢;cases hfb:f.blk with
      |none=>
       simp only[hfb] at hN ⊢;obtain⟨h3,sz,o,cp,rfl,h4⟩:=hN;exact⟨h3,sz,o,cp,rfl,h4⟩
      |some b=>
       simp only[hfb] at hN ⊢;obtain⟨h3,h4,cells,T,h5,h6,h7⟩:=hN;refine⟨h3,own' b h4,cells,T,h5,h6,?_⟩;cases k with
       |data sz xs o cp=>
        obtain⟨g1,g2,bs,g3,g4,g5⟩:=h7;refine⟨g1,g2,bs,g3,fun ho=>⟨(g4 ho).1,fun c hc=>⟨own' c ((g4 ho).2 c hc).1,((g4 ho).2 c hc).2⟩⟩,fun ho c hc=> ?_⟩;show(if fn.blk=some c then none else m.own c)=none;split
        ·rfl
        ·exact g5 ho c hc
       |vars sz cs=>
        obtain⟨h8,h9⟩:=h7;exact⟨h8,zl.map (C.er [n]) (fun c _ v h=>E.cer h) h9⟩
       |own ds=>
        obtain⟨g1,bs,g3,g4,g5⟩:=h7;exact⟨g1,bs,g3,g4,fun c hc=>⟨own' c (g5 c hc).1,(g5 c hc).2⟩⟩
  ·have hc:(if fn.blk=some c then none else m.own c)=some j:=hc;split at hc
   ·cases hc
   ·exact R.own.1 c j hc
  ·show(if fn.blk=some c then none else m.own c)=cx.own0 c;split
   ·rename_i e;rcases R.mine_of_own (hroot c e) hlt with h|h
    ·omega
    ·exact absurd h hW
   ·exact R.own.2 c hc hW
 have hb1:((mk l h<|lk gl).er [n]).hp b=some (.vars k<|cs.map<|C.er [n]):=by
  have:((mk l h<|lk gl).er [n]).hp b=((mk l h<|lk gl).hp b).map (Blk.er [n]):=by simp[St.er,hbn]
  rw[this,hb'];rfl
 have R2:=R1.swapB (n:=b) (k:= .vars k (cs.map<|C.er [n])) (k':= .vars k ((cs.map<|C.er [n]).set i<|.d<|.sl sz<|xs.map f)) hb1 fun f' hf' A=>by
  have e2:m'.inf b=some fb:=by simp[m',hbn,hf]
  rw[e2] at hf';cases hf';unfold zT at A ⊢;simp only[hfb] at A ⊢;obtain⟨a1,a2,cells',T',a4,a5,a6,a7⟩:=A;rw[b4] at a4;cases a4;refine⟨a1,a2,cells,T,b4,a5,a6,?_⟩;have:=zl.set i hval a7;have e1:cells.toList.set i (.slice ad xs.length (fn.cap - 0))=cells.toList:=by
   obtain⟨h1,h2⟩:=List.getElem?_eq_some_iff.1 hu;rw[←h2];exact List.set_getElem_self h1
  rwa [e1] at this
 rw[zcY h1 h2 h3] at R2;exact⟨m',R2⟩
theorem zjQ(n q:Nat){k:Nat}{cs cs':List C}{c c':C}(hb:LB h n (.vars k cs))(hq:cs[q]? =some c)(hw:CWk c c')(he:cs.set q c'=cs'):Wk (mk l ((n,.vars k cs')::h) g) (mk l h g):=fun cx a w ⟨m,R⟩=>by
 subst he;refine⟨m,R.swapB (n:=n) (k:= .vars k cs) hb fun f' hf' A=> ?_⟩;unfold zT at A ⊢;cases hfb:f'.blk with
 |none=>
  simp only[hfb] at A;obtain⟨_,_,_,_,e0,_⟩:=A;cases e0
 |some b=>
  simp only[hfb] at A ⊢;obtain⟨a1,a2,cells,T,a4,a5,a6,a7⟩:=A;refine⟨a1,a2,cells,T,a4,a5,a6,?_⟩;obtain⟨u,hu,hc⟩:=a7.at hq;have:=zl.set q (hw _ _ _ hc) a7;have e1:cells.toList.set q u=cells.toList:=by
   obtain⟨h1,h2⟩:=List.getElem?_eq_some_iff.1 hu;rw[←h2];exact List.set_getElem_self h1
  rwa [e1] at this
end
end Go.AW
namespace Go.AW
section
variable {P:Program} {l l' gl gl':bg} {h h' h2:bh} {g:Nat→V} {Q:AW.St→Prop} {rs:List RO} {dep d:Nat} {A:List Nat} {x y fo:Opd} {v u fv:V} {nn:Nat} {L:List RO} {vs us:List V} {args:List Opd}
theorem zjJ{k:FuncId}{B:bh}(hf0:Ev l fo fv)(hcl:Cl fv k [])(hv:VFn P k vs B u)(ha:Evs l args vs)(hB:∀p∈B,LB (zZ A h) p.1 p.2)(K:RG P rs (mk ((d,u)::l) h g) Q):
  RG P (⟨⟨none,.callv d fo args⟩,dep,A⟩::rs) (mk l h g) Q:=by
 have:callB P ((mk l h g).hide A) d (((mk l h g).hide A).ev fo) (args.map ((mk l h g).hide A).ev) (fun out=>Ka P rs ((mk l h g).app out) Q):=by
  rw[Zx,ha.ev,hf0.ev];exact .inr ⟨k,B,u,hcl,hB,hv,K.out⟩
 exact⟨this⟩
theorem zfA{k:FuncId}(hf0:Ev l fo fv)(hcl:Cl fv k [])(hv:VFn P k vs [] u)(ha:Evs l args vs)(K:RG P rs (mk ((d,u)::l) h g) Q):
  RG P (⟨⟨none,.callv d fo args⟩,dep,A⟩::rs) (mk l h g) Q:=zjJ hf0 hcl hv ha (fun p hp=>by cases hp) K
theorem zfX{k:FuncId}{n:Nat}{b:Blk}(hf0:Ev l fo fv)(hcl:Cl fv k [])(hv:VFn P k vs [(n,b)] u)(ha:Evs l args vs)(hb:LB (zZ A h) n b)(K:RG P rs (mk ((d,u)::l) h g) Q):
  RG P (⟨⟨none,.callv d fo args⟩,dep,A⟩::rs) (mk l h g) Q:=zjJ hf0 hcl hv ha (fun p hp=>by simp only[List.mem_singleton] at hp;subst hp;exact hb) K
def C.slish:C→Bool
 | .sl _ _ _| .zs| .d (.sl _ _)| .d (.pin _)| .sub _ (.sl _ _)=>true
 |_=>false
def zhH(pv:Nat→Value):Nat→List C→List D→Prop
 |_,[],[]=>True
 |i,c::cs,x::ds=>((c= .d x∧x.flat=true)∨(x= .pin (pv i)∧c.slish=true))∧zhH pv (i+1) cs ds
 |_,_,_=>False
def zfy(pv:Nat→Value)(cs:List C):List D→List C→Prop
 |[],[]=>True
 |r::rs,c::us=>((c= .d r∧r.flat=true)∨∃j,r= .pin (pv j)∧cs[j]? =some c)∧zfy pv cs rs us
 |_,_=>False
theorem zeV{m:M}{h:Hp}{pv:Nat→Value}:∀{i:Nat} {cs:List C} {ds:List D} {vs:List Value},zhH pv i cs ds→zl (qE m h) cs vs→(∀j v,vs[j]? =some v→pv (i+j)=v)→RdL false h ds vs []
 |_,[],[],[],_,_,_=>by simp[RdL]
 |_,[],[],_::_,_,H,_=>H.elim
 |_,[],_::_,_,H,_,_=>H.elim
 |_,_::_,[],_,H,_,_=>H.elim
 |_,_::_,_::_,[],_,H,_=>H.elim
 |i,c::cs,x::ds,v::vs,H,K,hp=>by
  obtain⟨h1,h2⟩:=H;obtain⟨k1,k2⟩:=K;have hr:=zeV h2 k2 fun j u hu=>by
   have:=hp (j+1) u (by simpa using hu)
   rwa [show i+(j+1)=i+1+j by omega] at this
  simp only[RdL];refine⟨v,vs,[],[],rfl,rfl,?_,?_,hr⟩
  ·rcases h1 with⟨_,hx⟩|⟨rfl,_⟩
   ·cases x<;>first|rfl|(cases hx;done)
   ·rfl
  ·have hv:pv i=v:=hp 0 v rfl;obtain⟨o1,k1⟩:=k1;rcases h1 with⟨rfl,hx⟩|⟨rfl,hx⟩
   ·obtain⟨bs,hb,_⟩:=k1;cases x<;>first|(cases hx;done)|(simp only[Rd] at hb ⊢;exact⟨hb.1,trivial⟩)
   ·simp only[Rd];refine⟨⟨hv,?_⟩,trivial⟩;unfold C.slish at hx;split at hx
    ·obtain⟨f,_,_,ad,e,_⟩:=k1;exact⟨_,_,_,e⟩
    ·obtain⟨a,e⟩:=k1;exact⟨_,_,_,e⟩
    ·obtain⟨bs,hb,_⟩:=k1;simp only[Rd] at hb;obtain⟨a,c,e,_⟩:=hb;exact⟨_,_,_,e⟩
    ·obtain⟨bs,hb,_⟩:=k1;simp only[Rd] at hb;exact hb.1.2
    ·obtain⟨f,_,bs,hb,_⟩:=k1;simp only[Rd] at hb;obtain⟨a,c,e,_⟩:=hb;exact⟨_,_,_,e⟩
    ·cases hx
theorem zcI{m:M}{h:Hp}{pv:Nat→Value}{cs:List C}(hc:∀j c,cs[j]? =some c→qE m h c (pv j)):∀{rs:List D} {us:List C} {vs:List Value} {bs:List Nat},zfy pv cs rs us→RdL true h rs vs bs→zl (qE m h) us vs
 |[],[],vs,bs,_,H=>by simp only[RdL] at H;rw[H.1];trivial
 |[],_::_,_,_,H,_=>H.elim
 |_::_,[],_,_,H,_=>H.elim
 |r::rs,c::us,vs,bs,K,H=>by
  simp only[RdL] at H;obtain⟨v,vs',b1,b2,rfl,rfl,hcell,h1,h2⟩:=H;refine⟨?_,zcI hc K.2 h2⟩;rcases K.1 with⟨rfl,hf⟩|⟨j,rfl,hj⟩
  ·have h1:=Rd.weak _ _ _ h1;refine⟨j8 hcell h1,b1,h1,?_⟩;cases r<;>first|(cases hf;done)|(simp only[Rd] at h1;rw[h1.2];simp)
  ·simp only[Rd] at h1;rw[←h1.1.1];exact hc j c hj
theorem VFn.pick{k:FuncId}{n sz:Nat}{cs cs':List C}{ds rs:(Nat→Value)→List D}(hF:∀pv:Nat→Value,Fn P k (lent [.ptr (ds pv)]) true [.agg (rs pv)])(hd:∀pv,zhH pv 0 cs<|ds pv)(hr:∀pv,zfy pv cs (rs pv) cs'):
  VFn P k [.one (.ptr<|.nm n 0 0)] [(n,.vars sz cs)] (.agg cs'):=by
 refine⟨(hF fun _=>undef).1,fun cx m w as hB ha=> ?_⟩;have hN:zT cx m w.heap n (some<|.vars sz cs) (m.inf n):=hB _ (List.mem_singleton.2 O)
 match as,ha with
 |[p],⟨⟨_,f,b,hf,hb,hp⟩,_⟩=>
  rw[hf] at hN;unfold zT at hN;simp only[hb] at hN;obtain⟨_,_,cells,T,g4,g5,g6,g7⟩:=hN
  let pv:Nat→Value:=fun i=>cells.toList[i]?.getD undef
  have hpv:∀j v,cells.toList[j]? =some v→pv (0+j)=v:=fun j v hj=>by simp only[pv,Nat.zero_add,hj,Option.getD_some]
  have hrd:=zeV (hd pv) g7 hpv;have hlen:(ds pv).length=cells.toList.length:=by rw[hrd.length]
  have hA:kC w.heap (lent [.ptr (ds pv)]) [p] [[b]]:=⟨by
   show Rd false w.heap (.ptr<|ds pv) p [b];simp only[Rd];refine⟨b,0,cells,T,(0,0),[],?_,g4,rfl,(fun h=>by cases h),?_⟩
   ·rw[hp];simp
   ·rw[List.drop_zero,hlen,List.take_length];exact hrd,trivial⟩
  have hcall:=(hF pv).2 w [p] [[b]] hA (by rw[y0];exact List.nodup_nil) (by rw[y0];simp);refine Calls.mono hcall fun e w' ⟨v,br,bm,he,hq⟩=> ?_;have hkept:∀b,b < w.heap.size→w'.heap[b]? =w.heap[b]?:=fun b hb=>hq.kept b hb (by rw[y0];simp);refine⟨v,he,⟨hq.os,hq.tape,hq.output,hq.size,hkept⟩,fun E=> ?_⟩;have hres:=hq.res;unfold Res at hres;obtain⟨b0,_,hres⟩:=hres;simp only[Rd] at hres;obtain⟨us',rfl,hus⟩:=hres;refine⟨us',rfl,zcI (fun j c hj=> ?_) (hr pv) hus⟩;obtain⟨u,hu,hc⟩:=g7.at hj;have:pv j=u:=by simpa using hpv j u hu
  rw[this];exact E.c (QC c) hc
theorem zkQ{v:Value}{x:D}:RdI x (.both v x):=fun h u bs H=>⟨bs,fun _ h=>h,by simp only[Rd] at H;exact H.2⟩
theorem VD.cut{n sz off len:Nat}{α:Type}{f:α→List D}{xs:List α}{own:Bool}{cp:Option Nat}(hb:LB h n (.data sz (xs.map f) own cp))(hl:off+len≤xs.length):VD h (.one<|.sl n off len) (.sl sz<|((xs.drop off).take len).map f):=by
 have hb:(mk [] h fun _=> .top).hp n=some (.data sz (xs.map f) own cp):=hb;show cD (mk [] h fun _=> .top) (.sl n off len)=_;simp only[cD,cD0,hb];by_cases hc:off=0∧len=(xs.map f).length
 ·rw[if_pos hc,hc.1,hc.2,List.drop_zero,List.length_map,List.take_length]
 ·rw[if_neg hc,if_pos (by simpa using hl),List.map_take,List.map_drop]
theorem zo6{t:Nat}{b want:Bool}{o:IOp}(hx:Ev l (.t t) (.one<|.d<|.bool b))(hb:b=want)(K:RM P nn (⟨⟨none,o⟩,0,[]⟩::L) (mk l h g) Q):RM P nn (⟨⟨some (t,want),o⟩,0,[]⟩::L) (mk l h g) Q:=⟨fun gs hL cx ops lo m a w Qx hP hn hm R hQ=>by
 subst hb;cases gs with
 |nil=>cases hL
 |cons g0 gs=>
  simp only[List.map_cons,List.cons.injEq,RO.mk.injEq,and_true] at hL;obtain⟨rfl,hL⟩:=hL;cases lo with
  |nil=>simp at hm
  |cons o0 lo=>
   simp only[List.mapM_cons,Option.pure_def,Option.bind_eq_bind,obi] at hm;obtain⟨g',hg,gs',hgs,he⟩:=hm;cases he;obtain⟨h1,_,h3⟩:=Y4 hg;obtain⟨j,hj,ht⟩:=h3 t b rfl;have hw:Region.wanted o0 (yielded ops a.tmps)=true:=by
    have hv:=R.sl t;have e:(mk l h g).sl t= .one (.d<|.bool b):=hx.lk;rw[e] at hv;have hv:=kO hv;have hlt:t < a.tmps.size:=by
     rcases Nat.lt_or_ge t a.tmps.size with h|h
     ·exact h
     ·exfalso;rw[Array.getD_eq_getD_getElem?,Array.getElem?_eq_none h] at hv;cases hv
    rw[Array.getD_eq_getD_getElem?,Array.getElem?_eq_getElem hlt] at hv;simp only[Option.getD_some] at hv;simp only[Region.wanted,hj,yielded,ht,Option.bind_some,Array.getElem?_eq_getElem hlt,hv];simp
   have hg2:toG cx.P cx.n ops {o0 with guard:=none}=some ⟨none,o⟩:=by
    have e:x9 cx.P cx.n {o0 with guard:=none}=x9 cx.P cx.n o0:=rfl;simp only[toG,e,h1,Option.bind_some]
   have K':=K.out (⟨none,o⟩::gs) (by simp[hL]) cx ops ({o0 with guard:=none}::lo) m a w Qx hP hn (by simp[List.mapM_cons,hg2,hgs]) R hQ;unfold wpList at K' ⊢;have hw2:Region.wanted {o0 with guard:=none} (yielded ops a.tmps)=true:=rfl;rw[if_pos hw2] at K';rw[if_pos hw];exact K'⟩
end
section
variable {P:Program} {nn:Nat} {c:IC} {Q:Exit→AW.St→Prop} {l:bg} {h:bh} {g:Nat→V}
theorem zk2{t:Nat}{x:D}(hx:Ev l (.t t) (.one<|.d x))(K:∀v,AW P nn c Q<|mk ((t,.one<|.d<|.both v x)::l) h g):AW P nn c Q (mk l h g):=⟨fun cx code hh hh' a w hP hn ht ⟨m,R⟩=>by
 have hv:=R.sl t;have e:(mk l h g).sl t= .one (.d x):=hx.lk;rw[e] at hv;refine(K<|a.tmps.getD t undef).h cx code hh hh' a w hP hn ht ⟨m,R.size,R.defers,fun k=> ?_,R.hp,R.own,R.fr,R.gh⟩;show qK m w.heap (lk ((t,_)::l) k) _;by_cases ek:k=t
 ·subst ek;have:lk ((k,V.one<|.d<|.both (a.tmps.getD k undef) x)::l) k= .one (.d<|.both (a.tmps.getD k undef) x):=by simp[lk]
  rw[this];obtain⟨h1,bs,h2,h3⟩:=hv;exact⟨h1,bs,by simp only[Rd];exact⟨⟨trivial,h1⟩,h2⟩,h3⟩
 ·have:lk ((t,V.one<|.d<|.both (a.tmps.getD t undef) x)::l) k=lk l k:=by simp[lk,ek]
  rw[this];exact R.sl k⟩
end
section
variable {P:Program} {nn:Nat} {L:List RO} {Q:AW.St→Prop} {l l' gl gl':bg} {h h' h2:bh} {d f:Nat} {fo:Opd} {fv u:V} {us vs:List V} {args:List Opd} {as:List Ar} {ON ls G E:List Nat} {rs':List D} {MB bs:bh}
theorem zaF{t:Nat}{v0:Value}{x0:D}(hg:Ev l (.t t) (.one<|.d<|.both v0 x0))(hf0:Ev l fo fv)(hcl:Cl fv f us)(hf:FnC P v0 x0 f as rs')(ha:Evs l args vs)(hA:AO h (vs++us) as ON ls)(hM:yV (vs++us) as=MB)(hE:yX G MB=E)(hok:JK ON ls G (MB.map (·.1))=true)(hs:SZ h MB)
  (h1:erL E l l') (h2':erH E h h') (h3:erL E gl gl') (hu:XK rs'=u) (hh:MB.reverse++h'=h2)
  (K:RM P nn L (mk ((d,u)::l') h2<|lk gl') Q):RM P nn (⟨⟨none,.callv d fo args⟩,0,[]⟩::L) (mk l h<|lk gl) Q:=
 zgl hf0 hcl (.inr<|.inr ⟨t,v0,x0,hg.lk,hf⟩) ha hA hM hE hok hs h1 h2' h3 hu hh K
end
theorem zoX{P:Program}{f:FuncId}{sz:Nat}{xs:List (List D)}{y:D}{rs:List D}(hy:y.flat=true)(H:∀v0,FnC P v0 (.sl sz xs) f [⟨.pin v0,.b⟩,⟨y,.b⟩] rs):Fn P f [⟨.sl sz xs,.b⟩,⟨y,.b⟩] true rs:=by
 refine⟨(H undef).1,fun w vs bss HA hnd hap=> ?_⟩;obtain⟨v,v2,b,b2,rfl,rfl⟩:∃v v2 b b2,vs=[v,v2]∧bss=[b,b2]:=by
  rcases vs with _|⟨v,_|⟨v2,_|⟨_,_⟩⟩⟩<;>rcases bss with _|⟨b,_|⟨b2,_|⟨_,_⟩⟩⟩<;>simp[kC] at HA ⊢
 have hr:Rd false w.heap (.sl sz xs) v b:=HA.1;have hr2:zbZ w.heap ⟨y,.b⟩ v2 b2:=HA.2.1;have hc:v.oneCell'=true:=j8 O hr;have hs:∃a n c,v= .slice a n c:=by
  simp only[Rd] at hr;obtain⟨a,c,e,_⟩:=hr;exact⟨a,_,c,e⟩
 have HA':kC w.heap [⟨.pin v,.b⟩,⟨y,.b⟩] [v,v2] [[],b2]:=⟨by
  show Rd false w.heap (.pin v) v [];simp only[Rd];exact⟨⟨by trivial,hs⟩,by trivial⟩,hr2,trivial⟩
 refine Calls.mono ((H v).2 w [v,v2] [[],b2] b HA' (by simp[qR,Md.owned]) (by simp[qR,Md.owned]) ⟨hc,hr⟩ (by simp[qR,Md.owned])) fun e w' ⟨v',br,bm,he,hp⟩=>⟨v',br,bm,he,?_⟩;refine⟨hp.os,hp.tape,hp.output,hp.size,fun c hc _=>hp.kept c hc (by simp[qR,Md.owned]),hp.res,?_,hp.nodup,hp.nodupR,hp.apart,fun c hc=> ?_,fun c hc=> ?_⟩
 ·have:=hp.muts;rcases bm with _|⟨bb,_|⟨bb2,_|⟨_,_⟩⟩⟩<;>simp[zdx] at this ⊢;exact this
 ·rcases hp.mfrom c hc with h|h
  ·exact .inl h
  ·simp[qR,Md.owned] at h
 ·rcases hp.rfrom c hc with h|h|h
  ·exact .inl h
  ·simp[qR,Md.owned] at h
  ·exact absurd h.1 (by simp)
end Go.AW
