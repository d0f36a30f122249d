/- To know less: states are weakened, so that a loop's rounds begin alike. Lemmas. Conditions: none. -/
import Derived.Test.YtpabbbmfcgnhdaaGreatY
set_option linter.unusedVariables false
namespace Go.AW
theorem zHN(ns:List Nat)(s:St):Wk (s.er ns) s:=fun cx a w ⟨m,R⟩=>by
 let m':M:={inf:=fun n=>if ns.contains n then none else m.inf n,own:=m.own}
 have E:Ext ns m w.heap m' w.heap:=⟨fun n hn f hf=>by simp only[m',hn];simpa using hf,fun b c T f hb ho=>⟨ho,rfl⟩,fun b c T z n f hb hn hf ho hne=>⟨ho,rfl⟩⟩;refine⟨m',R.size,R.defers,fun t=>E.ver (R.sl t),fun n=> ?_,R.own,R.fr,fun t=>E.ver (R.gh t)⟩;have hN:=R.hp n;cases hc:ns.contains n with
 |true=>
  have h1:(s.er ns).hp n=none:=by simp only[St.er,hc,if_true]
  have h2:m'.inf n=none:=by simp only[m',hc,if_true]
  rw[h1,h2];trivial
 |false=>
  have h1:(s.er ns).hp n=(s.hp n).map (Blk.er ns):=by simp only[St.er,hc];simp
  have h2:m'.inf n=m.inf n:=by simp only[m',hc];simp
  rw[h1,h2];cases hb:s.hp n with
  |none=>
   rw[hb] at hN;cases hf:m.inf n with
   |none=>trivial
   |some f=>rw[hf] at hN;exact hN.elim
  |some k=>
   rw[hb] at hN;cases hf:m.inf n with
   |none=>rw[hf] at hN;exact hN.elim
   |some f=>
    rw[hf] at hN;simp only[Option.map_some];unfold zT at hN ⊢;simp only at hN ⊢;cases hfb:f.blk with
    |none=>
     simp only[hfb] at hN ⊢;obtain⟨h3,sz,o,cp,rfl,h4⟩:=hN;exact⟨h3,sz,o,cp,rfl,h4⟩
    |some b=>
     simp only[hfb] at hN ⊢;obtain⟨h3,h4,cells,T,h5,h6,h7⟩:=hN;refine⟨h3,h4,cells,T,h5,h6,?_⟩;cases k with
     |data sz xs o cp=>exact h7
     |vars sz cs=>
      obtain⟨h8,h9⟩:=h7;exact⟨h8,zl.map (C.er ns) (fun c _ v h=>E.cer h) h9⟩
     |own ds=>exact h7
theorem zkz{s t:St}(hs:∀k m h x,qK m h (s.sl k) x→qK m h (t.sl k) x)(hh:t.hp=s.hp)(hg:∀k,t.gh k= .top):Wk t s:=fun cx a w ⟨m,R⟩=>
 ⟨m,R.size,R.defers,fun k=>hs k _ _ _ (R.sl k),fun n=>by rw[hh];exact R.hp n,R.own,R.fr,fun k=>by rw[hg k];trivial⟩
def CWk(c c':C):Prop:=∀m h x,qE m h c x→qE m h c' x
def VWk(u v:V):Prop:=∀m h x,qK m h u x→qK m h v x
theorem VWk.rfl{v:V}:VWk v v:=fun _ _ _ H=>H
theorem CWk.rfl{c:C}:CWk c c:=fun _ _ _ H=>H
theorem VWk.top{v:V}:VWk v .top:=fun _ _ _ _=>trivial
theorem VWk.one{c c':C}(H:CWk c c'):VWk (.one c) (.one c'):=fun m h x K=>H m h x K
theorem CWk.zs{sz:Nat}:CWk .zs (.d<|.sl sz []):=fun m h x ⟨h1,a,h2⟩=>⟨h1,[],by simp only[Rd];exact⟨a,0,h2,.inl (by simp)⟩,by simp⟩
theorem zjM{m:M}{h:Hp}{cs:List D}{x:Value}{bs:List Nat}(H:Rd false h (.ptr cs) x bs)(ho:∀b∈bs,m.own b=none):zck m h (.bd cs 0) x:=by
 simp only[Rd] at H;obtain⟨b,off,cells,T,fz,bs',e,hh,rfl,_,hr⟩:=H;exact⟨b,off,cells,T,fz,bs',by simpa using e,hh,hr,ho b (by simp),fun c hc=>ho c (by simp[hc])⟩
theorem CWk.ptr{cs:List D}:CWk (.d<|.ptr cs) (.ptr<|.bd cs 0):=fun m h x ⟨h1,bs,h2,h3⟩=>⟨h1,zjM h2 h3⟩
theorem CWk.fn{f:FuncId}{css:List (List D)}:CWk (.d<|.fn f<|css.map D.ptr) (.fn f (css.map fun cs=> .bd cs 0)):=fun m h x ⟨h1,bs,h2,h3⟩=>by
 refine⟨h1,?_⟩;simp only[Rd] at h2;obtain⟨vs,e,hr⟩:=h2;refine⟨vs,e,?_⟩;have key:∀(css:List (List D)) (vs:List Value) (bs:List Nat),RdL false h (css.map D.ptr) vs bs→(∀b∈bs,m.own b=none)→zl (zck m h) (css.map fun cs=> .bd cs 0) vs:=by
  intro css;induction css with
  |nil=>intro vs bs H _;simp only[List.map_nil,RdL] at H;rw[H.1];trivial
  |cons cs css ih=>
   intro vs bs H ho;simp only[List.map_cons,RdL] at H;obtain⟨v,vs',b1,b2,rfl,rfl,_,k1,k2⟩:=H;exact⟨zjM k1 (fun b hb=>ho b (by simp[hb])),ih vs' b2 k2 (fun b hb=>ho b (by simp[hb]))⟩
 exact key css vs.toList bs hr h3
def Xh:List C→List C→Prop
 |[],[]=>True
 |c::cs,d::ds=>CWk c d∧Xh cs ds
 |_,_=>False
theorem Xh.nil:Xh [] []:=trivial
theorem Xh.cons{c d:C}{cs ds:List C}(h1:CWk c d)(h2:Xh cs ds):Xh (c::cs) (d::ds):=⟨h1,h2⟩
theorem Xh.all{m:M}{h:Hp}:∀{cs ds:List C} {vs:List Value},Xh cs ds→zl (qE m h) cs vs→zl (qE m h) ds vs
 |[],[],_,_,H=>H
 |c::cs,d::ds,v::vs,W,H=>⟨W.1 m h v H.1,Xh.all W.2 H.2⟩
 |[],_::_,_,W,_=>W.elim
 |_::_,[],_,W,_=>W.elim
 |_::_,_::_,[],_,H=>H.elim
theorem VWk.agg{cs ds:List C}(H:Xh cs ds):VWk (.agg cs) (.agg ds):=fun m h x ⟨vs,e,K⟩=>⟨vs,e,H.all K⟩
def SL(l:bg)(ns:List Nat):bg→Prop
 |[]=>True
 |(k,v)::r=>(∃u,Ev l (.t k) u∧u.er ns=u∧VWk u v)∧SL l ns r
theorem SL.nil{l:bg}{ns:List Nat}:SL l ns []:=trivial
theorem SL.cons{l r:bg}{ns:List Nat}{k:Nat}{u v:V}(h1:Ev l (.t k) u)(h2:u.er ns=u)(h3:VWk u v)(h:SL l ns r):SL l ns ((k,v)::r):=⟨⟨u,h1,h2,h3⟩,h⟩
theorem SL.at{l:bg}{ns:List Nat}:∀{l':bg},SL l ns l'→∀k,VWk ((lk l k).er ns)<|lk l' k
 |[],_,_=>VWk.top
 |(j,v)::r,H,k=>by
  simp only[lk];split
  ·rename_i e;subst e;obtain⟨⟨u,h1,h2,h3⟩,_⟩:=H;have h1:lk l k=u:=h1.lk;rw[h1,h2];exact h3
  ·exact H.2.at k
def BL(h':bh)(ns:List Nat):bh→Prop
 |[]=>True
 |(n,_)::r=>(ns.contains n=true∨(h'.map (·.1)).contains n=true)∧BL h' ns r
def BK(h:bh)(ns:List Nat):bh→Prop
 |[]=>True
 |(n,b)::r=>(ns.contains n=false∧∃c,LB h n c∧c.er ns=c∧c=b)∧BK h ns r
theorem BK.nil{h:bh}{ns:List Nat}:BK h ns []:=trivial
theorem BK.cons{h r:bh}{ns:List Nat}{n:Nat}{b c:Blk}(h0:ns.contains n=false)(h1:LB h n c)(h2:c.er ns=c)(h3:c=b)(H:BK h ns r):BK h ns ((n,b)::r):=⟨⟨h0,c,h1,h2,h3⟩,H⟩
theorem BL.nil{h':bh}{ns:List Nat}:BL h' ns []:=trivial
theorem BL.drop{h' r:bh}{ns:List Nat}{n:Nat}{b:Blk}(h0:ns.contains n=true)(H:BL h' ns r):BL h' ns ((n,b)::r):=⟨.inl h0,H⟩
theorem zoY{h' r:bh}{ns:List Nat}{n:Nat}{b:Blk}(h0:(h'.map (·.1)).contains n=true)(H:BL h' ns r):BL h' ns ((n,b)::r):=⟨.inr h0,H⟩
theorem BL.out{h':bh}{ns:List Nat}:∀{h:bh},BL h' ns h→∀{n:Nat},ns.contains n=false→(h'.map (·.1)).contains n=false→lkB h n=none
 |[],_,_,_,_=>rfl
 |(k,b)::r,H,n,h1,h2=>by
  simp only[lkB];split
  ·rename_i e;subst e;rcases H.1 with e|e
   ·rw[h1] at e;cases e
   ·rw[h2] at e;cases e
  ·exact H.2.out h1 h2
theorem BK.at{h:bh}{ns:List Nat}:∀{h':bh},BK h ns h'→∀n,(ns.contains n=true→lkB h' n=none)∧((h'.map (·.1)).contains n=true→lkB h' n=(lkB h n).map (Blk.er ns))∧((h'.map (·.1)).contains n=false→lkB h' n=none)
 |[],_,n=>⟨fun _=>rfl,fun h=>by simp at h,fun _=>rfl⟩
 |(k,b)::r,H,n=>by
  obtain⟨⟨h0,c,h1,h2,h3⟩,H⟩:=H;obtain⟨i1,i2,i3⟩:=BK.at H n;have h1:lkB h k=some c:=h1;by_cases e:n=k
  ·subst e;refine⟨(fun hc=>by rw[h0] at hc;cases hc),(fun _=> ?_),(fun hc=>by simp at hc)⟩;subst h3;simp only[lkB,if_true,h1,Option.map_some,h2]
  ·refine⟨fun hc=> ?_,fun hc=> ?_,fun hc=> ?_⟩
   ·simp only[lkB,if_neg e];exact i1 hc
   ·simp only[lkB,if_neg e];refine i2 ?_;simpa[e] using hc
   ·simp only[lkB,if_neg e];refine i3 ?_;simp at hc ⊢;exact hc.2
def rn(n n' k:Nat):Nat:=if k=n then n' else k
def Ptr.ren(n n':Nat):Ptr→Ptr
 | .nm k i j=> .nm (rn n n' k) i j
 |p=>p
def C.ren(n n':Nat):C→C
 | .sl k o l=> .sl (rn n n' k) o l
 | .sub k x=> .sub (rn n n' k) x
 | .ptr p=> .ptr (p.ren n n')
 | .fn f ps=> .fn f (ps.map<|Ptr.ren n n')
 |c=>c
def V.ren(n n':Nat):V→V
 | .top=> .top
 | .one c=> .one (c.ren n n')
 | .agg cs=> .agg (cs.map<|C.ren n n')
 | .tup vs=> .tup (vs.map fun| .top=> .top| .one c=> .one (c.ren n n')| .agg cs=> .agg (cs.map<|C.ren n n')| .tup us=> .tup us)
def Blk.ren(n n':Nat):Blk→Blk
 | .vars sz cs=> .vars sz (cs.map<|C.ren n n')
 |b=>b
def M.ren(m:M)(n n':Nat):M:=⟨fun k=>if k=n' then m.inf n else if k=n then none else m.inf k,fun b=>if m.own b=some n then some n' else m.own b⟩
theorem zf9{m:M}{n n' k:Nat}{f:NI}(hn:m.inf n'=none)(H:m.inf k=some f):(m.ren n n').inf (rn n n' k)=some f:=by
 unfold M.ren rn;simp only;by_cases e:k=n
 ·subst e;simp only[if_true];exact H
 ·simp only[if_neg e];rw[if_neg (by intro e';subst e';rw[hn] at H;cases H)];exact H
theorem zdd{m:M}{n n' k b:Nat}(H:m.own b=some k):(m.ren n n').own b=some (rn n n' k):=by
 unfold M.ren rn;simp only;by_cases e:k=n
 ·subst e;rw[if_pos H,if_pos rfl]
 ·rw[if_neg (by rw[H];intro e';cases e';exact e rfl),if_neg e];exact H
theorem K5{m:M}{n n' b:Nat}(H:m.own b=none):(m.ren n n').own b=none:=by
 unfold M.ren;simp only;rw[if_neg (by rw[H];simp)];exact H
theorem zo5{m:M}{h:Hp}{n n':Nat}(hn:m.inf n'=none){p:Ptr}{v:Value}(H:zck m h p v):zck (m.ren n n') h (p.ren n n') v:=by
 cases p with
 |nm k i j=>obtain⟨f,b,h1,h2,h3⟩:=H;exact⟨f,b,zf9 hn h1,h2,h3⟩
 |bd cs j=>obtain⟨b,off,cells,T,fz,bs,h1,h2,h3,h4,h5⟩:=H;exact⟨b,off,cells,T,fz,bs,h1,h2,h3,K5 h4,fun c hc=>K5 (h5 c hc)⟩
theorem zgD{m:M}{h:Hp}{n n':Nat}(hn:m.inf n'=none){c:C}{v:Value}(H:qE m h c v):qE (m.ren n n') h (c.ren n n') v:=by
 obtain⟨h0,H⟩:=H;refine⟨h0,?_⟩;cases c with
 |any=>trivial
 |d x=>obtain⟨bs,h1,h2⟩:=H;exact⟨bs,h1,fun b hb=>K5 (h2 b hb)⟩
 |zs=>exact H
 |nilp=>exact H
 |anyb=>exact H
 |sl k off len=>obtain⟨f,h1,h2⟩:=H;exact⟨f,zf9 hn h1,h2⟩
 |sub k x=>
  obtain⟨f,h1,bs,h2,h3⟩:=H;exact⟨f,zf9 hn h1,bs,h2,fun b hb=>⟨(h3 b hb).1.imp K5 zdd,(h3 b hb).2⟩⟩
 |ptr p=>exact zo5 hn H
 |fn f ps=>
  obtain⟨vs,h1,h2⟩:=H;exact⟨vs,h1,zl.map _ (fun p _ v hp=>zo5 hn hp) h2⟩
theorem zo4{m:M}{h:Hp}{n n':Nat}(hn:m.inf n'=none){u:V}{v:Value}(H:qK m h u v):qK (m.ren n n') h (u.ren n n') v:=by
 cases u with
 |top=>trivial
 |one c=>exact zgD hn H
 |agg cs=>obtain⟨vs,h1,h2⟩:=H;exact⟨vs,h1,zl.map _ (fun c _ v hc=>zgD hn hc) h2⟩
 |tup us=>
  obtain⟨vs,h1,h2⟩:=H;refine⟨vs,h1,zl.map _ (fun u _ v hu=> ?_) h2⟩;cases u with
  |top=>trivial
  |one c=>exact zgD hn hu
  |agg cs=>obtain⟨vs,h1,h2⟩:=hu;exact⟨vs,h1,zl.map _ (fun c _ v hc=>zgD hn hc) h2⟩
  |tup _=>exact hu.elim
theorem zFX{cx:Cx}{m:M}{h:Hp}{n n' k:Nat}(hn:m.inf n'=none){b:Blk}{f:NI}(H:zT cx m h k (some b) (some f)):zT cx (m.ren n n') h (rn n n' k) (some<|b.ren n n') (some f):=by
 unfold zT at H ⊢;simp only at H ⊢;cases hb:f.blk with
 |none=>
  simp only[hb] at H ⊢;obtain⟨h1,sz,o,cp,rfl,h2⟩:=H;exact⟨h1,sz,o,cp,rfl,h2⟩
 |some r=>
  simp only[hb] at H ⊢;obtain⟨h1,h2,cells,T,h3,h4,h5⟩:=H;refine⟨h1,zdd h2,cells,T,h3,h4,?_⟩;cases b with
  |data sz xs o cp=>
   obtain⟨e1,e2,bs,e3,e4,e5⟩:=h5;exact⟨e1,e2,bs,e3,fun ho=>⟨(e4 ho).1,fun b hb=>⟨zdd ((e4 ho).2 b hb).1,((e4 ho).2 b hb).2⟩⟩,fun ho b hb=>K5 (e5 ho b hb)⟩
  |vars sz cs=>
   obtain⟨e1,e2⟩:=h5;exact⟨e1,zl.map _ (fun c _ v hc=>zgD hn hc) e2⟩
  |own ds=>
   obtain⟨e1,bs,e3,e4,e5⟩:=h5;exact⟨e1,bs,e3,e4,fun b hb=>⟨zdd (e5 b hb).1,(e5 b hb).2⟩⟩
def zjS(n n':Nat)(l:bg):bg:=l.map fun p=>(p.1,p.2.ren n n')
def zjh(n n':Nat)(h:bh):bh:=h.map fun p=>(rn n n' p.1,p.2.ren n n')
theorem zkj(n n':Nat):∀(l:bg) (t:Nat),lk (zjS n n' l) t=(lk l t).ren n n'
 |[],_=>rfl
 |(k,v)::r,t=>by
  simp only[zjS,List.map_cons,lk];split
  ·rfl
  ·exact zkj n n' r t
theorem zih{n n':Nat}(hne:¬n=n'):∀(h:bh),lkB h n'=none→∀k,lkB (zjh n n' h) k=if k=n' then(lkB h n).map (Blk.ren n n') else if k=n then none else(lkB h k).map (Blk.ren n n')
 |[],_,k=>by simp[zjh,lkB]
 |(j,b)::r,H,k=>by
  simp only[lkB] at H;split at H
  ·cases H
  ·rename_i hj;have ih:=zih hne r H k;simp only[zjh,List.map_cons,lkB] at ih ⊢;rw[ih];unfold rn;by_cases e1:j=n
   ·subst e1;simp only[if_true];by_cases e2:k=n'
    ·subst e2;simp
    ·simp only[if_neg e2];by_cases e3:k=j
     ·simp[e3]
     ·simp[e3]
   ·simp only[if_neg e1];by_cases e2:k=n'
    ·subst e2;simp only[if_true,if_neg hj,if_neg (fun e:n=j=>e1 e.symm)]
    ·simp only[if_neg e2];by_cases e3:k=j
     ·subst e3;simp[e1]
     ·simp only[if_neg e3]
theorem zt.none_inf{cx:Cx}{m:M}{s:St}{a:Act}{w:World}(R:zt cx m s a w){n:Nat}(h:s.hp n=none):m.inf n=none:=by
 have H:=R.hp n;rw[h] at H;cases hf:m.inf n with
 |none=>rfl
 |some f=>rw[hf] at H;exact H.elim
theorem znS(n n':Nat){l:bg}{h:bh}{g:Nat→V}(hne:Nat.beq n n'=false)(hfar:Nat.ble n 1999999=true)(hf:NB h n'):Wk (mk (zjS n n' l) (zjh n n' h) (fun t=>(g t).ren n n')) (mk l h g):=fun cx a w ⟨m,R⟩=>by
 have hne:¬n=n':=fun e=>by subst e;simp at hne
 have hf:lkB h n'=none:=hf;have hn:m.inf n'=none:=R.none_inf hf;refine⟨m.ren n n',R.size,R.defers,fun t=> ?_,fun k=> ?_,⟨fun b j hb=> ?_,fun b hb hW=> ?_⟩,R.fr,fun t=>zo4 hn (R.gh t)⟩
 ·show qK _ _ (lk (zjS n n' l) t) _;rw[zkj];exact zo4 hn (R.sl t)
 ·show zT cx _ _ k (lkB (zjh n n' h) k) _;rw[zih hne h hf k];have key:∀j,∀b,lkB h j=some b→zT cx (m.ren n n') w.heap (rn n n' j) (some<|b.ren n n') (m.inf j):=fun j b hb=>by
   have HJ:=R.hp j;have e:(mk l h g).hp j=some b:=hb;rw[e] at HJ;cases hi:m.inf j with
   |none=>rw[hi] at HJ;exact HJ.elim
   |some f=>rw[hi] at HJ;exact zFX hn HJ
  have nonI:∀j,lkB h j=none→m.inf j=none:=fun j hj=>R.none_inf hj;unfold M.ren;by_cases e1:k=n'
  ·subst e1;simp only[if_true];cases hb:lkB h n with
   |none=>rw[nonI n hb];trivial
   |some b=>have:=key n b hb;unfold rn at this;simp only[if_true] at this;exact this
  ·simp only[if_neg e1];by_cases e2:k=n
   ·simp only[if_pos e2];trivial
   ·simp only[if_neg e2];cases hb:lkB h k with
    |none=>rw[nonI k hb];trivial
    |some b=>have:=key k b hb;unfold rn at this;simp only[if_neg e2] at this;exact this
 ·unfold M.ren at hb;simp only at hb;split at hb
  ·rename_i e;exact R.own.1 b n e
  ·exact R.own.1 b j hb
 ·have ho:=R.own.2 b hb hW;unfold M.ren;simp only;rw[if_neg]
  ·exact ho
  ·intro e;rw[ho] at e;have:=cx.far b n e;simp only[Nat.ble_eq] at hfar;omega
theorem zaM(n sz t:Nat)(ow:Bool){l:bg}{h:bh}{g:Nat→V}(hx:Ev l (.t t) (.one .zs))(hf:NB h n):Wk (mk ((t,.one<|.sl n 0 0)::l) ((n,.data sz [] ow none)::h) g) (mk l h g):=fun cx a w ⟨m,R⟩=>by
 have hf:lkB h n=none:=hf;have hn:m.inf n=none:=R.none_inf hf
 let m':M:=⟨fun k=>if k=n then some ⟨none,sz,0⟩ else m.inf k,m.own⟩
 have E:Ext [] m w.heap m' w.heap:=⟨fun k _ f hkf=>by
  show(if k=n then _ else m.inf k)=_;rw[if_neg (by intro e;subst e;rw[hn] at hkf;cases hkf)];exact hkf,fun b c T f hb ho=>⟨ho,rfl⟩,fun b c T z n f hb hn hf ho hne=>⟨ho,rfl⟩⟩
 refine⟨m',R.size,R.defers,fun k=> ?_,fun k=> ?_,R.own,R.fr,fun k=>E.ver0 (R.gh k)⟩
 ·show qK _ _ (lk _ k) _;simp only[lk];split
  ·rename_i e;subst e;have H:=R.sl k;have hx:lk l k= .one .zs:=hx.lk;have H:qK m w.heap (lk l k) (a.tmps.getD k undef):=H;rw[hx] at H;obtain⟨h1,ad,h2⟩:=H;exact⟨h1,⟨none,sz,0⟩,by simp[m'],by simp,ad,by simpa using h2,by simp⟩
  ·exact E.ver0 (R.sl k)
 ·show zT cx _ _ k (lkB _ k) _;simp only[lkB];by_cases e:k=n
  ·subst e;simp only[if_true,m'];unfold zT;exact⟨rfl,sz,ow,none,rfl,rfl,by simp⟩
  ·simp only[if_neg e,m'];have HJ:=R.hp k;have HJ:zT cx m w.heap k (lkB h k) (m.inf k):=HJ;cases hi:m.inf k with
   |none=>
    rw[hi] at HJ;cases hb:lkB h k with
    |none=>trivial
    |some b=>rw[hb] at HJ;exact HJ.elim
   |some f=>
    rw[hi] at HJ;cases hb:lkB h k with
    |none=>rw[hb] at HJ;exact HJ.elim
    |some b=>rw[hb] at HJ;exact zT.ext E (fun c hc x hx=>⟨hc,rfl⟩) hi HJ
section
variable {P:Program} {n:Nat} {Q:Exit→St→Prop} {s:St}
theorem zoW{α:Type}{x y:IC}(J:α→Prop)(rep:α→St)(K:∀a,J a→AW P n y Q (rep a))(h:AW P n x (TQ (fun s'=>∃a,J a∧Wk (rep a) s') Q) s):AW P n (.seq x y) Q s:=by
 refine AW.seq (h.mono fun e s' hq=>⟨?_⟩);have hq:=hq.out;cases e with
 |normal=>obtain⟨a,ja,hw⟩:=hq;exact AW.weaken hw (K a ja)
 |_=>exact hq
def iter{S R:Type}(f:(S→Option R)→S→Option R):Nat→S→Option R
 |0,_=>none
 |n+1,s=>f (iter f n) s
theorem AW.iter{S R:Type}{f:(S→Option R)→S→Option R}{c:IC}(rep:S→St){r:R}{N:Nat}{s0:S}(H:Go.AW.iter f N s0=some r)(h0:Wk (rep s0) s)
  (hb:∀(kb:S→Option R) (s1:S),f kb s1=some r→AW P n c (TQ (fun s'=>∃s2,kb s2=some r∧Wk (rep s2) s') Q) (rep s1)):AW P n (.loop c) Q s:=by
 refine AW.loop (fun(p:Nat×S) t=>Go.AW.iter f p.1 p.2=some r∧t=rep p.2) (fun p=>p.1) (x0:=(N,s0)) ⟨_,⟨H,rfl⟩,h0⟩ ?_;rintro⟨m,s1⟩ t ⟨hm,rfl⟩;cases m with
 |zero=>cases hm
 |succ m=>
  refine(hb (Go.AW.iter f m) s1 hm).mono fun e s' hq=>⟨?_⟩;have hq:=hq.out;cases e with
  |normal=>obtain⟨s2,h2,hw⟩:=hq;exact⟨(m,s2),_,Nat.lt_succ_self m,⟨h2,rfl⟩,hw⟩
  |_=>exact hq
end
theorem za{α β:Type}{x:Option α}{f:α→Option β}{r:β}(H:x.bind f=some r):∃a,x=some a∧f a=some r:=Option.bind_eq_some_iff.1 H
theorem zL{β:Type}{c:Prop}[Decidable c]{x y:Option β}{r:β}(H:(if c then x else y)=some r):(c∧x=some r)∨(¬c∧y=some r):=by
 split at H
 ·exact .inl ⟨by assumption,H⟩
 ·exact .inr ⟨by assumption,H⟩
theorem zf{β:Type}{c:Prop}[Decidable c]{x:Option β}{r:β}(H:(if c then x else none)=some r):c∧x=some r:=by
 split at H
 ·exact⟨by assumption,H⟩
 ·cases H
def inK(k:IntKind)(n:Int):Prop:=k.min≤n∧n≤k.max
def okS{α:Type}(ok:α→Prop)(xs:List α):Prop:=xs.length≤maxLen∧∀x∈xs,ok x
def FU:Nat:=4611686018427387904
theorem RdI.zs{a b:Nat}:RdI (.sl a []) (.sl b []):=fun h v bs H=>by
 simp only[Rd] at H;obtain⟨x,cap,e,H⟩:=H;exact⟨[],by simp,by simp only[Rd];exact⟨x,cap,e,.inl (by simp)⟩⟩
def yB:List D→List D→Prop
 |[],[]=>True
 |d::ds,e::es=>RdI d e∧d.isCell=true∧yB ds es
 |_,_=>False
theorem yB.nil:yB [] []:=trivial
theorem yB.cons{d e:D}{ds es:List D}(h1:RdI d e)(h2:d.isCell=true)(h3:yB ds es):yB (d::ds) (e::es):=⟨h1,h2,h3⟩
theorem yB.read{h:Hp}:∀{ds es:List D} {vs:List Value} {bs:List Nat},yB ds es→RdL false h es vs bs→∃bs',(∀b∈bs',b∈bs)∧RdL false h ds vs bs'
 |[],[],vs,bs,_,H=>⟨bs,fun _ h=>h,H⟩
 |d::ds,e::es,vs,bs,W,H=>by
  simp only[RdL] at H;obtain⟨v,vs',b1,b2,rfl,rfl,_,k1,k2⟩:=H;obtain⟨c1,i1,j1⟩:=W.1 h v b1 k1;obtain⟨c2,i2,j2⟩:=yB.read W.2.2 k2;refine⟨c1++c2,fun b hb=> ?_,by simp only[RdL];exact⟨v,vs',c1,c2,_root_.rfl,_root_.rfl,W.2.1,j1,j2⟩⟩;rcases List.mem_append.1 hb with hb|hb
  ·exact List.mem_append.2 (.inl<|i1 b hb)
  ·exact List.mem_append.2 (.inr<|i2 b hb)
 |[],_::_,_,_,W,_=>W.elim
 |_::_,[],_,_,W,_=>W.elim
theorem RdI.agg{ds es:List D}(W:yB ds es):RdI (.agg ds) (.agg es):=fun h v bs H=>by
 simp only[Rd] at H;obtain⟨vs,e,H⟩:=H;obtain⟨bs',i,j⟩:=W.read H;exact⟨bs',i,by simp only[Rd];exact⟨vs,e,j⟩⟩
def Yo:List D→List D→Prop
 |[],[]=>True
 |d::ds,e::es=>RdI d e∧Yo ds es
 |_,_=>False
theorem Yo.nil:Yo [] []:=trivial
theorem Yo.cons{d e:D}{ds es:List D}(h1:RdI d e)(h3:Yo ds es):Yo (d::ds) (e::es):=⟨h1,h3⟩
theorem Yo.args{h:Hp}:∀{ds es:List D} {vs:List Value} {bss:List (List Nat)},Yo ds es→kC h (lent es) vs bss→∃bss',(∀b∈ZZ (lent ds) bss',b∈ZZ (lent es) bss)∧kC h (lent ds) vs bss'
 |[],[],[],[],_,_=>⟨[],by simp[lent,ZZ],trivial⟩
 |d::ds,e::es,v::vs,b::bss,W,H=>by
  obtain⟨b',i1,j1⟩:=W.1 h v b H.1;obtain⟨bss',i2,j2⟩:=Yo.args W.2 H.2;refine⟨b'::bss',fun c hc=> ?_,j1,j2⟩;simp only[lent,List.map_cons,ZZ,Md.owned,Bool.false_eq_true,if_false,List.mem_append] at hc ⊢;rcases hc with hc|hc
  ·exact .inl (i1 c hc)
  ·exact .inr (i2 c hc)
 |[],_::_,_,_,W,_=>W.elim
 |_::_,[],_,_,W,_=>W.elim
 |[],[],[],_::_,_,H=>H.elim
 |[],[],_::_,_,_,H=>H.elim
 |_::_,_::_,[],_,_,H=>H.elim
 |_::_,_::_,_::_,[],_,H=>H.elim
theorem zdA{h:Hp}:∀{ds es:List D} {vs:List Value} {bm:List (List Nat)},ds.length=es.length→zdx h (lent ds) vs bm→zdx h (lent es) vs bm
 |[],[],_,_,_,H=>H
 |_::ds,_::es,[],_,_,H=>H.elim
 |_::ds,_::es,_::_,[],_,H=>H.elim
 |d::ds,e::es,v::vs,b::bm,hl,H=>⟨H.1,zdA (by simpa using hl) H.2⟩
 |[],_::_,_,_,h,_=>by simp at h
 |_::_,[],_,_,h,_=>by simp at h
theorem Yo.len:∀{ds es:List D},Yo ds es→ds.length=es.length
 |[],[],_=>rfl
 |_::_,_::_,W=>by simp[Yo.len W.2]
 |[],_::_,W=>W.elim
 |_::_,[],W=>W.elim
theorem Fn.args{P:Program}{f:FuncId}{ds es rs:List D}{o:Bool}(W:Yo ds es)(F:Fn P f (lent ds) o rs):Fn P f (lent es) o rs:=by
 refine⟨F.1,fun w vs bss HA _ _=> ?_⟩;obtain⟨bss',i,HA'⟩:=W.args HA;refine Calls.mono (F.2 w vs bss' HA' (by rw[y0];exact List.nodup_nil) (by rw[y0];simp)) fun e w' ⟨v,br,bm,he,hp⟩=>⟨v,br,bm,he,?_⟩;have o1:=y0 ds bss';have o2:=y0 es bss;exact⟨hp.os,hp.tape,hp.output,hp.size,fun b hb hn=>hp.kept b hb (by rw[o1];simp),hp.res,zdA W.len hp.muts,hp.nodup,hp.nodupR,hp.apart,fun b hb=>by rw[o2];have:=hp.mfrom b hb;rw[o1] at this;exact this,fun b hb=>by
  rcases hp.rfrom b hb with h|h|⟨h1,h2⟩
  ·exact .inl h
  ·rw[o1] at h;simp at h
  ·exact .inr (.inr ⟨h1,i b h2⟩)⟩
theorem eC{l:bg}{v:V}:Ev l (.c v) v:=rfl
theorem eZ{l:bg}{n:Nat}{v:V}:Ev ((n,v)::l) (.t n) v:=Ev.here
theorem eS{l:bg}{n k:Nat}{v w:V}(h:Nat.beq n k=false)(h':Ev l (.t n) v):Ev ((k,w)::l) (.t n) v:=Ev.there h h'
theorem bZ{h:bh}{n:Nat}{b:Blk}:LB ((n,b)::h) n b:=LB.here
theorem bS{h:bh}{n k:Nat}{b c:Blk}(e:Nat.beq n k=false)(H:LB h n b):LB ((k,c)::h) n b:=LB.there e H
theorem nZ{n:Nat}:NB [] n:=NB.nil
theorem nS{h:bh}{n k:Nat}{c:Blk}(e:Nat.beq n k=false)(H:NB h n):NB ((k,c)::h) n:=NB.there e H
theorem fN{h:bh}:qp (mk [] h fun _=> .top) []:=trivial
theorem fC{h:bh}{n:Nat}{ns:List Nat}(h1:NB h n)(h2:ns.contains n=false)(h3:qp (mk [] h fun _=> .top) ns):qp (mk [] h fun _=> .top) (n::ns):=⟨h1,by simpa using h2,h3⟩
theorem nt{b:Bool}(h:¬b=true):b=false:=by cases b<;>simp at h ⊢
theorem CWk.len{n off a b:Nat}(e:a=b):CWk (.sl n off a) (.sl n off b):=by subst e;exact CWk.rfl
theorem VD.zs{h:bh}:VD h (.one .zs) (.sl 0 []):=rfl
def VOs(h:bh):List C→List D→List Nat→Prop
 |[],[],ns=>ns=[]
 |c::cs,d::ds,ns=>∃a b,ns=a++b∧VO h (.one c) d a∧VOs h cs ds b
 |_,_,_=>False
theorem VOs.nil{h:bh}:VOs h [] [] []:=rfl
theorem VOs.cons{h:bh}{c:C}{cs:List C}{d:D}{ds:List D}{a b:List Nat}(h1:VO h (.one c) d a)(h2:VOs h cs ds b):VOs h (c::cs) (d::ds) (a++b):=⟨a,b,rfl,h1,h2⟩
theorem VO.aggs{h:bh}{cs:List C}{ds:List D}{ns:List Nat}(H:VOs h cs ds ns):VO h (.agg cs) (.agg ds) ns:=by
 show cOs _ cs ds ns;induction cs generalizing ds ns with
 |nil=>cases ds with|nil=>exact H|cons _ _=>exact H.elim
 |cons c cs ih=>
  cases ds with
  |nil=>exact H.elim
  |cons d ds=>obtain⟨a,b,e,h1,h2⟩:=H;exact⟨a,b,e,h1,ih h2⟩
end Go.AW
