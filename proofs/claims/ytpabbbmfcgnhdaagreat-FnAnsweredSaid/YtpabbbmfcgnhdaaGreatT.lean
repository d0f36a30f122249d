/- Operations that run in whatever order: an operation looks at few slots and names. Lemmas. Conditions: none. -/
import Derived.Test.YtpabbbmfcgnhdaaGreatR
set_option linter.unusedVariables false
namespace Go.AW
def St.mask(A:List Nat)(s:St):St:={sl:=s.sl,hp:=fun n=>if A.contains (n / 64) then none else s.hp n,gh:=s.gh}
structure Sub(d:Nat)(s s':St):Prop where
 sl:s'.sl=s.sl
 hp:∀n b,s.hp n=some b→s'.hp n=some b
 fr:∀n,n / 64=d→s.hp n=none→s'.hp n=none
variable {d:Nat} {s s':St}
theorem Sub.ev(H:Sub d s s')(x:Opd):s'.ev x=s.ev x:=by
 cases x with
 |t n=>simp[St.ev,H.sl]
 |c v=>rfl
theorem Sub.rd(H:Sub d s s'){n:Nat}{v:V}{cs:List C}(h:s.rd n v=some cs):s'.rd n v=some cs:=by
 unfold St.rd at h ⊢;split at h
 ·exact h
 ·exact h
 ·rename_i k i j;cases hk:s.hp k with
  |none=>rw[hk] at h;cases h
  |some b=>rw[hk] at h;rw[H.hp _ _ hk];exact h
 ·cases h
theorem Sub.wr(H:Sub d s s'){zs:List D}{cs:List C}{v:V}{p:Nat×Blk}(h:s.wr zs cs v=some p):s'.wr zs cs v=some p:=by
 unfold St.wr at h ⊢;split at h
 ·rename_i k i j;cases hk:s.hp k with
  |none=>rw[hk] at h;cases h
  |some b=>rw[hk] at h;rw[H.hp _ _ hk];exact h
 ·cases h
theorem Sub.blkSz(H:Sub d s s'){n z:Nat}(h:s.blkSz n=some z):s'.blkSz n=some z:=by
 unfold St.blkSz at h ⊢;cases hk:s.hp n with
 |none=>rw[hk] at h;cases h
 |some b=>rw[hk] at h;rw[H.hp _ _ hk];exact h
theorem Sub.room(H:Sub d s s'){n z:Nat}(h:s.blkSz n=some z):s'.room n=s.room n:=by
 unfold St.blkSz at h;unfold St.room;cases hk:s.hp n with
 |none=>rw[hk] at h;cases h
 |some b=>rw[H.hp _ _ hk]
theorem Sub.at(H:Sub d s s'){sz:Nat}{x y v:V}(h:s.at sz x y=some v):s'.at sz x y=some v:=by
 unfold St.at at h ⊢;split at h
 ·exact h
 ·exact h
 ·exact h
 ·exact h
 ·split at h
  ·rename_i hc;rw[if_pos ⟨H.blkSz hc.1,hc.2⟩];exact h
  ·cases h
 ·cases h
theorem Sub.optNat(H:Sub d s s')(k:Nat)(x:Option Opd):AW.optNat s' k x=AW.optNat s k x:=by
 cases x with
 |none=>rfl
 |some x=>simp[AW.optNat,H.ev]
theorem Sub.zero(H:Sub d s s')(x y z:Opd):x.zero s' y z=x.zero s y z:=by
 simp[Opd.zero,H.ev]
theorem Sub.cut(H:Sub d s s'){sz:Nat}{x v:V}{lo hi mx:Option Opd}(h:s.cut sz x lo hi mx=some v):s'.cut sz x lo hi mx=some v:=by
 unfold St.cut at h ⊢;simp only[H.optNat,H.zero];split at h
 ·exact h
 ·rename_i n off len;simp only[obi] at h ⊢;obtain⟨a,ha,b,hb,h⟩:=h;refine⟨a,ha,b,hb,?_⟩;split at h
  ·rename_i hc;rw[if_pos ⟨H.blkSz hc.1,hc.2.1,by rw[H.room hc.1];exact hc.2.2⟩];exact h
  ·cases h
 all_goals first|exact h|(simpa only[H.ev] using h)|cases h
theorem Sub.elems(H:Sub d s s'){sz:Nat}{zs:List D}{own:Bool}{v:V}{ys:List (List D)}(h:s.elems sz zs own v=some ys):s'.elems sz zs own v=some ys:=by
 unfold St.elems at h ⊢;split at h
 ·exact h
 ·rename_i n off len;cases hk:s.hp n with
  |none=>rw[hk] at h;cases h
  |some b=>rw[hk] at h;rw[H.hp _ _ hk];exact h
 ·exact h
 ·cases h
def IOp.dst:IOp→Option Nat
 | .mov d _| .pick d _ _ _| .var d _| .box d _| .build d _ _| .bslice d _ _ _| .load d _ _| .bin d _ _ _| .beq d _ _ _| .inv d _| .conv d _ _| .mkfn d _ _| .mksl d _ _ _ _ _
 | .slice d _ _ _ _ _| .faddr d _ _| .field d _ _ _| .iaddr d _ _ _| .ext d _ _| .len d _ _| .app d _ _ _ _ _| .nilchk d _| .sidx d _ _| .isnil d _ _| .seql d _ _ _ _| .cpl d _| .s2b d _| .b2s d _| .mm d _ _ _| .cap d _| .copy d _ _ _| .apm d _ _ _ _ _| .callv d _ _=>some d
 | .store _ _ _ _| .clear _ _ _=>none
 | .dead d=>d
theorem zHC(d:Nat):d * 64 / 64=d:=Nat.mul_div_cancel _ (by omega)
theorem Sub.op(H:Sub d s s'){o:IOp}{out:Out}(hd:∀k,o.dst=some k→k=d)(h:AW.ev s o=some out):AW.ev s' o=some out:=by
 have hfr:∀k,o.dst=some k→s.hp (k * 64)=none→s'.hp (k * 64)=none:=fun k hk hn=>by
  have:=hd k hk;subst this;exact H.fr _ (zHC k) hn
 have hfun:s'.ev=s.ev:=funext H.ev;cases o with
 |mov d x=>simpa[AW.ev,hfun] using h
 |pick d c x y=>simpa[AW.ev,hfun] using h
 |var k zs=>
  simp only[AW.ev] at h ⊢;split at h
  ·rename_i hn;rw[hfr k O hn];exact h
  ·cases h
 |box k x=>
  simp only[AW.ev,hfun] at h ⊢;split at h
  ·rename_i hn;rw[hfr k O hn];exact h
  ·cases h
 |build d zs ps=>simpa[AW.ev,hfun] using h
 |bslice k sz zs ps=>
  simp only[AW.ev,hfun] at h ⊢;split at h
  ·rename_i hn;rw[hfr k O hn];exact h
  ·cases h
 |load k ag x=>
  cases ag with
  |some n=>
   simp only[AW.ev,hfun,omi] at h ⊢;obtain⟨cs,hcs,he⟩:=h;exact⟨cs,H.rd hcs,he⟩
  |none=>
   simp only[AW.ev,hfun,obi] at h ⊢;obtain⟨cs,hcs,he⟩:=h;exact⟨cs,H.rd hcs,he⟩
 |store n zs x v=>
  simp only[AW.ev,hfun,obi] at h ⊢;obtain⟨cs,hcs,he⟩:=h;refine⟨cs,hcs,?_⟩;split at he
  ·rename_i hc;rw[if_pos hc];simp only[omi] at he ⊢;obtain⟨p,hp,he⟩:=he;exact⟨p,H.wr hp,he⟩
  ·cases he
 |bin d op x y=>simpa[AW.ev,hfun] using h
 |beq d neg x y=>simpa[AW.ev,hfun] using h
 |inv d x=>simpa[AW.ev,hfun] using h
 |conv d k x=>simpa[AW.ev,hfun] using h
 |mkfn d f caps=>simpa[AW.ev,hfun] using h
 |mksl k sz bytes zs l c=>
  simp only[AW.ev,hfun] at h ⊢;split at h
  ·rename_i hn;rw[hfr k O hn];exact h
  ·cases h
 |slice k sz x lo hi mx=>
  simp only[AW.ev,hfun,omi] at h ⊢;obtain⟨v,hv,he⟩:=h;exact⟨v,H.cut hv,he⟩
 |faddr d off x=>simpa[AW.ev,hfun] using h
 |field d off ag x=>simpa[AW.ev,hfun] using h
 |iaddr k sz x i=>
  simp only[AW.ev,hfun,omi] at h ⊢;obtain⟨v,hv,he⟩:=h;exact⟨v,H.at hv,he⟩
 |ext d x i=>simpa[AW.ev,hfun] using h
 |len k st x=>
  simp only[AW.ev,hfun,omi] at h ⊢;obtain⟨v,hv,he⟩:=h;exact⟨v,hv,he⟩
 |app k sz bytes zs x y=>
  simp only[AW.ev,hfun] at h ⊢;split at h
  ·split at h
   ·rename_i hn;rw[hfr k O hn];simp only[obi] at h ⊢;obtain⟨ys,hys,he⟩:=h;exact⟨ys,H.elems hys,he⟩
   ·cases h
  ·rename_i n len hx;cases hk:s.hp n with
   |none=>rw[hk] at h;cases h
   |some b=>
    rw[hk] at h;rw[H.hp _ _ hk];cases b with
    |data z xs own cp=>
     simp only[obi] at h ⊢;obtain⟨ys,hys,he⟩:=h;exact⟨ys,H.elems hys,he⟩
    |vars _ _=>cases h
    |own _=>cases h
  ·cases h
 |nilchk d x=>simpa[AW.ev,hfun] using h
 |sidx d x i=>simpa[AW.ev,hfun] using h
 |dead d=>cases h
 |isnil d neg x=>simpa[AW.ev,hfun] using h
 |seql d neg n x y=>simpa[AW.ev,hfun] using h
 |mm d mx x y=>simpa[AW.ev,hfun] using h
 |cpl d x=>simpa[AW.ev,hfun] using h
 |s2b d x=>simpa[AW.ev,hfun] using h
 |b2s d x=>simpa[AW.ev,hfun] using h
 |clear sz zs x=>
  simp only[AW.ev,hfun] at h ⊢;split at h
  ·rename_i n off len hx;cases hk:s.hp n with
   |none=>rw[hk] at h;cases h
   |some b=>rw[hk] at h;rw[H.hp _ _ hk];exact h
  ·cases h
 |cap k x=>
  simp only[AW.ev,hfun] at h ⊢;split at h
  ·rename_i n off len hx;cases hk:s.hp n with
   |none=>rw[hk] at h;cases h
   |some b=>rw[hk] at h;rw[H.hp _ _ hk];exact h
  ·cases h
 |copy k sz x y=>
  simp only[AW.ev,hfun] at h ⊢;split at h
  ·rename_i n off len hx;cases hk:s.hp n with
   |none=>rw[hk] at h;cases h
   |some b=>
    rw[hk] at h;rw[H.hp _ _ hk];cases b with
    |data z xs own cp=>
     simp only[obi] at h ⊢;obtain⟨ys,hys,he⟩:=h;exact⟨ys,H.elems hys,he⟩
    |vars _ _=>cases h
    |own _=>cases h
  ·cases h
 |apm k sz bytes zs x y=>
  simp only[AW.ev,hfun] at h ⊢;split at h
  ·rename_i n len hx;split at h
   ·rename_i hk hf;rw[H.hp _ _ hk,hfr k O hf];exact h
   ·cases h
  ·cases h
 |callv d f args=>simp[AW.ev] at h
theorem XS{α β:Type}{f g:α→Option β}(h:∀a b,f a=some b→g a=some b):∀{as:List α} {bs:List β},as.mapM f=some bs→as.mapM g=some bs
 |[],bs,H=>by simpa using H
 |a::as,bs,H=>by
  simp only[List.mapM_cons,Option.pure_def,Option.bind_eq_bind,obi] at H ⊢;obtain⟨b,hb,bs',hbs,he⟩:=H;exact⟨b,h a b hb,bs',XS h hbs,he⟩
theorem Sub.cD0(H:Sub d s s')(c:C)(x:D)(h:AW.cD0 s c=some x):AW.cD0 s' c=some x:=by
 unfold AW.cD0 at h ⊢;split at h
 ·exact h
 ·exact h
 ·rename_i n off len;cases hk:s.hp n with
  |none=>rw[hk] at h;cases h
  |some b=>rw[hk] at h;rw[H.hp _ _ hk];exact h
 ·exact h
 ·cases h
theorem Sub.pD(H:Sub d s s')(c:Ptr)(x:D)(h:AW.pD s c=some x):AW.pD s' c=some x:=by
 unfold AW.pD at h ⊢;split at h
 ·exact h
 ·rename_i n;cases hk:s.hp n with
  |none=>rw[hk] at h;cases h
  |some b=>
   rw[hk] at h;rw[H.hp _ _ hk];cases b with
   |data _ _ _ _=>cases h
   |own _=>cases h
   |vars _ cs=>
    simp only[omi] at h ⊢;obtain⟨xs,hxs,he⟩:=h;exact⟨xs,XS H.cD0 hxs,he⟩
 ·cases h
theorem Sub.vD(H:Sub d s s')(v:V)(x:D)(h:AW.vD s v=some x):AW.vD s' v=some x:=by
 cases v with
 |top=>cases h
 |tup _=>cases h
 |agg cs=>
  simp only[AW.vD,omi] at h ⊢;obtain⟨xs,hxs,he⟩:=h;exact⟨xs,XS H.cD0 hxs,he⟩
 |one c=>
  cases c with
  |ptr p=>exact H.pD p x h
  |fn f caps=>
   simp only[AW.vD,AW.cD,omi] at h ⊢;obtain⟨xs,hxs,he⟩:=h;exact⟨xs,XS H.pD hxs,he⟩
  |any=>exact H.cD0 .any x h
  |d y=>exact H.cD0 (.d y) x h
  |zs=>exact H.cD0 .zs x h
  |nilp=>exact H.cD0 .nilp x h
  |anyb=>exact H.cD0 .anyb x h
  |sl n off len=>exact H.cD0 (.sl n off len) x h
  |sub n y=>exact H.cD0 (.sub n y) x h
theorem Sub.fresh(H:Sub d s s'):∀{ns:List Nat},(∀n∈ns,n / 64=d)→qp s ns→qp s' ns
 |[],_,_=>trivial
 |n::ns,hn,h=>⟨H.fr n (hn n (by simp)) h.1,h.2.1,H.fresh (fun k hk=>hn k (by simp[hk])) h.2.2⟩
theorem Sub.callB0(H:Sub d s s'){P:Program}{f:V}{vs:List V}{K:Out→Prop}(h:AW.callB0 P s d f vs K):AW.callB0 P s' d f vs K:=by
 unfold AW.callB0 at h ⊢;rw[qB] at h ⊢;obtain⟨c,hc,h⟩:=h;refine⟨c,hc,?_⟩;rw[qB] at h ⊢;obtain⟨ds,hds,o,md,rs,hf,h⟩:=h;refine⟨ds,XS H.vD hds,o,md,rs,hf,?_⟩;cases md with
 |false=>exact h
 |true=>
  simp only[if_true] at h ⊢;obtain⟨h1,h2,h3,h4⟩:=h;exact⟨h1,h2,H.fresh (fun n hn=>List.all_eq_true.1 h2 n hn |> (by simpa using ·)) h3,h4⟩
theorem Sub.callB(H:Sub d s s'){P:Program}{f:V}{vs:List V}{K:Out→Prop}(h:AW.callB P s d f vs K):AW.callB P s' d f vs K:=by
 rcases h with h|⟨k,B,u,hc,hB,hv,hk⟩
 ·exact .inl (H.callB0 h)
 ·exact .inr ⟨k,B,u,hc,fun p hp=>H.hp _ _ (hB p hp),hv,hk⟩
end Go.AW
namespace Go.AW
structure GOp where
 g:Option (Nat×Bool)
 o:IOp
def opA(P:Program)(s:St)(o:IOp)(K:Out→Prop):Prop:=match o with
 | .callv d f args=>callB P s d (s.ev f) (args.map s.ev) K
 |o=>Qb (ev s o) K
def xb(o:IOp):Out:=⟨[],o.dst.map fun d=>(d,.tup []),[]⟩
def je(P:Program)(s:St)(g:GOp)(K:Out→Prop):Prop:=match g.g with
 |none=>opA P s g.o K
 |some (t,want)=>match s.sl t with
   | .one (.d<|.bool b)=>if b=want then opA P s g.o K else K (xb g.o)
   | .tup []=>K (xb g.o)
   |_=>False
def toG(P:Program)(n:Nat)(ops:Array Oper)(o:Oper):Option GOp:=(x9 P n o).bind fun io=>match o.guard with
 |none=>some ⟨none,io⟩
 |some (j,want)=>((ops[j]?).bind (·.dst)).map fun t=>⟨some (t,want),io⟩
variable {cx:Cx} {m:M} {s:St} {a:Act} {w:World} {o:Oper} {K:Act→World→Prop} {Q:Exit→Act→World→Prop} {ops:Array Oper}
theorem zhq{P:Program}{n:Nat}{c:Call}{io:IOp}(h:Qa P n o c=some io):o.dst=io.dst∧∀d,io.dst=some d→d < n:=by
 unfold Qa at h;split at h
 ·simp only[obi,omi] at h;obtain⟨x,hx0,d,hd,t,ht,st,hst,x',hx,rfl⟩:=h;exact⟨(zd hd).1,fun k hk=>by cases hk;exact(zd hd).2⟩
 ·simp only[obi] at h;obtain⟨xy,hxy,tu,htu,h⟩:=h;split at h;rotate_left
  ·simp only[obi] at h;obtain⟨kn,hkn,d,hd,e,he',i,hi,z,hz,zs,hzs,h⟩:=h;split at h;rotate_left
   ·cases h
   simp only[obi,omi] at h;obtain⟨x',hx,y',hy,rfl⟩:=h;exact⟨(zd hd).1,fun k hk=>by cases hk;exact(zd hd).2⟩
  simp only[obi] at h;obtain⟨d,hd,e,he',i,hi,z,hz,h⟩:=h;split at h;rotate_left
  ·cases h
  simp only[obi,omi] at h;obtain⟨x',hx,y',hy,rfl⟩:=h;exact⟨(zd hd).1,fun k hk=>by cases hk;exact(zd hd).2⟩
 ·simp only[obi,omi] at h;obtain⟨xy,hxy,d,hd,x',hx,y',hy,rfl⟩:=h;exact⟨(zd hd).1,fun k hk=>by cases hk;exact(zd hd).2⟩
 ·simp only[obi,omi] at h;obtain⟨xy,hxy,d,hd,x',hx,y',hy,rfl⟩:=h;exact⟨(zd hd).1,fun k hk=>by cases hk;exact(zd hd).2⟩
 ·simp only[obi] at h;obtain⟨x,hx0,t,ht,e,he',i,hi,z,hz,zs,hzs,h⟩:=h;split at h;rotate_left
  ·cases h
  rename_i hc;simp only[omi] at h;obtain⟨x',hx,rfl⟩:=h;exact⟨hc.2.2,fun k hk=>by cases hk⟩
 ·simp only[obi,omi] at h;obtain⟨x,hx0,t,ht,d,hd,e,he',x',hx,rfl⟩:=h;exact⟨(zd hd).1,fun k hk=>by cases hk;exact(zd hd).2⟩
 ·simp only[obi,omi] at h;obtain⟨xy,hxy,t,ht,d,hd,e,he',i,hi,x',hx,y',hy,rfl⟩:=h;exact⟨(zd hd).1,fun k hk=>by cases hk;exact(zd hd).2⟩
 ·simp only[obi,omi] at h;obtain⟨d,hd,f',hf,xs',hxs,rfl⟩:=h;exact⟨(zd hd).1,fun k hk=>by cases hk;exact(zd hd).2⟩
 ·cases h
theorem zg6{P:Program}{n:Nat}{io:IOp}(h:x9 P n o=some io):o.dst=io.dst∧∀d,io.dst=some d→d < n:=by
 have fin:∀d,yw n o=some d→∀io':IOp,io'.dst=some d→o.dst=io'.dst∧∀d,io'.dst=some d→d < n:=fun d hd io' hio=>⟨(zd hd).1.trans hio.symm,fun k hk=>by
  rw[hio] at hk;cases hk;exact(zd hd).2⟩
 unfold x9 at h;split at h
 case h_9=>
  split at h;rotate_left
  ·cases h
  rename_i hd;simp only[obi,omi] at h;obtain⟨k,hk,x',hx,v',hv,rfl⟩:=h;exact⟨hd,fun k hk=>by cases hk⟩
 case h_23=>
  rw[obi] at h;obtain⟨_,hd,h⟩:=h;cases h;unfold zo8 at hd;by_cases hn:o.dst=none
  ·exact⟨hn,fun k hk=>by cases hk⟩
  ·rw[if_neg hn] at hd;cases hd
 case h_24=>exact zhq h
 case h_25=>cases h
 all_goals
  rw[obi] at h;obtain⟨d,hd,h⟩:=h;refine fin d hd io ?_
  repeat' (first|(rw[obi] at h;obtain⟨_,_,h⟩:=h)|(rw[omi] at h;obtain⟨_,_,rfl⟩:=h;rfl)|(split at h)|(cases h;done)|(cases h;rfl))
theorem Y4{P:Program}{n:Nat}{g:GOp}(h:toG P n ops o=some g):x9 P n o=some g.o∧(g.g=none→o.guard=none)∧∀t want,g.g=some (t,want)→∃j,o.guard=some (j,want)∧(ops[j]?).bind (·.dst)=some t:=by
 unfold toG at h;rw[obi] at h;obtain⟨io,hio,h⟩:=h;split at h
 ·rename_i hg;cases h;exact⟨hio,fun _=>hg,fun _ _ h=>by cases h⟩
 ·rename_i j want hg;rw[omi] at h;obtain⟨t,ht,rfl⟩:=h;exact⟨hio,(fun h=>by cases h),fun t' w' h=>by cases h;exact⟨j,hg,ht⟩⟩
theorem zfa(R:zt cx m s a w){io:IOp}(h:x9 cx.P cx.n o=some io){K':Out→Prop}(hA:opA cx.P s io K')(hK:∀out,K' out→∀m' a' w',zt cx m' (s.app out) a' w'→K a' w'):o.wp cx.P a w K Q:=by
 unfold opA at hA;split at hA
 ·rename_i d f args;have key:∃c:Call,o.op= .call c∧Qa cx.P cx.n o c=some (.callv d f args):=by
   unfold x9 at h;split at h
   case h_24 c hop=>exact⟨c,hop,h⟩
   case h_25=>cases h
   case h_9=>
    split at h;rotate_left
    ·cases h
    simp only[obi,omi] at h;obtain⟨_,_,_,_,_,_,h⟩:=h;cases h
   all_goals
    rw[obi] at h;obtain⟨d,hd,h⟩:=h
    repeat' (first|(rw[obi] at h;obtain⟨_,_,h⟩:=h)|(rw[omi] at h;obtain⟨_,_,h⟩:=h;cases h;done)|(split at h)|(cases h;done))
  obtain⟨c,hop,hc⟩:=key;obtain⟨callee,xs,ts⟩:=c;unfold Qa at hc;split at hc
  case h_8 f0 hf0=>
   simp only at hf0;subst hf0;simp only[obi,omi] at hc;obtain⟨d',hd,f',hf,xs',hxs,hc⟩:=hc;cases hc;exact ziA R hop (zd hd).1 (zd hd).2 hf hxs hA hK
  case h_9=>cases hc
  case h_5=>
   simp only[obi] at hc;obtain⟨_,_,_,_,_,_,_,_,_,_,_,_,hc⟩:=hc;split at hc
   ·simp only[omi] at hc;obtain⟨_,_,hc⟩:=hc;cases hc
   ·cases hc
  case h_2=>
   rw[obi] at hc;obtain⟨_,_,hc⟩:=hc;rw[obi] at hc;obtain⟨_,_,hc⟩:=hc;split at hc;rotate_left
   ·simp only[obi] at hc;obtain⟨_,_,_,_,_,_,_,_,_,_,_,_,hc⟩:=hc;split at hc
    ·simp only[obi,omi] at hc;obtain⟨_,_,_,_,hc⟩:=hc;cases hc
    ·cases hc
   simp only[obi] at hc;obtain⟨_,_,_,_,_,_,_,_,hc⟩:=hc;split at hc;rotate_left
   ·cases hc
   simp only[obi,omi] at hc;obtain⟨_,_,_,_,hc⟩:=hc;cases hc
  all_goals
   simp only[obi,omi] at hc;obtain⟨_,_,hc⟩:=hc
   repeat' (obtain⟨_,_,hc⟩:=hc)
   first|(cases hc;done)|skip
 ·rw[qB] at hA;obtain⟨out,he,hk⟩:=hA;exact zj7 R h he (hK out hk)
theorem x4(R:zt cx m s a w){g:GOp}(h:toG cx.P cx.n ops o=some g){K':Out→Prop}(hA:je cx.P s g K')(hK:∀out,K' out→∀m' a' w',zt cx m' (s.app out) a' w'→K a' w'):
  if Region.wanted o (yielded ops a.tmps) then o.wp cx.P a w K Q else K (a.put o.dst undef) w:=by
 obtain⟨h1,h2,h3⟩:=Y4 h;unfold je at hA;split at hA
 ·rename_i hg;rw[if_pos (by simp[Region.wanted,h2 hg])];exact zfa R h1 hA hK
 ·rename_i t want hg;obtain⟨j,hj,ht⟩:=h3 t want hg;split at hA
  ·rename_i b hb;have hv:=R.sl t;rw[hb] at hv;have hv:=kO hv;have ht2:a.tmps[t]? =some (.bool b):=by
    rw[Array.getD_eq_getD_getElem?] at hv;cases hx:a.tmps[t]? with
    |none=>rw[hx] at hv;simp[undef] at hv
    |some x=>rw[hx] at hv;simpa using hv
   have hy:yielded ops a.tmps j=some b:=by
    unfold yielded;rw[ht];simp[ht2]
   have hw:Region.wanted o (yielded ops a.tmps)=decide (b=want):=by
    simp only[Region.wanted,hj,hy];cases b<;>cases want<;>rfl
   rw[hw];by_cases hbw:b=want
   ·rw[if_pos (by simp[hbw])];rw[if_pos hbw] at hA;exact zfa R h1 hA hK
   ·rw[if_neg (by simp[hbw])];rw[if_neg hbw] at hA;obtain⟨hd1,hd2⟩:=zg6 h1;refine hK _ hA m _ _ ?_;rw[hd1];unfold xb;cases hdst:g.o.dst with
    |none=>exact R
    |some d=>exact R.set (hd2 d hdst) ⟨#[],rfl,trivial⟩
  ·rename_i hb;have hv:=R.sl t;rw[hb] at hv;obtain⟨us,hv,hall⟩:=hv;have hy:yielded ops a.tmps j=none:=by
    unfold yielded;rw[ht];simp only[Option.bind_some];rw[Array.getD_eq_getD_getElem?] at hv;cases hx:a.tmps[t]? with
    |none=>rfl
    |some x=>
     rw[hx] at hv;simp only[Option.getD_some] at hv;rw[hv]
   have hw:Region.wanted o (yielded ops a.tmps)=false:=by
    simp only[Region.wanted,hj,hy];rfl
   rw[hw,if_neg (by simp)];obtain⟨hd1,hd2⟩:=zg6 h1;refine hK _ hA m _ _ ?_;rw[hd1];unfold xb;cases hdst:g.o.dst with
   |none=>exact R
   |some d=>exact R.set (hd2 d hdst) ⟨#[],rfl,trivial⟩
  ·cases hA
def zdr(P:Program):List GOp→St→(St→Prop)→Prop
 |[],s,Q=>Q s
 |g::gs,s,Q=>je P s g fun out=>zdr P gs (s.app out) Q
theorem zbh:∀{l:List Oper} {gs:List GOp} {m:M} {s:St} {a:Act} {w:World} {Q':St→Prop},l.mapM (toG cx.P cx.n ops)=some gs→zt cx m s a w→zdr cx.P gs s Q'→
  (∀s',Q' s'→∀m' a' w',zt cx m' s' a' w'→Q .normal a' w')→wpList cx.P ops Q l a w
 |[],gs,m,s,a,w,Q',hm,R,h,hQ=>by
  simp at hm;subst hm;exact hQ s h m a w R
 |o::l,gs,m,s,a,w,Q',hm,R,h,hQ=>by
  simp only[List.mapM_cons,Option.pure_def,Option.bind_eq_bind,obi] at hm;obtain⟨g,hg,gs',hgs,he⟩:=hm;cases he;have:=x4 (Q:=Q) (K:=wpList cx.P ops Q l) R hg h (fun out hk m' a' w' R'=>zbh hgs R' hk hQ);unfold wpList;split
  ·rename_i hw;rw[if_pos hw] at this;exact .inl this
  ·rename_i hw;rw[if_neg hw] at this;exact this
end Go.AW
