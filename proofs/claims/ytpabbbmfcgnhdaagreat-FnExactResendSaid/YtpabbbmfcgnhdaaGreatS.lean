/- Operations that run in whatever order: an operation looks at few slots and names. Lemmas. Conditions: none. -/
import Derived.Test.YtpabbbmfcgnhdaaGreatR
set_option linter.unusedVariables false
namespace Go.AW
def St.mask(A:List Nat)(s:St):St:={sl:=s.sl,hp:=fun n=>if A.contains (n / 64) then none else s.hp n,gh:=s.gh}
structure Sub(d:Nat)(s s':St):Prop where
 sl:s'.sl=s.sl
 hp:∀n b,s.hp n=some b→s'.hp n=some b
 fr:∀n,n / 64=d→s.hp n=none→s'.hp n=none
variable {d:Nat} {s s':St}
theorem Sub.ev(H:Sub d s s')(x:Opd):s'.ev x=s.ev x:=by
 cases x with
 |t n=>simp[St.ev,H.sl]
 |c v=>rfl
theorem Sub.rd(H:Sub d s s'){n:Nat}{v:V}{cs:List C}(h:s.rd n v=some cs):s'.rd n v=some cs:=by
 unfold St.rd at h ⊢;split at h
 ·exact h
 ·exact h
 ·rename_i k i j;cases hk:s.hp k with
  |none=>rw[hk] at h;cases h
  |some b=>rw[hk] at h;rw[H.hp _ _ hk];exact h
 ·cases h
theorem Sub.wr(H:Sub d s s'){zs:List D}{cs:List C}{v:V}{p:Nat×Blk}(h:s.wr zs cs v=some p):s'.wr zs cs v=some p:=by
 unfold St.wr at h ⊢;split at h
 ·rename_i k i j;cases hk:s.hp k with
  |none=>rw[hk] at h;cases h
  |some b=>rw[hk] at h;rw[H.hp _ _ hk];exact h
 ·cases h
theorem Sub.blkSz(H:Sub d s s'){n z:Nat}(h:s.blkSz n=some z):s'.blkSz n=some z:=by
 unfold St.blkSz at h ⊢;cases hk:s.hp n with
 |none=>rw[hk] at h;cases h
 |some b=>rw[hk] at h;rw[H.hp _ _ hk];exact h
theorem Sub.room(H:Sub d s s'){n z:Nat}(h:s.blkSz n=some z):s'.room n=s.room n:=by
 unfold St.blkSz at h;unfold St.room;cases hk:s.hp n with
 |none=>rw[hk] at h;cases h
 |some b=>rw[H.hp _ _ hk]
theorem Sub.at(H:Sub d s s'){sz:Nat}{x y v:V}(h:s.at sz x y=some v):s'.at sz x y=some v:=by
 unfold St.at at h ⊢;split at h
 ·exact h
 ·exact h
 ·exact h
 ·exact h
 ·split at h
  ·rename_i hc;rw[if_pos ⟨H.blkSz hc.1,hc.2⟩];exact h
  ·cases h
 ·cases h
theorem Sub.optNat(H:Sub d s s')(k:Nat)(x:Option Opd):AW.optNat s' k x=AW.optNat s k x:=by
 cases x with
 |none=>rfl
 |some x=>simp[AW.optNat,H.ev]
theorem Sub.zero(H:Sub d s s')(x y z:Opd):x.zero s' y z=x.zero s y z:=by
 simp[Opd.zero,H.ev]
theorem Sub.cut(H:Sub d s s'){sz:Nat}{x v:V}{lo hi mx:Option Opd}(h:s.cut sz x lo hi mx=some v):s'.cut sz x lo hi mx=some v:=by
 unfold St.cut at h ⊢;simp only[H.optNat,H.zero];split at h
 ·exact h
 ·rename_i n off len;simp only[obi] at h ⊢;obtain⟨a,ha,b,hb,h⟩:=h;refine⟨a,ha,b,hb,?_⟩;split at h
  ·rename_i hc;rw[if_pos ⟨H.blkSz hc.1,hc.2.1,by rw[H.room hc.1];exact hc.2.2⟩];exact h
  ·cases h
 all_goals first|exact h|(simpa only[H.ev] using h)|cases h
theorem Sub.elems(H:Sub d s s'){sz:Nat}{zs:List D}{own:Bool}{v:V}{ys:List (List D)}(h:s.elems sz zs own v=some ys):s'.elems sz zs own v=some ys:=by
 unfold St.elems at h ⊢;split at h
 ·exact h
 ·rename_i n off len;cases hk:s.hp n with
  |none=>rw[hk] at h;cases h
  |some b=>rw[hk] at h;rw[H.hp _ _ hk];exact h
 ·exact h
 ·cases h
def IOp.dst:IOp→Option Nat
 | .mov d _| .pick d _ _ _| .var d _| .box d _| .build d _ _| .bslice d _ _ _| .load d _ _| .bin d _ _ _| .beq d _ _ _| .inv d _| .conv d _ _| .mkfn d _ _| .mksl d _ _ _ _ _
 | .slice d _ _ _ _ _| .faddr d _ _| .field d _ _ _| .iaddr d _ _ _| .ext d _ _| .len d _ _| .app d _ _ _ _ _| .nilchk d _| .sidx d _ _| .isnil d _ _| .seql d _ _ _ _| .mm d _ _ _| .cap d _| .copy d _ _ _| .apm d _ _ _ _ _| .callv d _ _=>some d
 | .store _ _ _ _| .clear _ _ _=>none
 | .dead d=>d
theorem zwn(d:Nat):d * 64 / 64=d:=Nat.mul_div_cancel _ (by omega)
theorem Sub.op(H:Sub d s s'){o:IOp}{out:Out}(hd:∀k,o.dst=some k→k=d)(h:AW.ev s o=some out):AW.ev s' o=some out:=by
 have hfr:∀k,o.dst=some k→s.hp (k * 64)=none→s'.hp (k * 64)=none:=fun k hk hn=>by
  have:=hd k hk;subst this;exact H.fr _ (zwn k) hn
 have hfun:s'.ev=s.ev:=funext H.ev;cases o with
 |mov d x=>simpa[AW.ev,hfun] using h
 |pick d c x y=>simpa[AW.ev,hfun] using h
 |var k zs=>
  simp only[AW.ev] at h ⊢;split at h
  ·rename_i hn;rw[hfr k O hn];exact h
  ·cases h
 |box k x=>
  simp only[AW.ev,hfun] at h ⊢;split at h
  ·rename_i hn;rw[hfr k O hn];exact h
  ·cases h
 |build d zs ps=>simpa[AW.ev,hfun] using h
 |bslice k sz zs ps=>
  simp only[AW.ev,hfun] at h ⊢;split at h
  ·rename_i hn;rw[hfr k O hn];exact h
  ·cases h
 |load k ag x=>
  cases ag with
  |some n=>
   simp only[AW.ev,hfun,omi] at h ⊢;obtain⟨cs,hcs,he⟩:=h;exact⟨cs,H.rd hcs,he⟩
  |none=>
   simp only[AW.ev,hfun,obi] at h ⊢;obtain⟨cs,hcs,he⟩:=h;exact⟨cs,H.rd hcs,he⟩
 |store n zs x v=>
  simp only[AW.ev,hfun,obi] at h ⊢;obtain⟨cs,hcs,he⟩:=h;refine⟨cs,hcs,?_⟩;split at he
  ·rename_i hc;rw[if_pos hc];simp only[omi] at he ⊢;obtain⟨p,hp,he⟩:=he;exact⟨p,H.wr hp,he⟩
  ·cases he
 |bin d op x y=>simpa[AW.ev,hfun] using h
 |beq d neg x y=>simpa[AW.ev,hfun] using h
 |inv d x=>simpa[AW.ev,hfun] using h
 |conv d k x=>simpa[AW.ev,hfun] using h
 |mkfn d f caps=>simpa[AW.ev,hfun] using h
 |mksl k sz bytes zs l c=>
  simp only[AW.ev,hfun] at h ⊢;split at h
  ·rename_i hn;rw[hfr k O hn];exact h
  ·cases h
 |slice k sz x lo hi mx=>
  simp only[AW.ev,hfun,omi] at h ⊢;obtain⟨v,hv,he⟩:=h;exact⟨v,H.cut hv,he⟩
 |faddr d off x=>simpa[AW.ev,hfun] using h
 |field d off ag x=>simpa[AW.ev,hfun] using h
 |iaddr k sz x i=>
  simp only[AW.ev,hfun,omi] at h ⊢;obtain⟨v,hv,he⟩:=h;exact⟨v,H.at hv,he⟩
 |ext d x i=>simpa[AW.ev,hfun] using h
 |len k st x=>
  simp only[AW.ev,hfun,omi] at h ⊢;obtain⟨v,hv,he⟩:=h;exact⟨v,hv,he⟩
 |app k sz bytes zs x y=>
  simp only[AW.ev,hfun] at h ⊢;split at h
  ·split at h
   ·rename_i hn;rw[hfr k O hn];simp only[obi] at h ⊢;obtain⟨ys,hys,he⟩:=h;exact⟨ys,H.elems hys,he⟩
   ·cases h
  ·rename_i n len hx;cases hk:s.hp n with
   |none=>rw[hk] at h;cases h
   |some b=>
    rw[hk] at h;rw[H.hp _ _ hk];cases b with
    |data z xs own cp=>
     simp only[obi] at h ⊢;obtain⟨ys,hys,he⟩:=h;exact⟨ys,H.elems hys,he⟩
    |vars _ _=>cases h
    |own _=>cases h
  ·cases h
 |nilchk d x=>simpa[AW.ev,hfun] using h
 |sidx d x i=>simpa[AW.ev,hfun] using h
 |dead d=>cases h
 |isnil d neg x=>simpa[AW.ev,hfun] using h
 |seql d neg n x y=>simpa[AW.ev,hfun] using h
 |mm d mx x y=>simpa[AW.ev,hfun] using h
 |clear sz zs x=>
  simp only[AW.ev,hfun] at h ⊢;split at h
  ·rename_i n off len hx;cases hk:s.hp n with
   |none=>rw[hk] at h;cases h
   |some b=>rw[hk] at h;rw[H.hp _ _ hk];exact h
  ·cases h
 |cap k x=>
  simp only[AW.ev,hfun] at h ⊢;split at h
  ·rename_i n off len hx;cases hk:s.hp n with
   |none=>rw[hk] at h;cases h
   |some b=>rw[hk] at h;rw[H.hp _ _ hk];exact h
  ·cases h
 |copy k sz x y=>
  simp only[AW.ev,hfun] at h ⊢;split at h
  ·rename_i n off len hx;cases hk:s.hp n with
   |none=>rw[hk] at h;cases h
   |some b=>
    rw[hk] at h;rw[H.hp _ _ hk];cases b with
    |data z xs own cp=>
     simp only[obi] at h ⊢;obtain⟨ys,hys,he⟩:=h;exact⟨ys,H.elems hys,he⟩
    |vars _ _=>cases h
    |own _=>cases h
  ·cases h
 |apm k sz bytes zs x y=>
  simp only[AW.ev,hfun] at h ⊢;split at h
  ·rename_i n len hx;split at h
   ·rename_i hk hf;rw[H.hp _ _ hk,hfr k O hf];exact h
   ·cases h
  ·cases h
 |callv d f args=>simp[AW.ev] at h
theorem kC{α β:Type}{f g:α→Option β}(h:∀a b,f a=some b→g a=some b):∀{as:List α} {bs:List β},as.mapM f=some bs→as.mapM g=some bs
 |[],bs,H=>by simpa using H
 |a::as,bs,H=>by
  simp only[List.mapM_cons,Option.pure_def,Option.bind_eq_bind,obi] at H ⊢;obtain⟨b,hb,bs',hbs,he⟩:=H;exact⟨b,h a b hb,bs',kC h hbs,he⟩
theorem Sub.cD0(H:Sub d s s')(c:C)(x:D)(h:AW.cD0 s c=some x):AW.cD0 s' c=some x:=by
 unfold AW.cD0 at h ⊢;split at h
 ·exact h
 ·exact h
 ·rename_i n off len;cases hk:s.hp n with
  |none=>rw[hk] at h;cases h
  |some b=>rw[hk] at h;rw[H.hp _ _ hk];exact h
 ·exact h
 ·cases h
theorem Sub.pD(H:Sub d s s')(c:Ptr)(x:D)(h:AW.pD s c=some x):AW.pD s' c=some x:=by
 unfold AW.pD at h ⊢;split at h
 ·exact h
 ·rename_i n;cases hk:s.hp n with
  |none=>rw[hk] at h;cases h
  |some b=>
   rw[hk] at h;rw[H.hp _ _ hk];cases b with
   |data _ _ _ _=>cases h
   |own _=>cases h
   |vars _ cs=>
    simp only[omi] at h ⊢;obtain⟨xs,hxs,he⟩:=h;exact⟨xs,kC H.cD0 hxs,he⟩
 ·cases h
theorem Sub.vD(H:Sub d s s')(v:V)(x:D)(h:AW.vD s v=some x):AW.vD s' v=some x:=by
 cases v with
 |top=>cases h
 |tup _=>cases h
 |agg cs=>
  simp only[AW.vD,omi] at h ⊢;obtain⟨xs,hxs,he⟩:=h;exact⟨xs,kC H.cD0 hxs,he⟩
 |one c=>
  cases c with
  |ptr p=>exact H.pD p x h
  |fn f caps=>
   simp only[AW.vD,AW.cD,omi] at h ⊢;obtain⟨xs,hxs,he⟩:=h;exact⟨xs,kC H.pD hxs,he⟩
  |any=>exact H.cD0 .any x h
  |d y=>exact H.cD0 (.d y) x h
  |zs=>exact H.cD0 .zs x h
  |nilp=>exact H.cD0 .nilp x h
  |anyb=>exact H.cD0 .anyb x h
  |sl n off len=>exact H.cD0 (.sl n off len) x h
  |sub n y=>exact H.cD0 (.sub n y) x h
theorem Sub.fresh(H:Sub d s s'):∀{ns:List Nat},(∀n∈ns,n / 64=d)→qO s ns→qO s' ns
 |[],_,_=>trivial
 |n::ns,hn,h=>⟨H.fr n (hn n (by simp)) h.1,h.2.1,H.fresh (fun k hk=>hn k (by simp[hk])) h.2.2⟩
theorem Sub.callB(H:Sub d s s'){P:Program}{f:V}{vs:List V}{K:Out→Prop}(h:AW.callB P s d f vs K):AW.callB P s' d f vs K:=by
 unfold AW.callB at h ⊢;rw[qM] at h ⊢;obtain⟨c,hc,h⟩:=h;refine⟨c,hc,?_⟩;rw[qM] at h ⊢;obtain⟨ds,hds,o,md,rs,hf,h⟩:=h;refine⟨ds,kC H.vD hds,o,md,rs,hf,?_⟩;cases md with
 |false=>exact h
 |true=>
  simp only[if_true] at h ⊢;obtain⟨h1,h2,h3,h4⟩:=h;exact⟨h1,h2,H.fresh (fun n hn=>List.all_eq_true.1 h2 n hn |> (by simpa using ·)) h3,h4⟩
end Go.AW
