/- The rules by which a call is gone through that is handed blocks, and what is known of arguments that are written. Lemmas. Conditions: none. -/
import Derived.Test.YtlcjjljmjdmobaaYb
import Derived.Test.YtlcjjljmjdmobaaXd
set_option linter.unusedVariables false
namespace Go.AW
def GK(ns:List Nat):List (Nat×V)→Prop
 |[]=>True
 |(_,v)::r=>v.er ns=v∧GK ns r
theorem GK.nil{ns:List Nat}:GK ns []:=trivial
theorem GK.cons{ns:List Nat}{k:Nat}{v:V}{r:List (Nat×V)}(h1:v.er ns=v)(h2:GK ns r):GK ns ((k,v)::r):=⟨h1,h2⟩
theorem GK.lk{ns:List Nat}:∀{gl:List (Nat×V)},GK ns gl→∀k,(Go.AW.lk gl k).er ns=Go.AW.lk gl k
 |[],_,k=>rfl
 |(j,v)::r,H,k=>by
  simp only[Go.AW.lk]
  split
  ·exact H.1
  ·exact GK.lk H.2 k
theorem zgB{s t:St}(hs:∀k m h x,jn m h (s.sl k) x→jn m h (t.sl k) x)(hh:t.hp=s.hp)(hg:∀k,t.gh k=s.gh k):Wk t s:=fun cx a w ⟨m,R⟩=>
 ⟨m,R.size,R.defers,fun k=>hs k _ _ _ (R.sl k),fun n=>by rw[hh];exact R.hp n,R.own,R.fr,fun k=>by rw[hg k];exact R.gh k⟩
theorem zk{l l':List (Nat×V)}{h h':List (Nat×Blk)}{gl:List (Nat×V)}(ns:List Nat)(h1:SL l ns l')(h2:BL h' ns h)(h3:BK h ns h')(h4:GK ns gl):Wk (mk l' h' (lk gl)) (mk l h (lk gl)):=by
 refine Wk.trans (s:=(mk l h (lk gl)).er ns) (zgB (fun k=>h1.at k) (funext fun n=> ?_) fun k=>(h4.lk k).symm) (zgJ ns _)
 show lkB h' n=if ns.contains n then none else(lkB h n).map (Blk.er ns)
 obtain⟨i1,i2,i3⟩:=h3.at n
 cases hc:ns.contains n with
 |true=>rw[i1 hc];rfl
 |false=>
  simp only[Bool.false_eq_true,if_false]
  cases hk:(h'.map (·.1)).contains n with
  |true=>exact i2 hk
  |false=>rw[i3 hk,h2.out hc hk];rfl
def GR(n n':Nat):List (Nat×V)→Prop
 |[]=>True
 |(_,v)::r=>v.ren n n'=v∧GR n n' r
theorem GR.nil{n n':Nat}:GR n n' []:=trivial
theorem GR.cons{n n' k:Nat}{v:V}{r:List (Nat×V)}(h1:v.ren n n'=v)(h2:GR n n' r):GR n n' ((k,v)::r):=⟨h1,h2⟩
theorem GR.lk{n n':Nat}:∀{gl:List (Nat×V)},GR n n' gl→∀k,(Go.AW.lk gl k).ren n n'=Go.AW.lk gl k
 |[],_,k=>rfl
 |(j,v)::r,H,k=>by
  simp only[Go.AW.lk]
  split
  ·exact H.1
  ·exact GR.lk H.2 k
theorem zow{l:List (Nat×V)}{h:List (Nat×Blk)}{g g':Nat→V}(H:∀k,g' k=g k):mk l h g'=mk l h g:=by
 have:g'=g:=funext H
 subst this;rfl
theorem z3(n n':Nat){l:List (Nat×V)}{h:List (Nat×Blk)}{gl:List (Nat×V)}(hne:Nat.beq n n'=false)(hfar:Nat.ble n 1999999=true)(hf:NB h n')(hg:GR n n' gl):Wk (mk (zdp n n' l) (zcR n n' h) (lk gl)) (mk l h (lk gl)):=by
 have:=zdX (l:=l) (g:=lk gl) n n' hne hfar hf
 rwa [zow hg.lk] at this
def AO(h:List (Nat×Blk))(vs:List V)(as:List Ar)(ns us:List Nat):Prop:=J0 (mk [] h noG) vs as ns us
theorem AO.nil{h:List (Nat×Blk)}:AO h [] [] [] []:=⟨rfl,rfl⟩
theorem AO.lent{h:List (Nat×Blk)}{v:V}{d:D}{vs:List V}{as:List Ar}{ns us ws:List Nat}(h1:VD h v d)(hw:kc (mk [] h noG) v=ws)(h2:AO h vs as ns us):AO h (v::vs) (⟨d,.b⟩::as) ns (ws++us):=by
 subst hw
 exact⟨us,h1,rfl,h2⟩
theorem AO.mut{h:List (Nat×Blk)}{v:V}{d d':D}{vs:List V}{as:List Ar}{ns us x:List Nat}(h1:VO h v d x)(h2:AO h vs as ns us):AO h (v::vs) (⟨d,.m d'⟩::as) (x++ns) us:=⟨x,ns,rfl,h1,h2⟩
theorem zfk{s s':St}(h:s'.hp=s.hp)(v:V):kc s' v=kc s v:=by
 obtain⟨sl,hp,gh⟩:=s
 obtain⟨sl',hp',gh'⟩:=s'
 cases h
 rfl
theorem kA{s s':St}(h:s'.hp=s.hp):∀{vs:List V} {as:List Ar} {ns us:List Nat},J0 s vs as ns us→J0 s' vs as ns us
 |[],[],_,_,H=>H
 |v::vs,a::as,ns,us,H=>by
  unfold J0 at H ⊢
  split at H
  ·obtain⟨us',h1,h2,h3⟩:=H
   exact⟨us',by rw[zfb h];exact h1,by rw[zfk h];exact h2,kA h h3⟩
  ·obtain⟨h1,h2,h3⟩:=H
   exact⟨h1,h2,kA h h3⟩
  ·obtain⟨x,y,h1,h2,h3⟩:=H
   exact⟨x,y,h1,zdS h h2,kA h h3⟩
theorem AO.args{l:List (Nat×V)}{h:List (Nat×Blk)}{g:Nat→V}{vs:List V}{as:List Ar}{ns us:List Nat}(H:AO h vs as ns us):J0 (mk l h g) vs as ns us:=kA (s:=mk [] h noG) (s':=mk l h g) rfl H
def SZ(h:List (Nat×Blk)):List (Nat×Blk)→Prop
 |[]=>True
 |(n,b)::r=>((∃sz xs0 o cp ys o' cp',lkB h n=some (.data sz xs0 o cp)∧b= .data sz ys o' cp')∨∃sz cs ds,lkB h n=some (.vars sz cs)∧b= .vars sz ds∧ds.length=cs.length)∧SZ h r
theorem SZ.nil{h:List (Nat×Blk)}:SZ h []:=trivial
theorem SZ.cons{h:List (Nat×Blk)}{n sz:Nat}{xs0 ys:List (List D)}{o o':Bool}{cp cp':Option Nat}{r:List (Nat×Blk)}(h1:LB h n (.data sz xs0 o cp))(h3:SZ h r):SZ h ((n,.data sz ys o' cp')::r):=
 ⟨.inl ⟨sz,xs0,o,cp,ys,o',cp',h1,rfl⟩,h3⟩
theorem zV{h:List (Nat×Blk)}{n sz:Nat}{cs ds:List C}{r:List (Nat×Blk)}(h1:LB h n (.vars sz cs))(h2:ds.length=cs.length)(h3:SZ h r):SZ h ((n,.vars sz ds)::r):=
 ⟨.inr ⟨sz,cs,ds,h1,rfl,h2⟩,h3⟩
theorem SZ.mem{l:List (Nat×V)}{h:List (Nat×Blk)}{g:Nat→V}:∀{r:List (Nat×Blk)},SZ h r→∀p∈r,zjz (mk l h g) p
 |[],_,p,hp=>by cases hp
 |(n,b)::r,H,p,hp=>by
  rcases List.mem_cons.1 hp with rfl|hp
  ·exact H.1
  ·exact SZ.mem H.2 p hp
def Yx(ON ls G MN:List Nat):Bool:=
 decide ON.Nodup&&ls.all (fun n=>!ON.contains n)&&ON.all (fun n=>G.contains n||MN.contains n)&&G.all (fun n=>!MN.contains n)&&MN.all (fun n=>Nat.blt n 1000000)&&G.all (fun n=>Nat.blt n 1000000)
theorem yU{α:Type}{x:Option α}{K K':α→Prop}(h:xe x K)(hk:∀a,K a→K' a):xe x K':=by
 cases x with
 |none=>exact h
 |some a=>exact hk a h
theorem zdD{P:Program}{s:St}{d:Nat}{f:V}{vs:List V}{K K':Out→Prop}(h:callB P s d f vs K)(hk:∀a,K a→K' a):callB P s d f vs K':=by
 unfold callB at h ⊢
 refine yU h fun c h=>yU h fun ds h=> ?_
 obtain⟨o,md,rs,h1,h2⟩:=h
 refine⟨o,md,rs,h1,?_⟩
 cases md with
 |true=>simp only[if_true] at h2 ⊢;exact⟨h2.1,h2.2.1,h2.2.2.1,hk _ h2.2.2.2⟩
 |false=>simp only[Bool.false_eq_true,if_false] at h2 ⊢;exact⟨h2.1,hk _ h2.2⟩
theorem zco{P:Program}{s:St}{o:IOp}{K K':Out→Prop}(h:opA P s o K)(hk:∀a,K a→K' a):opA P s o K':=by
 cases o<;>first|exact zdD h hk|(simp only[opA] at h ⊢;exact yU h hk)
theorem kX{P:Program}{s:St}{g:GOp}{K K':Out→Prop}(h:j8 P s g K)(hk:∀a,K a→K' a):j8 P s g K':=by
 obtain⟨gg,o⟩:=g
 cases gg with
 |none=>exact zco h hk
 |some p=>
  obtain⟨t,want⟩:=p
  unfold j8 at h ⊢
  simp only at h ⊢
  generalize s.sl t=v at h ⊢
  revert h
  split
  ·intro h
   split at h
   ·rename_i e;rw[if_pos e];exact zco h hk
   ·rename_i e;rw[if_neg e];exact hk _ h
  ·intro h;exact hk _ h
  ·intro h;exact h.elim
theorem zbB{P:Program}:∀{gs:List GOp} {s:St} {Q Q':St→Prop},zaJ P gs s Q→(∀s,Q s→Q' s)→zaJ P gs s Q'
 |[],_,_,_,h,hq=>hq _ h
 |_::_,_,_,_,h,hq=>kX h fun _ h=>zbB h hq
structure RM(P:Program)(n:Nat)(L:List RO)(s:St)(Q:St→Prop):Prop where
 out:RM0 P n L s Q
section
variable {P:Program} {nn:Nat} {L:List RO} {s t:St} {Q:St→Prop} {Qx:Exit→St→Prop}
theorem zt(h:RM P nn L s (Qx .normal)):AW P nn (.reg L) Qx s:=⟨fun cx code hh hh' a w hP hn hic ⟨m,R⟩=>by
 obtain⟨id,ops,gs,rfl,hops,hL⟩:=zcB hic
 subst hP;subst hn
 exact wp_region_list (h.out gs hL cx ops ops.toList m a w _ rfl rfl hops R (fun s' hs m' a' w' R'=>⟨s',hs,m',R'⟩))⟩
theorem zy(h:RG P L s Q):RM P nn L s Q:=⟨zke fun gs e=>YD (by rw[←e];exact h.out)⟩
theorem zd{r:RO}(h:RG P [r] s (fun s'=>RM P nn L s' Q)):RM P nn (r::L) s Q:=⟨RM0.split 1 fun gs e=>by
 have e:[r]=gs.map fun g=>⟨g,0,[]⟩:=by simpa using e
 have:=YD (P:=P) (gs:=gs) (s:=s) (Q:=fun s'=>RM P nn L s' Q) (by rw[←e];exact h.out)
 refine zbB this fun s' hs=> ?_
 simpa using hs.out⟩
theorem zqx(hw:∀(cx:Cx) (m:M) (a:Act) (w:World),zE cx m s a w→∃m',zE cx m' t a w)(h:RM P nn L t Q):RM P nn L s Q:=⟨fun gs hL cx ops l m a w Qx hP hn hm R hQ=>by
 obtain⟨m',R'⟩:=hw cx m a w R
 exact h.out gs hL cx ops l m' a w Qx hP hn hm R' hQ⟩
theorem Yq(hw:Wk t s)(h:RM P nn L t Q):RM P nn L s Q:=zqx (fun cx m a w R=>hw cx a w ⟨m,R⟩) h
end
theorem kG:∀(B:List (Nat×Blk)) (h:List (Nat×Blk)) (k:Nat),lkB (B.reverse++h) k=(yP B k).or (lkB h k)
 |[],h,k=>rfl
 |(n,b)::r,h,k=>by
  rw[List.reverse_cons,List.append_assoc,kG r]
  simp only[List.singleton_append,lkB,yP]
  cases yP r k with
  |some x=>rfl
  |none=>
   simp only[Option.none_or]
   split<;>rfl
theorem XC:∀(B C:List (Nat×Blk)) (k:Nat),yP (B++C) k=(yP C k).or (yP B k)
 |[],C,k=>by simp[yP]
 |(n,b)::r,C,k=>by
  simp only[List.cons_append,yP]
  rw[XC r C]
  cases yP C k<;>simp
theorem zb2{l l':List (Nat×V)}{h h':List (Nat×Blk)}{gl gl':List (Nat×V)}{E:List Nat}{d:Nat}{u:V}{MB bs:List (Nat×Blk)}(h1:erL E l l')(h2:erH E h h')(h3:erL E gl gl'):
  (mk l h (lk gl)).app ⟨E,some (d,u),MB++bs⟩=mk ((d,u)::l') (bs.reverse++(MB.reverse++h')) (lk gl'):=by
 refine St.ext' (fun t=> ?_) (fun k=> ?_) ?_
 ·rw[Y9]
  simp only
  rw[x6]
  show(if t=d then u else(lk l t).er E)=lk ((d,u)::l') t
  simp only[lk]
  split
  ·rfl
  ·exact(h1.lk t).symm
 ·rw[xY]
  simp only
  rw[x6]
  show(yP (MB++bs) k).or (if E.contains k then none else(lkB h k).map (Blk.er E))=lkB (bs.reverse++(MB.reverse++h')) k
  rw[kG,kG,XC,h2.lk k]
  cases yP bs k<;>simp
 ·rw[zb6,x6]
  show(fun t=>(lk gl t).er E)=lk gl'
  funext t
  exact(h3.lk t).symm
section
variable {P:Program} {nn:Nat} {L:List RO} {Q:St→Prop} {l l':List (Nat×V)} {h h' h2:List (Nat×Blk)} {gl gl':List (Nat×V)} {d f:Nat} {fo:Opd} {fv u:V} {us vs:List V} {args:List Opd} {as:List Ar} {ON ls G E:List Nat} {rs':List D} {MB bs:List (Nat×Blk)}
theorem zfz(hf0:Ev l fo fv)(hcl:Cl fv f us)(hf:FnS P (mk l h (lk gl)) f as rs')(ha:Evs l args vs)(hA:AO h (vs++us) as ON ls)(hM:Zm (vs++us) as=MB)(hE:Zn G MB=E)(hok:Yx ON ls G (MB.map (·.1))=true)(hs:SZ h MB)
  (h1:erL E l l') (h2':erH E h h') (h3:erL E gl gl') (hu:jg (d * 64) rs'=(u,bs)) (hh:bs.reverse++(MB.reverse++h')=h2) (hfr:jJ (mk [] (MB.reverse++h') noG) ((d * 64+63)::bs.map (·.1)))
  (K:RM P nn L (mk ((d,u)::l') h2 (lk gl')) Q):RM P nn (⟨⟨none,.callv d fo args⟩,0,[]⟩::L) (mk l h (lk gl)) Q:=⟨RM0.call (by
 subst hM;subst hE;subst hh
 simp only[Yx,Bool.and_eq_true,decide_eq_true_eq,List.all_eq_true] at hok
 obtain⟨⟨⟨⟨⟨k1,k2⟩,k3⟩,k4⟩,k5⟩,k6⟩:=hok
 rw[hf0.ev,ha.ev]
 refine⟨(f,us),as,ON,ls,G,rs',true,hcl,hA.args,k1,fun n hn=>by simpa using k2 n hn,hf,fun n hn=>by simpa using k3 n hn,fun n hn=>by simpa using k4 n hn,fun n hn=>by have h:=k5 n hn;rw[Nat.blt_eq] at h;exact h,fun n hn=>by have h:=k6 n hn;rw[Nat.blt_eq] at h;exact h,fun p hp=>hs.mem p hp,?_⟩
 rw[hu]
 simp only[if_true]
 refine⟨?_,?_⟩
 ·have e:((mk l h (lk gl)).er (Zn G (Zm (vs++us) as))).blks (Zm (vs++us) as)=mk l' ((Zm (vs++us) as).reverse++h') (lk gl'):=by
   refine St.ext' (fun t=> ?_) (fun k=> ?_) ?_
   ·rw[(JH _ _).1];exact(h1.lk t).symm
   ·rw[YI]
    show _=lkB _ k
    rw[kG,h2'.lk k]
    rfl
   ·rw[(JH _ _).2];funext t;exact(h3.lk t).symm
  rw[e,kE (s:=mk [] ((Zm (vs++us) as).reverse++h') noG) (s':=mk l' ((Zm (vs++us) as).reverse++h') (lk gl')) rfl]
  exact hfr
 ·show RM0 P nn L ((mk l h (lk gl)).app _) Q
  rw[zb2 h1 h2' h3]
  exact K.out)⟩
theorem zeL(hf0:Ev l fo fv)(hcl:Cl fv f us)(hf:FnS P (mk l h (lk gl)) f as rs')(ha:Evs l args vs)(hA:AO h (vs++us) as ON ls)(hM:Zm (vs++us) as=MB)(hE:Zn G MB=E)(hok:Yx ON ls G (MB.map (·.1))=true)(hs:SZ h MB)
  (h1:erL E l l') (h2':erH E h h') (h3:erL E gl gl') (hu:XS rs'=u) (hh:MB.reverse++h'=h2)
  (K:RM P nn L (mk ((d,u)::l') h2 (lk gl')) Q):RM P nn (⟨⟨none,.callv d fo args⟩,0,[]⟩::L) (mk l h (lk gl)) Q:=⟨RM0.call (by
 subst hM;subst hE;subst hh;subst hu
 simp only[Yx,Bool.and_eq_true,decide_eq_true_eq,List.all_eq_true] at hok
 obtain⟨⟨⟨⟨⟨k1,k2⟩,k3⟩,k4⟩,k5⟩,k6⟩:=hok
 rw[hf0.ev,ha.ev]
 refine⟨(f,us),as,ON,ls,G,rs',false,hcl,hA.args,k1,fun n hn=>by simpa using k2 n hn,hf,fun n hn=>by simpa using k3 n hn,fun n hn=>by simpa using k4 n hn,fun n hn=>by have h:=k5 n hn;rw[Nat.blt_eq] at h;exact h,fun n hn=>by have h:=k6 n hn;rw[Nat.blt_eq] at h;exact h,fun p hp=>hs.mem p hp,?_⟩
 simp only[Bool.false_eq_true,if_false]
 show RM0 P nn L ((mk l h (lk gl)).app _) Q
 have:=zb2 (E:=Zn G (Zm (vs++us) as)) (d:=d) (u:=XS rs') (MB:=Zm (vs++us) as) (bs:=[]) h1 h2' h3
 rw[List.append_nil] at this
 rw[this]
 exact K.out)⟩
theorem KL{v0:Value}{x0:D}(hg:lk gl 63= .one (.d (.both v0 x0)))(hf0:Ev l fo fv)(hcl:Cl fv f us)(hf:FnC P v0 x0 f as rs')(ha:Evs l args vs)(hA:AO h (vs++us) as ON ls)(hM:Zm (vs++us) as=MB)(hE:Zn G MB=E)(hok:Yx ON ls G (MB.map (·.1))=true)(hs:SZ h MB)
  (h1:erL E l l') (h2':erH E h h') (h3:erL E gl gl') (hu:jg (d * 64) rs'=(u,bs)) (hh:bs.reverse++(MB.reverse++h')=h2) (hfr:jJ (mk [] (MB.reverse++h') noG) ((d * 64+63)::bs.map (·.1)))
  (K:RM P nn L (mk ((d,u)::l') h2 (lk gl')) Q):RM P nn (⟨⟨none,.callv d fo args⟩,0,[]⟩::L) (mk l h (lk gl)) Q:=
 zfz hf0 hcl (.inr ⟨v0,x0,hg,hf⟩) ha hA hM hE hok hs h1 h2' h3 hu hh hfr K
theorem qQ{v0:Value}{x0:D}(hg:lk gl 63= .one (.d (.both v0 x0)))(hf0:Ev l fo fv)(hcl:Cl fv f us)(hf:FnC P v0 x0 f as rs')(ha:Evs l args vs)(hA:AO h (vs++us) as ON ls)(hM:Zm (vs++us) as=MB)(hE:Zn G MB=E)(hok:Yx ON ls G (MB.map (·.1))=true)(hs:SZ h MB)
  (h1:erL E l l') (h2':erH E h h') (h3:erL E gl gl') (hu:XS rs'=u) (hh:MB.reverse++h'=h2)
  (K:RM P nn L (mk ((d,u)::l') h2 (lk gl')) Q):RM P nn (⟨⟨none,.callv d fo args⟩,0,[]⟩::L) (mk l h (lk gl)) Q:=
 zeL hf0 hcl (.inr ⟨v0,x0,hg,hf⟩) ha hA hM hE hok hs h1 h2' h3 hu hh K
end
def zea:Nat→List V→List (Nat×V)
 |_,[]=>[]
 |k,v::vs=>(k,v)::zea (k+1) vs
theorem zdH:∀(vs:List V) (k t:Nat),lk (zea k vs) t=if k≤t then vAt vs (t - k) else .top
 |[],k,t=>by simp[zea,lk,vAt]
 |v::vs,k,t=>by
  simp only[zea,lk]
  rw[zdH vs (k+1) t]
  by_cases e:t=k
  ·subst e;simp[vAt]
  ·rw[if_neg e]
   by_cases h:k+1≤t
   ·rw[if_pos h,if_pos (by omega)]
    have:t - k=(t - (k+1))+1:=by omega
    rw[this];simp[vAt]
   ·rw[if_neg h,if_neg (by omega)]
theorem zhU:∀(g:List (Nat×V)),lkG g=lk g:=fun g=>by
 funext n
 induction g with
 |nil=>rfl
 |cons p r ih=>obtain⟨k,v⟩:=p;simp only[lkG,lk,ih]
theorem zeR(as:List Ar):zbI as=mk (zea 0 (JU 0 as).1) (JU 0 as).2.reverse (lk (ghL 0 as (JU 0 as).1)):=by
 refine St.ext' (fun t=> ?_) (fun n=> ?_) ?_
 ·show vAt _ t=lk _ t
  rw[zdH];simp
 ·show((⟨fun _=> .top,fun _=>none,fun _=> .top⟩:St).blks (JU 0 as).2).hp n=lkB _ n
  rw[YI]
  have:=kG (JU 0 as).2 [] n
  rw[List.append_nil] at this
  rw[this];rfl
 ·exact zhU _
theorem QC(v0:Value)(x0:D)(as:List Ar):zbi v0 x0 as=mk (zea 0 (JU 0 as).1) (JU 0 as).2.reverse (lk ((63,.one (.d (.both v0 x0)))::ghL 0 as (JU 0 as).1)):=by
 unfold zbi
 rw[zeR]
 rfl
theorem zjY{v0:Value}{x0:D}(t:Nat)(c c':D){l:List (Nat×V)}{h:List (Nat×Blk)}{gl:List (Nat×V)}(hg:lk gl 63= .one (.d (.both v0 x0)))(ht:lk l t= .one (.d c))
  (H:∀(hp:Hp) (u:Value) (bs bx:List Nat),Rd false hp c u bs→Rd false hp (.both v0 x0) v0 bx→Rd false hp c' u bs∨Rd false hp c' u bx∨Rd false hp c' u []):Wk (mk ((t,.one (.d c'))::l) h (lk gl)) (mk l h (lk gl)):=fun cx a w ⟨m,R⟩=>by
 refine⟨m,R.size,R.defers,fun k=> ?_,R.hp,R.own,R.fr,R.gh⟩
 show jn m w.heap (if k=t then _ else lk l k) _
 by_cases e:k=t
 ·subst e
  rw[if_pos rfl]
  have A:=R.sl k
  have e1:(mk l h (lk gl)).sl k= .one (.d c):=ht
  rw[e1] at A
  have G:=R.gh 63
  have e2:(mk l h (lk gl)).gh 63= .one (.d (.both v0 x0)):=hg
  rw[e2] at G
  obtain⟨a1,b1,r1,o1⟩:=A
  obtain⟨_,b2,r2,o2⟩:=G
  have hv:v0=cx.gh 63:=by simp only[Rd] at r2;exact r2.1.1
  rw[←hv] at r2
  rcases H _ _ _ _ r1 r2 with r|r|r
  ·exact⟨a1,b1,r,o1⟩
  ·exact⟨a1,b2,r,o2⟩
  ·exact⟨a1,[],r,by simp⟩
 ·rw[if_neg e]
  exact R.sl k
theorem zdN{v0:Value}{x0:D}(t:Nat){l:List (Nat×V)}{h:List (Nat×Blk)}{gl:List (Nat×V)}(hg:lk gl 63= .one (.d (.both v0 x0)))(ht:lk l t= .one (.d (.pin v0))):Wk (mk ((t,.one (.d (.both v0 x0)))::l) h (lk gl)) (mk l h (lk gl)):=
 zjY t _ _ hg ht fun hp u bs bx r1 r2=>by
  have e:v0=u:=by simp only[Rd] at r1;exact r1.1.1
  subst e
  exact .inr (.inl r2)
def ML(h:List (Nat×Blk))(gl:List (Nat×V)):Nat→List Ar→List Nat→Prop
 |_,[],ns=>ns=[]
 |k,a::as,ns=>match a.md with
  | .m d'=>∃v x y,Ev gl (.t k) v∧ns=x++y∧VO h v d' x∧ML h gl (k+1) as y
  |_=>ML h gl (k+1) as ns
theorem ML.nil{h:List (Nat×Blk)}{gl:List (Nat×V)}{k:Nat}:ML h gl k [] []:=rfl
theorem ML.lent{h:List (Nat×Blk)}{gl:List (Nat×V)}{k:Nat}{d:D}{as:List Ar}{ns:List Nat}(H:ML h gl (k+1) as ns):ML h gl k (⟨d,.b⟩::as) ns:=H
theorem ML.mut{h:List (Nat×Blk)}{gl:List (Nat×V)}{k:Nat}{d d':D}{v:V}{as:List Ar}{x y:List Nat}(h1:Ev gl (.t k) v)(h2:VO h v d' x)(H:ML h gl (k+1) as y):ML h gl k (⟨d,.m d'⟩::as) (x++y):=⟨v,x,y,h1,rfl,h2,H⟩
theorem ML.ok{l:List (Nat×V)}{h:List (Nat×Blk)}{gl:List (Nat×V)}:∀{as:List Ar} {k:Nat} {ns:List Nat},ML h gl k as ns→XI (mk l h (lk gl)) k as ns
 |[],_,_,H=>H
 |a::as,k,ns,H=>by
  unfold ML at H
  unfold XI
  split at H
  ·rename_i d' hd
   obtain⟨v,x,y,h1,h2,h3,h4⟩:=H
   rw[hd]
   refine⟨x,y,h2,?_,ML.ok h4⟩
   have e:(mk l h (lk gl)).gh k=v:=h1.ev (h:=[]) (g:=noG)
   rw[e]
   exact zdS (s:=mk [] h fun _=> .top) (s':=mk l h (lk gl)) rfl h3
  ·rename_i hd
   split
   ·rename_i d' hd';exact absurd hd' (hd d')
   ·exact ML.ok H
theorem y7{l:List (Nat×V)}{h:List (Nat×Blk)}{gl:List (Nat×V)}{as:List Ar}{ts:List J7}{rs:List D}{ns ms:List Nat}(H:RL l h ts rs ns)(M:ML h gl 0 as ms)(hn:(ns++ms).Nodup):zcs as ts rs .ret (mk l h (lk gl)):=⟨ns,ms,H.ret,M.ok,hn⟩
section
variable {P:Program} {l:List (Nat×V)} {h:List (Nat×Blk)} {g:Nat→V} {Q:St→Prop} {rs:List RO} {dep:Nat} {A:List Nat} {d:Nat} {x y z:Opd} {v u:V} {k:IntKind} {a b:Int}
theorem Xq{α:Type}{f:α→List D}{sz bytes n len q:Nat}{zs:List D}{own:Bool}{cp:Option Nat}{yv:V}{xs ys:List α}{l':List (Nat×V)}{h':List (Nat×Blk)}{gl:List (Nat×V)}(hx:Ev l x (.one (.sl n 0 len)))(hy:Ev l y yv)(hb:LB (qY A h) n (.data sz (xs.map f) own cp))(hl:xs.length=len)(he:El (qY A h) sz zs own yv (ys.map f))(hq:(xs++ys).length=q)(hle:q≤2147483648)(hby:bytes≤65536)(hnn:n < 1000000)
  (h1:erL [n] l l') (h2:erH [n] h h') (h3:GK [n] gl) (K:RG P rs (mk ((d,.one (.sl n 0 q))::l') ((n,.data sz ((xs++ys).map f) own none)::h') (lk gl)) Q):RG P (⟨⟨none,.app d sz bytes zs x y⟩,dep,A⟩::rs) (mk l h (lk gl)) Q:=by
 subst hl;subst hq
 have hb:(mk l (qY A h) (lk gl)).hp n=some (.data sz (xs.map f) own cp):=hb
 have hev:AW.ev (mk l (qY A h) (lk gl)) (.app d sz bytes zs x y)=some ⟨[n],some (d,.one (.sl n 0 (xs++ys).length)),[(n,.data sz ((xs++ys).map f) own none)]⟩:=by
  simp only[AW.ev,hx.ev,hy.ev,hb,he.st,Option.bind_some,List.length_map]
  rw[if_pos ⟨trivial,trivial,by unfold big;simp only[List.length_append] at hle;omega,hby,hnn⟩]
  simp
 have hst:(mk l h (lk gl)).app ⟨[n],some (d,.one (.sl n 0 (xs++ys).length)),[(n,.data sz ((xs++ys).map f) own none)]⟩=mk ((d,.one (.sl n 0 (xs++ys).length))::l') ((n,.data sz ((xs++ys).map f) own none)::h') (lk gl):=by
  refine St.ext' (fun t=> ?_) (fun k=> ?_) ?_
  ·show(if t=d then _ else(lk l t).er [n])=_
   unfold mk
   simp only[AW.lk]
   split
   ·rfl
   ·exact(h1.lk t).symm
  ·show(if k=n then _ else(if [n].contains k then none else(lkB h k).map (Blk.er [n])))=_
   unfold mk
   simp only[lkB]
   split
   ·rfl
   ·exact(h2.lk k).symm
  ·show(fun t=>(lk gl t).er [n])=lk gl
   funext t
   exact h3.lk t
 have:opA P ((mk l h (lk gl)).hide A) (.app d sz bytes zs x y) (fun out=>xp P rs ((mk l h (lk gl)).app out) Q):=by
  rw[Jx]
  show xe (AW.ev _ _) _
  rw[hev]
  show xp P rs ((mk l h (lk gl)).app _) Q
  rw[hst]
  exact K.out
 exact⟨this⟩
end
end Go.AW
