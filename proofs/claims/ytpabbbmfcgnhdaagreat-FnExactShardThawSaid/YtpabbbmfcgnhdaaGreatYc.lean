/- The rules by which a call is gone through that is handed blocks, and what is known of arguments that are written. Lemmas. Conditions: none. -/
import Derived.Test.YtpabbbmfcgnhdaaGreatYb
import Derived.Test.YtpabbbmfcgnhdaaGreatXd
set_option linter.unusedVariables false
namespace Go.AW
def GK(ns:List Nat):List (Nat×V)→Prop
 |[]=>True
 |(_,v)::r=>v.er ns=v∧GK ns r
theorem GK.nil{ns:List Nat}:GK ns []:=trivial
theorem GK.cons{ns:List Nat}{k:Nat}{v:V}{r:List (Nat×V)}(h1:v.er ns=v)(h2:GK ns r):GK ns ((k,v)::r):=⟨h1,h2⟩
theorem GK.lk{ns:List Nat}:∀{gl:List (Nat×V)},GK ns gl→∀k,(Go.AW.lk gl k).er ns=Go.AW.lk gl k
 |[],_,k=>rfl
 |(j,v)::r,H,k=>by
  simp only[Go.AW.lk]
  split
  ·exact H.1
  ·exact GK.lk H.2 k
theorem zmo{s t:St}(hs:∀k m h x,jB m h (s.sl k) x→jB m h (t.sl k) x)(hh:t.hp=s.hp)(hg:∀k,t.gh k=s.gh k):Wk t s:=fun cx a w ⟨m,R⟩=>
 ⟨m,R.size,R.defers,fun k=>hs k _ _ _ (R.sl k),fun n=>by rw[hh];exact R.hp n,R.own,R.fr,fun k=>by rw[hg k];exact R.gh k⟩
theorem zM{l l':List (Nat×V)}{h h':List (Nat×Blk)}{gl:List (Nat×V)}(ns:List Nat)(h1:SL l ns l')(h2:BL h' ns h)(h3:BK h ns h')(h4:GK ns gl):Wk (mk l' h' (lk gl)) (mk l h (lk gl)):=by
 refine Wk.trans (s:=(mk l h (lk gl)).er ns) (zmo (fun k=>h1.at k) (funext fun n=> ?_) fun k=>(h4.lk k).symm) (zmE ns _)
 show lkB h' n=if ns.contains n then none else(lkB h n).map (Blk.er ns)
 obtain⟨i1,i2,i3⟩:=h3.at n
 cases hc:ns.contains n with
 |true=>rw[i1 hc];rfl
 |false=>
  simp only[Bool.false_eq_true,if_false]
  cases hk:(h'.map (·.1)).contains n with
  |true=>exact i2 hk
  |false=>rw[i3 hk,h2.out hc hk];rfl
def GR(n n':Nat):List (Nat×V)→Prop
 |[]=>True
 |(_,v)::r=>v.ren n n'=v∧GR n n' r
theorem GR.nil{n n':Nat}:GR n n' []:=trivial
theorem GR.lk{n n':Nat}:∀{gl:List (Nat×V)},GR n n' gl→∀k,(Go.AW.lk gl k).ren n n'=Go.AW.lk gl k
 |[],_,k=>rfl
 |(j,v)::r,H,k=>by
  simp only[Go.AW.lk]
  split
  ·exact H.1
  ·exact GR.lk H.2 k
theorem zCS{l:List (Nat×V)}{h:List (Nat×Blk)}{g g':Nat→V}(H:∀k,g' k=g k):mk l h g'=mk l h g:=by
 have:g'=g:=funext H
 subst this;rfl
theorem zai(n n':Nat){l:List (Nat×V)}{h:List (Nat×Blk)}{gl:List (Nat×V)}(hne:Nat.beq n n'=false)(hfar:Nat.ble n 1999999=true)(hf:NB h n')(hg:GR n n' gl):Wk (mk (zia n n' l) (zhi n n' h) (lk gl)) (mk l h (lk gl)):=by
 have:=ziG (l:=l) (g:=lk gl) n n' hne hfar hf
 rwa [zCS hg.lk] at this
def AO(h:List (Nat×Blk))(vs:List V)(as:List Ar)(ns us:List Nat):Prop:=kN (mk [] h noG) vs as ns us
theorem AO.nil{h:List (Nat×Blk)}:AO h [] [] [] []:=⟨rfl,rfl⟩
theorem AO.lent{h:List (Nat×Blk)}{v:V}{d:D}{vs:List V}{as:List Ar}{ns us ws:List Nat}(h1:VD h v d)(hw:zcG (mk [] h noG) v=ws)(h2:AO h vs as ns us):AO h (v::vs) (⟨d,.b⟩::as) ns (ws++us):=by
 subst hw
 exact⟨us,h1,rfl,h2⟩
theorem AO.give{h:List (Nat×Blk)}{v:V}{d:D}{vs:List V}{as:List Ar}{ns us x:List Nat}(h1:VO h v d x)(h2:AO h vs as ns us):AO h (v::vs) (⟨d,.g⟩::as) (x++ns) us:=⟨x,ns,rfl,h1,h2⟩
theorem AO.mut{h:List (Nat×Blk)}{v:V}{d d':D}{vs:List V}{as:List Ar}{ns us x:List Nat}(h1:VO h v d x)(h2:AO h vs as ns us):AO h (v::vs) (⟨d,.m d'⟩::as) (x++ns) us:=⟨x,ns,rfl,h1,h2⟩
theorem AO.zs{h:List (Nat×Blk)}{sz:Nat}{vs:List V}{as:List Ar}{ns us:List Nat}(h2:AO h vs as ns us):AO h (.one .zs::vs) (⟨.sl sz [],.z⟩::as) ns us:=⟨rfl,⟨sz,rfl⟩,h2⟩
theorem zkD{s s':St}(h:s'.hp=s.hp)(v:V):zcG s' v=zcG s v:=by
 obtain⟨sl,hp,gh⟩:=s
 obtain⟨sl',hp',gh'⟩:=s'
 cases h
 rfl
theorem zbq{s s':St}(h:s'.hp=s.hp):∀{vs:List V} {as:List Ar} {ns us:List Nat},kN s vs as ns us→kN s' vs as ns us
 |[],[],_,_,H=>H
 |v::vs,a::as,ns,us,H=>by
  unfold kN at H ⊢
  split at H
  ·obtain⟨us',h1,h2,h3⟩:=H
   exact⟨us',by rw[zkP h];exact h1,by rw[zkD h];exact h2,zbq h h3⟩
  ·obtain⟨h1,h2,h3⟩:=H
   exact⟨h1,h2,zbq h h3⟩
  ·obtain⟨x,y,h1,h2,h3⟩:=H
   exact⟨x,y,h1,ziV h h2,zbq h h3⟩
theorem AO.args{l:List (Nat×V)}{h:List (Nat×Blk)}{g:Nat→V}{vs:List V}{as:List Ar}{ns us:List Nat}(H:AO h vs as ns us):kN (mk l h g) vs as ns us:=zbq (s:=mk [] h noG) (s':=mk l h g) rfl H
def SZ(h:List (Nat×Blk)):List (Nat×Blk)→Prop
 |[]=>True
 |(n,b)::r=>((∃sz xs0 o cp ys o' cp',lkB h n=some (.data sz xs0 o cp)∧b= .data sz ys o' cp')∨∃sz cs ds,lkB h n=some (.vars sz cs)∧b= .vars sz ds∧ds.length=cs.length)∧SZ h r
theorem SZ.nil{h:List (Nat×Blk)}:SZ h []:=trivial
theorem SZ.cons{h:List (Nat×Blk)}{n sz:Nat}{xs0 ys:List (List D)}{o o':Bool}{cp cp':Option Nat}{r:List (Nat×Blk)}(h1:LB h n (.data sz xs0 o cp))(h3:SZ h r):SZ h ((n,.data sz ys o' cp')::r):=
 ⟨.inl ⟨sz,xs0,o,cp,ys,o',cp',h1,rfl⟩,h3⟩
theorem SZ.mem{l:List (Nat×V)}{h:List (Nat×Blk)}{g:Nat→V}:∀{r:List (Nat×Blk)},SZ h r→∀p∈r,zsu (mk l h g) p
 |[],_,p,hp=>by cases hp
 |(n,b)::r,H,p,hp=>by
  rcases List.mem_cons.1 hp with rfl|hp
  ·exact H.1
  ·exact SZ.mem H.2 p hp
def zdi(ON ls G MN:List Nat):Bool:=
 decide ON.Nodup&&ls.all (fun n=>!ON.contains n)&&ON.all (fun n=>G.contains n||MN.contains n)&&G.all (fun n=>!MN.contains n)&&MN.all (fun n=>Nat.blt n 1000000)&&G.all (fun n=>Nat.blt n 1000000)
theorem zdg{α:Type}{x:Option α}{K K':α→Prop}(h:zcL x K)(hk:∀a,K a→K' a):zcL x K':=by
 cases x with
 |none=>exact h
 |some a=>exact hk a h
theorem zhU{P:Program}{s:St}{d:Nat}{f:V}{vs:List V}{K K':Out→Prop}(h:callB P s d f vs K)(hk:∀a,K a→K' a):callB P s d f vs K':=by
 unfold callB at h ⊢
 refine zdg h fun c h=>zdg h fun ds h=> ?_
 obtain⟨o,md,rs,h1,h2⟩:=h
 refine⟨o,md,rs,h1,?_⟩
 cases md with
 |true=>simp only[if_true] at h2 ⊢;exact⟨h2.1,h2.2.1,h2.2.2.1,hk _ h2.2.2.2⟩
 |false=>simp only[Bool.false_eq_true,if_false] at h2 ⊢;exact⟨h2.1,hk _ h2.2⟩
theorem zhC{P:Program}{s:St}{o:IOp}{K K':Out→Prop}(h:opA P s o K)(hk:∀a,K a→K' a):opA P s o K':=by
 cases o<;>first|exact zhU h hk|(simp only[opA] at h ⊢;exact zdg h hk)
theorem zek{P:Program}{s:St}{g:GOp}{K K':Out→Prop}(h:yi P s g K)(hk:∀a,K a→K' a):yi P s g K':=by
 obtain⟨gg,o⟩:=g
 cases gg with
 |none=>exact zhC h hk
 |some p=>
  obtain⟨t,want⟩:=p
  unfold yi at h ⊢
  simp only at h ⊢
  generalize s.sl t=v at h ⊢
  revert h
  split
  ·intro h
   split at h
   ·rename_i e;rw[if_pos e];exact zhC h hk
   ·rename_i e;rw[if_neg e];exact hk _ h
  ·intro h;exact hk _ h
  ·intro h;exact h.elim
theorem zfO{P:Program}:∀{gs:List GOp} {s:St} {Q Q':St→Prop},zeC P gs s Q→(∀s,Q s→Q' s)→zeC P gs s Q'
 |[],_,_,_,h,hq=>hq _ h
 |_::_,_,_,_,h,hq=>zek h fun _ h=>zfO h hq
structure RM(P:Program)(n:Nat)(L:List RO)(s:St)(Q:St→Prop):Prop where
 out:RM0 P n L s Q
section
variable {P:Program} {nn:Nat} {L:List RO} {s t:St} {Q:St→Prop} {Qx:Exit→St→Prop}
theorem zW(h:RM P nn L s (Qx .normal)):AW P nn (.reg L) Qx s:=⟨fun cx code hh hh' a w hP hn hic ⟨m,R⟩=>by
 obtain⟨id,ops,gs,rfl,hops,hL⟩:=zgP hic
 subst hP;subst hn
 exact wp_region_list (h.out gs hL cx ops ops.toList m a w _ rfl rfl hops R (fun s' hs m' a' w' R'=>⟨s',hs,m',R'⟩))⟩
theorem qc(h:RG P L s Q):RM P nn L s Q:=⟨zw9 fun gs e=>XM (by rw[←e];exact h.out)⟩
theorem zw{r:RO}(h:RG P [r] s (fun s'=>RM P nn L s' Q)):RM P nn (r::L) s Q:=⟨RM0.split 1 fun gs e=>by
 have e:[r]=gs.map fun g=>⟨g,0,[]⟩:=by simpa using e
 have:=XM (P:=P) (gs:=gs) (s:=s) (Q:=fun s'=>RM P nn L s' Q) (by rw[←e];exact h.out)
 refine zfO this fun s' hs=> ?_
 simpa using hs.out⟩
end
theorem zcl:∀(B:List (Nat×Blk)) (h:List (Nat×Blk)) (k:Nat),lkB (B.reverse++h) k=(yZ B k).or (lkB h k)
 |[],h,k=>rfl
 |(n,b)::r,h,k=>by
  rw[List.reverse_cons,List.append_assoc,zcl r]
  simp only[List.singleton_append,lkB,yZ]
  cases yZ r k with
  |some x=>rfl
  |none=>
   simp only[Option.none_or]
   split<;>rfl
theorem zcK:∀(B C:List (Nat×Blk)) (k:Nat),yZ (B++C) k=(yZ C k).or (yZ B k)
 |[],C,k=>by simp[yZ]
 |(n,b)::r,C,k=>by
  simp only[List.cons_append,yZ]
  rw[zcK r C]
  cases yZ C k<;>simp
theorem zkO{l l':List (Nat×V)}{h h':List (Nat×Blk)}{gl gl':List (Nat×V)}{E:List Nat}{d:Nat}{u:V}{MB bs:List (Nat×Blk)}(h1:erL E l l')(h2:erH E h h')(h3:erL E gl gl'):
  (mk l h (lk gl)).app ⟨E,some (d,u),MB++bs⟩=mk ((d,u)::l') (bs.reverse++(MB.reverse++h')) (lk gl'):=by
 refine St.ext' (fun t=> ?_) (fun k=> ?_) ?_
 ·rw[KB]
  simp only
  rw[za9]
  show(if t=d then u else(lk l t).er E)=lk ((d,u)::l') t
  simp only[lk]
  split
  ·rfl
  ·exact(h1.lk t).symm
 ·rw[zaV]
  simp only
  rw[za9]
  show(yZ (MB++bs) k).or (if E.contains k then none else(lkB h k).map (Blk.er E))=lkB (bs.reverse++(MB.reverse++h')) k
  rw[zcl,zcl,zcK,h2.lk k]
  cases yZ bs k<;>simp
 ·rw[zgC,za9]
  show(fun t=>(lk gl t).er E)=lk gl'
  funext t
  exact(h3.lk t).symm
section
variable {P:Program} {nn:Nat} {L:List RO} {Q:St→Prop} {l l':List (Nat×V)} {h h' h2:List (Nat×Blk)} {gl gl':List (Nat×V)} {d f:Nat} {fo:Opd} {fv u:V} {us vs:List V} {args:List Opd} {as:List Ar} {ON ls G E:List Nat} {rs':List D} {MB bs:List (Nat×Blk)}
theorem zlY(hf0:Ev l fo fv)(hcl:Cl fv f us)(hf:FnS P (mk l h (lk gl)) f as rs')(ha:Evs l args vs)(hA:AO h (vs++us) as ON ls)(hM:J9 (vs++us) as=MB)(hE:Qq G MB=E)(hok:zdi ON ls G (MB.map (·.1))=true)(hs:SZ h MB)
  (h1:erL E l l') (h2':erH E h h') (h3:erL E gl gl') (hu:jr (d * 64) rs'=(u,bs)) (hh:bs.reverse++(MB.reverse++h')=h2) (hfr:jZ (mk [] (MB.reverse++h') noG) ((d * 64+63)::bs.map (·.1)))
  (K:RM P nn L (mk ((d,u)::l') h2 (lk gl')) Q):RM P nn (⟨⟨none,.callv d fo args⟩,0,[]⟩::L) (mk l h (lk gl)) Q:=⟨RM0.call (by
 subst hM;subst hE;subst hh
 simp only[zdi,Bool.and_eq_true,decide_eq_true_eq,List.all_eq_true] at hok
 obtain⟨⟨⟨⟨⟨k1,k2⟩,k3⟩,k4⟩,k5⟩,k6⟩:=hok
 rw[hf0.ev,ha.ev]
 refine⟨(f,us),as,ON,ls,G,rs',true,hcl,hA.args,k1,fun n hn=>by simpa using k2 n hn,hf,fun n hn=>by simpa using k3 n hn,fun n hn=>by simpa using k4 n hn,fun n hn=>by have h:=k5 n hn;rw[Nat.blt_eq] at h;exact h,fun n hn=>by have h:=k6 n hn;rw[Nat.blt_eq] at h;exact h,fun p hp=>hs.mem p hp,?_⟩
 rw[hu]
 simp only[if_true]
 refine⟨?_,?_⟩
 ·have e:((mk l h (lk gl)).er (Qq G (J9 (vs++us) as))).blks (J9 (vs++us) as)=mk l' ((J9 (vs++us) as).reverse++h') (lk gl'):=by
   refine St.ext' (fun t=> ?_) (fun k=> ?_) ?_
   ·rw[(XT _ _).1];exact(h1.lk t).symm
   ·rw[K6]
    show _=lkB _ k
    rw[zcl,h2'.lk k]
    rfl
   ·rw[(XT _ _).2];funext t;exact(h3.lk t).symm
  rw[e,zdl (s:=mk [] ((J9 (vs++us) as).reverse++h') noG) (s':=mk l' ((J9 (vs++us) as).reverse++h') (lk gl')) rfl]
  exact hfr
 ·show RM0 P nn L ((mk l h (lk gl)).app _) Q
  rw[zkO h1 h2' h3]
  exact K.out)⟩
theorem zkv(hf0:Ev l fo fv)(hcl:Cl fv f us)(hf:FnS P (mk l h (lk gl)) f as rs')(ha:Evs l args vs)(hA:AO h (vs++us) as ON ls)(hM:J9 (vs++us) as=MB)(hE:Qq G MB=E)(hok:zdi ON ls G (MB.map (·.1))=true)(hs:SZ h MB)
  (h1:erL E l l') (h2':erH E h h') (h3:erL E gl gl') (hu:zd4 rs'=u) (hh:MB.reverse++h'=h2)
  (K:RM P nn L (mk ((d,u)::l') h2 (lk gl')) Q):RM P nn (⟨⟨none,.callv d fo args⟩,0,[]⟩::L) (mk l h (lk gl)) Q:=⟨RM0.call (by
 subst hM;subst hE;subst hh;subst hu
 simp only[zdi,Bool.and_eq_true,decide_eq_true_eq,List.all_eq_true] at hok
 obtain⟨⟨⟨⟨⟨k1,k2⟩,k3⟩,k4⟩,k5⟩,k6⟩:=hok
 rw[hf0.ev,ha.ev]
 refine⟨(f,us),as,ON,ls,G,rs',false,hcl,hA.args,k1,fun n hn=>by simpa using k2 n hn,hf,fun n hn=>by simpa using k3 n hn,fun n hn=>by simpa using k4 n hn,fun n hn=>by have h:=k5 n hn;rw[Nat.blt_eq] at h;exact h,fun n hn=>by have h:=k6 n hn;rw[Nat.blt_eq] at h;exact h,fun p hp=>hs.mem p hp,?_⟩
 simp only[Bool.false_eq_true,if_false]
 show RM0 P nn L ((mk l h (lk gl)).app _) Q
 have:=zkO (E:=Qq G (J9 (vs++us) as)) (d:=d) (u:=zd4 rs') (MB:=J9 (vs++us) as) (bs:=[]) h1 h2' h3
 rw[List.append_nil] at this
 rw[this]
 exact K.out)⟩
theorem zuy(hf0:Ev l fo fv)(hcl:Cl fv f us)(hf:Fn P f as true rs')(ha:Evs l args vs)(hA:AO h (vs++us) as ON ls)(hM:J9 (vs++us) as=MB)(hE:Qq G MB=E)(hok:zdi ON ls G (MB.map (·.1))=true)(hs:SZ h MB)
  (h1:erL E l l') (h2':erH E h h') (h3:erL E gl gl') (hu:jr (d * 64) rs'=(u,bs)) (hh:bs.reverse++(MB.reverse++h')=h2) (hfr:jZ (mk [] (MB.reverse++h') noG) ((d * 64+63)::bs.map (·.1)))
  (K:RM P nn L (mk ((d,u)::l') h2 (lk gl')) Q):RM P nn (⟨⟨none,.callv d fo args⟩,0,[]⟩::L) (mk l h (lk gl)) Q:=
 zlY hf0 hcl (.inl hf) ha hA hM hE hok hs h1 h2' h3 hu hh hfr K
theorem xW(hf0:Ev l fo fv)(hcl:Cl fv f us)(hf:Fn P f as true rs')(ha:Evs l args vs)(hA:AO h (vs++us) as ON ls)(hM:J9 (vs++us) as=MB)(hE:Qq G MB=E)(hok:zdi ON ls G (MB.map (·.1))=true)(hs:SZ h MB)
  (h1:erL E l l') (h2':erH E h h') (h3:erL E gl gl') (hu:zd4 rs'=u) (hh:MB.reverse++h'=h2)
  (K:RM P nn L (mk ((d,u)::l') h2 (lk gl')) Q):RM P nn (⟨⟨none,.callv d fo args⟩,0,[]⟩::L) (mk l h (lk gl)) Q:=
 zkv hf0 hcl (.inl hf) ha hA hM hE hok hs h1 h2' h3 hu hh K
end
def zkg:Nat→List V→List (Nat×V)
 |_,[]=>[]
 |k,v::vs=>(k,v)::zkg (k+1) vs
theorem ziB:∀(vs:List V) (k t:Nat),lk (zkg k vs) t=if k≤t then vAt vs (t - k) else .top
 |[],k,t=>by simp[zkg,lk,vAt]
 |v::vs,k,t=>by
  simp only[zkg,lk]
  rw[ziB vs (k+1) t]
  by_cases e:t=k
  ·subst e;simp[vAt]
  ·rw[if_neg e]
   by_cases h:k+1≤t
   ·rw[if_pos h,if_pos (by omega)]
    have:t - k=(t - (k+1))+1:=by omega
    rw[this];simp[vAt]
   ·rw[if_neg h,if_neg (by omega)]
theorem zq3:∀(g:List (Nat×V)),lkG g=lk g:=fun g=>by
 funext n
 induction g with
 |nil=>rfl
 |cons p r ih=>obtain⟨k,v⟩:=p;simp only[lkG,lk,ih]
theorem Kf(as:List Ar):zhl as=mk (zkg 0 (X7 0 as).1) (X7 0 as).2.reverse (lk (ghL 0 as (X7 0 as).1)):=by
 refine St.ext' (fun t=> ?_) (fun n=> ?_) ?_
 ·show vAt _ t=lk _ t
  rw[ziB];simp
 ·show((⟨fun _=> .top,fun _=>none,fun _=> .top⟩:St).blks (X7 0 as).2).hp n=lkB _ n
  rw[K6]
  have:=zcl (X7 0 as).2 [] n
  rw[List.append_nil] at this
  rw[this];rfl
 ·exact zq3 _
def ML(h:List (Nat×Blk))(gl:List (Nat×V)):Nat→List Ar→List Nat→Prop
 |_,[],ns=>ns=[]
 |k,a::as,ns=>match a.md with
  | .m d'=>∃v x y,Ev gl (.t k) v∧ns=x++y∧VO h v d' x∧ML h gl (k+1) as y
  |_=>ML h gl (k+1) as ns
theorem ML.nil{h:List (Nat×Blk)}{gl:List (Nat×V)}{k:Nat}:ML h gl k [] []:=rfl
theorem ML.lent{h:List (Nat×Blk)}{gl:List (Nat×V)}{k:Nat}{d:D}{as:List Ar}{ns:List Nat}(H:ML h gl (k+1) as ns):ML h gl k (⟨d,.b⟩::as) ns:=H
theorem ML.mut{h:List (Nat×Blk)}{gl:List (Nat×V)}{k:Nat}{d d':D}{v:V}{as:List Ar}{x y:List Nat}(h1:Ev gl (.t k) v)(h2:VO h v d' x)(H:ML h gl (k+1) as y):ML h gl k (⟨d,.m d'⟩::as) (x++y):=⟨v,x,y,h1,rfl,h2,H⟩
theorem ML.ok{l:List (Nat×V)}{h:List (Nat×Blk)}{gl:List (Nat×V)}:∀{as:List Ar} {k:Nat} {ns:List Nat},ML h gl k as ns→zdJ (mk l h (lk gl)) k as ns
 |[],_,_,H=>H
 |a::as,k,ns,H=>by
  unfold ML at H
  unfold zdJ
  split at H
  ·rename_i d' hd
   obtain⟨v,x,y,h1,h2,h3,h4⟩:=H
   rw[hd]
   refine⟨x,y,h2,?_,ML.ok h4⟩
   have e:(mk l h (lk gl)).gh k=v:=h1.ev (h:=[]) (g:=noG)
   rw[e]
   exact ziV (s:=mk [] h fun _=> .top) (s':=mk l h (lk gl)) rfl h3
  ·rename_i hd
   split
   ·rename_i d' hd';exact absurd hd' (hd d')
   ·exact ML.ok H
theorem zbY{l:List (Nat×V)}{h:List (Nat×Blk)}{gl:List (Nat×V)}{as:List Ar}{ts:List XS}{rs:List D}{ns ms:List Nat}(H:RL l h ts rs ns)(M:ML h gl 0 as ms)(hn:(ns++ms).Nodup):ziL as ts rs .ret (mk l h (lk gl)):=⟨ns,ms,H.ret,M.ok,hn⟩
section
variable {P:Program} {l:List (Nat×V)} {h:List (Nat×Blk)} {g:Nat→V} {Q:St→Prop} {rs:List RO} {dep:Nat} {A:List Nat} {d:Nat} {x y z:Opd} {v u:V} {k:IntKind} {a b:Int}
theorem zij{α:Type}{f:α→List D}{sz bytes n len q:Nat}{zs:List D}{own:Bool}{cp:Option Nat}{yv:V}{xs ys:List α}{l':List (Nat×V)}{h':List (Nat×Blk)}{gl:List (Nat×V)}(hx:Ev l x (.one (.sl n 0 len)))(hy:Ev l y yv)(hb:LB (jn A h) n (.data sz (xs.map f) own cp))(hl:xs.length=len)(he:El (jn A h) sz zs own yv (ys.map f))(hq:(xs++ys).length=q)(hle:q≤2147483648)(hby:bytes≤65536)(hnn:n < 1000000)
  (h1:erL [n] l l') (h2:erH [n] h h') (h3:GK [n] gl) (K:RG P rs (mk ((d,.one (.sl n 0 q))::l') ((n,.data sz ((xs++ys).map f) own none)::h') (lk gl)) Q):RG P (⟨⟨none,.app d sz bytes zs x y⟩,dep,A⟩::rs) (mk l h (lk gl)) Q:=by
 subst hl;subst hq
 have hb:(mk l (jn A h) (lk gl)).hp n=some (.data sz (xs.map f) own cp):=hb
 have hev:AW.ev (mk l (jn A h) (lk gl)) (.app d sz bytes zs x y)=some ⟨[n],some (d,.one (.sl n 0 (xs++ys).length)),[(n,.data sz ((xs++ys).map f) own none)]⟩:=by
  simp only[AW.ev,hx.ev,hy.ev,hb,he.st,Option.bind_some,List.length_map]
  rw[if_pos ⟨trivial,trivial,by unfold big;simp only[List.length_append] at hle;omega,hby,hnn⟩]
  simp
 have hst:(mk l h (lk gl)).app ⟨[n],some (d,.one (.sl n 0 (xs++ys).length)),[(n,.data sz ((xs++ys).map f) own none)]⟩=mk ((d,.one (.sl n 0 (xs++ys).length))::l') ((n,.data sz ((xs++ys).map f) own none)::h') (lk gl):=by
  refine St.ext' (fun t=> ?_) (fun k=> ?_) ?_
  ·show(if t=d then _ else(lk l t).er [n])=_
   unfold mk
   simp only[AW.lk]
   split
   ·rfl
   ·exact(h1.lk t).symm
  ·show(if k=n then _ else(if [n].contains k then none else(lkB h k).map (Blk.er [n])))=_
   unfold mk
   simp only[lkB]
   split
   ·rfl
   ·exact(h2.lk k).symm
  ·show(fun t=>(lk gl t).er [n])=lk gl
   funext t
   exact h3.lk t
 have:opA P ((mk l h (lk gl)).hide A) (.app d sz bytes zs x y) (fun out=>KX P rs ((mk l h (lk gl)).app out) Q):=by
  rw[xL]
  show zcL (AW.ev _ _) _
  rw[hev]
  show KX P rs ((mk l h (lk gl)).app _) Q
  rw[hst]
  exact K.out
 exact⟨this⟩
end
end Go.AW
