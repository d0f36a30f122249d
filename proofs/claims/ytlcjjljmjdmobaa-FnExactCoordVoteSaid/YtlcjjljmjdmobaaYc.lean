/- The rules by which a call is gone through that is handed blocks, and what is known of arguments that are written. Lemmas. Conditions: none. -/
import Derived.Test.YtlcjjljmjdmobaaYb
import Derived.Test.YtlcjjljmjdmobaaXd
set_option linter.unusedVariables false
namespace Go.AW
def GK(ns:List Nat):List (Nat×V)→Prop
 |[]=>True
 |(_,v)::r=>v.er ns=v∧GK ns r
theorem GK.nil{ns:List Nat}:GK ns []:=trivial
theorem GK.cons{ns:List Nat}{k:Nat}{v:V}{r:List (Nat×V)}(h1:v.er ns=v)(h2:GK ns r):GK ns ((k,v)::r):=⟨h1,h2⟩
theorem GK.lk{ns:List Nat}:∀{gl:List (Nat×V)},GK ns gl→∀k,(Go.AW.lk gl k).er ns=Go.AW.lk gl k
 |[],_,k=>rfl
 |(j,v)::r,H,k=>by
  simp only[Go.AW.lk]
  split
  ·exact H.1
  ·exact GK.lk H.2 k
theorem zfP{s t:St}(hs:∀k m h x,qK m h (s.sl k) x→qK m h (t.sl k) x)(hh:t.hp=s.hp)(hg:∀k,t.gh k=s.gh k):Wk t s:=fun cx a w ⟨m,R⟩=>
 ⟨m,R.size,R.defers,fun k=>hs k _ _ _ (R.sl k),fun n=>by rw[hh];exact R.hp n,R.own,R.fr,fun k=>by rw[hg k];exact R.gh k⟩
theorem zt{l l':List (Nat×V)}{h h':List (Nat×Blk)}{gl:List (Nat×V)}(ns:List Nat)(h1:SL l ns l')(h2:BL h' ns h)(h3:BK h ns h')(h4:GK ns gl):Wk (mk l' h' (lk gl)) (mk l h (lk gl)):=by
 refine Wk.trans (s:=(mk l h (lk gl)).er ns) (zfP (fun k=>h1.at k) (funext fun n=> ?_) fun k=>(h4.lk k).symm) (zgr ns _)
 show lkB h' n=if ns.contains n then none else(lkB h n).map (Blk.er ns)
 obtain⟨i1,i2,i3⟩:=h3.at n
 cases hc:ns.contains n with
 |true=>rw[i1 hc];rfl
 |false=>
  simp only[Bool.false_eq_true,if_false]
  cases hk:(h'.map (·.1)).contains n with
  |true=>exact i2 hk
  |false=>rw[i3 hk,h2.out hc hk];rfl
def GR(n n':Nat):List (Nat×V)→Prop
 |[]=>True
 |(_,v)::r=>v.ren n n'=v∧GR n n' r
theorem GR.nil{n n':Nat}:GR n n' []:=trivial
theorem GR.cons{n n' k:Nat}{v:V}{r:List (Nat×V)}(h1:v.ren n n'=v)(h2:GR n n' r):GR n n' ((k,v)::r):=⟨h1,h2⟩
theorem GR.lk{n n':Nat}:∀{gl:List (Nat×V)},GR n n' gl→∀k,(Go.AW.lk gl k).ren n n'=Go.AW.lk gl k
 |[],_,k=>rfl
 |(j,v)::r,H,k=>by
  simp only[Go.AW.lk]
  split
  ·exact H.1
  ·exact GR.lk H.2 k
theorem zpm{l:List (Nat×V)}{h:List (Nat×Blk)}{g g':Nat→V}(H:∀k,g' k=g k):mk l h g'=mk l h g:=by
 have:g'=g:=funext H
 subst this;rfl
theorem yh(n n':Nat){l:List (Nat×V)}{h:List (Nat×Blk)}{gl:List (Nat×V)}(hne:Nat.beq n n'=false)(hfar:Nat.ble n 1999999=true)(hf:NB h n')(hg:GR n n' gl):Wk (mk (zdt n n' l) (zbW n n' h) (lk gl)) (mk l h (lk gl)):=by
 have:=zdB (l:=l) (g:=lk gl) n n' hne hfar hf
 rwa [zpm hg.lk] at this
def AO(h:List (Nat×Blk))(vs:List V)(as:List Ar)(ns us:List Nat):Prop:=JG (mk [] h noG) vs as ns us
theorem AO.nil{h:List (Nat×Blk)}:AO h [] [] [] []:=⟨rfl,rfl⟩
theorem AO.lent{h:List (Nat×Blk)}{v:V}{d:D}{vs:List V}{as:List Ar}{ns us ws:List Nat}(h1:VD h v d)(hw:xO (mk [] h noG) v=ws)(h2:AO h vs as ns us):AO h (v::vs) (⟨d,.b⟩::as) ns (ws++us):=by
 subst hw
 exact⟨us,h1,rfl,h2⟩
theorem AO.mut{h:List (Nat×Blk)}{v:V}{d d':D}{vs:List V}{as:List Ar}{ns us x:List Nat}(h1:VO h v d x)(h2:AO h vs as ns us):AO h (v::vs) (⟨d,.m d'⟩::as) (x++ns) us:=⟨x,ns,rfl,h1,h2⟩
theorem ze8{s s':St}(h:s'.hp=s.hp)(v:V):xO s' v=xO s v:=by
 obtain⟨sl,hp,gh⟩:=s
 obtain⟨sl',hp',gh'⟩:=s'
 cases h
 rfl
theorem ka{s s':St}(h:s'.hp=s.hp):∀{vs:List V} {as:List Ar} {ns us:List Nat},JG s vs as ns us→JG s' vs as ns us
 |[],[],_,_,H=>H
 |v::vs,a::as,ns,us,H=>by
  unfold JG at H ⊢
  split at H
  ·obtain⟨us',h1,h2,h3⟩:=H
   exact⟨us',by rw[ze0 h];exact h1,by rw[ze8 h];exact h2,ka h h3⟩
  ·obtain⟨h1,h2,h3⟩:=H
   exact⟨h1,h2,ka h h3⟩
  ·obtain⟨x,y,h1,h2,h3⟩:=H
   exact⟨x,y,h1,zdH h h2,ka h h3⟩
theorem AO.args{l:List (Nat×V)}{h:List (Nat×Blk)}{g:Nat→V}{vs:List V}{as:List Ar}{ns us:List Nat}(H:AO h vs as ns us):JG (mk l h g) vs as ns us:=ka (s:=mk [] h noG) (s':=mk l h g) rfl H
def SZ(h:List (Nat×Blk)):List (Nat×Blk)→Prop
 |[]=>True
 |(n,b)::r=>((∃sz xs0 o cp ys o' cp',lkB h n=some (.data sz xs0 o cp)∧b= .data sz ys o' cp')∨∃sz cs ds,lkB h n=some (.vars sz cs)∧b= .vars sz ds∧ds.length=cs.length)∧SZ h r
theorem SZ.nil{h:List (Nat×Blk)}:SZ h []:=trivial
theorem SZ.cons{h:List (Nat×Blk)}{n sz:Nat}{xs0 ys:List (List D)}{o o':Bool}{cp cp':Option Nat}{r:List (Nat×Blk)}(h1:LB h n (.data sz xs0 o cp))(h3:SZ h r):SZ h ((n,.data sz ys o' cp')::r):=
 ⟨.inl ⟨sz,xs0,o,cp,ys,o',cp',h1,rfl⟩,h3⟩
theorem SZ.mem{l:List (Nat×V)}{h:List (Nat×Blk)}{g:Nat→V}:∀{r:List (Nat×Blk)},SZ h r→∀p∈r,zhj (mk l h g) p
 |[],_,p,hp=>by cases hp
 |(n,b)::r,H,p,hp=>by
  rcases List.mem_cons.1 hp with rfl|hp
  ·exact H.1
  ·exact SZ.mem H.2 p hp
def zal(ON ls G MN:List Nat):Bool:=
 decide ON.Nodup&&ls.all (fun n=>!ON.contains n)&&ON.all (fun n=>G.contains n||MN.contains n)&&G.all (fun n=>!MN.contains n)&&MN.all (fun n=>Nat.blt n 1000000)&&G.all (fun n=>Nat.blt n 1000000)
theorem Xo{α:Type}{x:Option α}{K K':α→Prop}(h:XD x K)(hk:∀a,K a→K' a):XD x K':=by
 cases x with
 |none=>exact h
 |some a=>exact hk a h
theorem zcK{P:Program}{s:St}{d:Nat}{f:V}{vs:List V}{K K':Out→Prop}(h:callB P s d f vs K)(hk:∀a,K a→K' a):callB P s d f vs K':=by
 unfold callB at h ⊢
 refine Xo h fun c h=>Xo h fun ds h=> ?_
 obtain⟨o,md,rs,h1,h2⟩:=h
 refine⟨o,md,rs,h1,?_⟩
 cases md with
 |true=>simp only[if_true] at h2 ⊢;exact⟨h2.1,h2.2.1,h2.2.2.1,hk _ h2.2.2.2⟩
 |false=>simp only[Bool.false_eq_true,if_false] at h2 ⊢;exact⟨h2.1,hk _ h2.2⟩
theorem zcp{P:Program}{s:St}{o:IOp}{K K':Out→Prop}(h:opA P s o K)(hk:∀a,K a→K' a):opA P s o K':=by
 cases o<;>first|exact zcK h hk|(simp only[opA] at h ⊢;exact Xo h hk)
theorem KU{P:Program}{s:St}{g:GOp}{K K':Out→Prop}(h:jl P s g K)(hk:∀a,K a→K' a):jl P s g K':=by
 obtain⟨gg,o⟩:=g
 cases gg with
 |none=>exact zcp h hk
 |some p=>
  obtain⟨t,want⟩:=p
  unfold jl at h ⊢
  simp only at h ⊢
  generalize s.sl t=v at h ⊢
  revert h
  split
  ·intro h
   split at h
   ·rename_i e;rw[if_pos e];exact zcp h hk
   ·rename_i e;rw[if_neg e];exact hk _ h
  ·intro h;exact hk _ h
  ·intro h;exact h.elim
theorem zbp{P:Program}:∀{gs:List GOp} {s:St} {Q Q':St→Prop},KR P gs s Q→(∀s,Q s→Q' s)→KR P gs s Q'
 |[],_,_,_,h,hq=>hq _ h
 |_::_,_,_,_,h,hq=>KU h fun _ h=>zbp h hq
structure RM(P:Program)(n:Nat)(L:List RO)(s:St)(Q:St→Prop):Prop where
 out:RM0 P n L s Q
section
variable {P:Program} {nn:Nat} {L:List RO} {s t:St} {Q:St→Prop} {Qx:Exit→St→Prop}
theorem zK(h:RM P nn L s (Qx .normal)):AW P nn (.reg L) Qx s:=⟨fun cx code hh hh' a w hP hn hic ⟨m,R⟩=>by
 obtain⟨id,ops,gs,rfl,hops,hL⟩:=zcB hic
 subst hP;subst hn
 exact wp_region_list (h.out gs hL cx ops ops.toList m a w _ rfl rfl hops R (fun s' hs m' a' w' R'=>⟨s',hs,m',R'⟩))⟩
theorem zR(h:RG P L s Q):RM P nn L s Q:=⟨zl8 fun gs e=>J7 (by rw[←e];exact h.out)⟩
theorem zh{r:RO}(h:RG P [r] s (fun s'=>RM P nn L s' Q)):RM P nn (r::L) s Q:=⟨RM0.split 1 fun gs e=>by
 have e:[r]=gs.map fun g=>⟨g,0,[]⟩:=by simpa using e
 have:=J7 (P:=P) (gs:=gs) (s:=s) (Q:=fun s'=>RM P nn L s' Q) (by rw[←e];exact h.out)
 refine zbp this fun s' hs=> ?_
 simpa using hs.out⟩
theorem zr6(hw:∀(cx:Cx) (m:M) (a:Act) (w:World),zy cx m s a w→∃m',zy cx m' t a w)(h:RM P nn L t Q):RM P nn L s Q:=⟨fun gs hL cx ops l m a w Qx hP hn hm R hQ=>by
 obtain⟨m',R'⟩:=hw cx m a w R
 exact h.out gs hL cx ops l m' a w Qx hP hn hm R' hQ⟩
theorem JT(hw:Wk t s)(h:RM P nn L t Q):RM P nn L s Q:=zr6 (fun cx m a w R=>hw cx a w ⟨m,R⟩) h
end
theorem Xe:∀(B:List (Nat×Blk)) (h:List (Nat×Blk)) (k:Nat),lkB (B.reverse++h) k=(jJ B k).or (lkB h k)
 |[],h,k=>rfl
 |(n,b)::r,h,k=>by
  rw[List.reverse_cons,List.append_assoc,Xe r]
  simp only[List.singleton_append,lkB,jJ]
  cases jJ r k with
  |some x=>rfl
  |none=>
   simp only[Option.none_or]
   split<;>rfl
theorem kP:∀(B C:List (Nat×Blk)) (k:Nat),jJ (B++C) k=(jJ C k).or (jJ B k)
 |[],C,k=>by simp[jJ]
 |(n,b)::r,C,k=>by
  simp only[List.cons_append,jJ]
  rw[kP r C]
  cases jJ C k<;>simp
theorem zeL{l l':List (Nat×V)}{h h':List (Nat×Blk)}{gl gl':List (Nat×V)}{E:List Nat}{d:Nat}{u:V}{MB bs:List (Nat×Blk)}(h1:erL E l l')(h2:erH E h h')(h3:erL E gl gl'):
  (mk l h (lk gl)).app ⟨E,some (d,u),MB++bs⟩=mk ((d,u)::l') (bs.reverse++(MB.reverse++h')) (lk gl'):=by
 refine St.ext' (fun t=> ?_) (fun k=> ?_) ?_
 ·rw[YF]
  simp only
  rw[xW]
  show(if t=d then u else(lk l t).er E)=lk ((d,u)::l') t
  simp only[lk]
  split
  ·rfl
  ·exact(h1.lk t).symm
 ·rw[xJ]
  simp only
  rw[xW]
  show(jJ (MB++bs) k).or (if E.contains k then none else(lkB h k).map (Blk.er E))=lkB (bs.reverse++(MB.reverse++h')) k
  rw[Xe,Xe,kP,h2.lk k]
  cases jJ bs k<;>simp
 ·rw[zbG,xW]
  show(fun t=>(lk gl t).er E)=lk gl'
  funext t
  exact(h3.lk t).symm
section
variable {P:Program} {nn:Nat} {L:List RO} {Q:St→Prop} {l l':List (Nat×V)} {h h' h2:List (Nat×Blk)} {gl gl':List (Nat×V)} {d f:Nat} {fo:Opd} {fv u:V} {us vs:List V} {args:List Opd} {as:List Ar} {ON ls G E:List Nat} {rs':List D} {MB bs:List (Nat×Blk)}
theorem zr0(hf0:Ev l fo fv)(hcl:Cl fv f us)(hf:FnS P (mk l h (lk gl)) f as rs')(ha:Evs l args vs)(hA:AO h (vs++us) as ON ls)(hM:ZV (vs++us) as=MB)(hE:yF G MB=E)(hok:zal ON ls G (MB.map (·.1))=true)(hs:SZ h MB)
  (h1:erL E l l') (h2':erH E h h') (h3:erL E gl gl') (hu:jR (d * 64) rs'=(u,bs)) (hh:bs.reverse++(MB.reverse++h')=h2) (hfr:jd (mk [] (MB.reverse++h') noG) ((d * 64+63)::bs.map (·.1)))
  (K:RM P nn L (mk ((d,u)::l') h2 (lk gl')) Q):RM P nn (⟨⟨none,.callv d fo args⟩,0,[]⟩::L) (mk l h (lk gl)) Q:=⟨RM0.call (by
 subst hM;subst hE;subst hh
 simp only[zal,Bool.and_eq_true,decide_eq_true_eq,List.all_eq_true] at hok
 obtain⟨⟨⟨⟨⟨k1,k2⟩,k3⟩,k4⟩,k5⟩,k6⟩:=hok
 rw[hf0.ev,ha.ev]
 refine⟨(f,us),as,ON,ls,G,rs',true,hcl,hA.args,k1,fun n hn=>by simpa using k2 n hn,hf,fun n hn=>by simpa using k3 n hn,fun n hn=>by simpa using k4 n hn,fun n hn=>by have h:=k5 n hn;rw[Nat.blt_eq] at h;exact h,fun n hn=>by have h:=k6 n hn;rw[Nat.blt_eq] at h;exact h,fun p hp=>hs.mem p hp,?_⟩
 rw[hu]
 simp only[if_true]
 refine⟨?_,?_⟩
 ·have e:((mk l h (lk gl)).er (yF G (ZV (vs++us) as))).blks (ZV (vs++us) as)=mk l' ((ZV (vs++us) as).reverse++h') (lk gl'):=by
   refine St.ext' (fun t=> ?_) (fun k=> ?_) ?_
   ·rw[(J9 _ _).1];exact(h1.lk t).symm
   ·rw[YN]
    show _=lkB _ k
    rw[Xe,h2'.lk k]
    rfl
   ·rw[(J9 _ _).2];funext t;exact(h3.lk t).symm
  rw[e,Xn (s:=mk [] ((ZV (vs++us) as).reverse++h') noG) (s':=mk l' ((ZV (vs++us) as).reverse++h') (lk gl')) rfl]
  exact hfr
 ·show RM0 P nn L ((mk l h (lk gl)).app _) Q
  rw[zeL h1 h2' h3]
  exact K.out)⟩
theorem zff(hf0:Ev l fo fv)(hcl:Cl fv f us)(hf:FnS P (mk l h (lk gl)) f as rs')(ha:Evs l args vs)(hA:AO h (vs++us) as ON ls)(hM:ZV (vs++us) as=MB)(hE:yF G MB=E)(hok:zal ON ls G (MB.map (·.1))=true)(hs:SZ h MB)
  (h1:erL E l l') (h2':erH E h h') (h3:erL E gl gl') (hu:X6 rs'=u) (hh:MB.reverse++h'=h2)
  (K:RM P nn L (mk ((d,u)::l') h2 (lk gl')) Q):RM P nn (⟨⟨none,.callv d fo args⟩,0,[]⟩::L) (mk l h (lk gl)) Q:=⟨RM0.call (by
 subst hM;subst hE;subst hh;subst hu
 simp only[zal,Bool.and_eq_true,decide_eq_true_eq,List.all_eq_true] at hok
 obtain⟨⟨⟨⟨⟨k1,k2⟩,k3⟩,k4⟩,k5⟩,k6⟩:=hok
 rw[hf0.ev,ha.ev]
 refine⟨(f,us),as,ON,ls,G,rs',false,hcl,hA.args,k1,fun n hn=>by simpa using k2 n hn,hf,fun n hn=>by simpa using k3 n hn,fun n hn=>by simpa using k4 n hn,fun n hn=>by have h:=k5 n hn;rw[Nat.blt_eq] at h;exact h,fun n hn=>by have h:=k6 n hn;rw[Nat.blt_eq] at h;exact h,fun p hp=>hs.mem p hp,?_⟩
 simp only[Bool.false_eq_true,if_false]
 show RM0 P nn L ((mk l h (lk gl)).app _) Q
 have:=zeL (E:=yF G (ZV (vs++us) as)) (d:=d) (u:=X6 rs') (MB:=ZV (vs++us) as) (bs:=[]) h1 h2' h3
 rw[List.append_nil] at this
 rw[this]
 exact K.out)⟩
theorem Kr(hf0:Ev l fo fv)(hcl:Cl fv f us)(hf:Fn P f as true rs')(ha:Evs l args vs)(hA:AO h (vs++us) as ON ls)(hM:ZV (vs++us) as=MB)(hE:yF G MB=E)(hok:zal ON ls G (MB.map (·.1))=true)(hs:SZ h MB)
  (h1:erL E l l') (h2':erH E h h') (h3:erL E gl gl') (hu:X6 rs'=u) (hh:MB.reverse++h'=h2)
  (K:RM P nn L (mk ((d,u)::l') h2 (lk gl')) Q):RM P nn (⟨⟨none,.callv d fo args⟩,0,[]⟩::L) (mk l h (lk gl)) Q:=
 zff hf0 hcl (.inl hf) ha hA hM hE hok hs h1 h2' h3 hu hh K
end
def zfE:Nat→List V→List (Nat×V)
 |_,[]=>[]
 |k,v::vs=>(k,v)::zfE (k+1) vs
theorem zdN:∀(vs:List V) (k t:Nat),lk (zfE k vs) t=if k≤t then vAt vs (t - k) else .top
 |[],k,t=>by simp[zfE,lk,vAt]
 |v::vs,k,t=>by
  simp only[zfE,lk]
  rw[zdN vs (k+1) t]
  by_cases e:t=k
  ·subst e;simp[vAt]
  ·rw[if_neg e]
   by_cases h:k+1≤t
   ·rw[if_pos h,if_pos (by omega)]
    have:t - k=(t - (k+1))+1:=by omega
    rw[this];simp[vAt]
   ·rw[if_neg h,if_neg (by omega)]
theorem zis:∀(g:List (Nat×V)),lkG g=lk g:=fun g=>by
 funext n
 induction g with
 |nil=>rfl
 |cons p r ih=>obtain⟨k,v⟩:=p;simp only[lkG,lk,ih]
theorem YJ(as:List Ar):zca as=mk (zfE 0 (Yf 0 as).1) (Yf 0 as).2.reverse (lk (ghL 0 as (Yf 0 as).1)):=by
 refine St.ext' (fun t=> ?_) (fun n=> ?_) ?_
 ·show vAt _ t=lk _ t
  rw[zdN];simp
 ·show((⟨fun _=> .top,fun _=>none,fun _=> .top⟩:St).blks (Yf 0 as).2).hp n=lkB _ n
  rw[YN]
  have:=Xe (Yf 0 as).2 [] n
  rw[List.append_nil] at this
  rw[this];rfl
 ·exact zis _
def ML(h:List (Nat×Blk))(gl:List (Nat×V)):Nat→List Ar→List Nat→Prop
 |_,[],ns=>ns=[]
 |k,a::as,ns=>match a.md with
  | .m d'=>∃v x y,Ev gl (.t k) v∧ns=x++y∧VO h v d' x∧ML h gl (k+1) as y
  |_=>ML h gl (k+1) as ns
theorem ML.nil{h:List (Nat×Blk)}{gl:List (Nat×V)}{k:Nat}:ML h gl k [] []:=rfl
theorem ML.lent{h:List (Nat×Blk)}{gl:List (Nat×V)}{k:Nat}{d:D}{as:List Ar}{ns:List Nat}(H:ML h gl (k+1) as ns):ML h gl k (⟨d,.b⟩::as) ns:=H
theorem ML.mut{h:List (Nat×Blk)}{gl:List (Nat×V)}{k:Nat}{d d':D}{v:V}{as:List Ar}{x y:List Nat}(h1:Ev gl (.t k) v)(h2:VO h v d' x)(H:ML h gl (k+1) as y):ML h gl k (⟨d,.m d'⟩::as) (x++y):=⟨v,x,y,h1,rfl,h2,H⟩
theorem ML.ok{l:List (Nat×V)}{h:List (Nat×Blk)}{gl:List (Nat×V)}:∀{as:List Ar} {k:Nat} {ns:List Nat},ML h gl k as ns→XN (mk l h (lk gl)) k as ns
 |[],_,_,H=>H
 |a::as,k,ns,H=>by
  unfold ML at H
  unfold XN
  split at H
  ·rename_i d' hd
   obtain⟨v,x,y,h1,h2,h3,h4⟩:=H
   rw[hd]
   refine⟨x,y,h2,?_,ML.ok h4⟩
   have e:(mk l h (lk gl)).gh k=v:=h1.ev (h:=[]) (g:=noG)
   rw[e]
   exact zdH (s:=mk [] h fun _=> .top) (s':=mk l h (lk gl)) rfl h3
  ·rename_i hd
   split
   ·rename_i d' hd';exact absurd hd' (hd d')
   ·exact ML.ok H
theorem XB{l:List (Nat×V)}{h:List (Nat×Blk)}{gl:List (Nat×V)}{as:List Ar}{ts:List JA}{rs:List D}{ns ms:List Nat}(H:RL l h ts rs ns)(M:ML h gl 0 as ms)(hn:(ns++ms).Nodup):zdI as ts rs .ret (mk l h (lk gl)):=⟨ns,ms,H.ret,M.ok,hn⟩
section
variable {P:Program} {l:List (Nat×V)} {h:List (Nat×Blk)} {g:Nat→V} {Q:St→Prop} {rs:List RO} {dep:Nat} {A:List Nat} {d:Nat} {x y z:Opd} {v u:V} {k:IntKind} {a b:Int}
theorem zfp{α:Type}{f:α→List D}{sz bytes n len q:Nat}{zs:List D}{own:Bool}{cp:Option Nat}{yv:V}{xs ys:List α}{l':List (Nat×V)}{h':List (Nat×Blk)}{gl:List (Nat×V)}(hx:Ev l x (.one (.sl n 0 len)))(hy:Ev l y yv)(hb:LB (qy A h) n (.data sz (xs.map f) own cp))(hl:xs.length=len)(he:El (qy A h) sz zs own yv (ys.map f))(hq:(xs++ys).length=q)(hle:q≤2147483648)(hby:bytes≤65536)(hnn:n < 1000000)
  (h1:erL [n] l l') (h2:erH [n] h h') (h3:GK [n] gl) (K:RG P rs (mk ((d,.one (.sl n 0 q))::l') ((n,.data sz ((xs++ys).map f) own none)::h') (lk gl)) Q):RG P (⟨⟨none,.app d sz bytes zs x y⟩,dep,A⟩::rs) (mk l h (lk gl)) Q:=by
 subst hl;subst hq
 have hb:(mk l (qy A h) (lk gl)).hp n=some (.data sz (xs.map f) own cp):=hb
 have hev:AW.ev (mk l (qy A h) (lk gl)) (.app d sz bytes zs x y)=some ⟨[n],some (d,.one (.sl n 0 (xs++ys).length)),[(n,.data sz ((xs++ys).map f) own none)]⟩:=by
  simp only[AW.ev,hx.ev,hy.ev,hb,he.st,Option.bind_some,List.length_map]
  rw[if_pos ⟨trivial,trivial,by unfold big;simp only[List.length_append] at hle;omega,hby,hnn⟩]
  simp
 have hst:(mk l h (lk gl)).app ⟨[n],some (d,.one (.sl n 0 (xs++ys).length)),[(n,.data sz ((xs++ys).map f) own none)]⟩=mk ((d,.one (.sl n 0 (xs++ys).length))::l') ((n,.data sz ((xs++ys).map f) own none)::h') (lk gl):=by
  refine St.ext' (fun t=> ?_) (fun k=> ?_) ?_
  ·show(if t=d then _ else(lk l t).er [n])=_
   unfold mk
   simp only[AW.lk]
   split
   ·rfl
   ·exact(h1.lk t).symm
  ·show(if k=n then _ else(if [n].contains k then none else(lkB h k).map (Blk.er [n])))=_
   unfold mk
   simp only[lkB]
   split
   ·rfl
   ·exact(h2.lk k).symm
  ·show(fun t=>(lk gl t).er [n])=lk gl
   funext t
   exact h3.lk t
 have:opA P ((mk l h (lk gl)).hide A) (.app d sz bytes zs x y) (fun out=>xg P rs ((mk l h (lk gl)).app out) Q):=by
  rw[JI]
  show XD (AW.ev _ _) _
  rw[hev]
  show xg P rs ((mk l h (lk gl)).app _) Q
  rw[hst]
  exact K.out
 exact⟨this⟩
end
end Go.AW
