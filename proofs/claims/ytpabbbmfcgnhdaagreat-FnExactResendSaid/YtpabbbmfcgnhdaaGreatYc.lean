/- The rules by which a call is gone through that is handed blocks, and what is known of arguments that are written. Lemmas. Conditions: none. -/
import Derived.Test.YtpabbbmfcgnhdaaGreatYb
import Derived.Test.YtpabbbmfcgnhdaaGreatXd
set_option linter.unusedVariables false
namespace Go.AW
def GK(ns:List Nat):bB→Prop
 |[]=>True
 |(_,v)::r=>v.er ns=v∧GK ns r
theorem GK.nil{ns:List Nat}:GK ns []:=trivial
theorem GK.cons{ns:List Nat}{k:Nat}{v:V}{r:bB}(h1:v.er ns=v)(h2:GK ns r):GK ns ((k,v)::r):=⟨h1,h2⟩
theorem GK.lk{ns:List Nat}:∀{gl:bB},GK ns gl→∀k,(Go.AW.lk gl k).er ns=Go.AW.lk gl k
 |[],_,k=>rfl
 |(j,v)::r,H,k=>by
  simp only[Go.AW.lk];split
  ·exact H.1
  ·exact GK.lk H.2 k
theorem zgk{s t:St}(hs:∀k m h x,qV m h (s.sl k) x→qV m h (t.sl k) x)(hh:t.hp=s.hp)(hg:∀k,t.gh k=s.gh k):Wk t s:=fun cx a w ⟨m,R⟩=>
 ⟨m,R.size,R.defers,fun k=>hs k _ _ _ (R.sl k),fun n=>by rw[hh];exact R.hp n,R.own,R.fr,fun k=>by rw[hg k];exact R.gh k⟩
theorem zP{l l':bB}{h h':bC}{gl:bB}(ns:List Nat)(h1:SL l ns l')(h2:BL h' ns h)(h3:BK h ns h')(h4:GK ns gl):Wk (mk l' h'<|lk gl) (mk l h<|lk gl):=by
 refine Wk.trans (s:=(mk l h<|lk gl).er ns) (zgk (fun k=>h1.at k) (funext fun n=> ?_) fun k=>(h4.lk k).symm) (zjr ns _);show lkB h' n=if ns.contains n then none else(lkB h n).map (Blk.er ns)
 obtain⟨i1,i2,i3⟩:=h3.at n;cases hc:ns.contains n with
 |true=>rw[i1 hc];rfl
 |false=>
  simp only[Bool.false_eq_true,if_false];cases hk:(h'.map (·.1)).contains n with
  |true=>exact i2 hk
  |false=>rw[i3 hk,h2.out hc hk];rfl
def GR(n n':Nat):bB→Prop
 |[]=>True
 |(_,v)::r=>v.ren n n'=v∧GR n n' r
theorem GR.nil{n n':Nat}:GR n n' []:=trivial
theorem GR.cons{n n' k:Nat}{v:V}{r:bB}(h1:v.ren n n'=v)(h2:GR n n' r):GR n n' ((k,v)::r):=⟨h1,h2⟩
theorem GR.lk{n n':Nat}:∀{gl:bB},GR n n' gl→∀k,(Go.AW.lk gl k).ren n n'=Go.AW.lk gl k
 |[],_,k=>rfl
 |(j,v)::r,H,k=>by
  simp only[Go.AW.lk];split
  ·exact H.1
  ·exact GR.lk H.2 k
theorem zsN{l:bB}{h:bC}{g g':Nat→V}(H:∀k,g' k=g k):mk l h g'=mk l h g:=by
 have:g'=g:=funext H;subst this;rfl
theorem Zf(n n':Nat){l:bB}{h:bC}{gl:bB}(hne:Nat.beq n n'=false)(hfar:Nat.ble n 1999999=true)(hf:NB h n')(hg:GR n n' gl):Wk (mk (zfF n n' l) (zfc n n' h)<|lk gl) (mk l h<|lk gl):=by
 have:=zgI (l:=l) (g:=lk gl) n n' hne hfar hf
 rwa [zsN hg.lk] at this
def AO(h:bC)(vs:List V)(as:List Ar)(ns us:List Nat):Prop:=YQ (mk [] h noG) vs as ns us
theorem AO.nil{h:bC}:AO h [] [] [] []:=⟨rfl,rfl⟩
theorem AO.lent{h:bC}{v:V}{d:D}{vs:List V}{as:List Ar}{ns us ws:List Nat}(h1:VD h v d)(hw:Xm (mk [] h noG) v=ws)(h2:AO h vs as ns us):AO h (v::vs) (⟨d,.b⟩::as) ns (ws++us):=by
 subst hw;exact⟨us,h1,rfl,h2⟩
theorem AO.mut{h:bC}{v:V}{d d':D}{vs:List V}{as:List Ar}{ns us x:List Nat}(h1:VO h v d x)(h2:AO h vs as ns us):AO h (v::vs) (⟨d,.m d'⟩::as) (x++ns) us:=⟨x,ns,rfl,h1,h2⟩
theorem zio{s s':St}(h:s'.hp=s.hp)(v:V):Xm s' v=Xm s v:=by
 obtain⟨sl,hp,gh⟩:=s;obtain⟨sl',hp',gh'⟩:=s';cases h;rfl
theorem X2{s s':St}(h:s'.hp=s.hp):∀{vs:List V} {as:List Ar} {ns us:List Nat},YQ s vs as ns us→YQ s' vs as ns us
 |[],[],_,_,H=>H
 |v::vs,a::as,ns,us,H=>by
  unfold YQ at H ⊢;split at H
  ·obtain⟨us',h1,h2,h3⟩:=H;exact⟨us',by rw[zgy h];exact h1,by rw[zio h];exact h2,X2 h h3⟩
  ·obtain⟨h1,h2,h3⟩:=H;exact⟨h1,h2,X2 h h3⟩
  ·obtain⟨x,y,h1,h2,h3⟩:=H;exact⟨x,y,h1,zgt h h2,X2 h h3⟩
theorem AO.args{l:bB}{h:bC}{g:Nat→V}{vs:List V}{as:List Ar}{ns us:List Nat}(H:AO h vs as ns us):YQ (mk l h g) vs as ns us:=X2 (s:=mk [] h noG) (s':=mk l h g) O H
def SZ(h:bC):bC→Prop
 |[]=>True
 |(n,b)::r=>((∃sz xs0 o cp ys o' cp',lkB h n=some (.data sz xs0 o cp)∧b= .data sz ys o' cp')∨(∃sz cs ds,lkB h n=some (.vars sz cs)∧b= .vars sz ds∧ds.length=cs.length)∨∃ds ds',lkB h n=some (.own ds)∧b= .own ds'∧ds'.length=ds.length)∧SZ h r
theorem SZ.nil{h:bC}:SZ h []:=trivial
theorem SZ.cons{h:bC}{n sz:Nat}{xs0 ys:List (List D)}{o o':Bool}{cp cp':Option Nat}{r:bC}(h1:LB h n (.data sz xs0 o cp))(h3:SZ h r):SZ h ((n,.data sz ys o' cp')::r):=
 ⟨.inl ⟨sz,xs0,o,cp,ys,o',cp',h1,rfl⟩,h3⟩
theorem kM{h:bC}{n:Nat}{ds ds':List D}{r:bC}(h1:LB h n (.own ds))(h2:ds'.length=ds.length)(h3:SZ h r):SZ h ((n,.own ds')::r):=
 ⟨.inr<|.inr ⟨ds,ds',h1,rfl,h2⟩,h3⟩
theorem SZ.mem{l:bB}{h:bC}{g:Nat→V}:∀{r:bC},SZ h r→∀p∈r,zrI (mk l h g) p
 |[],_,p,hp=>by cases hp
 |(n,b)::r,H,p,hp=>by
  rcases List.mem_cons.1 hp with rfl|hp
  ·exact H.1
  ·exact SZ.mem H.2 p hp
def KG(ON ls G MN:List Nat):Bool:=
 decide ON.Nodup&&ls.all (fun n=>!ON.contains n)&&ON.all (fun n=>G.contains n||MN.contains n)&&G.all (fun n=>!MN.contains n)&&MN.all (fun n=>Nat.blt n 1000000)&&G.all (fun n=>Nat.blt n 1000000)
theorem Zl{α:Type}{x:Option α}{K K':α→Prop}(h:Ym x K)(hk:∀a,K a→K' a):Ym x K':=by
 cases x with
 |none=>exact h
 |some a=>exact hk a h
theorem zf4{P:Program}{s:St}{d:Nat}{f:V}{vs:List V}{K K':Out→Prop}(h:callB P s d f vs K)(hk:∀a,K a→K' a):callB P s d f vs K':=by
 unfold callB at h ⊢;refine Zl h fun c h=>Zl h fun ds h=> ?_;obtain⟨o,md,rs,h1,h2⟩:=h;refine⟨o,md,rs,h1,?_⟩;cases md with
 |true=>simp only[if_true] at h2 ⊢;exact⟨h2.1,h2.2.1,h2.2.2.1,hk _ h2.2.2.2⟩
 |false=>simp only[Bool.false_eq_true,if_false] at h2 ⊢;exact⟨h2.1,hk _ h2.2⟩
theorem zfs{P:Program}{s:St}{o:IOp}{K K':Out→Prop}(h:opA P s o K)(hk:∀a,K a→K' a):opA P s o K':=by
 cases o<;>first|exact zf4 h hk|(simp only[opA] at h ⊢;exact Zl h hk)
theorem k9{P:Program}{s:St}{g:GOp}{K K':Out→Prop}(h:jt P s g K)(hk:∀a,K a→K' a):jt P s g K':=by
 obtain⟨gg,o⟩:=g;cases gg with
 |none=>exact zfs h hk
 |some p=>
  obtain⟨t,want⟩:=p;unfold jt at h ⊢;simp only at h ⊢;generalize s.sl t=v at h ⊢
  revert h
  split
  ·intro h;split at h
   ·rename_i e;rw[if_pos e];exact zfs h hk
   ·rename_i e;rw[if_neg e];exact hk _ h
  ·intro h;exact hk _ h
  ·intro h;exact h.elim
theorem zdS{P:Program}:∀{gs:List GOp} {s:St} {Q Q':St→Prop},zcH P gs s Q→(∀s,Q s→Q' s)→zcH P gs s Q'
 |[],_,_,_,h,hq=>hq _ h
 |_::_,_,_,_,h,hq=>k9 h fun _ h=>zdS h hq
structure RM(P:Program)(n:Nat)(L:List RO)(s:St)(Q:St→Prop):Prop where
 out:RM0 P n L s Q
section
variable {P:Program} {nn:Nat} {L:List RO} {s t:St} {Q:St→Prop} {Qx:Exit→St→Prop}
theorem qo(h:RM P nn L s (Qx .normal)):AW P nn (.reg L) Qx s:=⟨fun cx code hh hh' a w hP hn hic ⟨m,R⟩=>by
 obtain⟨id,ops,gs,rfl,hops,hL⟩:=zeP hic;subst hP;subst hn;exact wp_region_list (h.out gs hL cx ops ops.toList m a w _ O O hops R (fun s' hs m' a' w' R'=>⟨s',hs,m',R'⟩))⟩
theorem qy(h:RG P L s Q):RM P nn L s Q:=⟨zr8 fun gs e=>xv (by rw[←e];exact h.out)⟩
theorem zC{r:RO}(h:RG P [r] s (fun s'=>RM P nn L s' Q)):RM P nn (r::L) s Q:=⟨RM0.split 1 fun gs e=>by
 have e:[r]=gs.map fun g=>⟨g,0,[]⟩:=by simpa using e
 have:=xv (P:=P) (gs:=gs) (s:=s) (Q:=fun s'=>RM P nn L s' Q) (by rw[←e];exact h.out);refine zdS this fun s' hs=> ?_;simpa using hs.out⟩
theorem zzv(hw:∀(cx:Cx) (m:M) (a:Act) (w:World),zH cx m s a w→∃m',zH cx m' t a w)(h:RM P nn L t Q):RM P nn L s Q:=⟨fun gs hL cx ops l m a w Qx hP hn hm R hQ=>by
 obtain⟨m',R'⟩:=hw cx m a w R;exact h.out gs hL cx ops l m' a w Qx hP hn hm R' hQ⟩
theorem YD(hw:Wk t s)(h:RM P nn L t Q):RM P nn L s Q:=zzv (fun cx m a w R=>hw cx a w ⟨m,R⟩) h
end
theorem X9:∀(B:bC) (h:bC) (k:Nat),lkB (B.reverse++h) k=(yf B k).or (lkB h k)
 |[],h,k=>rfl
 |(n,b)::r,h,k=>by
  rw[List.reverse_cons,List.append_assoc,X9 r];simp only[List.singleton_append,lkB,yf];cases yf r k with
  |some x=>rfl
  |none=>
   simp only[Option.none_or];split<;>rfl
theorem K6:∀(B C:bC) (k:Nat),yf (B++C) k=(yf C k).or (yf B k)
 |[],C,k=>by simp[yf]
 |(n,b)::r,C,k=>by
  simp only[List.cons_append,yf];rw[K6 r C];cases yf C k<;>simp
theorem zfK{l l':bB}{h h':bC}{gl gl':bB}{E:List Nat}{d:Nat}{u:V}{MB bs:bC}(h1:erL E l l')(h2:erH E h h')(h3:erL E gl gl'):
  (mk l h<|lk gl).app ⟨E,some (d,u),MB++bs⟩=mk ((d,u)::l') (bs.reverse++(MB.reverse++h')) (lk gl'):=by
 refine St.ext' (fun t=> ?_) (fun k=> ?_) ?_
 ·rw[xP];simp only;rw[Xy];show(if t=d then u else(lk l t).er E)=lk ((d,u)::l') t;simp only[lk];split
  ·rfl
  ·exact(h1.lk t).symm
 ·rw[k8];simp only;rw[Xy];show(yf (MB++bs) k).or (if E.contains k then none else(lkB h k).map (Blk.er E))=lkB (bs.reverse++(MB.reverse++h')) k;rw[X9,X9,K6,h2.lk k];cases yf bs k<;>simp
 ·rw[zd6,Xy];show(fun t=>(lk gl t).er E)=lk gl';funext t;exact(h3.lk t).symm
section
variable {P:Program} {nn:Nat} {L:List RO} {Q:St→Prop} {l l':bB} {h h' h2:bC} {gl gl':bB} {d f:Nat} {fo:Opd} {fv u:V} {us vs:List V} {args:List Opd} {as:List Ar} {ON ls G E:List Nat} {rs':List D} {MB bs:bC}
theorem zyQ(hf0:Ev l fo fv)(hcl:Cl fv f us)(hf:FnS P (mk l h<|lk gl) f as rs')(ha:Evs l args vs)(hA:AO h (vs++us) as ON ls)(hM:Qh (vs++us) as=MB)(hE:Zc G MB=E)(hok:KG ON ls G (MB.map (·.1))=true)(hs:SZ h MB)
  (h1:erL E l l') (h2':erH E h h') (h3:erL E gl gl') (hu:jv (d * 64) rs'=(u,bs)) (hh:bs.reverse++(MB.reverse++h')=h2) (hfr:qO (mk [] (MB.reverse++h') noG) ((d * 64+63)::bs.map (·.1)))
  (K:RM P nn L (mk ((d,u)::l') h2<|lk gl') Q):RM P nn (⟨⟨none,.callv d fo args⟩,0,[]⟩::L) (mk l h<|lk gl) Q:=⟨RM0.call (by
 subst hM;subst hE;subst hh;simp only[KG,Bool.and_eq_true,decide_eq_true_eq,List.all_eq_true] at hok;obtain⟨⟨⟨⟨⟨k1,k2⟩,k3⟩,k4⟩,k5⟩,k6⟩:=hok;rw[hf0.ev,ha.ev];refine⟨(f,us),as,ON,ls,G,rs',true,hcl,hA.args,k1,fun n hn=>by simpa using k2 n hn,hf,fun n hn=>by simpa using k3 n hn,fun n hn=>by simpa using k4 n hn,fun n hn=>by have h:=k5 n hn;rw[Nat.blt_eq] at h;exact h,fun n hn=>by have h:=k6 n hn;rw[Nat.blt_eq] at h;exact h,fun p hp=>hs.mem p hp,?_⟩;rw[hu];simp only[if_true];refine⟨?_,?_⟩
 ·have e:((mk l h<|lk gl).er<|Zc G<|Qh (vs++us) as).blks (Qh (vs++us) as)=mk l' ((Qh (vs++us) as).reverse++h') (lk gl'):=by
   refine St.ext' (fun t=> ?_) (fun k=> ?_) ?_
   ·rw[(Yu _ _).1];exact(h1.lk t).symm
   ·rw[xA];show _=lkB _ k;rw[X9,h2'.lk k];rfl
   ·rw[(Yu _ _).2];funext t;exact(h3.lk t).symm
  rw[e,X3 (s:=mk [] ((Qh (vs++us) as).reverse++h') noG) (s':=mk l' ((Qh (vs++us) as).reverse++h') (lk gl')) rfl];exact hfr
 ·show RM0 P nn L ((mk l h<|lk gl).app _) Q;rw[zfK h1 h2' h3];exact K.out)⟩
theorem zhP(hf0:Ev l fo fv)(hcl:Cl fv f us)(hf:FnS P (mk l h<|lk gl) f as rs')(ha:Evs l args vs)(hA:AO h (vs++us) as ON ls)(hM:Qh (vs++us) as=MB)(hE:Zc G MB=E)(hok:KG ON ls G (MB.map (·.1))=true)(hs:SZ h MB)
  (h1:erL E l l') (h2':erH E h h') (h3:erL E gl gl') (hu:KV rs'=u) (hh:MB.reverse++h'=h2)
  (K:RM P nn L (mk ((d,u)::l') h2<|lk gl') Q):RM P nn (⟨⟨none,.callv d fo args⟩,0,[]⟩::L) (mk l h<|lk gl) Q:=⟨RM0.call (by
 subst hM;subst hE;subst hh;subst hu;simp only[KG,Bool.and_eq_true,decide_eq_true_eq,List.all_eq_true] at hok;obtain⟨⟨⟨⟨⟨k1,k2⟩,k3⟩,k4⟩,k5⟩,k6⟩:=hok;rw[hf0.ev,ha.ev];refine⟨(f,us),as,ON,ls,G,rs',false,hcl,hA.args,k1,fun n hn=>by simpa using k2 n hn,hf,fun n hn=>by simpa using k3 n hn,fun n hn=>by simpa using k4 n hn,fun n hn=>by have h:=k5 n hn;rw[Nat.blt_eq] at h;exact h,fun n hn=>by have h:=k6 n hn;rw[Nat.blt_eq] at h;exact h,fun p hp=>hs.mem p hp,?_⟩;simp only[Bool.false_eq_true,if_false];show RM0 P nn L ((mk l h<|lk gl).app _) Q;have:=zfK (E:=Zc G (Qh (vs++us) as)) (d:=d) (u:=KV rs') (MB:=Qh (vs++us) as) (bs:=[]) h1 h2' h3;rw[List.append_nil] at this;rw[this];exact K.out)⟩
theorem xT(hf0:Ev l fo fv)(hcl:Cl fv f us)(hf:Fn P f as true rs')(ha:Evs l args vs)(hA:AO h (vs++us) as ON ls)(hM:Qh (vs++us) as=MB)(hE:Zc G MB=E)(hok:KG ON ls G (MB.map (·.1))=true)(hs:SZ h MB)
  (h1:erL E l l') (h2':erH E h h') (h3:erL E gl gl') (hu:KV rs'=u) (hh:MB.reverse++h'=h2)
  (K:RM P nn L (mk ((d,u)::l') h2<|lk gl') Q):RM P nn (⟨⟨none,.callv d fo args⟩,0,[]⟩::L) (mk l h<|lk gl) Q:=
 zhP hf0 hcl (.inl hf) ha hA hM hE hok hs h1 h2' h3 hu hh K
end
def zhN:Nat→List V→bB
 |_,[]=>[]
 |k,v::vs=>(k,v)::zhN (k+1) vs
theorem zgA:∀(vs:List V) (k t:Nat),lk (zhN k vs) t=if k≤t then vAt vs (t - k) else .top
 |[],k,t=>by simp[zhN,lk,vAt]
 |v::vs,k,t=>by
  simp only[zhN,lk];rw[zgA vs (k+1) t];by_cases e:t=k
  ·subst e;simp[vAt]
  ·rw[if_neg e];by_cases h:k+1≤t
   ·rw[if_pos h,if_pos (by omega)];have:t - k=(t - (k+1))+1:=by omega
    rw[this];simp[vAt]
   ·rw[if_neg h,if_neg (by omega)]
theorem zk3:∀(g:bB),lkG g=lk g:=fun g=>by
 funext n;induction g with
 |nil=>rfl
 |cons p r ih=>obtain⟨k,v⟩:=p;simp only[lkG,lk,ih]
theorem Jy(as:List Ar):zeI as=mk (zhN 0 (xH 0 as).1) (xH 0 as).2.reverse (lk<|ghL 0 as (xH 0 as).1):=by
 refine St.ext' (fun t=> ?_) (fun n=> ?_) ?_
 ·show vAt _ t=lk _ t;rw[zgA];simp
 ·show((⟨fun _=> .top,fun _=>none,fun _=> .top⟩:St).blks (xH 0 as).2).hp n=lkB _ n;rw[xA];have:=X9 (xH 0 as).2 [] n;rw[List.append_nil] at this;rw[this];rfl
 ·exact zk3 _
def ML(h:bC)(gl:bB):Nat→List Ar→List Nat→Prop
 |_,[],ns=>ns=[]
 |k,a::as,ns=>match a.md with
  | .m d'=>∃v x y,Ev gl (.t k) v∧ns=x++y∧VO h v d' x∧ML h gl (k+1) as y
  |_=>ML h gl (k+1) as ns
theorem ML.nil{h:bC}{gl:bB}{k:Nat}:ML h gl k [] []:=rfl
theorem ML.lent{h:bC}{gl:bB}{k:Nat}{d:D}{as:List Ar}{ns:List Nat}(H:ML h gl (k+1) as ns):ML h gl k (⟨d,.b⟩::as) ns:=H
theorem ML.mut{h:bC}{gl:bB}{k:Nat}{d d':D}{v:V}{as:List Ar}{x y:List Nat}(h1:Ev gl (.t k) v)(h2:VO h v d' x)(H:ML h gl (k+1) as y):ML h gl k (⟨d,.m d'⟩::as) (x++y):=⟨v,x,y,h1,rfl,h2,H⟩
theorem ML.ok{l:bB}{h:bC}{gl:bB}:∀{as:List Ar} {k:Nat} {ns:List Nat},ML h gl k as ns→zbg (mk l h<|lk gl) k as ns
 |[],_,_,H=>H
 |a::as,k,ns,H=>by
  unfold ML at H;unfold zbg;split at H
  ·rename_i d' hd;obtain⟨v,x,y,h1,h2,h3,h4⟩:=H;rw[hd];refine⟨x,y,h2,?_,ML.ok h4⟩;have e:(mk l h<|lk gl).gh k=v:=h1.ev (h:=[]) (g:=noG);rw[e];exact zgt (s:=mk [] h fun _=> .top) (s':=mk l h (lk gl)) O h3
  ·rename_i hd;split
   ·rename_i d' hd';exact absurd hd' (hd d')
   ·exact ML.ok H
theorem XO{l:bB}{h:bC}{gl:bB}{as:List Ar}{ts:List Qw}{rs:List D}{ns ms:List Nat}(H:RL l h ts rs ns)(M:ML h gl 0 as ms)(hn:(ns++ms).Nodup):zeA as ts rs .ret (mk l h<|lk gl):=⟨ns,ms,H.ret,M.ok,hn⟩
theorem zhX{l:bB}{h:bC}{gl:bB}{as:List Ar}{ts:List Qw}{rs:List D}{ns ms:List Nat}(H:RL l h ts rs ns)(M:ML h gl 0 as ms)(hn:(ns++ms).Nodup):zeA as ts rs .normal (mk l h<|lk gl):=⟨ns,ms,H.ret,M.ok,hn⟩
section
variable {P:Program} {l:bB} {h:bC} {g:Nat→V} {Q:St→Prop} {rs:List RO} {dep:Nat} {A:List Nat} {d:Nat} {x y z:Opd} {v u:V} {k:IntKind} {a b:Int}
end
end Go.AW
