/- The rules by which a call is gone through that is handed blocks, and what is known of arguments that are written. Lemmas. Conditions: none. -/
import Derived.Test.YtpabbbmfcgnhdaaGreatYb
import Derived.Test.YtpabbbmfcgnhdaaGreatXd
set_option linter.unusedVariables false
namespace Go.AW
def GK(ns:List Nat):List (Nat×V)→Prop
 |[]=>True
 |(_,v)::r=>v.er ns=v∧GK ns r
theorem GK.nil{ns:List Nat}:GK ns []:=trivial
theorem GK.cons{ns:List Nat}{k:Nat}{v:V}{r:List (Nat×V)}(h1:v.er ns=v)(h2:GK ns r):GK ns ((k,v)::r):=⟨h1,h2⟩
theorem GK.lk{ns:List Nat}:∀{gl:List (Nat×V)},GK ns gl→∀k,(Go.AW.lk gl k).er ns=Go.AW.lk gl k
 |[],_,k=>rfl
 |(j,v)::r,H,k=>by
  simp only[Go.AW.lk]
  split
  ·exact H.1
  ·exact GK.lk H.2 k
theorem zog{s t:St}(hs:∀k m h x,jK m h (s.sl k) x→jK m h (t.sl k) x)(hh:t.hp=s.hp)(hg:∀k,t.gh k=s.gh k):Wk t s:=fun cx a w ⟨m,R⟩=>
 ⟨m,R.size,R.defers,fun k=>hs k _ _ _ (R.sl k),fun n=>by rw[hh];exact R.hp n,R.own,R.fr,fun k=>by rw[hg k];exact R.gh k⟩
theorem zH{l l':List (Nat×V)}{h h':List (Nat×Blk)}{gl:List (Nat×V)}(ns:List Nat)(h1:SL l ns l')(h2:BL h' ns h)(h3:BK h ns h')(h4:GK ns gl):Wk (mk l' h'<|lk gl) (mk l h<|lk gl):=by
 refine Wk.trans (s:=(mk l h<|lk gl).er ns) (zog (fun k=>h1.at k) (funext fun n=> ?_) fun k=>(h4.lk k).symm) (zoR ns _)
 show lkB h' n=if ns.contains n then none else(lkB h n).map (Blk.er ns)
 obtain⟨i1,i2,i3⟩:=h3.at n
 cases hc:ns.contains n with
 |true=>rw[i1 hc];rfl
 |false=>
  simp only[Bool.false_eq_true,if_false]
  cases hk:(h'.map (·.1)).contains n with
  |true=>exact i2 hk
  |false=>rw[i3 hk,h2.out hc hk];rfl
def GR(n n':Nat):List (Nat×V)→Prop
 |[]=>True
 |(_,v)::r=>v.ren n n'=v∧GR n n' r
theorem GR.nil{n n':Nat}:GR n n' []:=trivial
theorem GR.lk{n n':Nat}:∀{gl:List (Nat×V)},GR n n' gl→∀k,(Go.AW.lk gl k).ren n n'=Go.AW.lk gl k
 |[],_,k=>rfl
 |(j,v)::r,H,k=>by
  simp only[Go.AW.lk]
  split
  ·exact H.1
  ·exact GR.lk H.2 k
theorem zFW{l:List (Nat×V)}{h:List (Nat×Blk)}{g g':Nat→V}(H:∀k,g' k=g k):mk l h g'=mk l h g:=by
 have:g'=g:=funext H
 subst this;rfl
theorem yW(n n':Nat){l:List (Nat×V)}{h:List (Nat×Blk)}{gl:List (Nat×V)}(hne:Nat.beq n n'=false)(hfar:Nat.ble n 1999999=true)(hf:NB h n')(hg:GR n n' gl):Wk (mk (zjn n n' l) (zhY n n' h)<|lk gl) (mk l h<|lk gl):=by
 have:=zkk (l:=l) (g:=lk gl) n n' hne hfar hf
 rwa [zFW hg.lk] at this
theorem zeX(n k:Nat){α:Type}{f:α→List D}{sz:Nat}{own:Bool}{cp:Option Nat}{xs:List α}{l:List (Nat×V)}{h:List (Nat×Blk)}{g:Nat→V}(hb:LB h n (.data sz (xs.map f) own cp)):
  Wk (mk l ((n,.data sz ((xs.take k).map f) own cp)::h) g) (mk l h g):=fun cx a w ⟨m,R⟩=>by
 refine⟨m,R.size,R.defers,R.sl,fun j=> ?_,R.own,R.fr,R.gh⟩
 show qg cx m w.heap j (if j=n then _ else lkB h j) _
 by_cases e:j=n
 ·subst e
  rw[if_pos rfl]
  have H:=R.hp j
  have e:(mk l h g).hp j=some (.data sz (xs.map f) own cp):=hb
  rw[e] at H
  cases hi:m.inf j with
  |none=>rw[hi] at H;exact H.elim
  |some fi=>
   rw[hi] at H
   unfold qg at H ⊢
   simp only at H ⊢
   cases hbk:fi.blk with
   |none=>
    rw[hbk] at H
    obtain⟨h1,s',o',cp',he,h2,h3⟩:=H
    injection he with e1 e2 e3 e4
    have:xs=[]:=by simpa using e2
    subst this
    subst e1;subst e4
    exact⟨h1,sz,own,cp,by simp,h2,h3⟩
   |some b=>
    rw[hbk] at H
    obtain⟨h1,h2,cells,T,h3,h4,h5⟩:=H
    refine⟨h1,h2,cells,T,h3,h4,?_⟩
    obtain⟨i1,i2,bs,i3,i4,i5⟩:=h5
    obtain⟨b1,b2,rfl,j1,_⟩:=i3.split k
    refine⟨i1,i2,b1,by rw[List.map_take];exact j1,fun ho=>⟨(i4 ho).1.sublist<|List.sublist_append_left _ _,fun c hc=>(i4 ho).2 c (by simp[hc])⟩,fun ho c hc=>i5 ho c (by simp[hc])⟩
 ·rw[if_neg e]
  exact R.hp j
def AO(h:List (Nat×Blk))(vs:List V)(as:List Ar)(ns us:List Nat):Prop:=Xw (mk [] h noG) vs as ns us
theorem AO.nil{h:List (Nat×Blk)}:AO h [] [] [] []:=⟨rfl,rfl⟩
theorem AO.lent{h:List (Nat×Blk)}{v:V}{d:D}{vs:List V}{as:List Ar}{ns us ws:List Nat}(h1:VD h v d)(hw:zbn (mk [] h noG) v=ws)(h2:AO h vs as ns us):AO h (v::vs) (⟨d,.b⟩::as) ns (ws++us):=by
 subst hw
 exact⟨us,h1,rfl,h2⟩
theorem AO.give{h:List (Nat×Blk)}{v:V}{d:D}{vs:List V}{as:List Ar}{ns us x:List Nat}(h1:VO h v d x)(h2:AO h vs as ns us):AO h (v::vs) (⟨d,.g⟩::as) (x++ns) us:=⟨x,ns,rfl,h1,h2⟩
theorem AO.mut{h:List (Nat×Blk)}{v:V}{d d':D}{vs:List V}{as:List Ar}{ns us x:List Nat}(h1:VO h v d x)(h2:AO h vs as ns us):AO h (v::vs) (⟨d,.m d'⟩::as) (x++ns) us:=⟨x,ns,rfl,h1,h2⟩
theorem AO.zs{h:List (Nat×Blk)}{sz:Nat}{vs:List V}{as:List Ar}{ns us:List Nat}(h2:AO h vs as ns us):AO h (.one .zs::vs) (⟨.sl sz [],.z⟩::as) ns us:=⟨rfl,⟨sz,rfl⟩,h2⟩
theorem zmx{s s':St}(h:s'.hp=s.hp)(v:V):zbn s' v=zbn s v:=by
 obtain⟨sl,hp,gh⟩:=s
 obtain⟨sl',hp',gh'⟩:=s'
 cases h
 rfl
theorem zca{s s':St}(h:s'.hp=s.hp):∀{vs:List V} {as:List Ar} {ns us:List Nat},Xw s vs as ns us→Xw s' vs as ns us
 |[],[],_,_,H=>H
 |v::vs,a::as,ns,us,H=>by
  unfold Xw at H ⊢
  split at H
  ·obtain⟨us',h1,h2,h3⟩:=H
   exact⟨us',by rw[zj1 h];exact h1,by rw[zmx h];exact h2,zca h h3⟩
  ·obtain⟨h1,h2,h3⟩:=H
   exact⟨h1,h2,zca h h3⟩
  ·obtain⟨x,y,h1,h2,h3⟩:=H
   exact⟨x,y,h1,zke h h2,zca h h3⟩
theorem AO.args{l:List (Nat×V)}{h:List (Nat×Blk)}{g:Nat→V}{vs:List V}{as:List Ar}{ns us:List Nat}(H:AO h vs as ns us):Xw (mk l h g) vs as ns us:=zca (s:=mk [] h noG) (s':=mk l h g) rfl H
def SZ(h:List (Nat×Blk)):List (Nat×Blk)→Prop
 |[]=>True
 |(n,b)::r=>((∃sz xs0 o cp ys o' cp',lkB h n=some (.data sz xs0 o cp)∧b= .data sz ys o' cp')∨(∃sz cs ds,lkB h n=some (.vars sz cs)∧b= .vars sz ds∧ds.length=cs.length)∨∃ds ds',lkB h n=some (.own ds)∧b= .own ds'∧ds'.length=ds.length)∧SZ h r
theorem SZ.nil{h:List (Nat×Blk)}:SZ h []:=trivial
theorem SZ.cons{h:List (Nat×Blk)}{n sz:Nat}{xs0 ys:List (List D)}{o o':Bool}{cp cp':Option Nat}{r:List (Nat×Blk)}(h1:LB h n (.data sz xs0 o cp))(h3:SZ h r):SZ h ((n,.data sz ys o' cp')::r):=
 ⟨.inl ⟨sz,xs0,o,cp,ys,o',cp',h1,rfl⟩,h3⟩
theorem SZ.mem{l:List (Nat×V)}{h:List (Nat×Blk)}{g:Nat→V}:∀{r:List (Nat×Blk)},SZ h r→∀p∈r,zxi (mk l h g) p
 |[],_,p,hp=>by cases hp
 |(n,b)::r,H,p,hp=>by
  rcases List.mem_cons.1 hp with rfl|hp
  ·exact H.1
  ·exact SZ.mem H.2 p hp
def zd3(ON ls G MN:List Nat):Bool:=
 decide ON.Nodup&&ls.all (fun n=>!ON.contains n)&&ON.all (fun n=>G.contains n||MN.contains n)&&G.all (fun n=>!MN.contains n)&&MN.all (fun n=>Nat.blt n 1000000)&&G.all (fun n=>Nat.blt n 1000000)
theorem zdN{α:Type}{x:Option α}{K K':α→Prop}(h:zcC x K)(hk:∀a,K a→K' a):zcC x K':=by
 cases x with
 |none=>exact h
 |some a=>exact hk a h
theorem zjA{P:Program}{s:St}{d:Nat}{f:V}{vs:List V}{K K':Out→Prop}(h:callB P s d f vs K)(hk:∀a,K a→K' a):callB P s d f vs K':=by
 unfold callB at h ⊢
 refine zdN h fun c h=>zdN h fun ds h=> ?_
 obtain⟨o,md,rs,h1,h2⟩:=h
 refine⟨o,md,rs,h1,?_⟩
 cases md with
 |true=>simp only[if_true] at h2 ⊢;exact⟨h2.1,h2.2.1,h2.2.2.1,hk _ h2.2.2.2⟩
 |false=>simp only[Bool.false_eq_true,if_false] at h2 ⊢;exact⟨h2.1,hk _ h2.2⟩
theorem zil{P:Program}{s:St}{o:IOp}{K K':Out→Prop}(h:opA P s o K)(hk:∀a,K a→K' a):opA P s o K':=by
 cases o<;>first|exact zjA h hk|(simp only[opA] at h ⊢;exact zdN h hk)
theorem zf9{P:Program}{s:St}{g:GOp}{K K':Out→Prop}(h:yC P s g K)(hk:∀a,K a→K' a):yC P s g K':=by
 obtain⟨gg,o⟩:=g
 cases gg with
 |none=>exact zil h hk
 |some p=>
  obtain⟨t,want⟩:=p
  unfold yC at h ⊢
  simp only at h ⊢
  generalize s.sl t=v at h ⊢
  revert h
  split
  ·intro h
   split at h
   ·rename_i e;rw[if_pos e];exact zil h hk
   ·rename_i e;rw[if_neg e];exact hk _ h
  ·intro h;exact hk _ h
  ·intro h;exact h.elim
theorem zg3{P:Program}:∀{gs:List GOp} {s:St} {Q Q':St→Prop},zfV P gs s Q→(∀s,Q s→Q' s)→zfV P gs s Q'
 |[],_,_,_,h,hq=>hq _ h
 |_::_,_,_,_,h,hq=>zf9 h fun _ h=>zg3 h hq
structure RM(P:Program)(n:Nat)(L:List RO)(s:St)(Q:St→Prop):Prop where
 out:RM0 P n L s Q
section
variable {P:Program} {nn:Nat} {L:List RO} {s t:St} {Q:St→Prop} {Qx:Exit→St→Prop}
theorem zZ(h:RM P nn L s (Qx .normal)):AW P nn (.reg L) Qx s:=⟨fun cx code hh hh' a w hP hn hic ⟨m,R⟩=>by
 obtain⟨id,ops,gs,rfl,hops,hL⟩:=zis hic
 subst hP;subst hn
 exact wp_region_list (h.out gs hL cx ops ops.toList m a w _ rfl rfl hops R (fun s' hs m' a' w' R'=>⟨s',hs,m',R'⟩))⟩
theorem qf(h:RG P L s Q):RM P nn L s Q:=⟨zBq fun gs e=>Kn (by rw[←e];exact h.out)⟩
theorem zr{r:RO}(h:RG P [r] s (fun s'=>RM P nn L s' Q)):RM P nn (r::L) s Q:=⟨RM0.split 1 fun gs e=>by
 have e:[r]=gs.map fun g=>⟨g,0,[]⟩:=by simpa using e
 have:=Kn (P:=P) (gs:=gs) (s:=s) (Q:=fun s'=>RM P nn L s' Q) (by rw[←e];exact h.out)
 refine zg3 this fun s' hs=> ?_
 simpa using hs.out⟩
theorem zIz(hw:∀(cx:Cx) (m:M) (a:Act) (w:World),zO cx m s a w→∃m',zO cx m' t a w)(h:RM P nn L t Q):RM P nn L s Q:=⟨fun gs hL cx ops l m a w Qx hP hn hm R hQ=>by
 obtain⟨m',R'⟩:=hw cx m a w R
 exact h.out gs hL cx ops l m' a w Qx hP hn hm R' hQ⟩
theorem zhP(hw:Wk t s)(h:RM P nn L t Q):RM P nn L s Q:=zIz (fun cx m a w R=>hw cx a w ⟨m,R⟩) h
end
theorem zdf:∀(B:List (Nat×Blk)) (h:List (Nat×Blk)) (k:Nat),lkB (B.reverse++h) k=(Ze B k).or (lkB h k)
 |[],h,k=>rfl
 |(n,b)::r,h,k=>by
  rw[List.reverse_cons,List.append_assoc,zdf r]
  simp only[List.singleton_append,lkB,Ze]
  cases Ze r k with
  |some x=>rfl
  |none=>
   simp only[Option.none_or]
   split<;>rfl
theorem zc9:∀(B C:List (Nat×Blk)) (k:Nat),Ze (B++C) k=(Ze C k).or (Ze B k)
 |[],C,k=>by simp[Ze]
 |(n,b)::r,C,k=>by
  simp only[List.cons_append,Ze]
  rw[zc9 r C]
  cases Ze C k<;>simp
theorem zmz{l l':List (Nat×V)}{h h':List (Nat×Blk)}{gl gl':List (Nat×V)}{E:List Nat}{d:Nat}{u:V}{MB bs:List (Nat×Blk)}(h1:erL E l l')(h2:erH E h h')(h3:erL E gl gl'):
  (mk l h<|lk gl).app ⟨E,some (d,u),MB++bs⟩=mk ((d,u)::l') (bs.reverse++(MB.reverse++h')) (lk gl'):=by
 refine St.ext' (fun t=> ?_) (fun k=> ?_) ?_
 ·rw[zaw]
  simp only
  rw[zbQ]
  show(if t=d then u else(lk l t).er E)=lk ((d,u)::l') t
  simp only[lk]
  split
  ·rfl
  ·exact(h1.lk t).symm
 ·rw[zbS]
  simp only
  rw[zbQ]
  show(Ze (MB++bs) k).or (if E.contains k then none else(lkB h k).map (Blk.er E))=lkB (bs.reverse++(MB.reverse++h')) k
  rw[zdf,zdf,zc9,h2.lk k]
  cases Ze bs k<;>simp
 ·rw[zhI,zbQ]
  show(fun t=>(lk gl t).er E)=lk gl'
  funext t
  exact(h3.lk t).symm
section
variable {P:Program} {nn:Nat} {L:List RO} {Q:St→Prop} {l l':List (Nat×V)} {h h' h2:List (Nat×Blk)} {gl gl':List (Nat×V)} {d f:Nat} {fo:Opd} {fv u:V} {us vs:List V} {args:List Opd} {as:List Ar} {ON ls G E:List Nat} {rs':List D} {MB bs:List (Nat×Blk)}
theorem zoD(hf0:Ev l fo fv)(hcl:Cl fv f us)(hf:FnS P (mk l h<|lk gl) f as rs')(ha:Evs l args vs)(hA:AO h (vs++us) as ON ls)(hM:JL (vs++us) as=MB)(hE:Qr G MB=E)(hok:zd3 ON ls G (MB.map (·.1))=true)(hs:SZ h MB)
  (h1:erL E l l') (h2':erH E h h') (h3:erL E gl gl') (hu:jg (d * 64) rs'=(u,bs)) (hh:bs.reverse++(MB.reverse++h')=h2) (hfr:yg (mk [] (MB.reverse++h') noG) ((d * 64+63)::bs.map (·.1)))
  (K:RM P nn L (mk ((d,u)::l') h2<|lk gl') Q):RM P nn (⟨⟨none,.callv d fo args⟩,0,[]⟩::L) (mk l h<|lk gl) Q:=⟨RM0.call (by
 subst hM;subst hE;subst hh
 simp only[zd3,Bool.and_eq_true,decide_eq_true_eq,List.all_eq_true] at hok
 obtain⟨⟨⟨⟨⟨k1,k2⟩,k3⟩,k4⟩,k5⟩,k6⟩:=hok
 rw[hf0.ev,ha.ev]
 refine⟨(f,us),as,ON,ls,G,rs',true,hcl,hA.args,k1,fun n hn=>by simpa using k2 n hn,hf,fun n hn=>by simpa using k3 n hn,fun n hn=>by simpa using k4 n hn,fun n hn=>by have h:=k5 n hn;rw[Nat.blt_eq] at h;exact h,fun n hn=>by have h:=k6 n hn;rw[Nat.blt_eq] at h;exact h,fun p hp=>hs.mem p hp,?_⟩
 rw[hu]
 simp only[if_true]
 refine⟨?_,?_⟩
 ·have e:((mk l h<|lk gl).er<|Qr G<|JL (vs++us) as).blks (JL (vs++us) as)=mk l' ((JL (vs++us) as).reverse++h') (lk gl'):=by
   refine St.ext' (fun t=> ?_) (fun k=> ?_) ?_
   ·rw[(Ko _ _).1];exact(h1.lk t).symm
   ·rw[zaR]
    show _=lkB _ k
    rw[zdf,h2'.lk k]
    rfl
   ·rw[(Ko _ _).2];funext t;exact(h3.lk t).symm
  rw[e,zei (s:=mk [] ((JL (vs++us) as).reverse++h') noG) (s':=mk l' ((JL (vs++us) as).reverse++h') (lk gl')) rfl]
  exact hfr
 ·show RM0 P nn L ((mk l h<|lk gl).app _) Q
  rw[zmz h1 h2' h3]
  exact K.out)⟩
theorem zmd(hf0:Ev l fo fv)(hcl:Cl fv f us)(hf:FnS P (mk l h<|lk gl) f as rs')(ha:Evs l args vs)(hA:AO h (vs++us) as ON ls)(hM:JL (vs++us) as=MB)(hE:Qr G MB=E)(hok:zd3 ON ls G (MB.map (·.1))=true)(hs:SZ h MB)
  (h1:erL E l l') (h2':erH E h h') (h3:erL E gl gl') (hu:zeh rs'=u) (hh:MB.reverse++h'=h2)
  (K:RM P nn L (mk ((d,u)::l') h2<|lk gl') Q):RM P nn (⟨⟨none,.callv d fo args⟩,0,[]⟩::L) (mk l h<|lk gl) Q:=⟨RM0.call (by
 subst hM;subst hE;subst hh;subst hu
 simp only[zd3,Bool.and_eq_true,decide_eq_true_eq,List.all_eq_true] at hok
 obtain⟨⟨⟨⟨⟨k1,k2⟩,k3⟩,k4⟩,k5⟩,k6⟩:=hok
 rw[hf0.ev,ha.ev]
 refine⟨(f,us),as,ON,ls,G,rs',false,hcl,hA.args,k1,fun n hn=>by simpa using k2 n hn,hf,fun n hn=>by simpa using k3 n hn,fun n hn=>by simpa using k4 n hn,fun n hn=>by have h:=k5 n hn;rw[Nat.blt_eq] at h;exact h,fun n hn=>by have h:=k6 n hn;rw[Nat.blt_eq] at h;exact h,fun p hp=>hs.mem p hp,?_⟩
 simp only[Bool.false_eq_true,if_false]
 show RM0 P nn L ((mk l h<|lk gl).app _) Q
 have:=zmz (E:=Qr G (JL (vs++us) as)) (d:=d) (u:=zeh rs') (MB:=JL (vs++us) as) (bs:=[]) h1 h2' h3
 rw[List.append_nil] at this
 rw[this]
 exact K.out)⟩
theorem zaV(hf0:Ev l fo fv)(hcl:Cl fv f us)(hf:Fn P f as true rs')(ha:Evs l args vs)(hA:AO h (vs++us) as ON ls)(hM:JL (vs++us) as=MB)(hE:Qr G MB=E)(hok:zd3 ON ls G (MB.map (·.1))=true)(hs:SZ h MB)
  (h1:erL E l l') (h2':erH E h h') (h3:erL E gl gl') (hu:jg (d * 64) rs'=(u,bs)) (hh:bs.reverse++(MB.reverse++h')=h2) (hfr:yg (mk [] (MB.reverse++h') noG) ((d * 64+63)::bs.map (·.1)))
  (K:RM P nn L (mk ((d,u)::l') h2<|lk gl') Q):RM P nn (⟨⟨none,.callv d fo args⟩,0,[]⟩::L) (mk l h<|lk gl) Q:=
 zoD hf0 hcl (.inl hf) ha hA hM hE hok hs h1 h2' h3 hu hh hfr K
theorem kG(hf0:Ev l fo fv)(hcl:Cl fv f us)(hf:Fn P f as true rs')(ha:Evs l args vs)(hA:AO h (vs++us) as ON ls)(hM:JL (vs++us) as=MB)(hE:Qr G MB=E)(hok:zd3 ON ls G (MB.map (·.1))=true)(hs:SZ h MB)
  (h1:erL E l l') (h2':erH E h h') (h3:erL E gl gl') (hu:zeh rs'=u) (hh:MB.reverse++h'=h2)
  (K:RM P nn L (mk ((d,u)::l') h2<|lk gl') Q):RM P nn (⟨⟨none,.callv d fo args⟩,0,[]⟩::L) (mk l h<|lk gl) Q:=
 zmd hf0 hcl (.inl hf) ha hA hM hE hok hs h1 h2' h3 hu hh K
end
def zmy:Nat→List V→List (Nat×V)
 |_,[]=>[]
 |k,v::vs=>(k,v)::zmy (k+1) vs
theorem zj3:∀(vs:List V) (k t:Nat),lk (zmy k vs) t=if k≤t then vAt vs (t - k) else .top
 |[],k,t=>by simp[zmy,lk,vAt]
 |v::vs,k,t=>by
  simp only[zmy,lk]
  rw[zj3 vs (k+1) t]
  by_cases e:t=k
  ·subst e;simp[vAt]
  ·rw[if_neg e]
   by_cases h:k+1≤t
   ·rw[if_pos h,if_pos (by omega)]
    have:t - k=(t - (k+1))+1:=by omega
    rw[this];simp[vAt]
   ·rw[if_neg h,if_neg (by omega)]
theorem zAF:∀(g:List (Nat×V)),lkG g=lk g:=fun g=>by
 funext n
 induction g with
 |nil=>rfl
 |cons p r ih=>obtain⟨k,v⟩:=p;simp only[lkG,lk,ih]
theorem ZE(as:List Ar):zii as=mk (zmy 0 (KA 0 as).1) (KA 0 as).2.reverse (lk<|ghL 0 as (KA 0 as).1):=by
 refine St.ext' (fun t=> ?_) (fun n=> ?_) ?_
 ·show vAt _ t=lk _ t
  rw[zj3];simp
 ·show((⟨fun _=> .top,fun _=>none,fun _=> .top⟩:St).blks (KA 0 as).2).hp n=lkB _ n
  rw[zaR]
  have:=zdf (KA 0 as).2 [] n
  rw[List.append_nil] at this
  rw[this];rfl
 ·exact zAF _
def ML(h:List (Nat×Blk))(gl:List (Nat×V)):Nat→List Ar→List Nat→Prop
 |_,[],ns=>ns=[]
 |k,a::as,ns=>match a.md with
  | .m d'=>∃v x y,Ev gl (.t k) v∧ns=x++y∧VO h v d' x∧ML h gl (k+1) as y
  |_=>ML h gl (k+1) as ns
theorem ML.nil{h:List (Nat×Blk)}{gl:List (Nat×V)}{k:Nat}:ML h gl k [] []:=rfl
theorem ML.lent{h:List (Nat×Blk)}{gl:List (Nat×V)}{k:Nat}{d:D}{as:List Ar}{ns:List Nat}(H:ML h gl (k+1) as ns):ML h gl k (⟨d,.b⟩::as) ns:=H
theorem ML.give{h:List (Nat×Blk)}{gl:List (Nat×V)}{k:Nat}{d:D}{as:List Ar}{ns:List Nat}(H:ML h gl (k+1) as ns):ML h gl k (⟨d,.g⟩::as) ns:=H
theorem ML.mut{h:List (Nat×Blk)}{gl:List (Nat×V)}{k:Nat}{d d':D}{v:V}{as:List Ar}{x y:List Nat}(h1:Ev gl (.t k) v)(h2:VO h v d' x)(H:ML h gl (k+1) as y):ML h gl k (⟨d,.m d'⟩::as) (x++y):=⟨v,x,y,h1,rfl,h2,H⟩
theorem ML.ok{l:List (Nat×V)}{h:List (Nat×Blk)}{gl:List (Nat×V)}:∀{as:List Ar} {k:Nat} {ns:List Nat},ML h gl k as ns→zez (mk l h<|lk gl) k as ns
 |[],_,_,H=>H
 |a::as,k,ns,H=>by
  unfold ML at H
  unfold zez
  split at H
  ·rename_i d' hd
   obtain⟨v,x,y,h1,h2,h3,h4⟩:=H
   rw[hd]
   refine⟨x,y,h2,?_,ML.ok h4⟩
   have e:(mk l h<|lk gl).gh k=v:=h1.ev (h:=[]) (g:=noG)
   rw[e]
   exact zke (s:=mk [] h fun _=> .top) (s':=mk l h (lk gl)) rfl h3
  ·rename_i hd
   split
   ·rename_i d' hd';exact absurd hd' (hd d')
   ·exact ML.ok H
theorem QJ{l:List (Nat×V)}{h:List (Nat×Blk)}{gl:List (Nat×V)}{as:List Ar}{ts:List JC}{rs:List D}{ns ms:List Nat}(H:RL l h ts rs ns)(M:ML h gl 0 as ms)(hn:(ns++ms).Nodup):zfB as ts rs .ret (mk l h<|lk gl):=⟨ns,ms,H.ret,M.ok,hn⟩
section
variable {P:Program} {l:List (Nat×V)} {h:List (Nat×Blk)} {g:Nat→V} {Q:St→Prop} {rs:List RO} {dep:Nat} {A:List Nat} {d:Nat} {x y z:Opd} {v u:V} {k:IntKind} {a b:Int}
theorem zhw{α:Type}{f:α→List D}{sz n r len:Nat}{zs:List D}{zv:α}{own:Bool}{cp:Option Nat}{xs:List α}(hx:Ev l x (.one<|.sl n r len))(hb:LB (qc A h) n (.data sz (xs.map f) own cp))(hz:zs=f zv)(hzl:zs.length=sz)(hle:r+len≤xs.length)
  (K:RG P rs (mk l ((n,.data sz ((xs.take r++List.replicate len zv++xs.drop (r+len)).map f) own cp)::h) g) Q):RG P (⟨⟨none,.clear sz zs x⟩,dep,A⟩::rs) (mk l h g) Q:=by
 have hb:(mk l (qc A h) g).hp n=some (.data sz (xs.map f) own cp):=hb
 refine xSt (by simp) ?_ K
 simp only[AW.ev,hx.ev,hb,List.length_map]
 rw[if_pos ⟨trivial,hle,hzl⟩]
 subst hz
 simp[List.map_take,List.map_drop]
theorem zhr{α:Type}{f:α→List D}{sz bytes n len q:Nat}{zs:List D}{own:Bool}{cp:Option Nat}{yv:V}{xs ys:List α}{l':List (Nat×V)}{h':List (Nat×Blk)}{gl:List (Nat×V)}(hx:Ev l x (.one<|.sl n 0 len))(hy:Ev l y yv)(hb:LB (qc A h) n (.data sz (xs.map f) own cp))(hl:xs.length=len)(he:El (qc A h) sz zs own yv (ys.map f))(hq:(xs++ys).length=q)(hle:q≤2147483648)(hby:bytes≤65536)(hnn:n < 1000000)
  (h1:erL [n] l l') (h2:erH [n] h h') (h3:GK [n] gl) (K:RG P rs (mk ((d,.one<|.sl n 0 q)::l') ((n,.data sz ((xs++ys).map f) own none)::h')<|lk gl) Q):RG P (⟨⟨none,.app d sz bytes zs x y⟩,dep,A⟩::rs) (mk l h<|lk gl) Q:=by
 subst hl;subst hq
 have hb:(mk l (qc A h)<|lk gl).hp n=some (.data sz (xs.map f) own cp):=hb
 have hev:AW.ev (mk l (qc A h)<|lk gl) (.app d sz bytes zs x y)=some ⟨[n],some (d,.one<|.sl n 0 (xs++ys).length),[(n,.data sz ((xs++ys).map f) own none)]⟩:=by
  simp only[AW.ev,hx.ev,hy.ev,hb,he.st,Option.bind_some,List.length_map]
  rw[if_pos ⟨trivial,trivial,by unfold big;simp only[List.length_append] at hle;omega,hby,hnn⟩]
  simp
 have hst:(mk l h<|lk gl).app ⟨[n],some (d,.one<|.sl n 0 (xs++ys).length),[(n,.data sz ((xs++ys).map f) own none)]⟩=mk ((d,.one<|.sl n 0 (xs++ys).length)::l') ((n,.data sz ((xs++ys).map f) own none)::h') (lk gl):=by
  refine St.ext' (fun t=> ?_) (fun k=> ?_) ?_
  ·show(if t=d then _ else(lk l t).er [n])=_
   unfold mk
   simp only[AW.lk]
   split
   ·rfl
   ·exact(h1.lk t).symm
  ·show(if k=n then _ else(if [n].contains k then none else(lkB h k).map (Blk.er [n])))=_
   unfold mk
   simp only[lkB]
   split
   ·rfl
   ·exact(h2.lk k).symm
  ·show(fun t=>(lk gl t).er [n])=lk gl
   funext t
   exact h3.lk t
 have:opA P ((mk l h<|lk gl).hide A) (.app d sz bytes zs x y) (fun out=>zau P rs ((mk l h<|lk gl).app out) Q):=by
  rw[JJ]
  show zcC (AW.ev _ _) _
  rw[hev]
  show zau P rs ((mk l h<|lk gl).app _) Q
  rw[hst]
  exact K.out
 exact⟨this⟩
end
end Go.AW
