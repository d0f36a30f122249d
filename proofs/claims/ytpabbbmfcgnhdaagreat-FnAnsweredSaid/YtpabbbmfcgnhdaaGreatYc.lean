/- The rules by which a call is gone through that is handed blocks, and what is known of arguments that are written. Lemmas. Conditions: none. -/
import Derived.Test.YtpabbbmfcgnhdaaGreatYb
import Derived.Test.YtpabbbmfcgnhdaaGreatXd
set_option linter.unusedVariables false
namespace Go.AW
def GK(ns:List Nat):bg→Prop
 |[]=>True
 |(_,v)::r=>v.er ns=v∧GK ns r
theorem GK.nil{ns:List Nat}:GK ns []:=trivial
theorem GK.cons{ns:List Nat}{k:Nat}{v:V}{r:bg}(h1:v.er ns=v)(h2:GK ns r):GK ns ((k,v)::r):=⟨h1,h2⟩
theorem GK.lk{ns:List Nat}:∀{gl:bg},GK ns gl→∀k,(Go.AW.lk gl k).er ns=Go.AW.lk gl k
 |[],_,k=>rfl
 |(j,v)::r,H,k=>by
  simp only[Go.AW.lk];split
  ·exact H.1
  ·exact GK.lk H.2 k
theorem zfV{s t:St}(hs:∀k m h x,qK m h (s.sl k) x→qK m h (t.sl k) x)(hh:t.hp=s.hp)(hg:∀k,t.gh k=s.gh k):Wk t s:=fun cx a w ⟨m,R⟩=>
 ⟨m,R.size,R.defers,fun k=>hs k _ _ _ (R.sl k),fun n=>by rw[hh];exact R.hp n,R.own,R.fr,fun k=>by rw[hg k];exact R.gh k⟩
theorem zU{l l':bg}{h h':bh}{gl:bg}(ns:List Nat)(h1:SL l ns l')(h2:BL h' ns h)(h3:BK h ns h')(h4:GK ns gl):Wk (mk l' h'<|lk gl) (mk l h<|lk gl):=by
 refine Wk.trans (s:=(mk l h<|lk gl).er ns) (zfV (fun k=>h1.at k) (funext fun n=> ?_) fun k=>(h4.lk k).symm) (zHN ns _);show lkB h' n=if ns.contains n then none else(lkB h n).map (Blk.er ns)
 obtain⟨i1,i2,i3⟩:=h3.at n;cases hc:ns.contains n with
 |true=>rw[i1 hc];rfl
 |false=>
  simp only[Bool.false_eq_true,if_false];cases hk:(h'.map (·.1)).contains n with
  |true=>exact i2 hk
  |false=>rw[i3 hk,h2.out hc hk];rfl
def GR(n n':Nat):bg→Prop
 |[]=>True
 |(_,v)::r=>v.ren n n'=v∧GR n n' r
theorem GR.nil{n n':Nat}:GR n n' []:=trivial
theorem GR.cons{n n' k:Nat}{v:V}{r:bg}(h1:v.ren n n'=v)(h2:GR n n' r):GR n n' ((k,v)::r):=⟨h1,h2⟩
theorem GR.lk{n n':Nat}:∀{gl:bg},GR n n' gl→∀k,(Go.AW.lk gl k).ren n n'=Go.AW.lk gl k
 |[],_,k=>rfl
 |(j,v)::r,H,k=>by
  simp only[Go.AW.lk];split
  ·exact H.1
  ·exact GR.lk H.2 k
theorem zHu{l:bg}{h:bh}{g g':Nat→V}(H:∀k,g' k=g k):mk l h g'=mk l h g:=by
 have:g'=g:=funext H;subst this;rfl
theorem zF(n n':Nat){l:bg}{h:bh}{gl:bg}(hne:Nat.beq n n'=false)(hfar:Nat.ble n 1999999=true)(hf:NB h n')(hg:GR n n' gl):Wk (mk (zjS n n' l) (zjh n n' h)<|lk gl) (mk l h<|lk gl):=by
 have:=znS (l:=l) (g:=lk gl) n n' hne hfar hf
 rwa [zHu hg.lk] at this
theorem zlv(n k:Nat){α:Type}{f:α→List D}{sz:Nat}{own:Bool}{cp:Option Nat}{xs:List α}{l:bg}{h:bh}{g:Nat→V}(hb:LB h n (.data sz (xs.map f) own cp)):
  Wk (mk l ((n,.data sz ((xs.take k).map f) own cp)::h) g) (mk l h g):=fun cx a w ⟨m,R⟩=>by
 refine⟨m,R.size,R.defers,R.sl,fun j=> ?_,R.own,R.fr,R.gh⟩;show zT cx m w.heap j (if j=n then _ else lkB h j) _;by_cases e:j=n
 ·subst e;rw[if_pos rfl];have H:=R.hp j;have e:(mk l h g).hp j=some (.data sz (xs.map f) own cp):=hb;rw[e] at H;cases hi:m.inf j with
  |none=>rw[hi] at H;exact H.elim
  |some fi=>
   rw[hi] at H;unfold zT at H ⊢;simp only at H ⊢;cases hbk:fi.blk with
   |none=>
    rw[hbk] at H;obtain⟨h1,s',o',cp',he,h2,h3⟩:=H;injection he with e1 e2 e3 e4;have:xs=[]:=by simpa using e2
    subst this;subst e1;subst e4;exact⟨h1,sz,own,cp,by simp,h2,h3⟩
   |some b=>
    rw[hbk] at H;obtain⟨h1,h2,cells,T,h3,h4,h5⟩:=H;refine⟨h1,h2,cells,T,h3,h4,?_⟩;obtain⟨i1,i2,bs,i3,i4,i5⟩:=h5;obtain⟨b1,b2,rfl,j1,_⟩:=i3.split k;refine⟨i1,i2,b1,by rw[List.map_take];exact j1,fun ho=>⟨(i4 ho).1.sublist<|List.sublist_append_left _ _,fun c hc=>(i4 ho).2 c (by simp[hc])⟩,fun ho c hc=>i5 ho c (by simp[hc])⟩
 ·rw[if_neg e];exact R.hp j
def AO(h:bh)(vs:List V)(as:List Ar)(ns us:List Nat):Prop:=xF (mk [] h noG) vs as ns us
theorem AO.nil{h:bh}:AO h [] [] [] []:=⟨rfl,rfl⟩
theorem AO.lent{h:bh}{v:V}{d:D}{vs:List V}{as:List Ar}{ns us ws:List Nat}(h1:VD h v d)(hw:KW (mk [] h noG) v=ws)(h2:AO h vs as ns us):AO h (v::vs) (⟨d,.b⟩::as) ns (ws++us):=by
 subst hw;exact⟨us,h1,rfl,h2⟩
theorem AO.give{h:bh}{v:V}{d:D}{vs:List V}{as:List Ar}{ns us x:List Nat}(h1:VO h v d x)(h2:AO h vs as ns us):AO h (v::vs) (⟨d,.g⟩::as) (x++ns) us:=⟨x,ns,rfl,h1,h2⟩
theorem AO.mut{h:bh}{v:V}{d d':D}{vs:List V}{as:List Ar}{ns us x:List Nat}(h1:VO h v d x)(h2:AO h vs as ns us):AO h (v::vs) (⟨d,.m d'⟩::as) (x++ns) us:=⟨x,ns,rfl,h1,h2⟩
theorem AO.zs{h:bh}{sz:Nat}{vs:List V}{as:List Ar}{ns us:List Nat}(h2:AO h vs as ns us):AO h (.one .zs::vs) (⟨.sl sz [],.z⟩::as) ns us:=⟨rfl,⟨sz,rfl⟩,h2⟩
theorem zjw{s s':St}(h:s'.hp=s.hp)(v:V):KW s' v=KW s v:=by
 obtain⟨sl,hp,gh⟩:=s;obtain⟨sl',hp',gh'⟩:=s';cases h;rfl
theorem zaU{s s':St}(h:s'.hp=s.hp):∀{vs:List V} {as:List Ar} {ns us:List Nat},xF s vs as ns us→xF s' vs as ns us
 |[],[],_,_,H=>H
 |v::vs,a::as,ns,us,H=>by
  unfold xF at H ⊢;split at H
  ·obtain⟨us',h1,h2,h3⟩:=H;exact⟨us',by rw[zii h];exact h1,by rw[zjw h];exact h2,zaU h h3⟩
  ·obtain⟨h1,h2,h3⟩:=H;exact⟨h1,h2,zaU h h3⟩
  ·obtain⟨x,y,h1,h2,h3⟩:=H;exact⟨x,y,h1,zig h h2,zaU h h3⟩
theorem AO.args{l:bg}{h:bh}{g:Nat→V}{vs:List V}{as:List Ar}{ns us:List Nat}(H:AO h vs as ns us):xF (mk l h g) vs as ns us:=zaU (s:=mk [] h noG) (s':=mk l h g) O H
def SZ(h:bh):bh→Prop
 |[]=>True
 |(n,b)::r=>((∃sz xs0 o cp ys o' cp',lkB h n=some (.data sz xs0 o cp)∧b= .data sz ys o' cp')∨(∃sz cs ds,lkB h n=some (.vars sz cs)∧b= .vars sz ds∧ds.length=cs.length)∨∃ds ds',lkB h n=some (.own ds)∧b= .own ds'∧ds'.length=ds.length)∧SZ h r
theorem SZ.nil{h:bh}:SZ h []:=trivial
theorem SZ.cons{h:bh}{n sz:Nat}{xs0 ys:List (List D)}{o o':Bool}{cp cp':Option Nat}{r:bh}(h1:LB h n (.data sz xs0 o cp))(h3:SZ h r):SZ h ((n,.data sz ys o' cp')::r):=
 ⟨.inl ⟨sz,xs0,o,cp,ys,o',cp',h1,rfl⟩,h3⟩
theorem jI{h:bh}{n sz:Nat}{cs ds:List C}{r:bh}(h1:LB h n (.vars sz cs))(h2:ds.length=cs.length)(h3:SZ h r):SZ h ((n,.vars sz ds)::r):=
 ⟨.inr<|.inl ⟨sz,cs,ds,h1,rfl,h2⟩,h3⟩
theorem zkV{h:bh}{n:Nat}{ds ds':List D}{r:bh}(h1:LB h n (.own ds))(h2:ds'.length=ds.length)(h3:SZ h r):SZ h ((n,.own ds')::r):=
 ⟨.inr<|.inr ⟨ds,ds',h1,rfl,h2⟩,h3⟩
theorem SZ.mem{l:bg}{h:bh}{g:Nat→V}:∀{r:bh},SZ h r→∀p∈r,zBc (mk l h g) p
 |[],_,p,hp=>by cases hp
 |(n,b)::r,H,p,hp=>by
  rcases List.mem_cons.1 hp with rfl|hp
  ·exact H.1
  ·exact SZ.mem H.2 p hp
def JK(ON ls G MN:List Nat):Bool:=
 decide ON.Nodup&&ls.all (fun n=>!ON.contains n)&&ON.all (fun n=>G.contains n||MN.contains n)&&G.all (fun n=>!MN.contains n)&&MN.all (fun n=>Nat.blt n 1000000)&&G.all (fun n=>Nat.blt n 1000000)
theorem Qc{α:Type}{x:Option α}{K K':α→Prop}(h:Qb x K)(hk:∀a,K a→K' a):Qb x K':=by
 cases x with
 |none=>exact h
 |some a=>exact hk a h
theorem zhh{P:Program}{s:St}{d:Nat}{f:V}{vs:List V}{K K':Out→Prop}(h:callB P s d f vs K)(hk:∀a,K a→K' a):callB P s d f vs K':=by
 rcases h with h|⟨k,B,u,hc,hB,hv,h⟩;rotate_left
 ·exact .inr ⟨k,B,u,hc,hB,hv,hk _ h⟩
 refine .inl ?_;unfold callB0 at h ⊢;refine Qc h fun c h=>Qc h fun ds h=> ?_;obtain⟨o,md,rs,h1,h2⟩:=h;refine⟨o,md,rs,h1,?_⟩;cases md with
 |true=>simp only[if_true] at h2 ⊢;exact⟨h2.1,h2.2.1,h2.2.2.1,hk _ h2.2.2.2⟩
 |false=>simp only[Bool.false_eq_true,if_false] at h2 ⊢;exact⟨h2.1,hk _ h2.2⟩
theorem zgt{P:Program}{s:St}{o:IOp}{K K':Out→Prop}(h:opA P s o K)(hk:∀a,K a→K' a):opA P s o K':=by
 cases o<;>first|exact zhh h hk|(simp only[opA] at h ⊢;exact Qc h hk)
theorem KC{P:Program}{s:St}{g:GOp}{K K':Out→Prop}(h:je P s g K)(hk:∀a,K a→K' a):je P s g K':=by
 obtain⟨gg,o⟩:=g;cases gg with
 |none=>exact zgt h hk
 |some p=>
  obtain⟨t,want⟩:=p;unfold je at h ⊢;simp only at h ⊢;generalize s.sl t=v at h ⊢
  revert h
  split
  ·intro h;split at h
   ·rename_i e;rw[if_pos e];exact zgt h hk
   ·rename_i e;rw[if_neg e];exact hk _ h
  ·intro h;exact hk _ h
  ·intro h;exact h.elim
theorem zfl{P:Program}:∀{gs:List GOp} {s:St} {Q Q':St→Prop},zdr P gs s Q→(∀s,Q s→Q' s)→zdr P gs s Q'
 |[],_,_,_,h,hq=>hq _ h
 |_::_,_,_,_,h,hq=>KC h fun _ h=>zfl h hq
structure RM(P:Program)(n:Nat)(L:List RO)(s:St)(Q:St→Prop):Prop where
 out:RM0 P n L s Q
section
variable {P:Program} {nn:Nat} {L:List RO} {s t:St} {Q:St→Prop} {Qx:Exit→St→Prop}
theorem zj(h:RM P nn L s (Qx .normal)):AW P nn (.reg L) Qx s:=⟨fun cx code hh hh' a w hP hn hic ⟨m,R⟩=>by
 obtain⟨id,ops,gs,rfl,hops,hL⟩:=zgE hic;subst hP;subst hn;exact wp_region_list (h.out gs hL cx ops ops.toList m a w _ O O hops R (fun s' hs m' a' w' R'=>⟨s',hs,m',R'⟩))⟩
theorem zk(h:RG P L s Q):RM P nn L s Q:=⟨RM0.of fun gs e=>kB (by rw[←e];exact h.out)⟩
theorem zY{r:RO}(h:RG P [r] s (fun s'=>RM P nn L s' Q)):RM P nn (r::L) s Q:=⟨RM0.split 1 fun gs e=>by
 have e:[r]=gs.map fun g=>⟨g,0,[]⟩:=by simpa using e
 have:=kB (P:=P) (gs:=gs) (s:=s) (Q:=fun s'=>RM P nn L s' Q) (by rw[←e];exact h.out);refine zfl this fun s' hs=> ?_;simpa using hs.out⟩
theorem zNa(hw:∀(cx:Cx) (m:M) (a:Act) (w:World),zt cx m s a w→∃m',zt cx m' t a w)(h:RM P nn L t Q):RM P nn L s Q:=⟨fun gs hL cx ops l m a w Qx hP hn hm R hQ=>by
 obtain⟨m',R'⟩:=hw cx m a w R;exact h.out gs hL cx ops l m' a w Qx hP hn hm R' hQ⟩
theorem y3(hw:Wk t s)(h:RM P nn L t Q):RM P nn L s Q:=zNa (fun cx m a w R=>hw cx a w ⟨m,R⟩) h
end
theorem Ko:∀(B:bh) (h:bh) (k:Nat),lkB (B.reverse++h) k=(yR B k).or (lkB h k)
 |[],h,k=>rfl
 |(n,b)::r,h,k=>by
  rw[List.reverse_cons,List.append_assoc,Ko r];simp only[List.singleton_append,lkB,yR];cases yR r k with
  |some x=>rfl
  |none=>
   simp only[Option.none_or];split<;>rfl
theorem zbQ:∀(B C:bh) (k:Nat),yR (B++C) k=(yR C k).or (yR B k)
 |[],C,k=>by simp[yR]
 |(n,b)::r,C,k=>by
  simp only[List.cons_append,yR];rw[zbQ r C];cases yR C k<;>simp
theorem zd2{l l':bg}{h h':bh}{gl gl':bg}{E:List Nat}{d:Nat}{u:V}{MB bs:bh}(h1:erL E l l')(h2:erH E h h')(h3:erL E gl gl'):
  (mk l h<|lk gl).app ⟨E,some (d,u),MB++bs⟩=mk ((d,u)::l') (bs.reverse++(MB.reverse++h')) (lk gl'):=by
 refine St.ext' (fun t=> ?_) (fun k=> ?_) ?_
 ·rw[kL];simp only;rw[zav];show(if t=d then u else(lk l t).er E)=lk ((d,u)::l') t;simp only[lk];split
  ·rfl
  ·exact(h1.lk t).symm
 ·rw[KG];simp only;rw[zav];show(yR (MB++bs) k).or (if E.contains k then none else(lkB h k).map (Blk.er E))=lkB (bs.reverse++(MB.reverse++h')) k;rw[Ko,Ko,zbQ,h2.lk k];cases yR bs k<;>simp
 ·rw[zf3,zav];show(fun t=>(lk gl t).er E)=lk gl';funext t;exact(h3.lk t).symm
section
variable {P:Program} {nn:Nat} {L:List RO} {Q:St→Prop} {l l':bg} {h h' h2:bh} {gl gl':bg} {d f:Nat} {fo:Opd} {fv u:V} {us vs:List V} {args:List Opd} {as:List Ar} {ON ls G E:List Nat} {rs':List D} {MB bs:bh}
theorem ziv(hf0:Ev l fo fv)(hcl:Cl fv f us)(hf:FnS P (mk l h<|lk gl) f as rs')(ha:Evs l args vs)(hA:AO h (vs++us) as ON ls)(hM:yV (vs++us) as=MB)(hE:yX G MB=E)(hok:JK ON ls G (MB.map (·.1))=true)(hs:SZ h MB)
  (h1:erL E l l') (h2':erH E h h') (h3:erL E gl gl') (hu:ZP (d * 64) rs'=(u,bs)) (hh:bs.reverse++(MB.reverse++h')=h2) (hfr:qp (mk [] (MB.reverse++h') noG) ((d * 64+63)::bs.map (·.1)))
  (K:RM P nn L (mk ((d,u)::l') h2<|lk gl') Q):RM P nn (⟨⟨none,.callv d fo args⟩,0,[]⟩::L) (mk l h<|lk gl) Q:=⟨RM0.call (by
 subst hM;subst hE;subst hh;simp only[JK,Bool.and_eq_true,decide_eq_true_eq,List.all_eq_true] at hok;obtain⟨⟨⟨⟨⟨k1,k2⟩,k3⟩,k4⟩,k5⟩,k6⟩:=hok;rw[hf0.ev,ha.ev];refine⟨(f,us),as,ON,ls,G,rs',true,hcl,hA.args,k1,fun n hn=>by simpa using k2 n hn,hf,fun n hn=>by simpa using k3 n hn,fun n hn=>by simpa using k4 n hn,fun n hn=>by have h:=k5 n hn;rw[Nat.blt_eq] at h;exact h,fun n hn=>by have h:=k6 n hn;rw[Nat.blt_eq] at h;exact h,fun p hp=>hs.mem p hp,?_⟩;rw[hu];simp only[if_true];refine⟨?_,?_⟩
 ·have e:((mk l h<|lk gl).er<|yX G<|yV (vs++us) as).blks (yV (vs++us) as)=mk l' ((yV (vs++us) as).reverse++h') (lk gl'):=by
   refine St.ext' (fun t=> ?_) (fun k=> ?_) ?_
   ·rw[(Js _ _).1];exact(h1.lk t).symm
   ·rw[xC];show _=lkB _ k;rw[Ko,h2'.lk k];rfl
   ·rw[(Js _ _).2];funext t;exact(h3.lk t).symm
  rw[e,XW (s:=mk [] ((yV (vs++us) as).reverse++h') noG) (s':=mk l' ((yV (vs++us) as).reverse++h') (lk gl')) rfl];exact hfr
 ·show RM0 P nn L ((mk l h<|lk gl).app _) Q;rw[zd2 h1 h2' h3];exact K.out)⟩
theorem zgl(hf0:Ev l fo fv)(hcl:Cl fv f us)(hf:FnS P (mk l h<|lk gl) f as rs')(ha:Evs l args vs)(hA:AO h (vs++us) as ON ls)(hM:yV (vs++us) as=MB)(hE:yX G MB=E)(hok:JK ON ls G (MB.map (·.1))=true)(hs:SZ h MB)
  (h1:erL E l l') (h2':erH E h h') (h3:erL E gl gl') (hu:XK rs'=u) (hh:MB.reverse++h'=h2)
  (K:RM P nn L (mk ((d,u)::l') h2<|lk gl') Q):RM P nn (⟨⟨none,.callv d fo args⟩,0,[]⟩::L) (mk l h<|lk gl) Q:=⟨RM0.call (by
 subst hM;subst hE;subst hh;subst hu;simp only[JK,Bool.and_eq_true,decide_eq_true_eq,List.all_eq_true] at hok;obtain⟨⟨⟨⟨⟨k1,k2⟩,k3⟩,k4⟩,k5⟩,k6⟩:=hok;rw[hf0.ev,ha.ev];refine⟨(f,us),as,ON,ls,G,rs',false,hcl,hA.args,k1,fun n hn=>by simpa using k2 n hn,hf,fun n hn=>by simpa using k3 n hn,fun n hn=>by simpa using k4 n hn,fun n hn=>by have h:=k5 n hn;rw[Nat.blt_eq] at h;exact h,fun n hn=>by have h:=k6 n hn;rw[Nat.blt_eq] at h;exact h,fun p hp=>hs.mem p hp,?_⟩;simp only[Bool.false_eq_true,if_false];show RM0 P nn L ((mk l h<|lk gl).app _) Q;have:=zd2 (E:=yX G (yV (vs++us) as)) (d:=d) (u:=XK rs') (MB:=yV (vs++us) as) (bs:=[]) h1 h2' h3;rw[List.append_nil] at this;rw[this];exact K.out)⟩
theorem zdj(hf0:Ev l fo fv)(hcl:Cl fv f us)(hf:Fn P f as true rs')(ha:Evs l args vs)(hA:AO h (vs++us) as ON ls)(hM:yV (vs++us) as=MB)(hE:yX G MB=E)(hok:JK ON ls G (MB.map (·.1))=true)(hs:SZ h MB)
  (h1:erL E l l') (h2':erH E h h') (h3:erL E gl gl') (hu:ZP (d * 64) rs'=(u,bs)) (hh:bs.reverse++(MB.reverse++h')=h2) (hfr:qp (mk [] (MB.reverse++h') noG) ((d * 64+63)::bs.map (·.1)))
  (K:RM P nn L (mk ((d,u)::l') h2<|lk gl') Q):RM P nn (⟨⟨none,.callv d fo args⟩,0,[]⟩::L) (mk l h<|lk gl) Q:=
 ziv hf0 hcl (.inl hf) ha hA hM hE hok hs h1 h2' h3 hu hh hfr K
theorem zod{v0:Value}{x0:D}(hg:lk gl 63= .one (.d<|.both v0 x0))(hf0:Ev l fo fv)(hcl:Cl fv f us)(hf:FnC P v0 x0 f as rs')(ha:Evs l args vs)(hA:AO h (vs++us) as ON ls)(hM:yV (vs++us) as=MB)(hE:yX G MB=E)(hok:JK ON ls G (MB.map (·.1))=true)(hs:SZ h MB)
  (h1:erL E l l') (h2':erH E h h') (h3:erL E gl gl') (hu:ZP (d * 64) rs'=(u,bs)) (hh:bs.reverse++(MB.reverse++h')=h2) (hfr:qp (mk [] (MB.reverse++h') noG) ((d * 64+63)::bs.map (·.1)))
  (K:RM P nn L (mk ((d,u)::l') h2<|lk gl') Q):RM P nn (⟨⟨none,.callv d fo args⟩,0,[]⟩::L) (mk l h<|lk gl) Q:=
 ziv hf0 hcl (.inr<|.inl ⟨v0,x0,hg,hf⟩) ha hA hM hE hok hs h1 h2' h3 hu hh hfr K
theorem Zo{v0:Value}{x0:D}(hg:lk gl 63= .one (.d<|.both v0 x0))(hf0:Ev l fo fv)(hcl:Cl fv f us)(hf:FnC P v0 x0 f as rs')(ha:Evs l args vs)(hA:AO h (vs++us) as ON ls)(hM:yV (vs++us) as=MB)(hE:yX G MB=E)(hok:JK ON ls G (MB.map (·.1))=true)(hs:SZ h MB)
  (h1:erL E l l') (h2':erH E h h') (h3:erL E gl gl') (hu:XK rs'=u) (hh:MB.reverse++h'=h2)
  (K:RM P nn L (mk ((d,u)::l') h2<|lk gl') Q):RM P nn (⟨⟨none,.callv d fo args⟩,0,[]⟩::L) (mk l h<|lk gl) Q:=
 zgl hf0 hcl (.inr<|.inl ⟨v0,x0,hg,hf⟩) ha hA hM hE hok hs h1 h2' h3 hu hh K
end
def zen:Nat→List V→bg
 |_,[]=>[]
 |k,v::vs=>(k,v)::zen (k+1) vs
theorem zil:∀(vs:List V) (k t:Nat),lk (zen k vs) t=if k≤t then vAt vs (t - k) else .top
 |[],k,t=>by simp[zen,lk,vAt]
 |v::vs,k,t=>by
  simp only[zen,lk];rw[zil vs (k+1) t];by_cases e:t=k
  ·subst e;simp[vAt]
  ·rw[if_neg e];by_cases h:k+1≤t
   ·rw[if_pos h,if_pos (by omega)];have:t - k=(t - (k+1))+1:=by omega
    rw[this];simp[vAt]
   ·rw[if_neg h,if_neg (by omega)]
theorem zv9:∀(g:bg),lkG g=lk g:=fun g=>by
 funext n;induction g with
 |nil=>rfl
 |cons p r ih=>obtain⟨k,v⟩:=p;simp only[lkG,lk,ih]
theorem XY(as:List Ar):zcR as=mk (zen 0 (ZH 0 as).1) (ZH 0 as).2.reverse (lk<|ghL 0 as (ZH 0 as).1):=by
 refine St.ext' (fun t=> ?_) (fun n=> ?_) ?_
 ·show vAt _ t=lk _ t;rw[zil];simp
 ·show((⟨fun _=> .top,fun _=>none,fun _=> .top⟩:St).blks (ZH 0 as).2).hp n=lkB _ n;rw[xC];have:=Ko (ZH 0 as).2 [] n;rw[List.append_nil] at this;rw[this];rfl
 ·exact zv9 _
theorem JY(v0:Value)(x0:D)(as:List Ar):zfn v0 x0 as=mk (zen 0 (ZH 0 as).1) (ZH 0 as).2.reverse (lk ((63,.one<|.d<|.both v0 x0)::ghL 0 as (ZH 0 as).1)):=by
 unfold zfn;rw[XY];rfl
theorem zAG{v0:Value}{x0:D}(t:Nat)(c c':D){l:bg}{h:bh}{gl:bg}(hg:lk gl 63= .one (.d<|.both v0 x0))(ht:lk l t= .one (.d c))
  (H:∀(hp:Hp) (u:Value) (bs bx:List Nat),Rd false hp c u bs→Rd false hp (.both v0 x0) v0 bx→Rd false hp c' u bs∨Rd false hp c' u bx∨Rd false hp c' u []):Wk (mk ((t,.one<|.d c')::l) h<|lk gl) (mk l h<|lk gl):=fun cx a w ⟨m,R⟩=>by
 refine⟨m,R.size,R.defers,fun k=> ?_,R.hp,R.own,R.fr,R.gh⟩;show qK m w.heap (if k=t then _ else lk l k) _;by_cases e:k=t
 ·subst e;rw[if_pos rfl];have A:=R.sl k;have e1:(mk l h<|lk gl).sl k= .one (.d c):=ht;rw[e1] at A;have G:=R.gh 63;have e2:(mk l h<|lk gl).gh 63= .one (.d<|.both v0 x0):=hg;rw[e2] at G;obtain⟨a1,b1,r1,o1⟩:=A;obtain⟨_,b2,r2,o2⟩:=G;have hv:v0=cx.gh 63:=by simp only[Rd] at r2;exact r2.1.1
  rw[←hv] at r2;rcases H _ _ _ _ r1 r2 with r|r|r
  ·exact⟨a1,b1,r,o1⟩
  ·exact⟨a1,b2,r,o2⟩
  ·exact⟨a1,[],r,by simp⟩
 ·rw[if_neg e];exact R.sl k
theorem zmP{v0:Value}{x0:D}(t:Nat){l:bg}{h:bh}{gl:bg}(hg:lk gl 63= .one (.d<|.both v0 x0))(ht:lk l t= .one (.d<|.pin v0)):Wk (mk ((t,.one<|.d<|.both v0 x0)::l) h<|lk gl) (mk l h<|lk gl):=
 zAG t _ _ hg ht fun hp u bs bx r1 r2=>by
  have e:v0=u:=by simp only[Rd] at r1;exact r1.1.1
  subst e;exact .inr (.inl r2)
def ML(h:bh)(gl:bg):Nat→List Ar→List Nat→Prop
 |_,[],ns=>ns=[]
 |k,a::as,ns=>match a.md with
  | .m d'=>∃v x y,Ev gl (.t k) v∧ns=x++y∧VO h v d' x∧ML h gl (k+1) as y
  |_=>ML h gl (k+1) as ns
theorem ML.nil{h:bh}{gl:bg}{k:Nat}:ML h gl k [] []:=rfl
theorem ML.lent{h:bh}{gl:bg}{k:Nat}{d:D}{as:List Ar}{ns:List Nat}(H:ML h gl (k+1) as ns):ML h gl k (⟨d,.b⟩::as) ns:=H
theorem ML.give{h:bh}{gl:bg}{k:Nat}{d:D}{as:List Ar}{ns:List Nat}(H:ML h gl (k+1) as ns):ML h gl k (⟨d,.g⟩::as) ns:=H
theorem ML.mut{h:bh}{gl:bg}{k:Nat}{d d':D}{v:V}{as:List Ar}{x y:List Nat}(h1:Ev gl (.t k) v)(h2:VO h v d' x)(H:ML h gl (k+1) as y):ML h gl k (⟨d,.m d'⟩::as) (x++y):=⟨v,x,y,h1,rfl,h2,H⟩
theorem ML.ok{l:bg}{h:bh}{gl:bg}:∀{as:List Ar} {k:Nat} {ns:List Nat},ML h gl k as ns→zbI (mk l h<|lk gl) k as ns
 |[],_,_,H=>H
 |a::as,k,ns,H=>by
  unfold ML at H;unfold zbI;split at H
  ·rename_i d' hd;obtain⟨v,x,y,h1,h2,h3,h4⟩:=H;rw[hd];refine⟨x,y,h2,?_,ML.ok h4⟩;have e:(mk l h<|lk gl).gh k=v:=h1.ev (h:=[]) (g:=noG);rw[e];exact zig (s:=mk [] h fun _=> .top) (s':=mk l h (lk gl)) O h3
  ·rename_i hd;split
   ·rename_i d' hd';exact absurd hd' (hd d')
   ·exact ML.ok H
theorem zdN{l:bg}{h:bh}{gl:bg}{as:List Ar}{ts:List ZG}{rs:List D}{ns ms:List Nat}(H:RL l h ts rs ns)(M:ML h gl 0 as ms)(hn:(ns++ms).Nodup):X5 as ts rs .ret (mk l h<|lk gl):=⟨ns,ms,H.ret,M.ok,hn⟩
theorem ztT{l:bg}{h:bh}{gl:bg}{as:List Ar}{ts:List ZG}{rs:List D}{ns ms:List Nat}(H:RL l h ts rs ns)(M:ML h gl 0 as ms)(hn:(ns++ms).Nodup):X5 as ts rs .normal (mk l h<|lk gl):=⟨ns,ms,H.ret,M.ok,hn⟩
section
variable {P:Program} {l:bg} {h:bh} {g:Nat→V} {Q:St→Prop} {rs:List RO} {dep:Nat} {A:List Nat} {d:Nat} {x y z:Opd} {v u:V} {k:IntKind} {a b:Int}
theorem zBV{α:Type}{f:α→List D}{sz n r len:Nat}{zs:List D}{zv:α}{own:Bool}{cp:Option Nat}{xs:List α}(hx:Ev l x (.one<|.sl n r len))(hb:LB (zZ A h) n (.data sz (xs.map f) own cp))(hz:zs=f zv)(hzl:zs.length=sz)(hle:r+len≤xs.length)
  (K:RG P rs (mk l ((n,.data sz ((xs.take r++List.replicate len zv++xs.drop (r+len)).map f) own cp)::h) g) Q):RG P (⟨⟨none,.clear sz zs x⟩,dep,A⟩::rs) (mk l h g) Q:=by
 have hb:(mk l (zZ A h) g).hp n=some (.data sz (xs.map f) own cp):=hb;refine xSt (by simp) ?_ K;simp only[AW.ev,hx.ev,hb,List.length_map];rw[if_pos ⟨trivial,hle,hzl⟩];subst hz;simp[List.map_take,List.map_drop]
theorem Qt{α:Type}{f:α→List D}{sz bytes n len q:Nat}{zs:List D}{own:Bool}{cp:Option Nat}{yv:V}{xs ys:List α}{l':bg}{h':bh}{gl:bg}(hx:Ev l x (.one<|.sl n 0 len))(hy:Ev l y yv)(hb:LB (zZ A h) n (.data sz (xs.map f) own cp))(hl:xs.length=len)(he:El (zZ A h) sz zs own yv (ys.map f))(hq:(xs++ys).length=q)(hle:q≤2147483648)(hby:bytes≤65536)(hnn:n < 1000000)
  (h1:erL [n] l l') (h2:erH [n] h h') (h3:GK [n] gl) (K:RG P rs (mk ((d,.one<|.sl n 0 q)::l') ((n,.data sz ((xs++ys).map f) own none)::h')<|lk gl) Q):RG P (⟨⟨none,.app d sz bytes zs x y⟩,dep,A⟩::rs) (mk l h<|lk gl) Q:=by
 subst hl;subst hq;have hb:(mk l (zZ A h)<|lk gl).hp n=some (.data sz (xs.map f) own cp):=hb;have hev:AW.ev (mk l (zZ A h)<|lk gl) (.app d sz bytes zs x y)=some ⟨[n],some (d,.one<|.sl n 0 (xs++ys).length),[(n,.data sz ((xs++ys).map f) own none)]⟩:=by
  simp only[AW.ev,hx.ev,hy.ev,hb,he.st,Option.bind_some,List.length_map];rw[if_pos ⟨trivial,trivial,by unfold big;simp only[List.length_append] at hle;omega,hby,hnn⟩];simp
 have hst:(mk l h<|lk gl).app ⟨[n],some (d,.one<|.sl n 0 (xs++ys).length),[(n,.data sz ((xs++ys).map f) own none)]⟩=mk ((d,.one<|.sl n 0 (xs++ys).length)::l') ((n,.data sz ((xs++ys).map f) own none)::h') (lk gl):=by
  refine St.ext' (fun t=> ?_) (fun k=> ?_) ?_
  ·show(if t=d then _ else(lk l t).er [n])=_;unfold mk;simp only[AW.lk];split
   ·rfl
   ·exact(h1.lk t).symm
  ·show(if k=n then _ else(if [n].contains k then none else(lkB h k).map (Blk.er [n])))=_;unfold mk;simp only[lkB];split
   ·rfl
   ·exact(h2.lk k).symm
  ·show(fun t=>(lk gl t).er [n])=lk gl;funext t;exact h3.lk t
 have:opA P ((mk l h<|lk gl).hide A) (.app d sz bytes zs x y) (fun out=>Ka P rs ((mk l h<|lk gl).app out) Q):=by
  rw[Zx];show Qb (AW.ev _ _) _;rw[hev];show Ka P rs ((mk l h<|lk gl).app _) Q;rw[hst];exact K.out
 exact⟨this⟩
end
end Go.AW
