/- The rules by which a call is gone through that is handed blocks, and what is known of arguments that are written. Lemmas. Conditions: none. -/
import Derived.Test.YtpabbbmfcgnhdaaGreatYb
import Derived.Test.YtpabbbmfcgnhdaaGreatXd
set_option linter.unusedVariables false
namespace Go.AW
def GK(ns:List Nat):bH→Prop
 |[]=>True
 |(_,v)::r=>v.er ns=v∧GK ns r
theorem GK.nil{ns:List Nat}:GK ns []:=trivial
theorem GK.cons{ns:List Nat}{k:Nat}{v:V}{r:bH}(h1:v.er ns=v)(h2:GK ns r):GK ns ((k,v)::r):=⟨h1,h2⟩
theorem GK.lk{ns:List Nat}:∀{gl:bH},GK ns gl→∀k,(Go.AW.lk gl k).er ns=Go.AW.lk gl k
 |[],_,k=>rfl
 |(j,v)::r,H,k=>by
  simp only[Go.AW.lk];split
  ·exact H.1
  ·exact GK.lk H.2 k
theorem zoU{s t:St}(hs:∀k m h x,jN m h (s.sl k) x→jN m h (t.sl k) x)(hh:t.hp=s.hp)(hg:∀k,t.gh k=s.gh k):Wk t s:=fun cx a w ⟨m,R⟩=>
 ⟨m,R.size,R.defers,fun k=>hs k _ _ _ (R.sl k),fun n=>by rw[hh];exact R.hp n,R.own,R.fr,fun k=>by rw[hg k];exact R.gh k⟩
theorem zG{l l':bH}{h h':bI}{gl:bH}(ns:List Nat)(h1:SL l ns l')(h2:BL h' ns h)(h3:BK h ns h')(h4:GK ns gl):Wk (mk l' h'<|lk gl) (mk l h<|lk gl):=by
 refine Wk.trans (s:=(mk l h<|lk gl).er ns) (zoU (fun k=>h1.at k) (funext fun n=> ?_) fun k=>(h4.lk k).symm) (zpU ns _);show lkB h' n=if ns.contains n then none else(lkB h n).map (Blk.er ns)
 obtain⟨i1,i2,i3⟩:=h3.at n;cases hc:ns.contains n with
 |true=>rw[i1 hc];rfl
 |false=>
  simp only[Bool.false_eq_true,if_false];cases hk:(h'.map (·.1)).contains n with
  |true=>exact i2 hk
  |false=>rw[i3 hk,h2.out hc hk];rfl
def GR(n n':Nat):bH→Prop
 |[]=>True
 |(_,v)::r=>v.ren n n'=v∧GR n n' r
theorem GR.nil{n n':Nat}:GR n n' []:=trivial
theorem GR.cons{n n' k:Nat}{v:V}{r:bH}(h1:v.ren n n'=v)(h2:GR n n' r):GR n n' ((k,v)::r):=⟨h1,h2⟩
theorem GR.lk{n n':Nat}:∀{gl:bH},GR n n' gl→∀k,(Go.AW.lk gl k).ren n n'=Go.AW.lk gl k
 |[],_,k=>rfl
 |(j,v)::r,H,k=>by
  simp only[Go.AW.lk];split
  ·exact H.1
  ·exact GR.lk H.2 k
theorem zHg{l:bH}{h:bI}{g g':Nat→V}(H:∀k,g' k=g k):mk l h g'=mk l h g:=by
 have:g'=g:=funext H;subst this;rfl
theorem ZG(n n':Nat){l:bH}{h:bI}{gl:bH}(hne:Nat.beq n n'=false)(hfar:Nat.ble n 1999999=true)(hf:NB h n')(hg:GR n n' gl):Wk (mk (zlb n n' l) (zj6 n n' h)<|lk gl) (mk l h<|lk gl):=by
 have:=zlG (l:=l) (g:=lk gl) n n' hne hfar hf
 rwa [zHg hg.lk] at this
theorem zlo(n k:Nat){α:Type}{f:α→List D}{sz:Nat}{own:Bool}{cp:Option Nat}{xs:List α}{l:bH}{h:bI}{g:Nat→V}(hb:LB h n (.data sz (xs.map f) own cp)):
  Wk (mk l ((n,.data sz ((xs.take k).map f) own cp)::h) g) (mk l h g):=fun cx a w ⟨m,R⟩=>by
 refine⟨m,R.size,R.defers,R.sl,fun j=> ?_,R.own,R.fr,R.gh⟩;show qa cx m w.heap j (if j=n then _ else lkB h j) _;by_cases e:j=n
 ·subst e;rw[if_pos rfl];have H:=R.hp j;have e:(mk l h g).hp j=some (.data sz (xs.map f) own cp):=hb;rw[e] at H;cases hi:m.inf j with
  |none=>rw[hi] at H;exact H.elim
  |some fi=>
   rw[hi] at H;unfold qa at H ⊢;simp only at H ⊢;cases hbk:fi.blk with
   |none=>
    rw[hbk] at H;obtain⟨h1,s',o',cp',he,h2,h3⟩:=H;injection he with e1 e2 e3 e4;have:xs=[]:=by simpa using e2
    subst this;subst e1;subst e4;exact⟨h1,sz,own,cp,by simp,h2,h3⟩
   |some b=>
    rw[hbk] at H;obtain⟨h1,h2,cells,T,h3,h4,h5⟩:=H;refine⟨h1,h2,cells,T,h3,h4,?_⟩;obtain⟨i1,i2,bs,i3,i4,i5⟩:=h5;obtain⟨b1,b2,rfl,j1,_⟩:=i3.split k;refine⟨i1,i2,b1,by rw[List.map_take];exact j1,fun ho=>⟨(i4 ho).1.sublist<|List.sublist_append_left _ _,fun c hc=>(i4 ho).2 c (by simp[hc])⟩,fun ho c hc=>i5 ho c (by simp[hc])⟩
 ·rw[if_neg e];exact R.hp j
def AO(h:bI)(vs:List V)(as:List Ar)(ns us:List Nat):Prop:=Ka (mk [] h noG) vs as ns us
theorem AO.nil{h:bI}:AO h [] [] [] []:=⟨rfl,rfl⟩
theorem AO.lent{h:bI}{v:V}{d:D}{vs:List V}{as:List Ar}{ns us ws:List Nat}(h1:VD h v d)(hw:zco (mk [] h noG) v=ws)(h2:AO h vs as ns us):AO h (v::vs) (⟨d,.b⟩::as) ns (ws++us):=by
 subst hw;exact⟨us,h1,rfl,h2⟩
theorem AO.give{h:bI}{v:V}{d:D}{vs:List V}{as:List Ar}{ns us x:List Nat}(h1:VO h v d x)(h2:AO h vs as ns us):AO h (v::vs) (⟨d,.g⟩::as) (x++ns) us:=⟨x,ns,rfl,h1,h2⟩
theorem AO.mut{h:bI}{v:V}{d d':D}{vs:List V}{as:List Ar}{ns us x:List Nat}(h1:VO h v d x)(h2:AO h vs as ns us):AO h (v::vs) (⟨d,.m d'⟩::as) (x++ns) us:=⟨x,ns,rfl,h1,h2⟩
theorem AO.zs{h:bI}{sz:Nat}{vs:List V}{as:List Ar}{ns us:List Nat}(h2:AO h vs as ns us):AO h (.one .zs::vs) (⟨.sl sz [],.z⟩::as) ns us:=⟨rfl,⟨sz,rfl⟩,h2⟩
theorem znA{s s':St}(h:s'.hp=s.hp)(v:V):zco s' v=zco s v:=by
 obtain⟨sl,hp,gh⟩:=s;obtain⟨sl',hp',gh'⟩:=s';cases h;rfl
theorem zdt{s s':St}(h:s'.hp=s.hp):∀{vs:List V} {as:List Ar} {ns us:List Nat},Ka s vs as ns us→Ka s' vs as ns us
 |[],[],_,_,H=>H
 |v::vs,a::as,ns,us,H=>by
  unfold Ka at H ⊢;split at H
  ·obtain⟨us',h1,h2,h3⟩:=H;exact⟨us',by rw[zlm h];exact h1,by rw[znA h];exact h2,zdt h h3⟩
  ·obtain⟨h1,h2,h3⟩:=H;exact⟨h1,h2,zdt h h3⟩
  ·obtain⟨x,y,h1,h2,h3⟩:=H;exact⟨x,y,h1,zln h h2,zdt h h3⟩
theorem AO.args{l:bH}{h:bI}{g:Nat→V}{vs:List V}{as:List Ar}{ns us:List Nat}(H:AO h vs as ns us):Ka (mk l h g) vs as ns us:=zdt (s:=mk [] h noG) (s':=mk l h g) O H
def SZ(h:bI):bI→Prop
 |[]=>True
 |(n,b)::r=>((∃sz xs0 o cp ys o' cp',lkB h n=some (.data sz xs0 o cp)∧b= .data sz ys o' cp')∨(∃sz cs ds,lkB h n=some (.vars sz cs)∧b= .vars sz ds∧ds.length=cs.length)∨∃ds ds',lkB h n=some (.own ds)∧b= .own ds'∧ds'.length=ds.length)∧SZ h r
theorem SZ.nil{h:bI}:SZ h []:=trivial
theorem SZ.cons{h:bI}{n sz:Nat}{xs0 ys:List (List D)}{o o':Bool}{cp cp':Option Nat}{r:bI}(h1:LB h n (.data sz xs0 o cp))(h3:SZ h r):SZ h ((n,.data sz ys o' cp')::r):=
 ⟨.inl ⟨sz,xs0,o,cp,ys,o',cp',h1,rfl⟩,h3⟩
theorem znZ{h:bI}{n:Nat}{ds ds':List D}{r:bI}(h1:LB h n (.own ds))(h2:ds'.length=ds.length)(h3:SZ h r):SZ h ((n,.own ds')::r):=
 ⟨.inr<|.inr ⟨ds,ds',h1,rfl,h2⟩,h3⟩
theorem SZ.mem{l:bH}{h:bI}{g:Nat→V}:∀{r:bI},SZ h r→∀p∈r,zvu (mk l h g) p
 |[],_,p,hp=>by cases hp
 |(n,b)::r,H,p,hp=>by
  rcases List.mem_cons.1 hp with rfl|hp
  ·exact H.1
  ·exact SZ.mem H.2 p hp
def X6(ON ls G MN:List Nat):Bool:=
 decide ON.Nodup&&ls.all (fun n=>!ON.contains n)&&ON.all (fun n=>G.contains n||MN.contains n)&&G.all (fun n=>!MN.contains n)&&MN.all (fun n=>Nat.blt n 1000000)&&G.all (fun n=>Nat.blt n 1000000)
theorem xC{α:Type}{x:Option α}{K K':α→Prop}(h:zb4 x K)(hk:∀a,K a→K' a):zb4 x K':=by
 cases x with
 |none=>exact h
 |some a=>exact hk a h
theorem zkH{P:Program}{s:St}{d:Nat}{f:V}{vs:List V}{K K':Out→Prop}(h:callB P s d f vs K)(hk:∀a,K a→K' a):callB P s d f vs K':=by
 unfold callB at h ⊢;refine xC h fun c h=>xC h fun ds h=> ?_;obtain⟨o,md,rs,h1,h2⟩:=h;refine⟨o,md,rs,h1,?_⟩;cases md with
 |true=>simp only[if_true] at h2 ⊢;exact⟨h2.1,h2.2.1,h2.2.2.1,hk _ h2.2.2.2⟩
 |false=>simp only[Bool.false_eq_true,if_false] at h2 ⊢;exact⟨h2.1,hk _ h2.2⟩
theorem zju{P:Program}{s:St}{o:IOp}{K K':Out→Prop}(h:opA P s o K)(hk:∀a,K a→K' a):opA P s o K':=by
 cases o<;>first|exact zkH h hk|(simp only[opA] at h ⊢;exact xC h hk)
theorem zcf{P:Program}{s:St}{g:GOp}{K K':Out→Prop}(h:yF P s g K)(hk:∀a,K a→K' a):yF P s g K':=by
 obtain⟨gg,o⟩:=g;cases gg with
 |none=>exact zju h hk
 |some p=>
  obtain⟨t,want⟩:=p;unfold yF at h ⊢;simp only at h ⊢;generalize s.sl t=v at h ⊢
  revert h
  split
  ·intro h;split at h
   ·rename_i e;rw[if_pos e];exact zju h hk
   ·rename_i e;rw[if_neg e];exact hk _ h
  ·intro h;exact hk _ h
  ·intro h;exact h.elim
theorem ziR{P:Program}:∀{gs:List GOp} {s:St} {Q Q':St→Prop},zhC P gs s Q→(∀s,Q s→Q' s)→zhC P gs s Q'
 |[],_,_,_,h,hq=>hq _ h
 |_::_,_,_,_,h,hq=>zcf h fun _ h=>ziR h hq
structure RM(P:Program)(n:Nat)(L:List RO)(s:St)(Q:St→Prop):Prop where
 out:RM0 P n L s Q
section
variable {P:Program} {nn:Nat} {L:List RO} {s t:St} {Q:St→Prop} {Qx:Exit→St→Prop}
theorem z7(h:RM P nn L s (Qx .normal)):AW P nn (.reg L) Qx s:=⟨fun cx code hh hh' a w hP hn hic ⟨m,R⟩=>by
 obtain⟨id,ops,gs,rfl,hops,hL⟩:=zka hic;subst hP;subst hn;exact wp_region_list (h.out gs hL cx ops ops.toList m a w _ O O hops R (fun s' hs m' a' w' R'=>⟨s',hs,m',R'⟩))⟩
theorem qh(h:RG P L s Q):RM P nn L s Q:=⟨zCY fun gs e=>zap (by rw[←e];exact h.out)⟩
theorem zC{r:RO}(h:RG P [r] s (fun s'=>RM P nn L s' Q)):RM P nn (r::L) s Q:=⟨RM0.split 1 fun gs e=>by
 have e:[r]=gs.map fun g=>⟨g,0,[]⟩:=by simpa using e
 have:=zap (P:=P) (gs:=gs) (s:=s) (Q:=fun s'=>RM P nn L s' Q) (by rw[←e];exact h.out);refine ziR this fun s' hs=> ?_;simpa using hs.out⟩
theorem zMi(hw:∀(cx:Cx) (m:M) (a:Act) (w:World),zQ cx m s a w→∃m',zQ cx m' t a w)(h:RM P nn L t Q):RM P nn L s Q:=⟨fun gs hL cx ops l m a w Qx hP hn hm R hQ=>by
 obtain⟨m',R'⟩:=hw cx m a w R;exact h.out gs hL cx ops l m' a w Qx hP hn hm R' hQ⟩
theorem znh(hw:Wk t s)(h:RM P nn L t Q):RM P nn L s Q:=zMi (fun cx m a w R=>hw cx a w ⟨m,R⟩) h
end
theorem zbU:∀(B:bI) (h:bI) (k:Nat),lkB (B.reverse++h) k=(Zz B k).or (lkB h k)
 |[],h,k=>rfl
 |(n,b)::r,h,k=>by
  rw[List.reverse_cons,List.append_assoc,zbU r];simp only[List.singleton_append,lkB,Zz];cases Zz r k with
  |some x=>rfl
  |none=>
   simp only[Option.none_or];split<;>rfl
theorem zeG:∀(B C:bI) (k:Nat),Zz (B++C) k=(Zz C k).or (Zz B k)
 |[],C,k=>by simp[Zz]
 |(n,b)::r,C,k=>by
  simp only[List.cons_append,Zz];rw[zeG r C];cases Zz C k<;>simp
theorem zg1{l l':bH}{h h':bI}{gl gl':bH}{E:List Nat}{d:Nat}{u:V}{MB bs:bI}(h1:erL E l l')(h2:erH E h h')(h3:erL E gl gl'):
  (mk l h<|lk gl).app ⟨E,some (d,u),MB++bs⟩=mk ((d,u)::l') (bs.reverse++(MB.reverse++h')) (lk gl'):=by
 refine St.ext' (fun t=> ?_) (fun k=> ?_) ?_
 ·rw[zbi];simp only;rw[zdh];show(if t=d then u else(lk l t).er E)=lk ((d,u)::l') t;simp only[lk];split
  ·rfl
  ·exact(h1.lk t).symm
 ·rw[zc5];simp only;rw[zdh];show(Zz (MB++bs) k).or (if E.contains k then none else(lkB h k).map (Blk.er E))=lkB (bs.reverse++(MB.reverse++h')) k;rw[zbU,zbU,zeG,h2.lk k];cases Zz bs k<;>simp
 ·rw[ziX,zdh];show(fun t=>(lk gl t).er E)=lk gl';funext t;exact(h3.lk t).symm
section
variable {P:Program} {nn:Nat} {L:List RO} {Q:St→Prop} {l l':bH} {h h' h2:bI} {gl gl':bH} {d f:Nat} {fo:Opd} {fv u:V} {us vs:List V} {args:List Opd} {as:List Ar} {ON ls G E:List Nat} {rs':List D} {MB bs:bI}
theorem zpF(hf0:Ev l fo fv)(hcl:Cl fv f us)(hf:FnS P (mk l h<|lk gl) f as rs')(ha:Evs l args vs)(hA:AO h (vs++us) as ON ls)(hM:ZJ (vs++us) as=MB)(hE:ZI G MB=E)(hok:X6 ON ls G (MB.map (·.1))=true)(hs:SZ h MB)
  (h1:erL E l l') (h2':erH E h h') (h3:erL E gl gl') (hu:jf (d * 64) rs'=(u,bs)) (hh:bs.reverse++(MB.reverse++h')=h2) (hfr:jc (mk [] (MB.reverse++h') noG) ((d * 64+63)::bs.map (·.1)))
  (K:RM P nn L (mk ((d,u)::l') h2<|lk gl') Q):RM P nn (⟨⟨none,.callv d fo args⟩,0,[]⟩::L) (mk l h<|lk gl) Q:=⟨RM0.call (by
 subst hM;subst hE;subst hh;simp only[X6,Bool.and_eq_true,decide_eq_true_eq,List.all_eq_true] at hok;obtain⟨⟨⟨⟨⟨k1,k2⟩,k3⟩,k4⟩,k5⟩,k6⟩:=hok;rw[hf0.ev,ha.ev];refine⟨(f,us),as,ON,ls,G,rs',true,hcl,hA.args,k1,fun n hn=>by simpa using k2 n hn,hf,fun n hn=>by simpa using k3 n hn,fun n hn=>by simpa using k4 n hn,fun n hn=>by have h:=k5 n hn;rw[Nat.blt_eq] at h;exact h,fun n hn=>by have h:=k6 n hn;rw[Nat.blt_eq] at h;exact h,fun p hp=>hs.mem p hp,?_⟩;rw[hu];simp only[if_true];refine⟨?_,?_⟩
 ·have e:((mk l h<|lk gl).er<|ZI G<|ZJ (vs++us) as).blks (ZJ (vs++us) as)=mk l' ((ZJ (vs++us) as).reverse++h') (lk gl'):=by
   refine St.ext' (fun t=> ?_) (fun k=> ?_) ?_
   ·rw[(xh _ _).1];exact(h1.lk t).symm
   ·rw[Ke];show _=lkB _ k;rw[zbU,h2'.lk k];rfl
   ·rw[(xh _ _).2];funext t;exact(h3.lk t).symm
  rw[e,zbI (s:=mk [] ((ZJ (vs++us) as).reverse++h') noG) (s':=mk l' ((ZJ (vs++us) as).reverse++h') (lk gl')) rfl];exact hfr
 ·show RM0 P nn L ((mk l h<|lk gl).app _) Q;rw[zg1 h1 h2' h3];exact K.out)⟩
theorem znb(hf0:Ev l fo fv)(hcl:Cl fv f us)(hf:FnS P (mk l h<|lk gl) f as rs')(ha:Evs l args vs)(hA:AO h (vs++us) as ON ls)(hM:ZJ (vs++us) as=MB)(hE:ZI G MB=E)(hok:X6 ON ls G (MB.map (·.1))=true)(hs:SZ h MB)
  (h1:erL E l l') (h2':erH E h h') (h3:erL E gl gl') (hu:zb2 rs'=u) (hh:MB.reverse++h'=h2)
  (K:RM P nn L (mk ((d,u)::l') h2<|lk gl') Q):RM P nn (⟨⟨none,.callv d fo args⟩,0,[]⟩::L) (mk l h<|lk gl) Q:=⟨RM0.call (by
 subst hM;subst hE;subst hh;subst hu;simp only[X6,Bool.and_eq_true,decide_eq_true_eq,List.all_eq_true] at hok;obtain⟨⟨⟨⟨⟨k1,k2⟩,k3⟩,k4⟩,k5⟩,k6⟩:=hok;rw[hf0.ev,ha.ev];refine⟨(f,us),as,ON,ls,G,rs',false,hcl,hA.args,k1,fun n hn=>by simpa using k2 n hn,hf,fun n hn=>by simpa using k3 n hn,fun n hn=>by simpa using k4 n hn,fun n hn=>by have h:=k5 n hn;rw[Nat.blt_eq] at h;exact h,fun n hn=>by have h:=k6 n hn;rw[Nat.blt_eq] at h;exact h,fun p hp=>hs.mem p hp,?_⟩;simp only[Bool.false_eq_true,if_false];show RM0 P nn L ((mk l h<|lk gl).app _) Q;have:=zg1 (E:=ZI G (ZJ (vs++us) as)) (d:=d) (u:=zb2 rs') (MB:=ZJ (vs++us) as) (bs:=[]) h1 h2' h3;rw[List.append_nil] at this;rw[this];exact K.out)⟩
theorem zdW(hf0:Ev l fo fv)(hcl:Cl fv f us)(hf:Fn P f as true rs')(ha:Evs l args vs)(hA:AO h (vs++us) as ON ls)(hM:ZJ (vs++us) as=MB)(hE:ZI G MB=E)(hok:X6 ON ls G (MB.map (·.1))=true)(hs:SZ h MB)
  (h1:erL E l l') (h2':erH E h h') (h3:erL E gl gl') (hu:jf (d * 64) rs'=(u,bs)) (hh:bs.reverse++(MB.reverse++h')=h2) (hfr:jc (mk [] (MB.reverse++h') noG) ((d * 64+63)::bs.map (·.1)))
  (K:RM P nn L (mk ((d,u)::l') h2<|lk gl') Q):RM P nn (⟨⟨none,.callv d fo args⟩,0,[]⟩::L) (mk l h<|lk gl) Q:=
 zpF hf0 hcl (.inl hf) ha hA hM hE hok hs h1 h2' h3 hu hh hfr K
theorem Xb(hf0:Ev l fo fv)(hcl:Cl fv f us)(hf:Fn P f as true rs')(ha:Evs l args vs)(hA:AO h (vs++us) as ON ls)(hM:ZJ (vs++us) as=MB)(hE:ZI G MB=E)(hok:X6 ON ls G (MB.map (·.1))=true)(hs:SZ h MB)
  (h1:erL E l l') (h2':erH E h h') (h3:erL E gl gl') (hu:zb2 rs'=u) (hh:MB.reverse++h'=h2)
  (K:RM P nn L (mk ((d,u)::l') h2<|lk gl') Q):RM P nn (⟨⟨none,.callv d fo args⟩,0,[]⟩::L) (mk l h<|lk gl) Q:=
 znb hf0 hcl (.inl hf) ha hA hM hE hok hs h1 h2' h3 hu hh K
end
def zm1:Nat→List V→bH
 |_,[]=>[]
 |k,v::vs=>(k,v)::zm1 (k+1) vs
theorem zlJ:∀(vs:List V) (k t:Nat),lk (zm1 k vs) t=if k≤t then vAt vs (t - k) else .top
 |[],k,t=>by simp[zm1,lk,vAt]
 |v::vs,k,t=>by
  simp only[zm1,lk];rw[zlJ vs (k+1) t];by_cases e:t=k
  ·subst e;simp[vAt]
  ·rw[if_neg e];by_cases h:k+1≤t
   ·rw[if_pos h,if_pos (by omega)];have:t - k=(t - (k+1))+1:=by omega
    rw[this];simp[vAt]
   ·rw[if_neg h,if_neg (by omega)]
theorem zBA:∀(g:bH),lkG g=lk g:=fun g=>by
 funext n;induction g with
 |nil=>rfl
 |cons p r ih=>obtain⟨k,v⟩:=p;simp only[lkG,lk,ih]
theorem JV(as:List Ar):zjx as=mk (zm1 0 (zaN 0 as).1) (zaN 0 as).2.reverse (lk<|ghL 0 as (zaN 0 as).1):=by
 refine St.ext' (fun t=> ?_) (fun n=> ?_) ?_
 ·show vAt _ t=lk _ t;rw[zlJ];simp
 ·show((⟨fun _=> .top,fun _=>none,fun _=> .top⟩:St).blks (zaN 0 as).2).hp n=lkB _ n;rw[Ke];have:=zbU (zaN 0 as).2 [] n;rw[List.append_nil] at this;rw[this];rfl
 ·exact zBA _
def ML(h:bI)(gl:bH):Nat→List Ar→List Nat→Prop
 |_,[],ns=>ns=[]
 |k,a::as,ns=>match a.md with
  | .m d'=>∃v x y,Ev gl (.t k) v∧ns=x++y∧VO h v d' x∧ML h gl (k+1) as y
  |_=>ML h gl (k+1) as ns
theorem ML.nil{h:bI}{gl:bH}{k:Nat}:ML h gl k [] []:=rfl
theorem ML.lent{h:bI}{gl:bH}{k:Nat}{d:D}{as:List Ar}{ns:List Nat}(H:ML h gl (k+1) as ns):ML h gl k (⟨d,.b⟩::as) ns:=H
theorem ML.give{h:bI}{gl:bH}{k:Nat}{d:D}{as:List Ar}{ns:List Nat}(H:ML h gl (k+1) as ns):ML h gl k (⟨d,.g⟩::as) ns:=H
theorem ML.mut{h:bI}{gl:bH}{k:Nat}{d d':D}{v:V}{as:List Ar}{x y:List Nat}(h1:Ev gl (.t k) v)(h2:VO h v d' x)(H:ML h gl (k+1) as y):ML h gl k (⟨d,.m d'⟩::as) (x++y):=⟨v,x,y,h1,rfl,h2,H⟩
theorem ML.ok{l:bH}{h:bI}{gl:bH}:∀{as:List Ar} {k:Nat} {ns:List Nat},ML h gl k as ns→zfT (mk l h<|lk gl) k as ns
 |[],_,_,H=>H
 |a::as,k,ns,H=>by
  unfold ML at H;unfold zfT;split at H
  ·rename_i d' hd;obtain⟨v,x,y,h1,h2,h3,h4⟩:=H;rw[hd];refine⟨x,y,h2,?_,ML.ok h4⟩;have e:(mk l h<|lk gl).gh k=v:=h1.ev (h:=[]) (g:=noG);rw[e];exact zln (s:=mk [] h fun _=> .top) (s':=mk l h (lk gl)) O h3
  ·rename_i hd;split
   ·rename_i d' hd';exact absurd hd' (hd d')
   ·exact ML.ok H
theorem JH{l:bH}{h:bI}{gl:bH}{as:List Ar}{ts:List Yu}{rs:List D}{ns ms:List Nat}(H:RL l h ts rs ns)(M:ML h gl 0 as ms)(hn:(ns++ms).Nodup):zjv as ts rs .ret (mk l h<|lk gl):=⟨ns,ms,H.ret,M.ok,hn⟩
section
variable {P:Program} {l:bH} {h:bI} {g:Nat→V} {Q:St→Prop} {rs:List RO} {dep:Nat} {A:List Nat} {d:Nat} {x y z:Opd} {v u:V} {k:IntKind} {a b:Int}
theorem zna{α:Type}{f:α→List D}{sz n r len:Nat}{zs:List D}{zv:α}{own:Bool}{cp:Option Nat}{xs:List α}(hx:Ev l x (.one<|.sl n r len))(hb:LB (qo A h) n (.data sz (xs.map f) own cp))(hz:zs=f zv)(hzl:zs.length=sz)(hle:r+len≤xs.length)
  (K:RG P rs (mk l ((n,.data sz ((xs.take r++List.replicate len zv++xs.drop (r+len)).map f) own cp)::h) g) Q):RG P (⟨⟨none,.clear sz zs x⟩,dep,A⟩::rs) (mk l h g) Q:=by
 have hb:(mk l (qo A h) g).hp n=some (.data sz (xs.map f) own cp):=hb;refine xSt (by simp) ?_ K;simp only[AW.ev,hx.ev,hb,List.length_map];rw[if_pos ⟨trivial,hle,hzl⟩];subst hz;simp[List.map_take,List.map_drop]
theorem zjb{α:Type}{f:α→List D}{sz bytes n len q:Nat}{zs:List D}{own:Bool}{cp:Option Nat}{yv:V}{xs ys:List α}{l':bH}{h':bI}{gl:bH}(hx:Ev l x (.one<|.sl n 0 len))(hy:Ev l y yv)(hb:LB (qo A h) n (.data sz (xs.map f) own cp))(hl:xs.length=len)(he:El (qo A h) sz zs own yv (ys.map f))(hq:(xs++ys).length=q)(hle:q≤2147483648)(hby:bytes≤65536)(hnn:n < 1000000)
  (h1:erL [n] l l') (h2:erH [n] h h') (h3:GK [n] gl) (K:RG P rs (mk ((d,.one<|.sl n 0 q)::l') ((n,.data sz ((xs++ys).map f) own none)::h')<|lk gl) Q):RG P (⟨⟨none,.app d sz bytes zs x y⟩,dep,A⟩::rs) (mk l h<|lk gl) Q:=by
 subst hl;subst hq;have hb:(mk l (qo A h)<|lk gl).hp n=some (.data sz (xs.map f) own cp):=hb;have hev:AW.ev (mk l (qo A h)<|lk gl) (.app d sz bytes zs x y)=some ⟨[n],some (d,.one<|.sl n 0 (xs++ys).length),[(n,.data sz ((xs++ys).map f) own none)]⟩:=by
  simp only[AW.ev,hx.ev,hy.ev,hb,he.st,Option.bind_some,List.length_map];rw[if_pos ⟨trivial,trivial,by unfold big;simp only[List.length_append] at hle;omega,hby,hnn⟩];simp
 have hst:(mk l h<|lk gl).app ⟨[n],some (d,.one<|.sl n 0 (xs++ys).length),[(n,.data sz ((xs++ys).map f) own none)]⟩=mk ((d,.one<|.sl n 0 (xs++ys).length)::l') ((n,.data sz ((xs++ys).map f) own none)::h') (lk gl):=by
  refine St.ext' (fun t=> ?_) (fun k=> ?_) ?_
  ·show(if t=d then _ else(lk l t).er [n])=_;unfold mk;simp only[AW.lk];split
   ·rfl
   ·exact(h1.lk t).symm
  ·show(if k=n then _ else(if [n].contains k then none else(lkB h k).map (Blk.er [n])))=_;unfold mk;simp only[lkB];split
   ·rfl
   ·exact(h2.lk k).symm
  ·show(fun t=>(lk gl t).er [n])=lk gl;funext t;exact h3.lk t
 have:opA P ((mk l h<|lk gl).hide A) (.app d sz bytes zs x y) (fun out=>zbj P rs ((mk l h<|lk gl).app out) Q):=by
  rw[JC];show zb4 (AW.ev _ _) _;rw[hev];show zbj P rs ((mk l h<|lk gl).app _) Q;rw[hst];exact K.out
 exact⟨this⟩
end
end Go.AW
