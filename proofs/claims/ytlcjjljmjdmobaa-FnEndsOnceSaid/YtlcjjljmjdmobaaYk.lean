/- Regions in which something may be taken first: rules on written-out states. Lemmas. Conditions: none. -/
import Derived.Test.YtlcjjljmjdmobaaYh
import Derived.Test.YtlcjjljmjdmobaaXg
set_option linter.unusedVariables false
namespace Go.AW
theorem Xp{P:Program}{s:St}{d:Nat}{f:V}{vs:List V}{K K':Out→Prop}(h:Xy P s d f vs K)(hk:∀out,K out→K' out):Xy P s d f vs K':=by
 obtain⟨c,as,ON,ls,G,rs,md,h1,h2,h3,h4,h5,h6,h7,h8,h9,h10,h11⟩:=h
 refine⟨c,as,ON,ls,G,rs,md,h1,h2,h3,h4,h5,h6,h7,h8,h9,h10,?_⟩
 cases md with
 |true=>simp only[if_true] at h11 ⊢;exact⟨h11.1,hk _ h11.2⟩
 |false=>simp only[Bool.false_eq_true,if_false] at h11 ⊢;exact hk _ h11
theorem zct{v0:Value}{x0 c c':D}{n k:Nat}{cs:List C}{l:List (Nat×V)}{h:List (Nat×Blk)}{gl:List (Nat×V)}(hg:lk gl 63= .one (.d (.both v0 x0)))(hb:LB h n (.vars k (.d c::cs)))
  (H:∀(hp:Hp) (u:Value) (bs bx:List Nat),Rd false hp c u bs→Rd false hp (.both v0 x0) v0 bx→Rd false hp c' u bs∨Rd false hp c' u bx∨Rd false hp c' u []):Wk (mk l ((n,.vars k (.d c'::cs))::h) (lk gl)) (mk l h (lk gl)):=fun cx a w ⟨m,R⟩=>by
 refine⟨m,R.size,R.defers,R.sl,fun j=> ?_,R.own,R.fr,R.gh⟩
 show zY cx m w.heap j (if j=n then _ else lkB h j) _
 by_cases e:j=n
 ·subst e
  rw[if_pos rfl]
  have A:=R.hp j
  have e1:(mk l h (lk gl)).hp j=some (.vars k (.d c::cs)):=hb
  rw[e1] at A
  have G:=R.gh 63
  have e2:(mk l h (lk gl)).gh 63= .one (.d (.both v0 x0)):=hg
  rw[e2] at G
  obtain⟨_,b2,r2,o2⟩:=G
  have hv:v0=cx.gh 63:=by simp only[Rd] at r2;exact r2.1.1
  rw[←hv] at r2
  cases hi:m.inf j with
  |none=>rw[hi] at A;exact A.elim
  |some f=>
   rw[hi] at A
   unfold zY at A ⊢
   cases hbk:f.blk with
   |none=>
    simp only[hbk] at A
    obtain⟨_,_,_,_,hx,_⟩:=A
    cases hx
   |some b=>
    simp only[hbk] at A ⊢
    obtain⟨h1,h2,cells,T,h3,h4,h5,h6⟩:=A
    refine⟨h1,h2,cells,T,h3,h4,h5,?_⟩
    revert h6
    generalize cells.toList=L
    intro h6
    match L,h6 with
    |u::us,h6=>
     obtain⟨⟨a1,b1,r1,o1⟩,h7⟩:=h6
     rcases H _ _ _ _ r1 r2 with r|r|r
     ·exact⟨⟨a1,b1,r,o1⟩,h7⟩
     ·exact⟨⟨a1,b2,r,o2⟩,h7⟩
     ·exact⟨⟨a1,[],r,by simp⟩,h7⟩
 ·rw[if_neg e]
  exact R.hp j
theorem zeS{v0:Value}{x0:D}{n k:Nat}{cs:List C}{l:List (Nat×V)}{h:List (Nat×Blk)}{gl:List (Nat×V)}(hg:lk gl 63= .one (.d (.both v0 x0)))(hb:LB h n (.vars k (.d (.pin v0)::cs))):
  Wk (mk l ((n,.vars k (.d (.both v0 x0)::cs))::h) (lk gl)) (mk l h (lk gl)):=
 zct hg hb fun hp u bs bx r1 r2=>by
  have e:v0=u:=by simp only[Rd] at r1;exact r1.1.1
  subst e
  exact .inr (.inl r2)
theorem zaM{v0:Value}{sz n k:Nat}{xs:List (List D)}{cs:List C}{l:List (Nat×V)}{h:List (Nat×Blk)}{gl:List (Nat×V)}(hg:lk gl 63= .one (.d (.both v0 (.sl sz xs))))(hb:LB h n (.vars k (.d (.both v0 (.sl sz xs))::cs))):
  Wk (mk l ((n,.vars k (.d (.pin v0)::cs))::h) (lk gl)) (mk l h (lk gl)):=
 zct hg hb fun hp u bs bx r1 r2=>by
  simp only[Rd] at r1 ⊢
  obtain⟨⟨e,_⟩,a,c,e2,_⟩:=r1
  exact .inr (.inr ⟨⟨e,a,_,c,e2⟩,by trivial⟩)
structure RPs(P:Program)(NS:List Nat)(L:List RO)(s:St)(Q:St→Prop):Prop where
 out:RP NS L s Q
structure RTs(P:Program)(nn:Nat)(NS:List Nat)(L:List RO)(s:St)(Q:St→Prop):Prop where
 out:RT P NS L s Q
structure RUs(P:Program)(L:List RO)(s:St)(Q:St→Prop):Prop where
 out:RU P L s Q
theorem zdU{NS:List Nat}:∀{L:List RO} {s:St} {Q Q':St→Prop},RP NS L s Q→(∀s,Q s→Q' s)→RP NS L s Q'
 |[],_,_,_,h,hq=>hq _ h
 |_::_,_,_,_,⟨h1,h2,h3⟩,hq=>⟨h1,h2,yU h3 fun _ h=>zdU h hq⟩
theorem KN{P:Program}{NS:List Nat}:∀{L:List RO} {s:St} {Q Q':St→Prop},RT P NS L s Q→(∀s,Q s→Q' s)→RT P NS L s Q'
 |[],_,_,_,h,hq=>hq _ h
 |_::_,_,_,_,.inl ⟨h1,h2,h3⟩,hq=> .inl ⟨h1,h2,yU h3 fun _ h=>KN h hq⟩
 |_::_,_,_,_,.inr (.inl ⟨d,f,args,h1,h2⟩),hq=> .inr (.inl ⟨d,f,args,h1,Xp h2 fun _ ⟨h3,h4⟩=>⟨h3,KN h4 hq⟩⟩)
 |_::_,_,_,_,.inr (.inr ⟨d,sz,zs,ps,h1,h2⟩),hq=> .inr (.inr ⟨d,sz,zs,ps,h1,yU h2 fun _ h=>KN h hq⟩)
theorem AW.regp{P:Program}{nn:Nat}{L M N:List RO}{s:St}{Qx:Exit→St→Prop}(NS:List Nat)(h:RPs P NS L s (fun s1=>RTs P nn NS M s1 (fun s2=>RUs P N s2 (Qx .normal)))):AW P nn (.regp L M N) Qx s:=
 ⟨AW0.regp NS (zdU h.out fun _ h1=>KN h1.out fun _ h2=>h2.out)⟩
def K4:IOp→Bool
 | .mov _ _=>true
 | .faddr _ _ _=>true
 | .build _ _ _=>true
 | .inv _ _=>true
 | .ext _ _ _=>true
 | .bin _ _ _ _=>true
 |_=>false
theorem zbc{s:St}{NS:List Nat}{o:IOp}(h:K4 o=true):ZL s NS o=true:=by
 cases o<;>first|rfl|cases h
section
variable {P:Program} {nn:Nat} {NS:List Nat} {rs L:List RO} {s:St} {Q:St→Prop} {l l':List (Nat×V)} {h h' h2:List (Nat×Blk)} {g:Nat→V} {gl gl':List (Nat×V)} {d f:Nat} {fo:Opd} {fv u:V} {us vs:List V} {args:List Opd} {as:List Ar} {ON ls G E:List Nat} {rs':List D} {MB bs:List (Nat×Blk)}
theorem YP(H:Q s):RPs P NS [] s Q:=⟨H⟩
theorem YT(H:Q s):RTs P nn NS [] s Q:=⟨H⟩
theorem K9{o:IOp}{K:Out→Prop}(hl:K4 o=true)(H:opA P s o K):xe (ev s o) K:=by
 cases o<;>first|exact H|cases hl
theorem jY{o:IOp}(hl:K4 o=true)(H:RG P [⟨⟨none,o⟩,0,[]⟩] s (fun s'=>RPs P NS rs s' Q)):RPs P NS (⟨⟨none,o⟩,0,[]⟩::rs) s Q:=
 have H':opA P s o fun out=>RPs P NS rs (s.app out) Q:=H.out
 ⟨⟨rfl,zbc hl,yU (K9 hl H') fun _ h=>h.out⟩⟩
theorem Z3{d n i j:Nat}{ag:Option Nat}{x:Opd}(hx:Ev l x (.one (.ptr (.nm n i j))))(hn:NS.contains n=true)(H:RG P [⟨⟨none,.load d ag x⟩,0,[]⟩] (mk l h g) (fun s'=>RPs P NS rs s' Q)):RPs P NS (⟨⟨none,.load d ag x⟩,0,[]⟩::rs) (mk l h g) Q:=
 have H':xe (ev (mk l h g) (.load d ag x)) fun out=>RPs P NS rs ((mk l h g).app out) Q:=H.out
 ⟨⟨rfl,(by show ZL (mk l h g) NS (.load d ag x)=true;simp only[ZL,hx.ev];exact hn),yU H' fun _ h=>h.out⟩⟩
theorem zfP{d sz n off len:Nat}{x y:Opd}(hx:Ev l x (.one (.sl n off len)))(H:RG P [⟨⟨none,.iaddr d sz x y⟩,0,[]⟩] (mk l h g) (fun s'=>RPs P NS rs s' Q)):RPs P NS (⟨⟨none,.iaddr d sz x y⟩,0,[]⟩::rs) (mk l h g) Q:=
 have H':xe (ev (mk l h g) (.iaddr d sz x y)) fun out=>RPs P NS rs ((mk l h g).app out) Q:=H.out
 ⟨⟨rfl,(by show ZL (mk l h g) NS (.iaddr d sz x y)=true;simp only[ZL,hx.ev]),yU H' fun _ h=>h.out⟩⟩
theorem zmi{o:IOp}(hl:K4 o=true)(H:RG P [⟨⟨none,o⟩,0,[]⟩] s (fun s'=>RTs P nn NS rs s' Q)):RTs P nn NS (⟨⟨none,o⟩,0,[]⟩::rs) s Q:=
 have H':opA P s o fun out=>RTs P nn NS rs (s.app out) Q:=H.out
 ⟨.inl ⟨rfl,zbc hl,yU (K9 hl H') fun _ h=>h.out⟩⟩
theorem zme{d n off len:Nat}{x:Opd}(hx:Ev l x (.one (.sl n off len)))(H:RG P [⟨⟨none,.len d false x⟩,0,[]⟩] (mk l h g) (fun s'=>RTs P nn NS rs s' Q)):RTs P nn NS (⟨⟨none,.len d false x⟩,0,[]⟩::rs) (mk l h g) Q:=
 have H':xe (ev (mk l h g) (.len d false x)) fun out=>RTs P nn NS rs ((mk l h g).app out) Q:=H.out
 ⟨.inl ⟨rfl,(by show ZL (mk l h g) [] (.len d false x)=true;simp only[ZL,hx.ev]),yU H' fun _ h=>h.out⟩⟩
theorem KS{d sz:Nat}{zs:List C}{ps:List (Nat×Nat×Opd)}(H:RG P [⟨⟨none,.bslice d sz zs ps⟩,0,[]⟩] s (fun s'=>RTs P nn NS rs s' Q)):RTs P nn NS (⟨⟨none,.bslice d sz zs ps⟩,0,[]⟩::rs) s Q:=
 have H':xe (ev s (.bslice d sz zs ps)) fun out=>RTs P nn NS rs (s.app out) Q:=H.out
 ⟨.inr (.inr ⟨d,sz,zs,ps,rfl,yU H' fun _ h=>h.out⟩)⟩
theorem YO(H:Q s):RUs P [] s Q:=⟨H⟩
theorem qz{o:IOp}(hl:zas o=true)(H:RG P [⟨⟨none,o⟩,0,[]⟩] s (fun s'=>RUs P rs s' Q)):RUs P (⟨⟨none,o⟩,0,[]⟩::rs) s Q:=
 have H':opA P s o fun out=>RUs P rs (s.app out) Q:=H.out
 have hk:K4 o=true:=by cases o<;>first|rfl|cases hl
 ⟨.inl ⟨rfl,hl,yU (K9 hk H') fun _ h=>h.out⟩⟩
theorem j4{g:GOp}(hl:zas g.o=false)(H:RG P [⟨g,0,[]⟩] s (fun s'=>RUs P rs s' Q)):RUs P (⟨g,0,[]⟩::rs) s Q:=
 have H':j8 P s g fun out=>RUs P rs (s.app out) Q:=H.out
 ⟨.inr ⟨hl,.inl (kX H' fun _ h=>h.out)⟩⟩
def zfi(NS E MN:List Nat):Bool:=NS.all fun n=>!E.contains n&&!MN.contains n
theorem zqe(hf0:Ev l fo fv)(hcl:Cl fv f us)(hf:FnS P (mk l h (lk gl)) f as rs')(ha:Evs l args vs)(hA:AO h (vs++us) as ON ls)(hM:Zm (vs++us) as=MB)(hE:Zn G MB=E)(hok:Yx ON ls G (MB.map (·.1))=true)(hs:SZ h MB)
  (h1:erL E l l') (h2':erH E h h') (h3:erL E gl gl') (hu:jg (d * 64) rs'=(u,bs)) (hh:bs.reverse++(MB.reverse++h')=h2) (hfr:jJ (mk [] (MB.reverse++h') noG) ((d * 64+63)::bs.map (·.1))):
  Xy P (mk l h (lk gl)) d ((mk l h (lk gl)).ev fo) (args.map (mk l h (lk gl)).ev) fun out=>out.er=E∧out.hp=MB++bs∧(mk l h (lk gl)).app out=mk ((d,u)::l') h2 (lk gl'):=by
 subst hM;subst hE;subst hh
 simp only[Yx,Bool.and_eq_true,decide_eq_true_eq,List.all_eq_true] at hok
 obtain⟨⟨⟨⟨⟨k1,k2⟩,k3⟩,k4⟩,k5⟩,k6⟩:=hok
 rw[hf0.ev,ha.ev]
 refine⟨(f,us),as,ON,ls,G,rs',true,hcl,hA.args,k1,fun n hn=>by simpa using k2 n hn,hf,fun n hn=>by simpa using k3 n hn,fun n hn=>by simpa using k4 n hn,fun n hn=>by have h:=k5 n hn;rw[Nat.blt_eq] at h;exact h,fun n hn=>by have h:=k6 n hn;rw[Nat.blt_eq] at h;exact h,fun p hp=>hs.mem p hp,?_⟩
 rw[hu]
 simp only[if_true]
 refine⟨?_,by trivial,by trivial,?_⟩
 ·have e:((mk l h (lk gl)).er (Zn G (Zm (vs++us) as))).blks (Zm (vs++us) as)=mk l' ((Zm (vs++us) as).reverse++h') (lk gl'):=by
   refine St.ext' (fun t=> ?_) (fun k=> ?_) ?_
   ·rw[(JH _ _).1];exact(h1.lk t).symm
   ·rw[YI]
    show _=lkB _ k
    rw[kG,h2'.lk k]
    rfl
   ·rw[(JH _ _).2];funext t;exact(h3.lk t).symm
  rw[e,kE (s:=mk [] ((Zm (vs++us) as).reverse++h') noG) (s':=mk l' ((Zm (vs++us) as).reverse++h') (lk gl')) rfl]
  exact hfr
 ·exact zb2 h1 h2' h3
theorem zdV(hf0:Ev l fo fv)(hcl:Cl fv f us)(hf:FnS P (mk l h (lk gl)) f as rs')(ha:Evs l args vs)(hA:AO h (vs++us) as ON ls)(hM:Zm (vs++us) as=MB)(hE:Zn G MB=E)(hok:Yx ON ls G (MB.map (·.1))=true)(hs:SZ h MB)
  (h1:erL E l l') (h2':erH E h h') (h3:erL E gl gl') (hu:XS rs'=u) (hh:MB.reverse++h'=h2):
  Xy P (mk l h (lk gl)) d ((mk l h (lk gl)).ev fo) (args.map (mk l h (lk gl)).ev) fun out=>out.er=E∧out.hp=MB∧(mk l h (lk gl)).app out=mk ((d,u)::l') h2 (lk gl'):=by
 subst hM;subst hE;subst hh;subst hu
 simp only[Yx,Bool.and_eq_true,decide_eq_true_eq,List.all_eq_true] at hok
 obtain⟨⟨⟨⟨⟨k1,k2⟩,k3⟩,k4⟩,k5⟩,k6⟩:=hok
 rw[hf0.ev,ha.ev]
 refine⟨(f,us),as,ON,ls,G,rs',false,hcl,hA.args,k1,fun n hn=>by simpa using k2 n hn,hf,fun n hn=>by simpa using k3 n hn,fun n hn=>by simpa using k4 n hn,fun n hn=>by have h:=k5 n hn;rw[Nat.blt_eq] at h;exact h,fun n hn=>by have h:=k6 n hn;rw[Nat.blt_eq] at h;exact h,fun p hp=>hs.mem p hp,?_⟩
 simp only[Bool.false_eq_true,if_false]
 refine⟨by trivial,by trivial,?_⟩
 have:=zb2 (E:=Zn G (Zm (vs++us) as)) (d:=d) (u:=XS rs') (MB:=Zm (vs++us) as) (bs:=[]) h1 h2' h3
 rw[List.append_nil] at this
 exact this
theorem j3{v0:Value}{x0:D}(hg:lk gl 63= .one (.d (.both v0 x0)))(hf0:Ev l fo fv)(hcl:Cl fv f us)(hf:FnC P v0 x0 f as rs')(ha:Evs l args vs)(hA:AO h (vs++us) as ON ls)(hM:Zm (vs++us) as=MB)(hE:Zn G MB=E)(hok:Yx ON ls G (MB.map (·.1))=true)(hs:SZ h MB)
  (h1:erL E l l') (h2':erH E h h') (h3:erL E gl gl') (hu:XS rs'=u) (hh:MB.reverse++h'=h2) (hns:zfi NS E (MB.map (·.1))=true)
  (K:RTs P nn NS L (mk ((d,u)::l') h2 (lk gl')) Q):RTs P nn NS (⟨⟨none,.callv d fo args⟩,0,[]⟩::L) (mk l h (lk gl)) Q:=
 ⟨.inr (.inl ⟨d,fo,args,rfl,Xp (zdV hf0 hcl (.inr ⟨v0,x0,hg,hf⟩) ha hA hM hE hok hs h1 h2' h3 hu hh) fun out ⟨e1,e2,e3⟩=>⟨by rw[e1,e2];exact hns,by rw[e3];exact K.out⟩⟩)⟩
theorem zfC(hf0:Ev l fo fv)(hcl:Cl fv f us)(hf:Fn P f as true rs')(ha:Evs l args vs)(hA:AO h (vs++us) as ON ls)(hM:Zm (vs++us) as=MB)(hE:Zn G MB=E)(hok:Yx ON ls G (MB.map (·.1))=true)(hs:SZ h MB)
  (h1:erL E l l') (h2':erH E h h') (h3:erL E gl gl') (hu:XS rs'=u) (hh:MB.reverse++h'=h2) (hns:zfi NS E (MB.map (·.1))=true)
  (K:RTs P nn NS L (mk ((d,u)::l') h2 (lk gl')) Q):RTs P nn NS (⟨⟨none,.callv d fo args⟩,0,[]⟩::L) (mk l h (lk gl)) Q:=
 ⟨.inr (.inl ⟨d,fo,args,rfl,Xp (zdV hf0 hcl (.inl hf) ha hA hM hE hok hs h1 h2' h3 hu hh) fun out ⟨e1,e2,e3⟩=>⟨by rw[e1,e2];exact hns,by rw[e3];exact K.out⟩⟩)⟩
end
end Go.AW
