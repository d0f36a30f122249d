/- Regions in which something may be taken first: rules on written-out states. Lemmas. Conditions: none. -/
import Derived.Test.YtpabbbmfcgnhdaaGreatYh
import Derived.Test.YtpabbbmfcgnhdaaGreatXg
set_option linter.unusedVariables false
namespace Go.AW
theorem zfN{P:Program}{s:St}{d:Nat}{f:V}{vs:List V}{K K':Out→Prop}(h:zbb P s d f vs K)(hk:∀out,K out→K' out):zbb P s d f vs K':=by
 obtain⟨c,as,ON,ls,G,rs,md,h1,h2,h3,h4,h5,h6,h7,h8,h9,h10,h11⟩:=h;refine⟨c,as,ON,ls,G,rs,md,h1,h2,h3,h4,h5,h6,h7,h8,h9,h10,?_⟩;cases md with
 |true=>simp only[if_true] at h11 ⊢;exact⟨h11.1,hk _ h11.2⟩
 |false=>simp only[Bool.false_eq_true,if_false] at h11 ⊢;exact hk _ h11
structure RPs(P:Program)(NS:List Nat)(L:List RO)(s:St)(Q:St→Prop):Prop where
 out:RP NS L s Q
structure RTs(P:Program)(nn:Nat)(NS:List Nat)(L:List RO)(s:St)(Q:St→Prop):Prop where
 out:RT P NS L s Q
structure RUs(P:Program)(L:List RO)(s:St)(Q:St→Prop):Prop where
 out:RU P L s Q
theorem zgM{NS:List Nat}:∀{L:List RO} {s:St} {Q Q':St→Prop},RP NS L s Q→(∀s,Q s→Q' s)→RP NS L s Q'
 |[],_,_,_,h,hq=>hq _ h
 |_::_,_,_,_,⟨h1,h2,h3⟩,hq=>⟨h1,h2,Zl h3 fun _ h=>zgM h hq⟩
theorem zby{P:Program}{NS:List Nat}:∀{L:List RO} {s:St} {Q Q':St→Prop},RT P NS L s Q→(∀s,Q s→Q' s)→RT P NS L s Q'
 |[],_,_,_,h,hq=>hq _ h
 |_::_,_,_,_,.inl ⟨h1,h2,h3⟩,hq=> .inl ⟨h1,h2,Zl h3 fun _ h=>zby h hq⟩
 |_::_,_,_,_,.inr<|.inl ⟨d,f,args,h1,h2⟩,hq=> .inr (.inl ⟨d,f,args,h1,zfN h2 fun _ ⟨h3,h4⟩=>⟨h3,zby h4 hq⟩⟩)
 |_::_,_,_,_,.inr<|.inr ⟨d,sz,zs,ps,h1,h2⟩,hq=> .inr (.inr ⟨d,sz,zs,ps,h1,Zl h2 fun _ h=>zby h hq⟩)
theorem AW.regp{P:Program}{nn:Nat}{L M N:List RO}{s:St}{Qx:Exit→St→Prop}(NS:List Nat)(h:RPs P NS L s (fun s1=>RTs P nn NS M s1 (fun s2=>RUs P N s2 (Qx .normal)))):AW P nn (.regp L M N) Qx s:=
 ⟨AW0.regp NS (zgM h.out fun _ h1=>zby h1.out fun _ h2=>h2.out)⟩
def zd4:IOp→Bool
 | .mov _ _=>true
 | .faddr _ _ _=>true
 | .build _ _ _=>true
 | .inv _ _=>true
 | .ext _ _ _=>true
 | .bin _ _ _ _=>true
 |_=>false
theorem zg6{s:St}{NS:List Nat}{o:IOp}(h:zd4 o=true):Qm s NS o=true:=by
 cases o<;>first|rfl|cases h
section
variable {P:Program} {nn:Nat} {NS:List Nat} {rs L:List RO} {s:St} {Q:St→Prop} {l l':bB} {h h' h2:bC} {g:Nat→V} {gl gl':bB} {d f:Nat} {fo:Opd} {fv u:V} {us vs:List V} {args:List Opd} {as:List Ar} {ON ls G E:List Nat} {rs':List D} {MB bs:bC}
theorem zvf(H:Q s):RPs P NS [] s Q:=⟨H⟩
theorem zum(H:Q s):RTs P nn NS [] s Q:=⟨H⟩
theorem zfn{o:IOp}{K:Out→Prop}(hl:zd4 o=true)(H:opA P s o K):Ym (ev s o) K:=by
 cases o<;>first|exact H|cases hl
theorem zfq{o:IOp}(hl:zd4 o=true)(H:RG P [⟨⟨none,o⟩,0,[]⟩] s (fun s'=>RPs P NS rs s' Q)):RPs P NS (⟨⟨none,o⟩,0,[]⟩::rs) s Q:=
 have H':opA P s o fun out=>RPs P NS rs (s.app out) Q:=H.out
 ⟨⟨rfl,zg6 hl,Zl (zfn hl H') fun _ h=>h.out⟩⟩
theorem zhV{d n i j:Nat}{ag:Option Nat}{x:Opd}(hx:Ev l x (.one<|.ptr<|.nm n i j))(hn:NS.contains n=true)(H:RG P [⟨⟨none,.load d ag x⟩,0,[]⟩] (mk l h g) (fun s'=>RPs P NS rs s' Q)):RPs P NS (⟨⟨none,.load d ag x⟩,0,[]⟩::rs) (mk l h g) Q:=
 have H':Ym (ev (mk l h g)<|.load d ag x) fun out=>RPs P NS rs ((mk l h g).app out) Q:=H.out
 ⟨⟨rfl,(by show Qm (mk l h g) NS (.load d ag x)=true;simp only[Qm,hx.ev];exact hn),Zl H' fun _ h=>h.out⟩⟩
theorem ziq{d:Nat}{p:Ptr}{x:Opd}(hx:Ev l x (.one<|.ptr p))(H:RG P [⟨⟨none,.nilchk d x⟩,0,[]⟩] (mk l h g) (fun s'=>RPs P NS rs s' Q)):RPs P NS (⟨⟨none,.nilchk d x⟩,0,[]⟩::rs) (mk l h g) Q:=
 have H':Ym (ev (mk l h g)<|.nilchk d x) fun out=>RPs P NS rs ((mk l h g).app out) Q:=H.out
 ⟨⟨rfl,(by show Qm (mk l h g) NS (.nilchk d x)=true;simp only[Qm,hx.ev]),Zl H' fun _ h=>h.out⟩⟩
theorem zhZ{d sz:Nat}{zs:List C}{ps:List (Nat×Nat×Opd)}(H:RG P [⟨⟨none,.bslice d sz zs ps⟩,0,[]⟩] s (fun s'=>RTs P nn NS rs s' Q)):RTs P nn NS (⟨⟨none,.bslice d sz zs ps⟩,0,[]⟩::rs) s Q:=
 have H':Ym (ev s<|.bslice d sz zs ps) fun out=>RTs P nn NS rs (s.app out) Q:=H.out
 ⟨.inr<|.inr ⟨d,sz,zs,ps,rfl,Zl H' fun _ h=>h.out⟩⟩
theorem zvg(H:Q s):RUs P [] s Q:=⟨H⟩
theorem zvp{o:IOp}(hl:zcB o=true)(H:RG P [⟨⟨none,o⟩,0,[]⟩] s (fun s'=>RUs P rs s' Q)):RUs P (⟨⟨none,o⟩,0,[]⟩::rs) s Q:=
 have H':opA P s o fun out=>RUs P rs (s.app out) Q:=H.out;have hk:zd4 o=true:=by cases o<;>first|rfl|cases hl
 ⟨.inl ⟨rfl,hl,Zl (zfn hk H') fun _ h=>h.out⟩⟩
theorem zhz{g:GOp}(hl:zcB g.o=false)(H:RG P [⟨g,0,[]⟩] s (fun s'=>RUs P rs s' Q)):RUs P (⟨g,0,[]⟩::rs) s Q:=
 have H':jt P s g fun out=>RUs P rs (s.app out) Q:=H.out
 ⟨.inr ⟨hl,.inl (k9 H' fun _ h=>h.out)⟩⟩
end
end Go.AW
