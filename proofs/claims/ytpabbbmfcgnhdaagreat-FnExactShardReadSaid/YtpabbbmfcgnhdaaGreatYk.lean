/- Regions in which something may be taken first: rules on written-out states. Lemmas. Conditions: none. -/
import Derived.Test.YtpabbbmfcgnhdaaGreatYh
import Derived.Test.YtpabbbmfcgnhdaaGreatXg
set_option linter.unusedVariables false
namespace Go.AW
theorem zd7{P:Program}{s:St}{d:Nat}{f:V}{vs:List V}{K K':Out→Prop}(h:zdN P s d f vs K)(hk:∀out,K out→K' out):zdN P s d f vs K':=by
 obtain⟨c,as,ON,ls,G,rs,md,h1,h2,h3,h4,h5,h6,h7,h8,h9,h10,h11⟩:=h;refine⟨c,as,ON,ls,G,rs,md,h1,h2,h3,h4,h5,h6,h7,h8,h9,h10,?_⟩;cases md with
 |true=>simp only[if_true] at h11 ⊢;exact⟨h11.1,hk _ h11.2⟩
 |false=>simp only[Bool.false_eq_true,if_false] at h11 ⊢;exact hk _ h11
structure RPs(P:Program)(NS:List Nat)(L:List RO)(s:St)(Q:St→Prop):Prop where
 out:RP NS L s Q
structure RTs(P:Program)(nn:Nat)(NS:List Nat)(L:List RO)(s:St)(Q:St→Prop):Prop where
 out:RT P NS L s Q
structure RUs(P:Program)(L:List RO)(s:St)(Q:St→Prop):Prop where
 out:RU P L s Q
theorem zlx{NS:List Nat}:∀{L:List RO} {s:St} {Q Q':St→Prop},RP NS L s Q→(∀s,Q s→Q' s)→RP NS L s Q'
 |[],_,_,_,h,hq=>hq _ h
 |_::_,_,_,_,⟨h1,h2,h3⟩,hq=>⟨h1,h2,xC h3 fun _ h=>zlx h hq⟩
theorem zgm{P:Program}{NS:List Nat}:∀{L:List RO} {s:St} {Q Q':St→Prop},RT P NS L s Q→(∀s,Q s→Q' s)→RT P NS L s Q'
 |[],_,_,_,h,hq=>hq _ h
 |_::_,_,_,_,.inl ⟨h1,h2,h3⟩,hq=> .inl ⟨h1,h2,xC h3 fun _ h=>zgm h hq⟩
 |_::_,_,_,_,.inr<|.inl ⟨d,f,args,h1,h2⟩,hq=> .inr (.inl ⟨d,f,args,h1,zd7 h2 fun _ ⟨h3,h4⟩=>⟨h3,zgm h4 hq⟩⟩)
 |_::_,_,_,_,.inr<|.inr ⟨d,sz,zs,ps,h1,h2⟩,hq=> .inr (.inr ⟨d,sz,zs,ps,h1,xC h2 fun _ h=>zgm h hq⟩)
theorem AW.regp{P:Program}{nn:Nat}{L M N:List RO}{s:St}{Qx:Exit→St→Prop}(NS:List Nat)(h:RPs P NS L s (fun s1=>RTs P nn NS M s1 (fun s2=>RUs P N s2 (Qx .normal)))):AW P nn (.regp L M N) Qx s:=
 ⟨AW0.regp NS (zlx h.out fun _ h1=>zgm h1.out fun _ h2=>h2.out)⟩
def ziZ:IOp→Bool
 | .mov _ _=>true
 | .faddr _ _ _=>true
 | .build _ _ _=>true
 | .inv _ _=>true
 | .ext _ _ _=>true
 | .bin _ _ _ _=>true
 |_=>false
theorem zl7{s:St}{NS:List Nat}{o:IOp}(h:ziZ o=true):kP s NS o=true:=by
 cases o<;>first|rfl|cases h
section
variable {P:Program} {nn:Nat} {NS:List Nat} {rs L:List RO} {s:St} {Q:St→Prop} {l l':bH} {h h' h2:bI} {g:Nat→V} {gl gl':bH} {d f:Nat} {fo:Opd} {fv u:V} {us vs:List V} {args:List Opd} {as:List Ar} {ON ls G E:List Nat} {rs':List D} {MB bs:bI}
theorem zF8(H:Q s):RPs P NS [] s Q:=⟨H⟩
theorem zJt(H:Q s):RTs P nn NS [] s Q:=⟨H⟩
theorem zjr{o:IOp}{K:Out→Prop}(hl:ziZ o=true)(H:opA P s o K):zb4 (ev s o) K:=by
 cases o<;>first|exact H|cases hl
theorem zp4{o:IOp}(hl:ziZ o=true)(H:RG P [⟨⟨none,o⟩,0,[]⟩] s (fun s'=>RPs P NS rs s' Q)):RPs P NS (⟨⟨none,o⟩,0,[]⟩::rs) s Q:=
 have H':opA P s o fun out=>RPs P NS rs (s.app out) Q:=H.out
 ⟨⟨rfl,zl7 hl,xC (zjr hl H') fun _ h=>h.out⟩⟩
theorem zBd{d n i j:Nat}{ag:Option Nat}{x:Opd}(hx:Ev l x (.one<|.ptr<|.nm n i j))(hn:NS.contains n=true)(H:RG P [⟨⟨none,.load d ag x⟩,0,[]⟩] (mk l h g) (fun s'=>RPs P NS rs s' Q)):RPs P NS (⟨⟨none,.load d ag x⟩,0,[]⟩::rs) (mk l h g) Q:=
 have H':zb4 (ev (mk l h g)<|.load d ag x) fun out=>RPs P NS rs ((mk l h g).app out) Q:=H.out
 ⟨⟨rfl,(by show kP (mk l h g) NS (.load d ag x)=true;simp only[kP,hx.ev];exact hn),xC H' fun _ h=>h.out⟩⟩
theorem zGt(H:Q s):RUs P [] s Q:=⟨H⟩
theorem zp5{o:IOp}(hl:zgK o=true)(H:RG P [⟨⟨none,o⟩,0,[]⟩] s (fun s'=>RUs P rs s' Q)):RUs P (⟨⟨none,o⟩,0,[]⟩::rs) s Q:=
 have H':opA P s o fun out=>RUs P rs (s.app out) Q:=H.out;have hk:ziZ o=true:=by cases o<;>first|rfl|cases hl
 ⟨.inl ⟨rfl,hl,xC (zjr hk H') fun _ h=>h.out⟩⟩
theorem zwh{g:GOp}(hl:zgK g.o=false)(H:RG P [⟨g,0,[]⟩] s (fun s'=>RUs P rs s' Q)):RUs P (⟨g,0,[]⟩::rs) s Q:=
 have H':yF P s g fun out=>RUs P rs (s.app out) Q:=H.out
 ⟨.inr ⟨hl,.inl (zcf H' fun _ h=>h.out)⟩⟩
def znv(NS E MN:List Nat):Bool:=NS.all fun n=>!E.contains n&&!MN.contains n
theorem zMg(hf0:Ev l fo fv)(hcl:Cl fv f us)(hf:FnS P (mk l h<|lk gl) f as rs')(ha:Evs l args vs)(hA:AO h (vs++us) as ON ls)(hM:ZJ (vs++us) as=MB)(hE:ZI G MB=E)(hok:X6 ON ls G (MB.map (·.1))=true)(hs:SZ h MB)
  (h1:erL E l l') (h2':erH E h h') (h3:erL E gl gl') (hu:jf (d * 64) rs'=(u,bs)) (hh:bs.reverse++(MB.reverse++h')=h2) (hfr:jc (mk [] (MB.reverse++h') noG) ((d * 64+63)::bs.map (·.1))):
  zdN P (mk l h<|lk gl) d ((mk l h<|lk gl).ev fo) (args.map (mk l h<|lk gl).ev) fun out=>out.er=E∧out.hp=MB++bs∧(mk l h<|lk gl).app out=mk ((d,u)::l') h2 (lk gl'):=by
 subst hM;subst hE;subst hh;simp only[X6,Bool.and_eq_true,decide_eq_true_eq,List.all_eq_true] at hok;obtain⟨⟨⟨⟨⟨k1,k2⟩,k3⟩,k4⟩,k5⟩,k6⟩:=hok;rw[hf0.ev,ha.ev];refine⟨(f,us),as,ON,ls,G,rs',true,hcl,hA.args,k1,fun n hn=>by simpa using k2 n hn,hf,fun n hn=>by simpa using k3 n hn,fun n hn=>by simpa using k4 n hn,fun n hn=>by have h:=k5 n hn;rw[Nat.blt_eq] at h;exact h,fun n hn=>by have h:=k6 n hn;rw[Nat.blt_eq] at h;exact h,fun p hp=>hs.mem p hp,?_⟩;rw[hu];simp only[if_true];refine⟨?_,by trivial,by trivial,?_⟩
 ·have e:((mk l h<|lk gl).er<|ZI G<|ZJ (vs++us) as).blks (ZJ (vs++us) as)=mk l' ((ZJ (vs++us) as).reverse++h') (lk gl'):=by
   refine St.ext' (fun t=> ?_) (fun k=> ?_) ?_
   ·rw[(xh _ _).1];exact(h1.lk t).symm
   ·rw[Ke];show _=lkB _ k;rw[zbU,h2'.lk k];rfl
   ·rw[(xh _ _).2];funext t;exact(h3.lk t).symm
  rw[e,zbI (s:=mk [] ((ZJ (vs++us) as).reverse++h') noG) (s':=mk l' ((ZJ (vs++us) as).reverse++h') (lk gl')) rfl];exact hfr
 ·exact zg1 h1 h2' h3
theorem zlz(hf0:Ev l fo fv)(hcl:Cl fv f us)(hf:FnS P (mk l h<|lk gl) f as rs')(ha:Evs l args vs)(hA:AO h (vs++us) as ON ls)(hM:ZJ (vs++us) as=MB)(hE:ZI G MB=E)(hok:X6 ON ls G (MB.map (·.1))=true)(hs:SZ h MB)
  (h1:erL E l l') (h2':erH E h h') (h3:erL E gl gl') (hu:zb2 rs'=u) (hh:MB.reverse++h'=h2):
  zdN P (mk l h<|lk gl) d ((mk l h<|lk gl).ev fo) (args.map (mk l h<|lk gl).ev) fun out=>out.er=E∧out.hp=MB∧(mk l h<|lk gl).app out=mk ((d,u)::l') h2 (lk gl'):=by
 subst hM;subst hE;subst hh;subst hu;simp only[X6,Bool.and_eq_true,decide_eq_true_eq,List.all_eq_true] at hok;obtain⟨⟨⟨⟨⟨k1,k2⟩,k3⟩,k4⟩,k5⟩,k6⟩:=hok;rw[hf0.ev,ha.ev];refine⟨(f,us),as,ON,ls,G,rs',false,hcl,hA.args,k1,fun n hn=>by simpa using k2 n hn,hf,fun n hn=>by simpa using k3 n hn,fun n hn=>by simpa using k4 n hn,fun n hn=>by have h:=k5 n hn;rw[Nat.blt_eq] at h;exact h,fun n hn=>by have h:=k6 n hn;rw[Nat.blt_eq] at h;exact h,fun p hp=>hs.mem p hp,?_⟩;simp only[Bool.false_eq_true,if_false];refine⟨by trivial,by trivial,?_⟩;have:=zg1 (E:=ZI G (ZJ (vs++us) as)) (d:=d) (u:=zb2 rs') (MB:=ZJ (vs++us) as) (bs:=[]) h1 h2' h3;rw[List.append_nil] at this;exact this
theorem zIY{v0:Value}{x0:D}(hg:lk gl 63= .one (.d<|.both v0 x0))(hf0:Ev l fo fv)(hcl:Cl fv f us)(hf:FnC P v0 x0 f as rs')(ha:Evs l args vs)(hA:AO h (vs++us) as ON ls)(hM:ZJ (vs++us) as=MB)(hE:ZI G MB=E)(hok:X6 ON ls G (MB.map (·.1))=true)(hs:SZ h MB)
  (h1:erL E l l') (h2':erH E h h') (h3:erL E gl gl') (hu:zb2 rs'=u) (hh:MB.reverse++h'=h2) (hns:znv NS E (MB.map (·.1))=true)
  (K:RTs P nn NS L (mk ((d,u)::l') h2<|lk gl') Q):RTs P nn NS (⟨⟨none,.callv d fo args⟩,0,[]⟩::L) (mk l h<|lk gl) Q:=
 ⟨.inr<|.inl ⟨d,fo,args,rfl,zd7 (zlz hf0 hcl (.inr ⟨v0,x0,hg,hf⟩) ha hA hM hE hok hs h1 h2' h3 hu hh) fun out ⟨e1,e2,e3⟩=>⟨by rw[e1,e2];exact hns,by rw[e3];exact K.out⟩⟩⟩
theorem zpz(hf0:Ev l fo fv)(hcl:Cl fv f us)(hf:Fn P f as true rs')(ha:Evs l args vs)(hA:AO h (vs++us) as ON ls)(hM:ZJ (vs++us) as=MB)(hE:ZI G MB=E)(hok:X6 ON ls G (MB.map (·.1))=true)(hs:SZ h MB)
  (h1:erL E l l') (h2':erH E h h') (h3:erL E gl gl') (hu:zb2 rs'=u) (hh:MB.reverse++h'=h2) (hns:znv NS E (MB.map (·.1))=true)
  (K:RTs P nn NS L (mk ((d,u)::l') h2<|lk gl') Q):RTs P nn NS (⟨⟨none,.callv d fo args⟩,0,[]⟩::L) (mk l h<|lk gl) Q:=
 ⟨.inr<|.inl ⟨d,fo,args,rfl,zd7 (zlz hf0 hcl (.inl hf) ha hA hM hE hok hs h1 h2' h3 hu hh) fun out ⟨e1,e2,e3⟩=>⟨by rw[e1,e2];exact hns,by rw[e3];exact K.out⟩⟩⟩
end
end Go.AW
