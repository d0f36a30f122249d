/- Regions in which something may be taken first: rules on written-out states. Lemmas. Conditions: none. -/
import Derived.Test.YtlcjjljmjdmobaaYh
import Derived.Test.YtlcjjljmjdmobaaXg
set_option linter.unusedVariables false
namespace Go.AW
theorem wk_cell0{v0:Value}{x0 c c':D}{n k:Nat}{cs:List C}{l:List (Nat×V)}{h:List (Nat×Blk)}{gl:List (Nat×V)}(hg:lk gl 63= .one (.d (.both v0 x0)))(hb:LB h n (.vars k (.d c::cs)))
  (H:∀(hp:Hp) (u:Value) (bs bx:List Nat),Rd false hp c u bs→Rd false hp (.both v0 x0) v0 bx→Rd false hp c' u bs∨Rd false hp c' u bx∨Rd false hp c' u []):Wk (mk l ((n,.vars k (.d c'::cs))::h) (lk gl)) (mk l h (lk gl)):=fun cx a w ⟨m,R⟩=>by
 refine⟨m,R.size,R.defers,R.sl,fun j=> ?_,R.own,R.fr,R.gh⟩
 show NRel cx m w.heap j (if j=n then _ else lkB h j) _
 by_cases e:j=n
 ·subst e
  rw[if_pos rfl]
  have A:=R.hp j
  have e1:(mk l h (lk gl)).hp j=some (.vars k (.d c::cs)):=hb
  rw[e1] at A
  have G:=R.gh 63
  have e2:(mk l h (lk gl)).gh 63= .one (.d (.both v0 x0)):=hg
  rw[e2] at G
  obtain⟨_,b2,r2,o2⟩:=G
  have hv:v0=cx.gh 63:=by simp only[Rd] at r2;exact r2.1.1
  rw[←hv] at r2
  cases hi:m.inf j with
  |none=>rw[hi] at A;exact A.elim
  |some f=>
   rw[hi] at A
   unfold NRel at A ⊢
   cases hbk:f.blk with
   |none=>
    simp only[hbk] at A
    obtain⟨_,_,_,_,hx,_⟩:=A
    cases hx
   |some b=>
    simp only[hbk] at A ⊢
    obtain⟨h1,h2,cells,T,h3,h4,h5,h6⟩:=A
    refine⟨h1,h2,cells,T,h3,h4,h5,?_⟩
    revert h6
    generalize cells.toList=L
    intro h6
    match L,h6 with
    |u::us,h6=>
     obtain⟨⟨a1,b1,r1,o1⟩,h7⟩:=h6
     rcases H _ _ _ _ r1 r2 with r|r|r
     ·exact⟨⟨a1,b1,r,o1⟩,h7⟩
     ·exact⟨⟨a1,b2,r,o2⟩,h7⟩
     ·exact⟨⟨a1,[],r,by simp⟩,h7⟩
 ·rw[if_neg e]
  exact R.hp j
theorem wk_cellB{v0:Value}{x0:D}{n k:Nat}{cs:List C}{l:List (Nat×V)}{h:List (Nat×Blk)}{gl:List (Nat×V)}(hg:lk gl 63= .one (.d (.both v0 x0)))(hb:LB h n (.vars k (.d (.pin v0)::cs))):
  Wk (mk l ((n,.vars k (.d (.both v0 x0)::cs))::h) (lk gl)) (mk l h (lk gl)):=
 wk_cell0 hg hb fun hp u bs bx r1 r2=>by
  have e:v0=u:=by simp only[Rd] at r1;exact r1.1.1
  subst e
  exact .inr (.inl r2)
theorem wk_cellP{v0:Value}{sz n k:Nat}{xs:List (List D)}{cs:List C}{l:List (Nat×V)}{h:List (Nat×Blk)}{gl:List (Nat×V)}(hg:lk gl 63= .one (.d (.both v0 (.sl sz xs))))(hb:LB h n (.vars k (.d (.both v0 (.sl sz xs))::cs))):
  Wk (mk l ((n,.vars k (.d (.pin v0)::cs))::h) (lk gl)) (mk l h (lk gl)):=
 wk_cell0 hg hb fun hp u bs bx r1 r2=>by
  simp only[Rd] at r1 ⊢
  obtain⟨⟨e,_⟩,a,c,e2,_⟩:=r1
  exact .inr (.inr ⟨⟨e,a,_,c,e2⟩,by trivial⟩)
structure RPs(P:Program)(NS:List Nat)(L:List RO)(s:St)(Q:St→Prop):Prop where
 out:RP NS L s Q
structure RTs(P:Program)(nn:Nat)(NS:List Nat)(L:List RO)(s:St)(Q:St→Prop):Prop where
 out:RT P NS L s Q
structure RUs(P:Program)(L:List RO)(s:St)(Q:St→Prop):Prop where
 out:RU P L s Q
section
variable {P:Program} {nn:Nat} {NS:List Nat} {rs L:List RO} {s:St} {Q:St→Prop} {l l':List (Nat×V)} {h h' h2:List (Nat×Blk)} {g:Nat→V} {gl gl':List (Nat×V)} {d f:Nat} {fo:Opd} {fv u:V} {us vs:List V} {args:List Opd} {as:List Ar} {ON ls G E:List Nat} {rs':List D} {MB bs:List (Nat×Blk)}
end
end Go.AW
