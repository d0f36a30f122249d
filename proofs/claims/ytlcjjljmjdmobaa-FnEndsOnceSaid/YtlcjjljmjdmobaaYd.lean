/- Rules for room, copies, cuts beyond a slice's length, and two functions of Go's package slices: Insert of one element, Delete. Lemmas. Conditions: none. -/
import Derived.Test.YtlcjjljmjdmobaaYc
import Derived.Laws.Externs
import Derived.Lib.Overlaps
set_option linter.unusedVariables false
set_option maxRecDepth 100000
namespace Go.AW
section
variable {P:Program} {l:List (Nat×V)} {h:List (Nat×Blk)} {g:Nat→V} {Q:St→Prop} {rs:List RO} {dep:Nat} {A:List Nat} {d:Nat} {x y z:Opd} {v u:V} {k:IntKind} {a b:Int}
end
theorem zkf{P:Program}{nn:Nat}{c:IC}{Q:Exit→St→Prop}{l:List (Nat×V)}{h:List (Nat×Blk)}{g:Nat→V}{t n sz:Nat}{xs:List (List D)}{own:Bool}(hx:Ev l (.t t) (.one (.sl n 0 xs.length)))(hb:LB h n (.data sz xs own none))
  (K:∀cap:Nat,xs.length≤cap→AW P nn c Q (Go.AW.mk l ((n,.data sz xs own (some cap))::h) g)):AW P nn c Q (Go.AW.mk l h g):=⟨fun cx code hh hh' a w hP hn hic ⟨m,R⟩=>by
 have hs:=R.sl t
 have e:(Go.AW.mk l h g).sl t= .one (.sl n 0 xs.length):=hx.ev (h:=h) (g:=g)
 rw[e] at hs
 obtain⟨f,hf,hcap,_⟩:=yI hs
 refine(K f.cap (by omega)).h cx code hh hh' a w hP hn hic ⟨m,R.size,R.defers,R.sl,fun j=> ?_,R.own,R.fr,R.gh⟩
 show zY cx m w.heap j (if j=n then _ else lkB h j) _
 by_cases ej:j=n
 ·subst ej
  rw[if_pos rfl]
  have H:=R.hp j
  have eb:(Go.AW.mk l h g).hp j=some (.data sz xs own none):=hb
  rw[eb,hf] at H
  rw[hf]
  unfold zY at H ⊢
  simp only at H ⊢
  cases hbk:f.blk with
  |none=>
   rw[hbk] at H
   obtain⟨h1,s',o',cp',he,h2,h3⟩:=H
   injection he with e1 e2 e3 e4
   subst e1;subst e2;subst e3
   exact⟨h1,sz,own,some f.cap,rfl,h2,by simp⟩
  |some b=>
   rw[hbk] at H
   obtain⟨h1,h2,cells,T,h3,h4,h5⟩:=H
   obtain⟨i1,i2,i3⟩:=h5
   exact⟨h1,h2,cells,T,h3,h4,i1,by simp,i3⟩
 ·rw[if_neg ej]
  exact R.hp j⟩
theorem zgg(n:Nat){sz:Nat}{zs es:List D}{cs:List C}{l:List (Nat×V)}{h:List (Nat×Blk)}{g:Nat→V}(hb:LB h n (.vars sz cs))(he:Yg true zs cs=some es)(hl:cs.length=sz):Wk (mk l ((n,.data sz [es] true none)::h) g) (mk l h g):=fun cx a w ⟨m,R⟩=>by
 refine⟨m,R.size,R.defers,R.sl,fun j=> ?_,R.own,R.fr,R.gh⟩
 show zY cx m w.heap j (if j=n then _ else lkB h j) _
 by_cases e:j=n
 ·subst e
  rw[if_pos rfl]
  have H:=R.hp j
  have e:(mk l h g).hp j=some (.vars sz cs):=hb
  rw[e] at H
  cases hi:m.inf j with
  |none=>rw[hi] at H;exact H.elim
  |some fi=>
   rw[hi] at H
   unfold zY at H ⊢
   simp only at H ⊢
   cases hbk:fi.blk with
   |none=>
    rw[hbk] at H
    obtain⟨h1,s',o',cp',he,h2,h3⟩:=H
    cases he
   |some b=>
    rw[hbk] at H
    obtain⟨h1,h2,cells,T,h3,h4,h5,h6⟩:=H
    obtain⟨bs,hr,ho,_⟩:=xz (m:=m) he h6
    have hlen:=hr.length
    have hlc:=h6.length
    refine⟨h1,h2,cells,T,h3,h4,h5,by simp,[],?_,fun _=>⟨List.nodup_nil,by simp⟩,fun h=>by cases h⟩
    rw[ho rfl] at hr
    simp only[RdLL]
    refine⟨[],[],by simp,by omega,?_,rfl⟩
    rw[List.take_of_length_le (by omega)]
    exact hr
 ·rw[if_neg e]
  exact R.hp j
theorem ze5(n:Nat){α:Type}{f:α→List D}{t:α}{sz:Nat}{zs:List D}{cs:List C}{l:List (Nat×V)}{h:List (Nat×Blk)}{g:Nat→V}(hb:LB h n (.vars sz cs))(he:Yg true zs cs=some (f t))(hl:cs.length=sz):Wk (mk l ((n,.data sz (List.map f [t]) true none)::h) g) (mk l h g):=zgg n hb he hl
end Go.AW
