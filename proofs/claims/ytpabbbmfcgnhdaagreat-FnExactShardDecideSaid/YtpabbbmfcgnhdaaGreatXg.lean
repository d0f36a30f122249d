/- Regions in whatever order where some operations may be taken first, although a call beside them writes. Lemmas. Conditions: none. -/
import Derived.Test.YtpabbbmfcgnhdaaGreatXf
import Derived.OrdersHeld
set_option linter.unusedVariables false
namespace Go.AW
section
variable {P:Program} {ops:Array Oper} {Q:Exit→Act→World→Prop} {S:World→Prop} {early:Nat→Bool}
end
def zj4(s:St)(NS:List Nat):IOp→Bool
 | .mov _ _=>true
 | .faddr _ _ _=>true
 | .build _ _ _=>true
 | .inv _ _=>true
 | .ext _ _ _=>true
 | .bin _ _ _ _=>true
 | .load _ _ x=>match s.ev x with
  | .one (.ptr<|.nm n _ _)=>NS.contains n
  |_=>false
 | .iaddr _ _ x _=>match s.ev x with
  | .one (.sl _ _ _)=>true
  |_=>false
 | .len _ _ x=>match s.ev x with
  | .one (.sl _ _ _)=>true
  |_=>false
 |_=>false
variable {cx:Cx} {m:M} {s:St} {a:Act} {w:World} {o:Oper} {ops:Array Oper}
def RP(NS:List Nat):List RO→St→(St→Prop)→Prop
 |[],s,Q=>Q s
 |r::rs,s,Q=>r.g.g=none∧zj4 s NS r.g.o=true∧zcC (ev s r.g.o) fun out=>RP NS rs (s.app out) Q
def RT(P:Program)(NS:List Nat):List RO→St→(St→Prop)→Prop
 |[],s,Q=>Q s
 |r::rs,s,Q=>(r.g.g=none∧zj4 s [] r.g.o=true∧zcC (ev s r.g.o) fun out=>RT P NS rs (s.app out) Q)∨
   (∃d f args,r.g=⟨none,.callv d f args⟩∧zib P s d (s.ev f) (args.map s.ev) fun out=>(NS.all fun n=>!out.er.contains n&&!(out.hp.map (·.1)).contains n)=true∧RT P NS rs (s.app out) Q)∨
   ∃d sz zs ps,r.g=⟨none,.bslice d sz zs ps⟩∧zcC (ev s r.g.o) fun out=>RT P NS rs (s.app out) Q
def HS(s:St)(io:IOp)(s1:St):Prop:=∀(cx:Cx) (m:M) (o:Oper) (a:Act) (w:World) (K:Act→World→Prop) (Q:Exit→Act→World→Prop),XY cx.P cx.n o=some io→zO cx m s a w→(∀m' a' w',zO cx m' s1 a' w'→K a' w')→o.wp cx.P a w K Q
def RU(P:Program):List RO→St→(St→Prop)→Prop
 |[],s,Q=>Q s
 |r::rs,s,Q=>(r.g.g=none∧zjF r.g.o=true∧zcC (ev s r.g.o) fun out=>RU P rs (s.app out) Q)∨
   (zjF r.g.o=false∧((yC P s r.g fun out=>RU P rs (s.app out) Q)∨
    (∃d f args,r.g=⟨none,.callv d f args⟩∧zib P s d (s.ev f) (args.map s.ev) fun out=>RU P rs (s.app out) Q)∨
     ∃s1,r.g.g=none∧HS s r.g.o s1∧RU P rs s1 Q))
section
variable {Q:Exit→Act→World→Prop} {early:Nat→Bool} {NS:List Nat}
end
end Go.AW
