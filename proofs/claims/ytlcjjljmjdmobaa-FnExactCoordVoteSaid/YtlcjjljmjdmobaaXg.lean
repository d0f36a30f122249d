/- Regions in whatever order where some operations may be taken first, although a call beside them writes. Lemmas. Conditions: none. -/
import Derived.Test.YtlcjjljmjdmobaaXd
import Derived.OrdersHeld
set_option linter.unusedVariables false
namespace Go.AW
section
variable {P:Program} {ops:Array Oper} {Q:Exit→Act→World→Prop} {S:World→Prop} {early:Nat→Bool}
end
def zdV(s:St)(NS:List Nat):IOp→Bool
 | .mov _ _=>true
 | .faddr _ _ _=>true
 | .build _ _ _=>true
 | .inv _ _=>true
 | .ext _ _ _=>true
 | .bin _ _ _ _=>true
 | .load _ _ x=>match s.ev x with
  | .one (.ptr (.nm n _ _))=>NS.contains n
  |_=>false
 |_=>false
variable {cx:Cx} {m:M} {s:St} {a:Act} {w:World} {o:Oper} {ops:Array Oper}
def RP(NS:List Nat):List RO→St→(St→Prop)→Prop
 |[],s,Q=>Q s
 |r::rs,s,Q=>r.g.g=none∧zdV s NS r.g.o=true∧XD (ev s r.g.o) fun out=>RP NS rs (s.app out) Q
def RT(P:Program)(NS:List Nat):List RO→St→(St→Prop)→Prop
 |[],s,Q=>Q s
 |r::rs,s,Q=>(r.g.g=none∧zdV s [] r.g.o=true∧XD (ev s r.g.o) fun out=>RT P NS rs (s.app out) Q)∨
   ∃d f args,r.g=⟨none,.callv d f args⟩∧zcu P s d (s.ev f) (args.map s.ev) fun out=>(NS.all fun n=>!out.er.contains n&&!(out.hp.map (·.1)).contains n)=true∧RT P NS rs (s.app out) Q
def RU(P:Program):List RO→St→(St→Prop)→Prop
 |[],s,Q=>Q s
 |r::rs,s,Q=>(r.g.g=none∧zcW r.g.o=true∧XD (ev s r.g.o) fun out=>RU P rs (s.app out) Q)∨
   (zcW r.g.o=false∧((jl P s r.g fun out=>RU P rs (s.app out) Q)∨
    ∃d f args,r.g=⟨none,.callv d f args⟩∧zcu P s d (s.ev f) (args.map s.ev) fun out=>RU P rs (s.app out) Q))
section
variable {Q:Exit→Act→World→Prop} {early:Nat→Bool} {NS:List Nat}
end
end Go.AW
