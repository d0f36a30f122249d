/- A function whose results may share what was lent to it: from its body's proof to its contract. Lemmas. Conditions: none. -/
import Derived.Test.YtlcjjljmjdmobaaX
set_option linter.unusedVariables false
namespace Go.AW
variable {cx:Cx} {m:M} {s:St} {a:Act} {w:World}
def RdI(d d':D):Prop:=∀h v bs,Rd false h d' v bs→∃bs',(∀b∈bs',b∈bs)∧Rd false h d v bs'
theorem RdI.rfl{d:D}:RdI d d:=fun _ _ bs H=>⟨bs,fun _ h=>h,H⟩
def zdi:List Nat→Bool
 |[]=>true
 |n::ns=>Nat.ble n 1999999&&zdi ns
end Go.AW
