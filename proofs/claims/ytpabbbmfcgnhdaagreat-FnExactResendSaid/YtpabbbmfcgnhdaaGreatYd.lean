/- Rules for room, copies, cuts beyond a slice's length, and two functions of Go's package slices: Insert of one element, Delete. Lemmas. Conditions: none. -/
import Derived.Test.YtpabbbmfcgnhdaaGreatYc
import Derived.Laws.Externs
import Derived.Lib.Overlaps
set_option linter.unusedVariables false
set_option maxRecDepth 100000
namespace Go.AW
section
variable {P:Program} {l:bB} {h:bC} {g:Nat→V} {Q:St→Prop} {rs:List RO} {dep:Nat} {A:List Nat} {d:Nat} {x y z:Opd} {v u:V} {k:IntKind} {a b:Int}
end
end Go.AW
