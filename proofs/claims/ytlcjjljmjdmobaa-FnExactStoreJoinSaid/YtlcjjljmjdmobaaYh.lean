/- Rows of rows that are wholly one's own: rules on written-out states. Lemmas. Conditions: none. -/
import Derived.Test.YtlcjjljmjdmobaaYg
import Derived.Test.YtlcjjljmjdmobaaXf
set_option linter.unusedVariables false
namespace Go.AW
section
variable {P:Program} {nn:Nat} {L rs0:List RO} {Q:St→Prop} {l l' gl gl':List (Nat×V)} {h h':List (Nat×Blk)} {g:Nat→V} {dep d:Nat} {A:List Nat} {x y:Opd} {v u:V}
end
end Go.AW
