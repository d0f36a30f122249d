/- A slice that lies in a variable and in a row of its own as well: the row's cell is held to be that value, so that a store through it is a store to the row. Lemmas. Conditions: none. -/
import Derived.Test.YtpabbbmfcgnhdaaGreatYk
set_option linter.unusedVariables false
namespace Go.AW
section
variable {P:Program} {nn:Nat} {L:List RO} {Q:St→Prop} {l l' gl gl':List (Nat×V)} {h h':List (Nat×Blk)} {g:Nat→V}
end
section
variable {P:Program} {nn:Nat} {L:List RO} {Q:St→Prop} {l l' gl gl':List (Nat×V)} {h h':List (Nat×Blk)}
end
section
variable {P:Program} {nn:Nat} {L:List RO} {Q:St→Prop} {l l' gl gl':List (Nat×V)} {h h':List (Nat×Blk)} {g:Nat→V} {d:Nat} {x y:Opd} {s t:St}
end
end Go.AW
