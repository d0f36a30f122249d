/- Regions in whatever order whose end is in order, or with loads beside appends: rules on written-out states. Lemmas. Conditions: none. -/
import Derived.Test.YtlcjjljmjdmobaaYe
set_option linter.unusedVariables false
namespace Go.AW
structure RE(P:Program)(E:List Nat)(L:List RO)(s:St)(Q:St→Prop):Prop where
 out:regE P true E L s Q
section
variable {P:Program} {l:List (Nat×V)} {h:List (Nat×Blk)} {g:Nat→V} {Q:St→Prop} {rs:List RO} {dep:Nat} {A E:List Nat} {d:Nat} {x y z:Opd} {v u:V}
end
end Go.AW
