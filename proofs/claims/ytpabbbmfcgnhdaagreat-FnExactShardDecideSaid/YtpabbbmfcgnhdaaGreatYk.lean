/- Regions in which something may be taken first: rules on written-out states. Lemmas. Conditions: none. -/
import Derived.Test.YtpabbbmfcgnhdaaGreatYh
import Derived.Test.YtpabbbmfcgnhdaaGreatXg
set_option linter.unusedVariables false
namespace Go.AW
structure RPs(P:Program)(NS:List Nat)(L:List RO)(s:St)(Q:St→Prop):Prop where
 out:RP NS L s Q
structure RTs(P:Program)(nn:Nat)(NS:List Nat)(L:List RO)(s:St)(Q:St→Prop):Prop where
 out:RT P NS L s Q
structure RUs(P:Program)(L:List RO)(s:St)(Q:St→Prop):Prop where
 out:RU P L s Q
section
variable {P:Program} {nn:Nat} {NS:List Nat} {rs L:List RO} {s:St} {Q:St→Prop} {l l':List (Nat×V)} {h h' h2:List (Nat×Blk)} {g:Nat→V} {gl gl':List (Nat×V)} {d f:Nat} {fo:Opd} {fv u:V} {us vs:List V} {args:List Opd} {as:List Ar} {ON ls G E:List Nat} {rs':List D} {MB bs:List (Nat×Blk)}
end
end Go.AW
