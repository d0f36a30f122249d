/- Regions in whatever order whose end is in order, or with loads beside appends: rules on written-out states. Lemmas. Conditions: none. -/
import Derived.Test.YtpabbbmfcgnhdaaGreatYe
set_option linter.unusedVariables false
namespace Go.AW
theorem zgX{P:Program}:∀{L:List RO} {s:St} {Q Q':St→Prop},zau P L s Q→(∀s,Q s→Q' s)→zau P L s Q'
 |[],_,_,_,h,hq=>hq _ h
 |_::_,_,_,_,h,hq=>zf9 h fun _ h=>zgX h hq
theorem AW.regt{P:Program}{nn:Nat}{L M:List RO}{s:St}{Qx:Exit→St→Prop}(h:RG P L s (fun s'=>RM P nn M s' (Qx .normal))):AW P nn (.regt L M) Qx s:=
 ⟨AW0.regt (zgX h.out fun s' hs=>hs.out)⟩
structure RE(P:Program)(E:List Nat)(L:List RO)(s:St)(Q:St→Prop):Prop where
 out:ziz P true E L s Q
section
variable {P:Program} {l:List (Nat×V)} {h:List (Nat×Blk)} {g:Nat→V} {Q:St→Prop} {rs:List RO} {dep:Nat} {A E:List Nat} {d:Nat} {x y z:Opd} {v u:V}
end
end Go.AW
