/- Rows of rows that are wholly one's own: rules on written-out states. Lemmas. Conditions: none. -/
import Derived.Test.YtlcjjljmjdmobaaYg
import Derived.Test.YtlcjjljmjdmobaaXf
set_option linter.unusedVariables false
namespace Go.AW
section
variable {P:Program} {nn:Nat} {L rs0:List RO} {Q:St→Prop} {l l' gl gl':List (Nat×V)} {h h':List (Nat×Blk)} {g:Nat→V} {dep d:Nat} {A:List Nat} {x y:Opd} {v u:V}
theorem VOs.cOs{cs:List C}{ds:List D}{ns:List Nat}(H:VOs h cs ds ns):cOs (mk l h g) cs ds ns:=by
 have:=VO.aggs H
 have:=vO_hp (s:=mk [] h fun _=> .top) (s':=mk l h g) rfl this
 exact this
end
end Go.AW
