/- Special operations in a region with an order: what is made, stored and appended so that it is wholly the block's own. Lemmas. Conditions: none. -/
import Derived.Test.YtlcjjljmjdmobaaXe
set_option linter.unusedVariables false
namespace Go.AW
variable {cx:Cx} {m:M} {s:St} {a:Act} {w:World} {o:Oper} {K:Act→World→Prop} {Q:Exit→Act→World→Prop}
end Go.AW
