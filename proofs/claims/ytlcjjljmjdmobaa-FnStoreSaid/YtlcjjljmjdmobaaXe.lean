/- Blocks that go over into a named one: stores and appends of what has a name; a call that writes what lies within a named block. Lemmas. Conditions: none. -/
import Derived.Test.YtlcjjljmjdmobaaXd
set_option linter.unusedVariables false
namespace Go.AW
variable {cx:Cx} {m:M} {s:St} {a:Act} {w:World} {o:Oper} {K:Act→World→Prop} {Q:Exit→Act→World→Prop}
end Go.AW
