/- A function to which arguments are given, or lent to be written: from its body's proof to its contract. Lemmas of an own program logic; nothing is claimed here. Conditions: none. -/
import Derived.Test.YtcicokdmnhbjjaaGreatXb
set_option linter.unusedVariables false
namespace Go.AW
variable {cx : Cx} {m : M} {s : St} {a : Act} {w : World}
def mutOk (s : St) : Nat → List Ar → List Nat → Prop
  | _, [], ns => ns = []
  | k, a :: as, ns => match a.md with
    | .m d' => ∃ x y, ns = x ++ y ∧ vO s (s.gh k) d' x ∧ mutOk s (k + 1) as y
    | _ => mutOk s (k + 1) as ns
end Go.AW
