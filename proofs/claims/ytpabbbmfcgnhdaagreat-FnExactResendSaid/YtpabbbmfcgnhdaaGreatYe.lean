/- slices.Insert of one element and slices.Delete, for elements of numbers, truth values and strings: what they compute. Printed by a program of the prover's own (tool/genins.py). Lemmas. Conditions: none. -/
import Derived.Test.YtpabbbmfcgnhdaaGreatYd
set_option linter.unusedVariables false
set_option maxRecDepth 100000
namespace Go.AW
end Go.AW
