/- That functions of the program compute what the plain functions say. Conditions: each theorem's own. -/
import Derived.Test.YtnpbflgkgjnljaaMFnSplit15
import Derived.Test.YtnpbflgkgjnljaaGFnSplit15
import Derived.Test.YtnpbflgkgjnljaaDFnSplit15a
import Derived.Test.YtnpbflgkgjnljaaDFnSplit15b
import Derived.Test.YtnpbflgkgjnljaaDFnSplit15c
set_option linter.unusedVariables false
set_option linter.unusedSimpArgs false
set_option maxRecDepth 100000
namespace Go.AW
open Go.Proofs
end Go.AW
