/- What the functions come to (laws1). Conditions: none. -/
import Derived.Test.YtkpiaalieeacgaaKmark1
set_option linter.unusedSimpArgs false
set_option linter.unusedVariables false
namespace Go.Ev
open Go
end Go.Ev
