/- What the functions come to (order). Conditions: none. -/
import Derived.Test.YtiocamjonchabaaKwanted
set_option linter.unusedSimpArgs false
set_option linter.unusedVariables false
namespace Go.Ev
open Go
end Go.Ev
