/- What the functions come to (usedby). Conditions: none. -/
import Derived.Test.YtiocamjonchabaaKsorted
set_option linter.unusedSimpArgs false
set_option linter.unusedVariables false
namespace Go.Ev
open Go
end Go.Ev
