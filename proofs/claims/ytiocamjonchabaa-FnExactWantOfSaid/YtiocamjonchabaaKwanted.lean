/- What the functions come to (wanted). Conditions: none. -/
import Derived.Test.YtiocamjonchabaaKpick
set_option linter.unusedSimpArgs false
set_option linter.unusedVariables false
namespace Go.Ev
open Go
end Go.Ev
