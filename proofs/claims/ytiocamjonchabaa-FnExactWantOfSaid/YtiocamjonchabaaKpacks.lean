/- What the functions come to (packs). Conditions: none. -/
import Derived.Test.YtiocamjonchabaaKorder
set_option linter.unusedSimpArgs false
set_option linter.unusedVariables false
namespace Go.Ev
open Go
end Go.Ev
