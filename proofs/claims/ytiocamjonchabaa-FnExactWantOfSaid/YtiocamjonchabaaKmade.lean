/- What the functions come to (made). Conditions: none. -/
import Derived.Test.YtiocamjonchabaaEvCon
set_option linter.unusedSimpArgs false
set_option linter.unusedVariables false
namespace Go.Ev
open Go
end Go.Ev
