/- What the functions come to (rule). Conditions: none. -/
import Derived.Test.YtiocamjonchabaaKgraph
set_option linter.unusedSimpArgs false
set_option linter.unusedVariables false
namespace Go.Ev
open Go
end Go.Ev
