/- What the functions come to (graph). Conditions: none. -/
import Derived.Test.YtkpiaalieeacgaaKtask
set_option linter.unusedSimpArgs false
set_option linter.unusedVariables false
namespace Go.Ev
open Go
end Go.Ev
