/- What the laws' own functions come to: sizes, copies, comparisons. Conditions: none. -/
import Derived.Test.YteofbfalngmmeaaGreatDoorEvMod
import Derived.Test.YteofbfalngmmeaaGreatDoorSh6
set_option linter.unusedSimpArgs false
set_option linter.unusedVariables false
namespace Go.Ev
open Go
end Go.Ev
