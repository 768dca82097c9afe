/- What the laws' own functions come to: sizes, copies, comparisons. Conditions: none. -/
import Derived.Test.YteofbfalngmmeaaDoorEvMod
import Derived.Test.YteofbfalngmmeaaDoorSh3
set_option linter.unusedSimpArgs false
set_option linter.unusedVariables false
namespace Go.Ev
open Go
end Go.Ev
