/- The values that the laws speak of, as Lean has them, and how they lie in cells. Conditions: none. -/
import Derived.Test.YtaigckobkcihgaaDoorEvLib
import Derived.Test.YtaigckobkcihgaaDoorEvPr
import Derived.Test.YtaigckobkcihgaaDoorEvMem
set_option linter.unusedSimpArgs false
set_option linter.unusedVariables false
namespace Go.Ev
open Go
noncomputable def Γ0 : Ctx := ctx tyTab fiTab []

end Go.Ev
