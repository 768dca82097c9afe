/- Functions of the library that are taken off the shelf, and what all functions here share. Conditions: none. -/
import Derived.Test.YtiocamjonchabaaEvFi
import Derived.Test.YtiocamjonchabaaEvLaw
import Derived.Lib.Strings
import Derived.Lib.Slices
import Derived.Lib.Walk
import Derived.Lib.Bytealg
import Derived.KernelRfl
namespace Go.Proofs
set_option maxHeartbeats 1000000
set_option maxRecDepth 100000
end Go.Proofs
namespace Go.Ev
open Go Go.Proofs
def OkT : Nat → World → Prop := fun _ _ => True
theorem okT : Stable OkT := fun _ _ _ _ _ _ _ _ _ => trivial
theorem Try_mix : Try.prog.follows .mixedOrders = true := by kernel_rfl
end Go.Ev
