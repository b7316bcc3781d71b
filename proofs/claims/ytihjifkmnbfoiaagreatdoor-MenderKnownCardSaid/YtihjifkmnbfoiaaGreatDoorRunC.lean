/- the machine runs, by the kernel: RunC. No condition. -/
import Derived.Test.YtihjifkmnbfoiaaGreatDoorStates
import Derived.KernelRfl
set_option linter.unusedVariables false
namespace Go.Proofs.YtihjifkmnbfoiaaGreatDoor
open Go Go.AM
namespace Tabs
set_option maxRecDepth 100000
theorem l3 : pathT T 40000 [] c3n (some c2) = some c3 := by kernel_rfl
end Tabs
end Go.Proofs.YtihjifkmnbfoiaaGreatDoor
