/- the machine runs, by the kernel: RunF. No condition. -/
import Derived.Test.YtihjifkmnbfoiaaGreatDoorStates
import Derived.KernelRfl
set_option linter.unusedVariables false
namespace Go.Proofs.YtihjifkmnbfoiaaGreatDoor
open Go Go.AM
namespace Tabs
set_option maxRecDepth 100000
theorem l6 : pathT T 40000 [] c6n (some c5) = some c6 := by kernel_rfl
end Tabs
end Go.Proofs.YtihjifkmnbfoiaaGreatDoor
