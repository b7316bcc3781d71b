/- the machine runs, by the kernel: RunB. No condition. -/
import Derived.Test.YtihjifkmnbfoiaaGreatDoorStates
import Derived.KernelRfl
set_option linter.unusedVariables false
namespace Go.Proofs.YtihjifkmnbfoiaaGreatDoor
open Go Go.AM
namespace Tabs
set_option maxRecDepth 100000
theorem l2 : pathT T 40000 [] c2n (some c1) = some c2 := by kernel_rfl
end Tabs
end Go.Proofs.YtihjifkmnbfoiaaGreatDoor
