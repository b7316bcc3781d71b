/- the machine runs, by the kernel: RunE. No condition. -/
import Derived.Test.YtihjifkmnbfoiaaGreatDoorStates
import Derived.KernelRfl
set_option linter.unusedVariables false
namespace Go.Proofs.YtihjifkmnbfoiaaGreatDoor
open Go Go.AM
namespace Tabs
set_option maxRecDepth 100000
theorem l5 : pathT T 40000 [] c5n (some c4) = some c5 := by kernel_rfl
end Tabs
end Go.Proofs.YtihjifkmnbfoiaaGreatDoor
