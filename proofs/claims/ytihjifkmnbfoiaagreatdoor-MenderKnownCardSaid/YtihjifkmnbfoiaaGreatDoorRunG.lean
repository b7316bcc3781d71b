/- the machine runs, by the kernel: RunG. No condition. -/
import Derived.Test.YtihjifkmnbfoiaaGreatDoorStates
import Derived.KernelRfl
set_option linter.unusedVariables false
namespace Go.Proofs.YtihjifkmnbfoiaaGreatDoor
open Go Go.AM
namespace Tabs
set_option maxRecDepth 100000
theorem r0 : pathR T 3 60000 [] c6 = true := by kernel_rfl
end Tabs
end Go.Proofs.YtihjifkmnbfoiaaGreatDoor
