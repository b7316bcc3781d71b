/- the machine runs, by the kernel: RunC. No condition. -/
import Derived.Test.YtepgappljifekaaGreatStates
import Derived.KernelRfl
set_option linter.unusedVariables false
namespace Go.Proofs.YtepgappljifekaaGreat
open Go Go.AM
namespace Tabs
set_option maxRecDepth 100000
theorem r0 : pathR T 3 40000 [false, false, false] c2 = true := by kernel_rfl
theorem r1 : pathR T 3 40000 [true, false, false] c2 = true := by kernel_rfl
theorem r2 : pathR T 3 40000 [false, true, false] c2 = true := by kernel_rfl
theorem r3 : pathR T 3 40000 [true, true, false] c2 = true := by kernel_rfl
end Tabs
end Go.Proofs.YtepgappljifekaaGreat
