/- the machine runs, by the kernel: RunD. No condition. -/
import Derived.Test.YtepgappljifekaaGreatStates
import Derived.KernelRfl
set_option linter.unusedVariables false
namespace Go.Proofs.YtepgappljifekaaGreat
open Go Go.AM
namespace Tabs
set_option maxRecDepth 100000
theorem r4 : pathR T 3 40000 [false, false, true] c2 = true := by kernel_rfl
theorem r5 : pathR T 3 40000 [true, false, true] c2 = true := by kernel_rfl
theorem r6 : pathR T 3 40000 [false, true, true] c2 = true := by kernel_rfl
theorem r7 : pathR T 3 40000 [true, true, true] c2 = true := by kernel_rfl
end Tabs
end Go.Proofs.YtepgappljifekaaGreat
