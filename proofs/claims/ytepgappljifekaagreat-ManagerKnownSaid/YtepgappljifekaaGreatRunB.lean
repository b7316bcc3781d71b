/- the machine runs, by the kernel: RunB. No condition. -/
import Derived.Test.YtepgappljifekaaGreatStates
import Derived.KernelRfl
set_option linter.unusedVariables false
namespace Go.Proofs.YtepgappljifekaaGreat
open Go Go.AM
namespace Tabs
set_option maxRecDepth 100000
theorem l2 : pathT T 25500 [] c2n (some c1) = some c2 := by kernel_rfl
end Tabs
end Go.Proofs.YtepgappljifekaaGreat
