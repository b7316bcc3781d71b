/- the row of MenderKnown is well formed: its closed facts, one by one. No condition. -/
import Derived.Test.YtihjifkmnbfoiaaGreatDoorRows
import Derived.JoinedOf
import Derived.KernelRfl
namespace Go.Proofs.YtihjifkmnbfoiaaGreatDoor
set_option maxRecDepth 100000
set_option maxHeartbeats 40000000 in
theorem Rows.closed : joinedFacts Tryz.prog 3 Tryz.f3 Rows.menderKnownSpec Rows.menderKnownRow = true := by
  unfold joinedFacts
  simp only [Bool.and_eq_true]
  repeat' apply And.intro
  all_goals (as_aux_lemma => kernel_rfl)
end Go.Proofs.YtihjifkmnbfoiaaGreatDoor
