/- ManagerKnown: the call of the law returns true, in whatever memory and on whatever tape; nothing that was there turns. No condition. -/
import Derived.Test.YtepgappljifekaaGreatRows
import Derived.Test.YtepgappljifekaaGreatRunA
import Derived.Test.YtepgappljifekaaGreatRunB
import Derived.Test.YtepgappljifekaaGreatRunC
import Derived.Test.YtepgappljifekaaGreatRunD
import Derived.WalkKit
import Derived.ProofKit
import Derived.OpenShut
namespace Go.Proofs.YtepgappljifekaaGreat.managerKnown
open Go.ChangeShapes Go.WideShapes Go.ChangeAt Go.RowKit
set_option linter.unusedVariables false      -- a walk need not use every 'w<i>' (that an integer argument fits its kind)

theorem own : ownKnob Tryz.prog.godebug = none := by kernel_rfl

open Go.AM in
theorem lasts2 : Lasts Tryz.prog Tabs.T 3 Tabs.c2 := by
  refine lasts_paths Tabs.T_ok Tabs.mixed 3 fun p hp => ⟨40000, ?_⟩
  match p, hp with
  | [x, y, z], _ =>
    cases x <;> cases y <;> cases z
    · exact Tabs.r0
    · exact Tabs.r4
    · exact Tabs.r2
    · exact Tabs.r6
    · exact Tabs.r1
    · exact Tabs.r5
    · exact Tabs.r3
    · exact Tabs.r7
open Go.AM in
theorem whole : ∃ c, start2 Tabs.T 3 = some c ∧ Lasts Tryz.prog Tabs.T 3 c := by
  have h1 := Tabs.l1
  cases h0 : start2 Tabs.T 3 with
  | none => rw [h0] at h1; cases h1
  | some c =>
    rw [h0] at h1
    exact ⟨c, rfl, (pathT_leads Tabs.T_ok Tabs.mixed h1).lasts ((pathT_leads Tabs.T_ok Tabs.mixed Tabs.l2).lasts lasts2)⟩
open Go.AM in
/-- the call: it returns true, and nothing elder has turned -/
theorem walk (w : World) : Calls Tryz.prog 3 #[] w fun e w' => e = .returned (.bool true) ∧ Turn w.heap.size w w' := by
  obtain ⟨c, h0, hl⟩ := whole
  exact start2_calls Tabs.T_ok h0 hl w

/-! ### THE ROW's STEP: WRITTEN OUT: LEAVE IT -/
set_option maxRecDepth 100000 in
theorem lifted (os : Os) (started : os.Started) (H : Type) (enc : TypeId × Value → H) :
    ReturnsInHanded {} Tryz.checked os 3 .any (Rows.managerKnownSpec.pre6 enc Tryz.prog Tryz.f3 Rows.managerKnownRow.domain false) (Rows.managerKnownSpec.post enc Tryz.prog Tryz.f3 false true false false) := by
  refine returnsInHanded_of_change (C := Tryz.checked) own started (by kernel_rfl) Tryz.func3
    (ChangeSpec.witness6 (enc := enc) (C := Tryz.checked) false ⟨#[], #[], []⟩ 8 (by kernel_rfl) (by kernel_rfl) (by kernel_rfl) (by kernel_rfl)) ?_
  intro W base args ds gs before hval0 hW hcnd _
  have hval : ∀ (j : Nat) t v, Tryz.f3.params[j]? = some t → args[j]? = some v → Value.okWide Tryz.prog W .any base t v := hval0
  have hW' := hW
  obtain ⟨p, q, hA0, hV, rfl, hfz, hnd⟩ := hW
  have hA : DataW.TrodAll enc Tryz.prog W 0 (fun _ => true) true Tryz.f3.params.toList args.toList ds p := hA0
  rw [Tryz.params3] at hA hval
  obtain ⟨rfl, rfl, rfl⟩ := trodAll_none hA
  obtain ⟨rfl, rfl⟩ := trodVars_none hV
  clear hA0 hval0
  simp only [List.append_nil] at hW'
  refine (walk  W).mono fun e W' ⟨he, hg⟩ => ?_
  subst he
  exact ⟨_, rfl, Go.AM.post_of_turn hW' (fun _ _ _ => (trodAll_cons_mk (shut_bool Tryz.underlying4 _) trodAll_mk0)) (fun sp => rfl) (fun _ => rfl) hg
    (ok_one (by kernel_rfl) rfl (okWide_bool_mk Tryz.underlying4 _))⟩

theorem over : Rows.managerKnownRow.holds Tryz.pinned (OpenSpec.ofChange Rows.managerKnownSpec) :=
  OpenClaim.holds_of_wide 3 Tryz.f3 rfl rfl rfl rfl rfl rfl rfl ⟨rfl, rfl, rfl, rfl, rfl⟩ rfl rfl rfl rfl rfl (by kernel_rfl) Tryz.func3 (by kernel_rfl)
    (of_decide_eq_true (by kernel_rfl)) (by unfold Func.isWrapper; first | (rw [if_pos (by decide +kernel)]; kernel_rfl) | (rw [if_neg (by decide +kernel)]; exact ⟨rfl, rfl⟩))
    (fun os started H enc _ => lifted os started H enc)

/-- ████ THE STATEMENT ████ -/
theorem proved : Rows.ManagerKnownSaid :=
  over
#print axioms proved
end Go.Proofs.YtepgappljifekaaGreat.managerKnown
