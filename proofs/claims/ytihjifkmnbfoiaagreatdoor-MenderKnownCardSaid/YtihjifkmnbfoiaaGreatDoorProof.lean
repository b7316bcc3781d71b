/- MenderKnown: the call of the law returns true, in whatever memory and on whatever tape; nothing that was there turns; the card ties the listed variables. No condition of its own: the listed library tables read as the program's text lays them. -/
import Derived.Test.YtihjifkmnbfoiaaGreatDoorRows
import Derived.Test.YtihjifkmnbfoiaaGreatDoorCards
import Derived.Test.YtihjifkmnbfoiaaGreatDoorTie
import Derived.Test.YtihjifkmnbfoiaaGreatDoorRunA
import Derived.Test.YtihjifkmnbfoiaaGreatDoorRunB
import Derived.Test.YtihjifkmnbfoiaaGreatDoorRunC
import Derived.Test.YtihjifkmnbfoiaaGreatDoorRunD
import Derived.Test.YtihjifkmnbfoiaaGreatDoorRunE
import Derived.Test.YtihjifkmnbfoiaaGreatDoorRunF
import Derived.Test.YtihjifkmnbfoiaaGreatDoorRunG
import Derived.Test.YtihjifkmnbfoiaaGreatDoorFacts
import Derived.WalkKit
import Derived.ProofKit
import Derived.OpenShut
import Derived.LaidMore
import Derived.Lay
import Derived.SevenTiedAt
namespace Go.Proofs.YtihjifkmnbfoiaaGreatDoor.menderKnown
open Go.ChangeShapes Go.WideShapes Go.ChangeAt Go.RowKit
set_option linter.unusedVariables false
theorem own : ownKnob Tryz.prog.godebug = none := by kernel_rfl
open Go.AM in
theorem lasts6 : Lasts Tryz.prog Tabs.T 3 Tabs.c6 := by
  refine lasts_paths Tabs.T_ok Tabs.mixed 0 fun p hp => ⟨60000, ?_⟩
  rw [List.length_eq_zero_iff.1 hp]
  exact Tabs.r0
open Go.AM in
theorem whole : ∃ c, start2 Tabs.T 3 = some c ∧ Lasts Tryz.prog Tabs.T 3 c := by
  have h1 := Tabs.l1
  cases h0 : start2 Tabs.T 3 with
  | none => rw [h0] at h1; cases h1
  | some c =>
    rw [h0] at h1
    refine ⟨c, rfl, (pathT_leads Tabs.T_ok Tabs.mixed h1).lasts ?_⟩
    refine (pathT_leads Tabs.T_ok Tabs.mixed Tabs.l2).lasts ?_
    refine (pathT_leads Tabs.T_ok Tabs.mixed Tabs.l3).lasts ?_
    refine (pathT_leads Tabs.T_ok Tabs.mixed Tabs.l4).lasts ?_
    refine (pathT_leads Tabs.T_ok Tabs.mixed Tabs.l5).lasts ?_
    exact (pathT_leads Tabs.T_ok Tabs.mixed Tabs.l6).lasts lasts6
open Go.AM in
/-- the call: it returns true, and nothing elder has turned -/
theorem walk (w : World) : Calls Tryz.prog 3 #[] w fun e w' => e = .returned (.bool true) ∧ Turn w.heap.size w w' := by
  obtain ⟨c, h0, hl⟩ := whole
  exact start2_calls Tabs.T_ok h0 hl w


set_option maxRecDepth 100000 in
theorem lifted (os : Os) (started : os.Started) (H : Type) (enc : TypeId × Value → H) :
    ReturnsInHanded {} Tryz.checked os 3 .any (fun w args => (Rows.menderKnownSpec.pre enc Tryz.prog Tryz.f3 Rows.menderKnownRow.domain false w args ∧ laidMetH Tryz.prog Rows.menderKnownRow.laid w) ∧ sizedMet enc Tryz.prog Tryz.f3 (OpenSpec.ofChange Rows.menderKnownSpec) false w args)
      (Rows.menderKnownSpec.post enc Tryz.prog Tryz.f3 false true false false) := by
  refine returnsInHanded_of_change_and (C := Tryz.checked) (X := fun w _ => laidMetH Tryz.prog Rows.menderKnownRow.laid w) (fun _ _ _ hh h => h.of_heap hh) own started (by kernel_rfl) Tryz.func3
    (ChangeSpec.witness_shaped (enc := enc) (C := Tryz.checked) (os := os) (X := fun w _ => laidMetH Tryz.prog Rows.menderKnownRow.laid w) false (World.laidAll Tryz.prog os Rows.menderKnownRow.laid) #[] 8 (World.laidAll_os _ _ _)
      (World.shaped_of_ZipB (by kernel_rfl) (by kernel_rfl)) (by kernel_rfl) (by kernel_rfl) (by kernel_rfl)
      (by rw [MakeChecks.laidMetH_plain _ _ _ (by kernel_rfl)]; exact laidMet_laidAll _ (by kernel_rfl) (by kernel_rfl))) ?_
  intro W base args ds gs before hval0 hW hc _ hL _
  have hval : ∀ (j : Nat) t v, Tryz.f3.params[j]? = some t → args[j]? = some v → Value.okWide Tryz.prog W .any base t v := hval0
  have hW' := hW
  obtain ⟨p, q, hA0, hV, rfl, hfz, hnd⟩ := hW
  have hA : DataW.TrodAll enc Tryz.prog W 0 (fun _ => true) true Tryz.f3.params.toList args.toList ds p := hA0
  rw [Tryz.params3] at hA hval
  obtain ⟨rfl, rfl, rfl⟩ := trodAll_none hA
  obtain ⟨rfl, rfl⟩ := trodVars_none hV
  clear hA0 hval0
  simp only [List.append_nil] at hW'
  refine (walk W).mono fun e W' ⟨he, hg⟩ => ?_
  subst he
  exact ⟨_, rfl, Go.AM.post_of_turn hW' (fun _ _ _ => (trodAll_cons_mk (shut_bool Tryz.underlying4 _) trodAll_mk0)) (fun sp => rfl) (fun _ => rfl) hg
    (ok_one (by kernel_rfl) rfl (okWide_bool_mk Tryz.underlying4 _))⟩
theorem over : Rows.menderKnownRow.holds Tryz.pinned (OpenSpec.ofChange Rows.menderKnownSpec) :=
  OpenClaim.holds_of_wide 3 Tryz.f3 rfl rfl rfl rfl rfl rfl rfl ⟨rfl, rfl, rfl, rfl, rfl⟩ rfl rfl rfl rfl rfl (by kernel_rfl) Tryz.func3 Rows.closed
    (of_decide_eq_true (by kernel_rfl)) (by unfold Func.isWrapper; first | (rw [if_pos (by decide +kernel)]; kernel_rfl) | (rw [if_neg (by decide +kernel)]; exact ⟨rfl, rfl⟩))
    (fun os started H enc _ => lifted os started H enc)
theorem proved : Rows.MenderKnownCardSaid :=
  Claim7.holds_tied_plain_at .later [] [.data, .pinned] true (true, "9ab88b7a7844d853212496976b79d0bbc9f9d06aadf96924f6ae9010f99316ad") true over (fun _ h => by cases h) (by kernel_rfl) (fun _ h => by cases h) menderKnown_row_tie rfl ⟨rfl, rfl⟩ (by kernel_rfl) rfl
    (fun f fn hf hfn => by
      obtain rfl : f = 3 := Option.some.inj ((show Tryz.prog.funcNamed "pinstripe/pinstripelaw24.MenderKnown" = some 3 by kernel_rfl).symm.trans hf) |>.symm
      obtain rfl : fn = Tryz.f3 := (Option.some.inj (Tryz.func3.symm.trans hfn)).symm
      exact ⟨by kernel_rfl, fun j t ht => by
        rw [Tryz.params3] at ht
        simp at ht⟩)
    (by kernel_rfl)
#print axioms proved
end Go.Proofs.YtihjifkmnbfoiaaGreatDoor.menderKnown
