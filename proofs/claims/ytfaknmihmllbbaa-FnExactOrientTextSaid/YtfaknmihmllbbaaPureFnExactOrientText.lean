/- The pure statement of the law FnExactOrientText: for all arguments within their bounds its Lean function answers true. -/
import Derived.Test.YtfaknmihmllbbaaPFnExactOrientTextx1
namespace Go.Proofs.Ytfaknmihmllbbaa.Pure
open Go.RowKit Go.Proofs.Ytfaknmihmllbbaa.PFnExactOrientText Go.Proofs.YtfaknmihmllbbaaW.PrintWords Go.Proofs.YtfaknmihmllbbaaW.PrintLast

/- ∀ (a0_0 : Int) (a0_1 : Int), Wf23 (⟨a0_0, a0_1⟩ : S23) → laws_FnExactOrientText.f a0_0 a0_1 = some true
What it reaches: spec_l1In.f, spec_orDir.f, spec_orOpposite.f, spec_orGood.f, spec_orText.f, spec_OrientText.f, laws_toOrient.f, impl_within.f, impl_IsOrient.f, impl_Orient_text.f, impl_OrientText.f, laws_FnExactOrientText.f -/
theorem within_some (a b c : Int) : impl_within.f a b c = some (decide (b ≤ a ∧ a ≤ c)) := by
  unfold impl_within.f
  by_cases h : b ≤ a
  · rw [if_pos h]; simp [h]
  · rw [if_neg h]; simp [h]
theorem l1In_some (a b c : Int) : spec_l1In.f a b c = some (decide (b ≤ a ∧ a ≤ c)) := by
  unfold spec_l1In.f
  by_cases h : b ≤ a
  · rw [if_pos h]; simp [h]
  · rw [if_neg h]; simp [h]
theorem six (a : Int) (h : 0 ≤ a ∧ a ≤ 5) : a = 0 ∨ a = 1 ∨ a = 2 ∨ a = 3 ∨ a = 4 ∨ a = 5 := by omega

theorem FnExactOrientText : laws_FnExactOrientText.Pure := by
  intro a b _
  by_cases ha : 0 ≤ a ∧ a ≤ 5
  · by_cases hb : 0 ≤ b ∧ b ≤ 5
    · rcases six a ha with rfl | rfl | rfl | rfl | rfl | rfl <;> rcases six b hb with rfl | rfl | rfl | rfl | rfl | rfl <;> decide +kernel
    · simp [laws_FnExactOrientText.f, laws_toOrient.f, spec_OrientText.f, spec_orGood.f, spec_orDir.f, impl_OrientText.f, impl_IsOrient.f, within_some, l1In_some, ha, hb]
  · simp [laws_FnExactOrientText.f, laws_toOrient.f, spec_OrientText.f, spec_orGood.f, spec_orDir.f, impl_OrientText.f, impl_IsOrient.f, within_some, l1In_some, ha]

end Go.Proofs.Ytfaknmihmllbbaa.Pure
