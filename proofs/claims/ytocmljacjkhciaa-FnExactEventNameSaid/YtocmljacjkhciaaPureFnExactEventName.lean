/- EventName of the program and of the reference agree at every kind: names of the kinds 1 to 9, the empty string elsewhere. No condition. -/
import Derived.Test.YtocmljacjkhciaaPFnExactEventNamex1
namespace Go.Proofs.Ytocmljacjkhciaa.Pure
open Go.RowKit Go.Proofs.Ytocmljacjkhciaa.PFnExactEventName Go.Proofs.YtocmljacjkhciaaW.PrintWords Go.Proofs.YtocmljacjkhciaaW.PrintLast

theorem FnExactEventName : laws_FnExactEventName.Pure := by
  intro a hw
  unfold laws_FnExactEventName.f
  have key : spec_EventName.f a = impl_EventName.f a := by
    unfold spec_EventName.f impl_EventName.f spec_l1In.f impl_at.f
    by_cases h0 : a ≥ 1
    · by_cases h1 : a ≤ 9
      · have : a = 1 ∨ a = 2 ∨ a = 3 ∨ a = 4 ∨ a = 5 ∨ a = 6 ∨ a = 7 ∨ a = 8 ∨ a = 9 := by omega
        rcases this with rfl | rfl | rfl | rfl | rfl | rfl | rfl | rfl | rfl <;> rfl
      · have h2 : a ≥ 0 := by omega
        have h3 : ¬ a < 10 := by omega
        simp [h0, h1, h2, h3]
    · by_cases h2 : a ≥ 0
      · have : a = 0 := by omega
        subst this; rfl
      · simp [h0, h2]
  have tot : ∃ r, impl_EventName.f a = some r := by
    unfold impl_EventName.f impl_at.f
    by_cases h2 : a ≥ 0
    · by_cases h3 : a < 10
      · have : a = 0 ∨ a = 1 ∨ a = 2 ∨ a = 3 ∨ a = 4 ∨ a = 5 ∨ a = 6 ∨ a = 7 ∨ a = 8 ∨ a = 9 := by omega
        rcases this with rfl | rfl | rfl | rfl | rfl | rfl | rfl | rfl | rfl | rfl <;> exact ⟨_, rfl⟩
      · simp [h2, h3]
    · simp [h2]
  obtain ⟨r, hr⟩ := tot
  rw [key, hr]
  simp

end Go.Proofs.Ytocmljacjkhciaa.Pure
