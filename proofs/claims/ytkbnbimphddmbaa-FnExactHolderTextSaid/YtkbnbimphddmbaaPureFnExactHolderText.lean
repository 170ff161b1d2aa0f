/- The pure statement of FnExactHolderText. -/
import Derived.Test.YtkbnbimphddmbaaL1InFnExactHolderText
import Derived.Test.YtkbnbimphddmbaaEvLib
namespace Go.Proofs.Ytkbnbimphddmbaa.Pure
open Go.RowKit Go.Proofs.Ytkbnbimphddmbaa.PFnExactHolderText Go.Proofs.YtkbnbimphddmbaaW.PrintWords Go.Proofs.YtkbnbimphddmbaaW.PrintLast Go.Proofs.Ytkbnbimphddmbaa.EvLib
theorem FnExactHolderText : laws_FnExactHolderText.Pure := by
  intro a _
  have e : spec_HolderText.f a = impl_HolderText.f a := by
    unfold spec_HolderText.f impl_HolderText.f
    rw [l1In_eq, Option.bind_some]
    by_cases h : 1 ≤ a ∧ a ≤ 5
    · rw [if_pos (decide_eq_true h), if_pos h]
      have h5 : a = 1 ∨ a = 2 ∨ a = 3 ∨ a = 4 ∨ a = 5 := by omega
      rcases h5 with rfl | rfl | rfl | rfl | rfl <;> rfl
    · rw [if_neg (by simpa using h), if_neg h]
  unfold laws_FnExactHolderText.f
  rw [e]
  unfold impl_HolderText.f
  rw [Option.bind_some, Option.bind_some, if_pos rfl]
end Go.Proofs.Ytkbnbimphddmbaa.Pure
