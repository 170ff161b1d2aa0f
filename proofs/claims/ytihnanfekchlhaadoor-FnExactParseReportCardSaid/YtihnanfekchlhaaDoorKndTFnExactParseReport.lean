/- KindText of the program and of the reference. -/
import Derived.Test.YtihnanfekchlhaaDoorL1InFnExactParseReport
namespace Go.Proofs.YtihnanfekchlhaaDoor.PFnExactParseReport
open Go.RowKit Go.Proofs.YtihnanfekchlhaaDoorW.PrintWords Go.Proofs.YtihnanfekchlhaaDoorW.PrintLast
theorem kind_ok (a : Int) : ∃ s, impl_KindText.f a = some s ∧ spec_KindText.f a = some s ∧ s.size ≤ 8 := by
  unfold impl_KindText.f spec_KindText.f
  rw [l1In_eq]
  by_cases h : 1 ≤ a ∧ a ≤ 8
  · have h5 : a = 1 ∨ a = 2 ∨ a = 3 ∨ a = 4 ∨ a = 5 ∨ a = 6 ∨ a = 7 ∨ a = 8 := by omega
    rcases h5 with rfl | rfl | rfl | rfl | rfl | rfl | rfl | rfl <;> exact ⟨_, rfl, rfl, by decide⟩
  · rw [if_neg h, decide_eq_false h]; exact ⟨_, rfl, rfl, by decide⟩
end Go.Proofs.YtihnanfekchlhaaDoor.PFnExactParseReport
