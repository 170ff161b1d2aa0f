/- InRange. -/
import Derived.Test.YtgejkcomoealgaaStmFnExactPayShares
namespace Go.Proofs.Ytgejkcomoealgaa.PFnExactPayShares
open Go.RowKit
theorem inRange_eq (a b c : Int) : impl_InRange.f a b c = some (decide (b ≤ a ∧ a ≤ c)) := by unfold impl_InRange.f; split <;> simp [*]
end Go.Proofs.Ytgejkcomoealgaa.PFnExactPayShares
