/- InRange. -/
import Derived.Test.YthbmegdbdnmnoaaStmFnExactCallAll
namespace Go.Proofs.Ythbmegdbdnmnoaa.PFnExactCallAll
open Go.RowKit
theorem inRange_eq (a b c : Int) : impl_InRange.f a b c = some (decide (b ≤ a ∧ a ≤ c)) := by unfold impl_InRange.f; split <;> simp [*]
end Go.Proofs.Ythbmegdbdnmnoaa.PFnExactCallAll
