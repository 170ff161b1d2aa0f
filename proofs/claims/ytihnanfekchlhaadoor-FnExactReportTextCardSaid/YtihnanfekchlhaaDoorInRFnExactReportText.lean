/- InRange. -/
import Derived.Test.YtihnanfekchlhaaDoorStmFnExactReportText
namespace Go.Proofs.YtihnanfekchlhaaDoor.PFnExactReportText
open Go.RowKit
theorem inRange_eq (a b c : Int) : impl_InRange.f a b c = some (decide (b ≤ a ∧ a ≤ c)) := by unfold impl_InRange.f; split <;> simp [*]
end Go.Proofs.YtihnanfekchlhaaDoor.PFnExactReportText
