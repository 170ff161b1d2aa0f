/- l1In. -/
import Derived.Test.YtglpmjcknhcjcaaStmFnExactGroupReports
namespace Go.Proofs.Ytglpmjcknhcjcaa.PFnExactGroupReports
open Go.RowKit
theorem l1In_eq (a b c : Int) : spec_l1In.f a b c = some (decide (b ≤ a ∧ a ≤ c)) := by unfold spec_l1In.f; split <;> simp [*]
end Go.Proofs.Ytglpmjcknhcjcaa.PFnExactGroupReports
