/- Finds and their hours, by the reference. -/
import Derived.Test.YtnlgilmbmoiniaaEvLib
import Derived.Test.YtnlgilmbmoiniaaL1InFnExactTaskOf
import Derived.Test.YtnlgilmbmoiniaaDueDFnExactTaskOf
namespace Go.Proofs.Ytnlgilmbmoiniaa.PFnExactTaskOf
open Go.RowKit Go.Proofs.YtnlgilmbmoiniaaW.PrintWords Go.Proofs.YtnlgilmbmoiniaaW.PrintLast Go.Proofs.Ytnlgilmbmoiniaa.EvLib
theorem specIsThing_eq (a0 a1 a2 a3 a4 : Int) : spec_IsThing.f a0 a1 a2 a3 a4 = some (isThing a0 a1 a2 a3 a4) := by simp only [spec_IsThing.f, l1In_eq, Option.bind_some, if_and, isThing]
theorem specIsFind_eq (a0 a1 a2 a3 a4 a5 a6 a7 : Int) : spec_IsFind.f a0 a1 a2 a3 a4 a5 a6 a7 = some (isFind a0 a1 a2 a3 a4 a5 a6 a7) := by simp only [spec_IsFind.f, specIsThing_eq, l1In_eq, Option.bind_some, if_and, isFind]
theorem specKeepDays_eq (a : Int) : spec_KeepDays.f a = some (keepDays a) := by
  unfold spec_KeepDays.f keepDays
  rw [l1In_eq, Option.bind_some]
  by_cases h : 1 ≤ a ∧ a ≤ 8
  · rw [if_pos (by simpa using h), if_pos h]
    by_cases h7 : a = 7
    · rw [if_pos h7, if_pos h7]
    · rw [if_neg h7, if_neg h7]
      by_cases h4 : a = 4
      · rw [if_pos h4, if_pos (Or.inl h4)]
      · rw [if_neg h4]
        by_cases h5 : a = 5
        · rw [if_pos h5, if_pos (Or.inr h5)]
        · rw [if_neg h5, if_neg (by omega)]
  · rw [if_neg (by simpa using h), if_neg h, if_neg (by omega), if_neg (by omega)]
theorem specDueHour_eq (a0 a1 a2 a3 a4 a5 a6 a7 : Int) : spec_DueHour.f a0 a1 a2 a3 a4 a5 a6 a7 = some (dueHour a0 a1 a2 a3 a4 a5 a6 a7) := by
  unfold spec_DueHour.f
  rw [specIsFind_eq, Option.bind_some]
  unfold dueHour
  split
  · rename_i h
    have h1 := isFind_at h
    have h2 := keepDays_le a1
    rw [specKeepDays_eq, Option.bind_some, wrap_id (x := 24 * keepDays a1) (by omega) (by omega), wrap_id (by omega) (by omega)]
  · rfl
end Go.Proofs.Ytnlgilmbmoiniaa.PFnExactTaskOf
