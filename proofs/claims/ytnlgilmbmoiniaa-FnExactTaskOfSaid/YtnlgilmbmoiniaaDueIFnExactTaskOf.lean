/- Finds and their hours, by the program. -/
import Derived.Test.YtnlgilmbmoiniaaEvLib
import Derived.Test.YtnlgilmbmoiniaaInRFnExactTaskOf
import Derived.Test.YtnlgilmbmoiniaaDueDFnExactTaskOf
namespace Go.Proofs.Ytnlgilmbmoiniaa.PFnExactTaskOf
open Go.RowKit Go.Proofs.YtnlgilmbmoiniaaW.PrintWords Go.Proofs.YtnlgilmbmoiniaaW.PrintLast Go.Proofs.Ytnlgilmbmoiniaa.EvLib
theorem implIsThing_eq (a0 a1 a2 a3 a4 : Int) : impl_IsThing.f a0 a1 a2 a3 a4 = some (isThing a0 a1 a2 a3 a4) := by simp only [impl_IsThing.f, inRange_eq, Option.bind_some, if_and, isThing]
theorem implIsFind_eq (a0 a1 a2 a3 a4 a5 a6 a7 : Int) : impl_IsFind.f a0 a1 a2 a3 a4 a5 a6 a7 = some (isFind a0 a1 a2 a3 a4 a5 a6 a7) := by simp only [impl_IsFind.f, implIsThing_eq, inRange_eq, Option.bind_some, if_and, isFind]
theorem implKeepDays_ev (a : Int) : Ev (fun k => impl_KeepDays.f k a) (keepDays a) := by
  unfold impl_KeepDays.f
  refine ev_ite (fun h => ev_some (by unfold keepDays; rw [if_pos h])) (fun h => ev_ite (fun h2 => ev_step (fun k => by simp only [impl_KeepDays.j0]; rfl) (ev_itep (by simpa using h2) (ev_some (by unfold keepDays; rw [if_neg h, if_pos (Or.inl h2)])))) (fun h2 => ev_step (fun k => by simp only [impl_KeepDays.j0]; rfl) (ev_ite (fun h3 => ev_some ?_) (fun h3 => ?_))))
  · have h4 : a = 5 := by simpa using h3
    unfold keepDays; rw [if_neg h, if_pos (Or.inr h4)]
  · have h4 : a ≠ 5 := by simpa using h3
    have e : keepDays a = if 1 ≤ a ∧ a ≤ 8 then 90 else 0 := by unfold keepDays; rw [if_neg h, if_neg (by omega)]
    rw [e]
    refine ev_ite (fun c => ev_some ?_) (fun _ => ev_ite (fun c => ev_some ?_) (fun _ => ev_ite (fun c => ev_some ?_) (fun _ => ev_ite (fun c => ev_some ?_) (fun _ => ev_ite (fun c => ev_some ?_) (fun _ => ev_some ?_)))))
    all_goals first | rw [if_pos (by omega)] | rw [if_neg (by omega)]
theorem implDueHour_ev (a0 a1 a2 a3 a4 a5 a6 a7 : Int) : Ev (fun k => impl_DueHour.f k a0 a1 a2 a3 a4 a5 a6 a7) (dueHour a0 a1 a2 a3 a4 a5 a6 a7) := by
  unfold impl_DueHour.f
  refine ev_bindc (implIsFind_eq _ _ _ _ _ _ _ _) (ev_ite (fun h => ev_bind (implKeepDays_ev _) (ev_some ?_)) (fun h => ev_some ?_))
  · have h1 := isFind_at h
    have h2 := keepDays_le a1
    rw [wrap_id (x := 24 * keepDays a1) (by omega) (by omega), wrap_id (by omega) (by omega)]
    unfold dueHour; rw [if_pos h]
  · unfold dueHour; rw [if_neg h]
end Go.Proofs.Ytnlgilmbmoiniaa.PFnExactTaskOf
