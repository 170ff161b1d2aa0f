/- IsCalendar: seven days, one of them open. -/
import Derived.Test.YtnlgilmbmoiniaaBoolsFnExactTaskOf
import Derived.Test.YtnlgilmbmoiniaaCalDFnExactTaskOf
namespace Go.Proofs.Ytnlgilmbmoiniaa.PFnExactTaskOf
open Go.RowKit Go.Proofs.YtnlgilmbmoiniaaW.PrintWords Go.Proofs.YtnlgilmbmoiniaaW.PrintLast Go.Proofs.Ytnlgilmbmoiniaa.EvLib

theorem specIsCalendar_l0 (l : List Bool) (hl : l.length ≤ 1048576) (d : Nat) : ∀ (i : Nat) (b : Bool), i ≤ l.length → l.length - i = d → Ev (fun k => spec_IsCalendar.l0 k l b (i : Int)) ((b || (l.drop i).contains true) && l.length == 7) := by
  induction d with
  | zero =>
    intro i b hi hd
    obtain rfl : i = l.length := by omega
    refine ev_step (fun k => by simp only [spec_IsCalendar.l0]; rfl) (ev_iten (by omega) (ev_ite (fun h => ev_some ?_) (fun h => ev_some ?_)))
    · subst h
      simp
      rw [Bool.eq_iff_iff]; simp; omega
    · simp at h
      subst h
      simp
  | succ d ih =>
    intro i b hi hd
    have hdrop := drop_has l i (by omega)
    have hr := rd_at l i (by omega)
    refine ev_step (fun k => by simp only [spec_IsCalendar.l0]; rfl) (ev_itep (by omega) (ev_ite (fun h => ?_) (fun h => ev_itep (by omega) ?_)))
    · subst h
      rw [wrap_id (by omega) (by omega)]
      exact ev_eq (ih (i + 1) true (by omega) (by omega)) (by simp)
    · simp at h
      subst h
      rw [wrap_id (by omega) (by omega), hr]
      exact ev_eq (ih (i + 1) l[i] (by omega) (by omega)) (by rw [hdrop, Bool.false_or])
theorem specIsCalendar_ev (l : List Bool) (hl : l.length ≤ 1048576) : Ev (fun k => spec_IsCalendar.f k l) (isCal l) := by
  unfold spec_IsCalendar.f
  exact ev_eq (specIsCalendar_l0 l hl l.length 0 false (by omega) (by omega)) (by simp [isCal])
end Go.Proofs.Ytnlgilmbmoiniaa.PFnExactTaskOf
