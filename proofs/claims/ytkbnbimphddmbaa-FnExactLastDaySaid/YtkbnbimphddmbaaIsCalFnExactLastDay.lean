/- IsCalendar: seven days, one of them open. -/
import Derived.Test.YtkbnbimphddmbaaBoolsFnExactLastDay
namespace Go.Proofs.Ytkbnbimphddmbaa.PFnExactLastDay
open Go.RowKit Go.Proofs.YtkbnbimphddmbaaW.PrintWords Go.Proofs.YtkbnbimphddmbaaW.PrintLast Go.Proofs.Ytkbnbimphddmbaa.EvLib

def isCal (l : List Bool) : Bool := l.contains true && l.length == 7
theorem drop_has (l : List Bool) (i : Nat) (h : i < l.length) : (l.drop i).contains true = (l[i] || (l.drop (i + 1)).contains true) := by
  rw [List.drop_eq_getElem_cons h, List.contains_cons]
  cases l[i] <;> rfl
theorem rd_at (l : List Bool) (i : Nat) (h : i < l.length) : rdOf false l (i : Int) = l[i] := by simp [rdOf, List.getD, h]
theorem specIsCalendar_l0 (l : List Bool) (hl : l.length ≤ 1048576) (d : Nat) : ∀ (i : Nat) (b : Bool), i ≤ l.length → l.length - i = d → Ev (fun k => spec_IsCalendar.l0 k l b (i : Int)) ((b || (l.drop i).contains true) && l.length == 7) := by
  induction d with
  | zero =>
    intro i b hi hd
    obtain rfl : i = l.length := by omega
    refine ev_step (fun k => by simp only [spec_IsCalendar.l0]; rfl) (ev_iten (by omega) (ev_ite (fun h => ev_some ?_) (fun h => ev_some ?_)))
    · subst h
      simp
      rw [Bool.eq_iff_iff]; simp; omega
    · simp at h
      subst h
      simp
  | succ d ih =>
    intro i b hi hd
    have hdrop := drop_has l i (by omega)
    have hr := rd_at l i (by omega)
    refine ev_step (fun k => by simp only [spec_IsCalendar.l0]; rfl) (ev_itep (by omega) (ev_ite (fun h => ?_) (fun h => ev_itep (by omega) ?_)))
    · subst h
      rw [wrap_id (by omega) (by omega)]
      exact ev_eq (ih (i + 1) true (by omega) (by omega)) (by simp)
    · simp at h
      subst h
      rw [wrap_id (by omega) (by omega), hr]
      exact ev_eq (ih (i + 1) l[i] (by omega) (by omega)) (by rw [hdrop, Bool.false_or])
theorem specIsCalendar_ev (l : List Bool) (hl : l.length ≤ 1048576) : Ev (fun k => spec_IsCalendar.f k l) (isCal l) := by
  unfold spec_IsCalendar.f
  exact ev_eq (specIsCalendar_l0 l hl l.length 0 false (by omega) (by omega)) (by simp [isCal])
end Go.Proofs.Ytkbnbimphddmbaa.PFnExactLastDay
