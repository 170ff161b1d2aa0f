/- IsCalendar of the program. -/
import Derived.Test.YtnlgilmbmoiniaaCalDFnExactTaskOf
namespace Go.Proofs.Ytnlgilmbmoiniaa.PFnExactTaskOf
open Go.RowKit Go.Proofs.YtnlgilmbmoiniaaW.PrintWords Go.Proofs.YtnlgilmbmoiniaaW.PrintLast Go.Proofs.Ytnlgilmbmoiniaa.EvLib
theorem index_l0 (l : List Bool) (hl : l.length ≤ 1048576) (d : Nat) : ∀ (i : Nat), i ≤ l.length → l.length - i = d → ∃ r : Int, Ev (fun k => slices_Index_bool_bool.l0 k l true (l.length : Int) (i : Int)) r ∧ (decide (r ≥ 0)) = (l.drop i).contains true := by
  induction d with
  | zero =>
    intro i hi hd
    obtain rfl : i = l.length := by omega
    exact ⟨-1, ev_step (fun k => by simp only [slices_Index_bool_bool.l0]; rfl) (ev_iten (by omega) (ev_some rfl)), by simp⟩
  | succ d ih =>
    intro i hi hd
    have hdrop := drop_has l i (by omega)
    have hr := rd_at l i (by omega)
    by_cases h : l[i] = true
    · refine ⟨i, ev_step (fun k => by simp only [slices_Index_bool_bool.l0]; rfl) (ev_itep (by omega) (ev_itep (by omega) (ev_itep (by omega) (ev_itep (by rw [hr, h]; rfl) (ev_some rfl))))), ?_⟩
      rw [hdrop, h, Bool.true_or]; exact decide_eq_true (by omega)
    · obtain ⟨r, h1, h2⟩ := ih (i + 1) (by omega) (by omega)
      refine ⟨r, ev_step (fun k => by simp only [slices_Index_bool_bool.l0]; rfl) (ev_itep (by omega) (ev_itep (by omega) (ev_itep (by omega) (ev_iten (by rw [hr]; simpa using h) ?_)))), ?_⟩
      · rw [wrap_id (by omega) (by omega)]; exact h1
      · rw [hdrop, h2, Bool.eq_false_iff.mpr h, Bool.false_or]
theorem implIsCalendar_ev (l : List Bool) (hl : l.length ≤ 1048576) : Ev (fun k => impl_IsCalendar.f k l) (isCal l) := by
  unfold impl_IsCalendar.f slices_Contains_bool_bool.f slices_Index_bool_bool.f
  obtain ⟨r, h1, h2⟩ := index_l0 l hl l.length 0 (by omega) (by omega)
  refine ev_ite (fun h => ev_bind (ev_bind h1 (ev_some rfl)) (ev_some ?_)) (fun h => ev_some ?_)
  · rw [h2]; unfold isCal; simp; intro _; omega
  · unfold isCal; simp; intro _; omega
end Go.Proofs.Ytnlgilmbmoiniaa.PFnExactTaskOf
