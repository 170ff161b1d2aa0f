/- The pure statement of FnExactTotalPaid. -/
import Derived.Test.YtgejkcomoealgaaPaidIFnExactTotalPaid
import Derived.Test.YtgejkcomoealgaaAreEntrySFnExactTotalPaid
namespace Go.Proofs.Ytgejkcomoealgaa.Pure
open Go.RowKit Go.Proofs.Ytgejkcomoealgaa.PFnExactTotalPaid Go.Proofs.YtgejkcomoealgaaW.PrintWords Go.Proofs.YtgejkcomoealgaaW.PrintLast Go.Proofs.Ytgejkcomoealgaa.EvLib
theorem specPaid_stop (l : List IEntry) (a s i : Int) : Ev (fun k => spec_TotalPaid.j1 k l a s i false) s := ev_step (fun k => by simp only [spec_TotalPaid.j1]; rfl) (ev_iten (by simp) (ev_some rfl))
theorem specPaid_l0 (l : List IEntry) (hl : l.length ≤ 100) (hs : small l) (ha : areEntry l = true) (a : Int) : ∀ (d i : Nat) (s : Int), i + d = l.length → 0 ≤ s → s ≤ 10000000 * i → Ev (fun k => spec_TotalPaid.l0 k l a s (i : Int)) (s + sumIf (paidBy a) (l.drop i)) := by
  intro d
  induction d with
  | zero =>
    intro i s hi h0 h1
    exact ev_step (fun k => by simp only [spec_TotalPaid.l0]; rfl) (ev_iten (by omega) (ev_eq (specPaid_stop l a s i) (by rw [List.drop_of_length_le (by omega), sumIf]; omega)))
  | succ d ih =>
    intro i s hi h0 h1
    refine ev_step (fun k => by simp only [spec_TotalPaid.l0]; rfl) (ev_itep (by omega) (ev_bind (specAreEntries_ev l (by omega)) ?_))
    rw [ha]
    refine ev_step (fun k => by simp only [spec_TotalPaid.j1]; rfl) (ev_itep (by first | rfl | trivial) (ev_itep (by omega) (ev_itep (by omega) ?_)))
    have hb := small_en hs i (by omega)
    simp only [rd_en, wrap_id (x := (i : Int) + 1) (by omega) (by omega)]
    rw [drop_en l i (by omega), sumIf]
    refine ev_ite (fun c => ?_) (fun c => ?_)
    · rw [wrap_id (by omega) (by omega), if_pos (show paidBy a (en l i) = true from decide_eq_true c)]
      exact ev_eq (ih (i + 1) _ (by omega) (by omega) (by omega)) (by omega)
    · rw [if_neg (show ¬ paidBy a (en l i) = true by simpa [paidBy] using c)]
      exact ev_eq (ih (i + 1) _ (by omega) (by omega) (by omega)) (by omega)
theorem specTotalPaid_ev (l : List IEntry) (hl : l.length ≤ 1048576) (a : Int) : Ev (fun k => spec_TotalPaid.f k l a) (totalPaid l a) := by
  unfold spec_TotalPaid.f totalPaid
  by_cases h : areEntry l = true
  · rw [if_pos h]
    exact ev_eq (specPaid_l0 l (areEntry_len h) (small_of h) h a l.length 0 0 (by omega) (by omega) (by omega)) (by rw [List.drop_zero]; omega)
  · rw [if_neg h]
    refine ev_step (fun k => by simp only [spec_TotalPaid.l0]; rfl) (ev_ite (fun _ => ev_bind (specAreEntries_ev l hl) ?_) (fun _ => specPaid_stop l a 0 0))
    rw [Bool.eq_false_iff.mpr h]
    exact specPaid_stop l a 0 0
theorem FnExactTotalPaid : laws_FnExactTotalPaid.Pure := by
  intro l a hw _
  refine Ev.rounds ?_
  unfold laws_FnExactTotalPaid.f
  refine ev_bindc (szEntryS_eq l hw.1 1048576 (by omega) (by omega)) (ev_ite (fun _ => ev_some rfl) (fun h => ?_))
  have hl : l.length ≤ 1048576 := by split at h <;> omega
  have hm : (l.map cvEntry).length ≤ 1048576 := by rw [List.length_map]; exact hl
  exact ev_bind (toEntryS_ev l hl) (ev_bind (specTotalPaid_ev _ hm a) (ev_bind (toEntryS_ev l hl) (ev_bind (implTotalPaid_ev _ hm a) (ev_itep rfl (ev_bind (toEntryS_ev l hl) (ev_bind (eqEntryS_ev _ hm) (ev_itep rfl (ev_some rfl))))))))
end Go.Proofs.Ytgejkcomoealgaa.Pure
