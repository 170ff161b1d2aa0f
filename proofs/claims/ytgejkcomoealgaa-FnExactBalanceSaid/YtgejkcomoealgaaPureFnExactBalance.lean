/- The pure statement of FnExactBalance. -/
import Derived.Test.YtgejkcomoealgaaBalIFnExactBalance
import Derived.Test.YtgejkcomoealgaaAreEntrySFnExactBalance
namespace Go.Proofs.Ytgejkcomoealgaa.Pure
open Go.RowKit Go.Proofs.Ytgejkcomoealgaa.PFnExactBalance Go.Proofs.YtgejkcomoealgaaW.PrintWords Go.Proofs.YtgejkcomoealgaaW.PrintLast Go.Proofs.Ytgejkcomoealgaa.EvLib
theorem specBal_stop (l : List IEntry) (a s i : Int) : Ev (fun k => spec_Balance.j1 k l a s i false) s := ev_step (fun k => by simp only [spec_Balance.j1]; rfl) (ev_iten (by simp) (ev_some rfl))
theorem specBal_l0 (l : List IEntry) (hl : l.length ≤ 100) (hs : small l) (ha : areEntry l = true) (a : Int) : ∀ (d i : Nat) (s : Int), i + d = l.length → -(10000000 * (i : Int)) ≤ s → s ≤ 10000000 * i → Ev (fun k => spec_Balance.l0 k l a s (i : Int)) (s + (sumIf (paidTo a) (l.drop i) - sumIf (paidBy a) (l.drop i))) := by
  intro d
  induction d with
  | zero =>
    intro i s hi h0 h1
    exact ev_step (fun k => by simp only [spec_Balance.l0]; rfl) (ev_iten (by omega) (ev_eq (specBal_stop l a s i) (by rw [List.drop_of_length_le (by omega), sumIf, sumIf]; omega)))
  | succ d ih =>
    intro i s hi h0 h1
    refine ev_step (fun k => by simp only [spec_Balance.l0]; rfl) (ev_itep (by omega) (ev_bind (specAreEntries_ev l (by omega)) ?_))
    rw [ha]
    refine ev_step (fun k => by simp only [spec_Balance.j1]; rfl) (ev_itep (by first | rfl | trivial) (ev_itep (by omega) (ev_itep (by omega) ?_)))
    have hb := small_en hs i (by omega)
    simp only [rd_en, wrap_id (x := (i : Int) + 1) (by omega) (by omega)]
    rw [drop_en l i (by omega), sumIf, sumIf]
    refine ev_ite (fun c => ev_ite (fun c2 => ?_) (fun c2 => ?_)) (fun c => ev_ite (fun c2 => ?_) (fun c2 => ?_))
    · rw [wrap_id (x := s + (en l i).f2) (by omega) (by omega), wrap_id (by omega) (by omega), if_pos (show paidTo a (en l i) = true from decide_eq_true c), if_pos (show paidBy a (en l i) = true from decide_eq_true c2)]
      exact ev_eq (ih (i + 1) _ (by omega) (by omega) (by omega)) (by omega)
    · rw [wrap_id (by omega) (by omega), if_pos (show paidTo a (en l i) = true from decide_eq_true c), if_neg (show ¬ paidBy a (en l i) = true by simpa [paidBy] using c2)]
      exact ev_eq (ih (i + 1) _ (by omega) (by omega) (by omega)) (by omega)
    · rw [wrap_id (by omega) (by omega), if_neg (show ¬ paidTo a (en l i) = true by simpa [paidTo] using c), if_pos (show paidBy a (en l i) = true from decide_eq_true c2)]
      exact ev_eq (ih (i + 1) _ (by omega) (by omega) (by omega)) (by omega)
    · rw [if_neg (show ¬ paidTo a (en l i) = true by simpa [paidTo] using c), if_neg (show ¬ paidBy a (en l i) = true by simpa [paidBy] using c2)]
      exact ev_eq (ih (i + 1) _ (by omega) (by omega) (by omega)) (by omega)
theorem specBalance_ev (l : List IEntry) (hl : l.length ≤ 1048576) (a : Int) : Ev (fun k => spec_Balance.f k l a) (balance l a) := by
  unfold spec_Balance.f balance
  by_cases h : areEntry l = true
  · rw [if_pos h]
    exact ev_eq (specBal_l0 l (areEntry_len h) (small_of h) h a l.length 0 0 (by omega) (by omega) (by omega)) (by rw [List.drop_zero]; omega)
  · rw [if_neg h]
    refine ev_step (fun k => by simp only [spec_Balance.l0]; rfl) (ev_ite (fun _ => ev_bind (specAreEntries_ev l hl) ?_) (fun _ => specBal_stop l a 0 0))
    rw [Bool.eq_false_iff.mpr h]
    exact specBal_stop l a 0 0
theorem FnExactBalance : laws_FnExactBalance.Pure := by
  intro l a hw _
  refine Ev.rounds ?_
  unfold laws_FnExactBalance.f
  refine ev_bindc (szEntryS_eq l hw.1 1048576 (by omega) (by omega)) (ev_ite (fun _ => ev_some rfl) (fun h => ?_))
  have hl : l.length ≤ 1048576 := by split at h <;> omega
  have hm : (l.map cvEntry).length ≤ 1048576 := by rw [List.length_map]; exact hl
  exact ev_bind (toEntryS_ev l hl) (ev_bind (specBalance_ev _ hm a) (ev_bind (toEntryS_ev l hl) (ev_bind (implBalance_ev _ hm a) (ev_itep rfl (ev_bind (toEntryS_ev l hl) (ev_bind (eqEntryS_ev _ hm) (ev_itep rfl (ev_some rfl))))))))
end Go.Proofs.Ytgejkcomoealgaa.Pure
