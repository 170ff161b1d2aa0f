/- The pure statement of FnExactIsCalendar. -/
import Derived.Test.YtkbnbimphddmbaaStmFnExactIsCalendar
import Derived.Test.YtkbnbimphddmbaaEvLib
namespace Go.Proofs.Ytkbnbimphddmbaa.Pure
open Go.RowKit Go.Proofs.Ytkbnbimphddmbaa.PFnExactIsCalendar Go.Proofs.YtkbnbimphddmbaaW.PrintWords Go.Proofs.YtkbnbimphddmbaaW.PrintLast Go.Proofs.Ytkbnbimphddmbaa.EvLib

theorem toBoolS_l0 (l : List Bool) (hl : l.length ≤ 1048576) (d : Nat) : ∀ i, i ≤ l.length → l.length - i = d → Ev (fun k => laws_toBoolS.l0 k l (l.take i ++ List.replicate (l.length - i) false) (i : Int)) l := by
  induction d with
  | zero =>
    intro i hi hd
    refine ev_step (fun k => by simp only [laws_toBoolS.l0]; rfl) (ev_iten (by omega) (ev_some ?_))
    obtain rfl : i = l.length := by omega
    simp
  | succ d ih =>
    intro i hi hd
    refine ev_step (fun k => by simp only [laws_toBoolS.l0]; rfl) (ev_itep (by omega) (ev_itep (by omega) (ev_itep (by simp; omega) ?_)))
    have := ih (i + 1) (by omega) (by omega)
    simp only [Int.toNat_natCast, rdOf]
    rw [set_copy false false l i (by omega), wrap_id (by omega) (by omega)]
    exact this
theorem toBoolS_ev (l : List Bool) (hl : l.length ≤ 1048576) : Ev (fun k => laws_toBoolS.f k l) l := by
  unfold laws_toBoolS.f
  refine ev_itep (by omega) (ev_itep (by omega) ?_)
  have := toBoolS_l0 l hl l.length 0 (by omega) (by omega)
  simpa using this
theorem eqBoolS_l0 (l : List Bool) (hl : l.length ≤ 1048576) (d : Nat) : ∀ i : Nat, i ≤ l.length → l.length - i = d → Ev (fun k => laws_eqBoolS.l0 k l l (i : Int)) true := by
  induction d with
  | zero =>
    intro i hi hd
    exact ev_step (fun k => by simp only [laws_eqBoolS.l0]; rfl) (ev_iten (by omega) (ev_some rfl))
  | succ d ih =>
    intro i hi hd
    refine ev_step (fun k => by simp only [laws_eqBoolS.l0]; rfl) (ev_itep (by omega) (ev_itep (by omega) (ev_itep (by omega) (ev_iten (by simp) ?_))))
    have := ih (i + 1) (by omega) (by omega)
    rw [wrap_id (by omega) (by omega)]
    exact this
theorem eqBoolS_ev (l : List Bool) (hl : l.length ≤ 1048576) : Ev (fun k => laws_eqBoolS.f k l l) true := by
  unfold laws_eqBoolS.f
  exact ev_itep rfl (eqBoolS_l0 l hl l.length 0 (by omega) (by omega))

/-- What both functions say. -/
def isCal (l : List Bool) : Bool := l.contains true && l.length == 7

theorem drop_has (l : List Bool) (i : Nat) (h : i < l.length) : (l.drop i).contains true = (l[i] || (l.drop (i + 1)).contains true) := by
  rw [List.drop_eq_getElem_cons h, List.contains_cons]
  cases l[i] <;> rfl
theorem specIsCalendar_l0 (l : List Bool) (hl : l.length ≤ 1048576) (d : Nat) : ∀ (i : Nat) (b : Bool), i ≤ l.length → l.length - i = d → Ev (fun k => spec_IsCalendar.l0 k l b (i : Int)) ((b || (l.drop i).contains true) && l.length == 7) := by
  induction d with
  | zero =>
    intro i b hi hd
    obtain rfl : i = l.length := by omega
    refine ev_step (fun k => by simp only [spec_IsCalendar.l0]; rfl) (ev_iten (by omega) (ev_ite (fun h => ev_some ?_) (fun h => ev_some ?_)))
    · subst h
      simp
      rw [Bool.eq_iff_iff]; simp; omega
    · simp at h
      subst h
      simp
  | succ d ih =>
    intro i b hi hd
    have hdrop := drop_has l i (by omega)
    have hr : rdOf false l (i : Int) = l[i] := by simp [rdOf, List.getD, show i < l.length by omega]
    refine ev_step (fun k => by simp only [spec_IsCalendar.l0]; rfl) (ev_itep (by omega) (ev_ite (fun h => ?_) (fun h => ev_itep (by omega) ?_)))
    · subst h
      rw [wrap_id (by omega) (by omega)]
      exact ev_eq (ih (i + 1) true (by omega) (by omega)) (by simp)
    · simp at h
      subst h
      rw [wrap_id (by omega) (by omega), hr]
      exact ev_eq (ih (i + 1) l[i] (by omega) (by omega)) (by rw [hdrop, Bool.false_or])
theorem specIsCalendar_ev (l : List Bool) (hl : l.length ≤ 1048576) : Ev (fun k => spec_IsCalendar.f k l) (isCal l) := by
  unfold spec_IsCalendar.f
  exact ev_eq (specIsCalendar_l0 l hl l.length 0 false (by omega) (by omega)) (by simp [isCal])

theorem index_l0 (l : List Bool) (hl : l.length ≤ 1048576) (d : Nat) : ∀ (i : Nat), i ≤ l.length → l.length - i = d → ∃ r : Int, Ev (fun k => slices_Index_bool_bool.l0 k l true (l.length : Int) (i : Int)) r ∧ (decide (r ≥ 0)) = (l.drop i).contains true := by
  induction d with
  | zero =>
    intro i hi hd
    obtain rfl : i = l.length := by omega
    exact ⟨-1, ev_step (fun k => by simp only [slices_Index_bool_bool.l0]; rfl) (ev_iten (by omega) (ev_some rfl)), by simp⟩
  | succ d ih =>
    intro i hi hd
    have hdrop := drop_has l i (by omega)
    have hr : rdOf false l (i : Int) = l[i] := by simp [rdOf, List.getD, show i < l.length by omega]
    by_cases h : l[i] = true
    · refine ⟨i, ev_step (fun k => by simp only [slices_Index_bool_bool.l0]; rfl) (ev_itep (by omega) (ev_itep (by omega) (ev_itep (by omega) (ev_itep (by rw [hr, h]; rfl) (ev_some rfl))))), ?_⟩
      rw [hdrop, h, Bool.true_or]; exact decide_eq_true (by omega)
    · obtain ⟨r, h1, h2⟩ := ih (i + 1) (by omega) (by omega)
      refine ⟨r, ev_step (fun k => by simp only [slices_Index_bool_bool.l0]; rfl) (ev_itep (by omega) (ev_itep (by omega) (ev_itep (by omega) (ev_iten (by rw [hr]; simpa using h) ?_)))), ?_⟩
      · rw [wrap_id (by omega) (by omega)]; exact h1
      · rw [hdrop, h2, Bool.eq_false_iff.mpr h, Bool.false_or]
theorem implIsCalendar_ev (l : List Bool) (hl : l.length ≤ 1048576) : Ev (fun k => impl_IsCalendar.f k l) (isCal l) := by
  unfold impl_IsCalendar.f slices_Contains_bool_bool.f slices_Index_bool_bool.f
  obtain ⟨r, h1, h2⟩ := index_l0 l hl l.length 0 (by omega) (by omega)
  refine ev_ite (fun h => ev_bind (ev_bind h1 (ev_some rfl)) (ev_some ?_)) (fun h => ev_some ?_)
  · rw [h2]; unfold isCal; simp; intro _; omega
  · unfold isCal; simp; intro _; omega

theorem FnExactIsCalendar : laws_FnExactIsCalendar.Pure := by
  intro l _
  refine Ev.rounds ?_
  unfold laws_FnExactIsCalendar.f
  refine ev_ite (fun _ => ev_some rfl) (fun h => ?_)
  have hl : l.length ≤ 1048576 := by omega
  refine ev_bind (toBoolS_ev l hl) (ev_bind (specIsCalendar_ev l hl) (ev_bind (toBoolS_ev l hl) (ev_bind (implIsCalendar_ev l hl) (ev_iten (by simp) (ev_bind (toBoolS_ev l hl) (ev_bind (eqBoolS_ev l hl) (ev_itep rfl (ev_some rfl))))))))
end Go.Proofs.Ytkbnbimphddmbaa.Pure
