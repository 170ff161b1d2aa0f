/- What two lists have in common. -/
import Derived.Test.YtglpmjcknhcjcaaAscPFnExactGroupReports
namespace Go.Proofs.Ytglpmjcknhcjcaa.PFnExactGroupReports
open Go.RowKit Go.Proofs.YtglpmjcknhcjcaaW.PrintWords Go.Proofs.YtglpmjcknhcjcaaW.PrintLast Go.Proofs.Ytglpmjcknhcjcaa.EvLib
def com (a b : List Int) : List Int := a.filter (fun x => decide (x ∈ b))
def bth (a b : List Int) : List Int × Bool := if a.length = 0 then (b, true) else if b.length = 0 then (a, true) else (com a b, decide ((com a b).length > 0))
theorem has_l0 (l : List Int) (hl : l.length ≤ 2097152) (a : Int) : ∀ (d i : Nat), i + d = l.length → Ev (fun k => spec_l8Has.l0 k l a (i : Int)) (decide (a ∈ l.drop i)) := by
  intro d
  induction d with
  | zero =>
    intro i hi
    exact ev_step (fun k => by simp only [spec_l8Has.l0]; rfl) (ev_iten (by omega) (ev_some (by rw [List.drop_of_length_le (by omega)]; simp)))
  | succ d ih =>
    intro i hi
    refine ev_step (fun k => by simp only [spec_l8Has.l0]; rfl) (ev_itep (by omega) (ev_itep (by omega) ?_))
    rw [rd_get l i (by omega), wrap_id (x := (i : Int) + 1) (by omega) (by omega), show l.drop i = l[i] :: l.drop (i + 1) from List.drop_eq_getElem_cons (by omega)]
    refine ev_ite (fun c => ev_some (by simp [c])) (fun c => ev_eq (ih (i + 1) (by omega)) ?_)
    rw [decide_eq_decide, List.mem_cons]
    exact ⟨fun h => .inr h, fun h => h.elim (fun e => absurd e.symm c) id⟩
theorem has_ev (l : List Int) (hl : l.length ≤ 2097152) (a : Int) : Ev (fun k => spec_l8Has.f k l a) (decide (a ∈ l)) := by
  unfold spec_l8Has.f
  exact ev_eq (has_l0 l hl a l.length 0 (by omega)) (by rw [List.drop_zero])
theorem idx_l0 (l : List Int) (hl : l.length ≤ 2097152) (a : Int) : ∀ (d i : Nat), i + d = l.length → ∃ r : Int, Ev (fun k => slices_Index_int_int.l0 k l a (l.length : Int) (i : Int)) r ∧ decide (r ≥ 0) = decide (a ∈ l.drop i) := by
  intro d
  induction d with
  | zero =>
    intro i hi
    exact ⟨-1, ev_step (fun k => by simp only [slices_Index_int_int.l0]; rfl) (ev_iten (by omega) (ev_some rfl)), by rw [List.drop_of_length_le (by omega)]; simp⟩
  | succ d ih =>
    intro i hi
    have hd : l.drop i = l[i]'(by omega) :: l.drop (i + 1) := List.drop_eq_getElem_cons (by omega)
    by_cases c : a = l[i]'(by omega)
    · refine ⟨(i : Int), ev_step (fun k => by simp only [slices_Index_int_int.l0]; rfl) (ev_itep (by omega) (ev_itep (by omega) (ev_itep (by omega) (ev_itep (by rw [rd_get l i (by omega)]; exact c) (ev_some rfl))))), ?_⟩
      rw [hd, decide_eq_decide, List.mem_cons]
      exact ⟨fun _ => .inl c, fun _ => by omega⟩
    · obtain ⟨r, h1, h2⟩ := ih (i + 1) (by omega)
      refine ⟨r, ev_step (fun k => by simp only [slices_Index_int_int.l0]; rfl) (ev_itep (by omega) (ev_itep (by omega) (ev_itep (by omega) (ev_iten (by rw [rd_get l i (by omega)]; exact c) ?_)))), ?_⟩
      · rw [wrap_id (by omega) (by omega)]; exact h1
      · rw [h2, hd, decide_eq_decide, List.mem_cons]
        exact ⟨fun h => .inr h, fun h => h.elim (fun e => absurd e c) id⟩
theorem contains_ev (l : List Int) (hl : l.length ≤ 2097152) (a : Int) : Ev (fun k => slices_Contains_int_int.f k l a) (decide (a ∈ l)) := by
  unfold slices_Contains_int_int.f slices_Index_int_int.f
  obtain ⟨r, h1, h2⟩ := idx_l0 l hl a l.length 0 (by omega)
  rw [List.drop_zero] at h2
  exact ev_bind h1 (ev_some h2)
theorem com_take (a b : List Int) (i : Nat) (h : i < a.length) : com (a.take (i + 1)) b = com (a.take i) b ++ (if a[i] ∈ b then [a[i]] else []) := by
  unfold com
  rw [List.take_succ_eq_append_getElem h, List.filter_append]
  by_cases c : a[i] ∈ b
  · rw [if_pos c]; simp [c]
  · rw [if_neg c]; simp [c]
theorem com_len (a b : List Int) : (com a b).length ≤ a.length := List.length_filter_le _ _
theorem specBoth_l0 (a b : List Int) (ha : a.length ≤ 2097152) (hb : b.length ≤ 2097152) : ∀ (d i : Nat), i + d = a.length → Ev (fun k => spec_l9Both.l0 k a b (com (a.take i) b) (i : Int)) (com a b, decide ((com a b).length > 0)) := by
  intro d
  induction d with
  | zero =>
    intro i hi
    refine ev_step (fun k => by simp only [spec_l9Both.l0]; rfl) (ev_iten (by omega) (ev_some ?_))
    rw [List.take_of_length_le (by omega)]
    congr 1
    apply decide_eq_decide.2
    omega
  | succ d ih =>
    intro i hi
    have hr := ih (i + 1) (by omega)
    have hlen := com_len (a.take i) b
    rw [List.length_take] at hlen
    have e2 : wrap64 ((i : Int) + 1) = ((i + 1 : Nat) : Int) := by rw [wrap_id (by omega) (by omega)]; omega
    rw [com_take a b i (by omega)] at hr
    refine ev_step (fun k => by simp only [spec_l9Both.l0]; rfl) (ev_itep (by omega) (ev_itep (by omega) ?_))
    rw [rd_get a i (by omega), e2]
    refine ev_bind (has_ev b hb _) (ev_ite (fun c => ?_) (fun c => ?_))
    · rw [if_pos (of_decide_eq_true c)] at hr
      exact ev_itep (by omega) hr
    · rw [if_neg (fun h => c (decide_eq_true h)), List.append_nil] at hr
      exact hr
theorem specBoth_ev (a b : List Int) (ha : a.length ≤ 2097152) (hb : b.length ≤ 2097152) : Ev (fun k => spec_l9Both.f k a b) (bth a b) := by
  unfold spec_l9Both.f bth
  refine ev_ite (fun c => ?_) (fun c => ev_ite (fun c2 => ?_) (fun c2 => ?_))
  · rw [if_pos (show a.length = 0 by omega)]
    exact ev_bindc rfl (ev_itep (by simp; omega) (ev_some rfl))
  · rw [if_neg (show ¬ a.length = 0 by omega), if_pos (show b.length = 0 by omega)]
    exact ev_bindc rfl (ev_itep (by simp; omega) (ev_some rfl))
  · rw [if_neg (show ¬ a.length = 0 by omega), if_neg (show ¬ b.length = 0 by omega)]
    exact specBoth_l0 a b ha hb a.length 0 (by omega)
theorem implBoth_l0 (a b : List Int) (ha : a.length ≤ 2097152) (hb : b.length ≤ 2097152) : ∀ (d i : Nat), i + d = a.length → Ev (fun k => impl_both.l0 k b (com (a.take i) b) a (a.length : Int) (i : Int)) (com a b, decide ((com a b).length > 0)) := by
  intro d
  induction d with
  | zero =>
    intro i hi
    refine ev_step (fun k => by simp only [impl_both.l0]; rfl) (ev_iten (by omega) (ev_some ?_))
    rw [List.take_of_length_le (by omega)]
    congr 1
    apply decide_eq_decide.2
    omega
  | succ d ih =>
    intro i hi
    have hr := ih (i + 1) (by omega)
    have hlen := com_len (a.take i) b
    rw [List.length_take] at hlen
    have e2 : wrap64 ((i : Int) + 1) = ((i + 1 : Nat) : Int) := by rw [wrap_id (by omega) (by omega)]; omega
    rw [com_take a b i (by omega)] at hr
    refine ev_step (fun k => by simp only [impl_both.l0]; rfl) (ev_itep (by omega) ?_)
    rw [rd_get a i (by omega), e2]
    refine ev_itep (by omega) (ev_itep (by omega) (ev_bind (contains_ev b hb _) (ev_ite (fun c => ?_) (fun c => ?_))))
    · rw [if_pos (of_decide_eq_true c)] at hr
      exact ev_itep (by omega) hr
    · rw [if_neg (fun h => c (decide_eq_true h)), List.append_nil] at hr
      exact hr
theorem implBoth_ev (a b : List Int) (ha : a.length ≤ 2097152) (hb : b.length ≤ 2097152) : Ev (fun k => impl_both.f k a b) (bth a b) := by
  unfold impl_both.f bth slices_Clone_int_int.f
  refine ev_ite (fun c => ?_) (fun c => ev_ite (fun c2 => ?_) (fun c2 => ?_))
  · rw [if_pos (show a.length = 0 by omega), if_pos (show b.length < 17592186044416 by omega)]
    exact ev_bindc rfl (ev_some rfl)
  · rw [if_neg (show ¬ a.length = 0 by omega), if_pos (show b.length = 0 by omega), if_pos (show a.length < 17592186044416 by omega)]
    exact ev_bindc rfl (ev_some rfl)
  · rw [if_neg (show ¬ a.length = 0 by omega), if_neg (show ¬ b.length = 0 by omega)]
    exact implBoth_l0 a b ha hb a.length 0 (by omega)
theorem bth_len (a b : List Int) : (bth a b).1.length ≤ a.length ∨ (bth a b).1.length ≤ b.length := by
  unfold bth
  split
  · exact Or.inr (Nat.le_refl _)
  · split
    · exact Or.inl (Nat.le_refl _)
    · exact Or.inl (com_len a b)
theorem bth_asc {a b : List Int} {lo hi : Int} (ha : asc a lo hi = true) (hb : asc b lo hi = true) : asc (bth a b).1 lo hi = true := by
  unfold bth
  split
  · exact hb
  · split
    · exact ha
    · exact asc_filter _ ha
end Go.Proofs.Ytglpmjcknhcjcaa.PFnExactGroupReports
