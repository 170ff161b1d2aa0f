/- CallTicket, by the program. -/
import Derived.Test.YthbmegdbdnmnoaaCalledFnCounters
namespace Go.Proofs.Ythbmegdbdnmnoaa.PFnCounters
open Go.RowKit Go.Proofs.YthbmegdbdnmnoaaW.PrintWords Go.Proofs.YthbmegdbdnmnoaaW.PrintLast Go.Proofs.Ythbmegdbdnmnoaa.EvLib
theorem filter_erase {α : Type} (p : α → Bool) : ∀ (l : List α) (j : Nat) (hj : j < l.length), p l[j] = false → (∀ (q : Nat) (hq : q < l.length), q ≠ j → p l[q] = true) → l.filter p = l.eraseIdx j := by
  intro l
  induction l with
  | nil => intro j hj; simp at hj
  | cons x l ih =>
    intro j hj h0 h1
    cases j with
    | zero =>
      have hx : ¬ p x = true := by rw [show p x = false from h0]; simp
      rw [List.filter_cons_of_neg hx, List.eraseIdx_cons_zero, List.filter_eq_self]
      intro a ha
      obtain ⟨q, hq, rfl⟩ := List.mem_iff_getElem.1 ha
      exact h1 (q + 1) (by simp; omega) (by omega)
    | succ j =>
      have hx : p x = true := h1 0 (by simp) (by omega)
      rw [List.filter_cons_of_pos hx, List.eraseIdx_cons_succ, ih j (by simp at hj; omega) h0 (fun q hq hne => h1 (q + 1) (by simp; omega) (by omega))]
theorem tk_get (l : List ITicket) (i : Nat) (h : i < l.length) : tk l i = l[i] := by simp [tk, List.getD, h]
theorem drop_tk (l : List ITicket) (i : Nat) (h : i < l.length) : l.drop i = tk l i :: l.drop (i + 1) := by
  rw [List.drop_eq_getElem_cons h, tk_get l i h]
theorem are_ok {l : List ITicket} (h : areTk l = true) (i : Nat) (hi : i < l.length) : tkOk l i = true := by
  unfold areTk at h
  rw [Bool.and_eq_true, List.all_eq_true] at h
  exact h.1 i (List.mem_range.mpr hi)
theorem are_id {l : List ITicket} (h : areTk l = true) (i : Nat) (hi : i < l.length) : 1 ≤ (tk l i).f0 := by
  have := are_ok h i hi
  unfold tkOk at this
  simp only [Bool.and_eq_true, decide_eq_true_eq] at this
  exact this.1.1
theorem are_asc {l : List ITicket} (h : areTk l = true) : ∀ (d i : Nat), i + (d + 1) < l.length → (tk l i).f0 < (tk l (i + (d + 1))).f0 := by
  have one : ∀ j, j + 1 < l.length → (tk l j).f0 < (tk l (j + 1)).f0 := by
    intro j hj
    have := are_ok h (j + 1) hj
    unfold tkOk at this
    simp only [Bool.and_eq_true, Bool.or_eq_true, decide_eq_true_eq] at this
    rcases this.2.2.2 with e | e
    · omega
    · exact e
  intro d
  induction d with
  | zero => intro i hi; exact one i hi
  | succ d ih =>
    intro i hi
    have h1 := ih i (by omega)
    have h2 := one (i + (d + 1)) (by omega)
    have e : i + (d + 1 + 1) = i + (d + 1) + 1 := by omega
    rw [e]
    omega
theorem are_ne {l : List ITicket} (h : areTk l = true) (i j : Nat) (hi : i < l.length) (hj : j < l.length) (hne : i ≠ j) : (tk l i).f0 ≠ (tk l j).f0 := by
  rcases Nat.lt_or_gt_of_ne hne with c | c
  · have := are_asc h (j - i - 1) i (by omega)
    rw [show i + (j - i - 1 + 1) = j by omega] at this
    omega
  · have := are_asc h (i - j - 1) j (by omega)
    rw [show j + (i - j - 1 + 1) = i by omega] at this
    omega
/-- What is left, and who is called. -/
def callT (l : List ITicket) (now : Int) : List ITicket × Int := if areTk l = true ∧ nx l now ≥ 0 then (l.eraseIdx (nx l now).toNat, (tk l (nx l now).toNat).f0) else (l, 0)
theorem callT_len (l : List ITicket) (now : Int) : (callT l now).1.length ≤ l.length := by
  unfold callT
  split
  · exact List.length_eraseIdx_le _ _
  · exact Nat.le_refl _
theorem implCallTicket_ev (l : List ITicket) (hl : l.length ≤ 1048576) (now : Int) : Ev (fun k => impl_CallTicket.f k l now) (callT l now) := by
  unfold impl_CallTicket.f
  have cl : impl_Ticket_40.f l = some l := by unfold impl_Ticket_40.f; rw [if_pos (by omega)]
  have hx := nx_in l now
  refine ev_bindc cl (ev_bind (implCalledAt_ev l hl now) (ev_ite (fun h => ev_some ?_) (fun h => ?_)))
  · unfold callT
    rw [if_neg (fun z => by rw [if_pos z.1] at h; omega)]
  · have ha : areTk l = true := by
      apply Classical.byContradiction
      intro z
      rw [if_neg z] at h
      omega
    rw [if_pos ha] at h ⊢
    refine ev_itep (by omega) (ev_itep (by omega) (ev_some ?_))
    unfold callT
    rw [if_pos ⟨ha, by omega⟩, rd_tki]
end Go.Proofs.Ythbmegdbdnmnoaa.PFnCounters
