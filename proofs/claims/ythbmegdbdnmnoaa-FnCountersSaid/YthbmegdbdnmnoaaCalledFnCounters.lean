/- The ticket that is called. -/
import Derived.Test.YthbmegdbdnmnoaaAreTkFnCounters
namespace Go.Proofs.Ythbmegdbdnmnoaa.PFnCounters
open Go.RowKit Go.Proofs.YthbmegdbdnmnoaaW.PrintWords Go.Proofs.YthbmegdbdnmnoaaW.PrintLast Go.Proofs.Ythbmegdbdnmnoaa.EvLib
/-- The first place with the least value among those that p holds of. -/
def am (p : Nat → Bool) (v : Nat → Int) : Nat → Nat → Int → Int
  | 0, _, s => s
  | d + 1, i, s => am p v d (i + 1) (if p i = true ∧ (s < 0 ∨ v i < v s.toNat) then (i : Int) else s)
theorem am_yes {p : Nat → Bool} {v : Nat → Int} {d i : Nat} {s : Int} (h : p i = true ∧ (s < 0 ∨ v i < v s.toNat)) : am p v (d + 1) i s = am p v d (i + 1) i := by rw [am, if_pos h]
theorem am_no {p : Nat → Bool} {v : Nat → Int} {d i : Nat} {s : Int} (h : ¬ (p i = true ∧ (s < 0 ∨ v i < v s.toNat))) : am p v (d + 1) i s = am p v d (i + 1) s := by rw [am, if_neg h]
theorem am_in {p : Nat → Bool} {v : Nat → Int} : ∀ (d i : Nat) (s : Int), -1 ≤ s → s < i → -1 ≤ am p v d i s ∧ am p v d i s < (i + d : Nat) := by
  intro d
  induction d with
  | zero => intro i s h0 h1; exact ⟨h0, h1⟩
  | succ d ih =>
    intro i s h0 h1
    by_cases c : p i = true ∧ (s < 0 ∨ v i < v s.toNat)
    · rw [am_yes c]
      have := ih (i + 1) i (by omega) (by omega)
      omega
    · rw [am_no c]
      have := ih (i + 1) s (by omega) (by omega)
      omega
theorem am_congr {p q : Nat → Bool} {v : Nat → Int} : ∀ (d i : Nat) (s : Int), (∀ j, i ≤ j → j < i + d → p j = q j) → am p v d i s = am q v d i s := by
  intro d
  induction d with
  | zero => intro i s _; rfl
  | succ d ih =>
    intro i s h
    rw [am, am, h i (by omega) (by omega)]
    exact ih (i + 1) _ (fun j h1 h2 => h j (by omega) (by omega))
theorem rd_tki (l : List ITicket) (s : Int) : rd_T42 l s = tk l s.toNat := rfl
def isAp (l : List ITicket) (now : Int) (i : Nat) : Bool := decide ((tk l i).f2 ≥ 0 ∧ (tk l i).f2 ≤ now)
def isApI (l : List ITicket) (now : Int) (i : Nat) : Bool := decide ((tk l i).f2 ≠ -1 ∧ (tk l i).f2 ≤ now)
def isDr (l : List ITicket) (now : Int) (i : Nat) : Bool := decide ((tk l i).f2 = -1 ∧ (tk l i).f1 ≤ now)
def hr (l : List ITicket) (i : Nat) : Int := (tk l i).f2
def tm (l : List ITicket) (i : Nat) : Int := (tk l i).f1
/-- The place of the ticket that is called, or -1. -/
def nx (l : List ITicket) (now : Int) : Int := if am (isAp l now) (hr l) l.length 0 (-1) ≥ 0 then am (isAp l now) (hr l) l.length 0 (-1) else am (isDr l now) (tm l) l.length 0 (-1)
theorem nx_in (l : List ITicket) (now : Int) : -1 ≤ nx l now ∧ nx l now < l.length := by
  have h1 := am_in (p := isAp l now) (v := hr l) l.length 0 (-1) (by omega) (by omega)
  have h2 := am_in (p := isDr l now) (v := tm l) l.length 0 (-1) (by omega) (by omega)
  unfold nx
  split <;> omega
theorem are_hour {l : List ITicket} (h : areTk l = true) (i : Nat) (hi : i < l.length) : -1 ≤ (tk l i).f2 := by
  unfold areTk at h
  rw [Bool.and_eq_true, List.all_eq_true] at h
  have := h.1 i (List.mem_range.mpr hi)
  unfold tkOk at this
  simp only [Bool.and_eq_true, decide_eq_true_eq] at this
  exact this.2.2.1.1
theorem implCalled_l0 (l : List ITicket) (hl : l.length ≤ 1048576) (now : Int) : ∀ (d i : Nat) (s t : Int), i + d = l.length → -1 ≤ s → s < i → -1 ≤ t → t < i →
    Ev (fun k => impl_calledAt.l0 k l now s t l (l.length : Int) (i : Int)) (if am (isApI l now) (hr l) d i s ≥ 0 then am (isApI l now) (hr l) d i s else am (isDr l now) (tm l) d i t) := by
  intro d
  induction d with
  | zero =>
    intro i s t hi h1 h2 h3 h4
    refine ev_step (fun k => by simp only [impl_calledAt.l0]; rfl) (ev_iten (by omega) ?_)
    exact ev_ite (fun c => ev_some (by rw [am, if_pos c])) (fun c => ev_some (by rw [am, am, if_neg c]))
  | succ d ih =>
    intro i s t hi h1 h2 h3 h4
    refine ev_step (fun k => by simp only [impl_calledAt.l0]; rfl) (ev_itep (by omega) (ev_itep (by omega) (ev_itep (by omega) ?_)))
    simp only [rd_tki, Int.toNat_natCast, wrap_id (x := (i : Int) + 1) (by omega) (by omega)]
    refine ev_ite (fun c => ?_) (fun c => ?_)
    · have n1 : ¬ (isApI l now i = true ∧ (s < 0 ∨ hr l i < hr l s.toNat)) := fun z => by have := of_decide_eq_true z.1; omega
      rw [am_no n1]
      refine ev_ite (fun c2 => ev_ite (fun c3 => ?_) (fun c3 => ev_itep (by omega) (ev_itep (by omega) (ev_ite (fun c4 => ?_) (fun c4 => ?_))))) (fun c2 => ?_)
      · rw [am_yes ⟨decide_eq_true ⟨c, c2⟩, Or.inl c3⟩]
        exact ih (i + 1) s i (by omega) h1 (by omega) (by omega) (by omega)
      · rw [am_yes ⟨decide_eq_true ⟨c, c2⟩, Or.inr c4⟩]
        exact ih (i + 1) s i (by omega) h1 (by omega) (by omega) (by omega)
      · rw [am_no (fun z => z.2.elim c3 c4)]
        exact ih (i + 1) s t (by omega) h1 (by omega) h3 (by omega)
      · rw [am_no (fun z => c2 (of_decide_eq_true z.1).2)]
        exact ih (i + 1) s t (by omega) h1 (by omega) h3 (by omega)
    · have n2 : ¬ (isDr l now i = true ∧ (t < 0 ∨ tm l i < tm l t.toNat)) := fun z => c (of_decide_eq_true z.1).1
      rw [am_no n2]
      refine ev_ite (fun c2 => ev_ite (fun c3 => ?_) (fun c3 => ev_itep (by omega) (ev_itep (by omega) (ev_ite (fun c4 => ?_) (fun c4 => ?_))))) (fun c2 => ?_)
      · rw [am_yes ⟨decide_eq_true ⟨c, c2⟩, Or.inl c3⟩]
        exact ih (i + 1) i t (by omega) (by omega) (by omega) h3 (by omega)
      · rw [am_yes ⟨decide_eq_true ⟨c, c2⟩, Or.inr c4⟩]
        exact ih (i + 1) i t (by omega) (by omega) (by omega) h3 (by omega)
      · rw [am_no (fun z => z.2.elim c3 c4)]
        exact ih (i + 1) s t (by omega) h1 (by omega) h3 (by omega)
      · rw [am_no (fun z => c2 (of_decide_eq_true z.1).2)]
        exact ih (i + 1) s t (by omega) h1 (by omega) h3 (by omega)
theorem implCalledAt_ev (l : List ITicket) (hl : l.length ≤ 1048576) (now : Int) : Ev (fun k => impl_calledAt.f k l now) (if areTk l = true then nx l now else -1) := by
  unfold impl_calledAt.f
  refine ev_bind (implAreTickets_ev l hl) (ev_ite (fun h => ?_) (fun h => ev_some (by rw [if_neg h])))
  rw [if_pos h]
  refine ev_eq (implCalled_l0 l hl now l.length 0 (-1) (-1) (by omega) (by omega) (by omega) (by omega) (by omega)) ?_
  have e : am (isApI l now) (hr l) l.length 0 (-1) = am (isAp l now) (hr l) l.length 0 (-1) := by
    refine am_congr _ _ _ (fun j _ hj => ?_)
    have := are_hour h j (by omega)
    unfold isApI isAp
    rw [decide_eq_decide]
    omega
  rw [e]
  rfl
def nextId (l : List ITicket) (now : Int) : Int := if areTk l = true ∧ nx l now ≥ 0 then (tk l (nx l now).toNat).f0 else 0
end Go.Proofs.Ythbmegdbdnmnoaa.PFnCounters
