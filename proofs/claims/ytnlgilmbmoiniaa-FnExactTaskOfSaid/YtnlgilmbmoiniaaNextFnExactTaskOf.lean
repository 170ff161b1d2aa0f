/- The next open day. -/
import Derived.Test.YtnlgilmbmoiniaaOpn7FnExactTaskOf
import Derived.Test.YtnlgilmbmoiniaaInRFnExactTaskOf
namespace Go.Proofs.Ytnlgilmbmoiniaa.PFnExactTaskOf
open Go.RowKit Go.Proofs.YtnlgilmbmoiniaaW.PrintWords Go.Proofs.YtnlgilmbmoiniaaW.PrintLast Go.Proofs.Ytnlgilmbmoiniaa.EvLib

/-- A loop that goes on to the next open day. -/
theorem next_ev (L : Nat → List Bool → Int → Option Int) (hL : ∀ k x0 x1, L (k + 1) x0 x1 = if 0 ≤ (Int.tmod x1 7) then (if (Int.tmod x1 7) < (x0.length : Int) then (if (rdOf false x0 (Int.tmod x1 7) = true) then (some x1) else (L k x0 (wrap64 (x1 + 1)))) else (none)) else (none))
    {l : List Bool} (h : l.length = 7) (i j : Nat) (hj : j ≤ 1000000000) (hij : i ≤ j) (ho : opn l j = true) : ∃ r : Nat, i ≤ r ∧ r ≤ j ∧ opn l r = true ∧ (∀ q, i ≤ q → q < r → opn l q = false) ∧ Ev (fun k => L k l (i : Int)) (r : Int) := by
  have key : ∀ d i, i + d = j → ∃ r : Nat, i ≤ r ∧ r ≤ j ∧ opn l r = true ∧ (∀ q, i ≤ q → q < r → opn l q = false) ∧ Ev (fun k => L k l (i : Int)) (r : Int) := by
    intro d
    induction d with
    | zero =>
      intro i hi
      obtain rfl : i = j := by omega
      refine ⟨i, by omega, by omega, ho, fun q h1 h2 => by omega, ev_step (fun k => hL k _ _) (ev_itep ?_ (ev_itep ?_ (ev_itep (by rw [rd_opn]; exact ho) (ev_some rfl))))⟩
      · rw [tm7]; omega
      · rw [tm7]; omega
    | succ d ih =>
      intro i hi
      by_cases hc : opn l i = true
      · refine ⟨i, by omega, by omega, hc, fun q h1 h2 => by omega, ev_step (fun k => hL k _ _) (ev_itep ?_ (ev_itep ?_ (ev_itep (by rw [rd_opn]; exact hc) (ev_some rfl))))⟩
        · rw [tm7]; omega
        · rw [tm7]; omega
      · obtain ⟨r, h1, h2, h3, h4, h5⟩ := ih (i + 1) (by omega)
        refine ⟨r, by omega, h2, h3, fun q hq1 hq2 => ?_, ev_step (fun k => hL k _ _) (ev_itep ?_ (ev_itep ?_ (ev_iten (by rw [rd_opn]; exact hc) ?_)))⟩
        · by_cases e : q = i
          · subst e; exact Bool.eq_false_iff.mpr hc
          · exact h4 q (by omega) hq2
        · rw [tm7]; omega
        · rw [tm7]; omega
        · rw [wrap_id (by omega) (by omega)]; exact h5
  exact key (j - i) i (by omega)
theorem next_one {l : List Bool} {i r s : Nat} (h1 : i ≤ r) (h2 : opn l r = true) (h3 : ∀ q, i ≤ q → q < r → opn l q = false) (g1 : i ≤ s) (g2 : opn l s = true) (g3 : ∀ q, i ≤ q → q < s → opn l q = false) : r = s := by
  rcases Nat.lt_trichotomy r s with h | h | h
  · have := g3 r h1 h; rw [h2] at this; cases this
  · exact h
  · have := h3 s g1 h; rw [g2] at this; cases this
/-- What NextOpen says. -/
def NextIs (l : List Bool) (a r : Int) : Prop :=
  if isCal l = true ∧ 0 ≤ a ∧ a ≤ 100000 then ∃ i j : Nat, a = i ∧ r = j ∧ i ≤ j ∧ j ≤ i + 6 ∧ opn l j = true ∧ ∀ q, i ≤ q → q < j → opn l q = false else r = -1
theorem NextIs.one {l : List Bool} {a r s : Int} (h : NextIs l a r) (g : NextIs l a s) : r = s := by
  unfold NextIs at h g
  split at h
  · rename_i hc
    rw [if_pos hc] at g
    obtain ⟨i, j, rfl, rfl, h1, h2, h3, h4⟩ := h
    obtain ⟨i', j', e, rfl, g1, g2, g3, g4⟩ := g
    obtain rfl : i = i' := by omega
    rw [next_one h1 h3 h4 g1 g3 g4]
  · rename_i hc
    rw [if_neg hc] at g
    rw [h, g]
theorem implNextOpen_ev (l : List Bool) (hl : l.length ≤ 1048576) (a : Int) : ∃ r, NextIs l a r ∧ Ev (fun k => impl_NextOpen.f k l a) r := by
  unfold impl_NextOpen.f
  by_cases h : isCal l = true
  · by_cases h2 : 0 ≤ a ∧ a ≤ 100000
    · obtain ⟨i, rfl⟩ := Int.eq_ofNat_of_zero_le h2.1
      obtain ⟨j, hj1, hj2, hj3⟩ := some_open h i
      obtain ⟨r, h3, h4, h5, h6, h7⟩ := next_ev impl_NextOpen.l0 (fun k _ _ => by simp only [impl_NextOpen.l0]) (isCal_len h) i j (by omega) hj1 hj3
      refine ⟨r, ?_, ev_bind (implIsCalendar_ev l hl) (ev_itep h (ev_bindc (inRange_eq _ _ _) (ev_step (fun k => by simp only [impl_NextOpen.j0]; rfl) (ev_iten (by simp; omega) h7))))⟩
      unfold NextIs
      rw [if_pos ⟨h, h2⟩]
      exact ⟨i, r, rfl, rfl, h3, by omega, h5, h6⟩
    · refine ⟨-1, by unfold NextIs; rw [if_neg (fun c => h2 c.2)], ev_bind (implIsCalendar_ev l hl) (ev_itep h (ev_bindc (inRange_eq _ _ _) (ev_step (fun k => by simp only [impl_NextOpen.j0]; rfl) (ev_itep (by rw [decide_eq_false h2]; rfl) (ev_some rfl)))))⟩
  · exact ⟨-1, by unfold NextIs; rw [if_neg (fun c => h c.1)], ev_bind (implIsCalendar_ev l hl) (ev_iten h (ev_step (fun k => by simp only [impl_NextOpen.j0]; rfl) (ev_itep (by first | rfl | trivial) (ev_some rfl))))⟩
end Go.Proofs.Ytnlgilmbmoiniaa.PFnExactTaskOf
