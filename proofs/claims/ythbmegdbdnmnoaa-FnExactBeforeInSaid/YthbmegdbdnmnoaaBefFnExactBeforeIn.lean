/- BeforeIn, by the program and by the reference. -/
import Derived.Test.YthbmegdbdnmnoaaCvTicketFnExactBeforeIn
namespace Go.Proofs.Ythbmegdbdnmnoaa.PFnExactBeforeIn
open Go.RowKit Go.Proofs.YthbmegdbdnmnoaaW.PrintWords Go.Proofs.YthbmegdbdnmnoaaW.PrintLast Go.Proofs.Ythbmegdbdnmnoaa.EvLib
def btk (l : List ITicket) (i : Nat) : ITicket := l.getD i z42
theorem rd_btk (l : List ITicket) (i : Nat) : rd_T42 l (i : Int) = btk l i := by unfold rd_T42 btk; rw [Int.toNat_natCast]
theorem drop_btk (l : List ITicket) (i : Nat) (h : i < l.length) : l.drop i = btk l i :: l.drop (i + 1) := by
  rw [List.drop_eq_getElem_cons h]
  simp [btk, List.getD, h]
def befOf (l : List ITicket) (id s : Int) : Int := if s < 0 then -1 else if (rd_T42 l s).f2 = -1 then ((l.countP (impl_BeforeIn.p (rd_T42 l s) id) : Nat) : Int) else -1
def befF (l : List ITicket) (id : Int) : Int := befOf l id (idxB (fun x : ITicket => x.f0 == id) l 0)
theorem implBeforeIn_eq (l : List ITicket) (id : Int) : impl_BeforeIn.f l id = some (befF l id) := by
  unfold impl_BeforeIn.f befF befOf
  split
  · rfl
  · split <;> rfl
theorem specBef_l1 (l : List ITicket) (hl : l.length ≤ 1048576) (id : Int) (s : Nat) (hs : s < l.length) : ∀ (d i : Nat) (n : Int), i + d = l.length → 0 ≤ n → n ≤ i →
    Ev (fun k => spec_BeforeIn.l1 k l id (s : Int) n (i : Int)) (n + ((l.drop i).countP (impl_BeforeIn.p (btk l s) id) : Nat)) := by
  intro d
  induction d with
  | zero =>
    intro i n hi h0 h1
    exact ev_step (fun k => by simp only [spec_BeforeIn.l1]; rfl) (ev_iten (by omega) (ev_some (by rw [List.drop_of_length_le (by omega)]; simp)))
  | succ d ih =>
    intro i n hi h0 h1
    refine ev_step (fun k => by simp only [spec_BeforeIn.l1]; rfl) (ev_itep (by omega) (ev_itep (by omega) ?_))
    simp only [rd_btk, wrap_id (x := (i : Int) + 1) (by omega) (by omega), wrap_id (x := n + 1) (by omega) (by omega)]
    have yes : impl_BeforeIn.p (btk l s) id (btk l i) = true → n + 1 + ((l.drop (i + 1)).countP (impl_BeforeIn.p (btk l s) id) : Nat) = n + ((l.drop i).countP (impl_BeforeIn.p (btk l s) id) : Nat) := by
      intro h
      rw [drop_btk l i (by omega), List.countP_cons_of_pos h]
      omega
    have no : impl_BeforeIn.p (btk l s) id (btk l i) = false → n + ((l.drop (i + 1)).countP (impl_BeforeIn.p (btk l s) id) : Nat) = n + ((l.drop i).countP (impl_BeforeIn.p (btk l s) id) : Nat) := by
      intro h
      rw [drop_btk l i (by omega), List.countP_cons_of_neg (by rw [h]; simp)]
    refine ev_ite (fun c1 => ev_itep (by omega) (ev_itep (by omega) (ev_ite (fun c2 => ?_) (fun c2 => ev_ite (fun c3 => ev_ite (fun c4 => ?_) (fun c4 => ?_)) (fun c3 => ?_))))) (fun c1 => ?_)
    · exact ev_eq (ih (i + 1) (n + 1) (by omega) (by omega) (by omega)) (yes (by unfold impl_BeforeIn.p; simp [c1, c2]))
    · exact ev_eq (ih (i + 1) (n + 1) (by omega) (by omega) (by omega)) (yes (by unfold impl_BeforeIn.p; simp [c1, c3, c4]))
    · exact ev_eq (ih (i + 1) n (by omega) (by omega) (by omega)) (no (by unfold impl_BeforeIn.p; simp [c1, c2, c3, c4]))
    · exact ev_eq (ih (i + 1) n (by omega) (by omega) (by omega)) (no (by unfold impl_BeforeIn.p; simp [c1, c2, c3]))
    · exact ev_eq (ih (i + 1) n (by omega) (by omega) (by omega)) (no (by unfold impl_BeforeIn.p; simp [c1]))
theorem specBef_j1 (l : List ITicket) (hl : l.length ≤ 1048576) (id : Int) (s : Nat) (hs : s < l.length) : Ev (fun k => spec_BeforeIn.j1 k l id (s : Int) ((btk l s).f2 != (-1))) (befOf l id s) := by
  refine ev_step (fun k => by simp only [spec_BeforeIn.j1]; rfl) (ev_ite (fun h => ev_some ?_) (fun h => ?_))
  · have h' : (btk l s).f2 ≠ -1 := by simpa using h
    unfold befOf
    rw [if_neg (by omega), rd_btk, if_neg h']
  · have h' : (btk l s).f2 = -1 := by simpa using h
    refine ev_eq (specBef_l1 l hl id s hs l.length 0 0 (by omega) (by omega) (by omega)) ?_
    unfold befOf
    rw [if_neg (by omega), rd_btk, if_pos h', List.drop_zero]
    omega
theorem specBef_l0 (l : List ITicket) (hl : l.length ≤ 1048576) (id : Int) : ∀ (d i : Nat) (s : Int), i + d = l.length → -1 ≤ s → s < i →
    Ev (fun k => spec_BeforeIn.l0 k l id s (i : Int)) (befOf l id (if s < 0 then idxB (fun x : ITicket => x.f0 == id) (l.drop i) i else s)) := by
  intro d
  induction d with
  | zero =>
    intro i s hi h0 h1
    refine ev_step (fun k => by simp only [spec_BeforeIn.l0]; rfl) (ev_iten (by omega) (ev_ite (fun h => ?_) (fun h => ev_itep (by omega) (ev_itep (by omega) ?_))))
    · refine ev_step (fun k => by simp only [spec_BeforeIn.j1]; rfl) (ev_itep (c := true = true) rfl (ev_some ?_))
      rw [if_pos h, idxB_end _ _ _ (by omega)]
      rfl
    · rw [if_neg h]
      obtain ⟨s, rfl⟩ : ∃ q : Nat, s = q := ⟨s.toNat, by omega⟩
      rw [rd_btk]
      exact specBef_j1 l hl id s (by omega)
  | succ d ih =>
    intro i s hi h0 h1
    refine ev_step (fun k => by simp only [spec_BeforeIn.l0]; rfl) (ev_itep (by omega) (ev_itep (by omega) ?_))
    simp only [rd_btk, wrap_id (x := (i : Int) + 1) (by omega) (by omega)]
    have at_ := idxB_at (fun x : ITicket => x.f0 == id) z42 l i (by omega)
    refine ev_ite (fun c => ev_ite (fun c2 => ?_) (fun c2 => ?_)) (fun c => ?_)
    · have c' : ((l.getD i z42).f0 == id) = true := beq_iff_eq.2 c
      rw [if_pos c2, at_, if_pos c']
      refine ev_eq (ih (i + 1) (i : Int) (by omega) (by omega) (by omega)) ?_
      rw [if_neg (by omega)]
    · rw [if_neg c2]
      refine ev_eq (ih (i + 1) s (by omega) (by omega) (by omega)) ?_
      rw [if_neg c2]
    · have c' : ¬ ((l.getD i z42).f0 == id) = true := fun z => c (beq_iff_eq.1 z)
      rw [at_, if_neg c']
      exact ih (i + 1) s (by omega) (by omega) (by omega)
theorem specBeforeIn_ev (l : List ITicket) (hl : l.length ≤ 1048576) (id : Int) : Ev (fun k => spec_BeforeIn.f k l id) (befF l id) := by
  unfold spec_BeforeIn.f befF
  exact specBef_l0 l hl id l.length 0 (-1) (by omega) (by omega) (by omega)
end Go.Proofs.Ythbmegdbdnmnoaa.PFnExactBeforeIn
