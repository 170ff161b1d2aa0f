/- The plain laws that this claim needs, in one text. -/
import Derived.Test.YtnlgilmbmoiniaaStmFnExactTasksFor
import Derived.Test.YtnlgilmbmoiniaaEvLib
namespace Go.Proofs.Ytnlgilmbmoiniaa.PFnExactTasksFor
open Go.RowKit Go.Proofs.YtnlgilmbmoiniaaW.PrintWords Go.Proofs.YtnlgilmbmoiniaaW.PrintLast Go.Proofs.Ytnlgilmbmoiniaa.EvLib
abbrev LClaim := S71
abbrev IClaim := S69
def cvClaim (x : LClaim) : IClaim := ⟨x.f0, x.f1, x.f2, x.f3, x.f4⟩
theorem szClaimS_eq (l : List LClaim) (h : l.length ≤ maxLen) (a : Int) (h0 : 0 ≤ a) (h1 : a ≤ 1048576) : laws_szClaimS.f l a = some (if (l.length : Int) ≤ a then a - l.length else -1) := by
  have := maxLen_le h
  unfold laws_szClaimS.f
  rw [wrap_id (by omega) (by omega)]
  by_cases c : (l.length : Int) ≤ a
  · rw [if_pos c, if_neg (by omega)]
  · rw [if_neg c, if_pos (by omega)]
theorem toClaimS_ev (l : List LClaim) (hl : l.length ≤ 1048576) : Ev (fun k => laws_toClaimS.f k l) (l.map cvClaim) := by
  unfold laws_toClaimS.f
  exact ev_itep (by omega) (ev_itep (by omega) (ev_copy laws_toClaimS.l0 cvClaim z71 z69 (fun _ _ _ _ => rfl) l hl))
theorem eqClaim_self (x : IClaim) : laws_eqClaim.f x.f0 x.f1 x.f2 x.f3 x.f4 x.f0 x.f1 x.f2 x.f3 x.f4 = some true := by simp [laws_eqClaim.f]
theorem eqClaimS_ev (l : List IClaim) (hl : l.length ≤ 1048576) : Ev (fun k => laws_eqClaimS.f k l l) true := by
  unfold laws_eqClaimS.f
  refine ev_itep rfl (ev_eqloop laws_eqClaimS.l0 (fun k l i hi => ?_) (fun k l => ?_) l (by omega))
  · simp only [laws_eqClaimS.l0]
    rw [if_pos (by omega), if_pos (by omega), if_pos (by omega), eqClaim_self, Option.bind_some, if_pos rfl]
  · simp only [laws_eqClaimS.l0]
    rw [if_neg (by omega)]
end Go.Proofs.Ytnlgilmbmoiniaa.PFnExactTasksFor
namespace Go.Proofs.Ytnlgilmbmoiniaa.PFnExactTasksFor
open Go.RowKit
theorem inRange_eq (a b c : Int) : impl_InRange.f a b c = some (decide (b ≤ a ∧ a ≤ c)) := by unfold impl_InRange.f; split <;> simp [*]
end Go.Proofs.Ytnlgilmbmoiniaa.PFnExactTasksFor
namespace Go.Proofs.Ytnlgilmbmoiniaa.PFnExactTasksFor
open Go.RowKit
theorem l1In_eq (a b c : Int) : spec_l1In.f a b c = some (decide (b ≤ a ∧ a ≤ c)) := by unfold spec_l1In.f; split <;> simp [*]
end Go.Proofs.Ytnlgilmbmoiniaa.PFnExactTasksFor
namespace Go.Proofs.Ytnlgilmbmoiniaa.PFnExactTasksFor
open Go.RowKit Go.Proofs.YtnlgilmbmoiniaaW.PrintWords Go.Proofs.Ytnlgilmbmoiniaa.EvLib
def isThing (a0 a1 a2 a3 a4 : Int) : Bool := decide (1 ≤ a0 ∧ a0 ≤ 999) && (decide (1 ≤ a1 ∧ a1 ≤ 8) && (decide (0 ≤ a2 ∧ a2 ≤ 7) && (decide (1 ≤ a3 ∧ a3 ≤ 50) && (decide (0 ≤ a4 ∧ a4 ≤ 10000000)))))
def isFind (a0 a1 a2 a3 a4 a5 a6 a7 : Int) : Bool := isThing a0 a1 a2 a3 a4 && (decide (1 ≤ a5 ∧ a5 ≤ 30) && (decide (0 ≤ a6 ∧ a6 ≤ 100000) && (decide (0 ≤ a7 ∧ a7 ≤ 999))))
theorem if_and (b c : Bool) : (if b = true then some c else some false) = some (b && c) := by cases b <;> rfl
def keepDays (a : Int) : Int := if a = 7 then 1 else if a = 4 ∨ a = 5 then 180 else if 1 ≤ a ∧ a ≤ 8 then 90 else 0
theorem keepDays_le (a : Int) : 0 ≤ keepDays a ∧ keepDays a ≤ 180 := by unfold keepDays; split <;> (try split) <;> (try split) <;> omega
def dueHour (a0 a1 a2 a3 a4 a5 a6 a7 : Int) : Int := if isFind a0 a1 a2 a3 a4 a5 a6 a7 = true then a6 + 24 * keepDays a1 else -1
theorem isFind_at {a0 a1 a2 a3 a4 a5 a6 a7 : Int} (h : isFind a0 a1 a2 a3 a4 a5 a6 a7 = true) : 0 ≤ a6 ∧ a6 ≤ 100000 := by
  unfold isFind at h
  simp only [Bool.and_eq_true, decide_eq_true_eq] at h
  exact h.2.2.1
theorem dueHour_le {a0 a1 a2 a3 a4 a5 a6 a7 : Int} (h : isFind a0 a1 a2 a3 a4 a5 a6 a7 = true) : 0 ≤ dueHour a0 a1 a2 a3 a4 a5 a6 a7 ∧ dueHour a0 a1 a2 a3 a4 a5 a6 a7 ≤ 104320 := by
  unfold dueHour
  rw [if_pos h]
  have h1 := isFind_at h
  have h2 := keepDays_le a1
  omega
end Go.Proofs.Ytnlgilmbmoiniaa.PFnExactTasksFor
namespace Go.Proofs.Ytnlgilmbmoiniaa.PFnExactTasksFor
open Go.RowKit Go.Proofs.YtnlgilmbmoiniaaW.PrintWords Go.Proofs.YtnlgilmbmoiniaaW.PrintLast Go.Proofs.Ytnlgilmbmoiniaa.EvLib
theorem implIsThing_eq (a0 a1 a2 a3 a4 : Int) : impl_IsThing.f a0 a1 a2 a3 a4 = some (isThing a0 a1 a2 a3 a4) := by simp only [impl_IsThing.f, inRange_eq, Option.bind_some, if_and, isThing]
theorem implIsFind_eq (a0 a1 a2 a3 a4 a5 a6 a7 : Int) : impl_IsFind.f a0 a1 a2 a3 a4 a5 a6 a7 = some (isFind a0 a1 a2 a3 a4 a5 a6 a7) := by simp only [impl_IsFind.f, implIsThing_eq, inRange_eq, Option.bind_some, if_and, isFind]
theorem implKeepDays_ev (a : Int) : Ev (fun k => impl_KeepDays.f k a) (keepDays a) := by
  unfold impl_KeepDays.f
  refine ev_ite (fun h => ev_some (by unfold keepDays; rw [if_pos h])) (fun h => ev_ite (fun h2 => ev_step (fun k => by simp only [impl_KeepDays.j0]; rfl) (ev_itep (by simpa using h2) (ev_some (by unfold keepDays; rw [if_neg h, if_pos (Or.inl h2)])))) (fun h2 => ev_step (fun k => by simp only [impl_KeepDays.j0]; rfl) (ev_ite (fun h3 => ev_some ?_) (fun h3 => ?_))))
  · have h4 : a = 5 := by simpa using h3
    unfold keepDays; rw [if_neg h, if_pos (Or.inr h4)]
  · have h4 : a ≠ 5 := by simpa using h3
    have e : keepDays a = if 1 ≤ a ∧ a ≤ 8 then 90 else 0 := by unfold keepDays; rw [if_neg h, if_neg (by omega)]
    rw [e]
    refine ev_ite (fun c => ev_some ?_) (fun _ => ev_ite (fun c => ev_some ?_) (fun _ => ev_ite (fun c => ev_some ?_) (fun _ => ev_ite (fun c => ev_some ?_) (fun _ => ev_ite (fun c => ev_some ?_) (fun _ => ev_some ?_)))))
    all_goals first | rw [if_pos (by omega)] | rw [if_neg (by omega)]
theorem implDueHour_ev (a0 a1 a2 a3 a4 a5 a6 a7 : Int) : Ev (fun k => impl_DueHour.f k a0 a1 a2 a3 a4 a5 a6 a7) (dueHour a0 a1 a2 a3 a4 a5 a6 a7) := by
  unfold impl_DueHour.f
  refine ev_bindc (implIsFind_eq _ _ _ _ _ _ _ _) (ev_ite (fun h => ev_bind (implKeepDays_ev _) (ev_some ?_)) (fun h => ev_some ?_))
  · have h1 := isFind_at h
    have h2 := keepDays_le a1
    rw [wrap_id (x := 24 * keepDays a1) (by omega) (by omega), wrap_id (by omega) (by omega)]
    unfold dueHour; rw [if_pos h]
  · unfold dueHour; rw [if_neg h]
end Go.Proofs.Ytnlgilmbmoiniaa.PFnExactTasksFor
namespace Go.Proofs.Ytnlgilmbmoiniaa.PFnExactTasksFor
open Go.RowKit Go.Proofs.YtnlgilmbmoiniaaW.PrintWords Go.Proofs.YtnlgilmbmoiniaaW.PrintLast Go.Proofs.Ytnlgilmbmoiniaa.EvLib
theorem specIsThing_eq (a0 a1 a2 a3 a4 : Int) : spec_IsThing.f a0 a1 a2 a3 a4 = some (isThing a0 a1 a2 a3 a4) := by simp only [spec_IsThing.f, l1In_eq, Option.bind_some, if_and, isThing]
theorem specIsFind_eq (a0 a1 a2 a3 a4 a5 a6 a7 : Int) : spec_IsFind.f a0 a1 a2 a3 a4 a5 a6 a7 = some (isFind a0 a1 a2 a3 a4 a5 a6 a7) := by simp only [spec_IsFind.f, specIsThing_eq, l1In_eq, Option.bind_some, if_and, isFind]
theorem specKeepDays_eq (a : Int) : spec_KeepDays.f a = some (keepDays a) := by
  unfold spec_KeepDays.f keepDays
  rw [l1In_eq, Option.bind_some]
  by_cases h : 1 ≤ a ∧ a ≤ 8
  · rw [if_pos (by simpa using h), if_pos h]
    by_cases h7 : a = 7
    · rw [if_pos h7, if_pos h7]
    · rw [if_neg h7, if_neg h7]
      by_cases h4 : a = 4
      · rw [if_pos h4, if_pos (Or.inl h4)]
      · rw [if_neg h4]
        by_cases h5 : a = 5
        · rw [if_pos h5, if_pos (Or.inr h5)]
        · rw [if_neg h5, if_neg (by omega)]
  · rw [if_neg (by simpa using h), if_neg h, if_neg (by omega), if_neg (by omega)]
theorem specDueHour_eq (a0 a1 a2 a3 a4 a5 a6 a7 : Int) : spec_DueHour.f a0 a1 a2 a3 a4 a5 a6 a7 = some (dueHour a0 a1 a2 a3 a4 a5 a6 a7) := by
  unfold spec_DueHour.f
  rw [specIsFind_eq, Option.bind_some]
  unfold dueHour
  split
  · rename_i h
    have h1 := isFind_at h
    have h2 := keepDays_le a1
    rw [specKeepDays_eq, Option.bind_some, wrap_id (x := 24 * keepDays a1) (by omega) (by omega), wrap_id (by omega) (by omega)]
  · rfl
end Go.Proofs.Ytnlgilmbmoiniaa.PFnExactTasksFor
namespace Go.Proofs.Ytnlgilmbmoiniaa.PFnExactTasksFor
open Go.RowKit Go.Proofs.YtnlgilmbmoiniaaW.PrintWords Go.Proofs.YtnlgilmbmoiniaaW.PrintLast Go.Proofs.Ytnlgilmbmoiniaa.EvLib

def isCal (l : List Bool) : Bool := l.contains true && l.length == 7
theorem drop_has (l : List Bool) (i : Nat) (h : i < l.length) : (l.drop i).contains true = (l[i] || (l.drop (i + 1)).contains true) := by
  rw [List.drop_eq_getElem_cons h, List.contains_cons]
  cases l[i] <;> rfl
theorem rd_at (l : List Bool) (i : Nat) (h : i < l.length) : rdOf false l (i : Int) = l[i] := by simp [rdOf, List.getD, h]
end Go.Proofs.Ytnlgilmbmoiniaa.PFnExactTasksFor
namespace Go.Proofs.Ytnlgilmbmoiniaa.PFnExactTasksFor
open Go.RowKit Go.Proofs.YtnlgilmbmoiniaaW.PrintWords Go.Proofs.YtnlgilmbmoiniaaW.PrintLast Go.Proofs.Ytnlgilmbmoiniaa.EvLib
theorem index_l0 (l : List Bool) (hl : l.length ≤ 1048576) (d : Nat) : ∀ (i : Nat), i ≤ l.length → l.length - i = d → ∃ r : Int, Ev (fun k => slices_Index_bool_bool.l0 k l true (l.length : Int) (i : Int)) r ∧ (decide (r ≥ 0)) = (l.drop i).contains true := by
  induction d with
  | zero =>
    intro i hi hd
    obtain rfl : i = l.length := by omega
    exact ⟨-1, ev_step (fun k => by simp only [slices_Index_bool_bool.l0]; rfl) (ev_iten (by omega) (ev_some rfl)), by simp⟩
  | succ d ih =>
    intro i hi hd
    have hdrop := drop_has l i (by omega)
    have hr := rd_at l i (by omega)
    by_cases h : l[i] = true
    · refine ⟨i, ev_step (fun k => by simp only [slices_Index_bool_bool.l0]; rfl) (ev_itep (by omega) (ev_itep (by omega) (ev_itep (by omega) (ev_itep (by rw [hr, h]; rfl) (ev_some rfl))))), ?_⟩
      rw [hdrop, h, Bool.true_or]; exact decide_eq_true (by omega)
    · obtain ⟨r, h1, h2⟩ := ih (i + 1) (by omega) (by omega)
      refine ⟨r, ev_step (fun k => by simp only [slices_Index_bool_bool.l0]; rfl) (ev_itep (by omega) (ev_itep (by omega) (ev_itep (by omega) (ev_iten (by rw [hr]; simpa using h) ?_)))), ?_⟩
      · rw [wrap_id (by omega) (by omega)]; exact h1
      · rw [hdrop, h2, Bool.eq_false_iff.mpr h, Bool.false_or]
theorem implIsCalendar_ev (l : List Bool) (hl : l.length ≤ 1048576) : Ev (fun k => impl_IsCalendar.f k l) (isCal l) := by
  unfold impl_IsCalendar.f slices_Contains_bool_bool.f slices_Index_bool_bool.f
  obtain ⟨r, h1, h2⟩ := index_l0 l hl l.length 0 (by omega) (by omega)
  refine ev_ite (fun h => ev_bind (ev_bind h1 (ev_some rfl)) (ev_some ?_)) (fun h => ev_some ?_)
  · rw [h2]; unfold isCal; simp; intro _; omega
  · unfold isCal; simp; intro _; omega
end Go.Proofs.Ytnlgilmbmoiniaa.PFnExactTasksFor
namespace Go.Proofs.Ytnlgilmbmoiniaa.PFnExactTasksFor
open Go.RowKit Go.Proofs.YtnlgilmbmoiniaaW.PrintWords Go.Proofs.YtnlgilmbmoiniaaW.PrintLast Go.Proofs.Ytnlgilmbmoiniaa.EvLib

theorem isCal_len {l : List Bool} (h : isCal l = true) : l.length = 7 := by unfold isCal at h; simp at h; exact h.2
theorem tm7 (a : Nat) : Int.tmod (a : Int) 7 = ((a % 7 : Nat) : Int) := by rw [Int.tmod_eq_emod_of_nonneg (by omega)]; omega
/-- Is a day open. -/
def opn (l : List Bool) (d : Nat) : Bool := l.getD (d % 7) false
theorem rd_opn (l : List Bool) (d : Nat) : rdOf false l (Int.tmod (d : Int) 7) = opn l d := by rw [tm7]; rfl
theorem some_open {l : List Bool} (h : isCal l = true) (i : Nat) : ∃ j, i ≤ j ∧ j ≤ i + 6 ∧ opn l j = true := by
  have hl := isCal_len h
  have hm : true ∈ l := by unfold isCal at h; simp at h; exact h.1
  obtain ⟨m, hm, hv⟩ := List.mem_iff_getElem.1 hm
  refine ⟨i + (m + 7 - i % 7) % 7, by omega, by omega, ?_⟩
  have e : (i + (m + 7 - i % 7) % 7) % 7 = m := by omega
  unfold opn
  rw [e]
  simp [List.getD, hm, hv]
end Go.Proofs.Ytnlgilmbmoiniaa.PFnExactTasksFor
namespace Go.Proofs.Ytnlgilmbmoiniaa.PFnExactTasksFor
open Go.RowKit Go.Proofs.YtnlgilmbmoiniaaW.PrintWords Go.Proofs.YtnlgilmbmoiniaaW.PrintLast Go.Proofs.Ytnlgilmbmoiniaa.EvLib

/-- A loop that goes on to the next open day. -/
theorem next_ev (L : Nat → List Bool → Int → Option Int) (hL : ∀ k x0 x1, L (k + 1) x0 x1 = if 0 ≤ (Int.tmod x1 7) then (if (Int.tmod x1 7) < (x0.length : Int) then (if (rdOf false x0 (Int.tmod x1 7) = true) then (some x1) else (L k x0 (wrap64 (x1 + 1)))) else (none)) else (none))
    {l : List Bool} (h : l.length = 7) (i j : Nat) (hj : j ≤ 1000000000) (hij : i ≤ j) (ho : opn l j = true) : ∃ r : Nat, i ≤ r ∧ r ≤ j ∧ opn l r = true ∧ (∀ q, i ≤ q → q < r → opn l q = false) ∧ Ev (fun k => L k l (i : Int)) (r : Int) := by
  have key : ∀ d i, i + d = j → ∃ r : Nat, i ≤ r ∧ r ≤ j ∧ opn l r = true ∧ (∀ q, i ≤ q → q < r → opn l q = false) ∧ Ev (fun k => L k l (i : Int)) (r : Int) := by
    intro d
    induction d with
    | zero =>
      intro i hi
      obtain rfl : i = j := by omega
      refine ⟨i, by omega, by omega, ho, fun q h1 h2 => by omega, ev_step (fun k => hL k _ _) (ev_itep ?_ (ev_itep ?_ (ev_itep (by rw [rd_opn]; exact ho) (ev_some rfl))))⟩
      · rw [tm7]; omega
      · rw [tm7]; omega
    | succ d ih =>
      intro i hi
      by_cases hc : opn l i = true
      · refine ⟨i, by omega, by omega, hc, fun q h1 h2 => by omega, ev_step (fun k => hL k _ _) (ev_itep ?_ (ev_itep ?_ (ev_itep (by rw [rd_opn]; exact hc) (ev_some rfl))))⟩
        · rw [tm7]; omega
        · rw [tm7]; omega
      · obtain ⟨r, h1, h2, h3, h4, h5⟩ := ih (i + 1) (by omega)
        refine ⟨r, by omega, h2, h3, fun q hq1 hq2 => ?_, ev_step (fun k => hL k _ _) (ev_itep ?_ (ev_itep ?_ (ev_iten (by rw [rd_opn]; exact hc) ?_)))⟩
        · by_cases e : q = i
          · subst e; exact Bool.eq_false_iff.mpr hc
          · exact h4 q (by omega) hq2
        · rw [tm7]; omega
        · rw [tm7]; omega
        · rw [wrap_id (by omega) (by omega)]; exact h5
  exact key (j - i) i (by omega)
theorem next_one {l : List Bool} {i r s : Nat} (h1 : i ≤ r) (h2 : opn l r = true) (h3 : ∀ q, i ≤ q → q < r → opn l q = false) (g1 : i ≤ s) (g2 : opn l s = true) (g3 : ∀ q, i ≤ q → q < s → opn l q = false) : r = s := by
  rcases Nat.lt_trichotomy r s with h | h | h
  · have := g3 r h1 h; rw [h2] at this; cases this
  · exact h
  · have := h3 s g1 h; rw [g2] at this; cases this
/-- What NextOpen says. -/
def NextIs (l : List Bool) (a r : Int) : Prop :=
  if isCal l = true ∧ 0 ≤ a ∧ a ≤ 100000 then ∃ i j : Nat, a = i ∧ r = j ∧ i ≤ j ∧ j ≤ i + 6 ∧ opn l j = true ∧ ∀ q, i ≤ q → q < j → opn l q = false else r = -1
theorem NextIs.one {l : List Bool} {a r s : Int} (h : NextIs l a r) (g : NextIs l a s) : r = s := by
  unfold NextIs at h g
  split at h
  · rename_i hc
    rw [if_pos hc] at g
    obtain ⟨i, j, rfl, rfl, h1, h2, h3, h4⟩ := h
    obtain ⟨i', j', e, rfl, g1, g2, g3, g4⟩ := g
    obtain rfl : i = i' := by omega
    rw [next_one h1 h3 h4 g1 g3 g4]
  · rename_i hc
    rw [if_neg hc] at g
    rw [h, g]
theorem implNextOpen_ev (l : List Bool) (hl : l.length ≤ 1048576) (a : Int) : ∃ r, NextIs l a r ∧ Ev (fun k => impl_NextOpen.f k l a) r := by
  unfold impl_NextOpen.f
  by_cases h : isCal l = true
  · by_cases h2 : 0 ≤ a ∧ a ≤ 100000
    · obtain ⟨i, rfl⟩ := Int.eq_ofNat_of_zero_le h2.1
      obtain ⟨j, hj1, hj2, hj3⟩ := some_open h i
      obtain ⟨r, h3, h4, h5, h6, h7⟩ := next_ev impl_NextOpen.l0 (fun k _ _ => by simp only [impl_NextOpen.l0]) (isCal_len h) i j (by omega) hj1 hj3
      refine ⟨r, ?_, ev_bind (implIsCalendar_ev l hl) (ev_itep h (ev_bindc (inRange_eq _ _ _) (ev_step (fun k => by simp only [impl_NextOpen.j0]; rfl) (ev_iten (by simp; omega) h7))))⟩
      unfold NextIs
      rw [if_pos ⟨h, h2⟩]
      exact ⟨i, r, rfl, rfl, h3, by omega, h5, h6⟩
    · refine ⟨-1, by unfold NextIs; rw [if_neg (fun c => h2 c.2)], ev_bind (implIsCalendar_ev l hl) (ev_itep h (ev_bindc (inRange_eq _ _ _) (ev_step (fun k => by simp only [impl_NextOpen.j0]; rfl) (ev_itep (by rw [decide_eq_false h2]; rfl) (ev_some rfl)))))⟩
  · exact ⟨-1, by unfold NextIs; rw [if_neg (fun c => h c.1)], ev_bind (implIsCalendar_ev l hl) (ev_iten h (ev_step (fun k => by simp only [impl_NextOpen.j0]; rfl) (ev_itep (by first | rfl | trivial) (ev_some rfl))))⟩
end Go.Proofs.Ytnlgilmbmoiniaa.PFnExactTasksFor
namespace Go.Proofs.Ytnlgilmbmoiniaa.PFnExactTasksFor
open Go.RowKit Go.Proofs.YtnlgilmbmoiniaaW.PrintWords Go.Proofs.YtnlgilmbmoiniaaW.PrintLast Go.Proofs.Ytnlgilmbmoiniaa.EvLib

theorem toBoolS_ev (l : List Bool) (hl : l.length ≤ 1048576) : Ev (fun k => laws_toBoolS.f k l) l := by
  unfold laws_toBoolS.f
  refine ev_itep (by omega) (ev_itep (by omega) ?_)
  exact ev_eq (ev_copy laws_toBoolS.l0 id false false (fun _ _ _ _ => rfl) l hl) (List.map_id l)
theorem eqBoolS_ev (l : List Bool) (hl : l.length ≤ 1048576) : Ev (fun k => laws_eqBoolS.f k l l) true := by
  unfold laws_eqBoolS.f
  refine ev_itep rfl (ev_eqloop laws_eqBoolS.l0 (fun k l i hi => ?_) (fun k l => ?_) l (by omega))
  · simp only [laws_eqBoolS.l0]
    rw [if_pos (by omega), if_pos (by omega), if_pos (by omega), if_neg (by simp)]
  · simp only [laws_eqBoolS.l0]
    rw [if_neg (by omega)]
end Go.Proofs.Ytnlgilmbmoiniaa.PFnExactTasksFor
namespace Go.Proofs.Ytnlgilmbmoiniaa.PFnExactTasksFor
open Go.RowKit Go.Proofs.YtnlgilmbmoiniaaW.PrintWords Go.Proofs.YtnlgilmbmoiniaaW.PrintLast Go.Proofs.Ytnlgilmbmoiniaa.EvLib

theorem specIsCalendar_l0 (l : List Bool) (hl : l.length ≤ 1048576) (d : Nat) : ∀ (i : Nat) (b : Bool), i ≤ l.length → l.length - i = d → Ev (fun k => spec_IsCalendar.l0 k l b (i : Int)) ((b || (l.drop i).contains true) && l.length == 7) := by
  induction d with
  | zero =>
    intro i b hi hd
    obtain rfl : i = l.length := by omega
    refine ev_step (fun k => by simp only [spec_IsCalendar.l0]; rfl) (ev_iten (by omega) (ev_ite (fun h => ev_some ?_) (fun h => ev_some ?_)))
    · subst h
      simp
      rw [Bool.eq_iff_iff]; simp; omega
    · simp at h
      subst h
      simp
  | succ d ih =>
    intro i b hi hd
    have hdrop := drop_has l i (by omega)
    have hr := rd_at l i (by omega)
    refine ev_step (fun k => by simp only [spec_IsCalendar.l0]; rfl) (ev_itep (by omega) (ev_ite (fun h => ?_) (fun h => ev_itep (by omega) ?_)))
    · subst h
      rw [wrap_id (by omega) (by omega)]
      exact ev_eq (ih (i + 1) true (by omega) (by omega)) (by simp)
    · simp at h
      subst h
      rw [wrap_id (by omega) (by omega), hr]
      exact ev_eq (ih (i + 1) l[i] (by omega) (by omega)) (by rw [hdrop, Bool.false_or])
theorem specIsCalendar_ev (l : List Bool) (hl : l.length ≤ 1048576) : Ev (fun k => spec_IsCalendar.f k l) (isCal l) := by
  unfold spec_IsCalendar.f
  exact ev_eq (specIsCalendar_l0 l hl l.length 0 false (by omega) (by omega)) (by simp [isCal])
end Go.Proofs.Ytnlgilmbmoiniaa.PFnExactTasksFor
namespace Go.Proofs.Ytnlgilmbmoiniaa.PFnExactTasksFor
open Go.RowKit Go.Proofs.YtnlgilmbmoiniaaW.PrintWords Go.Proofs.YtnlgilmbmoiniaaW.PrintLast Go.Proofs.Ytnlgilmbmoiniaa.EvLib
theorem specNextOpen_ev (l : List Bool) (hl : l.length ≤ 1048576) (a : Int) : ∃ r, NextIs l a r ∧ Ev (fun k => spec_NextOpen.f k l a) r := by
  unfold spec_NextOpen.f
  by_cases h : isCal l = true
  · by_cases h2 : 0 ≤ a ∧ a ≤ 100000
    · obtain ⟨i, rfl⟩ := Int.eq_ofNat_of_zero_le h2.1
      obtain ⟨j, hj1, hj2, hj3⟩ := some_open h i
      obtain ⟨r, h3, h4, h5, h6, h7⟩ := next_ev spec_NextOpen.l0 (fun k _ _ => by simp only [spec_NextOpen.l0]) (isCal_len h) i j (by omega) hj1 hj3
      refine ⟨r, ?_, ev_bind (specIsCalendar_ev l hl) (ev_itep h (ev_bindc (l1In_eq _ _ _) (ev_step (fun k => by simp only [spec_NextOpen.j0]; rfl) (ev_iten (by simp; omega) h7))))⟩
      unfold NextIs
      rw [if_pos ⟨h, h2⟩]
      exact ⟨i, r, rfl, rfl, h3, by omega, h5, h6⟩
    · refine ⟨-1, by unfold NextIs; rw [if_neg (fun c => h2 c.2)], ev_bind (specIsCalendar_ev l hl) (ev_itep h (ev_bindc (l1In_eq _ _ _) (ev_step (fun k => by simp only [spec_NextOpen.j0]; rfl) (ev_itep (by rw [decide_eq_false h2]; rfl) (ev_some rfl)))))⟩
  · exact ⟨-1, by unfold NextIs; rw [if_neg (fun c => h c.1)], ev_bind (specIsCalendar_ev l hl) (ev_iten h (ev_step (fun k => by simp only [spec_NextOpen.j0]; rfl) (ev_itep (by first | rfl | trivial) (ev_some rfl))))⟩
theorem nextOpen_ev (l : List Bool) (hl : l.length ≤ 1048576) (a : Int) : ∃ r, NextIs l a r ∧ Ev (fun k => spec_NextOpen.f k l a) r ∧ Ev (fun k => impl_NextOpen.f k l a) r := by
  obtain ⟨r, h1, h2⟩ := specNextOpen_ev l hl a
  obtain ⟨s, g1, g2⟩ := implNextOpen_ev l hl a
  obtain rfl := h1.one g1
  exact ⟨r, h1, h2, g2⟩
end Go.Proofs.Ytnlgilmbmoiniaa.PFnExactTasksFor
namespace Go.Proofs.Ytnlgilmbmoiniaa.PFnExactTasksFor
open Go.RowKit Go.Proofs.YtnlgilmbmoiniaaW.PrintWords Go.Proofs.YtnlgilmbmoiniaaW.PrintLast Go.Proofs.Ytnlgilmbmoiniaa.EvLib
def LastIs (l : List Bool) (a0 a1 a2 a3 a4 a5 a6 a7 r : Int) : Prop := if isFind a0 a1 a2 a3 a4 a5 a6 a7 = true then NextIs l (dueHour a0 a1 a2 a3 a4 a5 a6 a7 / 24) r else r = -1
theorem due24 {a0 a1 a2 a3 a4 a5 a6 a7 : Int} (h : isFind a0 a1 a2 a3 a4 a5 a6 a7 = true) : wrap64 (Int.tdiv (dueHour a0 a1 a2 a3 a4 a5 a6 a7) 24) = dueHour a0 a1 a2 a3 a4 a5 a6 a7 / 24 := by
  have := dueHour_le h
  rw [Int.tdiv_eq_ediv_of_nonneg this.1, wrap_id (by omega) (by omega)]
theorem implLastDay_ev (l : List Bool) (hl : l.length ≤ 1048576) (a0 a1 a2 a3 a4 a5 a6 a7 : Int) : ∃ r, LastIs l a0 a1 a2 a3 a4 a5 a6 a7 r ∧ Ev (fun k => impl_LastDay.f k l a0 a1 a2 a3 a4 a5 a6 a7) r := by
  unfold impl_LastDay.f LastIs
  by_cases h : isFind a0 a1 a2 a3 a4 a5 a6 a7 = true
  · obtain ⟨r, h1, h2⟩ := implNextOpen_ev l hl (dueHour a0 a1 a2 a3 a4 a5 a6 a7 / 24)
    refine ⟨r, by rw [if_pos h]; exact h1, ev_bindc (implIsFind_eq _ _ _ _ _ _ _ _) (ev_itep h (ev_bind (implDueHour_ev _ _ _ _ _ _ _ _) (ev_bind ?_ (ev_some rfl))))⟩
    rw [due24 h]
    exact h2
  · exact ⟨-1, by rw [if_neg h], ev_bindc (implIsFind_eq _ _ _ _ _ _ _ _) (ev_iten h (ev_some rfl))⟩
end Go.Proofs.Ytnlgilmbmoiniaa.PFnExactTasksFor
namespace Go.Proofs.Ytnlgilmbmoiniaa.PFnExactTasksFor
open Go.RowKit Go.Proofs.YtnlgilmbmoiniaaW.PrintWords Go.Proofs.YtnlgilmbmoiniaaW.PrintLast Go.Proofs.Ytnlgilmbmoiniaa.EvLib
theorem specLastDay_ev (l : List Bool) (hl : l.length ≤ 1048576) (a0 a1 a2 a3 a4 a5 a6 a7 r : Int) (hr : LastIs l a0 a1 a2 a3 a4 a5 a6 a7 r) : Ev (fun k => spec_LastDay.f k l a0 a1 a2 a3 a4 a5 a6 a7) r := by
  unfold spec_LastDay.f
  unfold LastIs at hr
  by_cases h : isFind a0 a1 a2 a3 a4 a5 a6 a7 = true
  · rw [if_pos h] at hr
    obtain ⟨s, h1, h2⟩ := specNextOpen_ev l hl (dueHour a0 a1 a2 a3 a4 a5 a6 a7 / 24)
    obtain rfl := hr.one h1
    refine ev_bindc (specIsFind_eq _ _ _ _ _ _ _ _) (ev_itep h (ev_bindc (specDueHour_eq _ _ _ _ _ _ _ _) (ev_bind ?_ (ev_some rfl))))
    rw [due24 h]
    exact h2
  · rw [if_neg h] at hr
    subst hr
    exact ev_bindc (specIsFind_eq _ _ _ _ _ _ _ _) (ev_iten h (ev_some rfl))
end Go.Proofs.Ytnlgilmbmoiniaa.PFnExactTasksFor
namespace Go.Proofs.Ytnlgilmbmoiniaa.PFnExactTasksFor
open Go.RowKit Go.Proofs.YtnlgilmbmoiniaaW.PrintWords Go.Proofs.YtnlgilmbmoiniaaW.PrintLast Go.Proofs.Ytnlgilmbmoiniaa.EvLib
def cl (l : List IClaim) (i : Nat) : IClaim := rd_T69 l (i : Int)
theorem firstProved_l0 (l : List IClaim) (hl : l.length ≤ 1048576) (id : Int) : ∀ (d i : Nat), i + d = l.length → ∀ (fl : Bool) (b : IClaim) (j : Int), (fl = false ∧ b.f0 = 0 ∧ j = -1 ∨ fl = true ∧ ∃ n : Nat, n < l.length ∧ j = (n : Int) ∧ b = cl l n) →
    ∃ r, Ev (fun k => impl_FirstProved.l0 k id fl l (l.length : Int) (i : Int) b.f0 b.f1 b.f2 b.f3 b.f4) r ∧ Ev (fun k => spec_FirstProved.l0 k l id j (i : Int)) r := by
  intro d
  induction d with
  | zero =>
    intro i hi fl b j hs
    rcases hs with ⟨h1, h2, h3⟩ | ⟨h1, n, hn, h3, h4⟩
    · exact ⟨b.f0, ev_step (fun k => by simp only [impl_FirstProved.l0]; rfl) (ev_iten (by omega) (ev_some rfl)), ev_step (fun k => by simp only [spec_FirstProved.l0]; rfl) (ev_iten (by omega) (ev_itep (by omega) (ev_some h2.symm)))⟩
    · subst h3
      exact ⟨b.f0, ev_step (fun k => by simp only [impl_FirstProved.l0]; rfl) (ev_iten (by omega) (ev_some rfl)), ev_step (fun k => by simp only [spec_FirstProved.l0]; rfl) (ev_iten (by omega) (ev_iten (by omega) (ev_itep (by omega) (ev_itep (by omega) (ev_some (by rw [h4]; rfl))))))⟩
  | succ d ih =>
    intro i hi fl b j hs
    have hw : wrap64 ((i : Int) + 1) = ((i + 1 : Nat) : Int) := by rw [wrap_id (by omega) (by omega)]; omega
    have key : ∀ (fl' : Bool) (b' : IClaim) (j' : Int), (fl' = false ∧ b'.f0 = 0 ∧ j' = -1 ∨ fl' = true ∧ ∃ n : Nat, n < l.length ∧ j' = (n : Int) ∧ b' = cl l n) →
        ∃ r, Ev (fun k => impl_FirstProved.l0 k id fl' l (l.length : Int) (wrap64 ((i : Int) + 1)) b'.f0 b'.f1 b'.f2 b'.f3 b'.f4) r ∧ Ev (fun k => spec_FirstProved.l0 k l id j' (wrap64 ((i : Int) + 1))) r := by
      intro fl' b' j' h
      rw [hw]
      exact ih (i + 1) (by omega) fl' b' j' h
    have take : ∃ r, Ev (fun k => impl_FirstProved.l0 k id true l (l.length : Int) (wrap64 ((i : Int) + 1)) (cl l i).f0 (cl l i).f1 (cl l i).f2 (cl l i).f3 (cl l i).f4) r ∧ Ev (fun k => spec_FirstProved.l0 k l id (i : Int) (wrap64 ((i : Int) + 1))) r :=
      key true (cl l i) (i : Int) (Or.inr ⟨rfl, i, by omega, rfl, rfl⟩)
    obtain ⟨rk, k1, k2⟩ := key fl b j hs
    obtain ⟨rt, t1, t2⟩ := take
    by_cases c1 : (cl l i).f2 = id
    · by_cases c2 : (cl l i).f4 = 1
      · rcases hs with ⟨h1, h2, h3⟩ | ⟨h1, n, hn, h3, h4⟩
        · subst h1
          exact ⟨rt, ev_step (fun k => by simp only [impl_FirstProved.l0]; rfl) (ev_itep (by omega) (ev_itep (by omega) (ev_itep (by omega) (ev_itep c1 (ev_itep c2 (ev_iten (by simp) t1)))))),
            ev_step (fun k => by simp only [spec_FirstProved.l0]; rfl) (ev_itep (by omega) (ev_itep (by omega) (ev_itep c1 (ev_itep c2 (ev_itep (by omega) t2)))))⟩
        · subst h1
          subst h3
          subst h4
          by_cases c3 : (cl l i).f3 < (cl l n).f3
          · exact ⟨rt, ev_step (fun k => by simp only [impl_FirstProved.l0]; rfl) (ev_itep (by omega) (ev_itep (by omega) (ev_itep (by omega) (ev_itep c1 (ev_itep c2 (ev_itep (show true = true from rfl) (ev_itep c3 t1))))))),
              ev_step (fun k => by simp only [spec_FirstProved.l0]; rfl) (ev_itep (by omega) (ev_itep (by omega) (ev_itep c1 (ev_itep c2 (ev_iten (by omega) (ev_itep (by omega) (ev_itep (by omega) (ev_itep c3 t2))))))))⟩
          · exact ⟨rk, ev_step (fun k => by simp only [impl_FirstProved.l0]; rfl) (ev_itep (by omega) (ev_itep (by omega) (ev_itep (by omega) (ev_itep c1 (ev_itep c2 (ev_itep (show true = true from rfl) (ev_iten c3 k1))))))),
              ev_step (fun k => by simp only [spec_FirstProved.l0]; rfl) (ev_itep (by omega) (ev_itep (by omega) (ev_itep c1 (ev_itep c2 (ev_iten (by omega) (ev_itep (by omega) (ev_itep (by omega) (ev_iten c3 k2))))))))⟩
      · exact ⟨rk, ev_step (fun k => by simp only [impl_FirstProved.l0]; rfl) (ev_itep (by omega) (ev_itep (by omega) (ev_itep (by omega) (ev_itep c1 (ev_iten c2 k1))))),
          ev_step (fun k => by simp only [spec_FirstProved.l0]; rfl) (ev_itep (by omega) (ev_itep (by omega) (ev_itep c1 (ev_iten c2 k2))))⟩
    · exact ⟨rk, ev_step (fun k => by simp only [impl_FirstProved.l0]; rfl) (ev_itep (by omega) (ev_itep (by omega) (ev_itep (by omega) (ev_iten c1 k1)))),
        ev_step (fun k => by simp only [spec_FirstProved.l0]; rfl) (ev_itep (by omega) (ev_itep (by omega) (ev_iten c1 k2)))⟩
theorem firstProved_ok (l : List IClaim) (hl : l.length ≤ 1048576) (id : Int) : ∃ r, Ev (fun k => impl_FirstProved.f k l id) r ∧ Ev (fun k => spec_FirstProved.f k l id) r := by
  unfold impl_FirstProved.f spec_FirstProved.f
  exact firstProved_l0 l hl id l.length 0 (by omega) false z69 (-1) (Or.inl ⟨rfl, rfl, rfl⟩)
end Go.Proofs.Ytnlgilmbmoiniaa.PFnExactTasksFor
namespace Go.Proofs.Ytnlgilmbmoiniaa.PFnExactTasksFor
open Go.RowKit Go.Proofs.YtnlgilmbmoiniaaW.PrintWords Go.Proofs.YtnlgilmbmoiniaaW.PrintLast Go.Proofs.Ytnlgilmbmoiniaa.EvLib
def isDue (a0 a1 a2 a3 a4 a5 a6 a7 h : Int) : Bool := if isFind a0 a1 a2 a3 a4 a5 a6 a7 = true then decide (h ≥ dueHour a0 a1 a2 a3 a4 a5 a6 a7) else false
theorem implIsDue_ev (a0 a1 a2 a3 a4 a5 a6 a7 h : Int) : Ev (fun k => impl_IsDue.f k a0 a1 a2 a3 a4 a5 a6 a7 h) (isDue a0 a1 a2 a3 a4 a5 a6 a7 h) := by
  unfold impl_IsDue.f isDue
  refine ev_bindc (implIsFind_eq _ _ _ _ _ _ _ _) (ev_ite (fun c => ev_bind (implDueHour_ev _ _ _ _ _ _ _ _) (ev_some ?_)) (fun c => ev_some ?_))
  · rw [if_pos c]
  · rw [if_neg c]
theorem specIsDue_eq (a0 a1 a2 a3 a4 a5 a6 a7 h : Int) : spec_IsDue.f a0 a1 a2 a3 a4 a5 a6 a7 h = some (isDue a0 a1 a2 a3 a4 a5 a6 a7 h) := by
  unfold spec_IsDue.f isDue
  rw [specIsFind_eq, Option.bind_some]
  split
  · rw [specDueHour_eq, Option.bind_some]
  · rfl
def fateEnd (a0 a1 a2 a3 a4 a5 a6 a7 h : Int) : Int := if isDue a0 a1 a2 a3 a4 a5 a6 a7 h = true then impl_FateOf.tail a1 a4 a7 else 0
theorem specFate_j1 (q : Bool) (a0 a1 a2 a3 a4 a5 a6 a7 : Int) (hq : q = true ↔ a1 = 7 ∨ a4 = 0) : Ev (fun k => spec_FateOf.j1 k q a0 a1 a2 a3 a4 a5 a6 a7) (impl_FateOf.tail a1 a4 a7) := by
  refine ev_step (fun k => by simp only [spec_FateOf.j1]; rfl) ?_
  unfold impl_FateOf.tail
  refine ev_ite (fun c => ev_some ?_) (fun c => ?_)
  · rcases hq.1 c with e | e
    · rw [if_pos e]
    · by_cases g : a1 = 7
      · rw [if_pos g]
      · rw [if_neg g, if_pos e]
  · have h1 : ¬ a1 = 7 := fun e => c (hq.2 (Or.inl e))
    have h2 : ¬ a4 = 0 := fun e => c (hq.2 (Or.inr e))
    rw [if_neg h1, if_neg h2]
    refine ev_ite (fun c2 => ev_some ?_) (fun c2 => ev_ite (fun c3 => ev_some ?_) (fun c3 => ev_some ?_))
    · by_cases g : a7 = 0
      · rw [if_pos g, if_pos (by omega)]
      · rw [if_neg g, if_neg (by omega)]
    · rw [if_pos c3, if_neg (by omega)]
    · rw [if_neg c3, if_pos (by omega)]
theorem specFate_l0 (l : List IClaim) (hl : l.length ≤ 1048576) (a0 a1 a2 a3 a4 a5 a6 a7 h : Int) : ∀ (d i : Nat), i + d = l.length → Ev (fun k => spec_FateOf.l0 k l h (i : Int) a0 a1 a2 a3 a4 a5 a6 a7) (if 0 ≤ idxB (impl_FateOf.p a0) (l.drop i) i then 0 else fateEnd a0 a1 a2 a3 a4 a5 a6 a7 h) := by
  intro d
  induction d with
  | zero =>
    intro i hi
    rw [idxB_end _ _ _ (by omega), if_neg (by omega)]
    refine ev_step (fun k => by simp only [spec_FateOf.l0]; rfl) (ev_iten (by omega) (ev_bindc (specIsDue_eq _ _ _ _ _ _ _ _ _) ?_))
    unfold fateEnd
    refine ev_ite (fun c => ?_) (fun c => ev_some ?_)
    · rw [if_pos c]
      refine ev_ite (fun c2 => specFate_j1 true _ _ _ _ _ _ _ _ ⟨fun _ => Or.inl c2, fun _ => rfl⟩) (fun c2 => specFate_j1 _ _ _ _ _ _ _ _ _ ⟨fun e => Or.inr (beq_iff_eq.1 e), fun e => ?_⟩)
      rcases e with e | e
      · exact absurd e c2
      · exact beq_iff_eq.2 e
    · rw [if_neg c]
  | succ d ih =>
    intro i hi
    have hw : wrap64 ((i : Int) + 1) = ((i + 1 : Nat) : Int) := by rw [wrap_id (by omega) (by omega)]; omega
    rw [idxB_at _ z69 l i (by omega)]
    have e : l.getD i z69 = cl l i := by unfold cl rd_T69; rw [Int.toNat_natCast]
    rw [e]
    refine ev_step (fun k => by simp only [spec_FateOf.l0]; rfl) (ev_itep (by omega) (ev_itep (by omega) ?_))
    rw [hw]
    show Ev (fun k => if (cl l i).f2 = a0 then (if (cl l i).f4 = 0 then some 0 else spec_FateOf.l0 k l h ((i + 1 : Nat) : Int) a0 a1 a2 a3 a4 a5 a6 a7) else spec_FateOf.l0 k l h ((i + 1 : Nat) : Int) a0 a1 a2 a3 a4 a5 a6 a7) _
    by_cases c : impl_FateOf.p a0 (cl l i) = true
    · rw [if_pos c, if_pos (by omega)]
      have c2 : (cl l i).f2 = a0 ∧ (cl l i).f4 = 0 := by simpa [impl_FateOf.p] using c
      exact ev_itep c2.1 (ev_itep c2.2 (ev_some rfl))
    · rw [if_neg c]
      have c2 : ¬ ((cl l i).f2 = a0 ∧ (cl l i).f4 = 0) := by simpa [impl_FateOf.p] using c
      exact ev_ite (fun g => ev_ite (fun g2 => absurd ⟨g, g2⟩ c2) (fun _ => ih (i + 1) (by omega))) (fun _ => ih (i + 1) (by omega))
theorem fateOf_ok (a0 a1 a2 a3 a4 a5 a6 a7 : Int) (l : List IClaim) (hl : l.length ≤ 1048576) (h : Int) : ∃ r, Ev (fun k => impl_FateOf.f k a0 a1 a2 a3 a4 a5 a6 a7 l h) r ∧ Ev (fun k => spec_FateOf.f k a0 a1 a2 a3 a4 a5 a6 a7 l h) r := by
  obtain ⟨fp, h1, h2⟩ := firstProved_ok l hl a0
  unfold impl_FateOf.f spec_FateOf.f
  by_cases c : fp = 0
  · refine ⟨if 0 ≤ idxB (impl_FateOf.p a0) l 0 then 0 else fateEnd a0 a1 a2 a3 a4 a5 a6 a7 h, ev_bind h1 (ev_itep c (ev_bind (implIsDue_ev _ _ _ _ _ _ _ _ _) ?_)), ev_bind h2 (ev_itep c ?_)⟩
    · unfold fateEnd
      refine ev_ite (fun g => ev_ite (fun g2 => ev_some ?_) (fun g2 => ev_some ?_)) (fun g => ev_some ?_)
      · rw [if_pos g2]
      · rw [if_neg g2, if_pos g]
      · rw [if_neg g]; split <;> rfl
    · have := specFate_l0 l hl a0 a1 a2 a3 a4 a5 a6 a7 h l.length 0 (by omega)
      rwa [List.drop_zero] at this
  · exact ⟨1, ev_bind h1 (ev_iten c (ev_some rfl)), ev_bind h2 (ev_iten c (ev_some rfl))⟩
end Go.Proofs.Ytnlgilmbmoiniaa.PFnExactTasksFor
namespace Go.Proofs.Ytnlgilmbmoiniaa.PFnExactTasksFor
open Go.RowKit Go.Proofs.YtnlgilmbmoiniaaW.PrintWords Go.Proofs.YtnlgilmbmoiniaaW.PrintLast Go.Proofs.Ytnlgilmbmoiniaa.EvLib
theorem lastDay_ok (l : List Bool) (hl : l.length ≤ 1048576) (a0 a1 a2 a3 a4 a5 a6 a7 : Int) : ∃ r, Ev (fun k => impl_LastDay.f k l a0 a1 a2 a3 a4 a5 a6 a7) r ∧ Ev (fun k => spec_LastDay.f k l a0 a1 a2 a3 a4 a5 a6 a7) r := by
  obtain ⟨r, h1, h2⟩ := implLastDay_ev l hl a0 a1 a2 a3 a4 a5 a6 a7
  exact ⟨r, h2, specLastDay_ev l hl a0 a1 a2 a3 a4 a5 a6 a7 r h1⟩
theorem task_j0 (c : List IClaim) (hc : c.length ≤ 1048576) (l : List Bool) (hl : l.length ≤ 1048576) (h : Int) (q : Bool) (a0 a1 a2 a3 a4 a5 a6 a7 : Int) :
    ∃ r, Ev (fun k => impl_TaskOf.j0 k c l h q a0 a1 a2 a3 a4 a5 a6 a7) r ∧ Ev (fun k => spec_TaskOf.j0 k c l h q a0 a1 a2 a3 a4 a5 a6 a7) r ∧ (q = false → r.1 = a0) ∧ (q = true → r = (0, 0, 0)) := by
  cases q with
  | true => exact ⟨(0, 0, 0), ev_step (fun k => by simp only [impl_TaskOf.j0]; rfl) (ev_itep (show true = true from rfl) (ev_some rfl)), ev_step (fun k => by simp only [spec_TaskOf.j0]; rfl) (ev_itep (show true = true from rfl) (ev_some rfl)), fun e => absurd e (by simp), fun _ => rfl⟩
  | false =>
    obtain ⟨f, f1, f2⟩ := fateOf_ok a0 a1 a2 a3 a4 a5 a6 a7 c hc h
    obtain ⟨n, _, n1, n2⟩ := nextOpen_ev l hl (wrap64 (Int.tdiv h 24))
    obtain ⟨d, d1, d2⟩ := lastDay_ok l hl a0 a1 a2 a3 a4 a5 a6 a7
    by_cases c1 : f = 1
    · skip
      refine ⟨(a0, f, n), ev_step (fun k => by simp only [impl_TaskOf.j0]; rfl) (ev_iten (by simp) ?_), ev_step (fun k => by simp only [spec_TaskOf.j0]; rfl) (ev_iten (by simp) ?_), fun _ => rfl, fun e => absurd e (by simp)⟩
      · exact ev_bind f1 (ev_itep c1 (ev_bind n2 (ev_some rfl)))
      · exact ev_bind f2 (ev_itep c1 (ev_bind n1 (ev_some rfl)))
    · by_cases c2 : f = 0
      · skip
        refine ⟨(a0, f, d), ev_step (fun k => by simp only [impl_TaskOf.j0]; rfl) (ev_iten (by simp) ?_), ev_step (fun k => by simp only [spec_TaskOf.j0]; rfl) (ev_iten (by simp) ?_), fun _ => rfl, fun e => absurd e (by simp)⟩
        · exact ev_bind f1 (ev_iten c1 (ev_itep c2 (ev_bind d1 (ev_some rfl))))
        · exact ev_bind f2 (ev_iten c1 (ev_itep c2 (ev_bind d2 (ev_some rfl))))
      · skip
        refine ⟨(a0, f, wrap64 (Int.tdiv h 24)), ev_step (fun k => by simp only [impl_TaskOf.j0]; rfl) (ev_iten (by simp) ?_), ev_step (fun k => by simp only [spec_TaskOf.j0]; rfl) (ev_iten (by simp) ?_), fun _ => rfl, fun e => absurd e (by simp)⟩
        · exact ev_bind f1 (ev_iten c1 (ev_iten c2 (ev_some rfl)))
        · exact ev_bind f2 (ev_iten c1 (ev_iten c2 (ev_some rfl)))
theorem taskOf_ok (a0 a1 a2 a3 a4 a5 a6 a7 : Int) (c : List IClaim) (hc : c.length ≤ 1048576) (l : List Bool) (hl : l.length ≤ 1048576) (h : Int) :
    ∃ r, Ev (fun k => impl_TaskOf.f k a0 a1 a2 a3 a4 a5 a6 a7 c l h) r ∧ Ev (fun k => spec_TaskOf.f k a0 a1 a2 a3 a4 a5 a6 a7 c l h) r ∧ (isFind a0 a1 a2 a3 a4 a5 a6 a7 = true → isCal l = true → decide (0 ≤ h ∧ h ≤ 100000) = true → r.1 = a0) ∧ (¬ (isCal l = true ∧ decide (0 ≤ h ∧ h ≤ 100000) = true) → r = (0, 0, 0)) := by
  unfold impl_TaskOf.f spec_TaskOf.f
  obtain ⟨r, r1, r2, _, r4⟩ := task_j0 c hc l hl h true a0 a1 a2 a3 a4 a5 a6 a7
  obtain ⟨s, s1, s2, s3, s4⟩ := task_j0 c hc l hl h (!decide (0 ≤ h ∧ h ≤ 100000)) a0 a1 a2 a3 a4 a5 a6 a7
  by_cases c1 : isFind a0 a1 a2 a3 a4 a5 a6 a7 = true
  · by_cases c2 : isCal l = true
    · exact ⟨s, ev_bindc (implIsFind_eq _ _ _ _ _ _ _ _) (ev_itep c1 (ev_bind (implIsCalendar_ev l hl) (ev_itep c2 (ev_bindc (inRange_eq _ _ _) s1)))), ev_bindc (specIsFind_eq _ _ _ _ _ _ _ _) (ev_itep c1 (ev_bind (specIsCalendar_ev l hl) (ev_itep c2 (ev_bindc (l1In_eq _ _ _) s2)))),
        fun _ _ e => s3 (by rw [e]; rfl), fun e => s4 (by cases q : decide (0 ≤ h ∧ h ≤ 100000) with | true => exact absurd ⟨c2, q⟩ e | false => rfl)⟩
    · exact ⟨r, ev_bindc (implIsFind_eq _ _ _ _ _ _ _ _) (ev_itep c1 (ev_bind (implIsCalendar_ev l hl) (ev_iten c2 r1))), ev_bindc (specIsFind_eq _ _ _ _ _ _ _ _) (ev_itep c1 (ev_bind (specIsCalendar_ev l hl) (ev_iten c2 r2))), fun _ e => absurd e c2, fun _ => r4 rfl⟩
  · exact ⟨r, ev_bindc (implIsFind_eq _ _ _ _ _ _ _ _) (ev_iten c1 r1), ev_bindc (specIsFind_eq _ _ _ _ _ _ _ _) (ev_iten c1 r2), fun e => absurd e c1, fun _ => r4 rfl⟩
end Go.Proofs.Ytnlgilmbmoiniaa.PFnExactTasksFor
namespace Go.Proofs.Ytnlgilmbmoiniaa.PFnExactTasksFor
open Go.RowKit Go.Proofs.YtnlgilmbmoiniaaW.PrintWords Go.Proofs.YtnlgilmbmoiniaaW.PrintLast Go.Proofs.Ytnlgilmbmoiniaa.EvLib
abbrev LFind := S52
abbrev IFind := S58
def cvFind (x : LFind) : IFind := ⟨⟨x.f0.f0, x.f0.f1, x.f0.f2, x.f0.f3, x.f0.f4⟩, x.f1, x.f2, x.f3⟩
theorem szFindS_eq (l : List LFind) (h : l.length ≤ maxLen) (a : Int) (h0 : 0 ≤ a) (h1 : a ≤ 1048576) : laws_szFindS.f l a = some (if (l.length : Int) ≤ a then a - l.length else -1) := by
  have := maxLen_le h
  unfold laws_szFindS.f
  rw [wrap_id (by omega) (by omega)]
  by_cases c : (l.length : Int) ≤ a
  · rw [if_pos c, if_neg (by omega)]
  · rw [if_neg c, if_pos (by omega)]
theorem toFindS_ev (l : List LFind) (hl : l.length ≤ 1048576) : Ev (fun k => laws_toFindS.f k l) (l.map cvFind) := by
  unfold laws_toFindS.f
  exact ev_itep (by omega) (ev_itep (by omega) (ev_copy laws_toFindS.l0 cvFind z52 z58 (fun _ _ _ _ => rfl) l hl))
theorem eqFind_self (x : IFind) : laws_eqFind.f x.f0.f0 x.f0.f1 x.f0.f2 x.f0.f3 x.f0.f4 x.f1 x.f2 x.f3 x.f0.f0 x.f0.f1 x.f0.f2 x.f0.f3 x.f0.f4 x.f1 x.f2 x.f3 = some true := by simp [laws_eqFind.f, laws_eqThing.f]
theorem eqFindS_ev (l : List IFind) (hl : l.length ≤ 1048576) : Ev (fun k => laws_eqFindS.f k l l) true := by
  unfold laws_eqFindS.f
  refine ev_itep rfl (ev_eqloop laws_eqFindS.l0 (fun k l i hi => ?_) (fun k l => ?_) l (by omega))
  · simp only [laws_eqFindS.l0]
    rw [if_pos (by omega), if_pos (by omega), if_pos (by omega), eqFind_self, Option.bind_some, if_pos rfl]
  · simp only [laws_eqFindS.l0]
    rw [if_neg (by omega)]
end Go.Proofs.Ytnlgilmbmoiniaa.PFnExactTasksFor
namespace Go.Proofs.Ytnlgilmbmoiniaa.PFnExactTasksFor
open Go.RowKit Go.Proofs.YtnlgilmbmoiniaaW.PrintWords Go.Proofs.YtnlgilmbmoiniaaW.PrintLast Go.Proofs.Ytnlgilmbmoiniaa.EvLib
abbrev ITask := S54
theorem eqTask_self (x : ITask) : laws_eqTask.f x.f0 x.f1 x.f2 x.f0 x.f1 x.f2 = some true := by simp [laws_eqTask.f]
theorem eqTaskS_ev (l : List ITask) (hl : l.length ≤ 1048576) : Ev (fun k => laws_eqTaskS.f k l l) true := by
  unfold laws_eqTaskS.f
  refine ev_itep rfl (ev_eqloop laws_eqTaskS.l0 (fun k l i hi => ?_) (fun k l => ?_) l (by omega))
  · simp only [laws_eqTaskS.l0]
    rw [if_pos (by omega), if_pos (by omega), if_pos (by omega), eqTask_self, Option.bind_some, if_pos rfl]
  · simp only [laws_eqTaskS.l0]
    rw [if_neg (by omega)]
end Go.Proofs.Ytnlgilmbmoiniaa.PFnExactTasksFor
namespace Go.Proofs.Ytnlgilmbmoiniaa.PFnExactTasksFor
open Go.RowKit Go.Proofs.YtnlgilmbmoiniaaW.PrintWords Go.Proofs.YtnlgilmbmoiniaaW.PrintLast Go.Proofs.Ytnlgilmbmoiniaa.EvLib
/-- d elements with running numbers. -/
def markedTask : Nat → Int → List ITask
  | 0, _ => []
  | d + 1, q => ⟨q, q + 1, q + 1 + 1⟩ :: markedTask d (q + 1 + 1 + 1)
theorem markedTask_len : ∀ (d : Nat) (q : Int), (markedTask d q).length = d
  | 0, _ => rfl
  | d + 1, q => by rw [markedTask, List.length_cons, markedTask_len d]
theorem markTaskS_l0 : ∀ (d i : Nat) (l : List ITask) (q : Int), i + d = l.length → l.length ≤ 1048576 → 0 ≤ q → q ≤ 1 + 3 * (i : Int) →
    Ev (fun k => laws_markTaskS.l0 k l q (i : Int)) (q + 3 * (d : Int), l.take i ++ markedTask d q) := by
  intro d
  induction d with
  | zero =>
    intro i l q hi hl h0 h1
    refine ev_step (fun k => by simp only [laws_markTaskS.l0]; rfl) (ev_iten (by omega) (ev_some ?_))
    rw [List.take_of_length_le (by omega)]
    simp [markedTask]
  | succ d ih =>
    intro i l q hi hl h0 h1
    have r1 : ∀ v, rd_T54 (l.set i v) (i : Int) = v := fun v => by
      unfold rd_T54
      rw [Int.toNat_natCast, List.getD_eq_getElem?_getD, List.getElem?_set_self (by omega)]
      rfl
    have w0 : wrap64 (q + 1) = q + 1 := wrap_id (by omega) (by omega)
    have w1 : wrap64 (q + 1 + 1) = q + 1 + 1 := wrap_id (by omega) (by omega)
    have w2 : wrap64 (q + 1 + 1 + 1) = q + 1 + 1 + 1 := wrap_id (by omega) (by omega)
    have e : ∀ k, laws_markTaskS.l0 (k + 1) l q (i : Int) = laws_markTaskS.l0 k (l.set i ⟨q, q + 1, q + 1 + 1⟩) (q + 1 + 1 + 1) ((i + 1 : Nat) : Int) := fun k => by
      simp only [laws_markTaskS.l0]
      rw [if_pos (by omega), if_pos (by omega)]
      simp only [Option.bind_some, Int.toNat_natCast, List.set_set, r1, w0, w1, w2, wrap_id (x := (i : Int) + 1) (by omega) (by omega)]
      rfl
    refine ev_step e (ev_eq (ih (i + 1) _ _ (by rw [List.length_set]; omega) (by rw [List.length_set]; exact hl) (by omega) (by omega)) ?_)
    rw [markedTask, List.take_succ_eq_append_getElem (by rw [List.length_set]; omega), List.take_set_of_le (Nat.le_refl _), List.getElem_set_self, List.append_assoc, List.singleton_append]
    congr 1
    omega
theorem markTaskS_ev (l : List ITask) (hl : l.length ≤ 1048576) : Ev (fun k => laws_markTaskS.f k l 1) (1 + 3 * (l.length : Int), markedTask l.length 1) := by
  unfold laws_markTaskS.f
  exact markTaskS_l0 l.length 0 l 1 (by omega) hl (by omega) (by omega)
theorem heldTaskS_l0 : ∀ (d i : Nat) (l : List ITask) (q : Int), i + d = l.length → l.length ≤ 1048576 → 0 ≤ q → q ≤ 1 + 3 * (i : Int) → l.drop i = markedTask d q →
    Ev (fun k => laws_heldTaskS.l0 k l q (i : Int)) (q + 3 * (d : Int)) := by
  intro d
  induction d with
  | zero =>
    intro i l q hi hl h0 h1 _
    exact ev_step (fun k => by simp only [laws_heldTaskS.l0]; rfl) (ev_iten (by omega) (ev_some (by simp)))
  | succ d ih =>
    intro i l q hi hl h0 h1 hm
    rw [markedTask, List.drop_eq_getElem_cons (by omega)] at hm
    injection hm with hm1 hm2
    have r1 : rd_T54 l (i : Int) = ⟨q, q + 1, q + 1 + 1⟩ := by
      unfold rd_T54
      rw [Int.toNat_natCast, List.getD_eq_getElem?_getD, List.getElem?_eq_getElem (by omega), Option.getD_some, hm1]
    have w0 : wrap64 (q + 1) = q + 1 := wrap_id (by omega) (by omega)
    have w1 : wrap64 (q + 1 + 1) = q + 1 + 1 := wrap_id (by omega) (by omega)
    have w2 : wrap64 (q + 1 + 1 + 1) = q + 1 + 1 + 1 := wrap_id (by omega) (by omega)
    have e : ∀ k, laws_heldTaskS.l0 (k + 1) l q (i : Int) = laws_heldTaskS.l0 k l (q + 1 + 1 + 1) ((i + 1 : Nat) : Int) := fun k => by
      simp only [laws_heldTaskS.l0]
      rw [if_pos (by omega), if_pos (by omega)]
      simp only [r1, w0, w1, w2, wrap_id (x := (i : Int) + 1) (by omega) (by omega), if_true]
      rfl
    exact ev_step e (ev_eq (ih (i + 1) l _ (by omega) hl (by omega) (by omega) hm2) (by omega))
theorem heldTaskS_ev (n : Nat) (hn : n ≤ 1048576) : Ev (fun k => laws_heldTaskS.f k (markedTask n 1) 1) (1 + 3 * (n : Int)) := by
  unfold laws_heldTaskS.f
  exact heldTaskS_l0 n 0 (markedTask n 1) 1 (by rw [markedTask_len]; omega) (by rw [markedTask_len]; exact hn) (by omega) (by omega) rfl
end Go.Proofs.Ytnlgilmbmoiniaa.PFnExactTasksFor
namespace Go.Proofs.Ytnlgilmbmoiniaa.PFnExactTasksFor
open Go.RowKit Go.Proofs.YtnlgilmbmoiniaaW.PrintWords Go.Proofs.YtnlgilmbmoiniaaW.PrintLast Go.Proofs.Ytnlgilmbmoiniaa.EvLib
/-- d elements with running numbers. -/
def markedFind : Nat → Int → List IFind
  | 0, _ => []
  | d + 1, q => ⟨⟨q, q + 1, q + 1 + 1, q + 1 + 1 + 1, q + 1 + 1 + 1 + 1⟩, q + 1 + 1 + 1 + 1 + 1, q + 1 + 1 + 1 + 1 + 1 + 1, q + 1 + 1 + 1 + 1 + 1 + 1 + 1⟩ :: markedFind d (q + 1 + 1 + 1 + 1 + 1 + 1 + 1 + 1)
theorem markedFind_len : ∀ (d : Nat) (q : Int), (markedFind d q).length = d
  | 0, _ => rfl
  | d + 1, q => by rw [markedFind, List.length_cons, markedFind_len d]
theorem markFindS_l0 : ∀ (d i : Nat) (l : List IFind) (q : Int), i + d = l.length → l.length ≤ 1048576 → 0 ≤ q → q ≤ 16777216 + 8 * (i : Int) →
    Ev (fun k => laws_markFindS.l0 k l q (i : Int)) (q + 8 * (d : Int), l.take i ++ markedFind d q) := by
  intro d
  induction d with
  | zero =>
    intro i l q hi hl h0 h1
    refine ev_step (fun k => by simp only [laws_markFindS.l0]; rfl) (ev_iten (by omega) (ev_some ?_))
    rw [List.take_of_length_le (by omega)]
    simp [markedFind]
  | succ d ih =>
    intro i l q hi hl h0 h1
    have r1 : ∀ v, rd_T58 (l.set i v) (i : Int) = v := fun v => by
      unfold rd_T58
      rw [Int.toNat_natCast, List.getD_eq_getElem?_getD, List.getElem?_set_self (by omega)]
      rfl
    have w0 : wrap64 (q + 1) = q + 1 := wrap_id (by omega) (by omega)
    have w1 : wrap64 (q + 1 + 1) = q + 1 + 1 := wrap_id (by omega) (by omega)
    have w2 : wrap64 (q + 1 + 1 + 1) = q + 1 + 1 + 1 := wrap_id (by omega) (by omega)
    have w3 : wrap64 (q + 1 + 1 + 1 + 1) = q + 1 + 1 + 1 + 1 := wrap_id (by omega) (by omega)
    have w4 : wrap64 (q + 1 + 1 + 1 + 1 + 1) = q + 1 + 1 + 1 + 1 + 1 := wrap_id (by omega) (by omega)
    have w5 : wrap64 (q + 1 + 1 + 1 + 1 + 1 + 1) = q + 1 + 1 + 1 + 1 + 1 + 1 := wrap_id (by omega) (by omega)
    have w6 : wrap64 (q + 1 + 1 + 1 + 1 + 1 + 1 + 1) = q + 1 + 1 + 1 + 1 + 1 + 1 + 1 := wrap_id (by omega) (by omega)
    have w7 : wrap64 (q + 1 + 1 + 1 + 1 + 1 + 1 + 1 + 1) = q + 1 + 1 + 1 + 1 + 1 + 1 + 1 + 1 := wrap_id (by omega) (by omega)
    have e : ∀ k, laws_markFindS.l0 (k + 1) l q (i : Int) = laws_markFindS.l0 k (l.set i ⟨⟨q, q + 1, q + 1 + 1, q + 1 + 1 + 1, q + 1 + 1 + 1 + 1⟩, q + 1 + 1 + 1 + 1 + 1, q + 1 + 1 + 1 + 1 + 1 + 1, q + 1 + 1 + 1 + 1 + 1 + 1 + 1⟩) (q + 1 + 1 + 1 + 1 + 1 + 1 + 1 + 1) ((i + 1 : Nat) : Int) := fun k => by
      simp only [laws_markFindS.l0]
      rw [if_pos (by omega), if_pos (by omega)]
      simp only [Option.bind_some, Int.toNat_natCast, List.set_set, r1, w0, w1, w2, w3, w4, w5, w6, w7, wrap_id (x := (i : Int) + 1) (by omega) (by omega)]
      rfl
    refine ev_step e (ev_eq (ih (i + 1) _ _ (by rw [List.length_set]; omega) (by rw [List.length_set]; exact hl) (by omega) (by omega)) ?_)
    rw [markedFind, List.take_succ_eq_append_getElem (by rw [List.length_set]; omega), List.take_set_of_le (Nat.le_refl _), List.getElem_set_self, List.append_assoc, List.singleton_append]
    congr 1
    omega
theorem markFindS_ev (l : List IFind) (hl : l.length ≤ 1048576) : Ev (fun k => laws_markFindS.f k l 1) (1 + 8 * (l.length : Int), markedFind l.length 1) := by
  unfold laws_markFindS.f
  exact markFindS_l0 l.length 0 l 1 (by omega) hl (by omega) (by omega)
theorem markFindS_evq (l : List IFind) (hl : l.length ≤ 1048576) (q : Int) (h0 : 0 ≤ q) (h1 : q ≤ 16777216) : Ev (fun k => laws_markFindS.f k l q) (q + 8 * (l.length : Int), markedFind l.length q) := by
  unfold laws_markFindS.f
  exact markFindS_l0 l.length 0 l q (by omega) hl h0 (by omega)
end Go.Proofs.Ytnlgilmbmoiniaa.PFnExactTasksFor
namespace Go.Proofs.Ytnlgilmbmoiniaa.PFnExactTasksFor
open Go.RowKit Go.Proofs.YtnlgilmbmoiniaaW.PrintWords Go.Proofs.YtnlgilmbmoiniaaW.PrintLast Go.Proofs.Ytnlgilmbmoiniaa.EvLib
/-- d elements with running numbers. -/
def markedClaim : Nat → Int → List IClaim
  | 0, _ => []
  | d + 1, q => ⟨q, q + 1, q + 1 + 1, q + 1 + 1 + 1, q + 1 + 1 + 1 + 1⟩ :: markedClaim d (q + 1 + 1 + 1 + 1 + 1)
theorem markedClaim_len : ∀ (d : Nat) (q : Int), (markedClaim d q).length = d
  | 0, _ => rfl
  | d + 1, q => by rw [markedClaim, List.length_cons, markedClaim_len d]
theorem markClaimS_l0 : ∀ (d i : Nat) (l : List IClaim) (q : Int), i + d = l.length → l.length ≤ 1048576 → 0 ≤ q → q ≤ 16777216 + 5 * (i : Int) →
    Ev (fun k => laws_markClaimS.l0 k l q (i : Int)) (q + 5 * (d : Int), l.take i ++ markedClaim d q) := by
  intro d
  induction d with
  | zero =>
    intro i l q hi hl h0 h1
    refine ev_step (fun k => by simp only [laws_markClaimS.l0]; rfl) (ev_iten (by omega) (ev_some ?_))
    rw [List.take_of_length_le (by omega)]
    simp [markedClaim]
  | succ d ih =>
    intro i l q hi hl h0 h1
    have r1 : ∀ v, rd_T69 (l.set i v) (i : Int) = v := fun v => by
      unfold rd_T69
      rw [Int.toNat_natCast, List.getD_eq_getElem?_getD, List.getElem?_set_self (by omega)]
      rfl
    have w0 : wrap64 (q + 1) = q + 1 := wrap_id (by omega) (by omega)
    have w1 : wrap64 (q + 1 + 1) = q + 1 + 1 := wrap_id (by omega) (by omega)
    have w2 : wrap64 (q + 1 + 1 + 1) = q + 1 + 1 + 1 := wrap_id (by omega) (by omega)
    have w3 : wrap64 (q + 1 + 1 + 1 + 1) = q + 1 + 1 + 1 + 1 := wrap_id (by omega) (by omega)
    have w4 : wrap64 (q + 1 + 1 + 1 + 1 + 1) = q + 1 + 1 + 1 + 1 + 1 := wrap_id (by omega) (by omega)
    have e : ∀ k, laws_markClaimS.l0 (k + 1) l q (i : Int) = laws_markClaimS.l0 k (l.set i ⟨q, q + 1, q + 1 + 1, q + 1 + 1 + 1, q + 1 + 1 + 1 + 1⟩) (q + 1 + 1 + 1 + 1 + 1) ((i + 1 : Nat) : Int) := fun k => by
      simp only [laws_markClaimS.l0]
      rw [if_pos (by omega), if_pos (by omega)]
      simp only [Option.bind_some, Int.toNat_natCast, List.set_set, r1, w0, w1, w2, w3, w4, wrap_id (x := (i : Int) + 1) (by omega) (by omega)]
      rfl
    refine ev_step e (ev_eq (ih (i + 1) _ _ (by rw [List.length_set]; omega) (by rw [List.length_set]; exact hl) (by omega) (by omega)) ?_)
    rw [markedClaim, List.take_succ_eq_append_getElem (by rw [List.length_set]; omega), List.take_set_of_le (Nat.le_refl _), List.getElem_set_self, List.append_assoc, List.singleton_append]
    congr 1
    omega
theorem markClaimS_ev (l : List IClaim) (hl : l.length ≤ 1048576) : Ev (fun k => laws_markClaimS.f k l 1) (1 + 5 * (l.length : Int), markedClaim l.length 1) := by
  unfold laws_markClaimS.f
  exact markClaimS_l0 l.length 0 l 1 (by omega) hl (by omega) (by omega)
theorem markClaimS_evq (l : List IClaim) (hl : l.length ≤ 1048576) (q : Int) (h0 : 0 ≤ q) (h1 : q ≤ 16777216) : Ev (fun k => laws_markClaimS.f k l q) (q + 5 * (l.length : Int), markedClaim l.length q) := by
  unfold laws_markClaimS.f
  exact markClaimS_l0 l.length 0 l q (by omega) hl h0 (by omega)
end Go.Proofs.Ytnlgilmbmoiniaa.PFnExactTasksFor
namespace Go.Proofs.Ytnlgilmbmoiniaa.PFnExactTasksFor
open Go.RowKit Go.Proofs.YtnlgilmbmoiniaaW.PrintWords Go.Proofs.YtnlgilmbmoiniaaW.PrintLast Go.Proofs.Ytnlgilmbmoiniaa.EvLib
theorem markBoolS_l0 : ∀ (d i : Nat) (l : List Bool) (q : Int), i + d = l.length → l.length ≤ 1048576 → 0 ≤ q → q ≤ 33554432 + (i : Int) →
    ∃ m, Ev (fun k => laws_markBoolS.l0 k l q (i : Int)) (q + (d : Int), m) := by
  intro d
  induction d with
  | zero =>
    intro i l q hi hl h0 h1
    exact ⟨l, ev_step (fun k => by simp only [laws_markBoolS.l0]; rfl) (ev_iten (by omega) (ev_some (by simp)))⟩
  | succ d ih =>
    intro i l q hi hl h0 h1
    obtain ⟨m, hm⟩ := ih (i + 1) (l.set i ((Int.tmod q 3) == 0)) (q + 1) (by rw [List.length_set]; omega) (by rw [List.length_set]; exact hl) (by omega) (by omega)
    refine ⟨m, ev_step (fun k => by simp only [laws_markBoolS.l0]; rfl) (ev_itep (by omega) (ev_itep (by omega) ?_))⟩
    rw [wrap_id (x := (i : Int) + 1) (by omega) (by omega), wrap_id (x := q + 1) (by omega) (by omega), Int.toNat_natCast]
    exact ev_eq hm (by congr 1; omega)
theorem markBoolS_evq (l : List Bool) (hl : l.length ≤ 1048576) (q : Int) (h0 : 0 ≤ q) (h1 : q ≤ 33554432) : ∃ m, Ev (fun k => laws_markBoolS.f k l q) (q + (l.length : Int), m) := by
  unfold laws_markBoolS.f
  exact markBoolS_l0 l.length 0 l q (by omega) hl h0 (by omega)
end Go.Proofs.Ytnlgilmbmoiniaa.PFnExactTasksFor
namespace Go.Proofs.Ytnlgilmbmoiniaa.PFnExactTasksFor
open Go.RowKit Go.Proofs.YtnlgilmbmoiniaaW.PrintWords Go.Proofs.YtnlgilmbmoiniaaW.PrintLast Go.Proofs.Ytnlgilmbmoiniaa.EvLib
def fd (l : List IFind) (i : Nat) : IFind := l.getD i z58
theorem rd_fd (l : List IFind) (i : Nat) : rd_T58 l (i : Int) = fd l i := by unfold rd_T58 fd; rw [Int.toNat_natCast]
theorem fd_get (l : List IFind) (i : Nat) (h : i < l.length) : fd l i = l[i] := by simp [fd, List.getD, h]
def isFd (x : IFind) : Bool := isFind x.f0.f0 x.f0.f1 x.f0.f2 x.f0.f3 x.f0.f4 x.f1 x.f2 x.f3
def fdOk (l : List IFind) (i : Nat) : Bool := isFd (fd l i) && (decide (i = 0) || decide ((fd l (i - 1)).f0.f0 < (fd l i).f0.f0))
def areFd (l : List IFind) : Bool := (List.range l.length).all (fdOk l) && decide (l.length ≤ 20)
theorem areFd_ok {l : List IFind} (h : areFd l = true) (i : Nat) (hi : i < l.length) : fdOk l i = true := by
  unfold areFd at h
  rw [Bool.and_eq_true, List.all_eq_true] at h
  exact h.1 i (List.mem_range.mpr hi)
theorem areFd_len {l : List IFind} (h : areFd l = true) : l.length ≤ 20 := by
  unfold areFd at h
  rw [Bool.and_eq_true] at h
  exact of_decide_eq_true h.2
theorem implAreFinds_ev (l : List IFind) (hl : l.length ≤ 1048577) : Ev (fun k => impl_AreFinds.f k l) (areFd l) := by
  unfold impl_AreFinds.f
  refine ev_ite (fun h => ev_some ?_) (fun h => ev_eq (ev_all (fun k i => impl_AreFinds.l0 k l l (l.length : Int) i) l.length (fdOk l) true (by omega) (fun k => ?_) (fun k i hi => ?_)) ?_)
  · unfold areFd
    rw [decide_eq_false (by omega), Bool.and_false]
  · simp only [impl_AreFinds.l0]
    rw [if_neg (by omega)]
  · simp only [impl_AreFinds.l0, rd_fd, implIsFind_eq, Option.bind_some]
    rw [if_pos (by omega), if_pos (by omega), if_pos (by omega)]
    unfold fdOk isFd
    generalize isFind _ _ _ _ _ _ _ _ = b
    cases b with
    | false => simp
    | true =>
      by_cases h4 : i = 0
      · subst h4; simp
      · have e : wrap64 ((i : Int) - 1) = ((i - 1 : Nat) : Int) := by rw [wrap_id (by omega) (by omega)]; omega
        rw [e, rd_fd]
        have g1 : 0 < i := by omega
        have g2 : i - 1 < l.length := by omega
        by_cases h5 : (fd l (i - 1)).f0.f0 < (fd l i).f0.f0
        · have g5 : ¬ (fd l i).f0.f0 ≤ (fd l (i - 1)).f0.f0 := by omega
          simp [h4, h5, g1, g2, g5]
        · have g5 : (fd l i).f0.f0 ≤ (fd l (i - 1)).f0.f0 := by omega
          simp [h4, h5, g1, g2, g5]
  · unfold areFd
    rw [decide_eq_true (by omega)]
theorem specAreFinds_ev (l : List IFind) (hl : l.length ≤ 1048577) : Ev (fun k => spec_AreFinds.f k l) (areFd l) := by
  unfold spec_AreFinds.f
  refine ev_eq (ev_all (fun k i => spec_AreFinds.l0 k l i) l.length (fdOk l) (decide ((l.length : Int) ≤ 20)) (by omega) (fun k => ?_) (fun k i hi => ?_)) ?_
  · simp only [spec_AreFinds.l0]
    rw [if_neg (by omega)]
  · simp only [spec_AreFinds.l0, rd_fd, specIsFind_eq, Option.bind_some]
    rw [if_pos (by omega), if_pos (by omega)]
    unfold fdOk isFd
    generalize isFind _ _ _ _ _ _ _ _ = b
    cases b with
    | false => simp
    | true =>
      by_cases h4 : i = 0
      · subst h4; simp
      · have e : wrap64 ((i : Int) - 1) = ((i - 1 : Nat) : Int) := by rw [wrap_id (by omega) (by omega)]; omega
        rw [e, rd_fd]
        have g1 : 0 < i := by omega
        have g2 : i - 1 < l.length := by omega
        by_cases h5 : (fd l (i - 1)).f0.f0 < (fd l i).f0.f0
        · have g5 : ¬ (fd l i).f0.f0 ≤ (fd l (i - 1)).f0.f0 := by omega
          simp [h4, h5, g1, g2, g5]
        · have g5 : (fd l i).f0.f0 ≤ (fd l (i - 1)).f0.f0 := by omega
          simp [h4, h5, g1, g2, g5]
  · unfold areFd
    congr 1
    rw [decide_eq_decide]; omega
theorem areFd_id {l : List IFind} (h : areFd l = true) (x : IFind) (hx : x ∈ l) : isFd x = true ∧ 1 ≤ x.f0.f0 := by
  obtain ⟨i, hi, rfl⟩ := List.getElem_of_mem hx
  have e := areFd_ok h i hi
  unfold fdOk at e
  rw [Bool.and_eq_true, fd_get l i hi] at e
  refine ⟨e.1, ?_⟩
  have g := e.1
  unfold isFd isFind isThing at g
  simp only [Bool.and_eq_true, decide_eq_true_eq] at g
  exact g.1.1.1
end Go.Proofs.Ytnlgilmbmoiniaa.PFnExactTasksFor
namespace Go.Proofs.Ytnlgilmbmoiniaa.PFnExactTasksFor
open Go.RowKit Go.Proofs.YtnlgilmbmoiniaaW.PrintWords Go.Proofs.YtnlgilmbmoiniaaW.PrintLast Go.Proofs.Ytnlgilmbmoiniaa.EvLib
abbrev STask := S54
abbrev tle := impl_Task.le
theorem tle_iff (x y : STask) : tle x y = true ↔ ¬ (y.f2 < x.f2 ∨ (y.f2 = x.f2 ∧ (y.f1 < x.f1 ∨ (y.f1 = x.f1 ∧ y.f0 < x.f0)))) := by
  unfold tle impl_Task.le impl_Task.lt
  simp only [Bool.not_eq_true', decide_eq_false_iff_not]
theorem tle_trans (x y z : STask) (h1 : tle x y = true) (h2 : tle y z = true) : tle x z = true := by
  rw [tle_iff] at *; omega
theorem tle_total (x y : STask) : (tle x y || tle y x) = true := by
  rw [Bool.or_eq_true, tle_iff, tle_iff]; omega
theorem tle_anti (x y : STask) (h1 : tle x y = true) (h2 : tle y x = true) : x = y := by
  rw [tle_iff] at h1 h2
  obtain ⟨a, b, c⟩ := x
  obtain ⟨p, q, r⟩ := y
  simp only at h1 h2
  have e1 : c = r := by omega
  have e2 : b = q := by omega
  have e3 : a = p := by omega
  rw [e1, e2, e3]
abbrev Srtd (l : List STask) : Prop := l.Pairwise fun x y => tle x y = true
theorem uniq : ∀ (l m : List STask), Srtd l → Srtd m → l.Perm m → l = m
  | [], m, _, _, h => (List.Perm.nil_eq h)
  | a :: l, [], _, _, h => by have := h.length_eq; simp at this
  | a :: l, b :: m, h1, h2, h => by
    have e : a = b := by
      by_cases e : a = b
      · exact e
      · have ha : a ∈ m := by
          have : a ∈ b :: m := h.mem_iff.1 (by simp)
          rcases List.mem_cons.1 this with q | q
          · exact absurd q e
          · exact q
        have hb : b ∈ l := by
          have : b ∈ a :: l := h.mem_iff.2 (by simp)
          rcases List.mem_cons.1 this with q | q
          · exact absurd q.symm e
          · exact q
        exact tle_anti a b ((List.pairwise_cons.1 h1).1 b hb) ((List.pairwise_cons.1 h2).1 a ha)
    subst e
    rw [uniq l m (List.pairwise_cons.1 h1).2 (List.pairwise_cons.1 h2).2 ((List.perm_cons a).1 h)]
theorem sort_uniq (l m : List STask) (hs : Srtd l) (h : l.Perm m) : l = m.mergeSort tle :=
  uniq l _ hs (List.pairwise_mergeSort tle_trans tle_total m) (h.trans (List.mergeSort_perm m tle).symm)
def tsk (l : List STask) (i : Nat) : STask := rd_T54 l (i : Int)
theorem tsk_get (l : List STask) (i : Nat) (h : i < l.length) : tsk l i = l[i] := by
  unfold tsk rd_T54
  rw [Int.toNat_natCast, List.getD_eq_getElem?_getD, List.getElem?_eq_getElem h, Option.getD_some]
/-- The place at which x is put, looked for from n down. -/
def ipos (l : List STask) (x : STask) : Nat → Nat
  | 0 => 0
  | n + 1 => if tle (tsk l n) x = true then n + 1 else ipos l x n
theorem ipos_le (l : List STask) (x : STask) : ∀ n, ipos l x n ≤ n
  | 0 => Nat.le_refl _
  | n + 1 => by
    rw [ipos]
    split
    · exact Nat.le_refl _
    · exact Nat.le_succ_of_le (ipos_le l x n)
theorem ipos_lo (l : List STask) (x : STask) : ∀ n, 0 < ipos l x n → tle (tsk l (ipos l x n - 1)) x = true
  | 0, h => by rw [ipos] at h; omega
  | n + 1, h => by
    rw [ipos] at h ⊢
    split at h
    case isTrue c => rw [if_pos c]; exact c
    case isFalse c => rw [if_neg c]; exact ipos_lo l x n h
theorem ipos_hi (l : List STask) (x : STask) : ∀ n j, ipos l x n ≤ j → j < n → tle (tsk l j) x = false
  | 0, j, _, h => by omega
  | n + 1, j, h1, h2 => by
    rw [ipos] at h1
    split at h1
    case isTrue c => omega
    case isFalse c =>
      by_cases e : j = n
      · rw [e]; exact Bool.eq_false_iff.mpr c
      · exact ipos_hi l x n j h1 (by omega)
def putT (l : List STask) (x : STask) : List STask := l.take (ipos l x l.length) ++ x :: l.drop (ipos l x l.length)
theorem putT_perm (l : List STask) (x : STask) : (putT l x).Perm (l ++ [x]) := by
  unfold putT
  refine (List.perm_middle).trans ?_
  rw [List.take_append_drop]
  exact (List.perm_append_singleton x l).symm
theorem putT_srtd (l : List STask) (x : STask) (h : Srtd l) : Srtd (putT l x) := by
  have hle := ipos_le l x l.length
  have hlo := ipos_lo l x l.length
  have hhi := ipos_hi l x l.length
  have hq := List.pairwise_iff_getElem.1 h
  unfold putT
  generalize ipos l x l.length = n at hle hlo hhi
  have hA : ∀ a ∈ l.take n, tle a x = true := by
    intro a ha
    obtain ⟨i, hi, rfl⟩ := List.mem_iff_getElem.1 ha
    rw [List.length_take] at hi
    rw [List.getElem_take]
    have h1 := hlo (by omega)
    rw [tsk_get l (n - 1) (by omega)] at h1
    by_cases e : i = n - 1
    · subst e; exact h1
    · exact tle_trans _ _ _ (hq i (n - 1) (by omega) (by omega) (by omega)) h1
  have hB : ∀ b ∈ l.drop n, tle x b = true := by
    intro b hb
    obtain ⟨i, hi, rfl⟩ := List.mem_iff_getElem.1 hb
    rw [List.length_drop] at hi
    rw [List.getElem_drop]
    have h1 := hhi (n + i) (by omega) (by omega)
    rw [tsk_get l (n + i) (by omega)] at h1
    have h2 := tle_total x l[n + i]
    rw [h1, Bool.or_false] at h2
    exact h2
  refine List.pairwise_append.2 ⟨h.sublist (List.take_sublist _ _), List.pairwise_cons.2 ⟨hB, h.sublist (List.drop_sublist _ _)⟩, ?_⟩
  intro a ha b hb
  rcases List.mem_cons.1 hb with rfl | hb
  · exact hA a ha
  · exact tle_trans _ _ _ (hA a ha) (hB b hb)
end Go.Proofs.Ytnlgilmbmoiniaa.PFnExactTasksFor
namespace Go.Proofs.Ytnlgilmbmoiniaa.PFnExactTasksFor
open Go.RowKit Go.Proofs.YtnlgilmbmoiniaaW.PrintWords Go.Proofs.YtnlgilmbmoiniaaW.PrintLast Go.Proofs.Ytnlgilmbmoiniaa.EvLib
theorem before_eq (x y : STask) : spec_l30Before.f x.f0 x.f1 x.f2 y.f0 y.f1 y.f2 = some (!tle y x) := by
  unfold spec_l30Before.f tle impl_Task.le impl_Task.lt
  rw [Bool.not_not]
  by_cases c : x.f2 = y.f2
  · rw [if_pos c]
    by_cases c1 : x.f1 < y.f1
    · rw [if_pos c1, decide_eq_true (by omega)]
    · rw [if_neg c1]
      by_cases c2 : x.f1 = y.f1
      · rw [if_pos c2]; congr 1; rw [decide_eq_decide]; omega
      · rw [if_neg c2, decide_eq_false (by omega)]
  · rw [if_neg c]; congr 1; rw [decide_eq_decide]; omega
theorem spec_put (F : List S58) (C : List S69) (B : List Bool) (h : Int) (l : List STask) (hl : l.length ≤ 1048576) (i : Nat) (hi : i ≤ 1048576) (x : STask) (r : List STask)
    (hr : Ev (fun k => spec_TasksFor.l0 k F C B h (putT l x) ((i + 1 : Nat) : Int)) r) : ∀ n, n ≤ l.length → ipos l x l.length = ipos l x n → Ev (fun k => spec_TasksFor.l1 k F C B h l (i : Int) (n : Int) x.f0 x.f1 x.f2) r := by
  have w1 : wrap64 ((i : Int) + 1) = ((i + 1 : Nat) : Int) := by rw [wrap_id (by omega) (by omega)]; omega
  have e : ∀ n, ipos l x l.length = n → (([] ++ l.take n) ++ [(⟨x.f0, x.f1, x.f2⟩ : STask)]) ++ l.drop n = putT l x := by
    intro n hn
    unfold putT
    rw [hn, List.nil_append, List.append_assoc, List.singleton_append]
  have lm : ∀ n, n ≤ l.length → ([] : List STask).length + (l.take n).length < 5864062014805 ∧ (([] : List STask) ++ l.take n).length + [(⟨x.f0, x.f1, x.f2⟩ : STask)].length < 5864062014805 ∧ ((([] : List STask) ++ l.take n) ++ [(⟨x.f0, x.f1, x.f2⟩ : STask)]).length + (l.drop n).length < 5864062014805 := by
    intro n hn
    simp only [List.nil_append, List.length_append, List.length_take, List.length_drop, List.length_nil, List.length_singleton]
    omega
  intro n
  induction n with
  | zero =>
    intro _ hp
    have he := e 0 (by rw [hp]; rfl)
    obtain ⟨l1, l2, l3⟩ := lm 0 (by omega)
    refine ev_step (fun k => by simp only [spec_TasksFor.l1]; rfl) (ev_iten (by omega) ?_)
    refine ev_bindc (a := ([] : List STask)) rfl (ev_itep (by omega) (ev_itep (by omega) ?_))
    simp only [Int.toNat_natCast]
    refine ev_bindc (a := l.take 0) rfl (ev_itep l1 (ev_bindc (a := [] ++ l.take 0) rfl ?_))
    refine ev_bindc (a := [(⟨x.f0, x.f1, x.f2⟩ : STask)]) rfl (ev_itep l2 (ev_bindc (a := ([] ++ l.take 0) ++ [(⟨x.f0, x.f1, x.f2⟩ : STask)]) rfl ?_))
    refine ev_bindc (a := l.drop 0) rfl (ev_itep l3 ?_)
    rw [w1]
    rw [← he] at hr
    exact hr
  | succ n ih =>
    intro hn hp
    have w2 : wrap64 (((n + 1 : Nat) : Int) - 1) = (n : Int) := by rw [wrap_id (by omega) (by omega)]; omega
    have hb := before_eq x (tsk l n)
    refine ev_step (fun k => by simp only [spec_TasksFor.l1]; rfl) (ev_itep (by omega) ?_)
    rw [w2]
    refine ev_itep (by omega) (ev_itep (by omega) (ev_bindc hb ?_))
    rw [ipos] at hp
    by_cases c : tle (tsk l n) x = true
    · rw [if_pos c] at hp
      have he := e (n + 1) hp
      obtain ⟨l1, l2, l3⟩ := lm (n + 1) hn
      refine ev_iten (by rw [c]; simp) ?_
      refine ev_bindc (a := ([] : List STask)) rfl (ev_itep (by omega) (ev_itep (by omega) ?_))
      simp only [Int.toNat_natCast]
      refine ev_bindc (a := l.take (n + 1)) rfl (ev_itep l1 (ev_bindc (a := [] ++ l.take (n + 1)) rfl ?_))
      refine ev_bindc (a := [(⟨x.f0, x.f1, x.f2⟩ : STask)]) rfl (ev_itep l2 (ev_bindc (a := ([] ++ l.take (n + 1)) ++ [(⟨x.f0, x.f1, x.f2⟩ : STask)]) rfl ?_))
      refine ev_bindc (a := l.drop (n + 1)) rfl (ev_itep l3 ?_)
      rw [w1]
      rw [← he] at hr
      exact hr
    · rw [if_neg c] at hp
      exact ev_itep (by rw [Bool.eq_false_iff.mpr c]; rfl) (ih (by omega) hp)
abbrev TFind := S58
abbrev TClaim := S69
def fnd (F : List TFind) (i : Nat) : TFind := rd_T58 F (i : Int)
theorem fnd_get (F : List TFind) (i : Nat) (h : i < F.length) : fnd F i = F[i] := by
  unfold fnd rd_T58
  rw [Int.toNat_natCast, List.getD_eq_getElem?_getD, List.getElem?_eq_getElem h, Option.getD_some]
theorem fnd_take (F : List TFind) (T : TFind → STask) (i : Nat) (h : i < F.length) : (F.take (i + 1)).map T = (F.take i).map T ++ [T (fnd F i)] := by
  rw [List.take_succ_eq_append_getElem h, List.map_append, fnd_get F i h]; rfl
theorem spec_loop (F : List TFind) (C : List TClaim) (B : List Bool) (h : Int) (hF : F.length ≤ 1048576) (T : TFind → STask)
    (hT : ∀ f, Ev (fun k => spec_TaskOf.f k f.f0.f0 f.f0.f1 f.f0.f2 f.f0.f3 f.f0.f4 f.f1 f.f2 f.f3 C B h) ((T f).f0, (T f).f1, (T f).f2))
    (c1 : Ev (fun k => spec_AreFinds.f k F) true) (c2 : spec_AreClaims.f C = some true) (c3 : Ev (fun k => spec_IsCalendar.f k B) true) (c4 : spec_l1In.f h 0 100000 = some true) :
    ∀ (d i : Nat) (o : List STask), i + d = F.length → Srtd o → o.Perm ((F.take i).map T) → Ev (fun k => spec_TasksFor.l0 k F C B h o (i : Int)) ((F.map T).mergeSort tle) := by
  intro d
  induction d with
  | zero =>
    intro i o hi hs hp
    rw [List.take_of_length_le (by omega)] at hp
    refine ev_step (fun k => by simp only [spec_TasksFor.l0]; rfl) (ev_iten (by omega) ?_)
    exact ev_step (fun k => by simp only [spec_TasksFor.j1]; rfl) (ev_iten (by simp) (ev_some (sort_uniq o _ hs hp)))
  | succ d ih =>
    intro i o hi hs hp
    have hil : i < F.length := by omega
    have ho : o.length ≤ 1048576 := by
      have := hp.length_eq
      rw [List.length_map, List.length_take] at this; omega
    have hn := ih (i + 1) (putT o (T (fnd F i))) (by omega) (putT_srtd o _ hs) (by
      rw [fnd_take F T i hil]
      exact (putT_perm o _).trans (hp.append_right _))
    have hq := spec_put F C B h o ho i (by omega) (T (fnd F i)) _ hn o.length (Nat.le_refl _) rfl
    refine ev_step (fun k => by simp only [spec_TasksFor.l0]; rfl) (ev_itep (by omega) ?_)
    refine ev_bind c1 (ev_itep (by trivial) (ev_bindc c2 (ev_itep (by trivial) (ev_bind c3 (ev_itep (by trivial) (ev_bindc c4 ?_))))))
    refine ev_step (fun k => by simp only [spec_TasksFor.j1]; rfl) (ev_itep (by trivial) (ev_itep (by omega) (ev_itep (by omega) ?_)))
    exact ev_bind (hT (fnd F i)) hq
theorem spec_bad (F : List TFind) (C : List TClaim) (B : List Bool) (h : Int) (b1 b2 b3 b4 : Bool)
    (c1 : Ev (fun k => spec_AreFinds.f k F) b1) (c2 : spec_AreClaims.f C = some b2) (c3 : Ev (fun k => spec_IsCalendar.f k B) b3) (c4 : spec_l1In.f h 0 100000 = some b4) (hb : ¬ (b1 = true ∧ b2 = true ∧ b3 = true ∧ b4 = true)) :
    Ev (fun k => spec_TasksFor.f k F C B h) [] := by
  unfold spec_TasksFor.f
  have hj : Ev (fun k => spec_TasksFor.j1 k F C B h [] 0 false) [] := ev_step (fun k => by simp only [spec_TasksFor.j1]; rfl) (ev_iten (by simp) (ev_some rfl))
  refine ev_step (fun k => by simp only [spec_TasksFor.l0]; rfl) (ev_ite (fun _ => ?_) (fun _ => hj))
  refine ev_bind c1 (ev_ite (fun q1 => ev_bindc c2 (ev_ite (fun q2 => ev_bind c3 (ev_ite (fun q3 => ev_bindc c4 ?_) (fun _ => hj))) (fun _ => hj))) (fun _ => hj))
  rw [show b4 = false from Bool.eq_false_iff.mpr (fun q4 => hb ⟨q1, q2, q3, q4⟩)]
  exact hj
theorem impl_loop (F : List TFind) (C : List TClaim) (B : List Bool) (h : Int) (hF : F.length ≤ 1048576) (T : TFind → STask)
    (hT : ∀ f, Ev (fun k => impl_TaskOf.f k f.f0.f0 f.f0.f1 f.f0.f2 f.f0.f3 f.f0.f4 f.f1 f.f2 f.f3 C B h) ((T f).f0, (T f).f1, (T f).f2)) (hz : ∀ f, f ∈ F → (T f).f0 ≠ 0) :
    ∀ (d i : Nat), i + d = F.length → Ev (fun k => impl_TasksFor.l0 k C B h ((F.take i).map T) F (F.length : Int) (i : Int)) ((F.map T).mergeSort tle) := by
  intro d
  induction d with
  | zero =>
    intro i hi
    rw [List.take_of_length_le (by omega)]
    refine ev_step (fun k => by simp only [impl_TasksFor.l0]; rfl) (ev_iten (by omega) (ev_bindc (a := (F.map T).mergeSort tle) ?_ (ev_some rfl)))
    unfold impl_Task.f
    rw [if_pos (by rw [List.length_map]; omega)]
  | succ d ih =>
    intro i hi
    have hil : i < F.length := by omega
    have hn := ih (i + 1) (by omega)
    rw [fnd_take F T i hil] at hn
    have hz1 := hz (fnd F i) (by rw [fnd_get F i hil]; exact List.getElem_mem _)
    have w1 : wrap64 ((i : Int) + 1) = ((i + 1 : Nat) : Int) := by rw [wrap_id (by omega) (by omega)]; omega
    refine ev_step (fun k => by simp only [impl_TasksFor.l0]; rfl) (ev_itep (by omega) (ev_itep (by omega) (ev_itep (by omega) ?_)))
    refine ev_bind (hT (fnd F i)) (ev_iten (by simp [hz1]) (ev_itep (by rw [List.length_map, List.length_take]; omega) ?_))
    rw [w1]
    exact hn
theorem impl_zero (F : List TFind) (C : List TClaim) (B : List Bool) (h : Int) (hF : F.length ≤ 1048576)
    (hT : ∀ f : TFind, Ev (fun k => impl_TaskOf.f k f.f0.f0 f.f0.f1 f.f0.f2 f.f0.f3 f.f0.f4 f.f1 f.f2 f.f3 C B h) (0, 0, 0)) : Ev (fun k => impl_TasksFor.l0 k C B h [] F (F.length : Int) 0) [] := by
  by_cases c : F.length = 0
  · refine ev_step (fun k => by simp only [impl_TasksFor.l0]; rfl) (ev_iten (by omega) (ev_bindc (a := []) ?_ (ev_some rfl)))
    unfold impl_Task.f
    rw [if_pos (by simp)]
    congr 1
    exact List.eq_nil_of_length_eq_zero (by rw [List.length_mergeSort]; rfl)
  · refine ev_step (fun k => by simp only [impl_TasksFor.l0]; rfl) (ev_itep (by omega) (ev_itep (by omega) (ev_itep (by omega) ?_)))
    exact ev_bind (hT (fnd F 0)) (ev_itep rfl (ev_some rfl))
end Go.Proofs.Ytnlgilmbmoiniaa.PFnExactTasksFor
namespace Go.Proofs.Ytnlgilmbmoiniaa.PFnExactTasksFor
open Go.RowKit Go.Proofs.YtnlgilmbmoiniaaW.PrintWords Go.Proofs.YtnlgilmbmoiniaaW.PrintLast Go.Proofs.Ytnlgilmbmoiniaa.EvLib
theorem okL_eq (C : List TClaim) : impl_AreClaims.f C = some (spec_AreClaims.okL C) := rfl
theorem tasks_ok (F : List TFind) (C : List TClaim) (B : List Bool) (h : Int) (hF : F.length ≤ 1048576) (hC : C.length ≤ 1048576) (hB : B.length ≤ 1048576) :
    ∃ R : List STask, R.length ≤ 1048576 ∧ Ev (fun k => spec_TasksFor.f k F C B h) R ∧ Ev (fun k => impl_TasksFor.f k F C B h) R := by
  have a1 := specAreFinds_ev F (by omega)
  have a2 := implAreFinds_ev F (by omega)
  have b1 : spec_AreClaims.f C = some (spec_AreClaims.okL C) := rfl
  have b2 := okL_eq C
  have d1 := specIsCalendar_ev B hB
  have e1 := l1In_eq h 0 100000
  have hT : ∀ f : TFind, ∃ t : STask, Ev (fun k => impl_TaskOf.f k f.f0.f0 f.f0.f1 f.f0.f2 f.f0.f3 f.f0.f4 f.f1 f.f2 f.f3 C B h) (t.f0, t.f1, t.f2) ∧ Ev (fun k => spec_TaskOf.f k f.f0.f0 f.f0.f1 f.f0.f2 f.f0.f3 f.f0.f4 f.f1 f.f2 f.f3 C B h) (t.f0, t.f1, t.f2) ∧ (isFd f = true → isCal B = true → decide (0 ≤ h ∧ h ≤ 100000) = true → t.f0 = f.f0.f0) ∧ (¬ (isCal B = true ∧ decide (0 ≤ h ∧ h ≤ 100000) = true) → (t.f0, t.f1, t.f2) = (0, 0, 0)) := fun f => by
    obtain ⟨⟨r1, r2, r3⟩, g1, g2, g3, g4⟩ := taskOf_ok f.f0.f0 f.f0.f1 f.f0.f2 f.f0.f3 f.f0.f4 f.f1 f.f2 f.f3 C hC B hB h
    exact ⟨⟨r1, r2, r3⟩, g1, g2, g3, g4⟩
  obtain ⟨T, hT⟩ : ∃ T : TFind → STask, ∀ f, Ev (fun k => impl_TaskOf.f k f.f0.f0 f.f0.f1 f.f0.f2 f.f0.f3 f.f0.f4 f.f1 f.f2 f.f3 C B h) ((T f).f0, (T f).f1, (T f).f2) ∧ Ev (fun k => spec_TaskOf.f k f.f0.f0 f.f0.f1 f.f0.f2 f.f0.f3 f.f0.f4 f.f1 f.f2 f.f3 C B h) ((T f).f0, (T f).f1, (T f).f2) ∧ (isFd f = true → isCal B = true → decide (0 ≤ h ∧ h ≤ 100000) = true → (T f).f0 = f.f0.f0) ∧ (¬ (isCal B = true ∧ decide (0 ≤ h ∧ h ≤ 100000) = true) → ((T f).f0, (T f).f1, (T f).f2) = (0, 0, 0)) :=
    ⟨fun f => Classical.choose (hT f), fun f => Classical.choose_spec (hT f)⟩
  have bad : ¬ (areFd F = true ∧ spec_AreClaims.okL C = true ∧ isCal B = true ∧ decide (0 ≤ h ∧ h ≤ 100000) = true) → Ev (fun k => spec_TasksFor.f k F C B h) [] := fun hb => spec_bad F C B h _ _ _ _ a1 b1 d1 e1 hb
  have stop : Ev (fun k => impl_TasksFor.j0 k F C B h [] true) [] := ev_step (fun k => by simp only [impl_TasksFor.j0]; rfl) (ev_itep (show true = true from rfl) (ev_some rfl))
  by_cases q1 : areFd F = true
  · by_cases q2 : spec_AreClaims.okL C = true
    · have go : ∀ R, Ev (fun k => impl_TasksFor.l0 k C B h [] F (F.length : Int) 0) R → Ev (fun k => impl_TasksFor.f k F C B h) R := fun R hR => by
        unfold impl_TasksFor.f
        refine ev_bindc (a := ([] : List STask)) rfl (ev_bind a2 (ev_itep q1 (ev_bindc b2 ?_)))
        rw [q2]
        exact ev_step (fun k => by simp only [impl_TasksFor.j0]; rfl) (ev_iten (by simp) hR)
      by_cases q3 : isCal B = true ∧ decide (0 ≤ h ∧ h ≤ 100000) = true
      · refine ⟨(F.map T).mergeSort tle, by rw [List.length_mergeSort, List.length_map]; exact hF, ?_, go _ ?_⟩
        · unfold spec_TasksFor.f
          refine spec_loop F C B h hF T (fun f => (hT f).2.1) (by rw [← q1]; exact a1) (by rw [b1, q2]) (by rw [← q3.1]; exact d1) (by rw [e1, q3.2]) F.length 0 [] (by omega) List.Pairwise.nil ?_
          simp
        · have := impl_loop F C B h hF T (fun f => (hT f).1) (fun f hf => by
            obtain ⟨g1, g2⟩ := areFd_id q1 f hf
            have := (hT f).2.2.1 g1 q3.1 q3.2
            omega) F.length 0 (by omega)
          exact this
      · refine ⟨[], by simp, bad (fun hb => q3 hb.2.2), go _ (impl_zero F C B h hF (fun f => ?_))⟩
        have := (hT f).1
        rw [(hT f).2.2.2 q3] at this
        exact this
    · refine ⟨[], by simp, bad (fun hb => q2 hb.2.1), ?_⟩
      unfold impl_TasksFor.f
      refine ev_bindc (a := ([] : List STask)) rfl (ev_bind a2 (ev_itep q1 (ev_bindc b2 ?_)))
      rw [Bool.eq_false_iff.mpr q2]
      exact stop
  · refine ⟨[], by simp, bad (fun hb => q1 hb.1), ?_⟩
    unfold impl_TasksFor.f
    exact ev_bindc (a := ([] : List STask)) rfl (ev_bind a2 (ev_iten q1 stop))
end Go.Proofs.Ytnlgilmbmoiniaa.PFnExactTasksFor
