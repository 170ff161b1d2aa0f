/- The plain laws that this claim needs, in one text. -/
import Derived.Test.YtnlgilmbmoiniaaDoorEvLib
import Derived.Test.YtnlgilmbmoiniaaDoorStmFnTasks
import Derived.Lib.ItoaNum
import Derived.Lib.Strings
namespace Go.Proofs.YtnlgilmbmoiniaaDoor.PFnTasks
abbrev ITask := S33
end Go.Proofs.YtnlgilmbmoiniaaDoor.PFnTasks
namespace Go.Proofs.YtnlgilmbmoiniaaDoor.PFnTasks
open Go.RowKit
theorem inRange_eq (a b c : Int) : impl_InRange.f a b c = some (decide (b ≤ a ∧ a ≤ c)) := by unfold impl_InRange.f; split <;> simp [*]
end Go.Proofs.YtnlgilmbmoiniaaDoor.PFnTasks
namespace Go.Proofs.YtnlgilmbmoiniaaDoor.PFnTasks
open Go.RowKit Go.Proofs.YtnlgilmbmoiniaaDoorW.PrintWords Go.Proofs.YtnlgilmbmoiniaaDoorW.PrintLast Go.Proofs.YtnlgilmbmoiniaaDoor.EvLib
/-- A string of these bytes. -/
def bs (l : List UInt8) : ByteArray := ⟨l.toArray⟩
theorem bs_app (a b : List UInt8) : bs a ++ bs b = bs (a ++ b) := by
  apply ByteArray.ext
  simp [bs, ByteArray.data_append]
theorem bs_size (a : List UInt8) : (bs a).size = a.length := by simp [bs, ByteArray.size]
theorem bs_of (s : ByteArray) : s = bs s.data.toList := by apply ByteArray.ext; simp [bs]
theorem bs_one (v : Int) (_h0 : 0 ≤ v) (_h1 : v < 256) : strOfNums [v] = bs [UInt8.ofNat v.toNat] := by
  apply ByteArray.ext
  simp [bs, strOfNums]
def fmtI (n : Int) : ByteArray := bs (Lib.itoa n)
theorem dec_len (d : Nat) : ∀ u, u < 10 ^ (d + 1) → (Lib.decDigits u).length ≤ d + 1 := by
  induction d with
  | zero => intro u h; rw [Lib.decDigits, dif_pos (by omega)]; simp
  | succ d ih =>
    intro u h
    rw [Lib.decDigits]
    split
    · simp
    · have := ih (u / 10) (by rw [Nat.pow_succ] at h; omega)
      simp; omega
theorem fmt_size (n : Int) (h0 : -9223372036854775808 ≤ n) (h1 : n ≤ 9223372036854775807) : (fmtI n).size ≤ 21 := by
  unfold fmtI
  rw [bs_size]
  unfold Lib.itoa
  split
  · have := dec_len 19 n.natAbs (by have : n.natAbs ≤ 9223372036854775808 := by omega
                                    omega)
    simp; omega
  · have := dec_len 19 n.toNat (by have : n.toNat ≤ 9223372036854775807 := by omega
                                   omega)
    omega
theorem implFormat_eq (n : Int) (h0 : -9223372036854775808 ≤ n) (h1 : n ≤ 9223372036854775807) : impl_FormatInt.f n = some (fmtI n) := by
  unfold impl_FormatInt.f strconv_Itoa.f
  rw [if_pos ⟨h0, h1⟩]
  rfl
theorem ne_nil {s : ByteArray} (h : 0 < s.size) : ¬ s.toList = ([] : List UInt8) := by
  rw [Lib.toList_data]
  intro e
  have e2 : s.data.size = 0 := by rw [← Array.length_toList, e]; rfl
  have e3 : s.size = s.data.size := rfl
  omega
theorem fate_in (a : Int) (h0 : 0 ≤ a) (h1 : a ≤ 5) : ∃ s, impl_FateName.f a = some s ∧ s.size ≤ 6 ∧ 0 < s.size := by
  unfold impl_FateName.f
  have h5 : a = 0 ∨ a = 1 ∨ a = 2 ∨ a = 3 ∨ a = 4 ∨ a = 5 := by omega
  rw [if_pos ⟨h0, h1⟩]
  rcases h5 with rfl | rfl | rfl | rfl | rfl | rfl <;> exact ⟨_, rfl, by decide, by decide⟩
set_option linter.unusedSimpArgs false in
theorem taskText_ok (a b c : Int) (ha0 : 0 ≤ a) (ha1 : a ≤ 1000000) (hb0 : 0 ≤ b) (hb1 : b ≤ 5) (hc0 : 0 ≤ c) (hc1 : c ≤ 1000000) : ∃ t, impl_TaskText.f a b c = some t ∧ ¬ t.toList = ([] : List UInt8) := by
  obtain ⟨s, hs, hz, hp⟩ := fate_in b hb0 hb1
  have z1_ : (⟨#[32]⟩ : ByteArray).size = 1 := rfl
  have z4_ : (⟨#[32, 111, 110, 32]⟩ : ByteArray).size = 4 := rfl
  have za := fmt_size a (by omega) (by omega)
  have zc := fmt_size c (by omega) (by omega)
  refine ⟨s ++ ⟨#[32]⟩ ++ fmtI a ++ ⟨#[32, 111, 110, 32]⟩ ++ fmtI c, ?_, ne_nil (by simp only [ByteArray.size_append]; omega)⟩
  unfold impl_TaskText.f
  simp only [hs, Option.bind_some, implFormat_eq a (show -9223372036854775808 ≤ a by omega) (show a ≤ 9223372036854775807 by omega), implFormat_eq c (show -9223372036854775808 ≤ c by omega) (show c ≤ 9223372036854775807 by omega)]
  rw [if_neg (ne_nil hp), if_pos (by omega), if_pos (by simp only [ByteArray.size_append, z1_, z4_]; omega), if_pos (by simp only [ByteArray.size_append, z1_, z4_]; omega), if_pos (by simp only [ByteArray.size_append, z1_, z4_]; omega)]
end Go.Proofs.YtnlgilmbmoiniaaDoor.PFnTasks
namespace Go.Proofs.YtnlgilmbmoiniaaDoor.PFnTasks
open Go.RowKit Go.Proofs.YtnlgilmbmoiniaaDoorW.PrintWords Go.Proofs.YtnlgilmbmoiniaaDoor.EvLib
def isThing (a0 a1 a2 a3 a4 : Int) : Bool := decide (1 ≤ a0 ∧ a0 ≤ 999) && (decide (1 ≤ a1 ∧ a1 ≤ 8) && (decide (0 ≤ a2 ∧ a2 ≤ 7) && (decide (1 ≤ a3 ∧ a3 ≤ 50) && (decide (0 ≤ a4 ∧ a4 ≤ 10000000)))))
def isFind (a0 a1 a2 a3 a4 a5 a6 a7 : Int) : Bool := isThing a0 a1 a2 a3 a4 && (decide (1 ≤ a5 ∧ a5 ≤ 30) && (decide (0 ≤ a6 ∧ a6 ≤ 100000) && (decide (0 ≤ a7 ∧ a7 ≤ 999))))
theorem if_and (b c : Bool) : (if b = true then some c else some false) = some (b && c) := by cases b <;> rfl
def keepDays (a : Int) : Int := if a = 7 then 1 else if a = 4 ∨ a = 5 then 180 else if 1 ≤ a ∧ a ≤ 8 then 90 else 0
theorem keepDays_le (a : Int) : 0 ≤ keepDays a ∧ keepDays a ≤ 180 := by unfold keepDays; split <;> (try split) <;> (try split) <;> omega
def dueHour (a0 a1 a2 a3 a4 a5 a6 a7 : Int) : Int := if isFind a0 a1 a2 a3 a4 a5 a6 a7 = true then a6 + 24 * keepDays a1 else -1
theorem isFind_at {a0 a1 a2 a3 a4 a5 a6 a7 : Int} (h : isFind a0 a1 a2 a3 a4 a5 a6 a7 = true) : 0 ≤ a6 ∧ a6 ≤ 100000 := by
  unfold isFind at h
  simp only [Bool.and_eq_true, decide_eq_true_eq] at h
  exact h.2.2.1
theorem dueHour_le {a0 a1 a2 a3 a4 a5 a6 a7 : Int} (h : isFind a0 a1 a2 a3 a4 a5 a6 a7 = true) : 0 ≤ dueHour a0 a1 a2 a3 a4 a5 a6 a7 ∧ dueHour a0 a1 a2 a3 a4 a5 a6 a7 ≤ 104320 := by
  unfold dueHour
  rw [if_pos h]
  have h1 := isFind_at h
  have h2 := keepDays_le a1
  omega
end Go.Proofs.YtnlgilmbmoiniaaDoor.PFnTasks
namespace Go.Proofs.YtnlgilmbmoiniaaDoor.PFnTasks
open Go.RowKit Go.Proofs.YtnlgilmbmoiniaaDoorW.PrintWords Go.Proofs.YtnlgilmbmoiniaaDoorW.PrintLast Go.Proofs.YtnlgilmbmoiniaaDoor.EvLib
theorem implIsThing_eq (a0 a1 a2 a3 a4 : Int) : impl_IsThing.f a0 a1 a2 a3 a4 = some (isThing a0 a1 a2 a3 a4) := by simp only [impl_IsThing.f, inRange_eq, Option.bind_some, if_and, isThing]
theorem implIsFind_eq (a0 a1 a2 a3 a4 a5 a6 a7 : Int) : impl_IsFind.f a0 a1 a2 a3 a4 a5 a6 a7 = some (isFind a0 a1 a2 a3 a4 a5 a6 a7) := by simp only [impl_IsFind.f, implIsThing_eq, inRange_eq, Option.bind_some, if_and, isFind]
theorem implKeepDays_ev (a : Int) : Ev (fun k => impl_KeepDays.f k a) (keepDays a) := by
  unfold impl_KeepDays.f
  refine ev_ite (fun h => ev_some (by unfold keepDays; rw [if_pos h])) (fun h => ev_ite (fun h2 => ev_step (fun k => by simp only [impl_KeepDays.j0]; rfl) (ev_itep (by simpa using h2) (ev_some (by unfold keepDays; rw [if_neg h, if_pos (Or.inl h2)])))) (fun h2 => ev_step (fun k => by simp only [impl_KeepDays.j0]; rfl) (ev_ite (fun h3 => ev_some ?_) (fun h3 => ?_))))
  · have h4 : a = 5 := by simpa using h3
    unfold keepDays; rw [if_neg h, if_pos (Or.inr h4)]
  · have h4 : a ≠ 5 := by simpa using h3
    have e : keepDays a = if 1 ≤ a ∧ a ≤ 8 then 90 else 0 := by unfold keepDays; rw [if_neg h, if_neg (by omega)]
    rw [e]
    refine ev_ite (fun c => ev_some ?_) (fun _ => ev_ite (fun c => ev_some ?_) (fun _ => ev_ite (fun c => ev_some ?_) (fun _ => ev_ite (fun c => ev_some ?_) (fun _ => ev_ite (fun c => ev_some ?_) (fun _ => ev_some ?_)))))
    all_goals first | rw [if_pos (by omega)] | rw [if_neg (by omega)]
theorem implDueHour_ev (a0 a1 a2 a3 a4 a5 a6 a7 : Int) : Ev (fun k => impl_DueHour.f k a0 a1 a2 a3 a4 a5 a6 a7) (dueHour a0 a1 a2 a3 a4 a5 a6 a7) := by
  unfold impl_DueHour.f
  refine ev_bindc (implIsFind_eq _ _ _ _ _ _ _ _) (ev_ite (fun h => ev_bind (implKeepDays_ev _) (ev_some ?_)) (fun h => ev_some ?_))
  · have h1 := isFind_at h
    have h2 := keepDays_le a1
    rw [wrap_id (x := 24 * keepDays a1) (by omega) (by omega), wrap_id (by omega) (by omega)]
    unfold dueHour; rw [if_pos h]
  · unfold dueHour; rw [if_neg h]
end Go.Proofs.YtnlgilmbmoiniaaDoor.PFnTasks
namespace Go.Proofs.YtnlgilmbmoiniaaDoor.PFnTasks
open Go.RowKit Go.Proofs.YtnlgilmbmoiniaaDoorW.PrintWords Go.Proofs.YtnlgilmbmoiniaaDoorW.PrintLast Go.Proofs.YtnlgilmbmoiniaaDoor.EvLib

def isCal (l : List Bool) : Bool := l.contains true && l.length == 7
theorem drop_has (l : List Bool) (i : Nat) (h : i < l.length) : (l.drop i).contains true = (l[i] || (l.drop (i + 1)).contains true) := by
  rw [List.drop_eq_getElem_cons h, List.contains_cons]
  cases l[i] <;> rfl
theorem rd_at (l : List Bool) (i : Nat) (h : i < l.length) : rdOf false l (i : Int) = l[i] := by simp [rdOf, List.getD, h]
end Go.Proofs.YtnlgilmbmoiniaaDoor.PFnTasks
namespace Go.Proofs.YtnlgilmbmoiniaaDoor.PFnTasks
open Go.RowKit Go.Proofs.YtnlgilmbmoiniaaDoorW.PrintWords Go.Proofs.YtnlgilmbmoiniaaDoorW.PrintLast Go.Proofs.YtnlgilmbmoiniaaDoor.EvLib
theorem index_l0 (l : List Bool) (hl : l.length ≤ 1048576) (d : Nat) : ∀ (i : Nat), i ≤ l.length → l.length - i = d → ∃ r : Int, Ev (fun k => slices_Index_bool_bool.l0 k l true (l.length : Int) (i : Int)) r ∧ (decide (r ≥ 0)) = (l.drop i).contains true := by
  induction d with
  | zero =>
    intro i hi hd
    obtain rfl : i = l.length := by omega
    exact ⟨-1, ev_step (fun k => by simp only [slices_Index_bool_bool.l0]; rfl) (ev_iten (by omega) (ev_some rfl)), by simp⟩
  | succ d ih =>
    intro i hi hd
    have hdrop := drop_has l i (by omega)
    have hr := rd_at l i (by omega)
    by_cases h : l[i] = true
    · refine ⟨i, ev_step (fun k => by simp only [slices_Index_bool_bool.l0]; rfl) (ev_itep (by omega) (ev_itep (by omega) (ev_itep (by omega) (ev_itep (by rw [hr, h]; rfl) (ev_some rfl))))), ?_⟩
      rw [hdrop, h, Bool.true_or]; exact decide_eq_true (by omega)
    · obtain ⟨r, h1, h2⟩ := ih (i + 1) (by omega) (by omega)
      refine ⟨r, ev_step (fun k => by simp only [slices_Index_bool_bool.l0]; rfl) (ev_itep (by omega) (ev_itep (by omega) (ev_itep (by omega) (ev_iten (by rw [hr]; simpa using h) ?_)))), ?_⟩
      · rw [wrap_id (by omega) (by omega)]; exact h1
      · rw [hdrop, h2, Bool.eq_false_iff.mpr h, Bool.false_or]
theorem implIsCalendar_ev (l : List Bool) (hl : l.length ≤ 1048576) : Ev (fun k => impl_IsCalendar.f k l) (isCal l) := by
  unfold impl_IsCalendar.f slices_Contains_bool_bool.f slices_Index_bool_bool.f
  obtain ⟨r, h1, h2⟩ := index_l0 l hl l.length 0 (by omega) (by omega)
  refine ev_ite (fun h => ev_bind (ev_bind h1 (ev_some rfl)) (ev_some ?_)) (fun h => ev_some ?_)
  · rw [h2]; unfold isCal; simp; intro _; omega
  · unfold isCal; simp; intro _; omega
end Go.Proofs.YtnlgilmbmoiniaaDoor.PFnTasks
namespace Go.Proofs.YtnlgilmbmoiniaaDoor.PFnTasks
open Go.RowKit Go.Proofs.YtnlgilmbmoiniaaDoorW.PrintWords Go.Proofs.YtnlgilmbmoiniaaDoorW.PrintLast Go.Proofs.YtnlgilmbmoiniaaDoor.EvLib

theorem isCal_len {l : List Bool} (h : isCal l = true) : l.length = 7 := by unfold isCal at h; simp at h; exact h.2
theorem tm7 (a : Nat) : Int.tmod (a : Int) 7 = ((a % 7 : Nat) : Int) := by rw [Int.tmod_eq_emod_of_nonneg (by omega)]; omega
/-- Is a day open. -/
def opn (l : List Bool) (d : Nat) : Bool := l.getD (d % 7) false
theorem rd_opn (l : List Bool) (d : Nat) : rdOf false l (Int.tmod (d : Int) 7) = opn l d := by rw [tm7]; rfl
theorem some_open {l : List Bool} (h : isCal l = true) (i : Nat) : ∃ j, i ≤ j ∧ j ≤ i + 6 ∧ opn l j = true := by
  have hl := isCal_len h
  have hm : true ∈ l := by unfold isCal at h; simp at h; exact h.1
  obtain ⟨m, hm, hv⟩ := List.mem_iff_getElem.1 hm
  refine ⟨i + (m + 7 - i % 7) % 7, by omega, by omega, ?_⟩
  have e : (i + (m + 7 - i % 7) % 7) % 7 = m := by omega
  unfold opn
  rw [e]
  simp [List.getD, hm, hv]
end Go.Proofs.YtnlgilmbmoiniaaDoor.PFnTasks
namespace Go.Proofs.YtnlgilmbmoiniaaDoor.PFnTasks
open Go.RowKit Go.Proofs.YtnlgilmbmoiniaaDoorW.PrintWords Go.Proofs.YtnlgilmbmoiniaaDoorW.PrintLast Go.Proofs.YtnlgilmbmoiniaaDoor.EvLib

/-- A loop that goes on to the next open day. -/
theorem next_ev (L : Nat → List Bool → Int → Option Int) (hL : ∀ k x0 x1, L (k + 1) x0 x1 = if 0 ≤ (Int.tmod x1 7) then (if (Int.tmod x1 7) < (x0.length : Int) then (if (rdOf false x0 (Int.tmod x1 7) = true) then (some x1) else (L k x0 (wrap64 (x1 + 1)))) else (none)) else (none))
    {l : List Bool} (h : l.length = 7) (i j : Nat) (hj : j ≤ 1000000000) (hij : i ≤ j) (ho : opn l j = true) : ∃ r : Nat, i ≤ r ∧ r ≤ j ∧ opn l r = true ∧ (∀ q, i ≤ q → q < r → opn l q = false) ∧ Ev (fun k => L k l (i : Int)) (r : Int) := by
  have key : ∀ d i, i + d = j → ∃ r : Nat, i ≤ r ∧ r ≤ j ∧ opn l r = true ∧ (∀ q, i ≤ q → q < r → opn l q = false) ∧ Ev (fun k => L k l (i : Int)) (r : Int) := by
    intro d
    induction d with
    | zero =>
      intro i hi
      obtain rfl : i = j := by omega
      refine ⟨i, by omega, by omega, ho, fun q h1 h2 => by omega, ev_step (fun k => hL k _ _) (ev_itep ?_ (ev_itep ?_ (ev_itep (by rw [rd_opn]; exact ho) (ev_some rfl))))⟩
      · rw [tm7]; omega
      · rw [tm7]; omega
    | succ d ih =>
      intro i hi
      by_cases hc : opn l i = true
      · refine ⟨i, by omega, by omega, hc, fun q h1 h2 => by omega, ev_step (fun k => hL k _ _) (ev_itep ?_ (ev_itep ?_ (ev_itep (by rw [rd_opn]; exact hc) (ev_some rfl))))⟩
        · rw [tm7]; omega
        · rw [tm7]; omega
      · obtain ⟨r, h1, h2, h3, h4, h5⟩ := ih (i + 1) (by omega)
        refine ⟨r, by omega, h2, h3, fun q hq1 hq2 => ?_, ev_step (fun k => hL k _ _) (ev_itep ?_ (ev_itep ?_ (ev_iten (by rw [rd_opn]; exact hc) ?_)))⟩
        · by_cases e : q = i
          · subst e; exact Bool.eq_false_iff.mpr hc
          · exact h4 q (by omega) hq2
        · rw [tm7]; omega
        · rw [tm7]; omega
        · rw [wrap_id (by omega) (by omega)]; exact h5
  exact key (j - i) i (by omega)
theorem next_one {l : List Bool} {i r s : Nat} (h1 : i ≤ r) (h2 : opn l r = true) (h3 : ∀ q, i ≤ q → q < r → opn l q = false) (g1 : i ≤ s) (g2 : opn l s = true) (g3 : ∀ q, i ≤ q → q < s → opn l q = false) : r = s := by
  rcases Nat.lt_trichotomy r s with h | h | h
  · have := g3 r h1 h; rw [h2] at this; cases this
  · exact h
  · have := h3 s g1 h; rw [g2] at this; cases this
/-- What NextOpen says. -/
def NextIs (l : List Bool) (a r : Int) : Prop :=
  if isCal l = true ∧ 0 ≤ a ∧ a ≤ 100000 then ∃ i j : Nat, a = i ∧ r = j ∧ i ≤ j ∧ j ≤ i + 6 ∧ opn l j = true ∧ ∀ q, i ≤ q → q < j → opn l q = false else r = -1
theorem NextIs.one {l : List Bool} {a r s : Int} (h : NextIs l a r) (g : NextIs l a s) : r = s := by
  unfold NextIs at h g
  split at h
  · rename_i hc
    rw [if_pos hc] at g
    obtain ⟨i, j, rfl, rfl, h1, h2, h3, h4⟩ := h
    obtain ⟨i', j', e, rfl, g1, g2, g3, g4⟩ := g
    obtain rfl : i = i' := by omega
    rw [next_one h1 h3 h4 g1 g3 g4]
  · rename_i hc
    rw [if_neg hc] at g
    rw [h, g]
theorem implNextOpen_ev (l : List Bool) (hl : l.length ≤ 1048576) (a : Int) : ∃ r, NextIs l a r ∧ Ev (fun k => impl_NextOpen.f k l a) r := by
  unfold impl_NextOpen.f
  by_cases h : isCal l = true
  · by_cases h2 : 0 ≤ a ∧ a ≤ 100000
    · obtain ⟨i, rfl⟩ := Int.eq_ofNat_of_zero_le h2.1
      obtain ⟨j, hj1, hj2, hj3⟩ := some_open h i
      obtain ⟨r, h3, h4, h5, h6, h7⟩ := next_ev impl_NextOpen.l0 (fun k _ _ => by simp only [impl_NextOpen.l0]) (isCal_len h) i j (by omega) hj1 hj3
      refine ⟨r, ?_, ev_bind (implIsCalendar_ev l hl) (ev_itep h (ev_bindc (inRange_eq _ _ _) (ev_step (fun k => by simp only [impl_NextOpen.j0]; rfl) (ev_iten (by simp; omega) h7))))⟩
      unfold NextIs
      rw [if_pos ⟨h, h2⟩]
      exact ⟨i, r, rfl, rfl, h3, by omega, h5, h6⟩
    · refine ⟨-1, by unfold NextIs; rw [if_neg (fun c => h2 c.2)], ev_bind (implIsCalendar_ev l hl) (ev_itep h (ev_bindc (inRange_eq _ _ _) (ev_step (fun k => by simp only [impl_NextOpen.j0]; rfl) (ev_itep (by rw [decide_eq_false h2]; rfl) (ev_some rfl)))))⟩
  · exact ⟨-1, by unfold NextIs; rw [if_neg (fun c => h c.1)], ev_bind (implIsCalendar_ev l hl) (ev_iten h (ev_step (fun k => by simp only [impl_NextOpen.j0]; rfl) (ev_itep (by first | rfl | trivial) (ev_some rfl))))⟩
end Go.Proofs.YtnlgilmbmoiniaaDoor.PFnTasks
namespace Go.Proofs.YtnlgilmbmoiniaaDoor.PFnTasks
open Go.RowKit Go.Proofs.YtnlgilmbmoiniaaDoorW.PrintWords Go.Proofs.YtnlgilmbmoiniaaDoorW.PrintLast Go.Proofs.YtnlgilmbmoiniaaDoor.EvLib
def LastIs (l : List Bool) (a0 a1 a2 a3 a4 a5 a6 a7 r : Int) : Prop := if isFind a0 a1 a2 a3 a4 a5 a6 a7 = true then NextIs l (dueHour a0 a1 a2 a3 a4 a5 a6 a7 / 24) r else r = -1
theorem due24 {a0 a1 a2 a3 a4 a5 a6 a7 : Int} (h : isFind a0 a1 a2 a3 a4 a5 a6 a7 = true) : wrap64 (Int.tdiv (dueHour a0 a1 a2 a3 a4 a5 a6 a7) 24) = dueHour a0 a1 a2 a3 a4 a5 a6 a7 / 24 := by
  have := dueHour_le h
  rw [Int.tdiv_eq_ediv_of_nonneg this.1, wrap_id (by omega) (by omega)]
theorem implLastDay_ev (l : List Bool) (hl : l.length ≤ 1048576) (a0 a1 a2 a3 a4 a5 a6 a7 : Int) : ∃ r, LastIs l a0 a1 a2 a3 a4 a5 a6 a7 r ∧ Ev (fun k => impl_LastDay.f k l a0 a1 a2 a3 a4 a5 a6 a7) r := by
  unfold impl_LastDay.f LastIs
  by_cases h : isFind a0 a1 a2 a3 a4 a5 a6 a7 = true
  · obtain ⟨r, h1, h2⟩ := implNextOpen_ev l hl (dueHour a0 a1 a2 a3 a4 a5 a6 a7 / 24)
    refine ⟨r, by rw [if_pos h]; exact h1, ev_bindc (implIsFind_eq _ _ _ _ _ _ _ _) (ev_itep h (ev_bind (implDueHour_ev _ _ _ _ _ _ _ _) (ev_bind ?_ (ev_some rfl))))⟩
    rw [due24 h]
    exact h2
  · exact ⟨-1, by rw [if_neg h], ev_bindc (implIsFind_eq _ _ _ _ _ _ _ _) (ev_iten h (ev_some rfl))⟩
end Go.Proofs.YtnlgilmbmoiniaaDoor.PFnTasks
namespace Go.Proofs.YtnlgilmbmoiniaaDoor.PFnTasks
open Go.RowKit Go.Proofs.YtnlgilmbmoiniaaDoorW.PrintWords Go.Proofs.YtnlgilmbmoiniaaDoorW.PrintLast Go.Proofs.YtnlgilmbmoiniaaDoor.EvLib
def isOpen (l : List Bool) (a : Int) : Bool := isCal l && (decide (0 ≤ a ∧ a ≤ 100000) && rdOf false l (Int.tmod a 7))
theorem isOpen_nat {l : List Bool} {i : Nat} (h : isCal l = true) (hi : i ≤ 100000) : isOpen l (i : Int) = opn l i := by
  unfold isOpen
  rw [h, rd_opn, decide_eq_true (by omega)]
  rfl
theorem implIsOpen_ev (l : List Bool) (hl : l.length ≤ 1048576) (a : Int) : Ev (fun k => impl_IsOpen.f k l a) (isOpen l a) := by
  unfold impl_IsOpen.f
  refine ev_bind (implIsCalendar_ev l hl) (ev_ite (fun h => ev_bindc (inRange_eq _ _ _) (ev_ite (fun h2 => ?_) (fun h2 => ev_some ?_))) (fun h => ev_some ?_))
  · have h3 := isCal_len h
    have h4 := of_decide_eq_true h2
    obtain ⟨i, rfl⟩ := Int.eq_ofNat_of_zero_le h4.1
    exact ev_itep (by rw [tm7]; omega) (ev_itep (by rw [tm7]; omega) (ev_some (by unfold isOpen; rw [h, h2]; rfl)))
  · unfold isOpen; rw [Bool.eq_false_iff.mpr h2, Bool.false_and, Bool.and_false]
  · unfold isOpen; rw [Bool.eq_false_iff.mpr h]; rfl
end Go.Proofs.YtnlgilmbmoiniaaDoor.PFnTasks
namespace Go.Proofs.YtnlgilmbmoiniaaDoor.PFnTasks
open Go.RowKit Go.Proofs.YtnlgilmbmoiniaaDoorW.PrintWords Go.Proofs.YtnlgilmbmoiniaaDoorW.PrintLast Go.Proofs.YtnlgilmbmoiniaaDoor.EvLib
abbrev IClaim := S73
theorem firstProved_ev (l : List IClaim) (hl : l.length ≤ 1048576) (id : Int) : ∃ r, Ev (fun k => impl_FirstProved.f k l id) r := by
  unfold impl_FirstProved.f
  have key : ∀ (d i : Nat), i + d = l.length → ∀ (fl : Bool) (b0 b1 b2 b3 b4 : Int), ∃ r, Ev (fun k => impl_FirstProved.l0 k id fl l (l.length : Int) (i : Int) b0 b1 b2 b3 b4) r := by
    intro d
    induction d with
    | zero => exact fun i hi fl b0 b1 b2 b3 b4 => ⟨b0, ev_step (fun k => by simp only [impl_FirstProved.l0]; rfl) (ev_iten (by omega) (ev_some rfl))⟩
    | succ d ih =>
      intro i hi fl b0 b1 b2 b3 b4
      have hw : wrap64 ((i : Int) + 1) = ((i + 1 : Nat) : Int) := by rw [wrap_id (by omega) (by omega)]; omega
      obtain ⟨rk, k1⟩ := ih (i + 1) (by omega) fl b0 b1 b2 b3 b4
      obtain ⟨rt, t1⟩ := ih (i + 1) (by omega) true (rd_T73 l (i : Int)).f0 (rd_T73 l (i : Int)).f1 (rd_T73 l (i : Int)).f2 (rd_T73 l (i : Int)).f3 (rd_T73 l (i : Int)).f4
      rw [← hw] at k1 t1
      by_cases c1 : (rd_T73 l (i : Int)).f2 = id
      · by_cases c2 : (rd_T73 l (i : Int)).f4 = 1
        · cases fl with
          | true =>
            by_cases c3 : (rd_T73 l (i : Int)).f3 < b3
            · exact ⟨rt, ev_step (fun k => by simp only [impl_FirstProved.l0]; rfl) (ev_itep (by omega) (ev_itep (by omega) (ev_itep (by omega) (ev_itep c1 (ev_itep c2 (ev_itep (show true = true from rfl) (ev_itep c3 t1)))))))⟩
            · exact ⟨rk, ev_step (fun k => by simp only [impl_FirstProved.l0]; rfl) (ev_itep (by omega) (ev_itep (by omega) (ev_itep (by omega) (ev_itep c1 (ev_itep c2 (ev_itep (show true = true from rfl) (ev_iten c3 k1)))))))⟩
          | false => exact ⟨rt, ev_step (fun k => by simp only [impl_FirstProved.l0]; rfl) (ev_itep (by omega) (ev_itep (by omega) (ev_itep (by omega) (ev_itep c1 (ev_itep c2 (ev_iten (by simp) t1))))))⟩
        · exact ⟨rk, ev_step (fun k => by simp only [impl_FirstProved.l0]; rfl) (ev_itep (by omega) (ev_itep (by omega) (ev_itep (by omega) (ev_itep c1 (ev_iten c2 k1)))))⟩
      · exact ⟨rk, ev_step (fun k => by simp only [impl_FirstProved.l0]; rfl) (ev_itep (by omega) (ev_itep (by omega) (ev_itep (by omega) (ev_iten c1 k1))))⟩
  exact key l.length 0 (by omega) false 0 0 0 0 0
def isDue (a0 a1 a2 a3 a4 a5 a6 a7 h : Int) : Bool := if isFind a0 a1 a2 a3 a4 a5 a6 a7 = true then decide (h ≥ dueHour a0 a1 a2 a3 a4 a5 a6 a7) else false
theorem implIsDue_ev (a0 a1 a2 a3 a4 a5 a6 a7 h : Int) : Ev (fun k => impl_IsDue.f k a0 a1 a2 a3 a4 a5 a6 a7 h) (isDue a0 a1 a2 a3 a4 a5 a6 a7 h) := by
  unfold impl_IsDue.f isDue
  refine ev_bindc (implIsFind_eq _ _ _ _ _ _ _ _) (ev_ite (fun c => ev_bind (implDueHour_ev _ _ _ _ _ _ _ _) (ev_some ?_)) (fun c => ev_some ?_))
  · rw [if_pos c]
  · rw [if_neg c]
theorem fateOf_in (a0 a1 a2 a3 a4 a5 a6 a7 : Int) (l : List IClaim) (hl : l.length ≤ 1048576) (h : Int) : ∃ r : Int, Ev (fun k => impl_FateOf.f k a0 a1 a2 a3 a4 a5 a6 a7 l h) r ∧ 0 ≤ r ∧ r ≤ 5 := by
  unfold impl_FateOf.f
  obtain ⟨fp, h1⟩ := firstProved_ev l hl a0
  have hd := implIsDue_ev a0 a1 a2 a3 a4 a5 a6 a7 h
  have ht : 0 ≤ impl_FateOf.tail a1 a4 a7 ∧ impl_FateOf.tail a1 a4 a7 ≤ 5 := by
    unfold impl_FateOf.tail
    repeat' split
    all_goals omega
  by_cases c : fp = 0
  · by_cases c1 : isDue a0 a1 a2 a3 a4 a5 a6 a7 h = true
    · by_cases c2 : 0 ≤ idxB (impl_FateOf.p a0) l 0
      · exact ⟨0, ev_bind h1 (ev_itep c (ev_bind hd (ev_itep c1 (ev_itep c2 (ev_some rfl))))), by omega, by omega⟩
      · exact ⟨_, ev_bind h1 (ev_itep c (ev_bind hd (ev_itep c1 (ev_iten c2 (ev_some rfl))))), ht.1, ht.2⟩
    · exact ⟨0, ev_bind h1 (ev_itep c (ev_bind hd (ev_iten c1 (ev_some rfl)))), by omega, by omega⟩
  · exact ⟨1, ev_bind h1 (ev_iten c (ev_some rfl)), by omega, by omega⟩
theorem nextIs_open {l : List Bool} {a r : Int} (hc : isCal l = true) (h0 : 0 ≤ a) (h1 : a ≤ 99990) (h : NextIs l a r) : isOpen l r = true ∧ 0 ≤ r ∧ r ≤ 100000 := by
  unfold NextIs at h
  rw [if_pos ⟨hc, h0, by omega⟩] at h
  obtain ⟨i, j, rfl, rfl, g1, g2, g3, _⟩ := h
  exact ⟨by rw [isOpen_nat hc (by omega)]; exact g3, by omega, by omega⟩
theorem task_j0 (c : List IClaim) (hc : c.length ≤ 1048576) (l : List Bool) (hl : l.length ≤ 1048576) (h : Int) (q : Bool) (a0 a1 a2 a3 a4 a5 a6 a7 : Int) :
    ∃ r : Int × Int × Int, Ev (fun k => impl_TaskOf.j0 k c l h q a0 a1 a2 a3 a4 a5 a6 a7) r ∧ (q = true → r = (0, 0, 0)) ∧ (q = false → isFind a0 a1 a2 a3 a4 a5 a6 a7 = true → isCal l = true → 0 ≤ h → h ≤ 100000 → r.1 = a0 ∧ 0 ≤ r.2.1 ∧ r.2.1 ≤ 5 ∧ 0 ≤ r.2.2 ∧ r.2.2 ≤ 100000 ∧ (r.2.1 = 1 ∨ r.2.1 = 0 → isOpen l r.2.2 = true)) := by
  cases q with
  | true => exact ⟨(0, 0, 0), ev_step (fun k => by simp only [impl_TaskOf.j0]; rfl) (ev_itep (show true = true from rfl) (ev_some rfl)), fun _ => rfl, fun e => absurd e (by simp)⟩
  | false =>
    obtain ⟨f, f1, f2, f3⟩ := fateOf_in a0 a1 a2 a3 a4 a5 a6 a7 c hc h
    obtain ⟨n, n0, n1⟩ := implNextOpen_ev l hl (wrap64 (Int.tdiv h 24))
    obtain ⟨d, d0, d1⟩ := implLastDay_ev l hl a0 a1 a2 a3 a4 a5 a6 a7
    have w : 0 ≤ h → h ≤ 100000 → wrap64 (Int.tdiv h 24) = h / 24 := fun g0 g1 => by rw [Int.tdiv_eq_ediv_of_nonneg g0, wrap_id (by omega) (by omega)]
    by_cases c1 : f = 1
    · refine ⟨(a0, f, n), ev_step (fun k => by simp only [impl_TaskOf.j0]; rfl) (ev_iten (by simp) ?_), fun e => absurd e (by simp), fun _ _ g1 g2 g3 => ?_⟩
      · exact ev_bind f1 (ev_itep c1 (ev_bind n1 (ev_some rfl)))
      rw [w g2 g3] at n0
      obtain ⟨e1, e2, e3⟩ := nextIs_open g1 (by omega) (by omega) n0
      exact ⟨rfl, f2, f3, e2, e3, fun _ => e1⟩
    · by_cases c2 : f = 0
      · refine ⟨(a0, f, d), ev_step (fun k => by simp only [impl_TaskOf.j0]; rfl) (ev_iten (by simp) ?_), fun e => absurd e (by simp), fun _ g0 g1 g2 g3 => ?_⟩
        · exact ev_bind f1 (ev_iten c1 (ev_itep c2 (ev_bind d1 (ev_some rfl))))
        unfold LastIs at d0
        rw [if_pos g0] at d0
        have := dueHour_le g0
        obtain ⟨e1, e2, e3⟩ := nextIs_open g1 (by omega) (by omega) d0
        exact ⟨rfl, f2, f3, e2, e3, fun _ => e1⟩
      · refine ⟨(a0, f, wrap64 (Int.tdiv h 24)), ev_step (fun k => by simp only [impl_TaskOf.j0]; rfl) (ev_iten (by simp) ?_), fun e => absurd e (by simp), fun _ _ _ g2 g3 => ?_⟩
        · exact ev_bind f1 (ev_iten c1 (ev_iten c2 (ev_some rfl)))
        rw [w g2 g3]
        refine ⟨rfl, f2, f3, by show 0 ≤ h / 24; omega, by show h / 24 ≤ 100000; omega, fun e => ?_⟩
        rcases e with e | e
        · exact absurd e c1
        · exact absurd e c2
theorem taskOf_ok (a0 a1 a2 a3 a4 a5 a6 a7 : Int) (c : List IClaim) (hc : c.length ≤ 1048576) (l : List Bool) (hl : l.length ≤ 1048576) (h : Int) :
    ∃ r : Int × Int × Int, Ev (fun k => impl_TaskOf.f k a0 a1 a2 a3 a4 a5 a6 a7 c l h) r ∧ (¬ (isCal l = true ∧ decide (0 ≤ h ∧ h ≤ 100000) = true) → r = (0, 0, 0)) ∧ (isFind a0 a1 a2 a3 a4 a5 a6 a7 = true → isCal l = true → decide (0 ≤ h ∧ h ≤ 100000) = true → r.1 = a0 ∧ 0 ≤ r.2.1 ∧ r.2.1 ≤ 5 ∧ 0 ≤ r.2.2 ∧ r.2.2 ≤ 100000 ∧ (r.2.1 = 1 ∨ r.2.1 = 0 → isOpen l r.2.2 = true)) := by
  unfold impl_TaskOf.f
  obtain ⟨r, r1, r2, _⟩ := task_j0 c hc l hl h true a0 a1 a2 a3 a4 a5 a6 a7
  obtain ⟨s, s1, s2, s3⟩ := task_j0 c hc l hl h (!decide (0 ≤ h ∧ h ≤ 100000)) a0 a1 a2 a3 a4 a5 a6 a7
  by_cases c1 : isFind a0 a1 a2 a3 a4 a5 a6 a7 = true
  · by_cases c2 : isCal l = true
    · exact ⟨s, ev_bindc (implIsFind_eq _ _ _ _ _ _ _ _) (ev_itep c1 (ev_bind (implIsCalendar_ev l hl) (ev_itep c2 (ev_bindc (inRange_eq _ _ _) s1)))),
        fun e => s2 (by cases q : decide (0 ≤ h ∧ h ≤ 100000) with | true => exact absurd ⟨c2, q⟩ e | false => rfl), fun _ _ e => by have g := of_decide_eq_true e; exact s3 (by rw [e]; rfl) c1 c2 g.1 g.2⟩
    · exact ⟨r, ev_bindc (implIsFind_eq _ _ _ _ _ _ _ _) (ev_itep c1 (ev_bind (implIsCalendar_ev l hl) (ev_iten c2 r1))), fun _ => r2 rfl, fun _ e => absurd e c2⟩
  · exact ⟨r, ev_bindc (implIsFind_eq _ _ _ _ _ _ _ _) (ev_iten c1 r1), fun _ => r2 rfl, fun e => absurd e c1⟩
end Go.Proofs.YtnlgilmbmoiniaaDoor.PFnTasks
namespace Go.Proofs.YtnlgilmbmoiniaaDoor.PFnTasks
open Go.RowKit Go.Proofs.YtnlgilmbmoiniaaDoorW.PrintWords Go.Proofs.YtnlgilmbmoiniaaDoorW.PrintLast Go.Proofs.YtnlgilmbmoiniaaDoor.EvLib
abbrev STask := S33
abbrev tle := impl_Task.le
theorem tle_iff (x y : STask) : tle x y = true ↔ ¬ (y.f2 < x.f2 ∨ (y.f2 = x.f2 ∧ (y.f1 < x.f1 ∨ (y.f1 = x.f1 ∧ y.f0 < x.f0)))) := by
  unfold tle impl_Task.le impl_Task.lt
  simp only [Bool.not_eq_true', decide_eq_false_iff_not]
theorem tle_trans (x y z : STask) (h1 : tle x y = true) (h2 : tle y z = true) : tle x z = true := by
  rw [tle_iff] at *; omega
theorem tle_total (x y : STask) : (tle x y || tle y x) = true := by
  rw [Bool.or_eq_true, tle_iff, tle_iff]; omega
theorem tle_anti (x y : STask) (h1 : tle x y = true) (h2 : tle y x = true) : x = y := by
  rw [tle_iff] at h1 h2
  obtain ⟨a, b, c⟩ := x
  obtain ⟨p, q, r⟩ := y
  simp only at h1 h2
  have e1 : c = r := by omega
  have e2 : b = q := by omega
  have e3 : a = p := by omega
  rw [e1, e2, e3]
abbrev Srtd (l : List STask) : Prop := l.Pairwise fun x y => tle x y = true
theorem uniq : ∀ (l m : List STask), Srtd l → Srtd m → l.Perm m → l = m
  | [], m, _, _, h => (List.Perm.nil_eq h)
  | a :: l, [], _, _, h => by have := h.length_eq; simp at this
  | a :: l, b :: m, h1, h2, h => by
    have e : a = b := by
      by_cases e : a = b
      · exact e
      · have ha : a ∈ m := by
          have : a ∈ b :: m := h.mem_iff.1 (by simp)
          rcases List.mem_cons.1 this with q | q
          · exact absurd q e
          · exact q
        have hb : b ∈ l := by
          have : b ∈ a :: l := h.mem_iff.2 (by simp)
          rcases List.mem_cons.1 this with q | q
          · exact absurd q.symm e
          · exact q
        exact tle_anti a b ((List.pairwise_cons.1 h1).1 b hb) ((List.pairwise_cons.1 h2).1 a ha)
    subst e
    rw [uniq l m (List.pairwise_cons.1 h1).2 (List.pairwise_cons.1 h2).2 ((List.perm_cons a).1 h)]
theorem sort_uniq (l m : List STask) (hs : Srtd l) (h : l.Perm m) : l = m.mergeSort tle :=
  uniq l _ hs (List.pairwise_mergeSort tle_trans tle_total m) (h.trans (List.mergeSort_perm m tle).symm)
def tsk (l : List STask) (i : Nat) : STask := rd_T33 l (i : Int)
theorem tsk_get (l : List STask) (i : Nat) (h : i < l.length) : tsk l i = l[i] := by
  unfold tsk rd_T33
  rw [Int.toNat_natCast, List.getD_eq_getElem?_getD, List.getElem?_eq_getElem h, Option.getD_some]
/-- The place at which x is put, looked for from n down. -/
def ipos (l : List STask) (x : STask) : Nat → Nat
  | 0 => 0
  | n + 1 => if tle (tsk l n) x = true then n + 1 else ipos l x n
theorem ipos_le (l : List STask) (x : STask) : ∀ n, ipos l x n ≤ n
  | 0 => Nat.le_refl _
  | n + 1 => by
    rw [ipos]
    split
    · exact Nat.le_refl _
    · exact Nat.le_succ_of_le (ipos_le l x n)
theorem ipos_lo (l : List STask) (x : STask) : ∀ n, 0 < ipos l x n → tle (tsk l (ipos l x n - 1)) x = true
  | 0, h => by rw [ipos] at h; omega
  | n + 1, h => by
    rw [ipos] at h ⊢
    split at h
    case isTrue c => rw [if_pos c]; exact c
    case isFalse c => rw [if_neg c]; exact ipos_lo l x n h
theorem ipos_hi (l : List STask) (x : STask) : ∀ n j, ipos l x n ≤ j → j < n → tle (tsk l j) x = false
  | 0, j, _, h => by omega
  | n + 1, j, h1, h2 => by
    rw [ipos] at h1
    split at h1
    case isTrue c => omega
    case isFalse c =>
      by_cases e : j = n
      · rw [e]; exact Bool.eq_false_iff.mpr c
      · exact ipos_hi l x n j h1 (by omega)
def putT (l : List STask) (x : STask) : List STask := l.take (ipos l x l.length) ++ x :: l.drop (ipos l x l.length)
theorem putT_perm (l : List STask) (x : STask) : (putT l x).Perm (l ++ [x]) := by
  unfold putT
  refine (List.perm_middle).trans ?_
  rw [List.take_append_drop]
  exact (List.perm_append_singleton x l).symm
theorem putT_srtd (l : List STask) (x : STask) (h : Srtd l) : Srtd (putT l x) := by
  have hle := ipos_le l x l.length
  have hlo := ipos_lo l x l.length
  have hhi := ipos_hi l x l.length
  have hq := List.pairwise_iff_getElem.1 h
  unfold putT
  generalize ipos l x l.length = n at hle hlo hhi
  have hA : ∀ a ∈ l.take n, tle a x = true := by
    intro a ha
    obtain ⟨i, hi, rfl⟩ := List.mem_iff_getElem.1 ha
    rw [List.length_take] at hi
    rw [List.getElem_take]
    have h1 := hlo (by omega)
    rw [tsk_get l (n - 1) (by omega)] at h1
    by_cases e : i = n - 1
    · subst e; exact h1
    · exact tle_trans _ _ _ (hq i (n - 1) (by omega) (by omega) (by omega)) h1
  have hB : ∀ b ∈ l.drop n, tle x b = true := by
    intro b hb
    obtain ⟨i, hi, rfl⟩ := List.mem_iff_getElem.1 hb
    rw [List.length_drop] at hi
    rw [List.getElem_drop]
    have h1 := hhi (n + i) (by omega) (by omega)
    rw [tsk_get l (n + i) (by omega)] at h1
    have h2 := tle_total x l[n + i]
    rw [h1, Bool.or_false] at h2
    exact h2
  refine List.pairwise_append.2 ⟨h.sublist (List.take_sublist _ _), List.pairwise_cons.2 ⟨hB, h.sublist (List.drop_sublist _ _)⟩, ?_⟩
  intro a ha b hb
  rcases List.mem_cons.1 hb with rfl | hb
  · exact hA a ha
  · exact tle_trans _ _ _ (hA a ha) (hB b hb)
end Go.Proofs.YtnlgilmbmoiniaaDoor.PFnTasks
namespace Go.Proofs.YtnlgilmbmoiniaaDoor.PFnTasks
open Go.RowKit Go.Proofs.YtnlgilmbmoiniaaDoorW.PrintWords Go.Proofs.YtnlgilmbmoiniaaDoorW.PrintLast Go.Proofs.YtnlgilmbmoiniaaDoor.EvLib
abbrev TFind := S38
abbrev TClaim := S73
def fnd (F : List TFind) (i : Nat) : TFind := rd_T38 F (i : Int)
theorem fnd_get (F : List TFind) (i : Nat) (h : i < F.length) : fnd F i = F[i] := by
  unfold fnd rd_T38
  rw [Int.toNat_natCast, List.getD_eq_getElem?_getD, List.getElem?_eq_getElem h, Option.getD_some]
theorem fnd_take (F : List TFind) (T : TFind → STask) (i : Nat) (h : i < F.length) : (F.take (i + 1)).map T = (F.take i).map T ++ [T (fnd F i)] := by
  rw [List.take_succ_eq_append_getElem h, List.map_append, fnd_get F i h]; rfl
theorem impl_loop (F : List TFind) (C : List TClaim) (B : List Bool) (h : Int) (hF : F.length ≤ 1048576) (T : TFind → STask)
    (hT : ∀ f, Ev (fun k => impl_TaskOf.f k f.f0.f0 f.f0.f1 f.f0.f2 f.f0.f3 f.f0.f4 f.f1 f.f2 f.f3 C B h) ((T f).f0, (T f).f1, (T f).f2)) (hz : ∀ f, f ∈ F → (T f).f0 ≠ 0) :
    ∀ (d i : Nat), i + d = F.length → Ev (fun k => impl_TasksFor.l0 k C B h ((F.take i).map T) F (F.length : Int) (i : Int)) ((F.map T).mergeSort tle) := by
  intro d
  induction d with
  | zero =>
    intro i hi
    rw [List.take_of_length_le (by omega)]
    refine ev_step (fun k => by simp only [impl_TasksFor.l0]; rfl) (ev_iten (by omega) (ev_bindc (a := (F.map T).mergeSort tle) ?_ (ev_some rfl)))
    unfold impl_Task.f
    rw [if_pos (by rw [List.length_map]; omega)]
  | succ d ih =>
    intro i hi
    have hil : i < F.length := by omega
    have hn := ih (i + 1) (by omega)
    rw [fnd_take F T i hil] at hn
    have hz1 := hz (fnd F i) (by rw [fnd_get F i hil]; exact List.getElem_mem _)
    have w1 : wrap64 ((i : Int) + 1) = ((i + 1 : Nat) : Int) := by rw [wrap_id (by omega) (by omega)]; omega
    refine ev_step (fun k => by simp only [impl_TasksFor.l0]; rfl) (ev_itep (by omega) (ev_itep (by omega) (ev_itep (by omega) ?_)))
    refine ev_bind (hT (fnd F i)) (ev_iten (by simp [hz1]) (ev_itep (by rw [List.length_map, List.length_take]; omega) ?_))
    rw [w1]
    exact hn
theorem impl_zero (F : List TFind) (C : List TClaim) (B : List Bool) (h : Int) (hF : F.length ≤ 1048576)
    (hT : ∀ f : TFind, Ev (fun k => impl_TaskOf.f k f.f0.f0 f.f0.f1 f.f0.f2 f.f0.f3 f.f0.f4 f.f1 f.f2 f.f3 C B h) (0, 0, 0)) : Ev (fun k => impl_TasksFor.l0 k C B h [] F (F.length : Int) 0) [] := by
  by_cases c : F.length = 0
  · refine ev_step (fun k => by simp only [impl_TasksFor.l0]; rfl) (ev_iten (by omega) (ev_bindc (a := []) ?_ (ev_some rfl)))
    unfold impl_Task.f
    rw [if_pos (by simp)]
    congr 1
    exact List.eq_nil_of_length_eq_zero (by rw [List.length_mergeSort]; rfl)
  · refine ev_step (fun k => by simp only [impl_TasksFor.l0]; rfl) (ev_itep (by omega) (ev_itep (by omega) (ev_itep (by omega) ?_)))
    exact ev_bind (hT (fnd F 0)) (ev_itep rfl (ev_some rfl))
end Go.Proofs.YtnlgilmbmoiniaaDoor.PFnTasks
namespace Go.Proofs.YtnlgilmbmoiniaaDoor.PFnTasks
open Go.RowKit Go.Proofs.YtnlgilmbmoiniaaDoorW.PrintWords Go.Proofs.YtnlgilmbmoiniaaDoorW.PrintLast Go.Proofs.YtnlgilmbmoiniaaDoor.EvLib
abbrev IFind := S38
def fd (l : List IFind) (i : Nat) : IFind := l.getD i z38
theorem rd_fd (l : List IFind) (i : Nat) : rd_T38 l (i : Int) = fd l i := by unfold rd_T38 fd; rw [Int.toNat_natCast]
theorem fd_get (l : List IFind) (i : Nat) (h : i < l.length) : fd l i = l[i] := by simp [fd, List.getD, h]
def isFd (x : IFind) : Bool := isFind x.f0.f0 x.f0.f1 x.f0.f2 x.f0.f3 x.f0.f4 x.f1 x.f2 x.f3
def fdOk (l : List IFind) (i : Nat) : Bool := isFd (fd l i) && (decide (i = 0) || decide ((fd l (i - 1)).f0.f0 < (fd l i).f0.f0))
def areFd (l : List IFind) : Bool := (List.range l.length).all (fdOk l) && decide (l.length ≤ 20)
theorem areFd_ok {l : List IFind} (h : areFd l = true) (i : Nat) (hi : i < l.length) : fdOk l i = true := by
  unfold areFd at h
  rw [Bool.and_eq_true, List.all_eq_true] at h
  exact h.1 i (List.mem_range.mpr hi)
theorem areFd_len {l : List IFind} (h : areFd l = true) : l.length ≤ 20 := by
  unfold areFd at h
  rw [Bool.and_eq_true] at h
  exact of_decide_eq_true h.2
theorem implAreFinds_ev (l : List IFind) (hl : l.length ≤ 1048577) : Ev (fun k => impl_AreFinds.f k l) (areFd l) := by
  unfold impl_AreFinds.f
  refine ev_ite (fun h => ev_some ?_) (fun h => ev_eq (ev_all (fun k i => impl_AreFinds.l0 k l l (l.length : Int) i) l.length (fdOk l) true (by omega) (fun k => ?_) (fun k i hi => ?_)) ?_)
  · unfold areFd
    rw [decide_eq_false (by omega), Bool.and_false]
  · simp only [impl_AreFinds.l0]
    rw [if_neg (by omega)]
  · simp only [impl_AreFinds.l0, rd_fd, implIsFind_eq, Option.bind_some]
    rw [if_pos (by omega), if_pos (by omega), if_pos (by omega)]
    unfold fdOk isFd
    generalize isFind _ _ _ _ _ _ _ _ = b
    cases b with
    | false => simp
    | true =>
      by_cases h4 : i = 0
      · subst h4; simp
      · have e : wrap64 ((i : Int) - 1) = ((i - 1 : Nat) : Int) := by rw [wrap_id (by omega) (by omega)]; omega
        rw [e, rd_fd]
        have g1 : 0 < i := by omega
        have g2 : i - 1 < l.length := by omega
        by_cases h5 : (fd l (i - 1)).f0.f0 < (fd l i).f0.f0
        · have g5 : ¬ (fd l i).f0.f0 ≤ (fd l (i - 1)).f0.f0 := by omega
          simp [h4, h5, g1, g2, g5]
        · have g5 : (fd l i).f0.f0 ≤ (fd l (i - 1)).f0.f0 := by omega
          simp [h4, h5, g1, g2, g5]
  · unfold areFd
    rw [decide_eq_true (by omega)]
theorem areFd_id {l : List IFind} (h : areFd l = true) (x : IFind) (hx : x ∈ l) : isFd x = true ∧ 1 ≤ x.f0.f0 ∧ x.f0.f0 ≤ 999 := by
  obtain ⟨i, hi, rfl⟩ := List.getElem_of_mem hx
  have e := areFd_ok h i hi
  unfold fdOk at e
  rw [Bool.and_eq_true, fd_get l i hi] at e
  refine ⟨e.1, ?_⟩
  have g := e.1
  unfold isFd isFind isThing at g
  simp only [Bool.and_eq_true, decide_eq_true_eq] at g
  exact ⟨g.1.1.1, g.1.1.2⟩
theorem areFd_rise {l : List IFind} (h : areFd l = true) : ∀ (d i : Nat), i + d + 1 < l.length → (fd l i).f0.f0 < (fd l (i + d + 1)).f0.f0 := by
  intro d
  induction d with
  | zero =>
    intro i hi
    have e := areFd_ok h (i + 1) (by omega)
    unfold fdOk at e
    rw [Bool.and_eq_true, Bool.or_eq_true] at e
    rcases e.2 with e | e
    · exact absurd (of_decide_eq_true e) (by omega)
    · exact of_decide_eq_true e
  | succ d ih =>
    intro i hi
    have h1 := ih i (by omega)
    have e := areFd_ok h (i + d + 2) (by omega)
    unfold fdOk at e
    rw [Bool.and_eq_true, Bool.or_eq_true] at e
    rcases e.2 with e | e
    · exact absurd (of_decide_eq_true e) (by omega)
    · have e2 := of_decide_eq_true e
      rw [show i + d + 2 - 1 = i + d + 1 from by omega] at e2
      rw [show i + (d + 1) + 1 = i + d + 2 from by omega]
      omega
theorem areFd_one {l : List IFind} (h : areFd l = true) (i j : Nat) (hi : i < l.length) (hj : j < l.length) (e : (fd l i).f0.f0 = (fd l j).f0.f0) : i = j := by
  rcases Nat.lt_trichotomy i j with g | g | g
  · have := areFd_rise h (j - i - 1) i (by omega)
    rw [show i + (j - i - 1) + 1 = j from by omega] at this; omega
  · exact g
  · have := areFd_rise h (i - j - 1) j (by omega)
    rw [show j + (i - j - 1) + 1 = i from by omega] at this; omega
/-- Whatever stands in a good list is found by its thing. -/
theorem found (l : List IFind) (h : areFd l = true) (x : IFind) (hx : x ∈ l) : ∃ j : Nat, j < l.length ∧ impl_FindThing.f l x.f0.f0 = some (j : Int) ∧ fd l j = x := by
  unfold impl_FindThing.f
  obtain ⟨m, hm, rfl⟩ := List.getElem_of_mem hx
  rcases idxB_in (fun y : IFind => y.f0.f0 == l[m].f0.f0) z38 l 0 with ⟨_, g⟩ | ⟨j, g1, g2, g3, _⟩
  · have := g _ hx; simp at this
  · refine ⟨j, g1, by rw [g2, Nat.zero_add], ?_⟩
    have e : (fd l j).f0.f0 = (fd l m).f0.f0 := by rw [fd_get l m hm]; exact beq_iff_eq.mp g3
    have := areFd_one h j m g1 hm e
    rw [this, fd_get l m hm]
end Go.Proofs.YtnlgilmbmoiniaaDoor.PFnTasks
namespace Go.Proofs.YtnlgilmbmoiniaaDoor.PFnTasks
open Go.RowKit Go.Proofs.YtnlgilmbmoiniaaDoorW.PrintWords Go.Proofs.YtnlgilmbmoiniaaDoorW.PrintLast Go.Proofs.YtnlgilmbmoiniaaDoor.EvLib
def tkd (l : List ITask) (i : Nat) : ITask := l.getD i z33
theorem rd_tkd (l : List ITask) (i : Nat) : rd_T33 l (i : Int) = tkd l i := by unfold rd_T33 tkd; rw [Int.toNat_natCast]
def isToday (now : Int) (x : ITask) : Bool := decide (x.f2 ≤ Int.tdiv now 24 ∧ x.f1 ≠ 0)
def today (l : List ITask) (now : Int) : List ITask := if 0 ≤ now ∧ now ≤ 100000 then l.filter (isToday now) else []
theorem tdiv24 {now : Int} (h : 0 ≤ now ∧ now ≤ 100000) : wrap64 (Int.tdiv now 24) = Int.tdiv now 24 := by
  have e := Int.tdiv_eq_ediv_of_nonneg (b := 24) h.1
  rw [e, wrap_id (by omega) (by omega)]
theorem drop_tkd (l : List ITask) (i : Nat) (h : i < l.length) : l.drop i = tkd l i :: l.drop (i + 1) := by
  rw [List.drop_eq_getElem_cons h]
  simp [tkd, List.getD, h]
theorem implToday_l0 (l : List ITask) (hl : l.length ≤ 1048576) (now : Int) (hn : 0 ≤ now ∧ now ≤ 100000) : ∀ (d i : Nat) (s : List ITask), i + d = l.length → s.length ≤ i → Ev (fun k => impl_Today.l0 k now s l (l.length : Int) (i : Int)) (s ++ (l.drop i).filter (isToday now)) := by
  intro d
  induction d with
  | zero =>
    intro i s hi hs
    exact ev_step (fun k => by simp only [impl_Today.l0]; rfl) (ev_iten (by omega) (ev_some (by rw [List.drop_of_length_le (by omega)]; simp)))
  | succ d ih =>
    intro i s hi hs
    refine ev_step (fun k => by simp only [impl_Today.l0]; rfl) (ev_itep (by omega) (ev_itep (by omega) (ev_itep (by omega) ?_)))
    simp only [rd_tkd, wrap_id (x := (i : Int) + 1) (by omega) (by omega), tdiv24 hn]
    rw [drop_tkd l i (by omega)]
    refine ev_ite (fun c => ev_ite (fun c2 => ?_) (fun c2 => ev_itep (by omega) ?_)) (fun c => ?_)
    · rw [List.filter_cons_of_neg (by unfold isToday; simp [c2])]
      exact ih (i + 1) s (by omega) (by omega)
    · have := ih (i + 1) (s ++ [tkd l i]) (by omega) (by simp; omega)
      rw [List.filter_cons_of_pos (by unfold isToday; simp [c, c2])]
      rw [List.append_assoc, List.singleton_append] at this
      exact this
    · rw [List.filter_cons_of_neg (by unfold isToday; simp [c])]
      exact ih (i + 1) s (by omega) (by omega)
theorem implToday_ev (l : List ITask) (hl : l.length ≤ 1048576) (now : Int) : Ev (fun k => impl_Today.f k l now) (today l now) := by
  unfold impl_Today.f today
  refine ev_bindc rfl (ev_bindc (inRange_eq _ _ _) (ev_ite (fun h => ?_) (fun h => ev_some ?_)))
  · have h2 := of_decide_eq_true h
    rw [if_pos h2]
    exact implToday_l0 l hl now h2 l.length 0 [] (by omega) (by simp)
  · rw [if_neg (fun z => h (decide_eq_true z))]
end Go.Proofs.YtnlgilmbmoiniaaDoor.PFnTasks
namespace Go.Proofs.YtnlgilmbmoiniaaDoor.PFnTasks
open Go.RowKit Go.Proofs.YtnlgilmbmoiniaaDoorW.PrintWords Go.Proofs.YtnlgilmbmoiniaaDoorW.PrintLast Go.Proofs.YtnlgilmbmoiniaaDoor.EvLib
theorem and255 (x : Int) : 0 ≤ Go.bits .and .i64 x 255 ∧ Go.bits .and .i64 x 255 ≤ 255 := by
  unfold Go.bits
  simp only [BitVec.toNat_and]
  have h : (BitVec.ofInt IntKind.i64.bits x).toNat &&& (BitVec.ofInt IntKind.i64.bits 255).toNat ≤ 255 := Nat.le_trans Nat.and_le_right (by decide)
  rw [IntKind.wrap_i64]
  omega
theorem byte_ok (s : List Int) (hs : s.length ≤ 1048576) (p h : Int) (hp : 0 ≤ p) : ∃ x p' h', spec_l1Byte.f s p h = some (x, p', h') ∧ 0 ≤ x ∧ x ≤ 255 ∧ 0 ≤ p' := by
  unfold spec_l1Byte.f
  by_cases c : p < (s.length : Int)
  · rw [if_pos c, if_pos hp]
    exact ⟨_, _, _, rfl, (and255 _).1, (and255 _).2, by rw [wrap_id (by omega) (by omega)]; omega⟩
  · rw [if_neg c]
    exact ⟨_, _, _, rfl, (and255 _).1, (and255 _).2, hp⟩
theorem tmod_in {x n : Int} (hx : 0 ≤ x) (hn : 0 < n) : 0 ≤ Int.tmod x n ∧ Int.tmod x n < n := by
  rw [Int.tmod_eq_emod_of_nonneg hx]
  exact ⟨Int.emod_nonneg _ (by omega), Int.emod_lt_of_pos _ hn⟩
theorem below_ok (s : List Int) (hs : s.length ≤ 1048576) (p h : Int) (hp : 0 ≤ p) (n : Int) : ∃ x p' h', spec_l1Below.f s p h n = some (x, p', h') ∧ 0 ≤ p' ∧ 0 ≤ x ∧ (0 < n → x < n) := by
  unfold spec_l1Below.f
  by_cases h1 : n ≤ 0
  · rw [if_pos h1]
    exact ⟨0, p, h, rfl, hp, by omega, fun c => by omega⟩
  · rw [if_neg h1]
    obtain ⟨x, p1, h1', e1, x0, x1, hp1⟩ := byte_ok s hs p h hp
    by_cases h2 : n ≤ 256
    · rw [if_pos h2, e1, Option.bind_some]
      simp only
      rw [if_neg (by omega)]
      exact ⟨_, _, _, rfl, hp1, (tmod_in x0 (by omega)).1, fun _ => (tmod_in x0 (by omega)).2⟩
    · obtain ⟨y, p2, h2', e2, y0, y1, hp2⟩ := byte_ok s hs p1 h1' hp1
      obtain ⟨z, p3, h3', e3, z0, z1, hp3⟩ := byte_ok s hs p2 h2' hp2
      rw [if_neg h2, e1, Option.bind_some]
      simp only
      rw [e2, Option.bind_some]
      simp only
      rw [e3, Option.bind_some]
      simp only
      rw [if_neg (by omega), wrap_id (x := x * 65536) (by omega) (by omega), wrap_id (x := y * 256) (by omega) (by omega), wrap_id (x := x * 65536 + y * 256) (by omega) (by omega), wrap_id (by omega) (by omega)]
      exact ⟨_, _, _, rfl, hp3, (tmod_in (by omega) (by omega)).1, fun _ => (tmod_in (by omega) (by omega)).2⟩
theorem once_ok (s : List Int) (hs : s.length ≤ 1048576) (p h : Int) (hp : 0 ≤ p) (n : Int) : ∃ b p' h', spec_l1Once.f s p h n = some (b, p', h') ∧ 0 ≤ p' := by
  unfold spec_l1Once.f
  obtain ⟨x, p', h', e, h1, _⟩ := below_ok s hs p h hp n
  rw [e, Option.bind_some]
  exact ⟨_, _, _, rfl, h1⟩
theorem int_ok (s : List Int) (hs : s.length ≤ 1048576) (p h : Int) (hp : 0 ≤ p) (l : List Int) (hl : 0 < l.length) : ∃ x p' h', spec_l1Int.f s p h l = some (x, p', h') ∧ 0 ≤ p' ∧ x ∈ l := by
  unfold spec_l1Int.f
  obtain ⟨x, p', h', e, h1, h2, h3⟩ := below_ok s hs p h hp l.length
  rw [e, Option.bind_some]
  simp only
  have h4 := h3 (by omega)
  rw [if_pos h2, if_pos h4]
  refine ⟨_, _, _, rfl, h1, ?_⟩
  have h5 : x.toNat < l.length := by omega
  simp only [rd, List.getD, List.getElem?_eq_getElem h5, Option.getD_some]
  exact List.getElem_mem h5
theorem new_ok (s : List Int) (_hs : s.length ≤ 1048576) : ∃ h, Ev (fun k => spec_l1New.f k s) (s, 0, h) := by
  unfold spec_l1New.f
  have key : ∀ (d i : Nat) (h : Int), i + d = s.length → ∃ r, Ev (fun k => spec_l1New.l0 k s h (i : Int)) (s, 0, r) := by
    intro d
    induction d with
    | zero => exact fun i h hi => ⟨h, ev_step (fun k => by simp only [spec_l1New.l0]; rfl) (ev_iten (by omega) (ev_some rfl))⟩
    | succ d ih =>
      intro i h hi
      by_cases c : (i : Int) < 4000
      · obtain ⟨r, hr⟩ := ih (i + 1) (Go.bits .and .i64 (wrap64 ((wrap64 ((wrap64 (h * 137)) + (wrap64 (rd s (i : Int))))) + 11)) 1073741823) (by omega)
        refine ⟨r, ev_step (fun k => by simp only [spec_l1New.l0]; rfl) (ev_itep (by omega) (ev_itep c (ev_itep (by omega) ?_)))⟩
        rw [wrap_id (x := (i : Int) + 1) (by omega) (by omega)]
        exact hr
      · exact ⟨h, ev_step (fun k => by simp only [spec_l1New.l0]; rfl) (ev_itep (by omega) (ev_iten c (ev_some rfl)))⟩
  exact key s.length 0 _ (by omega)
end Go.Proofs.YtnlgilmbmoiniaaDoor.PFnTasks
namespace Go.Proofs.YtnlgilmbmoiniaaDoor.PFnTasks
open Go.RowKit Go.Proofs.YtnlgilmbmoiniaaDoorW.PrintWords Go.Proofs.YtnlgilmbmoiniaaDoorW.PrintLast Go.Proofs.YtnlgilmbmoiniaaDoor.EvLib
theorem draw26_ok (s : List Int) (hs : s.length ≤ 1048576) (p h : Int) (hp : 0 ≤ p) : ∃ o p' h', Ev (fun k => spec_l26Draw.f k s p h) (o, p', h') ∧ 0 ≤ p' ∧ o.length ≤ 7 := by
  unfold spec_l26Draw.f
  have key : ∀ (d i : Nat) (o : List Bool) (p h : Int), i + d = 7 → o.length = i → 0 ≤ p → ∃ r p' h', Ev (fun k => spec_l26Draw.l0 k o (i : Int) s p h) (r, p', h') ∧ 0 ≤ p' ∧ r.length ≤ 7 := by
    intro d
    induction d with
    | zero =>
      intro i o p h hi ho hp
      obtain ⟨x, p', h', e, h1, _⟩ := below_ok s hs p h hp 9
      have fin : ∃ r, (fun bt167 : Int × Int × Int => (if bt167.1 = 0 then (if 6 ≤ (o.length : Int) then (some ((o.take (6 : Int).toNat), bt167.2.1, bt167.2.2)) else (none)) else (if bt167.1 = 1 then (some ((([false, false, false, false, false, false, false] : List Bool)), bt167.2.1, bt167.2.2)) else (if bt167.1 = 2 then (some ((([false, false, false, true, false, false, false] : List Bool)), bt167.2.1, bt167.2.2)) else (some (o, bt167.2.1, bt167.2.2)))))) (x, p', h') = some (r, p', h') ∧ r.length ≤ 7 := by
        simp only
        split
        · rw [if_pos (by omega)]
          exact ⟨_, rfl, by rw [List.length_take]; omega⟩
        · split
          · exact ⟨_, rfl, by decide⟩
          · split
            · exact ⟨_, rfl, by decide⟩
            · exact ⟨_, rfl, by omega⟩
      obtain ⟨r, e2, hr⟩ := fin
      exact ⟨r, p', h', ev_step (fun k => by simp only [spec_l26Draw.l0]; rfl) (ev_iten (by omega) (ev_bindc e (ev_const e2))), h1, hr⟩
    | succ d ih =>
      intro i o p h hi ho hp
      obtain ⟨b, p', h', e, h1⟩ := once_ok s hs p h hp 3
      obtain ⟨r, p2, h2, e2, g1, g2⟩ := ih (i + 1) (o ++ [!b]) p' h' (by omega) (by simp; omega) h1
      refine ⟨r, p2, h2, ev_step (fun k => by simp only [spec_l26Draw.l0]; rfl) (ev_itep (by omega) (ev_bindc e (ev_itep (show o.length < 140737488355328 by omega) ?_))), g1, g2⟩
      simp only
      rw [wrap_id (by omega) (by omega)]
      exact e2
  exact key 7 0 [] p h rfl rfl hp
theorem draw4_ok (s : List Int) (hs : s.length ≤ 1048576) (p h : Int) (hp : 0 ≤ p) (id : Int) : ∃ a b c d e p' h', spec_l4Draw.f s p h id = some (a, b, c, d, e, p', h') ∧ 0 ≤ p' := by
  unfold spec_l4Draw.f
  obtain ⟨x1, p1, h1, e1, g1, _⟩ := below_ok s hs p h hp 8
  obtain ⟨x2, p2, h2, e2, g2, _⟩ := below_ok s hs p1 h1 g1 8
  obtain ⟨x3, p3, h3, e3, g3, _⟩ := below_ok s hs p2 h2 g2 20
  obtain ⟨x4, p4, h4, e4, g4, _⟩ := below_ok s hs p3 h3 g3 500
  simp only [e1, e2, e3, e4, Option.bind_some]
  exact ⟨_, _, _, _, _, _, _, rfl, g4⟩
theorem draw6_ok (s : List Int) (hs : s.length ≤ 1048576) (p h : Int) (hp : 0 ≤ p) (id : Int) : ∃ a b c d e f g i p' h', spec_l6Draw.f s p h id = some (a, b, c, d, e, f, g, i, p', h') ∧ 0 ≤ p' := by
  unfold spec_l6Draw.f
  obtain ⟨a, b, c, d, e, p1, h1, e1, g1⟩ := draw4_ok s hs p h hp id
  obtain ⟨x2, p2, h2, e2, g2, _⟩ := below_ok s hs p1 h1 g1 6
  obtain ⟨x3, p3, h3, e3, g3, _⟩ := below_ok s hs p2 h2 g2 80
  obtain ⟨x4, p4, h4, e4, g4, _⟩ := below_ok s hs p3 h3 g3 5
  simp only [e1, e2, e3, e4, Option.bind_some]
  exact ⟨_, _, _, _, _, _, _, _, _, _, rfl, g4⟩
theorem list6_ok (s : List Int) (hs : s.length ≤ 1048576) (p h : Int) (hp : 0 ≤ p) : ∃ l p' h', Ev (fun k => spec_l6List.f k s p h) (l, p', h') ∧ 0 ≤ p' ∧ l.length ≤ 8 := by
  unfold spec_l6List.f
  have key : ∀ (d i : Nat) (l : List S38) (p h : Int), i + d = 8 → l.length + 1 = i → 0 ≤ p → ∃ r p' h', Ev (fun k => spec_l6List.l0 k l (i : Int) s p h) (r, p', h') ∧ 0 ≤ p' ∧ r.length ≤ 8 := by
    intro d
    induction d with
    | zero =>
      intro i l p h hi hl hp
      obtain ⟨x, p', h', e, h1, _, h3⟩ := below_ok s hs p h hp 8
      have := h3 (by omega)
      exact ⟨l, p', h', ev_step (fun k => by simp only [spec_l6List.l0]; rfl) (ev_bindc e (ev_iten (show ¬ (i : Int) ≤ x by omega) (ev_some rfl))), h1, by omega⟩
    | succ d ih =>
      intro i l p h hi hl hp
      obtain ⟨x, p', h', e, h1, _, h3⟩ := below_ok s hs p h hp 8
      by_cases c : (i : Int) ≤ x
      · obtain ⟨a1, a2, a3, a4, a5, a6, a7, a8, p2, h2, e2, g2⟩ := draw6_ok s hs p' h' h1 (wrap64 (2 * (i : Int)))
        obtain ⟨r, p3, h3', e3, g3, g4⟩ := ih (i + 1) (l ++ [(⟨(⟨a1, a2, a3, a4, a5⟩ : S36), a6, a7, a8⟩ : S38)]) p2 h2 (by omega) (by simp; omega) g2
        refine ⟨r, p3, h3', ev_step (fun k => by simp only [spec_l6List.l0]; rfl) (ev_bindc e (ev_itep c (ev_bindc e2 (ev_itep (show l.length < 2199023255552 by omega) ?_)))), g3, g4⟩
        simp only
        rw [wrap_id (x := (i : Int) + 1) (by omega) (by omega)]
        exact e3
      · exact ⟨l, p', h', ev_step (fun k => by simp only [spec_l6List.l0]; rfl) (ev_bindc e (ev_iten c (ev_some rfl))), h1, by omega⟩
  exact key 7 1 [] p h rfl rfl hp
theorem raw4_ok (s : List Int) (hs : s.length ≤ 1048576) (p h : Int) (hp : 0 ≤ p) : ∃ x p' h', spec_l4Raw.f s p h = some (x, p', h') ∧ 0 ≤ p' := by
  unfold spec_l4Raw.f
  obtain ⟨x, p', h', e, g, _⟩ := int_ok s hs p h hp ([(-1), 0, 8, 50, 51, 1000, 9223372036854775807, (-9223372036854775808)] : List Int) (by decide)
  rw [e, Option.bind_some]
  exact ⟨_, _, _, rfl, g⟩
theorem any4_ok (s : List Int) (hs : s.length ≤ 1048576) (p h : Int) (hp : 0 ≤ p) : ∃ a b c d e p' h', spec_l4Any.f s p h = some (a, b, c, d, e, p', h') ∧ 0 ≤ p' := by
  unfold spec_l4Any.f
  obtain ⟨x1, p1, h1, e1, g1, _⟩ := below_ok s hs p h hp 40
  obtain ⟨a, b, c, d, e, p2, h2, e2, g2⟩ := draw4_ok s hs p1 h1 g1 (wrap64 (1 + x1))
  obtain ⟨x3, p3, h3, e3, g3, _⟩ := below_ok s hs p2 h2 g2 14
  simp only [e1, e2, e3, Option.bind_some]
  split
  · obtain ⟨x, p', h', e, g, _⟩ := int_ok s hs p3 h3 g3 ([0, 999, 1000] : List Int) (by decide)
    rw [e, Option.bind_some]
    exact ⟨_, _, _, _, _, _, _, rfl, g⟩
  · split
    · obtain ⟨x, p', h', e, g, _⟩ := int_ok s hs p3 h3 g3 ([0, 8, 9] : List Int) (by decide)
      rw [e, Option.bind_some]
      exact ⟨_, _, _, _, _, _, _, rfl, g⟩
    · split
      · obtain ⟨x, p', h', e, g, _⟩ := int_ok s hs p3 h3 g3 ([(-1), 7, 8] : List Int) (by decide)
        rw [e, Option.bind_some]
        exact ⟨_, _, _, _, _, _, _, rfl, g⟩
      · split
        · obtain ⟨x, p', h', e, g⟩ := raw4_ok s hs p3 h3 g3
          rw [e, Option.bind_some]
          exact ⟨_, _, _, _, _, _, _, rfl, g⟩
        · split
          · obtain ⟨x, p', h', e, g, _⟩ := int_ok s hs p3 h3 g3 ([(-1), 10000000, 10000001] : List Int) (by decide)
            rw [e, Option.bind_some]
            exact ⟨_, _, _, _, _, _, _, rfl, g⟩
          · exact ⟨_, _, _, _, _, _, _, rfl, g3⟩
theorem any6_ok (s : List Int) (hs : s.length ≤ 1048576) (p h : Int) (hp : 0 ≤ p) : ∃ l p' h', Ev (fun k => spec_l6Any.f k s p h) (l, p', h') ∧ 0 ≤ p' ∧ l.length ≤ 8 := by
  unfold spec_l6Any.f
  obtain ⟨l, p1, h1, e1, g1, hl⟩ := list6_ok s hs p h hp
  by_cases c : (l.length : Int) = 0
  · exact ⟨l, p1, h1, ev_bind e1 (ev_itep c (ev_some rfl)), g1, hl⟩
  · obtain ⟨i, p2, h2, e2, g2, i0, i1⟩ := below_ok s hs p1 h1 g1 l.length
    have i2 := i1 (by omega)
    obtain ⟨y, p3, h3, e3, g3, _⟩ := below_ok s hs p2 h2 g2 12
    by_cases y0 : y = 0
    · obtain ⟨a, b, c', d, e, p4, h4, e4, g4⟩ := any4_ok s hs p3 h3 g3
      exact ⟨_, _, _, ev_bind e1 (ev_iten c (ev_bindc e2 (ev_bindc e3 (ev_itep y0 (ev_bindc e4 (ev_itep i0 (ev_itep i2 (ev_some rfl)))))))), g4, by rw [List.length_set]; exact hl⟩
    · by_cases y1 : y = 1
      · obtain ⟨x, p4, h4, e4, g4, _⟩ := int_ok s hs p3 h3 g3 ([0, 30, 31] : List Int) (by decide)
        exact ⟨_, _, _, ev_bind e1 (ev_iten c (ev_bindc e2 (ev_bindc e3 (ev_iten y0 (ev_itep y1 (ev_bindc e4 (ev_itep i0 (ev_itep i2 (ev_some rfl))))))))), g4, by rw [List.length_set]; exact hl⟩
      · by_cases y2 : y = 2
        · obtain ⟨x, p4, h4, e4, g4⟩ := raw4_ok s hs p3 h3 g3
          exact ⟨_, _, _, ev_bind e1 (ev_iten c (ev_bindc e2 (ev_bindc e3 (ev_iten y0 (ev_iten y1 (ev_itep y2 (ev_bindc e4 (ev_itep i0 (ev_itep i2 (ev_some rfl)))))))))), g4, by rw [List.length_set]; exact hl⟩
        · by_cases y3 : y = 3
          · obtain ⟨x, p4, h4, e4, g4, _⟩ := int_ok s hs p3 h3 g3 ([(-1), 999, 1000] : List Int) (by decide)
            exact ⟨_, _, _, ev_bind e1 (ev_iten c (ev_bindc e2 (ev_bindc e3 (ev_iten y0 (ev_iten y1 (ev_iten y2 (ev_itep y3 (ev_bindc e4 (ev_itep i0 (ev_itep i2 (ev_some rfl))))))))))), g4, by rw [List.length_set]; exact hl⟩
          · exact ⟨_, _, _, ev_bind e1 (ev_iten c (ev_bindc e2 (ev_bindc e3 (ev_iten y0 (ev_iten y1 (ev_iten y2 (ev_iten y3 (ev_some rfl)))))))), g3, hl⟩
end Go.Proofs.YtnlgilmbmoiniaaDoor.PFnTasks
namespace Go.Proofs.YtnlgilmbmoiniaaDoor.PFnTasks
open Go.RowKit Go.Proofs.YtnlgilmbmoiniaaDoorW.PrintWords Go.Proofs.YtnlgilmbmoiniaaDoorW.PrintLast Go.Proofs.YtnlgilmbmoiniaaDoor.EvLib
abbrev DClaim := S73
theorem findClaim_ok (l : List DClaim) (hl : l.length ≤ 1048576) (id : Int) : ∃ t : Int, Ev (fun k => spec_FindClaim.f k l id) t ∧ t < (l.length : Int) := by
  unfold spec_FindClaim.f
  have key : ∀ (d i : Nat), i + d = l.length → ∃ t : Int, Ev (fun k => spec_FindClaim.l0 k l id (i : Int)) t ∧ t < (l.length : Int) := by
    intro d
    induction d with
    | zero => exact fun i hi => ⟨-1, ev_step (fun k => by simp only [spec_FindClaim.l0]; rfl) (ev_iten (by omega) (ev_some rfl)), by omega⟩
    | succ d ih =>
      intro i hi
      by_cases c : (rd_T73 l (i : Int)).f0 = id
      · exact ⟨(i : Int), ev_step (fun k => by simp only [spec_FindClaim.l0]; rfl) (ev_itep (by omega) (ev_itep (by omega) (ev_itep c (ev_some rfl)))), by omega⟩
      · obtain ⟨t, h1, h2⟩ := ih (i + 1) (by omega)
        refine ⟨t, ev_step (fun k => by simp only [spec_FindClaim.l0]; rfl) (ev_itep (by omega) (ev_itep (by omega) (ev_iten c ?_))), h2⟩
        rw [wrap_id (by omega) (by omega)]
        exact h1
  exact key l.length 0 (by omega)
/-- A copy, and a refusal. -/
theorem copy_ok (n : Nat) (l : List DClaim) (hl : l.length ≤ 1048576) (hn : l.length ≤ n) : ∃ r : List DClaim × Bool, ((some (([] : List DClaim) : List DClaim)).bind fun y => (if y.length + l.length < 3518437208883 then (some ((y ++ l), false)) else (none))) = some r ∧ r.1.length ≤ n := by
  rw [Option.bind_some, if_pos (by rw [List.length_nil]; omega)]
  exact ⟨_, rfl, by simpa using hn⟩
theorem tryOk (n : Nat) (s l : List DClaim) (hl : l.length ≤ 1048576) (hs : s.length ≤ n) (hn : l.length ≤ n) : ∃ r : List DClaim × Bool, ((spec_AreClaims.f s).bind fun t => (if t = true then (some (s, true)) else ((some (([] : List DClaim) : List DClaim)).bind fun y => (if y.length + l.length < 3518437208883 then (some ((y ++ l), false)) else (none))))) = some r ∧ r.1.length ≤ n := by
  show ∃ r : List DClaim × Bool, ((some (spec_AreClaims.okL s)).bind fun t => _) = some r ∧ r.1.length ≤ n
  rw [Option.bind_some]
  by_cases c : spec_AreClaims.okL s = true
  · rw [if_pos c]; exact ⟨_, rfl, hs⟩
  · rw [if_neg c]; exact copy_ok n l hl hn
theorem addClaim_ok (l : List DClaim) (hl : l.length ≤ 1048570) (a0 a1 a2 a3 a4 : Int) : ∃ r : List DClaim × Bool, Ev (fun k => spec_AddClaim.f k l a0 a1 a2 a3 a4) r ∧ r.1.length ≤ l.length + 1 := by
  unfold spec_AddClaim.f
  have key : ∀ (d i : Nat) (x : Int) (b : Bool), i + d = l.length → 0 ≤ x → x ≤ (i : Int) → ∃ r : List DClaim × Bool, Ev (fun k => spec_AddClaim.l0 k l x b (i : Int) a0 a1 a2 a3 a4) r ∧ r.1.length ≤ l.length + 1 := by
    intro d
    induction d with
    | zero =>
      intro i x b hi h0 h1
      have hs : (((([] : List DClaim) ++ l.take x.toNat) ++ [(⟨a0, a1, a2, a3, a4⟩ : DClaim)]) ++ l.drop x.toNat).length ≤ l.length + 1 := by
        simp only [List.length_append, List.length_nil, List.length_take, List.length_cons, List.length_drop]; omega
      have e1 : ([] : List DClaim).length + (l.take x.toNat).length < 3518437208883 := by simp only [List.length_nil, List.length_take]; omega
      have e2 : (([] : List DClaim) ++ l.take x.toNat).length + [(⟨a0, a1, a2, a3, a4⟩ : DClaim)].length < 3518437208883 := by simp only [List.length_append, List.length_nil, List.length_take, List.length_cons]; omega
      have e3 : ((([] : List DClaim) ++ l.take x.toNat) ++ [(⟨a0, a1, a2, a3, a4⟩ : DClaim)]).length + (l.drop x.toNat).length < 3518437208883 := by simp only [List.length_append, List.length_nil, List.length_take, List.length_cons, List.length_drop]; omega
      have fin : ∃ r : List DClaim × Bool, Ev (fun _ => if b = true then ((some (([] : List DClaim) : List DClaim)).bind fun y => (if y.length + l.length < 3518437208883 then (some ((y ++ l), false)) else (none))) else ((spec_AreClaims.f ((([] ++ l.take x.toNat) ++ [(⟨a0, a1, a2, a3, a4⟩ : DClaim)]) ++ l.drop x.toNat)).bind fun t => (if t = true then (some ((([] ++ l.take x.toNat) ++ [(⟨a0, a1, a2, a3, a4⟩ : DClaim)]) ++ l.drop x.toNat, true)) else ((some (([] : List DClaim) : List DClaim)).bind fun y => (if y.length + l.length < 3518437208883 then (some ((y ++ l), false)) else (none)))))) r ∧ r.1.length ≤ l.length + 1 := by
        cases b with
        | true =>
          obtain ⟨r, h, g⟩ := copy_ok (l.length + 1) l (by omega) (by omega)
          exact ⟨r, ev_itep rfl (ev_const h), g⟩
        | false =>
          obtain ⟨r, h, g⟩ := tryOk (l.length + 1) _ l (by omega) hs (by omega)
          exact ⟨r, ev_iten (by simp) (ev_const h), g⟩
      obtain ⟨r, h, g⟩ := fin
      refine ⟨r, ev_step (fun k => by simp only [spec_AddClaim.l0]; rfl) (ev_iten (by omega) ?_), g⟩
      refine ev_bindc (a := ([] : List DClaim)) rfl (ev_itep h0 (ev_itep (by omega) (ev_bindc (a := l.take x.toNat) rfl (ev_itep e1 (ev_bindc (a := [] ++ l.take x.toNat) rfl ?_)))))
      refine ev_bindc (a := [(⟨a0, a1, a2, a3, a4⟩ : DClaim)]) rfl (ev_itep e2 (ev_bindc (a := ([] ++ l.take x.toNat) ++ [(⟨a0, a1, a2, a3, a4⟩ : DClaim)]) rfl ?_))
      refine ev_bindc (a := l.drop x.toNat) rfl (ev_itep e3 (ev_bindc (a := (([] ++ l.take x.toNat) ++ [(⟨a0, a1, a2, a3, a4⟩ : DClaim)]) ++ l.drop x.toNat) rfl ?_))
      exact h
    | succ d ih =>
      intro i x b hi h0 h1
      have w1 : wrap64 ((i : Int) + 1) = ((i + 1 : Nat) : Int) := by rw [wrap_id (by omega) (by omega)]; omega
      have A : ∀ q : Bool, ∃ r : List DClaim × Bool, Ev (fun k => if (rd_T73 l (i : Int)).f0 < a0 then spec_AddClaim.l0 k l (wrap64 ((i : Int) + 1)) q (wrap64 ((i : Int) + 1)) a0 a1 a2 a3 a4 else spec_AddClaim.l0 k l x q (wrap64 ((i : Int) + 1)) a0 a1 a2 a3 a4) r ∧ r.1.length ≤ l.length + 1 := fun q => by
        rw [w1]
        by_cases c : (rd_T73 l (i : Int)).f0 < a0
        · obtain ⟨r, h, g⟩ := ih (i + 1) ((i + 1 : Nat) : Int) q (by omega) (by omega) (by omega)
          exact ⟨r, ev_itep c h, g⟩
        · obtain ⟨r, h, g⟩ := ih (i + 1) x q (by omega) h0 (by omega)
          exact ⟨r, ev_iten c h, g⟩
      cases b with
      | true =>
        obtain ⟨r, h, g⟩ := A true
        exact ⟨r, ev_step (fun k => by simp only [spec_AddClaim.l0]; rfl) (ev_itep (by omega) (ev_itep (show true = true from rfl) (ev_itep (by omega) h))), g⟩
      | false =>
        by_cases c : (rd_T73 l (i : Int)).f1 = a1
        · obtain ⟨r, h, g⟩ := A ((rd_T73 l (i : Int)).f2 == a2)
          exact ⟨r, ev_step (fun k => by simp only [spec_AddClaim.l0]; rfl) (ev_itep (by omega) (ev_iten (by simp) (ev_itep (by omega) (ev_itep c h)))), g⟩
        · obtain ⟨r, h, g⟩ := A false
          exact ⟨r, ev_step (fun k => by simp only [spec_AddClaim.l0]; rfl) (ev_itep (by omega) (ev_iten (by simp) (ev_itep (by omega) (ev_iten c h)))), g⟩
  exact key l.length 0 0 _ (by omega) (by omega) (by omega)
theorem setState_j0 (l : List DClaim) (hl : l.length ≤ 1048576) (st t : Int) (b : Bool) (ht : b = false → 0 ≤ t ∧ t < (l.length : Int)) : ∃ r : List DClaim × Bool, Ev (fun k => spec_SetState.j0 k l st ([] ++ l) t b) r ∧ r.1.length ≤ l.length := by
  have hn : ([] ++ l).length = l.length := rfl
  cases b with
  | true => exact ⟨_, ev_step (fun k => by simp only [spec_SetState.j0]; rfl) (ev_itep (show true = true from rfl) (ev_some rfl)), by simp⟩
  | false =>
    obtain ⟨t0, t1⟩ := ht rfl
    have t2 : t < (([] ++ l).length : Int) := by rw [hn]; exact t1
    obtain ⟨rc, hc, gc⟩ := copy_ok l.length l hl (Nat.le_refl _)
    obtain ⟨rt, hT, gt⟩ := tryOk l.length (([] ++ l).set t.toNat (⟨(rd_T73 ([] ++ l) t).f0, (rd_T73 ([] ++ l) t).f1, (rd_T73 ([] ++ l) t).f2, (rd_T73 ([] ++ l) t).f3, st⟩ : DClaim)) l hl (by rw [List.length_set, hn]; omega) (Nat.le_refl _)
    by_cases c0 : (rd_T73 l t).f4 = 0
    · by_cases c1 : st = 1
      · exact ⟨rt, ev_step (fun k => by simp only [spec_SetState.j0]; rfl) (ev_iten (by simp) (ev_itep t0 (ev_itep t1 (ev_itep c0 (ev_itep c1 (ev_itep t2 (ev_bindc rfl (ev_const hT)))))))), gt⟩
      · by_cases c2 : st = 2
        · exact ⟨rt, ev_step (fun k => by simp only [spec_SetState.j0]; rfl) (ev_iten (by simp) (ev_itep t0 (ev_itep t1 (ev_itep c0 (ev_iten c1 (ev_itep c2 (ev_itep t2 (ev_bindc rfl (ev_const hT))))))))), gt⟩
        · exact ⟨rc, ev_step (fun k => by simp only [spec_SetState.j0]; rfl) (ev_iten (by simp) (ev_itep t0 (ev_itep t1 (ev_itep c0 (ev_iten c1 (ev_iten c2 (ev_iten (by omega) (ev_itep t2 (ev_bindc rfl (ev_const hc)))))))))), gc⟩
    · by_cases c3 : (rd_T73 l t).f4 = 1
      · by_cases c4 : st = 3
        · exact ⟨rt, ev_step (fun k => by simp only [spec_SetState.j0]; rfl) (ev_iten (by simp) (ev_itep t0 (ev_itep t1 (ev_iten c0 (ev_itep c3 (ev_itep t2 (ev_bindc rfl (ev_itep c4 (ev_const hT))))))))), gt⟩
        · exact ⟨rc, ev_step (fun k => by simp only [spec_SetState.j0]; rfl) (ev_iten (by simp) (ev_itep t0 (ev_itep t1 (ev_iten c0 (ev_itep c3 (ev_itep t2 (ev_bindc rfl (ev_iten c4 (ev_const hc))))))))), gc⟩
      · exact ⟨rc, ev_step (fun k => by simp only [spec_SetState.j0]; rfl) (ev_iten (by simp) (ev_itep t0 (ev_itep t1 (ev_iten c0 (ev_iten c3 (ev_itep t2 (ev_bindc rfl (ev_const hc)))))))), gc⟩
theorem setState_ok (l : List DClaim) (hl : l.length ≤ 1048576) (id st : Int) : ∃ r : List DClaim × Bool, Ev (fun k => spec_SetState.f k l id st) r ∧ r.1.length ≤ l.length := by
  unfold spec_SetState.f
  obtain ⟨t, h1, h2⟩ := findClaim_ok l hl id
  have hn : ([] : List DClaim).length + l.length < 3518437208883 := by rw [List.length_nil]; omega
  by_cases c : t < 0
  · obtain ⟨r, h, g⟩ := setState_j0 l hl st t true (fun e => absurd e (by simp))
    exact ⟨r, ev_bindc rfl (ev_itep hn (ev_bindc rfl (ev_bind h1 (ev_itep c h)))), g⟩
  · obtain ⟨r, h, g⟩ := setState_j0 l hl st t (!spec_AreClaims.okL l) (fun _ => ⟨by omega, h2⟩)
    exact ⟨r, ev_bindc rfl (ev_itep hn (ev_bindc rfl (ev_bind h1 (ev_iten c (ev_bindc (a := spec_AreClaims.okL l) rfl h))))), g⟩
theorem draw13_ok (s : List Int) (hs : s.length ≤ 1048576) (p h : Int) (hp : 0 ≤ p) : ∃ l p' h', Ev (fun k => spec_l13Draw.f k s p h) (l, p', h') ∧ 0 ≤ p' ∧ l.length ≤ 8 := by
  unfold spec_l13Draw.f
  have key : ∀ (d i : Nat) (l : List DClaim) (p h : Int), i + d = 8 → l.length + 1 ≤ i → 0 ≤ p → ∃ r p' h', Ev (fun k => spec_l13Draw.l0 k l (i : Int) s p h) (r, p', h') ∧ 0 ≤ p' ∧ r.length ≤ 8 := by
    intro d
    induction d with
    | zero =>
      intro i l p h hi hl hp
      obtain ⟨x, p', h', e, h1, _, h3⟩ := below_ok s hs p h hp 8
      have := h3 (by omega)
      exact ⟨l, p', h', ev_step (fun k => by simp only [spec_l13Draw.l0]; rfl) (ev_bindc e (ev_iten (show ¬ (i : Int) ≤ x by omega) (ev_some rfl))), h1, by omega⟩
    | succ d ih =>
      intro i l p h hi hl hp
      obtain ⟨x, p', h', e, h1, _, h3⟩ := below_ok s hs p h hp 8
      by_cases c : (i : Int) ≤ x
      · obtain ⟨x2, p2, h2, e2, g2, _⟩ := below_ok s hs p' h' h1 5
        obtain ⟨x3, p3, h3', e3, g3, _⟩ := below_ok s hs p2 h2 g2 3
        obtain ⟨x4, p4, h4, e4, g4, _⟩ := below_ok s hs p3 h3' g3 60
        obtain ⟨r1, e5, g5⟩ := addClaim_ok l (by omega) (wrap64 (2 * (i : Int))) (wrap64 (1 + x2)) (wrap64 (2 * (wrap64 (1 + x3)))) x4 0
        obtain ⟨x6, p6, h6, e6, g6, _⟩ := below_ok s hs p4 h4 g4 4
        obtain ⟨r2, e7, g7⟩ := setState_ok r1.1 (by omega) (wrap64 (2 * (i : Int))) x6
        obtain ⟨r, p8, h8, e8, g8, g9⟩ := ih (i + 1) r2.1 p6 h6 (by omega) (by omega) g6
        refine ⟨r, p8, h8, ev_step (fun k => by simp only [spec_l13Draw.l0]; rfl) (ev_bindc e (ev_itep c (ev_bindc e2 (ev_bindc e3 (ev_bindc e4 (ev_bind e5 (ev_bindc e6 (ev_bind e7 ?_)))))))), g8, g9⟩
        simp only
        rw [wrap_id (x := (i : Int) + 1) (by omega) (by omega)]
        exact e8
      · exact ⟨l, p', h', ev_step (fun k => by simp only [spec_l13Draw.l0]; rfl) (ev_bindc e (ev_iten c (ev_some rfl))), h1, by omega⟩
  exact key 7 1 [] p h rfl (by simp) hp
theorem any13_ok (s : List Int) (hs : s.length ≤ 1048576) (p h : Int) (hp : 0 ≤ p) : ∃ l p' h', Ev (fun k => spec_l13Any.f k s p h) (l, p', h') ∧ 0 ≤ p' ∧ l.length ≤ 8 := by
  unfold spec_l13Any.f
  obtain ⟨l, p1, h1, e1, g1, hl⟩ := draw13_ok s hs p h hp
  by_cases c : (l.length : Int) = 0
  · exact ⟨l, p1, h1, ev_bind e1 (ev_itep c (ev_some rfl)), g1, hl⟩
  · obtain ⟨i, p2, h2, e2, g2, i0, i1⟩ := below_ok s hs p1 h1 g1 l.length
    have i2 := i1 (by omega)
    obtain ⟨y, p3, h3, e3, g3, _⟩ := below_ok s hs p2 h2 g2 10
    by_cases y0 : y = 0
    · obtain ⟨x, p4, h4, e4, g4, _⟩ := int_ok s hs p3 h3 g3 ([0, 2, 999, 1000] : List Int) (by decide)
      exact ⟨_, _, _, ev_bind e1 (ev_iten c (ev_bindc e2 (ev_bindc e3 (ev_itep y0 (ev_bindc e4 (ev_itep i0 (ev_itep i2 (ev_some rfl)))))))), g4, by rw [List.length_set]; exact hl⟩
    · by_cases y1 : y = 1
      · obtain ⟨x, p4, h4, e4, g4⟩ := raw4_ok s hs p3 h3 g3
        exact ⟨_, _, _, ev_bind e1 (ev_iten c (ev_bindc e2 (ev_bindc e3 (ev_iten y0 (ev_itep y1 (ev_bindc e4 (ev_itep i0 (ev_itep i2 (ev_some rfl))))))))), g4, by rw [List.length_set]; exact hl⟩
      · by_cases y2 : y = 2
        · obtain ⟨x, p4, h4, e4, g4, _⟩ := int_ok s hs p3 h3 g3 ([(-1), 100000, 100001] : List Int) (by decide)
          exact ⟨_, _, _, ev_bind e1 (ev_iten c (ev_bindc e2 (ev_bindc e3 (ev_iten y0 (ev_iten y1 (ev_itep y2 (ev_bindc e4 (ev_itep i0 (ev_itep i2 (ev_some rfl)))))))))), g4, by rw [List.length_set]; exact hl⟩
        · by_cases y3 : y = 3
          · obtain ⟨x, p4, h4, e4, g4, _⟩ := int_ok s hs p3 h3 g3 ([(-1), 3, 4] : List Int) (by decide)
            exact ⟨_, _, _, ev_bind e1 (ev_iten c (ev_bindc e2 (ev_bindc e3 (ev_iten y0 (ev_iten y1 (ev_iten y2 (ev_itep y3 (ev_bindc e4 (ev_itep i0 (ev_itep i2 (ev_some rfl))))))))))), g4, by rw [List.length_set]; exact hl⟩
          · exact ⟨_, _, _, ev_bind e1 (ev_iten c (ev_bindc e2 (ev_bindc e3 (ev_iten y0 (ev_iten y1 (ev_iten y2 (ev_iten y3 (ev_some rfl)))))))), g3, hl⟩
theorem drawTasks_ok (s : List Int) (hs : s.length ≤ 1048576) : ∃ F C B h, Ev (fun k => spec_DrawTasksFor.f k s) (F, C, B, h) ∧ F.length ≤ 8 ∧ C.length ≤ 8 ∧ B.length ≤ 7 := by
  unfold spec_DrawTasksFor.f spec_DrawFatesOf.f
  obtain ⟨h0, e0⟩ := new_ok s hs
  obtain ⟨F, p1, h1, e1, g1, f1⟩ := any6_ok s hs 0 h0 (by omega)
  obtain ⟨C, p2, h2, e2, g2, f2⟩ := any13_ok s hs p1 h1 g1
  obtain ⟨n, p3, h3, e3, g3, _⟩ := int_ok s hs p2 h2 g2 ([0, 20, 60, 100, 2160, 2200, 2240, 4320, 4400, 200000, 200001, (-1)] : List Int) (by decide)
  have e3' : spec_l17Now.f s p2 h2 = some (n, p3, h3) := by unfold spec_l17Now.f; rw [e3]; rfl
  obtain ⟨B, p4, h4, e4, g4, f4⟩ := draw26_ok s hs 0 h0 (by omega)
  exact ⟨F, C, B, n, ev_bind (ev_bind e0 (ev_bind e1 (ev_bind e2 (ev_bindc e3' (ev_some rfl))))) (ev_bind e0 (ev_bind e4 (ev_some rfl))), f1, f2, f4⟩
end Go.Proofs.YtnlgilmbmoiniaaDoor.PFnTasks
