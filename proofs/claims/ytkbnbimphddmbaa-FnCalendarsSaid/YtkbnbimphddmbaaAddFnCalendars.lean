/- AddOpenDays of the program. -/
import Derived.Test.YtkbnbimphddmbaaDaysFnCalendars
import Derived.Test.YtkbnbimphddmbaaNextFnCalendars
namespace Go.Proofs.Ytkbnbimphddmbaa.PFnCalendars
open Go.RowKit Go.Proofs.YtkbnbimphddmbaaW.PrintWords Go.Proofs.YtkbnbimphddmbaaW.PrintLast Go.Proofs.Ytkbnbimphddmbaa.EvLib
theorem implAdd_l0 {l : List Bool} (h : isCal l = true) : ∀ (n i : Nat), 0 < n → i + 7 * n ≤ 1000000 → ∃ j : Nat, i < j ∧ j ≤ i + 7 * n ∧ opn l j = true ∧ cnt l (i + 1) (j - i) = n ∧ Ev (fun k => impl_AddOpenDays.l0 k l (i : Int) (n : Int)) (j : Int) := by
  have h7 := isCal_len h
  intro n
  induction n with
  | zero => intro i hn; omega
  | succ n ih =>
    intro i _ hi
    have inner : ∀ (m i2 : Nat), i ≤ i2 → i2 + m ≤ i + 7 → 0 < m → (∃ q, i2 < q ∧ q ≤ i2 + m ∧ opn l q = true) → ∃ j : Nat, i2 < j ∧ j ≤ i + 7 * (n + 1) ∧ opn l j = true ∧ cnt l (i2 + 1) (j - i2) = n + 1 ∧ Ev (fun k => impl_AddOpenDays.l0 k l (i2 : Int) ((n + 1 : Nat) : Int)) (j : Int) := by
      intro m
      induction m with
      | zero => intro i2 _ _ hm; omega
      | succ m ihm =>
        intro i2 h1 h2 _ hq
        by_cases c : opn l (i2 + 1) = true
        · cases n with
          | zero =>
            refine ⟨i2 + 1, by omega, by omega, c, ?_, ev_step (fun k => by simp only [impl_AddOpenDays.l0]; rfl) (ev_itep (by omega) ?_)⟩
            · rw [show i2 + 1 - i2 = 0 + 1 by omega, cnt_succ, if_pos c, cnt_zero]
            · rw [wrap_id (x := (i2 : Int) + 1) (by omega) (by omega), show (i2 : Int) + 1 = ((i2 + 1 : Nat) : Int) by omega]
              refine ev_itep (by rw [tm7]; omega) (ev_itep (by rw [tm7]; omega) (ev_itep (by rw [rd_opn]; exact c) ?_))
              exact ev_step (fun k => by simp only [impl_AddOpenDays.l0]; rfl) (ev_iten (by rw [wrap_id (by omega) (by omega)]; omega) (ev_some rfl))
          | succ n =>
            obtain ⟨j, g1, g2, g3, g4, g5⟩ := ih (i2 + 1) (by omega) (by omega)
            refine ⟨j, by omega, by omega, g3, ?_, ev_step (fun k => by simp only [impl_AddOpenDays.l0]; rfl) (ev_itep (by omega) ?_)⟩
            · rw [show j - i2 = (j - (i2 + 1)) + 1 by omega, cnt_succ, if_pos c, g4]; omega
            · rw [wrap_id (x := (i2 : Int) + 1) (by omega) (by omega), wrap_id (by omega) (by omega), show (i2 : Int) + 1 = ((i2 + 1 : Nat) : Int) by omega, show ((n + 1 + 1 : Nat) : Int) - 1 = ((n + 1 : Nat) : Int) by omega]
              exact ev_itep (by rw [tm7]; omega) (ev_itep (by rw [tm7]; omega) (ev_itep (by rw [rd_opn]; exact c) g5))
        · obtain ⟨q, q1, q2, q3⟩ := hq
          have hne : q ≠ i2 + 1 := fun e => c (e ▸ q3)
          obtain ⟨j, g1, g2, g3, g4, g5⟩ := ihm (i2 + 1) (by omega) (by omega) (by omega) ⟨q, by omega, by omega, q3⟩
          refine ⟨j, by omega, by omega, g3, ?_, ev_step (fun k => by simp only [impl_AddOpenDays.l0]; rfl) (ev_itep (by omega) ?_)⟩
          · rw [show j - i2 = (j - (i2 + 1)) + 1 by omega, cnt_succ, if_neg c, g4]; omega
          · rw [wrap_id (x := (i2 : Int) + 1) (by omega) (by omega), show (i2 : Int) + 1 = ((i2 + 1 : Nat) : Int) by omega]
            exact ev_itep (by rw [tm7]; omega) (ev_itep (by rw [tm7]; omega) (ev_iten (by rw [rd_opn]; exact c) g5))
    obtain ⟨q, q1, q2, q3⟩ := some_open h (i + 1)
    obtain ⟨j, g1, g2, g3, g4, g5⟩ := inner 7 i (by omega) (by omega) (by omega) ⟨q, by omega, by omega, q3⟩
    exact ⟨j, g1, g2, g3, g4, g5⟩
/-- What AddOpenDays says. -/
def AddIs (l : List Bool) (a n r : Int) : Prop :=
  if isCal l = true ∧ (0 ≤ a ∧ a ≤ 100000) ∧ 0 ≤ n ∧ n ≤ 1000 then (n = 0 → NextIs l a r) ∧ (0 < n → ∃ i j : Nat, a = i ∧ r = j ∧ i < j ∧ opn l j = true ∧ (cnt l (i + 1) (j - i) : Int) = n) else r = -1
theorem implAdd_ev (l : List Bool) (hl : l.length ≤ 1048576) (a n : Int) : ∃ r, AddIs l a n r ∧ Ev (fun k => impl_AddOpenDays.f k l a n) r := by
  unfold impl_AddOpenDays.f
  have bad : ∀ x : Bool, x = true → Ev (fun k => impl_AddOpenDays.j0 k l a n x) (-1) := fun x hx => ev_step (fun k => by simp only [impl_AddOpenDays.j0]; rfl) (ev_itep hx (ev_some rfl))
  by_cases h : isCal l = true
  · by_cases h2 : 0 ≤ a ∧ a ≤ 100000
    · by_cases h3 : 0 ≤ n ∧ n ≤ 1000
      · have go : ∀ r, Ev (fun k => (fun k => if n = 0 then ((impl_NextOpen.f k l a).bind fun t115 => (some t115)) else (impl_AddOpenDays.l0 k l a n)) k) r → Ev (fun k => (impl_IsCalendar.f k l).bind fun t112 => (if t112 = true then ((impl_InRange.f a 0 100000).bind fun t113 => (if t113 = true then ((impl_InRange.f n 0 1000).bind fun t114 => (impl_AddOpenDays.j0 k l a n (!t114))) else (impl_AddOpenDays.j0 k l a n true))) else (impl_AddOpenDays.j0 k l a n true))) r := fun r hr =>
          ev_bind (implIsCalendar_ev l hl) (ev_itep h (ev_bindc (inRange_eq _ _ _) (ev_itep (by simpa using h2) (ev_bindc (inRange_eq _ _ _) (ev_step (fun k => by simp only [impl_AddOpenDays.j0]; rfl) (ev_iten (by simp; omega) hr))))))
        by_cases h0 : n = 0
        · obtain ⟨r, hr, he⟩ := implNextOpen_ev l hl a
          refine ⟨r, ?_, go r (ev_itep h0 (ev_bind he (ev_some rfl)))⟩
          unfold AddIs
          rw [if_pos ⟨h, h2, h3⟩]
          exact ⟨fun _ => hr, fun c => by omega⟩
        · obtain ⟨i, rfl⟩ := Int.eq_ofNat_of_zero_le h2.1
          obtain ⟨m, rfl⟩ := Int.eq_ofNat_of_zero_le h3.1
          obtain ⟨j, g1, g2, g3, g4, g5⟩ := implAdd_l0 h m i (by omega) (by omega)
          refine ⟨j, ?_, go j (ev_iten h0 g5)⟩
          unfold AddIs
          rw [if_pos ⟨h, h2, h3⟩]
          exact ⟨fun c => by omega, fun _ => ⟨i, j, rfl, rfl, g1, g3, by rw [g4]⟩⟩
      · exact ⟨-1, by unfold AddIs; rw [if_neg (fun c => h3 c.2.2)], ev_bind (implIsCalendar_ev l hl) (ev_itep h (ev_bindc (inRange_eq _ _ _) (ev_itep (by simpa using h2) (ev_bindc (inRange_eq _ _ _) (bad _ (by rw [decide_eq_false h3]; rfl))))))⟩
    · exact ⟨-1, by unfold AddIs; rw [if_neg (fun c => h2 c.2.1)], ev_bind (implIsCalendar_ev l hl) (ev_itep h (ev_bindc (inRange_eq _ _ _) (ev_iten (by simpa using h2) (bad _ rfl))))⟩
  · exact ⟨-1, by unfold AddIs; rw [if_neg (fun c => h c.1)], ev_bind (implIsCalendar_ev l hl) (ev_iten h (bad _ rfl))⟩
end Go.Proofs.Ytkbnbimphddmbaa.PFnCalendars
