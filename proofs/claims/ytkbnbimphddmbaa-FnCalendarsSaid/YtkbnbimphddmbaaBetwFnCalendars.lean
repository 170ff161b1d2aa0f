/- OpenDaysBetween of the program. -/
import Derived.Test.YtkbnbimphddmbaaDaysFnCalendars
namespace Go.Proofs.Ytkbnbimphddmbaa.PFnCalendars
open Go.RowKit Go.Proofs.YtkbnbimphddmbaaW.PrintWords Go.Proofs.YtkbnbimphddmbaaW.PrintLast Go.Proofs.Ytkbnbimphddmbaa.EvLib
/-- What OpenDaysBetween says. -/
def betw (l : List Bool) (a b : Int) : Int := if isCal l = true ∧ 0 ≤ a ∧ b ≤ 10000 then (cnt l a.toNat (b + 1 - a).toNat : Nat) else 0
theorem implBetween_l0 {l : List Bool} (h : l.length = 7) (b : Int) (hb : b ≤ 10000) : ∀ (m a n : Nat), (b + 1 - (a : Int)).toNat = m → n + m ≤ 20000 → Ev (fun k => impl_OpenDaysBetween.l0 k l b (n : Int) (a : Int)) ((n + cnt l a m : Nat) : Int) := by
  intro m
  induction m with
  | zero =>
    intro a n hm hn
    exact ev_step (fun k => by simp only [impl_OpenDaysBetween.l0]; rfl) (ev_iten (by omega) (ev_some rfl))
  | succ m ih =>
    intro a n hm hn
    refine ev_step (fun k => by simp only [impl_OpenDaysBetween.l0]; rfl) (ev_itep (by omega) (ev_itep (by rw [tm7]; omega) (ev_itep (by rw [tm7]; omega) ?_)))
    rw [rd_opn, cnt_succ, wrap_id (x := (a : Int) + 1) (by omega) (by omega)]
    refine ev_ite (fun c => ?_) (fun c => ?_)
    · rw [wrap_id (by omega) (by omega), if_pos c]
      exact ev_eq (ih (a + 1) (n + 1) (by omega) (by omega)) (by omega)
    · rw [if_neg c]
      exact ev_eq (ih (a + 1) n (by omega) (by omega)) (by omega)
theorem implBetween_ev (l : List Bool) (hl : l.length ≤ 1048576) (a b : Int) : Ev (fun k => impl_OpenDaysBetween.f k l a b) (betw l a b) := by
  unfold impl_OpenDaysBetween.f
  refine ev_bind (implIsCalendar_ev l hl) (ev_ite (fun h => ev_ite (fun h2 => ?_) (fun h2 => ?_)) (fun h => ?_))
  · refine ev_step (fun k => by simp only [impl_OpenDaysBetween.j0]; rfl) (ev_itep (by first | rfl | trivial) (ev_some ?_))
    unfold betw; rw [if_neg (fun c => by omega)]
  · refine ev_step (fun k => by simp only [impl_OpenDaysBetween.j0]; rfl) (ev_ite (fun h3 => ev_some ?_) (fun h3 => ?_))
    · have := of_decide_eq_true h3
      unfold betw; rw [if_neg (fun c => by omega)]
    · have h4 : b ≤ 10000 := by simp at h3; omega
      obtain ⟨i, rfl⟩ := Int.eq_ofNat_of_zero_le (Int.not_lt.mp h2)
      unfold betw
      rw [if_pos ⟨h, by omega, h4⟩]
      exact ev_eq (implBetween_l0 (isCal_len h) b h4 _ i 0 rfl (by omega)) (by simp)
  · refine ev_step (fun k => by simp only [impl_OpenDaysBetween.j0]; rfl) (ev_itep (by first | rfl | trivial) (ev_some ?_))
    unfold betw; rw [if_neg (fun c => h c.1)]
end Go.Proofs.Ytkbnbimphddmbaa.PFnCalendars
