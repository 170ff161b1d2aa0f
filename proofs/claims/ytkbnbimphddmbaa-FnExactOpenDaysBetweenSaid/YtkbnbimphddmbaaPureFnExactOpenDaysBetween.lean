/- The pure statement of FnExactOpenDaysBetween. -/
import Derived.Test.YtkbnbimphddmbaaBetwFnExactOpenDaysBetween
namespace Go.Proofs.Ytkbnbimphddmbaa.Pure
open Go.RowKit Go.Proofs.Ytkbnbimphddmbaa.PFnExactOpenDaysBetween Go.Proofs.YtkbnbimphddmbaaW.PrintWords Go.Proofs.YtkbnbimphddmbaaW.PrintLast Go.Proofs.Ytkbnbimphddmbaa.EvLib
theorem specBetween_stop (l : List Bool) (a b n x : Int) : Ev (fun k => spec_OpenDaysBetween.j1 k l a b n x false) n := ev_step (fun k => by simp only [spec_OpenDaysBetween.j1]; rfl) (ev_iten (by simp) (ev_some rfl))
theorem specBetween_l0 {l : List Bool} (hl : l.length ≤ 1048576) (h : isCal l = true) (a b : Int) (ha : 0 ≤ a) (hb : b ≤ 10000) : ∀ (m x n : Nat), (b + 1 - (x : Int)).toNat = m → n + m ≤ 20000 → Ev (fun k => spec_OpenDaysBetween.l0 k l a b (n : Int) (x : Int)) ((n + cnt l x m : Nat) : Int) := by
  have h7 := isCal_len h
  intro m
  induction m with
  | zero =>
    intro x n hm hn
    exact ev_step (fun k => by simp only [spec_OpenDaysBetween.l0]; rfl) (ev_itep ha (ev_itep hb (ev_iten (by omega) (specBetween_stop _ _ _ _ _))))
  | succ m ih =>
    intro x n hm hn
    refine ev_step (fun k => by simp only [spec_OpenDaysBetween.l0]; rfl) (ev_itep ha (ev_itep hb (ev_itep (by omega) (ev_bind (specIsCalendar_ev l hl) ?_))))
    rw [h]
    refine ev_step (fun k => by simp only [spec_OpenDaysBetween.j1]; rfl) (ev_itep (by first | rfl | trivial) (ev_itep (by rw [tm7]; omega) (ev_itep (by rw [tm7]; omega) ?_)))
    rw [rd_opn, cnt_succ, wrap_id (x := (x : Int) + 1) (by omega) (by omega)]
    refine ev_ite (fun c => ?_) (fun c => ?_)
    · rw [wrap_id (by omega) (by omega), if_pos c]
      exact ev_eq (ih (x + 1) (n + 1) (by omega) (by omega)) (by omega)
    · rw [if_neg c]
      exact ev_eq (ih (x + 1) n (by omega) (by omega)) (by omega)
theorem specMax_eq (a b : Int) : spec_Max.f a b = some (if b > a then b else a) := by unfold spec_Max.f; split <;> rfl
theorem specBetween_ev (l : List Bool) (hl : l.length ≤ 1048576) (a b : Int) : Ev (fun k => spec_OpenDaysBetween.f k l a b) (betw l a b) := by
  unfold spec_OpenDaysBetween.f
  refine ev_bindc (specMax_eq _ _) ?_
  by_cases h : isCal l = true ∧ 0 ≤ a ∧ b ≤ 10000
  · obtain ⟨i, rfl⟩ := Int.eq_ofNat_of_zero_le h.2.1
    have e : (if (i : Int) > 0 then (i : Int) else 0) = i := by split <;> omega
    rw [e]
    unfold betw
    rw [if_pos h]
    exact ev_eq (specBetween_l0 hl h.1 i b h.2.1 h.2.2 _ i 0 rfl (by omega)) (by simp)
  · unfold betw
    rw [if_neg h]
    refine ev_step (fun k => by simp only [spec_OpenDaysBetween.l0]; rfl) (ev_ite (fun h1 => ev_ite (fun h2 => ev_ite (fun h3 => ev_bind (specIsCalendar_ev l hl) ?_) (fun _ => specBetween_stop _ _ _ _ _)) (fun _ => specBetween_stop _ _ _ _ _)) (fun _ => specBetween_stop _ _ _ _ _))
    have : isCal l = false := Bool.eq_false_iff.mpr (fun c => h ⟨c, h1, h2⟩)
    rw [this]
    exact specBetween_stop _ _ _ _ _
theorem FnExactOpenDaysBetween : laws_FnExactOpenDaysBetween.Pure := by
  intro l a b _ _ _
  refine Ev.rounds ?_
  unfold laws_FnExactOpenDaysBetween.f
  refine ev_ite (fun _ => ev_some rfl) (fun h => ?_)
  have hl : l.length ≤ 1048576 := by omega
  exact ev_bind (toBoolS_ev l hl) (ev_bind (specBetween_ev l hl a b) (ev_bind (toBoolS_ev l hl) (ev_bind (implBetween_ev l hl a b) (ev_itep rfl (ev_bind (toBoolS_ev l hl) (ev_bind (eqBoolS_ev l hl) (ev_itep rfl (ev_some rfl))))))))
end Go.Proofs.Ytkbnbimphddmbaa.Pure
