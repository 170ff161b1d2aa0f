/- The next open day by the reference. -/
import Derived.Test.YtnlgilmbmoiniaaNextFnExactTaskOf
import Derived.Test.YtnlgilmbmoiniaaL1InFnExactTaskOf
import Derived.Test.YtnlgilmbmoiniaaIsCalFnExactTaskOf
namespace Go.Proofs.Ytnlgilmbmoiniaa.PFnExactTaskOf
open Go.RowKit Go.Proofs.YtnlgilmbmoiniaaW.PrintWords Go.Proofs.YtnlgilmbmoiniaaW.PrintLast Go.Proofs.Ytnlgilmbmoiniaa.EvLib
theorem specNextOpen_ev (l : List Bool) (hl : l.length ≤ 1048576) (a : Int) : ∃ r, NextIs l a r ∧ Ev (fun k => spec_NextOpen.f k l a) r := by
  unfold spec_NextOpen.f
  by_cases h : isCal l = true
  · by_cases h2 : 0 ≤ a ∧ a ≤ 100000
    · obtain ⟨i, rfl⟩ := Int.eq_ofNat_of_zero_le h2.1
      obtain ⟨j, hj1, hj2, hj3⟩ := some_open h i
      obtain ⟨r, h3, h4, h5, h6, h7⟩ := next_ev spec_NextOpen.l0 (fun k _ _ => by simp only [spec_NextOpen.l0]) (isCal_len h) i j (by omega) hj1 hj3
      refine ⟨r, ?_, ev_bind (specIsCalendar_ev l hl) (ev_itep h (ev_bindc (l1In_eq _ _ _) (ev_step (fun k => by simp only [spec_NextOpen.j0]; rfl) (ev_iten (by simp; omega) h7))))⟩
      unfold NextIs
      rw [if_pos ⟨h, h2⟩]
      exact ⟨i, r, rfl, rfl, h3, by omega, h5, h6⟩
    · refine ⟨-1, by unfold NextIs; rw [if_neg (fun c => h2 c.2)], ev_bind (specIsCalendar_ev l hl) (ev_itep h (ev_bindc (l1In_eq _ _ _) (ev_step (fun k => by simp only [spec_NextOpen.j0]; rfl) (ev_itep (by rw [decide_eq_false h2]; rfl) (ev_some rfl)))))⟩
  · exact ⟨-1, by unfold NextIs; rw [if_neg (fun c => h c.1)], ev_bind (specIsCalendar_ev l hl) (ev_iten h (ev_step (fun k => by simp only [spec_NextOpen.j0]; rfl) (ev_itep (by first | rfl | trivial) (ev_some rfl))))⟩
theorem nextOpen_ev (l : List Bool) (hl : l.length ≤ 1048576) (a : Int) : ∃ r, NextIs l a r ∧ Ev (fun k => spec_NextOpen.f k l a) r ∧ Ev (fun k => impl_NextOpen.f k l a) r := by
  obtain ⟨r, h1, h2⟩ := specNextOpen_ev l hl a
  obtain ⟨s, g1, g2⟩ := implNextOpen_ev l hl a
  obtain rfl := h1.one g1
  exact ⟨r, h1, h2, g2⟩
end Go.Proofs.Ytnlgilmbmoiniaa.PFnExactTaskOf
