/- The pure statement of FnExactAddOpenDays. -/
import Derived.Test.YtkbnbimphddmbaaAddFnExactAddOpenDays
import Derived.Test.YtkbnbimphddmbaaNextSFnExactAddOpenDays
namespace Go.Proofs.Ytkbnbimphddmbaa.Pure
open Go.RowKit Go.Proofs.Ytkbnbimphddmbaa.PFnExactAddOpenDays Go.Proofs.YtkbnbimphddmbaaW.PrintWords Go.Proofs.YtkbnbimphddmbaaW.PrintLast Go.Proofs.Ytkbnbimphddmbaa.EvLib
theorem same_l0 : ∀ (k : Nat) (x0 : List Bool) (x1 x2 : Int), spec_AddOpenDays.l0 k x0 x1 x2 = impl_AddOpenDays.l0 k x0 x1 x2 := by
  intro k
  induction k with
  | zero => intro x0 x1 x2; simp only [spec_AddOpenDays.l0, impl_AddOpenDays.l0]
  | succ k ih => intro x0 x1 x2; simp only [spec_AddOpenDays.l0, impl_AddOpenDays.l0, ih]
theorem add_ev (l : List Bool) (hl : l.length ≤ 1048576) (a n : Int) : ∃ r, Ev (fun k => spec_AddOpenDays.f k l a n) r ∧ Ev (fun k => impl_AddOpenDays.f k l a n) r := by
  have bad : ∀ x : Bool, x = true → Ev (fun k => spec_AddOpenDays.j0 k l a n x) (-1) := fun x hx => ev_step (fun k => by simp only [spec_AddOpenDays.j0]; rfl) (ev_itep hx (ev_some rfl))
  obtain ⟨r, hr, he⟩ := implAdd_ev l hl a n
  refine ⟨r, ?_, he⟩
  unfold spec_AddOpenDays.f
  by_cases h : isCal l = true
  · by_cases h2 : 0 ≤ a ∧ a ≤ 100000
    · by_cases h3 : 0 ≤ n ∧ n ≤ 1000
      · refine ev_bind (specIsCalendar_ev l hl) (ev_itep h (ev_bindc (l1In_eq _ _ _) (ev_itep (by simpa using h2) (ev_bindc (l1In_eq _ _ _) (ev_step (fun k => by simp only [spec_AddOpenDays.j0]; rfl) (ev_iten (by simp; omega) ?_))))))
        unfold AddIs at hr
        rw [if_pos ⟨h, h2, h3⟩] at hr
        refine ev_ite (fun h0 => ?_) (fun h0 => ?_)
        · obtain ⟨s, g1, g2⟩ := specNextOpen_ev l hl a
          obtain rfl := (hr.1 h0).one g1
          exact ev_bind g2 (ev_some rfl)
        · simp only [same_l0]
          obtain ⟨i, j, rfl, rfl, _⟩ := hr.2 (by omega)
          obtain ⟨m, rfl⟩ := Int.eq_ofNat_of_zero_le h3.1
          obtain ⟨j', _, _, _, _, g5⟩ := implAdd_l0 h m i (by omega) (by omega)
          have : Ev (fun k => impl_AddOpenDays.f k l (i : Int) (m : Int)) (j' : Int) := by
            unfold impl_AddOpenDays.f
            exact ev_bind (implIsCalendar_ev l hl) (ev_itep h (ev_bindc (inRange_eq _ _ _) (ev_itep (by simpa using h2) (ev_bindc (inRange_eq _ _ _) (ev_step (fun k => by simp only [impl_AddOpenDays.j0]; rfl) (ev_iten (by simp; omega) (ev_iten h0 g5)))))))
          rw [ev_same he this]
          exact g5
      · unfold AddIs at hr
        rw [if_neg (fun c => h3 c.2.2)] at hr
        subst hr
        exact ev_bind (specIsCalendar_ev l hl) (ev_itep h (ev_bindc (l1In_eq _ _ _) (ev_itep (by simpa using h2) (ev_bindc (l1In_eq _ _ _) (bad _ (by rw [decide_eq_false h3]; rfl))))))
    · unfold AddIs at hr
      rw [if_neg (fun c => h2 c.2.1)] at hr
      subst hr
      exact ev_bind (specIsCalendar_ev l hl) (ev_itep h (ev_bindc (l1In_eq _ _ _) (ev_iten (by simpa using h2) (bad _ rfl))))
  · unfold AddIs at hr
    rw [if_neg (fun c => h c.1)] at hr
    subst hr
    exact ev_bind (specIsCalendar_ev l hl) (ev_iten h (bad _ rfl))
theorem FnExactAddOpenDays : laws_FnExactAddOpenDays.Pure := by
  intro l a n _ _ _
  refine Ev.rounds ?_
  unfold laws_FnExactAddOpenDays.f
  refine ev_ite (fun _ => ev_some rfl) (fun h => ?_)
  have hl : l.length ≤ 1048576 := by omega
  obtain ⟨r, h1, h2⟩ := add_ev l hl a n
  exact ev_bind (toBoolS_ev l hl) (ev_bind h1 (ev_bind (toBoolS_ev l hl) (ev_bind h2 (ev_itep rfl (ev_bind (toBoolS_ev l hl) (ev_bind (eqBoolS_ev l hl) (ev_itep rfl (ev_some rfl))))))))
end Go.Proofs.Ytkbnbimphddmbaa.Pure
