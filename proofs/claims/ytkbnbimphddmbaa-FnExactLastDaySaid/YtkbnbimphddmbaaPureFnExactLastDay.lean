/- The pure statement of FnExactLastDay. -/
import Derived.Test.YtkbnbimphddmbaaLastFnExactLastDay
import Derived.Test.YtkbnbimphddmbaaNextSFnExactLastDay
import Derived.Test.YtkbnbimphddmbaaDueSFnExactLastDay
namespace Go.Proofs.Ytkbnbimphddmbaa.Pure
open Go.RowKit Go.Proofs.Ytkbnbimphddmbaa.PFnExactLastDay Go.Proofs.YtkbnbimphddmbaaW.PrintWords Go.Proofs.YtkbnbimphddmbaaW.PrintLast Go.Proofs.Ytkbnbimphddmbaa.EvLib
theorem specLastDay_ev (l : List Bool) (hl : l.length ≤ 1048576) (a0 a1 a2 a3 a4 a5 a6 a7 r : Int) (hr : LastIs l a0 a1 a2 a3 a4 a5 a6 a7 r) : Ev (fun k => spec_LastDay.f k l a0 a1 a2 a3 a4 a5 a6 a7) r := by
  unfold spec_LastDay.f
  unfold LastIs at hr
  by_cases h : isFind a0 a1 a2 a3 a4 a5 a6 a7 = true
  · rw [if_pos h] at hr
    obtain ⟨s, h1, h2⟩ := specNextOpen_ev l hl (dueHour a0 a1 a2 a3 a4 a5 a6 a7 / 24)
    obtain rfl := hr.one h1
    refine ev_bindc (specIsFind_eq _ _ _ _ _ _ _ _) (ev_itep h (ev_bindc (specDueHour_eq _ _ _ _ _ _ _ _) (ev_bind ?_ (ev_some rfl))))
    rw [due24 h]
    exact h2
  · rw [if_neg h] at hr
    subst hr
    exact ev_bindc (specIsFind_eq _ _ _ _ _ _ _ _) (ev_iten h (ev_some rfl))
theorem toFind_eq (a0 a1 a2 a3 a4 a5 a6 a7 : Int) : laws_toFind.f a0 a1 a2 a3 a4 a5 a6 a7 = some (a0, a1, a2, a3, a4, a5, a6, a7) := rfl
theorem FnExactLastDay : laws_FnExactLastDay.Pure := by
  intro l a0 a1 a2 a3 a4 a5 a6 a7 _ _ _ _ _ _ _ _ _
  refine Ev.rounds ?_
  unfold laws_FnExactLastDay.f
  refine ev_ite (fun _ => ev_some rfl) (fun h => ?_)
  have hl : l.length ≤ 1048576 := by omega
  obtain ⟨r, hr, h2⟩ := implLastDay_ev l hl a0 a1 a2 a3 a4 a5 a6 a7
  have h1 := specLastDay_ev l hl a0 a1 a2 a3 a4 a5 a6 a7 r hr
  simp only [toFind_eq, Option.bind_some]
  exact ev_bind (toBoolS_ev l hl) (ev_bind h1 (ev_bind (toBoolS_ev l hl) (ev_bind h2 (ev_itep rfl (ev_bind (toBoolS_ev l hl) (ev_bind (eqBoolS_ev l hl) (ev_itep rfl (ev_some rfl))))))))
end Go.Proofs.Ytkbnbimphddmbaa.Pure
