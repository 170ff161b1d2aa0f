/- LastDay of the reference. -/
import Derived.Test.YtnlgilmbmoiniaaLastFnExactTaskOf
import Derived.Test.YtnlgilmbmoiniaaNextSFnExactTaskOf
import Derived.Test.YtnlgilmbmoiniaaDueSFnExactTaskOf
namespace Go.Proofs.Ytnlgilmbmoiniaa.PFnExactTaskOf
open Go.RowKit Go.Proofs.YtnlgilmbmoiniaaW.PrintWords Go.Proofs.YtnlgilmbmoiniaaW.PrintLast Go.Proofs.Ytnlgilmbmoiniaa.EvLib
theorem specLastDay_ev (l : List Bool) (hl : l.length ≤ 1048576) (a0 a1 a2 a3 a4 a5 a6 a7 r : Int) (hr : LastIs l a0 a1 a2 a3 a4 a5 a6 a7 r) : Ev (fun k => spec_LastDay.f k l a0 a1 a2 a3 a4 a5 a6 a7) r := by
  unfold spec_LastDay.f
  unfold LastIs at hr
  by_cases h : isFind a0 a1 a2 a3 a4 a5 a6 a7 = true
  · rw [if_pos h] at hr
    obtain ⟨s, h1, h2⟩ := specNextOpen_ev l hl (dueHour a0 a1 a2 a3 a4 a5 a6 a7 / 24)
    obtain rfl := hr.one h1
    refine ev_bindc (specIsFind_eq _ _ _ _ _ _ _ _) (ev_itep h (ev_bindc (specDueHour_eq _ _ _ _ _ _ _ _) (ev_bind ?_ (ev_some rfl))))
    rw [due24 h]
    exact h2
  · rw [if_neg h] at hr
    subst hr
    exact ev_bindc (specIsFind_eq _ _ _ _ _ _ _ _) (ev_iten h (ev_some rfl))
end Go.Proofs.Ytnlgilmbmoiniaa.PFnExactTaskOf
