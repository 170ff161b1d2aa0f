/- TaskOf of the program and of the reference. -/
import Derived.Test.YtnlgilmbmoiniaaFatEFnExactTaskOf
import Derived.Test.YtnlgilmbmoiniaaLastSFnExactTaskOf
namespace Go.Proofs.Ytnlgilmbmoiniaa.PFnExactTaskOf
open Go.RowKit Go.Proofs.YtnlgilmbmoiniaaW.PrintWords Go.Proofs.YtnlgilmbmoiniaaW.PrintLast Go.Proofs.Ytnlgilmbmoiniaa.EvLib
theorem lastDay_ok (l : List Bool) (hl : l.length ≤ 1048576) (a0 a1 a2 a3 a4 a5 a6 a7 : Int) : ∃ r, Ev (fun k => impl_LastDay.f k l a0 a1 a2 a3 a4 a5 a6 a7) r ∧ Ev (fun k => spec_LastDay.f k l a0 a1 a2 a3 a4 a5 a6 a7) r := by
  obtain ⟨r, h1, h2⟩ := implLastDay_ev l hl a0 a1 a2 a3 a4 a5 a6 a7
  exact ⟨r, h2, specLastDay_ev l hl a0 a1 a2 a3 a4 a5 a6 a7 r h1⟩
theorem task_j0 (c : List IClaim) (hc : c.length ≤ 1048576) (l : List Bool) (hl : l.length ≤ 1048576) (h : Int) (q : Bool) (a0 a1 a2 a3 a4 a5 a6 a7 : Int) :
    ∃ r, Ev (fun k => impl_TaskOf.j0 k c l h q a0 a1 a2 a3 a4 a5 a6 a7) r ∧ Ev (fun k => spec_TaskOf.j0 k c l h q a0 a1 a2 a3 a4 a5 a6 a7) r := by
  cases q with
  | true => exact ⟨(0, 0, 0), ev_step (fun k => by simp only [impl_TaskOf.j0]; rfl) (ev_itep (show true = true from rfl) (ev_some rfl)), ev_step (fun k => by simp only [spec_TaskOf.j0]; rfl) (ev_itep (show true = true from rfl) (ev_some rfl))⟩
  | false =>
    obtain ⟨f, f1, f2⟩ := fateOf_ok a0 a1 a2 a3 a4 a5 a6 a7 c hc h
    obtain ⟨n, _, n1, n2⟩ := nextOpen_ev l hl (wrap64 (Int.tdiv h 24))
    obtain ⟨d, d1, d2⟩ := lastDay_ok l hl a0 a1 a2 a3 a4 a5 a6 a7
    by_cases c1 : f = 1
    · skip
      refine ⟨(a0, f, n), ev_step (fun k => by simp only [impl_TaskOf.j0]; rfl) (ev_iten (by simp) ?_), ev_step (fun k => by simp only [spec_TaskOf.j0]; rfl) (ev_iten (by simp) ?_)⟩
      · exact ev_bind f1 (ev_itep c1 (ev_bind n2 (ev_some rfl)))
      · exact ev_bind f2 (ev_itep c1 (ev_bind n1 (ev_some rfl)))
    · by_cases c2 : f = 0
      · skip
        refine ⟨(a0, f, d), ev_step (fun k => by simp only [impl_TaskOf.j0]; rfl) (ev_iten (by simp) ?_), ev_step (fun k => by simp only [spec_TaskOf.j0]; rfl) (ev_iten (by simp) ?_)⟩
        · exact ev_bind f1 (ev_iten c1 (ev_itep c2 (ev_bind d1 (ev_some rfl))))
        · exact ev_bind f2 (ev_iten c1 (ev_itep c2 (ev_bind d2 (ev_some rfl))))
      · skip
        refine ⟨(a0, f, wrap64 (Int.tdiv h 24)), ev_step (fun k => by simp only [impl_TaskOf.j0]; rfl) (ev_iten (by simp) ?_), ev_step (fun k => by simp only [spec_TaskOf.j0]; rfl) (ev_iten (by simp) ?_)⟩
        · exact ev_bind f1 (ev_iten c1 (ev_iten c2 (ev_some rfl)))
        · exact ev_bind f2 (ev_iten c1 (ev_iten c2 (ev_some rfl)))
theorem taskOf_ok (a0 a1 a2 a3 a4 a5 a6 a7 : Int) (c : List IClaim) (hc : c.length ≤ 1048576) (l : List Bool) (hl : l.length ≤ 1048576) (h : Int) :
    ∃ r, Ev (fun k => impl_TaskOf.f k a0 a1 a2 a3 a4 a5 a6 a7 c l h) r ∧ Ev (fun k => spec_TaskOf.f k a0 a1 a2 a3 a4 a5 a6 a7 c l h) r := by
  unfold impl_TaskOf.f spec_TaskOf.f
  obtain ⟨r, r1, r2⟩ := task_j0 c hc l hl h true a0 a1 a2 a3 a4 a5 a6 a7
  obtain ⟨s, s1, s2⟩ := task_j0 c hc l hl h (!decide (0 ≤ h ∧ h ≤ 100000)) a0 a1 a2 a3 a4 a5 a6 a7
  by_cases c1 : isFind a0 a1 a2 a3 a4 a5 a6 a7 = true
  · by_cases c2 : isCal l = true
    · exact ⟨s, ev_bindc (implIsFind_eq _ _ _ _ _ _ _ _) (ev_itep c1 (ev_bind (implIsCalendar_ev l hl) (ev_itep c2 (ev_bindc (inRange_eq _ _ _) s1)))), ev_bindc (specIsFind_eq _ _ _ _ _ _ _ _) (ev_itep c1 (ev_bind (specIsCalendar_ev l hl) (ev_itep c2 (ev_bindc (l1In_eq _ _ _) s2))))⟩
    · exact ⟨r, ev_bindc (implIsFind_eq _ _ _ _ _ _ _ _) (ev_itep c1 (ev_bind (implIsCalendar_ev l hl) (ev_iten c2 r1))), ev_bindc (specIsFind_eq _ _ _ _ _ _ _ _) (ev_itep c1 (ev_bind (specIsCalendar_ev l hl) (ev_iten c2 r2)))⟩
  · exact ⟨r, ev_bindc (implIsFind_eq _ _ _ _ _ _ _ _) (ev_iten c1 r1), ev_bindc (specIsFind_eq _ _ _ _ _ _ _ _) (ev_iten c1 r2)⟩
end Go.Proofs.Ytnlgilmbmoiniaa.PFnExactTaskOf
