/- LastDay of the program. -/
import Derived.Test.YtnlgilmbmoiniaaDueIFnExactTaskOf
import Derived.Test.YtnlgilmbmoiniaaNextFnExactTaskOf
namespace Go.Proofs.Ytnlgilmbmoiniaa.PFnExactTaskOf
open Go.RowKit Go.Proofs.YtnlgilmbmoiniaaW.PrintWords Go.Proofs.YtnlgilmbmoiniaaW.PrintLast Go.Proofs.Ytnlgilmbmoiniaa.EvLib
def LastIs (l : List Bool) (a0 a1 a2 a3 a4 a5 a6 a7 r : Int) : Prop := if isFind a0 a1 a2 a3 a4 a5 a6 a7 = true then NextIs l (dueHour a0 a1 a2 a3 a4 a5 a6 a7 / 24) r else r = -1
theorem due24 {a0 a1 a2 a3 a4 a5 a6 a7 : Int} (h : isFind a0 a1 a2 a3 a4 a5 a6 a7 = true) : wrap64 (Int.tdiv (dueHour a0 a1 a2 a3 a4 a5 a6 a7) 24) = dueHour a0 a1 a2 a3 a4 a5 a6 a7 / 24 := by
  have := dueHour_le h
  rw [Int.tdiv_eq_ediv_of_nonneg this.1, wrap_id (by omega) (by omega)]
theorem implLastDay_ev (l : List Bool) (hl : l.length ≤ 1048576) (a0 a1 a2 a3 a4 a5 a6 a7 : Int) : ∃ r, LastIs l a0 a1 a2 a3 a4 a5 a6 a7 r ∧ Ev (fun k => impl_LastDay.f k l a0 a1 a2 a3 a4 a5 a6 a7) r := by
  unfold impl_LastDay.f LastIs
  by_cases h : isFind a0 a1 a2 a3 a4 a5 a6 a7 = true
  · obtain ⟨r, h1, h2⟩ := implNextOpen_ev l hl (dueHour a0 a1 a2 a3 a4 a5 a6 a7 / 24)
    refine ⟨r, by rw [if_pos h]; exact h1, ev_bindc (implIsFind_eq _ _ _ _ _ _ _ _) (ev_itep h (ev_bind (implDueHour_ev _ _ _ _ _ _ _ _) (ev_bind ?_ (ev_some rfl))))⟩
    rw [due24 h]
    exact h2
  · exact ⟨-1, by rw [if_neg h], ev_bindc (implIsFind_eq _ _ _ _ _ _ _ _) (ev_iten h (ev_some rfl))⟩
end Go.Proofs.Ytnlgilmbmoiniaa.PFnExactTaskOf
