/- Today, by the reference. -/
import Derived.Test.YtnlgilmbmoiniaaTodayFnExactToday
import Derived.Test.YtnlgilmbmoiniaaL1InFnExactToday
namespace Go.Proofs.Ytnlgilmbmoiniaa.PFnExactToday
open Go.RowKit Go.Proofs.YtnlgilmbmoiniaaW.PrintWords Go.Proofs.YtnlgilmbmoiniaaW.PrintLast Go.Proofs.Ytnlgilmbmoiniaa.EvLib
theorem specToday_l0 (l : List ITask) (hl : l.length ≤ 1048576) (now : Int) (hn : 0 ≤ now ∧ now ≤ 100000) : ∀ (d i : Nat) (s : List ITask), i + d = l.length → s.length ≤ i → Ev (fun k => spec_Today.l0 k l now s (i : Int)) (s ++ (l.drop i).filter (isToday now)) := by
  intro d
  induction d with
  | zero =>
    intro i s hi hs
    refine ev_step (fun k => by simp only [spec_Today.l0]; rfl) (ev_iten (by omega) (ev_step (fun k => by simp only [spec_Today.j1]; rfl) (ev_iten (by simp) (ev_some (by rw [List.drop_of_length_le (by omega)]; simp)))))
  | succ d ih =>
    intro i s hi hs
    refine ev_step (fun k => by simp only [spec_Today.l0]; rfl) (ev_itep (by omega) (ev_bindc (l1In_eq _ _ _) ?_))
    rw [decide_eq_true hn]
    refine ev_step (fun k => by simp only [spec_Today.j1]; rfl) (ev_itep (by first | rfl | trivial) (ev_itep (by omega) (ev_itep (by omega) ?_)))
    simp only [rd_tkd, wrap_id (x := (i : Int) + 1) (by omega) (by omega), tdiv24 hn]
    rw [drop_tkd l i (by omega)]
    refine ev_ite (fun c => ev_ite (fun c2 => ?_) (fun c2 => ev_itep (by omega) ?_)) (fun c => ?_)
    · rw [List.filter_cons_of_neg (by unfold isToday; simp [c2])]
      exact ih (i + 1) s (by omega) (by omega)
    · have := ih (i + 1) (s ++ [tkd l i]) (by omega) (by simp; omega)
      rw [List.filter_cons_of_pos (by unfold isToday; simp [c, c2])]
      rw [List.append_assoc, List.singleton_append] at this
      exact this
    · rw [List.filter_cons_of_neg (by unfold isToday; simp [c])]
      exact ih (i + 1) s (by omega) (by omega)
theorem specToday_ev (l : List ITask) (hl : l.length ≤ 1048576) (now : Int) : Ev (fun k => spec_Today.f k l now) (today l now) := by
  unfold spec_Today.f
  by_cases hn : 0 ≤ now ∧ now ≤ 100000
  · unfold today
    rw [if_pos hn]
    exact specToday_l0 l hl now hn l.length 0 [] (by omega) (by simp)
  · unfold today
    rw [if_neg hn]
    have stop : Ev (fun k => spec_Today.j1 k l now [] 0 false) [] := ev_step (fun k => by simp only [spec_Today.j1]; rfl) (ev_iten (by simp) (ev_some rfl))
    refine ev_step (fun k => by simp only [spec_Today.l0]; rfl) (ev_ite (fun _ => ev_bindc (l1In_eq _ _ _) ?_) (fun _ => stop))
    rw [decide_eq_false hn]
    exact stop
end Go.Proofs.Ytnlgilmbmoiniaa.PFnExactToday
