/- Today, by the program. -/
import Derived.Test.YtnlgilmbmoiniaaCvTaskFnExactToday
import Derived.Test.YtnlgilmbmoiniaaInRFnExactToday
namespace Go.Proofs.Ytnlgilmbmoiniaa.PFnExactToday
open Go.RowKit Go.Proofs.YtnlgilmbmoiniaaW.PrintWords Go.Proofs.YtnlgilmbmoiniaaW.PrintLast Go.Proofs.Ytnlgilmbmoiniaa.EvLib
def tkd (l : List ITask) (i : Nat) : ITask := l.getD i z54
theorem rd_tkd (l : List ITask) (i : Nat) : rd_T54 l (i : Int) = tkd l i := by unfold rd_T54 tkd; rw [Int.toNat_natCast]
def isToday (now : Int) (x : ITask) : Bool := decide (x.f2 ≤ Int.tdiv now 24 ∧ x.f1 ≠ 0)
def today (l : List ITask) (now : Int) : List ITask := if 0 ≤ now ∧ now ≤ 100000 then l.filter (isToday now) else []
theorem tdiv24 {now : Int} (h : 0 ≤ now ∧ now ≤ 100000) : wrap64 (Int.tdiv now 24) = Int.tdiv now 24 := by
  have e := Int.tdiv_eq_ediv_of_nonneg (b := 24) h.1
  rw [e, wrap_id (by omega) (by omega)]
theorem drop_tkd (l : List ITask) (i : Nat) (h : i < l.length) : l.drop i = tkd l i :: l.drop (i + 1) := by
  rw [List.drop_eq_getElem_cons h]
  simp [tkd, List.getD, h]
theorem implToday_l0 (l : List ITask) (hl : l.length ≤ 1048576) (now : Int) (hn : 0 ≤ now ∧ now ≤ 100000) : ∀ (d i : Nat) (s : List ITask), i + d = l.length → s.length ≤ i → Ev (fun k => impl_Today.l0 k now s l (l.length : Int) (i : Int)) (s ++ (l.drop i).filter (isToday now)) := by
  intro d
  induction d with
  | zero =>
    intro i s hi hs
    exact ev_step (fun k => by simp only [impl_Today.l0]; rfl) (ev_iten (by omega) (ev_some (by rw [List.drop_of_length_le (by omega)]; simp)))
  | succ d ih =>
    intro i s hi hs
    refine ev_step (fun k => by simp only [impl_Today.l0]; rfl) (ev_itep (by omega) (ev_itep (by omega) (ev_itep (by omega) ?_)))
    simp only [rd_tkd, wrap_id (x := (i : Int) + 1) (by omega) (by omega), tdiv24 hn]
    rw [drop_tkd l i (by omega)]
    refine ev_ite (fun c => ev_ite (fun c2 => ?_) (fun c2 => ev_itep (by omega) ?_)) (fun c => ?_)
    · rw [List.filter_cons_of_neg (by unfold isToday; simp [c2])]
      exact ih (i + 1) s (by omega) (by omega)
    · have := ih (i + 1) (s ++ [tkd l i]) (by omega) (by simp; omega)
      rw [List.filter_cons_of_pos (by unfold isToday; simp [c, c2])]
      rw [List.append_assoc, List.singleton_append] at this
      exact this
    · rw [List.filter_cons_of_neg (by unfold isToday; simp [c])]
      exact ih (i + 1) s (by omega) (by omega)
theorem implToday_ev (l : List ITask) (hl : l.length ≤ 1048576) (now : Int) : Ev (fun k => impl_Today.f k l now) (today l now) := by
  unfold impl_Today.f today
  refine ev_bindc rfl (ev_bindc (inRange_eq _ _ _) (ev_ite (fun h => ?_) (fun h => ev_some ?_)))
  · have h2 := of_decide_eq_true h
    rw [if_pos h2]
    exact implToday_l0 l hl now h2 l.length 0 [] (by omega) (by simp)
  · rw [if_neg (fun z => h (decide_eq_true z))]
end Go.Proofs.Ytnlgilmbmoiniaa.PFnExactToday
