/- Finds and their hours: what is said of them. -/
import Derived.Test.YtnlgilmbmoiniaaEvLib
namespace Go.Proofs.Ytnlgilmbmoiniaa.PFnExactTaskOf
open Go.RowKit Go.Proofs.YtnlgilmbmoiniaaW.PrintWords Go.Proofs.Ytnlgilmbmoiniaa.EvLib
def isThing (a0 a1 a2 a3 a4 : Int) : Bool := decide (1 ≤ a0 ∧ a0 ≤ 999) && (decide (1 ≤ a1 ∧ a1 ≤ 8) && (decide (0 ≤ a2 ∧ a2 ≤ 7) && (decide (1 ≤ a3 ∧ a3 ≤ 50) && (decide (0 ≤ a4 ∧ a4 ≤ 10000000)))))
def isFind (a0 a1 a2 a3 a4 a5 a6 a7 : Int) : Bool := isThing a0 a1 a2 a3 a4 && (decide (1 ≤ a5 ∧ a5 ≤ 30) && (decide (0 ≤ a6 ∧ a6 ≤ 100000) && (decide (0 ≤ a7 ∧ a7 ≤ 999))))
theorem if_and (b c : Bool) : (if b = true then some c else some false) = some (b && c) := by cases b <;> rfl
def keepDays (a : Int) : Int := if a = 7 then 1 else if a = 4 ∨ a = 5 then 180 else if 1 ≤ a ∧ a ≤ 8 then 90 else 0
theorem keepDays_le (a : Int) : 0 ≤ keepDays a ∧ keepDays a ≤ 180 := by unfold keepDays; split <;> (try split) <;> (try split) <;> omega
def dueHour (a0 a1 a2 a3 a4 a5 a6 a7 : Int) : Int := if isFind a0 a1 a2 a3 a4 a5 a6 a7 = true then a6 + 24 * keepDays a1 else -1
theorem isFind_at {a0 a1 a2 a3 a4 a5 a6 a7 : Int} (h : isFind a0 a1 a2 a3 a4 a5 a6 a7 = true) : 0 ≤ a6 ∧ a6 ≤ 100000 := by
  unfold isFind at h
  simp only [Bool.and_eq_true, decide_eq_true_eq] at h
  exact h.2.2.1
theorem dueHour_le {a0 a1 a2 a3 a4 a5 a6 a7 : Int} (h : isFind a0 a1 a2 a3 a4 a5 a6 a7 = true) : 0 ≤ dueHour a0 a1 a2 a3 a4 a5 a6 a7 ∧ dueHour a0 a1 a2 a3 a4 a5 a6 a7 ≤ 104320 := by
  unfold dueHour
  rw [if_pos h]
  have h1 := isFind_at h
  have h2 := keepDays_le a1
  omega
end Go.Proofs.Ytnlgilmbmoiniaa.PFnExactTaskOf
