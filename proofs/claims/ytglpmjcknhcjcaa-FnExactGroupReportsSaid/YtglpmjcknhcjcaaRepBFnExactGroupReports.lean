/- IsReport, as a bool. -/
import Derived.Test.YtglpmjcknhcjcaaBthSFnExactGroupReports
namespace Go.Proofs.Ytglpmjcknhcjcaa.PFnExactGroupReports
open Go.RowKit Go.Proofs.YtglpmjcknhcjcaaW.PrintWords Go.Proofs.YtglpmjcknhcjcaaW.PrintLast Go.Proofs.Ytglpmjcknhcjcaa.EvLib
def spn (e f : Int) : Bool := decide (0 ≤ e ∧ e ≤ 100000) && (decide (0 ≤ f ∧ f ≤ 100000) && decide (e ≤ f))
theorem implSpan_eq (e f : Int) : impl_IsSpan.f e f = some (spn e f) := by
  unfold impl_IsSpan.f spn
  simp only [inRange_eq, Option.bind_some]
  by_cases h1 : 0 ≤ e ∧ e ≤ 100000
  · rw [decide_eq_true h1, if_pos rfl, Bool.true_and]
    by_cases h2 : 0 ≤ f ∧ f ≤ 100000
    · rw [decide_eq_true h2, if_pos rfl, Bool.true_and]
    · rw [decide_eq_false h2, if_neg (by simp), Bool.false_and]
  · rw [decide_eq_false h1, if_neg (by simp), Bool.false_and]
theorem specSpan_eq (e f : Int) : spec_IsSpan.f e f = some (spn e f) := by
  unfold spec_IsSpan.f spn
  simp only [l1In_eq, Option.bind_some]
  by_cases h1 : 0 ≤ e ∧ e ≤ 100000
  · rw [decide_eq_true h1, if_pos rfl, Bool.true_and]
    by_cases h2 : 0 ≤ f ∧ f ≤ 100000
    · rw [decide_eq_true h2, if_pos rfl, Bool.true_and]
    · rw [decide_eq_false h2, if_neg (by simp), Bool.false_and]
  · rw [decide_eq_false h1, if_neg (by simp), Bool.false_and]
def isRep (a b : Int) (l : List Int) (c d : Int) (m : List Int) (e f : Int) : Bool :=
  decide (1 ≤ a ∧ a ≤ 999) && (decide (1 ≤ b ∧ b ≤ 8) && (asc l 0 7 && (decide (1 ≤ c) && (decide (c ≤ d) && (decide (d ≤ 50) && (asc m 1 30 && (decide ((m.length : Int) ≤ 10) && spn e f)))))))
theorem isRep_iff {a b : Int} {l : List Int} {c d : Int} {m : List Int} {e f : Int} : isRep a b l c d m e f = true ↔ (1 ≤ a ∧ a ≤ 999) ∧ (1 ≤ b ∧ b ≤ 8) ∧ asc l 0 7 = true ∧ 1 ≤ c ∧ c ≤ d ∧ d ≤ 50 ∧ asc m 1 30 = true ∧ (m.length : Int) ≤ 10 ∧ (0 ≤ e ∧ e ≤ 100000) ∧ (0 ≤ f ∧ f ≤ 100000) ∧ e ≤ f := by
  unfold isRep spn
  simp only [Bool.and_eq_true, decide_eq_true_eq]
theorem implRep_ev (a b : Int) (l : List Int) (c d : Int) (m : List Int) (e f : Int) (hl : l.length ≤ 2097152) (hm : m.length ≤ 2097152) : Ev (fun k => impl_IsReport.f k a b l c d m e f) (isRep a b l c d m e f) := by
  unfold impl_IsReport.f isRep
  refine ev_bindc (inRange_eq _ _ _) (ev_ite (fun g => ?_) (fun g => ev_some (by rw [Bool.eq_false_iff.2 g, Bool.false_and])))
  rw [g, Bool.true_and]
  refine ev_bindc (inRange_eq _ _ _) (ev_ite (fun g => ?_) (fun g => ev_some (by rw [Bool.eq_false_iff.2 g, Bool.false_and])))
  rw [g, Bool.true_and]
  refine ev_bind (implAsc_ev l 0 7 hl) (ev_ite (fun g => ?_) (fun g => ev_some (by rw [Bool.eq_false_iff.2 g, Bool.false_and])))
  rw [g, Bool.true_and]
  refine ev_ite (fun g => ?_) (fun g => ev_some (by rw [decide_eq_false g, Bool.false_and]))
  rw [decide_eq_true g, Bool.true_and]
  refine ev_ite (fun g => ?_) (fun g => ev_some (by rw [decide_eq_false g, Bool.false_and]))
  rw [decide_eq_true g, Bool.true_and]
  refine ev_ite (fun g => ?_) (fun g => ev_some (by rw [decide_eq_false g, Bool.false_and]))
  rw [decide_eq_true g, Bool.true_and]
  refine ev_bind (implAsc_ev m 1 30 hm) (ev_ite (fun g => ?_) (fun g => ev_some (by rw [Bool.eq_false_iff.2 g, Bool.false_and])))
  rw [g, Bool.true_and]
  refine ev_ite (fun g => ?_) (fun g => ev_some (by rw [decide_eq_false g, Bool.false_and]))
  rw [decide_eq_true g, Bool.true_and]
  exact ev_bindc (implSpan_eq _ _) (ev_some rfl)
theorem specRep_ev (a b : Int) (l : List Int) (c d : Int) (m : List Int) (e f : Int) (hl : l.length ≤ 2097152) (hm : m.length ≤ 2097152) : Ev (fun k => spec_IsReport.f k a b l c d m e f) (isRep a b l c d m e f) := by
  unfold spec_IsReport.f isRep
  refine ev_bindc (l1In_eq _ _ _) (ev_ite (fun g => ?_) (fun g => ev_some (by rw [Bool.eq_false_iff.2 g, Bool.false_and])))
  rw [g, Bool.true_and]
  refine ev_bindc (l1In_eq _ _ _) (ev_ite (fun g => ?_) (fun g => ev_some (by rw [Bool.eq_false_iff.2 g, Bool.false_and])))
  rw [g, Bool.true_and]
  refine ev_bind (specAsc_ev l 0 7 hl) (ev_ite (fun g => ?_) (fun g => ev_some (by rw [Bool.eq_false_iff.2 g, Bool.false_and])))
  rw [g, Bool.true_and]
  refine ev_ite (fun g => ?_) (fun g => ev_some (by rw [decide_eq_false (by omega), Bool.false_and]))
  rw [decide_eq_true (by omega), Bool.true_and]
  refine ev_ite (fun g => ?_) (fun g => ev_some (by rw [decide_eq_false g, Bool.false_and]))
  rw [decide_eq_true g, Bool.true_and]
  refine ev_ite (fun g => ?_) (fun g => ev_some (by rw [decide_eq_false g, Bool.false_and]))
  rw [decide_eq_true g, Bool.true_and]
  refine ev_bind (specAsc_ev m 1 30 hm) (ev_ite (fun g => ?_) (fun g => ev_some (by rw [Bool.eq_false_iff.2 g, Bool.false_and])))
  rw [g, Bool.true_and]
  refine ev_ite (fun g => ?_) (fun g => ev_some (by rw [decide_eq_false g, Bool.false_and]))
  rw [decide_eq_true g, Bool.true_and]
  exact ev_bindc (specSpan_eq _ _) (ev_some rfl)
end Go.Proofs.Ytglpmjcknhcjcaa.PFnExactGroupReports
