/- IsReport of the program and of the reference. -/
import Derived.Test.YtglpmjcknhcjcaaInRFnExactGroupReports
import Derived.Test.YtglpmjcknhcjcaaL1InFnExactGroupReports
import Derived.Test.YtglpmjcknhcjcaaEvLib
namespace Go.Proofs.Ytglpmjcknhcjcaa.PFnExactGroupReports
open Go.RowKit Go.Proofs.YtglpmjcknhcjcaaW.PrintWords Go.Proofs.YtglpmjcknhcjcaaW.PrintLast Go.Proofs.Ytglpmjcknhcjcaa.EvLib
def aP (l : List Int) (lo hi : Int) (i : Nat) : Bool := decide (lo ≤ rd l (i : Int) ∧ rd l (i : Int) ≤ hi) && (decide (i = 0) || decide (rd l ((i : Int) - 1) < rd l (i : Int)))
def asc (l : List Int) (lo hi : Int) : Bool := (List.range l.length).all (aP l lo hi) && true
theorem implAsc_ev (l : List Int) (lo hi : Int) (hl : l.length ≤ 2097152) : Ev (fun k => impl_isAscending.f k l lo hi) (asc l lo hi) := by
  unfold impl_isAscending.f
  refine ev_all (fun k i => impl_isAscending.l0 k l lo hi l (l.length : Int) i) l.length (aP l lo hi) true (by omega) (fun k => ?_) (fun k i hi' => ?_)
  · simp only [impl_isAscending.l0]
    rw [if_neg (by omega)]
  · simp only [impl_isAscending.l0, inRange_eq, Option.bind_some]
    rw [if_pos (by omega), if_pos (by omega), if_pos (by omega)]
    unfold aP
    by_cases c : lo ≤ rd l (i : Int) ∧ rd l (i : Int) ≤ hi
    · rw [decide_eq_true c, if_pos rfl, Bool.true_and]
      by_cases z : i = 0
      · subst z
        rw [if_neg (by omega), if_pos (by simp)]
      · have e : wrap64 ((i : Int) - 1) = (i : Int) - 1 := wrap_id (by omega) (by omega)
        rw [if_pos (by omega), e, if_pos (by omega), if_pos (by omega), decide_eq_false z, Bool.false_or]
        by_cases g : rd l (i : Int) ≤ rd l ((i : Int) - 1)
        · rw [if_pos g, if_neg (by simp; omega)]
        · rw [if_neg g, if_pos (by simp; omega)]
    · rw [decide_eq_false c, if_neg (by simp), if_neg (by simp)]
theorem specAsc_ev (l : List Int) (lo hi : Int) (hl : l.length ≤ 2097152) : Ev (fun k => spec_l7Ids.f k l lo hi) (asc l lo hi) := by
  unfold spec_l7Ids.f
  refine ev_all (fun k i => spec_l7Ids.l0 k l lo hi i) l.length (aP l lo hi) true (by omega) (fun k => ?_) (fun k i hi' => ?_)
  · simp only [spec_l7Ids.l0]
    rw [if_neg (by omega)]
  · simp only [spec_l7Ids.l0, l1In_eq, Option.bind_some]
    rw [if_pos (by omega), if_pos (by omega)]
    unfold aP
    by_cases c : lo ≤ rd l (i : Int) ∧ rd l (i : Int) ≤ hi
    · rw [decide_eq_true c, if_pos rfl, Bool.true_and]
      by_cases z : i = 0
      · subst z
        rw [if_neg (by omega), if_pos (by simp)]
      · have e : wrap64 ((i : Int) - 1) = (i : Int) - 1 := wrap_id (by omega) (by omega)
        rw [if_pos (by omega), e, if_pos (by omega), if_pos (by omega), decide_eq_false z, Bool.false_or]
        by_cases g : rd l ((i : Int) - 1) ≥ rd l (i : Int)
        · rw [if_pos g, if_neg (by simp; omega)]
        · rw [if_neg g, if_pos (by simp; omega)]
    · rw [decide_eq_false c, if_neg (by simp), if_neg (by simp)]
theorem span_b (a b : Int) : ∃ q, impl_IsSpan.f a b = some q ∧ spec_IsSpan.f a b = some q := by
  unfold impl_IsSpan.f spec_IsSpan.f
  simp only [inRange_eq, l1In_eq, Option.bind_some]
  repeat' (first | exact ⟨_, rfl, rfl⟩ | split)
theorem isReport_ok (a b : Int) (l : List Int) (c d : Int) (m : List Int) (e f : Int) (hl : l.length ≤ 2097152) (hm : m.length ≤ 2097152) :
    ∃ q, Ev (fun k => impl_IsReport.f k a b l c d m e f) q ∧ Ev (fun k => spec_IsReport.f k a b l c d m e f) q ∧ (q = true → 1 ≤ a ∧ a ≤ 999 ∧ 1 ≤ b ∧ b ≤ 8) := by
  obtain ⟨s, hs1, hs2⟩ := span_b e f
  have a1 := implAsc_ev l 0 7 hl
  have a2 := specAsc_ev l 0 7 hl
  have b1 := implAsc_ev m 1 30 hm
  have b2 := specAsc_ev m 1 30 hm
  unfold impl_IsReport.f spec_IsReport.f
  simp only [inRange_eq, l1In_eq, Option.bind_some, hs1, hs2]
  by_cases h1 : 1 ≤ a ∧ a ≤ 999
  · by_cases h2 : 1 ≤ b ∧ b ≤ 8
    · refine ⟨asc l 0 7 && (decide (1 ≤ c) && (decide (c ≤ d) && (decide (d ≤ 50) && (asc m 1 30 && (decide ((m.length : Int) ≤ 10) && s))))), ?_, ?_, fun _ => by omega⟩
      · refine ev_itep (decide_eq_true h1) (ev_itep (decide_eq_true h2) (ev_bind a1 (ev_ite (fun g => ?_) (fun g => ev_some ?_))))
        · rw [g, Bool.true_and]
          refine ev_ite (fun g => ?_) (fun g => ev_some (by rw [decide_eq_false g, Bool.false_and]))
          rw [decide_eq_true g, Bool.true_and]
          refine ev_ite (fun g => ?_) (fun g => ev_some (by rw [decide_eq_false g, Bool.false_and]))
          rw [decide_eq_true g, Bool.true_and]
          refine ev_ite (fun g => ?_) (fun g => ev_some (by rw [decide_eq_false g, Bool.false_and]))
          rw [decide_eq_true g, Bool.true_and]
          refine ev_bind b1 (ev_ite (fun g => ?_) (fun g => ev_some (by rw [Bool.eq_false_iff.2 g, Bool.false_and])))
          rw [g, Bool.true_and]
          refine ev_ite (fun g => ?_) (fun g => ev_some (by rw [decide_eq_false g, Bool.false_and]))
          rw [decide_eq_true g, Bool.true_and]
          exact ev_some rfl
        · rw [Bool.eq_false_iff.2 g, Bool.false_and]
      · refine ev_itep (decide_eq_true h1) (ev_itep (decide_eq_true h2) (ev_bind a2 (ev_ite (fun g => ?_) (fun g => ev_some ?_))))
        · rw [g, Bool.true_and]
          refine ev_ite (fun g => ?_) (fun g => ev_some (by rw [decide_eq_false g, Bool.false_and]))
          rw [decide_eq_true g, Bool.true_and]
          refine ev_ite (fun g => ?_) (fun g => ev_some (by rw [decide_eq_false g, Bool.false_and]))
          rw [decide_eq_true g, Bool.true_and]
          refine ev_ite (fun g => ?_) (fun g => ev_some (by rw [decide_eq_false g, Bool.false_and]))
          rw [decide_eq_true g, Bool.true_and]
          refine ev_bind b2 (ev_ite (fun g => ?_) (fun g => ev_some (by rw [Bool.eq_false_iff.2 g, Bool.false_and])))
          rw [g, Bool.true_and]
          refine ev_ite (fun g => ?_) (fun g => ev_some (by rw [decide_eq_false g, Bool.false_and]))
          rw [decide_eq_true g, Bool.true_and]
          exact ev_some rfl
        · rw [Bool.eq_false_iff.2 g, Bool.false_and]
    · exact ⟨false, ev_itep (decide_eq_true h1) (ev_iten (by simpa using h2) (ev_some rfl)), ev_itep (decide_eq_true h1) (ev_iten (by simpa using h2) (ev_some rfl)), fun h => by cases h⟩
  · exact ⟨false, ev_iten (by simpa using h1) (ev_some rfl), ev_iten (by simpa using h1) (ev_some rfl), fun h => by cases h⟩
end Go.Proofs.Ytglpmjcknhcjcaa.PFnExactGroupReports
