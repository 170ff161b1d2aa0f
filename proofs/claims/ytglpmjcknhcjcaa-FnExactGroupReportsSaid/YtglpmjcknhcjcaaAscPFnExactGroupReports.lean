/- An ascending list: as a law on lists. -/
import Derived.Test.YtglpmjcknhcjcaaRepIFnExactGroupReports
namespace Go.Proofs.Ytglpmjcknhcjcaa.PFnExactGroupReports
open Go.RowKit Go.Proofs.YtglpmjcknhcjcaaW.PrintWords Go.Proofs.YtglpmjcknhcjcaaW.PrintLast Go.Proofs.Ytglpmjcknhcjcaa.EvLib
theorem rd_get (l : List Int) (i : Nat) (h : i < l.length) : rd l (i : Int) = l[i] := by
  unfold rd
  rw [Int.toNat_natCast, List.getD_eq_getElem?_getD, List.getElem?_eq_getElem h, Option.getD_some]
theorem asc_iff (l : List Int) (lo hi : Int) : asc l lo hi = true ↔ (∀ x ∈ l, lo ≤ x ∧ x ≤ hi) ∧ l.Pairwise (· < ·) := by
  unfold asc
  rw [Bool.and_true, List.all_eq_true]
  constructor
  · intro h
    have h1 : ∀ i (hi' : i < l.length), lo ≤ l[i] ∧ l[i] ≤ hi := by
      intro i hi'
      have := h i (List.mem_range.2 hi')
      unfold aP at this
      rw [Bool.and_eq_true, decide_eq_true_eq, rd_get l i hi'] at this
      exact this.1
    have h2 : ∀ i (hi' : i + 1 < l.length), l[i] < l[i + 1] := by
      intro i hi'
      have := h (i + 1) (List.mem_range.2 hi')
      unfold aP at this
      rw [Bool.and_eq_true] at this
      have h3 := this.2
      rw [decide_eq_false (show ¬ i + 1 = 0 by omega), Bool.false_or, decide_eq_true_eq, rd_get l (i + 1) hi', show ((i + 1 : Nat) : Int) - 1 = ((i : Nat) : Int) by omega, rd_get l i (by omega)] at h3
      exact h3
    refine ⟨fun x hx => ?_, List.pairwise_iff_getElem.2 ?_⟩
    · obtain ⟨i, hi', e⟩ := List.mem_iff_getElem.1 hx
      subst e
      exact h1 i hi'
    · intro i j hi' hj hij
      have key : ∀ d, ∀ (h3 : i + 1 + d < l.length), l[i] < l[i + 1 + d] := by
        intro d
        induction d with
        | zero => intro h3; exact h2 i h3
        | succ d ih =>
          intro h3
          have h4 := ih (by omega)
          have h5 := h2 (i + 1 + d) (by omega)
          exact Int.lt_trans h4 h5
      have e : j = i + 1 + (j - (i + 1)) := by omega
      have := key (j - (i + 1)) (by omega)
      simp only [← e] at this
      exact this
  · rintro ⟨h1, h2⟩ i hi'
    have hi2 := List.mem_range.1 hi'
    unfold aP
    rw [Bool.and_eq_true, decide_eq_true_eq, rd_get l i hi2]
    refine ⟨h1 _ (List.getElem_mem _), ?_⟩
    by_cases z : i = 0
    · rw [decide_eq_true z, Bool.true_or]
    · rw [decide_eq_false z, Bool.false_or, decide_eq_true_eq, show (i : Int) - 1 = ((i - 1 : Nat) : Int) by omega, rd_get l (i - 1) (by omega)]
      exact List.pairwise_iff_getElem.1 h2 (i - 1) i (by omega) hi2 (by omega)
theorem asc_filter {l : List Int} {lo hi : Int} (p : Int → Bool) (h : asc l lo hi = true) : asc (l.filter p) lo hi = true := by
  rw [asc_iff] at h ⊢
  exact ⟨fun x hx => h.1 x (List.mem_filter.1 hx).1, h.2.filter p⟩
end Go.Proofs.Ytglpmjcknhcjcaa.PFnExactGroupReports
