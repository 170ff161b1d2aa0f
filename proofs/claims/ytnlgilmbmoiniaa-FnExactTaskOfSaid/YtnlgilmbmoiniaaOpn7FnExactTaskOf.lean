/- Open days. -/
import Derived.Test.YtnlgilmbmoiniaaCalIFnExactTaskOf
namespace Go.Proofs.Ytnlgilmbmoiniaa.PFnExactTaskOf
open Go.RowKit Go.Proofs.YtnlgilmbmoiniaaW.PrintWords Go.Proofs.YtnlgilmbmoiniaaW.PrintLast Go.Proofs.Ytnlgilmbmoiniaa.EvLib

theorem isCal_len {l : List Bool} (h : isCal l = true) : l.length = 7 := by unfold isCal at h; simp at h; exact h.2
theorem tm7 (a : Nat) : Int.tmod (a : Int) 7 = ((a % 7 : Nat) : Int) := by rw [Int.tmod_eq_emod_of_nonneg (by omega)]; omega
/-- Is a day open. -/
def opn (l : List Bool) (d : Nat) : Bool := l.getD (d % 7) false
theorem rd_opn (l : List Bool) (d : Nat) : rdOf false l (Int.tmod (d : Int) 7) = opn l d := by rw [tm7]; rfl
theorem some_open {l : List Bool} (h : isCal l = true) (i : Nat) : ∃ j, i ≤ j ∧ j ≤ i + 6 ∧ opn l j = true := by
  have hl := isCal_len h
  have hm : true ∈ l := by unfold isCal at h; simp at h; exact h.1
  obtain ⟨m, hm, hv⟩ := List.mem_iff_getElem.1 hm
  refine ⟨i + (m + 7 - i % 7) % 7, by omega, by omega, ?_⟩
  have e : (i + (m + 7 - i % 7) % 7) % 7 = m := by omega
  unfold opn
  rw [e]
  simp [List.getD, hm, hv]
end Go.Proofs.Ytnlgilmbmoiniaa.PFnExactTaskOf
