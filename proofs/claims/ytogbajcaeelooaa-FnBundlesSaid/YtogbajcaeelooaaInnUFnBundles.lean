/- Things in things: each is in one thing. -/
import Derived.Test.YtogbajcaeelooaaInnDFnBundles
namespace Go.Proofs.Ytogbajcaeelooaa.PFnBundles
open Go.RowKit Go.Proofs.YtogbajcaeelooaaW.PrintWords Go.Proofs.YtogbajcaeelooaaW.PrintLast Go.Proofs.Ytogbajcaeelooaa.EvLib
theorem inn_get (l : List IInner) (i : Nat) (h : i < l.length) : inn l i = l[i] := by simp [inn, List.getD, h]
theorem has_of {x : Int} : ∀ {l : List IInner} (j : Nat), j < l.length → (inn l j).f1 = x → hasF x l = true := by
  intro l
  induction l with
  | nil => intro j h; simp at h
  | cons y l ih =>
    intro j h h1
    rw [hasF]
    split
    · rfl
    · rename_i c
      cases j with
      | zero => exact absurd h1 c
      | succ j => exact ih j (by simpa using h) h1
theorem has_no {x : Int} {l : List IInner} (h : hasF x l = false) (j : Nat) (hj : j < l.length) : (inn l j).f1 ≠ x := fun e => by rw [has_of j hj e] at h; cases h
theorem has_ex {x : Int} : ∀ {l : List IInner}, hasF x l = true → ∃ y ∈ l, y.f1 = x := by
  intro l
  induction l with
  | nil => intro h; simp [hasF] at h
  | cons y l ih =>
    intro h
    rw [hasF] at h
    split at h
    · rename_i c
      exact ⟨y, by simp, c⟩
    · obtain ⟨z, h1, h2⟩ := ih h
      exact ⟨z, by simp [h1], h2⟩
theorem are_once {l : List IInner} (h : areInn l = true) (i : Nat) (hi : i < l.length) : hasF (inn l i).f1 (l.take i) = false := by
  unfold areInn at h
  simp only [Bool.and_eq_true, decide_eq_true_eq] at h
  have := List.all_eq_true.1 h.2.1 i (List.mem_range.mpr hi)
  unfold inOk at this
  simp only [Bool.and_eq_true, decide_eq_true_eq, Bool.not_eq_true'] at this
  exact this.2.2
end Go.Proofs.Ytogbajcaeelooaa.PFnBundles
