/- The outer of a thing. -/
import Derived.Test.YtogbajcaeelooaaAbInnerFnBundles
namespace Go.Proofs.Ytogbajcaeelooaa.PFnBundles
open Go.RowKit Go.Proofs.YtogbajcaeelooaaW.PrintWords Go.Proofs.YtogbajcaeelooaaW.PrintLast Go.Proofs.Ytogbajcaeelooaa.EvLib
def inn (l : List IInner) (i : Nat) : IInner := l.getD i z48
theorem rd_inn (l : List IInner) (i : Nat) : rd_T48 l (i : Int) = inn l i := by unfold rd_T48 inn; rw [Int.toNat_natCast]
theorem drop_inn (l : List IInner) (i : Nat) (h : i < l.length) : l.drop i = inn l i :: l.drop (i + 1) := by
  rw [List.drop_eq_getElem_cons h]
  simp [inn, List.getD, h]
/-- What a thing is in, or 0. -/
def outF (x : Int) : List IInner → Int
  | [] => 0
  | y :: l => if y.f1 = x then y.f0 else outF x l
/-- Is a thing in something. -/
def hasF (x : Int) : List IInner → Bool
  | [] => false
  | y :: l => if y.f1 = x then true else hasF x l
theorem idx_out (x : Int) : ∀ (l : List IInner) (i : Nat), (idxB (fun y => y.f1 == x) l i = -1 ∧ hasF x l = false ∧ outF x l = 0) ∨ (∃ j : Nat, j < l.length ∧ idxB (fun y => y.f1 == x) l i = ((i + j : Nat) : Int) ∧ hasF x l = true ∧ (inn l j).f0 = outF x l) := by
  intro l
  induction l with
  | nil => intro i; exact Or.inl ⟨rfl, rfl, rfl⟩
  | cons y l ih =>
    intro i
    by_cases h : y.f1 = x
    · refine Or.inr ⟨0, by simp, ?_, ?_, ?_⟩
      · rw [idxB, if_pos (by simpa using h)]; rfl
      · rw [hasF, if_pos h]
      · rw [outF, if_pos h]; rfl
    · rw [idxB, if_neg (by simpa using h), hasF, if_neg h, outF, if_neg h]
      rcases ih (i + 1) with ⟨h1, h2, h3⟩ | ⟨j, h1, h2, h3, h4⟩
      · exact Or.inl ⟨h1, h2, h3⟩
      · exact Or.inr ⟨j + 1, by simp; omega, by rw [h2]; congr 1; omega, h3, h4⟩
theorem implInner_eq (l : List IInner) (x : Int) : ∃ r : Int, impl_innerOf.f l x = some r ∧ (hasF x l = false ∧ r = -1 ∧ outF x l = 0 ∨ hasF x l = true ∧ 0 ≤ r ∧ r < l.length ∧ (inn l r.toNat).f0 = outF x l) := by
  refine ⟨_, rfl, ?_⟩
  rcases idx_out x l 0 with ⟨h1, h2, h3⟩ | ⟨j, h1, h2, h3, h4⟩
  · exact Or.inl ⟨h2, h1, h3⟩
  · refine Or.inr ⟨h3, ?_, ?_, ?_⟩
    · rw [h2]; omega
    · rw [h2]; omega
    · rw [h2, Nat.zero_add, Int.toNat_natCast]; exact h4
end Go.Proofs.Ytogbajcaeelooaa.PFnBundles
