/- The top of a thing: what is said of it. -/
import Derived.Test.YtogbajcaeelooaaInnDFnBundles
namespace Go.Proofs.Ytogbajcaeelooaa.PFnBundles
open Go.RowKit Go.Proofs.YtogbajcaeelooaaW.PrintWords Go.Proofs.YtogbajcaeelooaaW.PrintLast Go.Proofs.Ytogbajcaeelooaa.EvLib
theorem areInn_len {l : List IInner} (h : areInn l = true) : l.length ≤ 20 := by
  unfold areInn at h
  simp only [Bool.and_eq_true, decide_eq_true_eq] at h
  exact h.1
theorem areInn_numd {l : List IInner} (h : areInn l = true) : numd l := by
  unfold areInn at h
  simp only [Bool.and_eq_true, decide_eq_true_eq] at h
  exact numd_of h.2.1
theorem has_at {x : Int} : ∀ {l : List IInner}, hasF x l = true → ∃ i, i < l.length ∧ (inn l i).f1 = x := by
  intro l
  induction l with
  | nil => intro h; simp [hasF] at h
  | cons y l ih =>
    intro h
    rw [hasF] at h
    split at h
    · rename_i c
      exact ⟨0, by simp, c⟩
    · obtain ⟨i, h1, h2⟩ := ih h
      exact ⟨i + 1, by simp; omega, h2⟩
theorem top_ends {l : List IInner} (h : areInn l = true) (x : Int) : hasF (stN l (l.length + 1) x) l = false := by
  have hn := areInn_numd h
  cases c : hasF x l with
  | false => rw [st_stay c]; exact c
  | true =>
    obtain ⟨i, hi, rfl⟩ := has_at c
    unfold areInn at h
    simp only [Bool.and_eq_true, decide_eq_true_eq] at h
    have := List.all_eq_true.1 h.2.2 i (List.mem_range.mpr hi)
    unfold ends at this
    exact st_end _ _ (by have := numd_inn hn i hi; omega) (by simpa using this) hn
def topF (l : List IInner) (x : Int) : Int := if areInn l = true then stN l (l.length + 1) x else 0
end Go.Proofs.Ytogbajcaeelooaa.PFnBundles
