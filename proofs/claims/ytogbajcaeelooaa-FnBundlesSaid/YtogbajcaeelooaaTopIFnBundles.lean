/- TopOf of the program. -/
import Derived.Test.YtogbajcaeelooaaTopDFnBundles
import Derived.Test.YtogbajcaeelooaaInnIFnBundles
import Derived.Test.YtogbajcaeelooaaOutIFnBundles
namespace Go.Proofs.Ytogbajcaeelooaa.PFnBundles
open Go.RowKit Go.Proofs.YtogbajcaeelooaaW.PrintWords Go.Proofs.YtogbajcaeelooaaW.PrintLast Go.Proofs.Ytogbajcaeelooaa.EvLib
theorem implTop_l0 (l : List IInner) : ∀ (n : Nat) (x : Int), hasF (stN l n x) l = false → Ev (fun k => impl_TopOf.l0 k l x) (stN l n x) := by
  have stop : ∀ x, hasF x l = false → Ev (fun k => impl_TopOf.l0 k l x) x := by
    intro x h
    obtain ⟨t, h1, h2⟩ := implInner_eq l x
    refine ev_step (fun k => by simp only [impl_TopOf.l0]; rfl) (ev_bindc h1 ?_)
    rcases h2 with ⟨h3, h4, _⟩ | ⟨h3, h4, _, _⟩
    · exact ev_iten (by omega) (ev_some rfl)
    · rw [h] at h3; cases h3
  intro n
  induction n with
  | zero => intro x h; exact stop x h
  | succ n ih =>
    intro x h
    cases c : hasF x l with
    | false => rw [st_stay c]; exact stop x c
    | true =>
      rw [stN, if_pos c] at h ⊢
      obtain ⟨t, h1, h2⟩ := implInner_eq l x
      refine ev_step (fun k => by simp only [impl_TopOf.l0]; rfl) (ev_bindc h1 ?_)
      rcases h2 with ⟨h3, h4, _⟩ | ⟨h3, h4, _, _⟩
      · rw [c] at h3; cases h3
      · exact ev_itep (by omega) (ev_bindc (implOuterOf_eq l x) (ih _ h))
theorem implTopOf_ev (l : List IInner) (hl : l.length ≤ 1048576) (x : Int) : Ev (fun k => impl_TopOf.f k l x) (topF l x) := by
  unfold impl_TopOf.f topF
  refine ev_bind (implAreInners_ev l hl) (ev_ite (fun h => ?_) (fun h => ev_some ?_))
  · rw [if_pos h]; exact implTop_l0 l _ x (top_ends h x)
  · rw [if_neg h]
end Go.Proofs.Ytogbajcaeelooaa.PFnBundles
