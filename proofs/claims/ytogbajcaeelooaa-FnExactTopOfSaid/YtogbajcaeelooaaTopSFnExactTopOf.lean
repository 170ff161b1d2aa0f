/- TopOf of the reference. -/
import Derived.Test.YtogbajcaeelooaaTopDFnExactTopOf
import Derived.Test.YtogbajcaeelooaaInnSFnExactTopOf
namespace Go.Proofs.Ytogbajcaeelooaa.PFnExactTopOf
open Go.RowKit Go.Proofs.YtogbajcaeelooaaW.PrintWords Go.Proofs.YtogbajcaeelooaaW.PrintLast Go.Proofs.Ytogbajcaeelooaa.EvLib
theorem specTop_l0 (l : List IInner) (hl : l.length ≤ 1048576) (hn : numd l) : ∀ (n : Nat) (x : Int), hasF (stN l n x) l = false → Ev (fun k => spec_TopOf.l0 k l x) (stN l n x) := by
  have stop : ∀ x, hasF x l = false → Ev (fun k => spec_TopOf.l0 k l x) x := by
    intro x h
    exact ev_step (fun k => by simp only [spec_TopOf.l0]; rfl) (ev_bind (specOuterOf_ev l hl x) (ev_itep (out_no h) (ev_some rfl)))
  intro n
  induction n with
  | zero => intro x h; exact stop x h
  | succ n ih =>
    intro x h
    cases c : hasF x l with
    | false => rw [st_stay c]; exact stop x c
    | true =>
      rw [stN, if_pos c] at h ⊢
      have := out_has hn c
      have hne : ¬ outF x l = 0 := by omega
      exact ev_step (fun k => by simp only [spec_TopOf.l0]; rfl) (ev_bind (specOuterOf_ev l hl x) (ev_iten hne (ev_bind (specOuterOf_ev l hl x) (ih _ h))))
theorem specTopOf_ev (l : List IInner) (hl : l.length ≤ 1048576) (x : Int) : Ev (fun k => spec_TopOf.f k l x) (topF l x) := by
  unfold spec_TopOf.f topF
  refine ev_bind (specAreInners_ev l hl) (ev_ite (fun h => ?_) (fun h => ev_some ?_))
  · rw [if_pos h]; exact specTop_l0 l hl (areInn_numd h) _ x (top_ends h x)
  · rw [if_neg h]
end Go.Proofs.Ytogbajcaeelooaa.PFnExactTopOf
