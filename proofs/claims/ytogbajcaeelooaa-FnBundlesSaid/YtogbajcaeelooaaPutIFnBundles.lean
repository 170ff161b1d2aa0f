/- PutIn. -/
import Derived.Test.YtogbajcaeelooaaInnIFnBundles
import Derived.Test.YtogbajcaeelooaaInnSFnBundles
namespace Go.Proofs.Ytogbajcaeelooaa.PFnBundles
open Go.RowKit Go.Proofs.YtogbajcaeelooaaW.PrintWords Go.Proofs.YtogbajcaeelooaaW.PrintLast Go.Proofs.Ytogbajcaeelooaa.EvLib
theorem putIn_len20 {l : List IInner} (h : areInn l = true) : l.length ≤ 20 := by
  unfold areInn at h
  simp only [Bool.and_eq_true, decide_eq_true_eq] at h
  exact h.1
def putI (l : List IInner) (e : IInner) : List IInner × Bool := if areInn (l ++ [e]) = true then (l ++ [e], true) else (l, false)
theorem putI_len (l : List IInner) (e : IInner) (h : l.length ≤ 1048576) : (putI l e).1.length ≤ 1048576 := by
  unfold putI
  split
  · rename_i c
    have := putIn_len20 c
    show (l ++ [e]).length ≤ 1048576
    omega
  · exact h
theorem implPutIn_ev (l : List IInner) (hl : l.length ≤ 1048576) (a b : Int) : Ev (fun k => impl_PutIn.f k l a b) (putI l ⟨a, b⟩) := by
  unfold impl_PutIn.f
  have cl : impl_Inner_41.f l = some l := by unfold impl_Inner_41.f; rw [if_pos (by omega)]
  refine ev_bindc cl (ev_itep (by omega) (ev_bindc rfl ?_))
  by_cases hb : (l ++ [(⟨a, b⟩ : IInner)]).length ≤ 1048576
  · refine ev_bind (implAreInners_ev _ hb) (ev_ite (fun h => ev_some ?_) (fun h => ev_bindc cl (ev_some ?_)))
    · unfold putI; rw [if_pos h]
    · unfold putI; rw [if_neg h]
  · have hb' : ¬ areInn (l ++ [(⟨a, b⟩ : IInner)]) = true := fun h => hb (by have := putIn_len20 h; omega)
    refine ev_bind (show Ev (fun k => impl_AreInners.f k (l ++ [(⟨a, b⟩ : IInner)])) false by unfold impl_AreInners.f; exact ev_itep (by omega) (ev_some rfl)) (ev_iten (by simp) (ev_bindc cl (ev_some ?_)))
    unfold putI; rw [if_neg hb']
theorem specPutIn_ev (l : List IInner) (hl : l.length ≤ 1048576) (a b : Int) : Ev (fun k => spec_PutIn.f k l a b) (putI l ⟨a, b⟩) := by
  unfold spec_PutIn.f
  refine ev_bindc rfl (ev_itep (by simp; omega) (ev_bindc rfl (ev_itep (by simp; omega) (ev_bindc rfl ?_))))
  by_cases hb : (l ++ [(⟨a, b⟩ : IInner)]).length ≤ 1048576
  · refine ev_bind (specAreInners_ev (l ++ [(⟨a, b⟩ : IInner)]) hb) (ev_ite (fun h => ev_some ?_) (fun h => ev_bindc rfl (ev_itep (by simp; omega) (ev_some ?_))))
    · have h' : areInn (l ++ [⟨a, b⟩]) = true := h
      unfold putI; rw [if_pos h']; rfl
    · have h' : ¬ areInn (l ++ [⟨a, b⟩]) = true := h
      unfold putI; rw [if_neg h']; rfl
  · have hb' : ¬ areInn (l ++ [(⟨a, b⟩ : IInner)]) = true := fun h => hb (by have := putIn_len20 h; omega)
    refine ev_bind (show Ev (fun k => spec_AreInners.f k ([] ++ l ++ [(⟨a, b⟩ : IInner)])) false by unfold spec_AreInners.f; exact ev_itep (by simp at hb ⊢; omega) (ev_some rfl)) (ev_iten (by simp) (ev_bindc rfl (ev_itep (by simp; omega) (ev_some ?_))))
    unfold putI; rw [if_neg hb']; rfl
end Go.Proofs.Ytogbajcaeelooaa.PFnBundles
