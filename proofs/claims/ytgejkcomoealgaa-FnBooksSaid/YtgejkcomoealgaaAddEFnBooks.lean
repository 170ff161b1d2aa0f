/- AddEntry. -/
import Derived.Test.YtgejkcomoealgaaAreEntryIFnBooks
import Derived.Test.YtgejkcomoealgaaAreEntrySFnBooks
namespace Go.Proofs.Ytgejkcomoealgaa.PFnBooks
open Go.RowKit Go.Proofs.YtgejkcomoealgaaW.PrintWords Go.Proofs.YtgejkcomoealgaaW.PrintLast Go.Proofs.Ytgejkcomoealgaa.EvLib
def addE (l : List IEntry) (e : IEntry) : List IEntry × Bool := if areEntry (l ++ [e]) = true then (l ++ [e], true) else (l, false)
theorem addE_len (l : List IEntry) (e : IEntry) (h : l.length ≤ 1048576) : (addE l e).1.length ≤ 1048576 := by
  unfold addE
  split
  · rename_i c
    have := areEntry_len c
    show (l ++ [e]).length ≤ 1048576
    omega
  · exact h
theorem implAddEntry_ev (l : List IEntry) (hl : l.length ≤ 1048576) (a b c d : Int) : Ev (fun k => impl_AddEntry.f k l a b c d) (addE l ⟨a, b, c, d⟩) := by
  unfold impl_AddEntry.f
  have cl : impl_Entry.f l = some l := by unfold impl_Entry.f; rw [if_pos (by omega)]
  refine ev_bindc cl (ev_bindc rfl (ev_itep (by simp; omega) (ev_bindc rfl (ev_bind (implAreEntries_ev _ (by simp; omega)) (ev_ite (fun h => ev_some ?_) (fun h => ev_bindc cl (ev_some ?_)))))))
  · unfold addE; rw [if_pos h]
  · unfold addE; rw [if_neg h]
theorem specAddEntry_ev (l : List IEntry) (hl : l.length ≤ 1048576) (a b c d : Int) : Ev (fun k => spec_AddEntry.f k l a b c d) (addE l ⟨a, b, c, d⟩) := by
  unfold spec_AddEntry.f
  refine ev_bindc rfl (ev_itep (by simp; omega) (ev_bindc rfl (ev_bindc rfl (ev_itep (by simp; omega) (ev_bindc rfl (ev_bind (specAreEntries_ev _ (by simp; omega)) (ev_ite (fun h => ev_some ?_) (fun h => ev_bindc rfl (ev_itep (by simp; omega) (ev_some ?_))))))))))
  · have h' : areEntry (l ++ [⟨a, b, c, d⟩]) = true := h
    unfold addE; rw [if_pos h']; rfl
  · have h' : ¬ areEntry (l ++ [⟨a, b, c, d⟩]) = true := h
    unfold addE; rw [if_neg h']; rfl
end Go.Proofs.Ytgejkcomoealgaa.PFnBooks
