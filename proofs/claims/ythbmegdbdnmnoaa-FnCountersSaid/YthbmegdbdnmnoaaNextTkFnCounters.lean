/- NextTicket of the program. -/
import Derived.Test.YthbmegdbdnmnoaaCalledFnCounters
namespace Go.Proofs.Ythbmegdbdnmnoaa.PFnCounters
open Go.RowKit Go.Proofs.YthbmegdbdnmnoaaW.PrintWords Go.Proofs.YthbmegdbdnmnoaaW.PrintLast Go.Proofs.Ythbmegdbdnmnoaa.EvLib
theorem implNextTicket_ev (l : List ITicket) (hl : l.length ≤ 1048576) (now : Int) : Ev (fun k => impl_NextTicket.f k l now) (nextId l now) := by
  unfold impl_NextTicket.f
  have hx := nx_in l now
  refine ev_bind (implCalledAt_ev l hl now) (ev_ite (fun h => ev_some ?_) (fun h => ?_))
  · unfold nextId
    rw [if_neg (fun z => by rw [if_pos z.1] at h; omega)]
  · have ha : areTk l = true := by
      apply Classical.byContradiction
      intro z
      rw [if_neg z] at h
      omega
    rw [if_pos ha] at h ⊢
    refine ev_itep (by omega) (ev_itep (by omega) (ev_some ?_))
    unfold nextId
    rw [if_pos ⟨ha, by omega⟩, rd_tki]
end Go.Proofs.Ythbmegdbdnmnoaa.PFnCounters
