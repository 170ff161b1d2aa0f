/- The pure statement of FnExactBeforeIn. -/
import Derived.Test.YthbmegdbdnmnoaaBefFnExactBeforeIn
namespace Go.Proofs.Ythbmegdbdnmnoaa.Pure
open Go.RowKit Go.Proofs.Ythbmegdbdnmnoaa.PFnExactBeforeIn Go.Proofs.YthbmegdbdnmnoaaW.PrintWords Go.Proofs.YthbmegdbdnmnoaaW.PrintLast Go.Proofs.Ythbmegdbdnmnoaa.EvLib
theorem FnExactBeforeIn : laws_FnExactBeforeIn.Pure := by
  intro l now hw _
  refine Ev.rounds ?_
  unfold laws_FnExactBeforeIn.f
  refine ev_bindc (szTicketS_eq l hw.1 1048576 (by omega) (by omega)) (ev_ite (fun _ => ev_some rfl) (fun h => ?_))
  have hl : l.length ≤ 1048576 := by split at h <;> omega
  have hm : (l.map cvTicket).length ≤ 1048576 := by rw [List.length_map]; exact hl
  exact ev_bind (toTicketS_ev l hl) (ev_bind (specBeforeIn_ev _ hm now) (ev_bind (toTicketS_ev l hl) (ev_bindc (implBeforeIn_eq _ now) (ev_itep rfl (ev_bind (toTicketS_ev l hl) (ev_bind (eqTicketS_ev _ hm) (ev_itep rfl (ev_some rfl))))))))
end Go.Proofs.Ythbmegdbdnmnoaa.Pure
