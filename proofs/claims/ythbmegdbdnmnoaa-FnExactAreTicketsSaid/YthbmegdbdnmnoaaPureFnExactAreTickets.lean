/- The pure statement of FnExactAreTickets. -/
import Derived.Test.YthbmegdbdnmnoaaAreTkFnExactAreTickets
namespace Go.Proofs.Ythbmegdbdnmnoaa.Pure
open Go.RowKit Go.Proofs.Ythbmegdbdnmnoaa.PFnExactAreTickets Go.Proofs.YthbmegdbdnmnoaaW.PrintWords Go.Proofs.YthbmegdbdnmnoaaW.PrintLast Go.Proofs.Ythbmegdbdnmnoaa.EvLib
theorem FnExactAreTickets : laws_FnExactAreTickets.Pure := by
  intro l hw
  refine Ev.rounds ?_
  unfold laws_FnExactAreTickets.f
  refine ev_bindc (szTicketS_eq l hw.1 1048576 (by omega) (by omega)) (ev_ite (fun _ => ev_some rfl) (fun h => ?_))
  have hl : l.length ≤ 1048576 := by split at h <;> omega
  have hm : (l.map cvTicket).length ≤ 1048576 := by rw [List.length_map]; exact hl
  exact ev_bind (toTicketS_ev l hl) (ev_bind (specAreTickets_ev _ hm) (ev_bind (toTicketS_ev l hl) (ev_bind (implAreTickets_ev _ hm) (ev_iten (by simp) (ev_bind (toTicketS_ev l hl) (ev_bind (eqTicketS_ev _ hm) (ev_itep rfl (ev_some rfl))))))))
end Go.Proofs.Ythbmegdbdnmnoaa.Pure
