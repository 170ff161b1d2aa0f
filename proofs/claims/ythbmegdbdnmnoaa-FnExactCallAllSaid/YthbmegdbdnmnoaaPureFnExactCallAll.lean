/- The pure statement of FnExactCallAll. -/
import Derived.Test.YthbmegdbdnmnoaaCallAFnExactCallAll
import Derived.Test.YthbmegdbdnmnoaaMkTicketNFnExactCallAll
import Derived.Test.YthbmegdbdnmnoaaEqIntSFnExactCallAll
import Derived.Test.YthbmegdbdnmnoaaMkIntSFnExactCallAll
namespace Go.Proofs.Ythbmegdbdnmnoaa.Pure
open Go.RowKit Go.Proofs.Ythbmegdbdnmnoaa.PFnExactCallAll Go.Proofs.YthbmegdbdnmnoaaW.PrintWords Go.Proofs.YthbmegdbdnmnoaaW.PrintLast Go.Proofs.Ythbmegdbdnmnoaa.EvLib
theorem FnExactCallAll : laws_FnExactCallAll.Pure := by
  intro l a b hw _ _
  refine Ev.rounds ?_
  unfold laws_FnExactCallAll.f
  refine ev_bindc (szTicketS_eq l hw.1 1048576 (by omega) (by omega)) (ev_ite (fun _ => ev_some rfl) (fun h => ?_))
  have hl : l.length ≤ 1048576 := by split at h <;> omega
  have hm : (l.map cvTicket).length ≤ 1048576 := by rw [List.length_map]; exact hl
  have ht : (callAll (l.map cvTicket) a b).length ≤ 1048576 := by have := callAll_len (l.map cvTicket) a b; omega
  have cp := toTicketS_ev l hl
  have s := specCallAll_ev _ hm a b
  have i := implCallAll_ev _ hm a b
  have e := eqIntS_ev _ ht
  have hd := heldIntS_ev _ ht
  refine ev_bind cp (ev_bind s (ev_bind cp (ev_bind i (ev_bind e (ev_itep rfl (ev_bind cp (ev_bind (eqTicketS_ev _ hm) (ev_itep rfl (ev_bind (markTicketS_ev _ hm) ?_)))))))))
  refine ev_iten (by show ¬ (1 + 3 * ((l.map cvTicket).length : Int) < 0); omega) (ev_bind e ?_)
  refine ev_step (fun k => by simp only [laws_FnExactCallAll.j0]; rfl) (ev_iten (by simp) (ev_bind (markIntS_ev _ ht) (ev_bind hd ?_)))
  refine ev_iten (by omega) (ev_itep rfl ?_)
  refine ev_bind cp (ev_bind i (ev_bind e (ev_itep rfl (ev_bind hd ?_))))
  refine ev_iten (by omega) ?_
  exact ev_itep rfl (ev_some rfl)
end Go.Proofs.Ythbmegdbdnmnoaa.Pure
