/- The pure statement of FnExactCallTicket. -/
import Derived.Test.YthbmegdbdnmnoaaCallTFnExactCallTicket
import Derived.Test.YthbmegdbdnmnoaaMkTicketFnExactCallTicket
namespace Go.Proofs.Ythbmegdbdnmnoaa.Pure
open Go.RowKit Go.Proofs.Ythbmegdbdnmnoaa.PFnExactCallTicket Go.Proofs.YthbmegdbdnmnoaaW.PrintWords Go.Proofs.YthbmegdbdnmnoaaW.PrintLast Go.Proofs.Ythbmegdbdnmnoaa.EvLib
theorem FnExactCallTicket : laws_FnExactCallTicket.Pure := by
  intro l a hw _
  refine Ev.rounds ?_
  unfold laws_FnExactCallTicket.f
  refine ev_bindc (szTicketS_eq l hw.1 1048576 (by omega) (by omega)) (ev_ite (fun _ => ev_some rfl) (fun h => ?_))
  have hl : l.length ≤ 1048576 := by split at h <;> omega
  have hm : (l.map cvTicket).length ≤ 1048576 := by rw [List.length_map]; exact hl
  have ht := Nat.le_trans (callT_len (l.map cvTicket) a) hm
  have cp := toTicketS_ev l hl
  have s := specCallTicket_ev _ hm a
  have i := implCallTicket_ev _ hm a
  have e := eqTicketS_ev _ ht
  refine ev_bind cp ((ev_bind s (ev_bind cp ((ev_bind i (ev_bind e (ev_itep rfl ?_)))))))
  refine ev_step (fun k => by simp only [laws_FnExactCallTicket.j0]; rfl) (ev_iten (by simp) (ev_bind cp (ev_bind (eqTicketS_ev _ hm) (ev_itep rfl (ev_bind (markTicketS_ev _ hm) ?_)))))
  refine ev_iten (by show ¬ (1 + 3 * ((l.map cvTicket).length : Int) < 0); omega) ?_
  refine ev_bind e (ev_itep rfl ?_)
  have hd := heldTicketS_ev _ ht
  refine ev_step (fun k => by simp only [laws_FnExactCallTicket.j1]; rfl) (ev_iten (by simp) (ev_bind (markTicketS_ev _ ht) (ev_bind hd ?_)))
  refine ev_iten (by omega) ?_
  refine ev_itep rfl ?_
  refine ev_bind cp ((ev_bind i (ev_bind e (ev_itep rfl ?_))))
  refine ev_step (fun k => by simp only [laws_FnExactCallTicket.j2]; rfl) (ev_iten (by simp) (ev_bind hd ?_))
  refine ev_iten (by omega) ?_
  exact ev_itep rfl (ev_some rfl)
end Go.Proofs.Ythbmegdbdnmnoaa.Pure
