/- The pure statement of FnExactDropTwins. -/
import Derived.Test.YtglpmjcknhcjcaaDropDFnExactDropTwins
import Derived.Test.YtglpmjcknhcjcaaMkFindFnExactDropTwins
namespace Go.Proofs.Ytglpmjcknhcjcaa.Pure
open Go.RowKit Go.Proofs.Ytglpmjcknhcjcaa.PFnExactDropTwins Go.Proofs.YtglpmjcknhcjcaaW.PrintWords Go.Proofs.YtglpmjcknhcjcaaW.PrintLast Go.Proofs.Ytglpmjcknhcjcaa.EvLib
theorem FnExactDropTwins : laws_FnExactDropTwins.Pure := by
  intro l hw
  refine Ev.rounds ?_
  unfold laws_FnExactDropTwins.f
  refine ev_bindc (szFindS_eq l hw.1 1048576 (by omega) (by omega)) (ev_ite (fun _ => ev_some rfl) (fun h => ?_))
  have hl : l.length ≤ 1048576 := by split at h <;> omega
  have hm : (l.map cvFind).length ≤ 1048576 := by rw [List.length_map]; exact hl
  have ht : (dropTw (l.map cvFind)).length ≤ 1048576 := by have := dropTw_len (l.map cvFind); omega
  have cp := toFindS_ev l hl
  have s := specDropTwins_ev _ hm
  have i := implDropTwins_ev _ hm
  have e := eqFindS_ev _ ht
  have hd := heldFindS_ev _ ht
  refine ev_bind cp (ev_bind s (ev_bind cp (ev_bind i (ev_bind e (ev_itep rfl (ev_bind cp (ev_bind (eqFindS_ev _ hm) (ev_itep rfl (ev_bind (markFindS_ev _ hm) ?_)))))))))
  refine ev_iten (by show ¬ (1 + 8 * ((l.map cvFind).length : Int) < 0); omega) (ev_bind e ?_)
  refine ev_step (fun k => by simp only [laws_FnExactDropTwins.j0]; rfl) (ev_iten (by simp) (ev_bind (markFindS_ev _ ht) (ev_bind hd ?_)))
  refine ev_iten (by omega) (ev_itep rfl ?_)
  refine ev_bind cp (ev_bind i (ev_bind e (ev_itep rfl (ev_bind hd ?_))))
  refine ev_iten (by omega) ?_
  exact ev_itep rfl (ev_some rfl)
end Go.Proofs.Ytglpmjcknhcjcaa.Pure
