/- The pure statement of FnExactAllIn. -/
import Derived.Test.YtogbajcaeelooaaCvInnerFnExactAllIn
import Derived.Test.YtogbajcaeelooaaAllIFnExactAllIn
import Derived.Test.YtogbajcaeelooaaAllSFnExactAllIn
import Derived.Test.YtogbajcaeelooaaMkInnerNFnExactAllIn
import Derived.Test.YtogbajcaeelooaaEqIntSFnExactAllIn
import Derived.Test.YtogbajcaeelooaaMkIntSFnExactAllIn
namespace Go.Proofs.Ytogbajcaeelooaa.Pure
open Go.RowKit Go.Proofs.Ytogbajcaeelooaa.PFnExactAllIn Go.Proofs.YtogbajcaeelooaaW.PrintWords Go.Proofs.YtogbajcaeelooaaW.PrintLast Go.Proofs.Ytogbajcaeelooaa.EvLib
theorem FnExactAllIn : laws_FnExactAllIn.Pure := by
  intro l a hw _
  refine Ev.rounds ?_
  unfold laws_FnExactAllIn.f
  refine ev_bindc (szInnerS_eq l hw.1 1048576 (by omega) (by omega)) (ev_ite (fun _ => ev_some rfl) (fun h => ?_))
  have hl : l.length ≤ 1048576 := by split at h <;> omega
  have hm : (l.map cvInner).length ≤ 1048576 := by rw [List.length_map]; exact hl
  have ht : (allIn (l.map cvInner) a).length ≤ 1048576 := by have := allIn_len (l.map cvInner) a; omega
  have cp := toInnerS_ev l hl
  have s := specAllIn_ev _ hm a
  have i := implAllIn_ev _ hm a
  have e := eqIntS_ev _ ht
  have hd := heldIntS_ev _ ht
  refine ev_bind cp (ev_bind s (ev_bind cp (ev_bind i (ev_bind e (ev_itep rfl (ev_bind cp (ev_bind (eqInnerS_ev _ hm) (ev_itep rfl (ev_bind (markInnerS_ev _ hm) ?_)))))))))
  refine ev_iten (by show ¬ (1 + 2 * ((l.map cvInner).length : Int) < 0); omega) (ev_bind e ?_)
  refine ev_step (fun k => by simp only [laws_FnExactAllIn.j0]; rfl) (ev_iten (by simp) (ev_bind (markIntS_ev _ ht) (ev_bind hd ?_)))
  refine ev_iten (by omega) (ev_itep rfl ?_)
  refine ev_bind cp (ev_bind i (ev_bind e (ev_itep rfl (ev_bind hd ?_))))
  refine ev_iten (by omega) ?_
  exact ev_itep rfl (ev_some rfl)
end Go.Proofs.Ytogbajcaeelooaa.Pure
