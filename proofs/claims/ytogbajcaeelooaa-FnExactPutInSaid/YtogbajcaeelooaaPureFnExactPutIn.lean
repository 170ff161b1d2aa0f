/- The pure statement of FnExactPutIn. -/
import Derived.Test.YtogbajcaeelooaaPutIFnExactPutIn
import Derived.Test.YtogbajcaeelooaaMkInnerFnExactPutIn
namespace Go.Proofs.Ytogbajcaeelooaa.Pure
open Go.RowKit Go.Proofs.Ytogbajcaeelooaa.PFnExactPutIn Go.Proofs.YtogbajcaeelooaaW.PrintWords Go.Proofs.YtogbajcaeelooaaW.PrintLast Go.Proofs.Ytogbajcaeelooaa.EvLib
theorem FnExactPutIn : laws_FnExactPutIn.Pure := by
  intro l a b hw _ _
  refine Ev.rounds ?_
  unfold laws_FnExactPutIn.f
  refine ev_bindc (szInnerS_eq l hw.1 1048576 (by omega) (by omega)) (ev_ite (fun _ => ev_some rfl) (fun h => ?_))
  have hl : l.length ≤ 1048576 := by split at h <;> omega
  have hm : (l.map cvInner).length ≤ 1048576 := by rw [List.length_map]; exact hl
  have ht := putI_len (l.map cvInner) ⟨a, b⟩ hm
  have cp := toInnerS_ev l hl
  have s := specPutIn_ev _ hm a b
  have i := implPutIn_ev _ hm a b
  have e := eqInnerS_ev _ ht
  refine ev_bind cp ((ev_bind s (ev_bind cp ((ev_bind i (ev_bind e (ev_itep rfl ?_)))))))
  refine ev_step (fun k => by simp only [laws_FnExactPutIn.j0]; rfl) (ev_iten (by simp) (ev_bind cp (ev_bind (eqInnerS_ev _ hm) (ev_itep rfl (ev_bind (markInnerS_ev _ hm) ?_)))))
  refine ev_iten (by show ¬ (1 + 2 * ((l.map cvInner).length : Int) < 0); omega) ?_
  refine ev_bind e (ev_itep rfl ?_)
  have hd := heldInnerS_ev _ ht
  refine ev_step (fun k => by simp only [laws_FnExactPutIn.j1]; rfl) (ev_iten (by simp) (ev_bind (markInnerS_ev _ ht) (ev_bind hd ?_)))
  refine ev_iten (by omega) ?_
  refine ev_itep rfl ?_
  refine ev_bind cp ((ev_bind i (ev_bind e (ev_itep rfl ?_))))
  refine ev_step (fun k => by simp only [laws_FnExactPutIn.j2]; rfl) (ev_iten (by simp) (ev_bind hd ?_))
  refine ev_iten (by omega) ?_
  exact ev_itep rfl (ev_some rfl)
end Go.Proofs.Ytogbajcaeelooaa.Pure
