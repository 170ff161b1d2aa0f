/- The pure statement of FnExactTakeFrom. -/
import Derived.Test.YtogbajcaeelooaaTakeFFnExactTakeFrom
import Derived.Test.YtogbajcaeelooaaMkInnerFnExactTakeFrom
namespace Go.Proofs.Ytogbajcaeelooaa.Pure
open Go.RowKit Go.Proofs.Ytogbajcaeelooaa.PFnExactTakeFrom Go.Proofs.YtogbajcaeelooaaW.PrintWords Go.Proofs.YtogbajcaeelooaaW.PrintLast Go.Proofs.Ytogbajcaeelooaa.EvLib
theorem FnExactTakeFrom : laws_FnExactTakeFrom.Pure := by
  intro l a hw _
  refine Ev.rounds ?_
  unfold laws_FnExactTakeFrom.f
  refine ev_bindc (szInnerS_eq l hw.1 1048576 (by omega) (by omega)) (ev_ite (fun _ => ev_some rfl) (fun h => ?_))
  have hl : l.length ≤ 1048576 := by split at h <;> omega
  have hm : (l.map cvInner).length ≤ 1048576 := by rw [List.length_map]; exact hl
  have ht := Nat.le_trans (takeF_len (l.map cvInner) a) hm
  have cp := toInnerS_ev l hl
  have s := specTakeFrom_ev _ hm a
  have i := implTakeFrom_ev _ hm a
  have e := eqInnerS_ev _ ht
  refine ev_bind cp ((ev_bind s (ev_bind cp ((ev_bind i (ev_bind e (ev_itep rfl ?_)))))))
  refine ev_step (fun k => by simp only [laws_FnExactTakeFrom.j0]; rfl) (ev_iten (by simp) (ev_bind cp (ev_bind (eqInnerS_ev _ hm) (ev_itep rfl (ev_bind (markInnerS_ev _ hm) ?_)))))
  refine ev_iten (by show ¬ (1 + 2 * ((l.map cvInner).length : Int) < 0); omega) ?_
  refine ev_bind e (ev_itep rfl ?_)
  have hd := heldInnerS_ev _ ht
  refine ev_step (fun k => by simp only [laws_FnExactTakeFrom.j1]; rfl) (ev_iten (by simp) (ev_bind (markInnerS_ev _ ht) (ev_bind hd ?_)))
  refine ev_iten (by omega) ?_
  refine ev_itep rfl ?_
  refine ev_bind cp ((ev_bind i (ev_bind e (ev_itep rfl ?_))))
  refine ev_step (fun k => by simp only [laws_FnExactTakeFrom.j2]; rfl) (ev_iten (by simp) (ev_bind hd ?_))
  refine ev_iten (by omega) ?_
  exact ev_itep rfl (ev_some rfl)
end Go.Proofs.Ytogbajcaeelooaa.Pure
