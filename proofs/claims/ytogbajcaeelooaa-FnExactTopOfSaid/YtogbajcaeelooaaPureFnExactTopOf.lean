/- The pure statement of FnExactTopOf. -/
import Derived.Test.YtogbajcaeelooaaTopIFnExactTopOf
import Derived.Test.YtogbajcaeelooaaTopSFnExactTopOf
namespace Go.Proofs.Ytogbajcaeelooaa.Pure
open Go.RowKit Go.Proofs.Ytogbajcaeelooaa.PFnExactTopOf Go.Proofs.YtogbajcaeelooaaW.PrintWords Go.Proofs.YtogbajcaeelooaaW.PrintLast Go.Proofs.Ytogbajcaeelooaa.EvLib
theorem FnExactTopOf : laws_FnExactTopOf.Pure := by
  intro l x hw _
  refine Ev.rounds ?_
  unfold laws_FnExactTopOf.f
  refine ev_bindc (szInnerS_eq l hw.1 1048576 (by omega) (by omega)) (ev_ite (fun _ => ev_some rfl) (fun h => ?_))
  have hl : l.length ≤ 1048576 := by split at h <;> omega
  have hm : (l.map cvInner).length ≤ 1048576 := by rw [List.length_map]; exact hl
  exact ev_bind (toInnerS_ev l hl) (ev_bind (specTopOf_ev _ hm x) (ev_bind (toInnerS_ev l hl) (ev_bind (implTopOf_ev _ hm x) (ev_itep rfl (ev_bind (toInnerS_ev l hl) (ev_bind (eqInnerS_ev _ hm) (ev_itep rfl (ev_some rfl))))))))
end Go.Proofs.Ytogbajcaeelooaa.Pure
