/- The pure statement of FnExactAreInners. -/
import Derived.Test.YtogbajcaeelooaaInnIFnExactAreInners
import Derived.Test.YtogbajcaeelooaaInnSFnExactAreInners
namespace Go.Proofs.Ytogbajcaeelooaa.Pure
open Go.RowKit Go.Proofs.Ytogbajcaeelooaa.PFnExactAreInners Go.Proofs.YtogbajcaeelooaaW.PrintWords Go.Proofs.YtogbajcaeelooaaW.PrintLast Go.Proofs.Ytogbajcaeelooaa.EvLib
theorem FnExactAreInners : laws_FnExactAreInners.Pure := by
  intro l hw
  refine Ev.rounds ?_
  unfold laws_FnExactAreInners.f
  refine ev_bindc (szInnerS_eq l hw.1 1048576 (by omega) (by omega)) (ev_ite (fun _ => ev_some rfl) (fun h => ?_))
  have hl : l.length ≤ 1048576 := by split at h <;> omega
  have hm : (l.map cvInner).length ≤ 1048576 := by rw [List.length_map]; exact hl
  exact ev_bind (toInnerS_ev l hl) (ev_bind (specAreInners_ev _ hm) (ev_bind (toInnerS_ev l hl) (ev_bind (implAreInners_ev _ hm) (ev_iten (by simp) (ev_bind (toInnerS_ev l hl) (ev_bind (eqInnerS_ev _ hm) (ev_itep rfl (ev_some rfl))))))))
end Go.Proofs.Ytogbajcaeelooaa.Pure
