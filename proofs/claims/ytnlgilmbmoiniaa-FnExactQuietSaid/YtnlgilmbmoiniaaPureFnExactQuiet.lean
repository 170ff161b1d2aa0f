/- The pure statement of FnExactQuiet. -/
import Derived.Test.YtnlgilmbmoiniaaTodaySFnExactQuiet
namespace Go.Proofs.Ytnlgilmbmoiniaa.Pure
open Go.RowKit Go.Proofs.Ytnlgilmbmoiniaa.PFnExactQuiet Go.Proofs.YtnlgilmbmoiniaaW.PrintWords Go.Proofs.YtnlgilmbmoiniaaW.PrintLast Go.Proofs.Ytnlgilmbmoiniaa.EvLib
theorem FnExactQuiet : laws_FnExactQuiet.Pure := by
  intro l now hw _
  refine Ev.rounds ?_
  unfold laws_FnExactQuiet.f
  refine ev_bindc (szTaskS_eq l hw.1 1048576 (by omega) (by omega)) (ev_ite (fun _ => ev_some rfl) (fun h => ?_))
  have hl : l.length ≤ 1048576 := by split at h <;> omega
  have hm : (l.map cvTask).length ≤ 1048576 := by rw [List.length_map]; exact hl
  unfold spec_Quiet.f impl_Quiet.f
  exact ev_bind (toTaskS_ev l hl) (ev_bind (ev_bind (specToday_ev _ hm now) (ev_some rfl)) (ev_bind (toTaskS_ev l hl) (ev_bind (ev_bind (implToday_ev _ hm now) (ev_some rfl)) (ev_iten (by simp) (ev_bind (toTaskS_ev l hl) (ev_bind (eqTaskS_ev _ hm) (ev_itep rfl (ev_some rfl))))))))
end Go.Proofs.Ytnlgilmbmoiniaa.Pure
