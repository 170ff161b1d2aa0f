/- The pure statement of FnExactNextOpen. -/
import Derived.Test.YtkbnbimphddmbaaNextSFnExactNextOpen
namespace Go.Proofs.Ytkbnbimphddmbaa.Pure
open Go.RowKit Go.Proofs.Ytkbnbimphddmbaa.PFnExactNextOpen Go.Proofs.YtkbnbimphddmbaaW.PrintWords Go.Proofs.YtkbnbimphddmbaaW.PrintLast Go.Proofs.Ytkbnbimphddmbaa.EvLib
theorem FnExactNextOpen : laws_FnExactNextOpen.Pure := by
  intro l a _ _
  refine Ev.rounds ?_
  unfold laws_FnExactNextOpen.f
  refine ev_ite (fun _ => ev_some rfl) (fun h => ?_)
  have hl : l.length ≤ 1048576 := by omega
  obtain ⟨r, _, h1, h2⟩ := nextOpen_ev l hl a
  exact ev_bind (toBoolS_ev l hl) (ev_bind h1 (ev_bind (toBoolS_ev l hl) (ev_bind h2 (ev_itep rfl (ev_bind (toBoolS_ev l hl) (ev_bind (eqBoolS_ev l hl) (ev_itep rfl (ev_some rfl))))))))
end Go.Proofs.Ytkbnbimphddmbaa.Pure
