/- The pure statement of FnExactKindOf. -/
import Derived.Test.YtkbnbimphddmbaaKindTFnExactKindOf
namespace Go.Proofs.Ytkbnbimphddmbaa.Pure
open Go.RowKit Go.Proofs.Ytkbnbimphddmbaa.PFnExactKindOf Go.Proofs.YtkbnbimphddmbaaW.PrintWords Go.Proofs.YtkbnbimphddmbaaW.PrintLast Go.Proofs.Ytkbnbimphddmbaa.EvLib
theorem FnExactKindOf : laws_FnExactKindOf.Pure := by
  intro x _
  refine Ev.rounds ?_
  unfold laws_FnExactKindOf.f
  refine ev_ite (fun _ => ev_some rfl) (fun _ => ?_)
  obtain ⟨r, h⟩ := kindOf_some x 8 1 (by omega) (by omega)
  have e1 : Ev (fun k => spec_KindOf.f k x) r := by
    unfold spec_KindOf.f
    simp only [kindOf_l0]
    exact h
  have e2 : Ev (fun k => impl_KindOf.f k x) r := by
    unfold impl_KindOf.f
    exact h
  exact ev_bind e1 (ev_bind e2 (ev_itep rfl (ev_some rfl)))
end Go.Proofs.Ytkbnbimphddmbaa.Pure
