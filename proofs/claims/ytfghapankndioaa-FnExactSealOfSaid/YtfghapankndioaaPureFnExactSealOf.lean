/- The pure statement of FnExactSealOf. -/
import Derived.Test.YtfghapankndioaaSealFFnExactSealOf
namespace Go.Proofs.Ytfghapankndioaa.Pure
open Go.RowKit Go.Proofs.Ytfghapankndioaa.PFnExactSealOf Go.Proofs.YtfghapankndioaaW.PrintWords Go.Proofs.YtfghapankndioaaW.PrintLast Go.Proofs.Ytfghapankndioaa.EvLib
theorem FnExactSealOf : laws_FnExactSealOf.Pure := by
  intro l x hw _
  refine Ev.rounds ?_
  unfold laws_FnExactSealOf.f
  obtain ⟨r, h1, h2⟩ := szSecretS_ev l hw.1 (fun x hx => (hw.2 x hx).2.1.1)
  refine ev_bind h1 (ev_ite (fun _ => ev_some rfl) (fun h => ?_))
  obtain ⟨hl, hk⟩ := h2 (by omega)
  have hm : (l.map cvSecret).length ≤ 1048576 := by rw [List.length_map]; exact hl
  have hs := cvSecret_marks hk
  have cp := toSecretS_ev l hl hk
  exact ev_bind cp (ev_bind (specSealOf_ev _ hm hs x) (ev_bind cp (ev_bind (implSealOf_ev _ hs x) (ev_itep rfl (ev_bind cp (ev_bind (eqSecretS_ev _ hm hs) (ev_itep rfl (ev_some rfl))))))))
end Go.Proofs.Ytfghapankndioaa.Pure
