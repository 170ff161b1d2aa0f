/- The pure statement of FnExactEqualSecrets. -/
import Derived.Test.YtfghapankndioaaEqSecFnExactEqualSecrets
import Derived.Test.YtfghapankndioaaSzSecFnExactEqualSecrets
namespace Go.Proofs.Ytfghapankndioaa.Pure
open Go.RowKit Go.Proofs.Ytfghapankndioaa.PFnExactEqualSecrets Go.Proofs.YtfghapankndioaaW.PrintWords Go.Proofs.YtfghapankndioaaW.PrintLast Go.Proofs.Ytfghapankndioaa.EvLib
theorem FnExactEqualSecrets : laws_FnExactEqualSecrets.Pure := by
  intro l m hw hv
  refine Ev.rounds ?_
  unfold laws_FnExactEqualSecrets.f
  obtain ⟨r, h1, h2, h3⟩ := szSecretA_ev l hw.1 (fun x hx => (hw.2 x hx).2.1.1) 1048576 (by omega) (by omega)
  refine ev_bind h1 (ev_ite (fun _ => ev_some rfl) (fun h => ?_))
  obtain ⟨hl, hk⟩ := h2 (by omega)
  obtain ⟨r2, g1, g2, _⟩ := szSecretA_ev m hv.1 (fun x hx => (hv.2 x hx).2.1.1) r (by omega) (by omega)
  refine ev_bind g1 (ev_ite (fun _ => ev_some rfl) (fun g => ?_))
  obtain ⟨gl, gk⟩ := g2 (by omega)
  have hm : (l.map cvSecret).length ≤ 1048576 := by rw [List.length_map]; exact hl
  have gm : (m.map cvSecret).length ≤ 1048576 := by rw [List.length_map]; exact gl
  have hs := cvSecret_marks hk
  have gs := cvSecret_marks gk
  have cp := toSecretS_ev l hl hk
  have cq := toSecretS_ev m gl gk
  exact ev_bind cp (ev_bind cq (ev_bind (specEqSecrets_ev _ _ hm hs) (ev_bind cp (ev_bind cq (ev_bind (implEqSecrets_ev _ _ hm hs) (ev_iten (by simp) (ev_bind cp (ev_bind (eqSecretS_ev _ hm hs) (ev_itep rfl (ev_bind cq (ev_bind (eqSecretS_ev _ gm gs) (ev_itep rfl (ev_some rfl)))))))))))))
end Go.Proofs.Ytfghapankndioaa.Pure
