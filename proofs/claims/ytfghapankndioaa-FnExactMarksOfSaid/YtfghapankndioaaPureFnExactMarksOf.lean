/- The pure statement of FnExactMarksOf. -/
import Derived.Test.YtfghapankndioaaMrkOFnExactMarksOf
namespace Go.Proofs.Ytfghapankndioaa.Pure
open Go.RowKit Go.Proofs.Ytfghapankndioaa.PFnExactMarksOf Go.Proofs.YtfghapankndioaaW.PrintWords Go.Proofs.YtfghapankndioaaW.PrintLast Go.Proofs.Ytfghapankndioaa.EvLib
theorem FnExactMarksOf : laws_FnExactMarksOf.Pure := by
  intro l x hw _
  refine Ev.rounds ?_
  unfold laws_FnExactMarksOf.f
  obtain ⟨r, h1, h2⟩ := szSecretS_ev l hw.1 (fun x hx => (hw.2 x hx).2.1.1)
  refine ev_bind h1 (ev_ite (fun _ => ev_some rfl) (fun h => ?_))
  obtain ⟨hl, hk⟩ := h2 (by omega)
  have hm : (l.map cvSecret).length ≤ 1048576 := by rw [List.length_map]; exact hl
  have hs := cvSecret_marks hk
  have cp := toSecretS_ev l hl hk
  have hz := marksOf_len (l.map cvSecret) hs x
  have he := eqMarkS_ev (marksOf (l.map cvSecret) x) hz
  obtain ⟨q, hq, hq0⟩ := markSecretS_ev (l.map cvSecret) hm hs
  have hi := implMarksOf_eq (l.map cvSecret) hs x
  have hh := heldMarkS_ev (marksOf (l.map cvSecret) x).length hz
  refine ev_bind cp (ev_bind (specMarksOf_ev _ hm hs x) (ev_bind cp (ev_bindc hi (ev_bind he (ev_itep rfl (ev_bind cp (ev_bind (eqSecretS_ev _ hm hs) (ev_itep rfl (ev_bind hq (ev_iten (by omega) (ev_bind he ?_)))))))))))
  refine ev_step (fun k => by simp only [laws_FnExactMarksOf.j0]; rfl) (ev_iten (by simp) ?_)
  refine ev_bind (markMarkS_ev _ hz) (ev_bind hh (ev_iten (by omega) (ev_itep rfl ?_)))
  exact ev_bind cp (ev_bindc hi (ev_bind he (ev_itep rfl (ev_bind hh (ev_iten (by omega) (ev_itep rfl (ev_some rfl)))))))
end Go.Proofs.Ytfghapankndioaa.Pure
