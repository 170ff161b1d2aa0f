/- The pure statement of FnExactPutSecret. -/
import Derived.Test.YtfghapankndioaaPutAllFnExactPutSecret
namespace Go.Proofs.Ytfghapankndioaa.Pure
open Go.RowKit Go.Proofs.Ytfghapankndioaa.PFnExactPutSecret Go.Proofs.YtfghapankndioaaW.PrintWords Go.Proofs.YtfghapankndioaaW.PrintLast Go.Proofs.Ytfghapankndioaa.EvLib
theorem FnExactPutSecret : laws_FnExactPutSecret.Pure := by
  intro l a m b hw ha hm hb
  refine Ev.rounds ?_
  unfold laws_FnExactPutSecret.f
  obtain ⟨r, h1, h2, h3⟩ := szSecretA_ev l hw.1 (fun x hx => (hw.2 x hx).2.1.1) 1048576 (by omega) (by omega)
  refine ev_bind h1 (ev_ite (fun _ => ev_some rfl) (fun h => ?_))
  obtain ⟨hl, hk⟩ := h2 (by omega)
  refine ev_bindc (szSecret_eq a b m hm.1 r (by omega) h3) (ev_ite (fun _ => ev_some rfl) (fun g => ?_))
  have gl : m.length ≤ 1048576 := by
    by_cases c : (m.length : Int) ≤ r
    · omega
    · rw [if_neg c] at g; omega
  have hA : SmallS (l.map cvSecret) := ⟨by rw [List.length_map]; exact hl, cvSecret_marks hk⟩
  have hB : (m.map cvMark).length ≤ 1048576 := by rw [List.length_map]; exact gl
  obtain ⟨u, t, p1, p2, p3⟩ := put_both _ hA a _ hB b
  have n1 := mskN_ge (l.map cvSecret) 1 hA.2
  have n2 := mskN_ge u 1 p3.2
  have hA1 := hA.1
  have hM : Ev (fun k => laws_markSecret.f k a (m.map cvMark) b (mskN (l.map cvSecret) 1)) (mskN (l.map cvSecret) 1 + 2 * ((m.map cvMark).length : Int), markedMark (m.map cvMark).length (mskN (l.map cvSecret) 1)) := by
    unfold laws_markSecret.f
    exact ev_bind (markMarkS_at _ hB _ (by omega) (by omega)) (ev_some rfl)
  exact ev_bind (toSecretS_ev l hl hk) (ev_bind (toSecret_ev a b m gl) (ev_bind p1 (ev_bind p2 (ev_bind (eqSecretS_ev u p3.1 p3.2) (ev_bind (eqSecretS_ev _ hA.1 hA.2) (ev_bind (eqSecret_self a _ b hB) (ev_bind (markSecretS_ev _ hA) (ev_bind hM (ev_bind (markSecretS_ev _ p3) (ev_bind (heldSecretS_ev u p3) (ev_itep ⟨rfl, rfl, rfl, rfl, by omega, by omega, rfl⟩ (ev_some rfl))))))))))))
end Go.Proofs.Ytfghapankndioaa.Pure
