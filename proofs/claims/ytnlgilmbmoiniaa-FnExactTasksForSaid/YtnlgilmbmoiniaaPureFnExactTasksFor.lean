/- The pure statement of FnExactTasksFor. -/
import Derived.Test.YtnlgilmbmoiniaaTskAllFnExactTasksFor
namespace Go.Proofs.Ytnlgilmbmoiniaa.Pure
open Go.RowKit Go.Proofs.Ytnlgilmbmoiniaa.PFnExactTasksFor Go.Proofs.YtnlgilmbmoiniaaW.PrintWords Go.Proofs.YtnlgilmbmoiniaaW.PrintLast Go.Proofs.Ytnlgilmbmoiniaa.EvLib
theorem FnExactTasksFor : laws_FnExactTasksFor.Pure := by
  intro l c b h hw hcw _ _
  refine Ev.rounds ?_
  unfold laws_FnExactTasksFor.f
  refine ev_ite (fun _ => ev_some rfl) (fun g => ev_bindc (szFindS_eq l hw.1 1048576 (by omega) (by omega)) (ev_ite (fun _ => ev_some rfl) (fun g1 => ?_)))
  have hb : b.length ≤ 1048576 := by omega
  have hl : (l.length : Int) ≤ 1048576 := by
    by_cases q : (l.length : Int) ≤ 1048576
    · exact q
    · rw [if_neg q] at g1; omega
  rw [if_pos hl]
  refine ev_bindc (szClaimS_eq c hcw.1 (1048576 - (l.length : Int)) (by omega) (by omega)) (ev_ite (fun _ => ev_some rfl) (fun g2 => ?_))
  have hc : (c.length : Int) ≤ 1048576 - (l.length : Int) := by
    by_cases q : (c.length : Int) ≤ 1048576 - (l.length : Int)
    · exact q
    · rw [if_neg q] at g2; omega
  have hm : (l.map cvFind).length ≤ 1048576 := by rw [List.length_map]; omega
  have hn : (c.map cvClaim).length ≤ 1048576 := by rw [List.length_map]; omega
  have cf := toFindS_ev l (by omega)
  have cc := toClaimS_ev c (by omega)
  have cb := toBoolS_ev b hb
  obtain ⟨R, hR, s, i⟩ := tasks_ok (l.map cvFind) (c.map cvClaim) b h hm hn hb
  have e := eqTaskS_ev R hR
  have hd := heldTaskS_ev R.length hR
  obtain ⟨mb, hmb⟩ := markBoolS_evq b hb (1 + 8 * ((l.map cvFind).length : Int) + 5 * ((c.map cvClaim).length : Int)) (by omega) (by omega)
  refine ev_bind cf (ev_bind cc (ev_bind cb (ev_bind s (ev_bind cf (ev_bind cc (ev_bind cb (ev_bind i (ev_bind e (ev_itep rfl ?_)))))))))
  refine ev_bind cf (ev_bind (eqFindS_ev _ hm) (ev_itep rfl (ev_bind cc (ev_bind (eqClaimS_ev _ hn) (ev_itep rfl (ev_bind cb (ev_bind (eqBoolS_ev b hb) (ev_itep rfl ?_))))))))
  refine ev_bind (markFindS_ev _ hm) (ev_bind (markClaimS_evq _ hn _ (by show (0 : Int) ≤ 1 + 8 * ((l.map cvFind).length : Int); omega) (by show 1 + 8 * ((l.map cvFind).length : Int) ≤ 16777216; omega)) (ev_bind hmb ?_))
  refine ev_iten (by show ¬ (1 + 8 * ((l.map cvFind).length : Int) + 5 * ((c.map cvClaim).length : Int) + (b.length : Int) < 0); omega) (ev_bind e ?_)
  refine ev_step (fun k => by simp only [laws_FnExactTasksFor.j0]; rfl) (ev_iten (by simp) (ev_bind (markTaskS_ev R hR) (ev_bind hd ?_)))
  refine ev_iten (by omega) (ev_itep rfl ?_)
  refine ev_bind cf (ev_bind cc (ev_bind cb (ev_bind i (ev_bind e (ev_itep rfl (ev_bind hd ?_))))))
  refine ev_iten (by omega) ?_
  exact ev_itep rfl (ev_some rfl)
end Go.Proofs.Ytnlgilmbmoiniaa.Pure
