/- The pure statement of FnExactToday. -/
import Derived.Test.YtnlgilmbmoiniaaTodaySFnExactToday
import Derived.Test.YtnlgilmbmoiniaaMkTaskFnExactToday
namespace Go.Proofs.Ytnlgilmbmoiniaa.Pure
open Go.RowKit Go.Proofs.Ytnlgilmbmoiniaa.PFnExactToday Go.Proofs.YtnlgilmbmoiniaaW.PrintWords Go.Proofs.YtnlgilmbmoiniaaW.PrintLast Go.Proofs.Ytnlgilmbmoiniaa.EvLib
theorem today_len (l : List ITask) (now : Int) : (today l now).length ≤ l.length := by
  unfold today
  split
  · exact List.length_filter_le _ _
  · simp
theorem FnExactToday : laws_FnExactToday.Pure := by
  intro l now hw _
  refine Ev.rounds ?_
  unfold laws_FnExactToday.f
  refine ev_bindc (szTaskS_eq l hw.1 1048576 (by omega) (by omega)) (ev_ite (fun _ => ev_some rfl) (fun h => ?_))
  have hl : l.length ≤ 1048576 := by split at h <;> omega
  have hm : (l.map cvTask).length ≤ 1048576 := by rw [List.length_map]; exact hl
  have ht : (today (l.map cvTask) now).length ≤ 1048576 := Nat.le_trans (today_len _ _) hm
  have c := toTaskS_ev l hl
  have s := specToday_ev _ hm now
  have i := implToday_ev _ hm now
  have e := eqTaskS_ev _ ht
  refine ev_bind c (ev_bind s (ev_bind c (ev_bind i (ev_bind e (ev_itep rfl (ev_bind c (ev_bind (eqTaskS_ev _ hm) (ev_itep rfl (ev_bind (markTaskS_ev _ hm) (ev_iten (by simp; omega) (ev_bind e ?_)))))))))))
  refine ev_step (fun k => by simp only [laws_FnExactToday.j0]; rfl) (ev_iten (by simp) ?_)
  have hd := heldTaskS_ev _ ht
  refine ev_bind (markTaskS_ev _ ht) (ev_bind hd (ev_iten (by omega) (ev_itep rfl (ev_bind c (ev_bind i (ev_bind e (ev_itep rfl (ev_bind hd (ev_iten (by omega) (ev_itep rfl (ev_some rfl)))))))))))
end Go.Proofs.Ytnlgilmbmoiniaa.Pure
