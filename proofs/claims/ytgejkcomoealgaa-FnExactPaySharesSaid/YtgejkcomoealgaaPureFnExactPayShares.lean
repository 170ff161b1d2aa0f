/- The pure statement of FnExactPayShares. -/
import Derived.Test.YtgejkcomoealgaaPayEFnExactPayShares
import Derived.Test.YtgejkcomoealgaaMkEntryFnExactPayShares
import Derived.Test.YtgejkcomoealgaaMkShareFnExactPayShares
namespace Go.Proofs.Ytgejkcomoealgaa.Pure
open Go.RowKit Go.Proofs.Ytgejkcomoealgaa.PFnExactPayShares Go.Proofs.YtgejkcomoealgaaW.PrintWords Go.Proofs.YtgejkcomoealgaaW.PrintLast Go.Proofs.Ytgejkcomoealgaa.EvLib
theorem FnExactPayShares : laws_FnExactPayShares.Pure := by
  intro l a s t hw _ hv _
  refine Ev.rounds ?_
  unfold laws_FnExactPayShares.f
  refine ev_bindc (szEntryS_eq l hw.1 1048576 (by omega) (by omega)) (ev_ite (fun _ => ev_some rfl) (fun h => ?_))
  have hl : l.length ≤ 1048576 := by split at h <;> omega
  rw [if_pos (by omega)]
  refine ev_bindc (szShareS_eq s hv.1 _ (by omega) (by omega)) (ev_ite (fun _ => ev_some rfl) (fun h2 => ?_))
  have hs : s.length ≤ 1048576 := by split at h2 <;> omega
  have hm : (l.map cvEntry).length ≤ 1048576 := by rw [List.length_map]; exact hl
  have hms : (s.map cvShare).length ≤ 1048576 := by rw [List.length_map]; exact hs
  have ht := payE_len (l.map cvEntry) hm a t (s.map cvShare) _ hm
  have cp := toEntryS_ev l hl
  have cs := toShareS_ev s hs
  have sp := specPayShares_ev _ hm a _ hms t
  have i := implPayShares_ev _ hm a _ hms t
  have e := eqEntryS_ev _ ht
  refine ev_bind cp (ev_bind cs (ev_bind sp (ev_bind cp (ev_bind cs (ev_bind i (ev_bind e (ev_itep rfl ?_)))))))
  refine ev_step (fun k => by simp only [laws_FnExactPayShares.j0]; rfl) (ev_iten (by simp) (ev_bind cp (ev_bind (eqEntryS_ev _ hm) (ev_itep rfl (ev_bind cs (ev_bind (eqShareS_ev _ hms) (ev_itep rfl (ev_bind (markEntryS_ev _ hm) ?_))))))))
  refine ev_bind (markShareS_evq _ hms (1 + 4 * ((l.map cvEntry).length : Int)) (by omega) (by omega)) ?_
  refine ev_iten (by show ¬ (1 + 4 * ((l.map cvEntry).length : Int) + 2 * ((s.map cvShare).length : Int) < 0); omega) ?_
  refine ev_bind e (ev_itep rfl ?_)
  have hd := heldEntryS_ev _ ht
  refine ev_step (fun k => by simp only [laws_FnExactPayShares.j1]; rfl) (ev_iten (by simp) (ev_bind (markEntryS_ev _ ht) (ev_bind hd ?_)))
  refine ev_iten (by omega) ?_
  refine ev_itep rfl ?_
  refine ev_bind cp (ev_bind cs (ev_bind i (ev_bind e (ev_itep rfl ?_))))
  refine ev_step (fun k => by simp only [laws_FnExactPayShares.j2]; rfl) (ev_iten (by simp) (ev_bind hd ?_))
  refine ev_iten (by omega) ?_
  exact ev_itep rfl (ev_some rfl)
end Go.Proofs.Ytgejkcomoealgaa.Pure
