/- The pure statement of FnExactAddEntry. -/
import Derived.Test.YtgejkcomoealgaaAddEFnExactAddEntry
import Derived.Test.YtgejkcomoealgaaMkEntryFnExactAddEntry
namespace Go.Proofs.Ytgejkcomoealgaa.Pure
open Go.RowKit Go.Proofs.Ytgejkcomoealgaa.PFnExactAddEntry Go.Proofs.YtgejkcomoealgaaW.PrintWords Go.Proofs.YtgejkcomoealgaaW.PrintLast Go.Proofs.Ytgejkcomoealgaa.EvLib
theorem FnExactAddEntry : laws_FnExactAddEntry.Pure := by
  intro l a b c d hw _ _ _ _
  refine Ev.rounds ?_
  unfold laws_FnExactAddEntry.f
  refine ev_bindc (szEntryS_eq l hw.1 1048576 (by omega) (by omega)) (ev_ite (fun _ => ev_some rfl) (fun h => ?_))
  have hl : l.length ≤ 1048576 := by split at h <;> omega
  have hm : (l.map cvEntry).length ≤ 1048576 := by rw [List.length_map]; exact hl
  have ht := addE_len (l.map cvEntry) ⟨a, b, c, d⟩ hm
  have cp := toEntryS_ev l hl
  have s := specAddEntry_ev _ hm a b c d
  have i := implAddEntry_ev _ hm a b c d
  have e := eqEntryS_ev _ ht
  refine ev_bind cp (ev_bindc rfl (ev_bind s (ev_bind cp (ev_bindc rfl (ev_bind i (ev_bind e (ev_itep rfl ?_)))))))
  refine ev_step (fun k => by simp only [laws_FnExactAddEntry.j0]; rfl) (ev_iten (by simp) (ev_bind cp (ev_bind (eqEntryS_ev _ hm) (ev_itep rfl (ev_bind (markEntryS_ev _ hm) ?_)))))
  refine ev_iten (by show ¬ (1 + 4 * ((l.map cvEntry).length : Int) < 0); omega) ?_
  refine ev_bind e (ev_itep rfl ?_)
  have hd := heldEntryS_ev _ ht
  refine ev_step (fun k => by simp only [laws_FnExactAddEntry.j1]; rfl) (ev_iten (by simp) (ev_bind (markEntryS_ev _ ht) (ev_bind hd ?_)))
  refine ev_iten (by omega) ?_
  refine ev_itep rfl ?_
  refine ev_bind cp (ev_bindc rfl (ev_bind i (ev_bind e (ev_itep rfl ?_))))
  refine ev_step (fun k => by simp only [laws_FnExactAddEntry.j2]; rfl) (ev_iten (by simp) (ev_bind hd ?_))
  refine ev_iten (by omega) ?_
  exact ev_itep rfl (ev_some rfl)
end Go.Proofs.Ytgejkcomoealgaa.Pure
