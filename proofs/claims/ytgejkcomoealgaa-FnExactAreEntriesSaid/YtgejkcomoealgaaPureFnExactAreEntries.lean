/- The pure statement of FnExactAreEntries. -/
import Derived.Test.YtgejkcomoealgaaAreEntryIFnExactAreEntries
import Derived.Test.YtgejkcomoealgaaAreEntrySFnExactAreEntries
namespace Go.Proofs.Ytgejkcomoealgaa.Pure
open Go.RowKit Go.Proofs.Ytgejkcomoealgaa.PFnExactAreEntries Go.Proofs.YtgejkcomoealgaaW.PrintWords Go.Proofs.YtgejkcomoealgaaW.PrintLast Go.Proofs.Ytgejkcomoealgaa.EvLib
theorem FnExactAreEntries : laws_FnExactAreEntries.Pure := by
  intro l hw
  refine Ev.rounds ?_
  unfold laws_FnExactAreEntries.f
  refine ev_bindc (szEntryS_eq l hw.1 1048576 (by omega) (by omega)) (ev_ite (fun _ => ev_some rfl) (fun h => ?_))
  have hl : l.length ≤ 1048576 := by split at h <;> omega
  have hm : (l.map cvEntry).length ≤ 1048576 := by rw [List.length_map]; exact hl
  exact ev_bind (toEntryS_ev l hl) (ev_bind (specAreEntries_ev _ hm) (ev_bind (toEntryS_ev l hl) (ev_bind (implAreEntries_ev _ hm) (ev_iten (by simp) (ev_bind (toEntryS_ev l hl) (ev_bind (eqEntryS_ev _ hm) (ev_itep rfl (ev_some rfl))))))))
end Go.Proofs.Ytgejkcomoealgaa.Pure
