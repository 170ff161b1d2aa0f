/- The pure statement of FnExactAccountsOf. -/
import Derived.Test.YtgejkcomoealgaaCvEntryFnExactAccountsOf
import Derived.Test.YtgejkcomoealgaaAccFnExactAccountsOf
import Derived.Test.YtgejkcomoealgaaMkEntryNFnExactAccountsOf
import Derived.Test.YtgejkcomoealgaaEqIntBFnExactAccountsOf
import Derived.Test.YtgejkcomoealgaaMkIntBFnExactAccountsOf
namespace Go.Proofs.Ytgejkcomoealgaa.Pure
open Go.RowKit Go.Proofs.Ytgejkcomoealgaa.PFnExactAccountsOf Go.Proofs.YtgejkcomoealgaaW.PrintWords Go.Proofs.YtgejkcomoealgaaW.PrintLast Go.Proofs.Ytgejkcomoealgaa.EvLib
theorem acc_len (l : List AEnt) : (accOf l).length ≤ 2 * l.length := by
  have h1 := flat_len l
  have h2 := Lib.compact_length_le ((flat l).mergeSort fun x y => decide (x ≤ y))
  rw [List.length_mergeSort] at h2
  unfold accOf unitedI
  omega
theorem FnExactAccountsOf : laws_FnExactAccountsOf.Pure := by
  intro l hw
  refine Ev.rounds ?_
  unfold laws_FnExactAccountsOf.f
  refine ev_bindc (szEntryS_eq l hw.1 1048576 (by omega) (by omega)) (ev_ite (fun _ => ev_some rfl) (fun h => ?_))
  have hl : l.length ≤ 1048576 := by split at h <;> omega
  have hm : (l.map cvEntry).length ≤ 1048576 := by rw [List.length_map]; exact hl
  have ht : (accOf (l.map cvEntry)).length ≤ 2097152 := by have := acc_len (l.map cvEntry); omega
  have cp := toEntryS_ev l hl
  have s := specAcc_ev _ hm
  have i := implAcc_ev _ hm
  have e := eqIntB_ev (accOf (l.map cvEntry)) (by omega)
  have hd := heldIntB_ev (accOf (l.map cvEntry)).length (by omega)
  refine ev_bind cp (ev_bind s (ev_bind cp (ev_bind i (ev_bind e (ev_itep rfl (ev_bind cp (ev_bind (eqEntryS_ev _ hm) (ev_itep rfl (ev_bind (markEntryS_ev _ hm) ?_)))))))))
  refine ev_iten (by show ¬ (1 + 4 * ((l.map cvEntry).length : Int) < 0); omega) (ev_bind e ?_)
  refine ev_step (fun k => by simp only [laws_FnExactAccountsOf.j0]; rfl) (ev_iten (by simp) (ev_bind (markIntB_ev _ (by omega)) (ev_bind hd ?_)))
  refine ev_iten (by omega) (ev_itep rfl ?_)
  refine ev_bind cp (ev_bind i (ev_bind e (ev_itep rfl (ev_bind hd ?_))))
  refine ev_iten (by omega) ?_
  exact ev_itep rfl (ev_some rfl)
end Go.Proofs.Ytgejkcomoealgaa.Pure
