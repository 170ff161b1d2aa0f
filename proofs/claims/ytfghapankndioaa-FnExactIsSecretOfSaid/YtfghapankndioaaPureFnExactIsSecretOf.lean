/- The pure statement of FnExactIsSecretOf. -/
import Derived.Test.YtfghapankndioaaMarkSFnExactIsSecretOf
namespace Go.Proofs.Ytfghapankndioaa.Pure
open Go.RowKit Go.Proofs.Ytfghapankndioaa.PFnExactIsSecretOf Go.Proofs.YtfghapankndioaaW.PrintWords Go.Proofs.YtfghapankndioaaW.PrintLast Go.Proofs.Ytfghapankndioaa.EvLib
theorem eqSecret_self (a : Int) (l : List IMark) (b : Int) (hl : l.length ≤ 1048576) : Ev (fun k => laws_eqSecret.f k a l b a l b) true := by
  unfold laws_eqSecret.f
  exact ev_itep rfl (ev_bind (eqMarkS_ev l hl) (ev_itep rfl (ev_itep rfl (ev_some rfl))))
theorem FnExactIsSecretOf : laws_FnExactIsSecretOf.Pure := by
  intro a l b sl_ _ hw _ _
  refine Ev.rounds ?_
  unfold laws_FnExactIsSecretOf.f laws_szSecret.f
  by_cases hl : l.length ≤ 1048576
  · have hm : (l.map cvMark).length ≤ 1048576 := by rw [List.length_map]; exact hl
    have cp : Ev (fun k => laws_toSecret.f k a l b) (a, l.map cvMark, b) := by
      unfold laws_toSecret.f
      exact ev_bind (toMarkS_ev l hl) (ev_some rfl)
    refine ev_bindc (a := 1048576 - (l.length : Int)) (by rw [show laws_szMarkS.f l 1048576 = some (1048576 - (l.length : Int)) by rw [szMarkS_eq l hw.1 1048576 (by omega) (by omega), if_pos (by omega)], Option.bind_some, if_neg (by omega)]) (ev_iten (by omega) ?_)
    have e1 : Ev (fun k => spec_IsSecretOf.f k a (l.map cvMark) b sl_) (opens (l.map cvMark) b sl_) := by
      unfold spec_IsSecretOf.f
      exact ev_bind (specOpensSeal_ev _ hm b sl_) (ev_some rfl)
    have e2 : Ev (fun k => impl_IsSecretOf.f k a (l.map cvMark) b sl_) (opens (l.map cvMark) b sl_) := by
      unfold impl_IsSecretOf.f
      exact ev_bind (implOpensSeal_ev _ hm b sl_) (ev_some rfl)
    exact ev_bind cp (ev_bind e1 (ev_bind cp (ev_bind e2 (ev_iten (by simp) (ev_bind cp (ev_bind (eqSecret_self _ _ _ hm) (ev_itep rfl (ev_some rfl))))))))
  · exact ev_bindc (a := -1) (by rw [show laws_szMarkS.f l 1048576 = some (-1) by rw [szMarkS_eq l hw.1 1048576 (by omega) (by omega), if_neg (by omega)], Option.bind_some, if_pos (by omega)]) (ev_itep (by omega) (ev_some rfl))
end Go.Proofs.Ytfghapankndioaa.Pure
