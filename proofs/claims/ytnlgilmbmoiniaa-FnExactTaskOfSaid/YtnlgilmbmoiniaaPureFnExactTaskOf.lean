/- The pure statement of FnExactTaskOf. -/
import Derived.Test.YtnlgilmbmoiniaaTskOFnExactTaskOf
namespace Go.Proofs.Ytnlgilmbmoiniaa.Pure
open Go.RowKit Go.Proofs.Ytnlgilmbmoiniaa.PFnExactTaskOf Go.Proofs.YtnlgilmbmoiniaaW.PrintWords Go.Proofs.YtnlgilmbmoiniaaW.PrintLast Go.Proofs.Ytnlgilmbmoiniaa.EvLib
theorem toFind_eq (a0 a1 a2 a3 a4 a5 a6 a7 : Int) : laws_toFind.f a0 a1 a2 a3 a4 a5 a6 a7 = some (a0, a1, a2, a3, a4, a5, a6, a7) := rfl
theorem eqTask_self (a b c : Int) : laws_eqTask.f a b c a b c = some true := by simp [laws_eqTask.f]
theorem FnExactTaskOf : laws_FnExactTaskOf.Pure := by
  intro a0 a1 a2 a3 a4 a5 a6 a7 c l h _ _ _ _ _ _ _ _ hc _ _
  refine Ev.rounds ?_
  unfold laws_FnExactTaskOf.f
  refine ev_ite (fun _ => ev_some rfl) (fun g => ev_bindc (szClaimS_eq c hc.1 1048576 (by omega) (by omega)) (ev_ite (fun _ => ev_some rfl) (fun g2 => ?_)))
  have hl : l.length ≤ 1048576 := by omega
  have hcl : c.length ≤ 1048576 := by
    by_cases q : (c.length : Int) ≤ 1048576
    · omega
    · rw [if_neg q] at g2; omega
  have hc1 := toClaimS_ev c hcl
  obtain ⟨⟨r1, r2, r3⟩, i1, s1⟩ := taskOf_ok a0 a1 a2 a3 a4 a5 a6 a7 (c.map cvClaim) (by rw [List.length_map]; exact hcl) l hl h
  simp only [toFind_eq, Option.bind_some]
  exact ev_bind hc1 (ev_bind (toBoolS_ev l hl) (ev_bind s1 (ev_bind hc1 (ev_bind (toBoolS_ev l hl) (ev_bind i1 (ev_bindc (eqTask_self _ _ _) (ev_itep rfl (ev_bind hc1 (ev_bind (eqClaimS_ev _ (by rw [List.length_map]; exact hcl)) (ev_itep rfl (ev_bind (toBoolS_ev l hl) (ev_bind (eqBoolS_ev l hl) (ev_itep rfl (ev_some rfl))))))))))))))
end Go.Proofs.Ytnlgilmbmoiniaa.Pure
