/- The pure statement of FnSecrets. -/
import Derived.Test.YtfghapankndioaaDrawSecFnSecrets
namespace Go.Proofs.Ytfghapankndioaa.Pure
open Go.RowKit Go.Proofs.Ytfghapankndioaa.PFnSecrets Go.Proofs.YtfghapankndioaaW.PrintWords Go.Proofs.YtfghapankndioaaW.PrintLast Go.Proofs.Ytfghapankndioaa.EvLib
theorem tail1 (s : List Int) (hs : s.length ≤ 1048576) : Ev (fun k => laws_FnSecrets.j1 k s false) true := by
  obtain ⟨l, m, h1, hl, hm⟩ := drawEq_ok s hs
  obtain ⟨a, n, b, c, h2, hn⟩ := drawIs_ok s hs
  have e1 := implEqSecrets_ev l m (by have := hl.1; omega) hl.2
  have e2 := implEqSecrets_ev m l (by have := hm.1; omega) hm.2
  have o := implOpensSeal_ev n hn b c
  refine ev_step (fun k => by simp only [laws_FnSecrets.j1]; rfl) (ev_iten (by simp) (ev_bind h1 (ev_bind h2 (ev_bind e1 (ev_bind e2 (ev_itep ?_ (ev_bind (a := opens n b c) ?_ ?_)))))))
  · show (all2 secEq l m == all2 secEq m l) = true
    rw [all2_symm secEq secEq_symm l m]
    simp
  · unfold impl_IsSecretOf.f
    exact ev_bind o (ev_some rfl)
  · exact ev_bind (f := fun _ t => some (opens n b c == t)) o (ev_some (by simp))
theorem tail0 (s : List Int) (hs : s.length ≤ 1048576) : Ev (fun k => laws_FnSecrets.j0 k s) true := by
  obtain ⟨l, a, h1, hl⟩ := drawSeal_ok s hs
  have e1 := implSealOf_ev l hl a
  refine ev_step (fun k => by simp only [laws_FnSecrets.j0]; rfl) (ev_bind h1 (ev_bind e1 (ev_ite (fun _ => tail1 s hs) (fun c => ?_))))
  refine ev_bindc (implMarksOf_eq l hl a) (ev_bind (salt_ev l hl a) (ev_bind (implSealMarks_ev _ (marksOf_len l hl a) _) ?_))
  have hq : idxB (fun y : ISecret => y.f0 == a) l 0 < 0 ∨ ¬ idxB (fun y : ISecret => y.f0 == a) l 0 < 0 := Decidable.em _
  rcases hq with hq | hq
  · exact absurd (show sealF l a = -1 by unfold sealF; rw [if_pos hq]) c
  · have e : (sealF l a != PFnSecrets.hash (sealIn (marksOf l a) (saltF l a))) = false := by
      unfold sealF marksOf saltF
      rw [if_neg hq, if_neg hq, if_neg hq]
      simp
    rw [e]
    exact tail1 s hs
theorem FnSecrets : laws_FnSecrets.Pure := by
  intro s hw
  refine Ev.rounds ?_
  unfold laws_FnSecrets.f
  refine ev_bindc (a := decide ((s.length : Int) > 1048576)) rfl (ev_ite (fun _ => ev_some rfl) (fun c => ?_))
  have hs : s.length ≤ 1048576 := by
    simp only [decide_eq_true_eq] at c
    omega
  obtain ⟨l, a, m, b, h1, hl, hk, hm⟩ := drawPut_ok s hs
  obtain ⟨r, t, hr, ht, hf⟩ := put_ok l hl hk a m hm b
  refine ev_bind h1 (ev_bind hr ?_)
  cases t with
  | true =>
    obtain ⟨g1, g2, g3, g4, g5, g6⟩ := ht rfl
    have hA := implAreSecrets_ev r (by have := g1.1; omega) g1.2
    rw [g2] at hA
    have hS := implSealOf_ev r g1 a
    rw [g5] at hS
    have hM := implMarksOf_eq r g1 a
    rw [g4] at hM
    have hO := implOpensSeal_ev m hm b (PFnSecrets.hash (sealIn m b))
    have ho : opens m b (PFnSecrets.hash (sealIn m b)) = true := by unfold opens; rw [g6]; simp
    rw [ho] at hO
    have hl0 := hl.1
    refine ev_itep rfl (ev_bind hA (ev_itep rfl (ev_itep ?_ (ev_bindc hM (ev_itep rfl (ev_bind hS (ev_bind (a := true) ?_ (ev_itep rfl (tail0 s hs)))))))))
    · show (r.length : Int) = wrap64 ((l.length : Int) + 1)
      rw [wrap_id (by omega) (by omega)]
      omega
    · unfold impl_IsSecretOf.f
      exact ev_bind hO (ev_some rfl)
  | false =>
    have e := hf rfl
    have hE := implEqSecrets_ev r l (by have := hl.1; rw [e]; omega) (by rw [e]; exact hl.2)
    rw [e, all2_refl secEq secEq_refl] at hE
    rw [e]
    exact ev_iten (by simp) (ev_bind hE (ev_itep rfl (tail0 s hs)))
end Go.Proofs.Ytfghapankndioaa.Pure
