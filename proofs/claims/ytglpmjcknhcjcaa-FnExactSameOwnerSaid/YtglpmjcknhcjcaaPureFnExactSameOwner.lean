/- The pure statement of FnExactSameOwner. -/
import Derived.Test.YtglpmjcknhcjcaaShpOFnExactSameOwner
import Derived.Test.YtglpmjcknhcjcaaEqIntSFnExactSameOwner
namespace Go.Proofs.Ytglpmjcknhcjcaa.Pure
open Go.RowKit Go.Proofs.Ytglpmjcknhcjcaa.PFnExactSameOwner Go.Proofs.YtglpmjcknhcjcaaW.PrintWords Go.Proofs.YtglpmjcknhcjcaaW.PrintLast Go.Proofs.Ytglpmjcknhcjcaa.EvLib
theorem toIntS_ev (l : List Int) (hl : l.length ≤ 1048576) : Ev (fun k => laws_toIntS.f k l) l := by
  unfold laws_toIntS.f
  refine ev_itep (by omega) (ev_itep (by omega) ?_)
  have := ev_copy laws_toIntS.l0 id 0 0 (fun k x0 x3 x4 => by simp only [laws_toIntS.l0]; rfl) l hl
  rw [List.map_id] at this
  exact this
theorem toReport_ev (a b : Int) (l : List Int) (c d : Int) (m : List Int) (e f : Int) (hl : l.length ≤ 1048576) (hm : m.length ≤ 1048576) : Ev (fun k => laws_toReport.f k a b l c d m e f) (a, b, l, c, d, m, e, f) := by
  unfold laws_toReport.f
  exact ev_bind (toIntS_ev l hl) (ev_bind (toIntS_ev m hm) (ev_bindc rfl (ev_some rfl)))
theorem eqReport_ev (a b : Int) (l : List Int) (c d : Int) (m : List Int) (e f : Int) (hl : l.length ≤ 1048576) (hm : m.length ≤ 1048576) : Ev (fun k => laws_eqReport.f k a b l c d m e f a b l c d m e f) true := by
  unfold laws_eqReport.f
  refine ev_itep rfl (ev_itep rfl (ev_bind (eqIntS_ev l hl) (ev_itep rfl (ev_itep rfl (ev_itep rfl (ev_bind (eqIntS_ev m hm) (ev_itep rfl (ev_bindc (a := true) ?_ (ev_itep rfl (ev_some rfl))))))))))
  unfold laws_eqSpan.f
  rw [if_pos rfl, if_pos rfl]
theorem szIntS_some (l : List Int) (n : Int) (hl : l.length ≤ 9223372036854775807) (h0 : 0 ≤ n) (h1 : n ≤ 1048576) : ∃ r, laws_szIntS.f l n = some r ∧ (0 ≤ r → (l.length : Int) ≤ n ∧ r ≤ n) := by
  unfold laws_szIntS.f
  rw [wrap_id (by omega) (by omega)]
  split
  · exact ⟨_, rfl, fun h => by omega⟩
  · exact ⟨_, rfl, fun h => by omega⟩
theorem szReport_ok (a b : Int) (l : List Int) (c d : Int) (m : List Int) (e f : Int) (n : Int) (hl : l.length ≤ 9223372036854775807) (hm : m.length ≤ 9223372036854775807) (h0 : 0 ≤ n) (h1 : n ≤ 1048576) :
    ∃ r, laws_szReport.f a b l c d m e f n = some r ∧ (¬ r < 0 → l.length ≤ 1048576 ∧ m.length ≤ 1048576 ∧ r ≤ n) := by
  obtain ⟨r1, h1', g1⟩ := szIntS_some l n hl h0 h1
  unfold laws_szReport.f
  simp only [h1', Option.bind_some]
  by_cases c1 : r1 < 0
  · rw [if_pos c1]; exact ⟨_, rfl, fun h => absurd (by decide) h⟩
  · rw [if_neg c1]
    have k1 := g1 (by omega)
    obtain ⟨r2, h2, g2⟩ := szIntS_some m r1 hm (by omega) (by omega)
    simp only [h2, Option.bind_some]
    by_cases c2 : r2 < 0
    · rw [if_pos c2]; exact ⟨_, rfl, fun h => absurd (by decide) h⟩
    · rw [if_neg c2]
      have k2 := g2 (by omega)
      exact ⟨_, rfl, fun _ => by omega⟩
theorem bne_self (b : Bool) : (b != b) = false := by cases b <;> rfl
theorem FnExactSameOwner : laws_FnExactSameOwner.Pure := by
  intro a b l c d m e f a' b' l' c' d' m' e' f' _ _ hl _ _ hm _ _ _ _ hl' _ _ hm' _ _
  refine Ev.rounds ?_
  unfold laws_FnExactSameOwner.f
  obtain ⟨r, hr, hr2⟩ := szReport_ok a b l c d m e f 1048576 (maxLen_le hl.1) (maxLen_le hm.1) (by omega) (by omega)
  refine ev_bindc hr (ev_ite (fun _ => ev_some rfl) (fun cc => ?_))
  obtain ⟨hl1, hm1, hrn⟩ := hr2 cc
  obtain ⟨s, hs, hs2⟩ := szReport_ok a' b' l' c' d' m' e' f' r (maxLen_le hl'.1) (maxLen_le hm'.1) (by omega) hrn
  refine ev_bindc hs (ev_ite (fun _ => ev_some rfl) (fun cc2 => ?_))
  obtain ⟨hl2, hm2, _⟩ := hs2 cc2
  have t1 := toReport_ev a b l c d m e f hl1 hm1
  have t2 := toReport_ev a' b' l' c' d' m' e' f' hl2 hm2
  have e1 := eqReport_ev a b l c d m e f hl1 hm1
  have e2 := eqReport_ev a' b' l' c' d' m' e' f' hl2 hm2
  obtain ⟨q, q1, q2⟩ := sameOwner_ok a b l c d m e f a' b' l' c' d' m' e' f' hl1 hm1 hl2 hm2
  exact ev_bind t1 (ev_bind t2 (ev_bind q2 (ev_bind t1 (ev_bind t2 (ev_bind q1 (ev_iten (by rw [bne_self]; simp) (ev_bind t1 (ev_bind e1 (ev_itep rfl (ev_bind t2 (ev_bind e2 (ev_itep rfl (ev_some rfl)))))))))))))
end Go.Proofs.Ytglpmjcknhcjcaa.Pure
