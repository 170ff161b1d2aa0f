/- The draws of things in things: they always answer. -/
import Derived.Test.YtogbajcaeelooaaDrawBFnBundles
import Derived.Test.YtogbajcaeelooaaPutIFnBundles
namespace Go.Proofs.Ytogbajcaeelooaa.PFnBundles
open Go.RowKit Go.Proofs.YtogbajcaeelooaaW.PrintWords Go.Proofs.YtogbajcaeelooaaW.PrintLast Go.Proofs.Ytogbajcaeelooaa.EvLib
theorem draw25_l0 (s : List Int) (hs : s.length ≤ 1048576) : ∀ (d : Nat) (l : List IInner) (p h : Int), l.length ≤ 1048576 → 0 ≤ p → d ≤ 9 →
    ∃ (r : List IInner) (p' h' : Int), Ev (fun k => spec_l25Draw.l0 k l (d : Int) s p h) (r, p', h') ∧ 0 ≤ p' ∧ r.length ≤ 1048576 := by
  intro d
  induction d with
  | zero => intro l p h hl hp _; exact ⟨l, p, h, ev_step (fun k => by simp only [spec_l25Draw.l0]; rfl) (ev_iten (by omega) (ev_some rfl)), hp, hl⟩
  | succ d ih =>
    intro l p h hl hp hd
    obtain ⟨a, p1, h1, e1, q1, a0, a1⟩ := below_ok s hs p h hp 9
    obtain ⟨b, p2, h2, e2, q2, b0, b1⟩ := below_ok s hs p1 h1 q1 9
    obtain ⟨r, p', h', hr, g1, g2⟩ := ih (putI l ⟨wrap64 (1 + a), wrap64 (1 + b)⟩).1 p2 h2 (putI_len _ _ hl) q2 (by omega)
    refine ⟨r, p', h', ev_step (fun k => by simp only [spec_l25Draw.l0]; rfl) (ev_itep (by omega) (ev_bindc e1 (ev_bindc e2 (ev_bind (specPutIn_ev l hl _ _) ?_)))), g1, g2⟩
    rw [show wrap64 (((d + 1 : Nat) : Int) - 1) = (d : Int) by rw [wrap_id (by omega) (by omega)]; omega]
    exact hr
theorem any25_ok (s : List Int) (hs : s.length ≤ 1048576) (p h : Int) (hp : 0 ≤ p) : ∃ (r : List IInner) (p' h' : Int), Ev (fun k => spec_l25Any.f k s p h) (r, p', h') ∧ 0 ≤ p' ∧ r.length ≤ 1048576 := by
  unfold spec_l25Any.f spec_l25Draw.f
  obtain ⟨n, p0, h0, e0, q0, n0, n1⟩ := below_ok s hs p h hp 9
  have n1 := n1 (by omega)
  obtain ⟨l, p1, h1, hr, q1, hl⟩ := draw25_l0 s hs n.toNat [] p0 h0 (by simp) q0 (by omega)
  rw [show ((n.toNat : Nat) : Int) = n by omega] at hr
  by_cases c : (l.length : Int) = 0
  · exact ⟨l, p1, h1, ev_bind (ev_bindc e0 hr) (ev_itep c (ev_some rfl)), q1, hl⟩
  · obtain ⟨a, p2, h2, e2, q2, a0, a1⟩ := below_ok s hs p1 h1 q1 l.length
    have a1 := a1 (by omega)
    obtain ⟨b, p3, h3, e3, q3, _, _⟩ := below_ok s hs p2 h2 q2 8
    by_cases c0 : b = 0
    · obtain ⟨v, p4, h4, e4, q4, _⟩ := int_ok s hs p3 h3 q3 [0, 1, 2, 999, 1000] (by simp)
      exact ⟨_, p4, h4, ev_bind (ev_bindc e0 hr) (ev_iten c (ev_bindc e2 (ev_bindc e3 (ev_itep c0 (ev_bindc e4 (ev_itep a0 (ev_itep a1 (ev_some rfl)))))))), q4, by rw [List.length_set]; exact hl⟩
    · by_cases c1 : b = 1
      · obtain ⟨v, p4, h4, e4, q4, _⟩ := below_ok s hs p3 h3 q3 9
        exact ⟨_, p4, h4, ev_bind (ev_bindc e0 hr) (ev_iten c (ev_bindc e2 (ev_bindc e3 (ev_iten c0 (ev_itep c1 (ev_bindc e4 (ev_itep a0 (ev_itep a1 (ev_some rfl))))))))), q4, by rw [List.length_set]; exact hl⟩
      · exact ⟨_, p3, h3, ev_bind (ev_bindc e0 hr) (ev_iten c (ev_bindc e2 (ev_bindc e3 (ev_iten c0 (ev_iten c1 (ev_some rfl)))))), q3, hl⟩
theorem drawOuterOf_ok (s : List Int) (hs : s.length ≤ 1048576) : ∃ (r : List IInner) (a : Int), Ev (fun k => spec_DrawOuterOf.f k s) (r, a) ∧ r.length ≤ 1048576 := by
  unfold spec_DrawOuterOf.f
  obtain ⟨h0, hn⟩ := new_ok s hs
  obtain ⟨r, p, h, hr, q, hl⟩ := any25_ok s hs 0 h0 (by omega)
  obtain ⟨a, p1, h1, e1, q1, _, _⟩ := below_ok s hs p h q 11
  exact ⟨r, a, ev_bind hn (ev_bind hr (ev_bindc e1 (ev_some rfl))), hl⟩
theorem drawAllIn_ok (s : List Int) (hs : s.length ≤ 1048576) : ∃ (r : List IInner) (a : Int), Ev (fun k => spec_DrawAllIn.f k s) (r, a) ∧ r.length ≤ 1048576 := by
  unfold spec_DrawAllIn.f
  obtain ⟨r, a, h, hl⟩ := drawOuterOf_ok s hs
  exact ⟨r, a, ev_bind h (ev_some rfl), hl⟩
theorem drawTopOf_ok (s : List Int) (hs : s.length ≤ 1048576) : ∃ (r : List IInner) (a : Int), Ev (fun k => spec_DrawTopOf.f k s) (r, a) ∧ r.length ≤ 1048576 := by
  unfold spec_DrawTopOf.f
  obtain ⟨r, a, h, hl⟩ := drawOuterOf_ok s hs
  exact ⟨r, a, ev_bind h (ev_some rfl), hl⟩
theorem drawPutIn_ok (s : List Int) (hs : s.length ≤ 1048576) : ∃ (r : List IInner) (a b : Int), Ev (fun k => spec_DrawPutIn.f k s) (r, a, b) ∧ r.length ≤ 1048576 := by
  unfold spec_DrawPutIn.f
  obtain ⟨r, a, h, hl⟩ := drawOuterOf_ok s hs
  obtain ⟨h0, hn⟩ := new_ok s hs
  obtain ⟨b, p1, h1, e1, q1, _, _⟩ := below_ok s hs 0 h0 (by omega) 10
  exact ⟨r, a, b, ev_bind h (ev_bind hn (ev_bindc e1 (ev_some rfl))), hl⟩
end Go.Proofs.Ytogbajcaeelooaa.PFnBundles
