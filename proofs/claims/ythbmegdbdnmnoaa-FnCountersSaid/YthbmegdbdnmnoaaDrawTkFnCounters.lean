/- The draws of tickets: they always answer. -/
import Derived.Test.YthbmegdbdnmnoaaDrawFnCounters
namespace Go.Proofs.Ythbmegdbdnmnoaa.PFnCounters
open Go.RowKit Go.Proofs.YthbmegdbdnmnoaaW.PrintWords Go.Proofs.YthbmegdbdnmnoaaW.PrintLast Go.Proofs.Ythbmegdbdnmnoaa.EvLib
theorem any28_l0 (s : List Int) (hs : s.length ≤ 1048576) : ∀ (d : Nat) (i : Int) (l : List S42) (p h : Int), i + d = 9 → 1 ≤ i → (l.length : Int) ≤ i → 0 ≤ p →
    ∃ (r : List S42) (p' h' : Int), Ev (fun k => spec_l28Any.l0 k l i s p h) (r, p', h') ∧ 0 ≤ p' ∧ r.length ≤ 9 := by
  have fin : ∀ (i : Int) (l : List S42) (p h : Int), (∀ x p1 h1, spec_l1Below.f s p h 9 = some (x, p1, h1) → ¬ i ≤ x) → (l.length : Int) ≤ i → i ≤ 9 → 0 ≤ p →
      ∃ (r : List S42) (p' h' : Int), Ev (fun k => spec_l28Any.l0 k l i s p h) (r, p', h') ∧ 0 ≤ p' ∧ r.length ≤ 9 := by
    intro i l p h hn hl hi hp
    obtain ⟨x, p1, h1, e1, q1, x0, x1⟩ := below_ok s hs p h hp 9
    have hn := hn x p1 h1 e1
    by_cases c : (l.length : Int) > 0
    · obtain ⟨a, p2, h2, e2, q2, a0, a1⟩ := below_ok s hs p1 h1 q1 l.length
      have a1 := a1 (by omega)
      obtain ⟨b, p3, h3, e3, q3, _, _⟩ := below_ok s hs p2 h2 q2 12
      by_cases c0 : b = 0
      · obtain ⟨v, p4, h4, e4, q4, _⟩ := int_ok s hs p3 h3 q3 [0, 1, 999, 1000] (by simp)
        have hm := (ev_step (fun k => by simp only [spec_l28Any.l0]; rfl) (ev_bindc e1 (ev_iten hn (ev_itep c (ev_bindc e2 (ev_bindc e3 (ev_itep c0 (ev_bindc e4 (ev_itep a0 (ev_itep a1 (ev_some rfl)))))))))) : Ev (fun k => spec_l28Any.l0 k l i s p h) _)
        exact ⟨_, p4, h4, hm, q4, by simp; omega⟩
      · by_cases c1 : b = 1
        · obtain ⟨v, p4, h4, e4, q4, _⟩ := int_ok s hs p3 h3 q3 [-1, 100001] (by simp)
          have hm := (ev_step (fun k => by simp only [spec_l28Any.l0]; rfl) (ev_bindc e1 (ev_iten hn (ev_itep c (ev_bindc e2 (ev_bindc e3 (ev_iten c0 (ev_itep c1 (ev_bindc e4 (ev_itep a0 (ev_itep a1 (ev_some rfl))))))))))) : Ev (fun k => spec_l28Any.l0 k l i s p h) _)
          exact ⟨_, p4, h4, hm, q4, by simp; omega⟩
        · by_cases c2 : b = 2
          · obtain ⟨v, p4, h4, e4, q4, _⟩ := int_ok s hs p3 h3 q3 [-2, 100001] (by simp)
            have hm := (ev_step (fun k => by simp only [spec_l28Any.l0]; rfl) (ev_bindc e1 (ev_iten hn (ev_itep c (ev_bindc e2 (ev_bindc e3 (ev_iten c0 (ev_iten c1 (ev_itep c2 (ev_bindc e4 (ev_itep a0 (ev_itep a1 (ev_some rfl)))))))))))) : Ev (fun k => spec_l28Any.l0 k l i s p h) _)
            exact ⟨_, p4, h4, hm, q4, by simp; omega⟩
          · have hm := (ev_step (fun k => by simp only [spec_l28Any.l0]; rfl) (ev_bindc e1 (ev_iten hn (ev_itep c (ev_bindc e2 (ev_bindc e3 (ev_iten c0 (ev_iten c1 (ev_iten c2 (ev_some rfl))))))))) : Ev (fun k => spec_l28Any.l0 k l i s p h) _)
            exact ⟨_, p3, h3, hm, q3, by omega⟩
    · have hm := (ev_step (fun k => by simp only [spec_l28Any.l0]; rfl) (ev_bindc e1 (ev_iten hn (ev_iten c (ev_some rfl)))) : Ev (fun k => spec_l28Any.l0 k l i s p h) _)
      exact ⟨_, p1, h1, hm, q1, by omega⟩
  intro d
  induction d with
  | zero =>
    intro i l p h hi h1 hl hp
    refine fin i l p h (fun x p1 h1 e => ?_) hl (by omega) hp
    obtain ⟨x', p1', h1', e', _, _, x1⟩ := below_ok s hs p h hp 9
    rw [e] at e'
    have := Option.some.inj e'
    have hx : x = x' := congrArg Prod.fst this
    have := x1 (by omega)
    omega
  | succ d ih =>
    intro i l p h hi hi1 hl hp
    obtain ⟨x, p1, h1, e1, q1, x0, x1⟩ := below_ok s hs p h hp 9
    by_cases c : i ≤ x
    · obtain ⟨a, p2, h2, e2, q2, a0, a1⟩ := below_ok s hs p1 h1 q1 40
      obtain ⟨b, p3, h3, e3, q3⟩ := once_ok s hs p2 h2 q2 3
      have hw : wrap64 (i + 1) = i + 1 := wrap_id (by omega) (by omega)
      cases b with
      | true =>
        obtain ⟨v, p4, h4, e4, q4, _, _⟩ := below_ok s hs p3 h3 q3 60
        obtain ⟨r, p', h', hr, g1, g2⟩ := ih (i + 1) (l ++ [⟨i, a, v⟩]) p4 h4 (by omega) (by omega) (by simp; omega) q4
        rw [← hw] at hr
        refine ⟨r, p', h', ?_, g1, g2⟩
        refine ev_step (fun k => by simp only [spec_l28Any.l0]; rfl) ?_
        refine ev_bindc e1 (ev_itep c (ev_bindc e2 (ev_bindc e3 (ev_itep (c := true = true) rfl (ev_bindc e4 ?_)))))
        exact ev_itep (by omega) hr
      | false =>
        obtain ⟨r, p', h', hr, g1, g2⟩ := ih (i + 1) (l ++ [⟨i, a, -1⟩]) p3 h3 (by omega) (by omega) (by simp; omega) q3
        rw [← hw] at hr
        refine ⟨r, p', h', ?_, g1, g2⟩
        refine ev_step (fun k => by simp only [spec_l28Any.l0]; rfl) ?_
        refine ev_bindc e1 (ev_itep c (ev_bindc e2 (ev_bindc e3 (ev_iten (c := false = true) (by simp) ?_))))
        exact ev_itep (by omega) hr
    · refine fin i l p h (fun x' p1' h1' e' => ?_) hl (by omega) hp
      rw [e1] at e'
      have := Option.some.inj e'
      have hx : x = x' := congrArg Prod.fst this
      omega
theorem any28_ok (s : List Int) (hs : s.length ≤ 1048576) (p h : Int) (hp : 0 ≤ p) : ∃ (r : List S42) (p' h' : Int), Ev (fun k => spec_l28Any.f k s p h) (r, p', h') ∧ 0 ≤ p' ∧ r.length ≤ 9 := by
  unfold spec_l28Any.f
  exact any28_l0 s hs 8 1 [] p h (by omega) (by omega) (by simp) hp
theorem drawCallAll_ok (s : List Int) (hs : s.length ≤ 1048576) : ∃ (r : List S42) (a b : Int), Ev (fun k => spec_DrawCallAll.f k s) (r, a, b) ∧ r.length ≤ 9 := by
  unfold spec_DrawCallAll.f
  obtain ⟨h0, hn⟩ := new_ok s hs
  obtain ⟨r, p, h, hr, q, hl⟩ := any28_ok s hs 0 h0 (by omega)
  obtain ⟨a, p1, h1, e1, q1, _⟩ := int_ok s hs p h q [0, 10, 30, 100000, 100001, -1] (by simp)
  obtain ⟨b, p2, h2, e2, q2, _⟩ := int_ok s hs p1 h1 q1 [1, 5, 12, 60, 61, 0] (by simp)
  exact ⟨r, a, b, ev_bind hn (ev_bind hr (ev_bindc e1 (ev_bindc e2 (ev_some rfl)))), hl⟩
theorem drawCallTicket_ok (s : List Int) (hs : s.length ≤ 1048576) : ∃ (r : List S42) (a : Int), Ev (fun k => spec_DrawCallTicket.f k s) (r, a) ∧ r.length ≤ 9 := by
  unfold spec_DrawCallTicket.f spec_DrawNextTicket.f
  obtain ⟨h0, hn⟩ := new_ok s hs
  obtain ⟨r, p, h, hr, q, hl⟩ := any28_ok s hs 0 h0 (by omega)
  obtain ⟨a, p1, h1, e1, q1, _, _⟩ := below_ok s hs p h q 70
  exact ⟨r, _, ev_bind (ev_bind hn (ev_bind hr (ev_bindc e1 (ev_some rfl)))) (ev_some rfl), hl⟩
theorem drawBeforeIn_ok (s : List Int) (hs : s.length ≤ 1048576) : ∃ (r : List S42) (a : Int), Ev (fun k => spec_DrawBeforeIn.f k s) (r, a) ∧ r.length ≤ 9 := by
  unfold spec_DrawBeforeIn.f
  obtain ⟨h0, hn⟩ := new_ok s hs
  obtain ⟨r, p, h, hr, q, hl⟩ := any28_ok s hs 0 h0 (by omega)
  obtain ⟨a, p1, h1, e1, q1, _, _⟩ := below_ok s hs p h q 11
  exact ⟨r, a, ev_bind hn (ev_bind hr (ev_bindc e1 (ev_some rfl))), hl⟩
end Go.Proofs.Ythbmegdbdnmnoaa.PFnCounters
