/- The draws of calendars and of finds. -/
import Derived.Test.YtkbnbimphddmbaaDrawFnCalendars
namespace Go.Proofs.Ytkbnbimphddmbaa.PFnCalendars
open Go.RowKit Go.Proofs.YtkbnbimphddmbaaW.PrintWords Go.Proofs.YtkbnbimphddmbaaW.PrintLast Go.Proofs.Ytkbnbimphddmbaa.EvLib
theorem draw26_ok (s : List Int) (hs : s.length ≤ 1048576) (p h : Int) (hp : 0 ≤ p) : ∃ o p' h', Ev (fun k => spec_l26Draw.f k s p h) (o, p', h') ∧ 0 ≤ p' ∧ o.length ≤ 7 := by
  unfold spec_l26Draw.f
  have key : ∀ (d i : Nat) (o : List Bool) (p h : Int), i + d = 7 → o.length = i → 0 ≤ p → ∃ r p' h', Ev (fun k => spec_l26Draw.l0 k o (i : Int) s p h) (r, p', h') ∧ 0 ≤ p' ∧ r.length ≤ 7 := by
    intro d
    induction d with
    | zero =>
      intro i o p h hi ho hp
      obtain ⟨x, p', h', e, h1, _⟩ := below_ok s hs p h hp 9
      have fin : ∃ r, (fun bt167 : Int × Int × Int => (if bt167.1 = 0 then (if 6 ≤ (o.length : Int) then (some ((o.take (6 : Int).toNat), bt167.2.1, bt167.2.2)) else (none)) else (if bt167.1 = 1 then (some ((([false, false, false, false, false, false, false] : List Bool)), bt167.2.1, bt167.2.2)) else (if bt167.1 = 2 then (some ((([false, false, false, true, false, false, false] : List Bool)), bt167.2.1, bt167.2.2)) else (some (o, bt167.2.1, bt167.2.2)))))) (x, p', h') = some (r, p', h') ∧ r.length ≤ 7 := by
        simp only
        split
        · rw [if_pos (by omega)]
          exact ⟨_, rfl, by rw [List.length_take]; omega⟩
        · split
          · exact ⟨_, rfl, by decide⟩
          · split
            · exact ⟨_, rfl, by decide⟩
            · exact ⟨_, rfl, by omega⟩
      obtain ⟨r, e2, hr⟩ := fin
      exact ⟨r, p', h', ev_step (fun k => by simp only [spec_l26Draw.l0]; rfl) (ev_iten (by omega) (ev_bindc e (ev_const e2))), h1, hr⟩
    | succ d ih =>
      intro i o p h hi ho hp
      obtain ⟨b, p', h', e, h1⟩ := once_ok s hs p h hp 3
      obtain ⟨r, p2, h2, e2, g1, g2⟩ := ih (i + 1) (o ++ [!b]) p' h' (by omega) (by simp; omega) h1
      refine ⟨r, p2, h2, ev_step (fun k => by simp only [spec_l26Draw.l0]; rfl) (ev_itep (by omega) (ev_bindc e (ev_itep (show o.length < 140737488355328 by omega) ?_))), g1, g2⟩
      simp only
      rw [wrap_id (by omega) (by omega)]
      exact e2
  exact key 7 0 [] p h rfl rfl hp
theorem draw4_ok (s : List Int) (hs : s.length ≤ 1048576) (p h : Int) (hp : 0 ≤ p) (id : Int) : ∃ a b c d e p' h', spec_l4Draw.f s p h id = some (a, b, c, d, e, p', h') ∧ 0 ≤ p' := by
  unfold spec_l4Draw.f
  obtain ⟨x1, p1, h1, e1, g1, _⟩ := below_ok s hs p h hp 8
  obtain ⟨x2, p2, h2, e2, g2, _⟩ := below_ok s hs p1 h1 g1 8
  obtain ⟨x3, p3, h3, e3, g3, _⟩ := below_ok s hs p2 h2 g2 20
  obtain ⟨x4, p4, h4, e4, g4, _⟩ := below_ok s hs p3 h3 g3 500
  simp only [e1, e2, e3, e4, Option.bind_some]
  exact ⟨_, _, _, _, _, _, _, rfl, g4⟩
theorem draw6_ok (s : List Int) (hs : s.length ≤ 1048576) (p h : Int) (hp : 0 ≤ p) (id : Int) : ∃ a b c d e f g i p' h', spec_l6Draw.f s p h id = some (a, b, c, d, e, f, g, i, p', h') ∧ 0 ≤ p' := by
  unfold spec_l6Draw.f
  obtain ⟨a, b, c, d, e, p1, h1, e1, g1⟩ := draw4_ok s hs p h hp id
  obtain ⟨x2, p2, h2, e2, g2, _⟩ := below_ok s hs p1 h1 g1 6
  obtain ⟨x3, p3, h3, e3, g3, _⟩ := below_ok s hs p2 h2 g2 80
  obtain ⟨x4, p4, h4, e4, g4, _⟩ := below_ok s hs p3 h3 g3 5
  simp only [e1, e2, e3, e4, Option.bind_some]
  exact ⟨_, _, _, _, _, _, _, _, _, _, rfl, g4⟩
theorem list6_ok (s : List Int) (hs : s.length ≤ 1048576) (p h : Int) (hp : 0 ≤ p) : ∃ l p' h', Ev (fun k => spec_l6List.f k s p h) (l, p', h') ∧ 0 ≤ p' ∧ l.length ≤ 8 := by
  unfold spec_l6List.f
  have key : ∀ (d i : Nat) (l : List S37) (p h : Int), i + d = 8 → l.length + 1 = i → 0 ≤ p → ∃ r p' h', Ev (fun k => spec_l6List.l0 k l (i : Int) s p h) (r, p', h') ∧ 0 ≤ p' ∧ r.length ≤ 8 := by
    intro d
    induction d with
    | zero =>
      intro i l p h hi hl hp
      obtain ⟨x, p', h', e, h1, _, h3⟩ := below_ok s hs p h hp 8
      have := h3 (by omega)
      exact ⟨l, p', h', ev_step (fun k => by simp only [spec_l6List.l0]; rfl) (ev_bindc e (ev_iten (show ¬ (i : Int) ≤ x by omega) (ev_some rfl))), h1, by omega⟩
    | succ d ih =>
      intro i l p h hi hl hp
      obtain ⟨x, p', h', e, h1, _, h3⟩ := below_ok s hs p h hp 8
      by_cases c : (i : Int) ≤ x
      · obtain ⟨a1, a2, a3, a4, a5, a6, a7, a8, p2, h2, e2, g2⟩ := draw6_ok s hs p' h' h1 (wrap64 (2 * (i : Int)))
        obtain ⟨r, p3, h3', e3, g3, g4⟩ := ih (i + 1) (l ++ [(⟨(⟨a1, a2, a3, a4, a5⟩ : S35), a6, a7, a8⟩ : S37)]) p2 h2 (by omega) (by simp; omega) g2
        refine ⟨r, p3, h3', ev_step (fun k => by simp only [spec_l6List.l0]; rfl) (ev_bindc e (ev_itep c (ev_bindc e2 (ev_itep (show l.length < 2199023255552 by omega) ?_)))), g3, g4⟩
        simp only
        rw [wrap_id (x := (i : Int) + 1) (by omega) (by omega)]
        exact e3
      · exact ⟨l, p', h', ev_step (fun k => by simp only [spec_l6List.l0]; rfl) (ev_bindc e (ev_iten c (ev_some rfl))), h1, by omega⟩
  exact key 7 1 [] p h rfl rfl hp
theorem raw4_ok (s : List Int) (hs : s.length ≤ 1048576) (p h : Int) (hp : 0 ≤ p) : ∃ x p' h', spec_l4Raw.f s p h = some (x, p', h') ∧ 0 ≤ p' := by
  unfold spec_l4Raw.f
  obtain ⟨x, p', h', e, g, _⟩ := int_ok s hs p h hp ([(-1), 0, 8, 50, 51, 1000, 9223372036854775807, (-9223372036854775808)] : List Int) (by decide)
  rw [e, Option.bind_some]
  exact ⟨_, _, _, rfl, g⟩
theorem any4_ok (s : List Int) (hs : s.length ≤ 1048576) (p h : Int) (hp : 0 ≤ p) : ∃ a b c d e p' h', spec_l4Any.f s p h = some (a, b, c, d, e, p', h') ∧ 0 ≤ p' := by
  unfold spec_l4Any.f
  obtain ⟨x1, p1, h1, e1, g1, _⟩ := below_ok s hs p h hp 40
  obtain ⟨a, b, c, d, e, p2, h2, e2, g2⟩ := draw4_ok s hs p1 h1 g1 (wrap64 (1 + x1))
  obtain ⟨x3, p3, h3, e3, g3, _⟩ := below_ok s hs p2 h2 g2 14
  simp only [e1, e2, e3, Option.bind_some]
  split
  · obtain ⟨x, p', h', e, g, _⟩ := int_ok s hs p3 h3 g3 ([0, 999, 1000] : List Int) (by decide)
    rw [e, Option.bind_some]
    exact ⟨_, _, _, _, _, _, _, rfl, g⟩
  · split
    · obtain ⟨x, p', h', e, g, _⟩ := int_ok s hs p3 h3 g3 ([0, 8, 9] : List Int) (by decide)
      rw [e, Option.bind_some]
      exact ⟨_, _, _, _, _, _, _, rfl, g⟩
    · split
      · obtain ⟨x, p', h', e, g, _⟩ := int_ok s hs p3 h3 g3 ([(-1), 7, 8] : List Int) (by decide)
        rw [e, Option.bind_some]
        exact ⟨_, _, _, _, _, _, _, rfl, g⟩
      · split
        · obtain ⟨x, p', h', e, g⟩ := raw4_ok s hs p3 h3 g3
          rw [e, Option.bind_some]
          exact ⟨_, _, _, _, _, _, _, rfl, g⟩
        · split
          · obtain ⟨x, p', h', e, g, _⟩ := int_ok s hs p3 h3 g3 ([(-1), 10000000, 10000001] : List Int) (by decide)
            rw [e, Option.bind_some]
            exact ⟨_, _, _, _, _, _, _, rfl, g⟩
          · exact ⟨_, _, _, _, _, _, _, rfl, g3⟩
theorem any6_ok (s : List Int) (hs : s.length ≤ 1048576) (p h : Int) (hp : 0 ≤ p) : ∃ l p' h', Ev (fun k => spec_l6Any.f k s p h) (l, p', h') ∧ 0 ≤ p' ∧ l.length ≤ 8 := by
  unfold spec_l6Any.f
  obtain ⟨l, p1, h1, e1, g1, hl⟩ := list6_ok s hs p h hp
  by_cases c : (l.length : Int) = 0
  · exact ⟨l, p1, h1, ev_bind e1 (ev_itep c (ev_some rfl)), g1, hl⟩
  · obtain ⟨i, p2, h2, e2, g2, i0, i1⟩ := below_ok s hs p1 h1 g1 l.length
    have i2 := i1 (by omega)
    obtain ⟨y, p3, h3, e3, g3, _⟩ := below_ok s hs p2 h2 g2 12
    by_cases y0 : y = 0
    · obtain ⟨a, b, c', d, e, p4, h4, e4, g4⟩ := any4_ok s hs p3 h3 g3
      exact ⟨_, _, _, ev_bind e1 (ev_iten c (ev_bindc e2 (ev_bindc e3 (ev_itep y0 (ev_bindc e4 (ev_itep i0 (ev_itep i2 (ev_some rfl)))))))), g4, by rw [List.length_set]; exact hl⟩
    · by_cases y1 : y = 1
      · obtain ⟨x, p4, h4, e4, g4, _⟩ := int_ok s hs p3 h3 g3 ([0, 30, 31] : List Int) (by decide)
        exact ⟨_, _, _, ev_bind e1 (ev_iten c (ev_bindc e2 (ev_bindc e3 (ev_iten y0 (ev_itep y1 (ev_bindc e4 (ev_itep i0 (ev_itep i2 (ev_some rfl))))))))), g4, by rw [List.length_set]; exact hl⟩
      · by_cases y2 : y = 2
        · obtain ⟨x, p4, h4, e4, g4⟩ := raw4_ok s hs p3 h3 g3
          exact ⟨_, _, _, ev_bind e1 (ev_iten c (ev_bindc e2 (ev_bindc e3 (ev_iten y0 (ev_iten y1 (ev_itep y2 (ev_bindc e4 (ev_itep i0 (ev_itep i2 (ev_some rfl)))))))))), g4, by rw [List.length_set]; exact hl⟩
        · by_cases y3 : y = 3
          · obtain ⟨x, p4, h4, e4, g4, _⟩ := int_ok s hs p3 h3 g3 ([(-1), 999, 1000] : List Int) (by decide)
            exact ⟨_, _, _, ev_bind e1 (ev_iten c (ev_bindc e2 (ev_bindc e3 (ev_iten y0 (ev_iten y1 (ev_iten y2 (ev_itep y3 (ev_bindc e4 (ev_itep i0 (ev_itep i2 (ev_some rfl))))))))))), g4, by rw [List.length_set]; exact hl⟩
          · exact ⟨_, _, _, ev_bind e1 (ev_iten c (ev_bindc e2 (ev_bindc e3 (ev_iten y0 (ev_iten y1 (ev_iten y2 (ev_iten y3 (ev_some rfl)))))))), g3, hl⟩
theorem one6_ok (s : List Int) (hs : s.length ≤ 1048576) (p h : Int) (hp : 0 ≤ p) : ∃ a b c d e f g i p' h', Ev (fun k => spec_l6One.f k s p h) (a, b, c, d, e, f, g, i, p', h') ∧ 0 ≤ p' := by
  unfold spec_l6One.f
  obtain ⟨l, p1, h1, e1, g1, hl⟩ := any6_ok s hs p h hp
  by_cases c : (l.length : Int) = 0
  · exact ⟨_, _, _, _, _, _, _, _, _, _, ev_bind e1 (ev_itep c (ev_some rfl)), g1⟩
  · exact ⟨_, _, _, _, _, _, _, _, _, _, ev_bind e1 (ev_iten c (ev_itep (show 0 < (l.length : Int) by omega) (ev_some rfl))), g1⟩
end Go.Proofs.Ytkbnbimphddmbaa.PFnCalendars
