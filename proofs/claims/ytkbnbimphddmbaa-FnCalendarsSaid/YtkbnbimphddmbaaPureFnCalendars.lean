/- The pure statement of FnCalendars. -/
import Derived.Test.YtkbnbimphddmbaaDrawCalFnCalendars
import Derived.Test.YtkbnbimphddmbaaIsOpnFnCalendars
import Derived.Test.YtkbnbimphddmbaaLastFnCalendars
import Derived.Test.YtkbnbimphddmbaaAddFnCalendars
import Derived.Test.YtkbnbimphddmbaaBetwFnCalendars
namespace Go.Proofs.Ytkbnbimphddmbaa.Pure
open Go.RowKit Go.Proofs.Ytkbnbimphddmbaa.PFnCalendars Go.Proofs.YtkbnbimphddmbaaW.PrintWords Go.Proofs.YtkbnbimphddmbaaW.PrintLast Go.Proofs.Ytkbnbimphddmbaa.EvLib
theorem drawIsOpen_ok (s : List Int) (hs : s.length ≤ 1048576) : ∃ o d, Ev (fun k => spec_DrawIsOpen.f k s) (o, d) ∧ o.length ≤ 7 := by
  unfold spec_DrawIsOpen.f
  obtain ⟨h, e0⟩ := new_ok s hs
  obtain ⟨o, p1, h1, e1, g1, ho⟩ := draw26_ok s hs 0 h (by omega)
  obtain ⟨x2, p2, h2, e2, g2, _⟩ := below_ok s hs p1 h1 g1 30
  obtain ⟨x3, p3, h3, e3, g3, _⟩ := below_ok s hs p2 h2 g2 30
  obtain ⟨x4, p4, h4, e4, g4, _⟩ := int_ok s hs p3 h3 g3 ([x2, x3, 0, 100000, 100001, (-1)] : List Int) (by simp)
  exact ⟨o, x4, ev_bind e0 (ev_bind e1 (ev_bindc e2 (ev_bindc e3 (ev_bindc e4 (ev_some rfl))))), ho⟩
theorem drawAdd_ok (s : List Int) (hs : s.length ≤ 1048576) : ∃ o d n, Ev (fun k => spec_DrawAddOpenDays.f k s) (o, d, n) ∧ o.length ≤ 7 := by
  unfold spec_DrawAddOpenDays.f
  obtain ⟨o, d, e1, ho⟩ := drawIsOpen_ok s hs
  obtain ⟨h, e0⟩ := new_ok s hs
  obtain ⟨x4, p4, h4, e4, _⟩ := int_ok s hs 0 h (by omega) ([0, 1, 2, 5, 30, 1000, 1001, (-1)] : List Int) (by simp)
  exact ⟨o, d, x4, ev_bind e1 (ev_bind e0 (ev_bindc e4 (ev_some rfl))), ho⟩
theorem drawNext_ok (s : List Int) (hs : s.length ≤ 1048576) : ∃ o d, Ev (fun k => spec_DrawNextOpen.f k s) (o, d) ∧ o.length ≤ 7 := by
  unfold spec_DrawNextOpen.f
  obtain ⟨o, d, e1, ho⟩ := drawIsOpen_ok s hs
  exact ⟨o, d, ev_bind e1 (ev_some rfl), ho⟩
theorem drawLast_ok (s : List Int) (hs : s.length ≤ 1048576) : ∃ o a b c d e f g i, Ev (fun k => spec_DrawLastDay.f k s) (o, a, b, c, d, e, f, g, i) ∧ o.length ≤ 7 := by
  unfold spec_DrawLastDay.f
  obtain ⟨h, e0⟩ := new_ok s hs
  obtain ⟨o, p1, h1, e1, g1, ho⟩ := draw26_ok s hs 0 h (by omega)
  obtain ⟨a, b, c, d, e, f, g, i, p2, h2, e2, _⟩ := one6_ok s hs p1 h1 g1
  exact ⟨o, a, b, c, d, e, f, g, i, ev_bind e0 (ev_bind e1 (ev_bind e2 (ev_some rfl))), ho⟩
/-- The last part: the last day of a find. -/
theorem part4 (s : List Int) (hs : s.length ≤ 1048576) (x7 : List Bool) (x9 x10 : Int) : Ev (fun k => laws_FnCalendars.j4 k s x7 x9 x10 false) true := by
  refine ev_step (fun k => by simp only [laws_FnCalendars.j4]; rfl) (ev_iten (by simp) ?_)
  obtain ⟨o, a0, a1, a2, a3, a4, a5, a6, a7, e1, ho⟩ := drawLast_ok s hs
  have hl : o.length ≤ 1048576 := by omega
  obtain ⟨r, h1, h2⟩ := implLastDay_ev o hl a0 a1 a2 a3 a4 a5 a6 a7
  refine ev_bind e1 (ev_bind h2 (ev_ite (fun _ => ev_some rfl) (fun hr => ev_bind (implIsOpen_ev o hl r) ?_)))
  unfold LastIs at h1
  by_cases hf : isFind a0 a1 a2 a3 a4 a5 a6 a7 = true
  · rw [if_pos hf] at h1
    have hd := dueHour_le hf
    unfold NextIs at h1
    by_cases hc : isCal o = true ∧ 0 ≤ dueHour a0 a1 a2 a3 a4 a5 a6 a7 / 24 ∧ dueHour a0 a1 a2 a3 a4 a5 a6 a7 / 24 ≤ 100000
    · rw [if_pos hc] at h1
      obtain ⟨i, j, g1, rfl, g3, g4, g5, _⟩ := h1
      refine ev_itep (by rw [isOpen_nat hc.1 (by omega)]; exact g5) (ev_bind (implDueHour_ev a0 a1 a2 a3 a4 a5 a6 a7) (ev_some ?_))
      rw [wrap_id (by omega) (by omega), wrap_id (by omega) (by omega)]
      exact decide_eq_true (by omega)
    · rw [if_neg hc] at h1
      exact absurd h1 hr
  · rw [if_neg hf] at h1
    exact absurd h1 hr
theorem part3 (s : List Int) (hs : s.length ≤ 1048576) (a : List Bool) (ha : a.length ≤ 1048576) (d x : Int) (h : NextIs a d x) : Ev (fun k => laws_FnCalendars.l0 k s a x d) true := by
  by_cases hx : x ≥ 0
  · unfold NextIs at h
    by_cases hc : isCal a = true ∧ 0 ≤ d ∧ d ≤ 100000
    · rw [if_pos hc] at h
      obtain ⟨i, j, rfl, rfl, g3, g4, g5, g6⟩ := h
      have key : ∀ m q : Nat, q + m = j → i ≤ q → Ev (fun k => laws_FnCalendars.l0 k s a (j : Int) (q : Int)) true := by
        intro m
        induction m with
        | zero =>
          intro q hq _
          refine ev_step (fun k => by simp only [laws_FnCalendars.l0]; rfl) (ev_itep hx ?_)
          rw [decide_eq_false (by omega)]
          exact part4 s hs a _ _
        | succ m ih =>
          intro q hq hiq
          refine ev_step (fun k => by simp only [laws_FnCalendars.l0]; rfl) (ev_itep hx ?_)
          rw [decide_eq_true (by omega)]
          refine ev_step (fun k => by simp only [laws_FnCalendars.j4]; rfl) (ev_itep (by first | rfl | trivial) (ev_bind (implIsOpen_ev a ha _) (ev_iten ?_ ?_)))
          · by_cases hq2 : q ≤ 100000
            · rw [isOpen_nat hc.1 hq2, g6 q hiq (by omega)]
              simp
            · unfold isOpen
              rw [decide_eq_false (by omega)]
              simp
          · rw [wrap_id (by omega) (by omega)]
            exact ih (q + 1) (by omega) (by omega)
      exact key (j - i) i (by omega) (Nat.le_refl _)
    · rw [if_neg hc] at h
      omega
  · refine ev_step (fun k => by simp only [laws_FnCalendars.l0]; rfl) (ev_iten hx ?_)
    exact part4 s hs a _ _
theorem part2 (s : List Int) (hs : s.length ≤ 1048576) : Ev (fun k => laws_FnCalendars.j1 k s false) true := by
  obtain ⟨a, d, e1, ha0⟩ := drawNext_ok s hs
  have ha : a.length ≤ 1048576 := by omega
  obtain ⟨x, h1, h2⟩ := implNextOpen_ev a ha d
  have fin : Ev (fun k => laws_FnCalendars.j2 k s a d x false) true := ev_step (fun k => by simp only [laws_FnCalendars.j2]; rfl) (ev_iten (by simp) (part3 s hs a ha d x h1))
  refine ev_step (fun k => by simp only [laws_FnCalendars.j1]; rfl) (ev_iten (by simp) (ev_bind e1 (ev_bind h2 (ev_bind (implIsCalendar_ev a ha) ?_))))
  unfold NextIs at h1
  by_cases hc : isCal a = true ∧ 0 ≤ d ∧ d ≤ 100000
  · rw [if_pos hc] at h1
    obtain ⟨i, j, rfl, rfl, g3, g4, _⟩ := h1
    refine ev_itep hc.1 (ev_itep hc.2.1 (ev_iten ?_ (ev_itep (show (j : Int) ≥ 0 by omega) (ev_iten (show ¬ (j : Int) < i by omega) ?_))))
    · show ¬ ((decide ((j : Int) ≥ 0)) != (decide ((i : Int) ≤ 100000))) = true
      rw [decide_eq_true (by omega), decide_eq_true hc.2.2]
      simp
    · show Ev (fun k => laws_FnCalendars.j2 k s a (i : Int) (j : Int) (decide ((j : Int) > wrap64 ((i : Int) + 6)))) true
      rw [wrap_id (by omega) (by omega), decide_eq_false (by omega)]
      exact fin
  · rw [if_neg hc] at h1
    subst h1
    have n0 : ¬ ((-1 : Int) ≥ 0) := by omega
    refine ev_ite (fun c1 => ev_ite (fun c2 => ev_iten ?_ (ev_iten n0 fin)) (fun c2 => ev_iten ?_ (ev_iten n0 fin))) (fun c1 => ev_iten ?_ (ev_iten n0 fin))
    · have c2' : d ≥ 0 := c2
      show ¬ ((decide ((-1 : Int) ≥ 0)) != (decide (d ≤ 100000))) = true
      rw [decide_eq_false n0, decide_eq_false (fun c => hc ⟨c1, c2', c⟩)]
      simp
    · simp
    · simp
theorem part1 (s : List Int) (hs : s.length ≤ 1048576) (o : List Bool) (ho : o.length ≤ 1048576) (d n x : Int) (h : AddIs o d n x) : Ev (fun k => laws_FnCalendars.j0 k s o d n x false) true := by
  refine ev_step (fun k => by simp only [laws_FnCalendars.j0]; rfl) (ev_iten (by simp) (ev_ite (fun h0 => ev_ite (fun h1 => ev_bind (implBetween_ev o ho _ _) (ev_ite (fun _ => part2 s hs) (fun hn => ?_))) (fun _ => part2 s hs)) (fun _ => part2 s hs)))
  unfold AddIs at h
  by_cases hc : isCal o = true ∧ (0 ≤ d ∧ d ≤ 100000) ∧ 0 ≤ n ∧ n ≤ 1000
  · rw [if_pos hc] at h
    by_cases hp : 0 < n
    · exfalso
      obtain ⟨i, j, rfl, rfl, g1, g2, g3⟩ := h.2 hp
      apply hn
      unfold betw
      rw [wrap_id (by omega) (by omega), if_pos ⟨hc.1, by omega, h1⟩, ← g3]
      congr 2 <;> omega
    · rw [decide_eq_false (by omega)]
      exact part2 s hs
  · rw [if_neg hc] at h
    omega
theorem FnCalendars : laws_FnCalendars.Pure := by
  intro s _
  refine Ev.rounds ?_
  unfold laws_FnCalendars.f laws_big.f
  refine ev_bindc rfl (ev_ite (fun _ => ev_some rfl) (fun hb => ?_))
  have hs : s.length ≤ 1048576 := by simp at hb; omega
  obtain ⟨o, d, n, e1, ho0⟩ := drawAdd_ok s hs
  have ho : o.length ≤ 1048576 := by omega
  obtain ⟨x, h1, h2⟩ := implAdd_ev o ho d n
  have fin := part1 s hs o ho d n x h1
  refine ev_bind e1 (ev_bind h2 (ev_ite (fun h0 => ?_) (fun _ => fin)))
  have h0' : x ≥ 0 := h0
  unfold AddIs at h1
  by_cases hc : isCal o = true ∧ (0 ≤ d ∧ d ≤ 100000) ∧ 0 ≤ n ∧ n ≤ 1000
  · rw [if_pos hc] at h1
    obtain ⟨i, j, e, rfl, g1, g2⟩ : ∃ i j : Nat, d = i ∧ x = j ∧ i ≤ j ∧ opn o j = true := by
      by_cases hn : n = 0
      · have := h1.1 hn
        unfold NextIs at this
        rw [if_pos ⟨hc.1, hc.2.1⟩] at this
        obtain ⟨i, j, e1, e2, g1, _, g3, _⟩ := this
        exact ⟨i, j, e1, e2, g1, g3⟩
      · obtain ⟨i, j, e1, e2, g1, g2, _⟩ := h1.2 (by omega)
        exact ⟨i, j, e1, e2, by omega, g2⟩
    subst e
    refine ev_iten (show ¬ (j : Int) < i by omega) (ev_ite (fun hj => ev_bind (implIsOpen_ev o ho _) ?_) (fun _ => fin))
    have hj' : (j : Int) ≤ 100000 := hj
    rw [isOpen_nat hc.1 (by omega), g2]
    exact fin
  · rw [if_neg hc] at h1
    omega
end Go.Proofs.Ytkbnbimphddmbaa.Pure
