/- Draws of entries and shares; sums over accounts. -/
import Derived.Test.YtgejkcomoealgaaDrawNFnBooks
import Derived.Test.YtgejkcomoealgaaPayIFnBooks
import Derived.Test.YtgejkcomoealgaaBalIFnBooks
import Derived.Test.YtgejkcomoealgaaAccIFnBooks
namespace Go.Proofs.Ytgejkcomoealgaa.PFnBooks
open Go.RowKit Go.Proofs.YtgejkcomoealgaaW.PrintWords Go.Proofs.YtgejkcomoealgaaW.PrintLast Go.Proofs.Ytgejkcomoealgaa.EvLib
theorem addE_len1 (l : List IEntry) (e : IEntry) : (addE l e).1.length ≤ l.length + 1 := by
  unfold addE
  split <;> simp
theorem any29_end (s : List Int) (hs : s.length ≤ 1048576) (l : List IEntry) (t i p h : Int) (hi : ¬ i > 0) (hl : l.length ≤ 7) (hp : 0 ≤ p) :
    ∃ (r : List IEntry) (p' h' : Int), Ev (fun k => spec_l29Any.l0 k l t i s p h) (r, p', h') ∧ 0 ≤ p' ∧ r.length ≤ 7 := by
  by_cases c : (l.length : Int) > 0
  · obtain ⟨a, p2, h2, e2, q2, a0, a1⟩ := below_ok s hs p h hp l.length
    have a1 := a1 (by omega)
    obtain ⟨b, p3, h3, e3, q3, _, _⟩ := below_ok s hs p2 h2 q2 12
    by_cases c0 : b = 0
    · obtain ⟨v, p4, h4, e4, q4, _⟩ := int_ok s hs p3 h3 q3 [-1, 999, 1000] (by simp)
      have hm := (ev_step (fun k => by simp only [spec_l29Any.l0]; rfl) (ev_iten hi (ev_itep c (ev_bindc e2 (ev_bindc e3 (ev_itep c0 (ev_bindc e4 (ev_itep a0 (ev_itep a1 (ev_some rfl))))))))) : Ev (fun k => spec_l29Any.l0 k l t i s p h) _)
      exact ⟨_, p4, h4, hm, q4, by simp; omega⟩
    · by_cases c1 : b = 1
      · obtain ⟨v, p4, h4, e4, q4, _⟩ := int_ok s hs p3 h3 q3 [0, 10000000, 10000001] (by simp)
        have hm := (ev_step (fun k => by simp only [spec_l29Any.l0]; rfl) (ev_iten hi (ev_itep c (ev_bindc e2 (ev_bindc e3 (ev_iten c0 (ev_itep c1 (ev_bindc e4 (ev_itep a0 (ev_itep a1 (ev_some rfl)))))))))) : Ev (fun k => spec_l29Any.l0 k l t i s p h) _)
        exact ⟨_, p4, h4, hm, q4, by simp; omega⟩
      · by_cases c2 : b = 2
        · obtain ⟨v, p4, h4, e4, q4, _⟩ := int_ok s hs p3 h3 q3 [(-1), 0, 8, 50, 51, 1000, 9223372036854775807, (-9223372036854775808)] (by simp)
          have e5 : spec_l4Raw.f s p3 h3 = some (v, p4, h4) := by
            unfold spec_l4Raw.f
            rw [e4]; rfl
          have hm := (ev_step (fun k => by simp only [spec_l29Any.l0]; rfl) (ev_iten hi (ev_itep c (ev_bindc e2 (ev_bindc e3 (ev_iten c0 (ev_iten c1 (ev_itep c2 (ev_bindc e5 (ev_itep a0 (ev_itep a1 (ev_some rfl))))))))))) : Ev (fun k => spec_l29Any.l0 k l t i s p h) _)
          exact ⟨_, p4, h4, hm, q4, by simp; omega⟩
        · have hm := (ev_step (fun k => by simp only [spec_l29Any.l0]; rfl) (ev_iten hi (ev_itep c (ev_bindc e2 (ev_bindc e3 (ev_iten c0 (ev_iten c1 (ev_iten c2 (ev_some rfl)))))))) : Ev (fun k => spec_l29Any.l0 k l t i s p h) _)
          exact ⟨_, p3, h3, hm, q3, hl⟩
  · have hm := (ev_step (fun k => by simp only [spec_l29Any.l0]; rfl) (ev_iten hi (ev_iten c (ev_some rfl))) : Ev (fun k => spec_l29Any.l0 k l t i s p h) _)
    exact ⟨_, p, h, hm, hp, hl⟩
theorem any29_l0 (s : List Int) (hs : s.length ≤ 1048576) : ∀ (d : Nat) (l : List IEntry) (t p h : Int), l.length + d ≤ 7 → 0 ≤ p →
    ∃ (r : List IEntry) (p' h' : Int), Ev (fun k => spec_l29Any.l0 k l t (d : Int) s p h) (r, p', h') ∧ 0 ≤ p' ∧ r.length ≤ 7 := by
  intro d
  induction d with
  | zero => exact fun l t p h hl hp => any29_end s hs l t _ p h (by omega) (by omega) hp
  | succ d ih =>
    intro l t p h hl hp
    obtain ⟨a, p1, h1, e1, q1, _, _⟩ := below_ok s hs p h hp 4
    obtain ⟨b, p2, h2, e2, q2, _, _⟩ := below_ok s hs p1 h1 q1 4
    obtain ⟨c, p3, h3, e3, q3, _, _⟩ := below_ok s hs p2 h2 q2 500
    obtain ⟨u, p4, h4, e4, q4, _, _⟩ := below_ok s hs p3 h3 q3 9
    have hw : wrap64 (((d + 1 : Nat) : Int) - 1) = (d : Int) := by rw [wrap_id (by omega) (by omega)]; omega
    have hal := addE_len1 l ⟨a, b, wrap64 (1 + c), t⟩
    obtain ⟨r, p', h', hr, g1, g2⟩ := ih (addE l ⟨a, b, wrap64 (1 + c), t⟩).1 (wrap64 (t + u)) p4 h4 (by omega) q4
    rw [← hw] at hr
    refine ⟨r, p', h', ?_, g1, g2⟩
    exact ev_step (fun k => by simp only [spec_l29Any.l0]; rfl) (ev_itep (by omega) (ev_bindc e1 (ev_bindc e2 (ev_bindc e3 (ev_bind (specAddEntry_ev l (by omega) _ _ _ _) (ev_bindc e4 hr))))))
theorem any29_ok (s : List Int) (hs : s.length ≤ 1048576) (p h : Int) (hp : 0 ≤ p) : ∃ (r : List IEntry) (p' h' : Int), Ev (fun k => spec_l29Any.f k s p h) (r, p', h') ∧ 0 ≤ p' ∧ r.length ≤ 7 := by
  unfold spec_l29Any.f
  obtain ⟨a, p1, h1, e1, q1, a0, a1⟩ := below_ok s hs p h hp 8
  have a1 := a1 (by omega)
  obtain ⟨d, rfl⟩ : ∃ d : Nat, a = d := ⟨a.toNat, by omega⟩
  obtain ⟨r, p', h', hr, g1, g2⟩ := any29_l0 s hs d [] 0 p1 h1 (by simp; omega) q1
  exact ⟨r, p', h', ev_bindc e1 hr, g1, g2⟩
theorem rd19_0 : rd [1, 9] 0 = 1 := rfl
theorem rd19_1 : rd [1, 9] 1 = 9 := rfl
theorem split_ok (a : Int) (h0 : 0 ≤ a) (h1 : a ≤ 899) : ∃ r, Ev (fun k => spec_SplitMoney.f k a [1, 9]) r ∧ r.length = 2 := by
  have t1 : Int.tdiv (wrap64 (a * 1)) 10 = a / 10 := by rw [wrap_id (by omega) (by omega), Int.tdiv_eq_ediv_of_nonneg (by omega)]; omega
  have t2 : Int.tdiv (wrap64 (a * 9)) 10 = (a * 9) / 10 := by rw [wrap_id (by omega) (by omega), Int.tdiv_eq_ediv_of_nonneg (by omega)]
  have l2 : ∀ (d : Nat) (q : List Int) (i : Int), q.length = 2 → 0 ≤ i → i + d = 2 → ∀ x : Int, x ≤ 2 → ∃ r, Ev (fun k => spec_SplitMoney.l2 k q x i) r ∧ r.length = 2 := by
    intro d
    induction d with
    | zero =>
      intro q i hq hi hd x hx
      exact ⟨q, ev_step (fun k => by simp only [spec_SplitMoney.l2]; rfl) (ev_iten (by omega) (ev_some rfl)), hq⟩
    | succ d ih =>
      intro q i hq hi hd x hx
      by_cases c : i < x
      · obtain ⟨r, hr, hl⟩ := ih (q.set i.toNat (wrap64 ((rd q i) + 1))) (i + 1) (by simp [hq]) (by omega) (by omega) x hx
        refine ⟨r, ev_step (fun k => by simp only [spec_SplitMoney.l2]; rfl) (ev_itep c (ev_itep hi (ev_itep (by omega) ?_))), hl⟩
        rw [wrap_id (x := i + 1) (by omega) (by omega)]
        exact hr
      · exact ⟨q, ev_step (fun k => by simp only [spec_SplitMoney.l2]; rfl) (ev_iten c (ev_some rfl)), hq⟩
  obtain ⟨r, hr, hl⟩ := l2 2 [a / 10, (a * 9) / 10] 0 rfl (by omega) (by omega) (a - a / 10 - (a * 9) / 10) (by omega)
  refine ⟨r, ?_, hl⟩
  unfold spec_SplitMoney.f
  refine ev_step (fun k => by simp only [spec_SplitMoney.l0]; rfl) (ev_itep (by decide) (ev_itep (by decide) (ev_bindc (show spec_l1In.f (rd [1, 9] 0) 0 1000 = some true by decide) (ev_itep rfl ?_))))
  rw [rd19_0, show wrap64 (0 + 1) = 1 by decide +kernel]
  refine ev_step (fun k => by simp only [spec_SplitMoney.l0]; rfl) (ev_itep (by decide) (ev_itep (by decide) (ev_bindc (show spec_l1In.f (rd [1, 9] 1) 0 1000 = some true by decide) (ev_itep rfl ?_))))
  rw [rd19_1, show wrap64 (1 + 9) = 10 by decide +kernel, show wrap64 (1 + 1) = 2 by decide +kernel]
  have hin : spec_l1In.f a 0 10000000 = some true := by unfold spec_l1In.f; rw [if_pos (by omega), decide_eq_true (by omega)]
  refine ev_step (fun k => by simp only [spec_SplitMoney.l0]; rfl) (ev_iten (by decide) (ev_bindc hin (ev_itep rfl (ev_bindc (show spec_l1In.f (([1, 9] : List Int).length : Int) 1 20 = some true by decide) (ev_itep rfl ?_)))))
  rw [show ((10 : Int) == 0) = false by decide]
  refine ev_step (fun k => by simp only [spec_SplitMoney.j1]; rfl) (ev_iten (by simp) ?_)
  refine ev_step (fun k => by simp only [spec_SplitMoney.l1]; rfl) (ev_itep (by decide) (ev_itep (by decide) (ev_iten (by decide) (ev_itep (by decide) (ev_bindc rfl (ev_itep (by simp) ?_))))))
  rw [rd19_0, t1, wrap_id (x := a / 10) (by omega) (by omega), show rd ([] ++ [a / 10]) 0 = a / 10 from rfl, wrap_id (x := a - a / 10) (by omega) (by omega), show wrap64 (0 + 1) = 1 by decide +kernel]
  refine ev_step (fun k => by simp only [spec_SplitMoney.l1]; rfl) (ev_itep (by decide) (ev_itep (by decide) (ev_iten (by decide) (ev_itep (by simp) (ev_bindc rfl (ev_itep (by simp) ?_))))))
  rw [rd19_1, t2, wrap_id (x := a * 9 / 10) (by omega) (by omega), show rd ([] ++ [a / 10] ++ [a * 9 / 10]) 1 = a * 9 / 10 from rfl, wrap_id (x := a - a / 10 - a * 9 / 10) (by omega) (by omega), show wrap64 (1 + 1) = 2 by decide +kernel]
  exact ev_step (fun k => by simp only [spec_SplitMoney.l1]; rfl) (ev_iten (by decide) hr)
theorem sales_ok (a b : Int) (h0 : 0 ≤ a) (h1 : a ≤ 899) : ∃ r, Ev (fun k => spec_SalesOf.f k a b) r ∧ r.length ≤ 2 := by
  unfold spec_SalesOf.f
  have hin : spec_l1In.f a 0 10000000 = some true := by unfold spec_l1In.f; rw [if_pos (by omega), decide_eq_true (by omega)]
  obtain ⟨r, hr, hl⟩ := split_ok a h0 h1
  have hb : ∃ q, spec_l1In.f b 1 999 = some q := by unfold spec_l1In.f; split <;> exact ⟨_, rfl⟩
  obtain ⟨q, hb⟩ := hb
  cases q with
  | true => exact ⟨_, ev_bindc hin (ev_itep rfl (ev_bindc hb (ev_itep rfl (ev_bind hr (ev_itep (by omega) (ev_itep (by omega) (ev_some rfl))))))), by simp⟩
  | false => exact ⟨_, ev_bindc hin (ev_itep rfl (ev_bindc hb (ev_iten (by simp) (ev_some rfl)))), by simp⟩
theorem drawPay_ok (s : List Int) (hs : s.length ≤ 1048576) : ∃ (l : List IEntry) (a : Int) (ss : List IShare) (t : Int), Ev (fun k => spec_DrawPayShares.f k s) (l, a, ss, t) ∧ l.length ≤ 7 ∧ ss.length ≤ 2 := by
  unfold spec_DrawPayShares.f
  obtain ⟨h0, hn⟩ := new_ok s hs
  obtain ⟨l, p, h, hr, q, hl⟩ := any29_ok s hs 0 h0 (by omega)
  obtain ⟨a, p1, h1, e1, q1, _⟩ := int_ok s hs p h q [0, 5, 5, 5, 9] (by simp)
  obtain ⟨b, p2, h2, e2, q2, b0, b1⟩ := below_ok s hs p1 h1 q1 900
  have b1 := b1 (by omega)
  obtain ⟨c, p3, h3, e3, q3, _, _⟩ := below_ok s hs p2 h2 q2 3
  obtain ⟨ss, e4, hss⟩ := sales_ok b c b0 (by omega)
  obtain ⟨t, p5, h5, e5, q5, _⟩ := int_ok s hs p3 h3 q3 [0, 60, 90, 90, 100001] (by simp)
  exact ⟨l, a, ss, t, ev_bind hn (ev_bind hr (ev_bindc e1 (ev_bindc e2 (ev_bindc e3 (ev_bind e4 (ev_bindc e5 (ev_some rfl))))))), hl, hss⟩
theorem drawAdd_ok (s : List Int) (hs : s.length ≤ 1048576) : ∃ (l : List IEntry) (a b c t : Int), Ev (fun k => spec_DrawAddEntry.f k s) (l, a, b, c, t) ∧ l.length ≤ 7 := by
  unfold spec_DrawAddEntry.f
  obtain ⟨h0, hn⟩ := new_ok s hs
  obtain ⟨l, p, h, hr, q, hl⟩ := any29_ok s hs 0 h0 (by omega)
  obtain ⟨a, p1, h1, e1, q1, _⟩ := below_ok s hs p h q 4
  obtain ⟨b, p2, h2, e2, q2, _⟩ := below_ok s hs p1 h1 q1 4
  obtain ⟨c, p3, h3, e3, q3, _⟩ := int_ok s hs p2 h2 q2 [1, 50, 0, 10000001] (by simp)
  obtain ⟨t, p5, h5, e5, q5, _⟩ := int_ok s hs p3 h3 q3 [0, 60, 90, 100000, 100001] (by simp)
  exact ⟨l, a, b, c, t, ev_bind hn (ev_bind hr (ev_bindc e1 (ev_bindc e2 (ev_bindc e3 (ev_bindc e5 (ev_some rfl)))))), hl⟩
/-- The sum of the shares, each cut to its bounds. -/
def cut (x : Int) : Int := mx 0 (mn x 10000000)
theorem cut_in (x : Int) : 0 ≤ cut x ∧ cut x ≤ 10000000 := by unfold cut mx mn; omega
def sumC : List IShare → Int
  | [] => 0
  | x :: l => cut x.f1 + sumC l
theorem totShares_l0 (l : List IShare) (hl : l.length ≤ 2) : ∀ (d i : Nat) (s : Int), i + d = l.length → 0 ≤ s → s ≤ 10000000 * i → Ev (fun k => impl_TotalShares.l0 k s l (l.length : Int) (i : Int)) (s + sumC (l.drop i)) := by
  intro d
  induction d with
  | zero =>
    intro i s hi h0 h1
    exact ev_step (fun k => by simp only [impl_TotalShares.l0]; rfl) (ev_iten (by omega) (ev_some (by rw [List.drop_of_length_le (by omega), sumC]; omega)))
  | succ d ih =>
    intro i s hi h0 h1
    refine ev_step (fun k => by simp only [impl_TotalShares.l0]; rfl) (ev_itep (by omega) (ev_itep (by omega) (ev_itep (by omega) ?_)))
    have hb := cut_in (shr l i).f1
    simp only [rd_shr, wrap_id (x := (i : Int) + 1) (by omega) (by omega)]
    rw [drop_shr l i (by omega), sumC]
    have e := ih (i + 1) (s + cut (shr l i).f1) (by omega) (by omega) (by omega)
    have w : wrap64 (s + mx 0 (mn (shr l i).f1 10000000)) = s + cut (shr l i).f1 := wrap_id (by show _ ≤ s + cut _; omega) (by show s + cut _ ≤ _; omega)
    rw [w]
    exact ev_eq e (by omega)
theorem totShares_ev (l : List IShare) (hl : l.length ≤ 2) : Ev (fun k => impl_TotalShares.f k l) (sumC l) := by
  unfold impl_TotalShares.f
  exact ev_eq (totShares_l0 l hl l.length 0 0 (by omega) (by omega) (by omega)) (by rw [List.drop_zero]; omega)
theorem sumIf_append (p : IEntry → Bool) (l m : List IEntry) : sumIf p (l ++ m) = sumIf p l + sumIf p m := by
  induction l with
  | nil => simp [sumIf]
  | cons x l ih => rw [List.cons_append, sumIf, sumIf, ih]; omega
theorem en_left (l : List IEntry) (e : IEntry) (i : Nat) (h : i < l.length) : en (l ++ [e]) i = en l i := by
  unfold en
  rw [List.getD_eq_getElem?_getD, List.getD_eq_getElem?_getD, List.getElem?_append_left h]
theorem enOk_left (l : List IEntry) (e : IEntry) (i : Nat) (h : i < l.length) : enOk (l ++ [e]) i = enOk l i := by
  unfold enOk
  rw [en_left l e i h]
  by_cases c : i = 0
  · simp [c]
  · rw [en_left l e (i - 1) (by omega)]
theorem areEntry_left {l : List IEntry} {e : IEntry} (h : areEntry (l ++ [e]) = true) : areEntry l = true := by
  have hlen := areEntry_len h
  rw [List.length_append, List.length_singleton] at hlen
  unfold areEntry
  rw [Bool.and_eq_true, List.all_eq_true]
  refine ⟨fun i hi => ?_, decide_eq_true (by omega)⟩
  have hi' := List.mem_range.1 hi
  rw [← enOk_left l e i hi']
  exact areEntry_ok h i (by rw [List.length_append, List.length_singleton]; omega)
theorem areEntry_last {l : List IEntry} {e : IEntry} (h : areEntry (l ++ [e]) = true) : e.f0 ≠ e.f1 ∧ 1 ≤ e.f2 ∧ e.f2 ≤ 10000000 := by
  have := areEntry_ok h l.length (by simp)
  have e2 : en (l ++ [e]) l.length = e := by simp [en, List.getD]
  unfold enOk at this
  rw [e2] at this
  simp only [Bool.and_eq_true, decide_eq_true_eq] at this
  exact ⟨this.2.2.1, this.2.2.2.1⟩
theorem addE_yes {l : List IEntry} {e : IEntry} (h : (addE l e).2 = true) : areEntry (l ++ [e]) = true ∧ addE l e = (l ++ [e], true) := by
  unfold addE at h ⊢
  split
  · rename_i c; exact ⟨c, rfl⟩
  · rename_i c; rw [if_neg c] at h; cases h
theorem addE_no {l : List IEntry} {e : IEntry} (h : ¬ (addE l e).2 = true) : addE l e = (l, false) := by
  unfold addE at h ⊢
  split
  · rename_i c; rw [if_pos c] at h; exact absurd rfl h
  · rfl
theorem pay_no (l0 : List IEntry) (a t : Int) : ∀ (ss : List IShare) (c : List IEntry), ¬ (payE l0 a t ss c).2 = true → (payE l0 a t ss c).1 = l0
  | [], c, h => absurd rfl h
  | s :: ss, c, h => by
    rw [payE] at h ⊢
    split
    · rename_i c1; rw [if_pos c1] at h; exact pay_no l0 a t ss c h
    · rename_i c1
      rw [if_neg c1] at h
      split
      · rename_i c2; rw [if_pos c2] at h; exact pay_no l0 a t ss _ h
      · rfl
theorem pay_yes (l0 : List IEntry) (a t : Int) : ∀ (ss : List IShare) (c : List IEntry), (payE l0 a t ss c).2 = true → areEntry c = true →
    areEntry (payE l0 a t ss c).1 = true ∧ sumIf (paidBy a) (payE l0 a t ss c).1 = sumIf (paidBy a) c + sumC ss
  | [], c, _, hc => ⟨hc, by simp [payE, sumC]⟩
  | s :: ss, c, h, hc => by
    rw [payE] at h ⊢
    split
    · rename_i c1
      rw [if_pos c1] at h
      have := pay_yes l0 a t ss c h hc
      refine ⟨this.1, ?_⟩
      rw [this.2, sumC, c1, show cut 0 = 0 by unfold cut mx mn; omega]; omega
    · rename_i c1
      rw [if_neg c1] at h
      split
      · rename_i c2
        rw [if_pos c2] at h
        obtain ⟨g1, g2⟩ := addE_yes c2
        rw [g2] at h ⊢
        have := pay_yes l0 a t ss _ h g1
        refine ⟨this.1, ?_⟩
        have hb := areEntry_last g1
        rw [this.2, sumIf_append, sumC, sumIf, sumIf, if_pos (show paidBy a ⟨a, s.f0, s.f1, t⟩ = true from decide_eq_true rfl)]
        have : cut s.f1 = s.f1 := by have h2 := hb.2; unfold cut mx mn; simp only at h2; omega
        rw [this]; simp only; omega
      · rename_i c2; rw [if_neg c2] at h; cases h
theorem pay_len (l0 : List IEntry) (a t : Int) : ∀ (ss : List IShare) (c : List IEntry), (payE l0 a t ss c).1.length ≤ l0.length + c.length + ss.length
  | [], c => by simp [payE]
  | s :: ss, c => by
    rw [payE, List.length_cons]
    split
    · have := pay_len l0 a t ss c; omega
    · split
      · have := pay_len l0 a t ss (addE c ⟨a, s.f0, s.f1, t⟩).1
        have := addE_len1 c ⟨a, s.f0, s.f1, t⟩
        omega
      · simp only; omega
/-! sums over accounts -/
def sumL (f : Int → Int) : List Int → Int
  | [] => 0
  | a :: l => f a + sumL f l
theorem sumL_add (f g : Int → Int) : ∀ l, sumL (fun a => f a + g a) l = sumL f l + sumL g l
  | [] => rfl
  | a :: l => by rw [sumL, sumL, sumL, sumL_add f g l]; omega
theorem sumL_sub (f g : Int → Int) : ∀ l, sumL (fun a => f a - g a) l = sumL f l - sumL g l
  | [] => rfl
  | a :: l => by rw [sumL, sumL, sumL, sumL_sub f g l]; omega
theorem sumL_none (b c : Int) : ∀ l : List Int, b ∉ l → sumL (fun a => if decide (b = a) = true then c else 0) l = 0
  | [], _ => rfl
  | a :: l, h => by
    rw [sumL, sumL_none b c l (fun x => h (List.mem_cons_of_mem _ x))]
    have : ¬ b = a := fun e => h (by rw [e]; simp)
    simp [this]
theorem sumL_one (b c : Int) : ∀ l : List Int, Strict l → b ∈ l → sumL (fun a => if decide (b = a) = true then c else 0) l = c
  | [], _, h => absurd h (by simp)
  | a :: l, hs, h => by
    have hc := List.pairwise_cons.1 hs
    rw [sumL]
    by_cases e : b = a
    · have hn : b ∉ l := fun x => by have := hc.1 b x; omega
      rw [sumL_none b c l hn]; simp [e]
    · rw [sumL_one b c l hc.2 (by rcases List.mem_cons.1 h with x | x; exact absurd x e; exact x)]
      simp [e]
def total : List IEntry → Int
  | [] => 0
  | x :: l => x.f2 + total l
theorem sum_to (A : List Int) (hA : Strict A) : ∀ x : List IEntry, (∀ e ∈ x, e.f1 ∈ A) → sumL (fun a => sumIf (paidTo a) x) A = total x
  | [], _ => by
    have : ∀ l : List Int, sumL (fun _ => 0) l = 0 := by intro l; induction l with | nil => rfl | cons a l ih => rw [sumL, ih]; rfl
    exact this A
  | e :: x, h => by
    have := sumL_add (fun a => if paidTo a e = true then e.f2 else 0) (fun a => sumIf (paidTo a) x) A
    have h2 := sum_to A hA x (fun y hy => h y (List.mem_cons_of_mem _ hy))
    have h3 := sumL_one e.f1 e.f2 A hA (h e (by simp))
    simp only [sumIf, total]
    rw [this, h2]
    have h4 : sumL (fun a => if paidTo a e = true then e.f2 else 0) A = e.f2 := h3
    rw [h4]
theorem sum_by (A : List Int) (hA : Strict A) : ∀ x : List IEntry, (∀ e ∈ x, e.f0 ∈ A) → sumL (fun a => sumIf (paidBy a) x) A = total x
  | [], _ => by
    have : ∀ l : List Int, sumL (fun _ => 0) l = 0 := by intro l; induction l with | nil => rfl | cons a l ih => rw [sumL, ih]; rfl
    exact this A
  | e :: x, h => by
    have := sumL_add (fun a => if paidBy a e = true then e.f2 else 0) (fun a => sumIf (paidBy a) x) A
    have h2 := sum_by A hA x (fun y hy => h y (List.mem_cons_of_mem _ hy))
    have h3 := sumL_one e.f0 e.f2 A hA (h e (by simp))
    simp only [sumIf, total]
    rw [this, h2]
    have h4 : sumL (fun a => if paidBy a e = true then e.f2 else 0) A = e.f2 := h3
    rw [h4]
theorem mem_flat (x : List IEntry) (e : IEntry) (h : e ∈ x) : e.f0 ∈ flat x ∧ e.f1 ∈ flat x := by
  unfold flat
  exact ⟨List.mem_flatMap.2 ⟨e, h, by simp⟩, List.mem_flatMap.2 ⟨e, h, by simp⟩⟩
theorem acc_len (l : List IEntry) : (accOf l).length ≤ 2 * l.length := by
  have h1 := flat_len l
  have h2 := Lib.compact_length_le ((flat l).mergeSort fun x y => decide (x ≤ y))
  rw [List.length_mergeSort] at h2
  unfold accOf unitedI
  omega
theorem books_zero (x : List IEntry) : sumL (balance x) (accOf x) = 0 := by
  by_cases h : areEntry x = true
  · have hu := united_spec (flat x)
    have e : sumL (balance x) (accOf x) = sumL (fun a => sumIf (paidTo a) x - sumIf (paidBy a) x) (accOf x) := by
      congr 1; funext a; unfold balance; rw [if_pos h]
    rw [e, sumL_sub, sum_to (accOf x) hu.1 x (fun e he => (hu.2 _).2 (mem_flat x e he).2), sum_by (accOf x) hu.1 x (fun e he => (hu.2 _).2 (mem_flat x e he).1)]
    omega
  · have : ∀ l : List Int, sumL (balance x) l = 0 := by
      intro l
      induction l with
      | nil => rfl
      | cons a l ih => rw [sumL, ih]; unfold balance; rw [if_neg h]; rfl
    exact this _
theorem balance_in (x : List IEntry) (a : Int) : -1000000000 ≤ balance x a ∧ balance x a ≤ 1000000000 := by
  unfold balance
  split
  · rename_i h
    have h1 := sumIf_in (paidTo a) x (small_of h)
    have h2 := sumIf_in (paidBy a) x (small_of h)
    have h3 := areEntry_len h
    omega
  · omega
theorem balance_add {l : List IEntry} {e : IEntry} (h : areEntry (l ++ [e]) = true) : balance (l ++ [e]) e.f1 = balance l e.f1 + e.f2 ∧ balance (l ++ [e]) e.f0 = balance l e.f0 - e.f2 := by
  have h1 := areEntry_left h
  have h2 := (areEntry_last h).1
  have a1 : paidTo e.f1 e = true := decide_eq_true rfl
  have a2 : paidBy e.f0 e = true := decide_eq_true rfl
  have a3 : ¬ paidBy e.f1 e = true := by unfold paidBy; simp [h2]
  have a4 : ¬ paidTo e.f0 e = true := by unfold paidTo; simp; exact fun c => h2 c.symm
  unfold balance
  simp only [if_pos h, if_pos h1, sumIf_append, sumIf, if_pos a1, if_pos a2, if_neg a3, if_neg a4]
  omega
end Go.Proofs.Ytgejkcomoealgaa.PFnBooks
