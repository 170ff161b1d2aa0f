/- Sharpen's flag and SameOwner, of the program and of the reference. -/
import Derived.Test.YtglpmjcknhcjcaaRepBFnExactGroupReports
namespace Go.Proofs.Ytglpmjcknhcjcaa.PFnExactGroupReports
open Go.RowKit Go.Proofs.YtglpmjcknhcjcaaW.PrintWords Go.Proofs.YtglpmjcknhcjcaaW.PrintLast Go.Proofs.YtglpmjcknhcjcaaW.PrintMore Go.Proofs.Ytglpmjcknhcjcaa.EvLib
theorem max_eq (a b : Int) : spec_Max.f a b = some (mx a b) := by
  unfold spec_Max.f mx
  by_cases h : a < b
  · rw [if_pos (by omega), if_pos h]
  · rw [if_neg (by omega), if_neg h]
theorem min_eq (a b : Int) : spec_Min.f a b = some (mn a b) := by
  unfold spec_Min.f mn
  by_cases h : b < a
  · rw [if_pos h, if_pos h]
  · rw [if_neg h, if_neg h]
theorem mx_le {a b c : Int} (h1 : a ≤ c) (h2 : b ≤ c) : mx a b ≤ c := by unfold mx; split <;> omega
theorem le_mx {a b c : Int} (h : c ≤ a ∨ c ≤ b) : c ≤ mx a b := by unfold mx; split <;> omega
theorem mn_le {a b c : Int} (h : a ≤ c ∨ b ≤ c) : mn a b ≤ c := by unfold mn; split <;> omega
theorem le_mn {a b c : Int} (h1 : c ≤ a) (h2 : c ≤ b) : c ≤ mn a b := by unfold mn; split <;> omega
theorem sharp_rep {a0 a1 : Int} {l2 : List Int} {a3 a4 : Int} {l5 : List Int} {a6 a7 b0 b1 : Int} {m2 : List Int} {b3 b4 : Int} {m5 : List Int} {b6 b7 : Int}
    (ha : isRep a0 a1 l2 a3 a4 l5 a6 a7 = true) (hb : isRep b0 b1 m2 b3 b4 m5 b6 b7 = true) :
    isRep a0 a1 (bth l2 m2).1 (mx a3 b3) (mn a4 b4) (bth l5 m5).1 (mx a6 b6) (mx (mx a6 b6) (mn a7 b7)) = decide (mx a3 b3 ≤ mn a4 b4) := by
  obtain ⟨ha0, ha1, hal, ha3, ha34, ha4, ham, hal5, ha6, ha7, ha67⟩ := isRep_iff.1 ha
  obtain ⟨hb0, hb1, hbl, hb3, hb34, hb4, hbm, hbl5, hb6, hb7, hb67⟩ := isRep_iff.1 hb
  have hlen : ((bth l5 m5).1.length : Int) ≤ 10 := by
    rcases bth_len l5 m5 with h | h <;> omega
  have p1 := bth_asc hal hbl
  have p2 := bth_asc ham hbm
  have q1 : 0 ≤ mx a6 b6 ∧ mx a6 b6 ≤ 100000 := ⟨le_mx (.inl ha6.1), mx_le ha6.2 hb6.2⟩
  by_cases c : mx a3 b3 ≤ mn a4 b4
  · rw [decide_eq_true c]
    exact isRep_iff.2 ⟨ha0, ha1, p1, le_mx (.inl ha3), c, mn_le (.inl ha4), p2, hlen, q1, ⟨le_mx (.inl q1.1), mx_le q1.2 (mn_le (.inl ha7.2))⟩, le_mx (.inl (Int.le_refl _))⟩
  · rw [decide_eq_false c, Bool.eq_false_iff]
    intro h
    exact c (isRep_iff.1 h).2.2.2.2.1
theorem sharpen_ok (a0 a1 : Int) (l2 : List Int) (a3 a4 : Int) (l5 : List Int) (a6 a7 b0 b1 : Int) (m2 : List Int) (b3 b4 : Int) (m5 : List Int) (b6 b7 : Int)
    (z1 : l2.length ≤ 1048576) (z2 : l5.length ≤ 1048576) (z3 : m2.length ≤ 1048576) (z4 : m5.length ≤ 1048576) :
    ∃ x y : Int × Int × List Int × Int × Int × List Int × Int × Int × Bool, Ev (fun k => impl_Sharpen.f k a0 a1 l2 a3 a4 l5 a6 a7 b0 b1 m2 b3 b4 m5 b6 b7) x ∧ Ev (fun k => spec_Sharpen.f k a0 a1 l2 a3 a4 l5 a6 a7 b0 b1 m2 b3 b4 m5 b6 b7) y ∧ x.2.2.2.2.2.2.2.2 = y.2.2.2.2.2.2.2.2 := by
  have i1 := implRep_ev a0 a1 l2 a3 a4 l5 a6 a7 (by omega) (by omega)
  have i2 := implRep_ev b0 b1 m2 b3 b4 m5 b6 b7 (by omega) (by omega)
  have s1 := specRep_ev a0 a1 l2 a3 a4 l5 a6 a7 (by omega) (by omega)
  have s2 := specRep_ev b0 b1 m2 b3 b4 m5 b6 b7 (by omega) (by omega)
  have c1 := implBoth_ev l2 m2 (by omega) (by omega)
  have c2 := implBoth_ev l5 m5 (by omega) (by omega)
  have d1 := specBoth_ev l2 m2 (by omega) (by omega)
  have d2 := specBoth_ev l5 m5 (by omega) (by omega)
  have n1 : (bth l2 m2).1.length ≤ 2097152 := by rcases bth_len l2 m2 with h | h <;> omega
  have n2 : (bth l5 m5).1.length ≤ 2097152 := by rcases bth_len l5 m5 with h | h <;> omega
  have jT : Ev (fun k => spec_Sharpen.j0 k (bth l2 m2).1 (bth l5 m5).1 true a0 a1 l2 a3 a4 l5 a6 a7 b0 b1 m2 b3 b4 m5 b6 b7) (0, 0, [], 0, 0, [], 0, 0, false) :=
    ev_step (fun k => by simp only [spec_Sharpen.j0]; rfl) (ev_itep (show true = true from rfl) (ev_some rfl))
  have gT : Ev (fun k => impl_Sharpen.j0 k true a0 a1 l2 a3 a4 l5 a6 a7 b0 b1 m2 b3 b4 m5 b6 b7) (0, 0, [], 0, 0, [], 0, 0, false) :=
    ev_step (fun k => by simp only [impl_Sharpen.j0]; rfl) (ev_itep (show true = true from rfl) (ev_some rfl))
  unfold impl_Sharpen.f spec_Sharpen.f
  by_cases ha : isRep a0 a1 l2 a3 a4 l5 a6 a7 = true
  · by_cases hb : isRep b0 b1 m2 b3 b4 m5 b6 b7 = true
    · by_cases hk : a1 = b1
      · have hk2 : (a1 != b1) = false := by simp [hk]
        have hrep := sharp_rep ha hb
        have s3 := specRep_ev a0 a1 (bth l2 m2).1 (mx a3 b3) (mn a4 b4) (bth l5 m5).1 (mx a6 b6) (mx (mx a6 b6) (mn a7 b7)) n1 n2
        rw [hrep] at s3
        by_cases hc : (bth l2 m2).2 = true
        · by_cases hd : (bth l5 m5).2 = true
          · by_cases hx : mx a3 b3 ≤ mn a4 b4
            · refine ⟨(a0, a1, (bth l2 m2).1, mx a3 b3, mn a4 b4, (bth l5 m5).1, mx a6 b6, mx (mx a6 b6) (mn a7 b7), true), (a0, a1, (bth l2 m2).1, mx a3 b3, mn a4 b4, (bth l5 m5).1, mx a6 b6, mx (mx a6 b6) (mn a7 b7), true), ?_, ?_, rfl⟩
              · refine ev_bind i1 (ev_itep ha (ev_bind i2 (ev_itep hb ?_)))
                rw [hk2]
                exact ev_step (fun k => by simp only [impl_Sharpen.j0]; rfl) (ev_iten (by simp) (ev_bind c1 (ev_bind c2 (ev_itep hc (ev_itep hd (ev_iten (Int.not_lt.2 hx) (ev_some rfl)))))))
              · refine ev_bind d1 (ev_bind d2 (ev_bind s1 (ev_itep ha (ev_bind s2 (ev_itep hb (ev_itep hk (ev_itep hc ?_)))))))
                rw [hd]
                exact ev_step (fun k => by simp only [spec_Sharpen.j0]; rfl) (ev_iten (by simp) (ev_bindc (max_eq _ _) (ev_bindc (max_eq _ _) (ev_bindc (min_eq _ _) (ev_bindc (min_eq _ _) (ev_bindc (max_eq _ _) (ev_bind s3 (ev_itep (decide_eq_true hx) (ev_some rfl)))))))))
            · refine ⟨(0, 0, [], 0, 0, [], 0, 0, false), (0, 0, [], 0, 0, [], 0, 0, false), ?_, ?_, rfl⟩
              · refine ev_bind i1 (ev_itep ha (ev_bind i2 (ev_itep hb ?_)))
                rw [hk2]
                exact ev_step (fun k => by simp only [impl_Sharpen.j0]; rfl) (ev_iten (by simp) (ev_bind c1 (ev_bind c2 (ev_itep hc (ev_itep hd (ev_itep (Int.not_le.1 hx) (ev_some rfl)))))))
              · refine ev_bind d1 (ev_bind d2 (ev_bind s1 (ev_itep ha (ev_bind s2 (ev_itep hb (ev_itep hk (ev_itep hc ?_)))))))
                rw [hd]
                exact ev_step (fun k => by simp only [spec_Sharpen.j0]; rfl) (ev_iten (by simp) (ev_bindc (max_eq _ _) (ev_bindc (max_eq _ _) (ev_bindc (min_eq _ _) (ev_bindc (min_eq _ _) (ev_bindc (max_eq _ _) (ev_bind s3 (ev_iten (fun h => hx (of_decide_eq_true h)) (ev_some rfl)))))))))
          · refine ⟨(0, 0, [], 0, 0, [], 0, 0, false), (0, 0, [], 0, 0, [], 0, 0, false), ?_, ?_, rfl⟩
            · refine ev_bind i1 (ev_itep ha (ev_bind i2 (ev_itep hb ?_)))
              rw [hk2]
              exact ev_step (fun k => by simp only [impl_Sharpen.j0]; rfl) (ev_iten (by simp) (ev_bind c1 (ev_bind c2 (ev_itep hc (ev_iten hd (ev_some rfl))))))
            · refine ev_bind d1 (ev_bind d2 (ev_bind s1 (ev_itep ha (ev_bind s2 (ev_itep hb (ev_itep hk (ev_itep hc ?_)))))))
              rw [Bool.eq_false_iff.2 hd]
              exact jT
        · refine ⟨(0, 0, [], 0, 0, [], 0, 0, false), (0, 0, [], 0, 0, [], 0, 0, false), ?_, ?_, rfl⟩
          · refine ev_bind i1 (ev_itep ha (ev_bind i2 (ev_itep hb ?_)))
            rw [hk2]
            exact ev_step (fun k => by simp only [impl_Sharpen.j0]; rfl) (ev_iten (by simp) (ev_bind c1 (ev_bind c2 (ev_iten hc (ev_some rfl)))))
          · exact ev_bind d1 (ev_bind d2 (ev_bind s1 (ev_itep ha (ev_bind s2 (ev_itep hb (ev_itep hk (ev_iten hc jT)))))))
      · refine ⟨(0, 0, [], 0, 0, [], 0, 0, false), (0, 0, [], 0, 0, [], 0, 0, false), ?_, ?_, rfl⟩
        · refine ev_bind i1 (ev_itep ha (ev_bind i2 (ev_itep hb ?_)))
          rw [show (a1 != b1) = true by simpa using hk]
          exact gT
        · exact ev_bind d1 (ev_bind d2 (ev_bind s1 (ev_itep ha (ev_bind s2 (ev_itep hb (ev_iten hk jT))))))
    · exact ⟨_, _, ev_bind i1 (ev_itep ha (ev_bind i2 (ev_iten hb gT))), ev_bind d1 (ev_bind d2 (ev_bind s1 (ev_itep ha (ev_bind s2 (ev_iten hb jT))))), rfl⟩
  · exact ⟨_, _, ev_bind i1 (ev_iten ha gT), ev_bind d1 (ev_bind d2 (ev_bind s1 (ev_iten ha jT))), rfl⟩
theorem meet_ok (a b c d : Int) : ∃ x : Int × Int × Bool, impl_Meet.f a b c d = some x ∧ spec_Meet.f a b c d = some x := by
  unfold impl_Meet.f spec_Meet.f
  simp only [implSpan_eq, specSpan_eq, max_eq, min_eq, Option.bind_some]
  repeat' (first | exact ⟨_, rfl, rfl⟩ | split)
theorem sameOwner_ok (a0 a1 : Int) (l2 : List Int) (a3 a4 : Int) (l5 : List Int) (a6 a7 b0 b1 : Int) (m2 : List Int) (b3 b4 : Int) (m5 : List Int) (b6 b7 : Int)
    (z1 : l2.length ≤ 1048576) (z2 : l5.length ≤ 1048576) (z3 : m2.length ≤ 1048576) (z4 : m5.length ≤ 1048576) :
    ∃ r, Ev (fun k => impl_SameOwner.f k a0 a1 l2 a3 a4 l5 a6 a7 b0 b1 m2 b3 b4 m5 b6 b7) r ∧ Ev (fun k => spec_SameOwner.f k a0 a1 l2 a3 a4 l5 a6 a7 b0 b1 m2 b3 b4 m5 b6 b7) r := by
  obtain ⟨x, y, hx, hy, hxy⟩ := sharpen_ok a0 a1 l2 a3 a4 l5 a6 a7 b0 b1 m2 b3 b4 m5 b6 b7 z1 z2 z3 z4
  obtain ⟨m, hm1, hm2⟩ := meet_ok a6 a7 b6 b7
  unfold impl_SameOwner.f spec_SameOwner.f
  by_cases c : x.2.2.2.2.2.2.2.2 = true
  · exact ⟨m.2.2, ev_bind hx (ev_bindc hm1 (ev_itep c (ev_some rfl))), ev_bind hy (ev_bindc hm2 (ev_itep (hxy ▸ c) (ev_some rfl)))⟩
  · exact ⟨false, ev_bind hx (ev_bindc hm1 (ev_iten c (ev_some rfl))), ev_bind hy (ev_bindc hm2 (ev_iten (hxy ▸ c) (ev_some rfl)))⟩
end Go.Proofs.Ytglpmjcknhcjcaa.PFnExactGroupReports
