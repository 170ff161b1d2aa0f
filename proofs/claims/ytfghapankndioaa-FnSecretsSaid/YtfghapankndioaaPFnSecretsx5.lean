-- Written for this claim by a program (a printer turned to this claim); Lean checks it.
import Derived.Test.YtfghapankndioaaPFnSecretsx0
import Derived.Test.YtfghapankndioaaPFnSecretsx3
import Derived.Test.YtfghapankndioaaPFnSecretsx4
namespace Go.Proofs.Ytfghapankndioaa.PFnSecrets
open Go.RowKit Go.Proofs.YtfghapankndioaaW.PrintWords Go.Proofs.YtfghapankndioaaW.PrintLast Go.Proofs.YtfghapankndioaaW.PrintMore
attribute [local go_sem] max2_int min2_int max_two min_two max_three min_three max_four min_four   -- for this text's walks alone
set_option linter.unusedVariables false
set_option linter.unusedSimpArgs false

/-! ### impl_MarksOf: function 23 -/
def impl_MarksOf.f (l0 : List (S36)) (a1 : Int) : Option ((List (S67))) := (impl_secretOf.f l0 a1).bind fun t139 => (if t139 < 0 then (some (([] : List (S67)))) else (if 0 ≤ t139 then (if t139 < (l0.length : Int) then ((impl_Mark_55.f ((rd_T36 l0 t139).f1)).bind fun t144 => (some t144)) else (none)) else (none)))
set_option maxHeartbeats 8000000 in
set_option maxRecDepth 100000 in
theorem impl_MarksOf.calls (A0 : Option Addr) (c0 : Nat) (l0 : List (S36)) (a1 : Int) (r : List (S67)) (w : World) (hr0 : Kd.C k36 w A0 l0.length l0) (hc0 : l0.length ≤ c0) (h : impl_MarksOf.f l0 a1 = some r) :
    Calls Try.prog 23 #[.slice A0 l0.length c0, .int .i64 a1] w fun e w' => ∃ v0_ : Value, e = .returned (v0_) ∧ Kd.R k67 67 w' w.heap.size (fun _ => True) v0_ r ∧ Below w.heap.size w w' := by
  have HR0 := Aside0.mk hr0
  have HC0 := Aside0.mk hc0
  clear hr0 hc0
  have HB := Aside0.mk (Below.refl w.heap.size w)
  have H : ((impl_secretOf.f l0 a1).bind fun t139 => (if t139 < 0 then (some (([] : List (S67)))) else (if 0 ≤ t139 then (if t139 < (l0.length : Int) then ((impl_Mark_55.f ((rd_T36 l0 t139).f1)).bind fun t144 => (some t144)) else (none)) else (none)))) = some r := h
  clear h
  replace H := Option.bind_eq_some_iff.mp H
  obtain ⟨t139, A30, H⟩ := H
  replace H : (if t139 < 0 then (some (([] : List (S67)))) else (if 0 ≤ t139 then (if t139 < (l0.length : Int) then ((impl_Mark_55.f ((rd_T36 l0 t139).f1)).bind fun t144 => (some t144)) else (none)) else (none))) = some r := H
  have A3 := Aside0.mk A30
  clear A30
  by_cases c4 : t139 < 0
  · rw [if_pos c4] at H
    have c4b0 : decide (t139 < 0) = true := decide_eq_true c4
    clear c4
    obtain ⟨y140, hy140⟩ : ∃ y_ : List (S67), y_ = (([] : List (S67))) := ⟨_, rfl⟩
    replace H : (some y140) = some r := by first | (rw [hy140]; with_reducible exact H) | (have H2_ := (Option.bind_some _ _).symm.trans H; rw [hy140]; with_reducible exact H2_) | (have H2_ := (Option.bind_some _ _).symm.trans H; with_reducible exact H2_) | with_reducible exact H | (rw [hy140]; exact H) | exact H
    have Ny140 := Aside0.mk hy140
    clear hy140
    obtain rfl := Option.some.inj H
    go_enter Try.func23, Try.ntmps23
    go_wp2_with (first | ((with_reducible refine gate_callee (f := 54) rfl ?_); refine goesL_ (some 8) rfl rfl Try.func54 (by kernel_rfl) rfl #[.slice A0 l0.length c0, .int .i64 a1] rfl ma_ ?_; (with_reducible refine (impl_secretOf.calls _ _ l0 a1 t139 _ ?side1 ?side2 A3.out).mono ?_); (case side1 => exact cd_ HR0.out); (case side2 => exact HC0.out); rintro e w5 ⟨rfl, hb⟩; refine ⟨_, rfl, ?_⟩; have n0_ := Aside0.mk (below_step (hd_ HB.out) hb); clear HB; have HB := n0_; clear n0_; (try clear hb); (try clear hb2); (try clear hk); (try clear hi)) | ((with_reducible refine gate_dst (N := 11) rfl ?_); refine Kd.R_lit k67 _ 67 ?hg (N := 11) ?hd (xs := ([] : List (S67))) (inner := []) (ok := fun _ => True) (okp := fun _ => True) ?hr ?hp (fun _ hk => hk) trivial (Below.refl _ _) (Nat.le_refl _) (by simp) ?_; (case hd => rfl); (case hg => rfl); (case hr => first | (go_simp; done) | (go_simp; rfl)); (case hp => exact (Reps.none _ _)); intro v141 w6 ho7 hb hg_ hnew_; clear hg_ hnew_; (first | rw [← Ny140.out] at ho7 | (simp only [Int.reduceToNat] at ho7; rw [← Ny140.out] at ho7)); have HO142 := Aside0.mk (Kd.R_lower ho7 (below_size (hd_ HB.out))); have n1_ := Aside0.mk (below_step (hd_ HB.out) hb); clear HB; have HB := n1_; clear n1_; clear hb ho7))
    go_ret
    exact ⟨_, by first | rfl | (simp [errW_none, errW_some] <;> rfl) | (simp [*, errW_none, errW_some] <;> rfl), rd_ HO142.out, hd_ HB.out⟩
  · rw [if_neg c4] at H
    have c4b0 : decide (t139 < 0) = false := decide_eq_false c4
    clear c4
    by_cases c8 : 0 ≤ t139
    · rw [if_pos c8] at H
      have c8b0 : decide (0 ≤ t139) = true := decide_eq_true c8
      clear c8
      by_cases c9 : t139 < (l0.length : Int)
      · rw [if_pos c9] at H
        have c9b0 : decide (t139 < (l0.length : Int)) = true := decide_eq_true c9
        clear c9
        replace H := Option.bind_eq_some_iff.mp H
        obtain ⟨t144, A100, H⟩ := H
        replace H : (some t144) = some r := H
        have A10 := Aside0.mk A100
        clear A100
        obtain rfl := Option.some.inj H
        go_enter Try.func23, Try.ntmps23
        go_wp2_with (first | ((with_reducible refine gate_callee (f := 54) rfl ?_); refine goesL_ (some 8) rfl rfl Try.func54 (by kernel_rfl) rfl #[.slice A0 l0.length c0, .int .i64 a1] rfl ma_ ?_; (with_reducible refine (impl_secretOf.calls _ _ l0 a1 t139 _ ?side1 ?side2 A3.out).mono ?_); (case side1 => exact cd_ HR0.out); (case side2 => exact HC0.out); rintro e w11 ⟨rfl, hb⟩; refine ⟨_, rfl, ?_⟩; have n0_ := Aside0.mk (below_step (hd_ HB.out) hb); clear HB; have HB := n0_; clear n0_; (try clear hb); (try clear hb2); (try clear hk); (try clear hi); have p143 : 0 ≤ (t139 : Int) := of_decide_eq_true as_; have q143 : t139 < (l0.length : Int) := of_decide_eq_true as_; obtain ⟨ad143, A143_1, c143_1, e143, hx143_0, hx143_1, hx143_2, hl143_1, hi143_1⟩ := at_T36 HR0.out t139 p143 q143; cases e143; replace hx143_0 := cb_ HB.out hx143_0; replace hx143_1 := cb_ HB.out hx143_1; replace hx143_2 := cb_ HB.out hx143_2; have HR143_1 := Aside0.mk hi143_1; have HC143_1 := Aside0.mk hl143_1; clear hi143_1 hl143_1; replace p143 := eq_true p143; replace q143 := eq_true q143) | ((with_reducible refine gate_callee (f := 55) rfl ?_); refine goesL_ (some 17) rfl rfl Try.func55 (by kernel_rfl) rfl #[.slice A143_1 ((rd_T36 l0 t139).f1).length c143_1] rfl ma_ ?_; (with_reducible refine (impl_Mark_55.calls _ _ ((rd_T36 l0 t139).f1) t144 _ ?side1 ?side2 A10.out).mono ?_); (case side1 => exact cd_ (Kd.C_below HR143_1.out HB.out)); (case side2 => exact HC143_1.out); rintro e w12 ⟨v145, rfl, ho0, hb⟩; refine ⟨_, rfl, ?_⟩; have HO146 := Aside0.mk (Kd.R_lower ho0 (below_size (hd_ HB.out))); have n1_ := Aside0.mk (below_step (hd_ HB.out) hb); clear HB; have HB := n1_; clear n1_; (try clear hb); (try clear hb2); (try clear hk); (try clear hi); (try clear ho0)))
        go_ret
        exact ⟨_, by first | rfl | (simp [errW_none, errW_some] <;> rfl) | (simp [*, errW_none, errW_some] <;> rfl), rd_ HO146.out, hd_ HB.out⟩
      · rw [if_neg c9] at H
        exact absurd H (by simp)
    · rw [if_neg c8] at H
      exact absurd H (by simp)

/-! ### impl_SealOf: function 29 -/
def impl_SealOf.f (k : Nat) (l0 : List (S36)) (a1 : Int) : Option (Int) := (impl_secretOf.f l0 a1).bind fun t147 => (if t147 < 0 then (some (-1)) else (if 0 ≤ t147 then (if t147 < (l0.length : Int) then ((impl_SealMarks.f k ((rd_T36 l0 t147).f1) ((rd_T36 l0 t147).f2)).bind fun t150 => (some t150)) else (none)) else (none)))
theorem impl_SealOf.mono : ∀ a0 a1 k, LeO (impl_SealOf.f k a0 a1) (impl_SealOf.f (k + 1) a0 a1) := by
  intro a0 a1 k
  unfold impl_SealOf.f
  repeat' first
      | (with_reducible exact impl_SealMarks.mono _ _ _)
      | (with_reducible exact LeO.refl _)
      | (with_reducible exact LeO.none _)
      | (with_reducible refine LeO.ite ?_ ?_)
      | (with_reducible refine LeO.bind ?_ (fun _ => ?_))
      | exact impl_SealMarks.mono _ _ _
      | exact LeO.none _
      | refine LeO.ite ?_ ?_
      | refine LeO.bind ?_ (fun _ => ?_)
def impl_SealOf.T4 : Bool × List (List Nat × List Nat) := (true, [([], []), ([], []), ([0, 1], [0, 1]), ([2], [2]), ([3], [3]), ([], []), ([], []), ([5, 6], [5, 6]), ([7], [7]), ([8], [8]), ([4, 9], [4, 9]), ([10, 10, 0, 1, 2, 3, 4, 5, 6, 7, 8, 9, 10], [10])])
def impl_SealOf.B4 : List Nat := [0, 0, 3, 7, 15, 0, 0, 96, 224, 480, 1023, 2047]
theorem impl_SealOf.tab4 : rtab .any (opsOf Try.f29 4) = impl_SealOf.T4 := by kernel_rfl
theorem impl_SealOf.bits4 : waitsOk impl_SealOf.T4.2 impl_SealOf.B4 = true := by kernel_rfl
abbrev M1_0 : Array Bool := #[false, false, false, false, false, false, false, false, false, false, false, false]
abbrev M1_1 : Array Bool := #[true, false, false, false, false, false, false, false, false, false, false, false]
abbrev M1_2 : Array Bool := #[true, true, false, false, false, false, false, false, false, false, false, false]
abbrev M1_3 : Array Bool := #[true, true, true, false, false, false, false, false, false, false, false, false]
abbrev M1_4 : Array Bool := #[true, true, true, true, false, false, false, false, false, false, false, false]
abbrev M1_5 : Array Bool := #[true, true, true, true, false, true, false, false, false, false, false, false]
abbrev M1_6 : Array Bool := #[true, true, true, true, false, true, true, false, false, false, false, false]
abbrev M1_7 : Array Bool := #[true, true, true, true, false, true, true, true, false, false, false, false]
abbrev M1_8 : Array Bool := #[true, true, true, true, false, true, true, true, true, false, false, false]
abbrev M1_9 : Array Bool := #[true, true, true, true, true, true, true, true, true, false, false, false]
abbrev M1_10 : Array Bool := #[true, true, true, true, true, true, true, true, true, true, false, false]
abbrev M1_11 : Array Bool := #[true, true, true, true, true, true, true, true, true, true, true, false]
abbrev M1_12 : Array Bool := #[true, true, true, true, true, true, true, true, true, true, true, true]
set_option maxHeartbeats 8000000 in
set_option maxRecDepth 100000 in
theorem impl_SealOf.calls (k : Nat) (A0 : Option Addr) (c0 : Nat) (l0 : List (S36)) (a1 : Int) (r : Int) (w : World) (hr0 : Kd.C k36 w A0 l0.length l0) (hc0 : l0.length ≤ c0) (h : impl_SealOf.f k l0 a1 = some r) :
    Calls Try.prog 29 #[.slice A0 l0.length c0, .int .i64 a1] w fun e w' => e = .returned (.int .i64 r) ∧ Below w.heap.size w w' := by
  have HR0 := Aside0.mk hr0
  have HC0 := Aside0.mk hc0
  clear hr0 hc0
  have HB := Aside0.mk (Below.refl w.heap.size w)
  have H : ((impl_secretOf.f l0 a1).bind fun t147 => (if t147 < 0 then (some (-1)) else (if 0 ≤ t147 then (if t147 < (l0.length : Int) then ((impl_SealMarks.f k ((rd_T36 l0 t147).f1) ((rd_T36 l0 t147).f2)).bind fun t150 => (some t150)) else (none)) else (none)))) = some r := h
  clear h
  replace H := Option.bind_eq_some_iff.mp H
  obtain ⟨t147, A30, H⟩ := H
  replace H : (if t147 < 0 then (some (-1)) else (if 0 ≤ t147 then (if t147 < (l0.length : Int) then ((impl_SealMarks.f k ((rd_T36 l0 t147).f1) ((rd_T36 l0 t147).f2)).bind fun t150 => (some t150)) else (none)) else (none))) = some r := H
  have A3 := Aside0.mk A30
  clear A30
  by_cases c4 : t147 < 0
  · rw [if_pos c4] at H
    have c4b0 : decide (t147 < 0) = true := decide_eq_true c4
    clear c4
    obtain rfl := Option.some.inj H
    go_enter Try.func29, Try.ntmps29
    go_wp2_with (first | ((with_reducible refine gate_callee (f := 54) rfl ?_); refine goesL_ (some 8) rfl rfl Try.func54 (by kernel_rfl) rfl #[.slice A0 l0.length c0, .int .i64 a1] rfl ma_ ?_; (with_reducible refine (impl_secretOf.calls _ _ l0 a1 t147 _ ?side1 ?side2 A3.out).mono ?_); (case side1 => exact cd_ HR0.out); (case side2 => exact HC0.out); rintro e w5 ⟨rfl, hb⟩; refine ⟨_, rfl, ?_⟩; have n0_ := Aside0.mk (below_step (hd_ HB.out) hb); clear HB; have HB := n0_; clear n0_; (try clear hb); (try clear hb2); (try clear hk); (try clear hi)))
    go_ret
    exact ⟨by first | rfl | (simp [errW_none, errW_some] <;> rfl) | (simp [*, errW_none, errW_some] <;> rfl), hd_ HB.out⟩
  · rw [if_neg c4] at H
    have c4b0 : decide (t147 < 0) = false := decide_eq_false c4
    clear c4
    by_cases c6 : 0 ≤ t147
    · rw [if_pos c6] at H
      have c6b0 : decide (0 ≤ t147) = true := decide_eq_true c6
      clear c6
      by_cases c7 : t147 < (l0.length : Int)
      · rw [if_pos c7] at H
        have c7b0 : decide (t147 < (l0.length : Int)) = true := decide_eq_true c7
        clear c7
        replace H := Option.bind_eq_some_iff.mp H
        obtain ⟨t150, A80, H⟩ := H
        replace H : (some t150) = some r := H
        have A8 := Aside0.mk A80
        clear A80
        obtain rfl := Option.some.inj H
        go_enter Try.func29, Try.ntmps29
        try go_wp2_with (first | ((with_reducible refine gate_callee (f := 54) rfl ?_); refine goesL_ (some 8) rfl rfl Try.func54 (by kernel_rfl) rfl #[.slice A0 l0.length c0, .int .i64 a1] rfl ma_ ?_; (with_reducible refine (impl_secretOf.calls _ _ l0 a1 t147 _ ?side1 ?side2 A3.out).mono ?_); (case side1 => exact cd_ HR0.out); (case side2 => exact HC0.out); rintro e w9 ⟨rfl, hb⟩; refine ⟨_, rfl, ?_⟩; have n0_ := Aside0.mk (below_step (hd_ HB.out) hb); clear HB; have HB := n0_; clear n0_; (try clear hb); (try clear hb2); (try clear hk); (try clear hi)))
        have n0_ := Aside0.mk (below_drew1 HB.out)
        clear HB
        have HB := n0_
        clear n0_
        have p148 : 0 ≤ (t147 : Int) := of_decide_eq_true as_
        have q148 : t147 < (l0.length : Int) := of_decide_eq_true as_
        obtain ⟨ad148, A148_1, c148_1, e148, hx148_0, hx148_1, hx148_2, hl148_1, hi148_1⟩ := at_T36 HR0.out t147 p148 q148
        have hw148_2 := hx148_2
        have hw148_1 := hx148_1
        have hw148_0 := hx148_0
        cases e148
        replace hx148_0 := cb_ HB.out hx148_0
        replace hx148_1 := cb_ HB.out hx148_1
        replace hx148_2 := cb_ HB.out hx148_2
        have HR148_1 := Aside0.mk hi148_1
        have HC148_1 := Aside0.mk hl148_1
        clear hi148_1 hl148_1
        replace p148 := eq_true p148
        replace q148 := eq_true q148
        have p149 : 0 ≤ (t147 : Int) := of_decide_eq_true as_
        have q149 : t147 < (l0.length : Int) := of_decide_eq_true as_
        obtain ⟨ad149, A149_1, c149_1, e149, hx149_0, hx149_1, hx149_2, hl149_1, hi149_1⟩ := at_T36 HR0.out t147 p149 q149
        have hw149_2 := hx149_2
        have hw149_1 := hx149_1
        have hw149_0 := hx149_0
        obtain rfl : ad148 = ad149 := (by injection e149)
        replace hx149_0 := cb_ HB.out hx149_0
        replace hx149_1 := cb_ HB.out hx149_1
        replace hx149_2 := cb_ HB.out hx149_2
        have HR149_1 := Aside0.mk hi149_1
        have HC149_1 := Aside0.mk hl149_1
        clear hi149_1 hl149_1
        replace p149 := eq_true p149
        replace q149 := eq_true q149
        have ea_ := Option.some.inj (hx148_1.symm.trans hx149_1)
        injection ea_ with ea_ en_ ec_
        subst ea_
        subst ec_
        clear en_
        refine start_ (n := 12) (S := fun w' => q1_ w' (ad148.add ((t147).toNat * 3)) ((rd_T36 l0 t147).f0) A148_1 ((rd_T36 l0 t147).f1).length c148_1 ((rd_T36 l0 t147).f2) (q1e_ w' (ad148.add ((t147).toNat * 3)) ((rd_T36 l0 t147).f0) A148_1 ((rd_T36 l0 t147).f1).length c148_1 ((rd_T36 l0 t147).f2))) (ds := []) M1_0 (by kernel_rfl) rfl rfl ⟨(cb_ HB.out hw148_0), (cb_ HB.out hw148_1), (cb_ HB.out hw148_2), (cb_ HB.out hw149_0), (cb_ HB.out hw149_1), (cb_ HB.out hw149_2)⟩ (fun hHeld => ?_); refine with_tabW impl_SealOf.tab4 impl_SealOf.bits4 (fun HT_ HW_ => ?_)
        generalize w9.drew = w10 at HB HR148_1 HR149_1 hx148_0 hx148_1 hx148_2 hx149_0 hx149_1 hx149_2 hHeld ⊢
        refine pu_ 0 (some 11) M1_1 HT_ ?_
        refine pu_ 1 (some 12) M1_2 HT_ ?_
        refine pu_ 2 (some 13) M1_3 HT_ ?_
        refine pu_ 3 (some 14) M1_4 HT_ ?_
        refine pu_ 5 (some 16) M1_5 HT_ ?_
        refine pu_ 6 (some 17) M1_6 HT_ ?_
        refine pu_ 7 (some 18) M1_7 HT_ ?_
        refine pu_ 8 (some 19) M1_8 HT_ ?_
        refine tk_ 4 (some 15) M1_9 HT_ HW_ hHeld ?_
        refine tk_ 9 (some 20) M1_10 HT_ HW_ hHeld ?_
        refine one_ (i := 10) (N := some 21) M1_11 rfl rfl (one_of HT_.out (by kernel_rfl)) (by decide) (fun K hK => ?_)
        refine goes_ Try.func37 (by kernel_rfl) rfl #[.slice A148_1 ((rd_T36 l0 t147).f1).length c148_1, .int .i64 ((rd_T36 l0 t147).f2)] (by rfl) rfl rfl ma_ ?_
        with_reducible refine (impl_SealMarks.calls k _ _ ((rd_T36 l0 t147).f1) ((rd_T36 l0 t147).f2) t150 _ ?side1 ?side2 A8.out).mono ?_
        (case side1 => exact cd_ (Kd.C_below HR148_1.out HB.out))
        (case side2 => exact HC148_1.out)
        rintro e w11 ⟨rfl, hb⟩
        refine ⟨_, rfl, ?_⟩
        have n0_ := Aside0.mk (below_step (hd_ HB.out) hb)
        clear HB
        have HB := n0_
        clear n0_
        (try clear hb)
        (try clear hb2)
        (try clear hk)
        (try clear hi)
        refine hK.out _ _ ⟨(cb_ HB.out hw148_0), (cb_ HB.out hw148_1), (cb_ HB.out hw148_2), (cb_ HB.out hw149_0), (cb_ HB.out hw149_1), (cb_ HB.out hw149_2)⟩ (fun hHeld => ?_)
        clear hK K
        refine norm_ (a' := ?_) ?_ ?_
        rotate_left
        · show Act.put _ (some 21) _ = _
          simp only [Act.put, List.setIfInBounds_toArray, List.set_cons_zero, List.set_cons_succ, i64_w, i32_w]
          rfl
        refine pu_ 11 (some 4) M1_12 HT_ ?_
        refine done_ (done_of HT_.out (by kernel_rfl)) ?_
        try go_wp2
        go_ret
        exact ⟨by first | rfl | (simp [errW_none, errW_some] <;> rfl) | (simp [*, errW_none, errW_some] <;> rfl), hd_ HB.out⟩
      · rw [if_neg c7] at H
        exact absurd H (by simp)
    · rw [if_neg c6] at H
      exact absurd H (by simp)

/-! ### impl_cloneSecrets: function 59 -/
def impl_cloneSecrets.l0 : Nat → List (S36) → List (S36) → Int → Int → Option ((List (S36)))
  | 0, _, _, _, _ => none
  | k + 1, x3, x7, x8, x9 => if x9 < x8 then (if 0 ≤ x9 then (if x9 < (x7.length : Int) then ((impl_Mark_55.f ((rd_T36 x7 x9).f1)).bind fun t156 => (if x3.length < 3518437208883 then (impl_cloneSecrets.l0 k (x3 ++ [(⟨(rd_T36 x7 x9).f0, t156, (rd_T36 x7 x9).f2⟩ : S36)]) x7 x8 (wrap64 (x9 + 1))) else (none))) else (none)) else (none)) else (some x3)
def impl_cloneSecrets.f (k : Nat) (l0 : List (S36)) : Option ((List (S36))) := impl_cloneSecrets.l0 k (([] : List (S36))) l0 (l0.length : Int) 0
theorem impl_cloneSecrets.mono_l : ∀ k, (∀ y0 y1 y2 y3, LeO (impl_cloneSecrets.l0 k y0 y1 y2 y3) (impl_cloneSecrets.l0 (k + 1) y0 y1 y2 y3))
  | 0 => fun _ _ _ _ r h => by simp [impl_cloneSecrets.l0] at h
  | k + 1 => by
    have ih0 := impl_cloneSecrets.mono_l k
    · intro y0 y1 y2 y3
      unfold impl_cloneSecrets.l0
      repeat' first
      | (with_reducible exact ih0 _ _ _ _)
      | (with_reducible exact LeO.refl _)
      | (with_reducible exact LeO.none _)
      | (with_reducible refine LeO.ite ?_ ?_)
      | (with_reducible refine LeO.bind ?_ (fun _ => ?_))
      | exact ih0 _ _ _ _
      | exact LeO.none _
      | refine LeO.ite ?_ ?_
      | refine LeO.bind ?_ (fun _ => ?_)
theorem impl_cloneSecrets.mono : ∀ a0 k, LeO (impl_cloneSecrets.f k a0) (impl_cloneSecrets.f (k + 1) a0) := by
  intro a0 k
  have ih0 := impl_cloneSecrets.mono_l k
  unfold impl_cloneSecrets.f
  repeat' first
      | (with_reducible exact ih0 _ _ _ _)
      | (with_reducible exact LeO.refl _)
      | (with_reducible exact LeO.none _)
      | (with_reducible refine LeO.ite ?_ ?_)
      | (with_reducible refine LeO.bind ?_ (fun _ => ?_))
      | exact ih0 _ _ _ _
      | exact LeO.none _
      | refine LeO.ite ?_ ?_
      | refine LeO.bind ?_ (fun _ => ?_)
theorem e39_ {w : World} {g : Nat} {t : TypeId} {i0 : Int} {A1 : Option Addr} {n1 c1 : Nat} {i2 : Int} (h : w.heap[g]? = some (.cells #[.int .i64 i0, .slice A1 n1 c1, .int .i64 i2] t (0, 0))) : w.cell? ⟨g, 0, none⟩ = some (.int .i64 i0) ∧ w.cell? ⟨g, 1, none⟩ = some (.slice A1 n1 c1) ∧ w.cell? ⟨g, 2, none⟩ = some (.int .i64 i2) := ⟨(blk_cell h 0).trans rfl, (blk_cell h 1).trans rfl, (blk_cell h 2).trans rfl⟩
theorem z40_ {w : World} {g : Nat} {t : TypeId} {cs : Array Value} (h : w.heap[g]? = some (.cells cs t (0, 0))) : w.frozen? ⟨g, 0, none⟩ = false ∧ w.frozen? ⟨g, 1, none⟩ = false ∧ w.frozen? ⟨g, 2, none⟩ = false := ⟨blk_frozen h 0, blk_frozen h 1, blk_frozen h 2⟩
theorem y41_ {P : Prop} (h : P := by repeat (first | (with_reducible first | exact HB.out | apply below_alloc | apply pw_below_drewN | apply below_drew1 | refine below_set ?_ GE155.out) | exact HB.out)) : P := h
set_option maxHeartbeats 8000000 in
set_option maxRecDepth 100000 in
theorem impl_cloneSecrets.calls (k : Nat) (A0 : Option Addr) (c0 : Nat) (l0 : List (S36)) (r : List (S36)) (w : World) (hr0 : Kd.C k36 w A0 l0.length l0) (hc0 : l0.length ≤ c0) (h : impl_cloneSecrets.f k l0 = some r) :
    Calls Try.prog 59 #[.slice A0 l0.length c0] w fun e w' => ∃ v0_ : Value, e = .returned (v0_) ∧ Kd.S k36 36 w' w.heap.size (fun _ => True) v0_ r ∧ Below w.heap.size w w' := by
  have hu36 := Try.underlying36
  have HR0 := Aside0.mk hr0
  have HC0 := Aside0.mk hc0
  clear hr0 hc0
  have HB := Aside0.mk (Below.refl w.heap.size w)
  have H : (impl_cloneSecrets.l0 k (([] : List (S36))) l0 (l0.length : Int) 0) = some r := h
  clear h
  obtain ⟨y151, hy151⟩ : ∃ y_ : List (S36), y_ = (([] : List (S36))) := ⟨_, rfl⟩
  replace H : (impl_cloneSecrets.l0 k y151 l0 (l0.length : Int) 0) = some r := by first | (rw [hy151]; with_reducible exact H) | (have H2_ := (Option.bind_some _ _).symm.trans H; rw [hy151]; with_reducible exact H2_) | (have H2_ := (Option.bind_some _ _).symm.trans H; with_reducible exact H2_) | with_reducible exact H | (rw [hy151]; exact H) | exact H
  have Ny151 := Aside0.mk hy151
  clear hy151
  have H' := Aside0.mk H
  clear H
  go_enter Try.func59, Try.ntmps59
  go_wp2_with (first | ((with_reducible refine gate_dst (N := 6) rfl ?_); refine Kd.S_lit k36 _ 36 ?hg (N := 6) ?hd (xs := ([] : List (S36))) (inner := []) (ok := fun _ => True) (okp := fun _ => True) ?hr ?hp (fun _ hk => hk) trivial (Below.refl _ _) (Nat.le_refl _) (by simp) ?_; (case hd => rfl); (case hg => rfl); (case hr => first | (go_simp; done) | (go_simp; rfl)); (case hp => exact (Reps.none _ _)); intro v152 w2 ho3 hb hg_ hnew_; clear hg_ hnew_; (first | rw [← Ny151.out] at ho3 | (simp only [Int.reduceToNat] at ho3; rw [← Ny151.out] at ho3)); have HO153 := Aside0.mk (Kd.S_lower ho3 (below_size (hd_ HB.out))); have n1_ := Aside0.mk (below_step (hd_ HB.out) hb); clear HB; have HB := n1_; clear n1_; clear hb ho3))
  go_loopg [3, 9] k (fun kq v3 v9 w' => ∃ (x3_1 : List (S36)) (x9_1 : Int), v9 = .int .i64 x9_1 ∧ Aside0 (impl_cloneSecrets.l0 kq x3_1 l0 (l0.length : Int) x9_1 = some r) ∧ Aside0 (kq ≤ k) ∧ Aside0 (Kd.S k36 36 w' w.heap.size (fun _ => True) v3 x3_1) ∧ Aside0 (Below w.heap.size w w'))
  case atStart => exact ⟨(y151), (0), (by first | rfl | (simp; done) | (simp [*]; done)), H', ⟨Nat.le_refl _⟩, ⟨by (with_reducible repeat (first | apply Kd.S_alloc | apply Kd.S_drewN | apply Kd.S_drew)); exact HO153.out⟩, ⟨hd_ HB.out⟩⟩
  case round =>
    clear H'
    try clear p2
    obtain ⟨x3_1, x9_1, rfl, HA, HK1, HO_3, HB⟩ := hrel
    cases gk with
    | zero => exact absurd HA.out (by simp [impl_cloneSecrets.l0])
    | succ k1 =>
      have H := HA.out
      clear HA
      simp only [impl_cloneSecrets.l0] at H
      by_cases c4 : x9_1 < (l0.length : Int)
      · rw [if_pos c4] at H
        have c4b0 : decide (x9_1 < (l0.length : Int)) = true := decide_eq_true c4
        clear c4
        by_cases c5 : 0 ≤ x9_1
        · rw [if_pos c5] at H
          have c5b0 : decide (0 ≤ x9_1) = true := decide_eq_true c5
          clear c5
          by_cases c6 : x9_1 < (l0.length : Int)
          · rw [if_pos c6] at H
            have c6b0 : decide (x9_1 < (l0.length : Int)) = true := decide_eq_true c6
            clear c6
            replace H := Option.bind_eq_some_iff.mp H
            obtain ⟨t156, A70, H⟩ := H
            replace H : (if x3_1.length < 3518437208883 then (impl_cloneSecrets.l0 k1 (x3_1 ++ [(⟨(rd_T36 l0 x9_1).f0, t156, (rd_T36 l0 x9_1).f2⟩ : S36)]) l0 (l0.length : Int) (wrap64 (x9_1 + 1))) else (none)) = some r := H
            have A7 := Aside0.mk A70
            clear A70
            by_cases c8 : x3_1.length < 3518437208883
            · rw [if_pos c8] at H
              have LMc8 := Aside0.mk c8
              clear c8
              obtain ⟨y159, hy159⟩ : ∃ y_ : List (S36), y_ = (x3_1 ++ [(⟨(rd_T36 l0 x9_1).f0, t156, (rd_T36 l0 x9_1).f2⟩ : S36)]) := ⟨_, rfl⟩
              replace H : (impl_cloneSecrets.l0 k1 y159 l0 (l0.length : Int) (wrap64 (x9_1 + 1))) = some r := by first | (rw [hy159]; with_reducible exact H) | (have H2_ := (Option.bind_some _ _).symm.trans H; rw [hy159]; with_reducible exact H2_) | (have H2_ := (Option.bind_some _ _).symm.trans H; with_reducible exact H2_) | with_reducible exact H | (rw [hy159]; exact H) | exact H
              have Ny159 := Aside0.mk hy159
              clear hy159
              have H' := Aside0.mk H
              clear H
              have p154 : 0 ≤ (x9_1 : Int) := of_decide_eq_true as_
              have q154 : x9_1 < (l0.length : Int) := of_decide_eq_true as_
              obtain ⟨ad154, A154_1, c154_1, e154, hx154_0, hx154_1, hx154_2, hl154_1, hi154_1⟩ := at_T36 HR0.out x9_1 p154 q154
              cases e154
              replace hx154_0 := cb_ HB.out hx154_0
              replace hx154_1 := cb_ HB.out hx154_1
              replace hx154_2 := cb_ HB.out hx154_2
              have HR154_1 := Aside0.mk hi154_1
              have HC154_1 := Aside0.mk hl154_1
              clear hi154_1 hl154_1
              replace p154 := eq_true p154
              replace q154 := eq_true q154
              go_wp2_with (first | ((with_reducible refine gate_dst (N := 5) rfl ?_); refine box_event ?hg (N := 5) ?hd (cs := #[.int .i64 0, .slice none 0 0, .int .i64 0]) (t := 36) ?hr ?_; (case hd => rfl); (case hg => rfl); (case hr => first | (go_simp; done) | (go_simp; rfl)); intro gb155 hg w9 hbox hb; have n0_ := Aside0.mk (Kd.S_below (Kd.S_elderB (by (with_reducible repeat (first | apply Kd.S_alloc | apply Kd.S_drewN | apply Kd.S_drew)); exact HO_3.out) gb155 (Nat.le_of_eq hg.symm)) hb); have n1_ := Aside0.mk (below_step (hd_ HB.out) hb); have BK155 := Aside0.mk (hbox); have GW155 := Aside0.mk ((by rw [hg]; exact (below_size (hd_ HB.out)) : w.heap.size ≤ gb155)); have GE155 := Aside0.mk ((by rw [hg]; exact (below_size (hd_ HB.out)) : w.heap.size ≤ gb155)); clear HO_3; clear HB; have HO_3 := n0_; have HB := n1_; clear n0_ n1_; clear hb hbox hg; obtain ⟨hcz10_0, hcz10_1, hcz10_2⟩ := e39_ BK155.out; obtain ⟨hfz10_0, hfz10_1, hfz10_2⟩ := z40_ BK155.out) | ((with_reducible refine gate_callee (f := 55) rfl ?_); refine goesL_ (some 15) rfl rfl Try.func55 (by kernel_rfl) rfl #[.slice A154_1 ((rd_T36 l0 x9_1).f1).length c154_1] rfl ma_ ?_; (with_reducible refine (impl_Mark_55.calls _ _ ((rd_T36 l0 x9_1).f1) t156 _ ?side1 ?side2 A7.out).mono ?_); (case side1 => exact Kd.C_below HR154_1.out y41_); (case side2 => exact HC154_1.out); rintro e w11 ⟨v157, rfl, ho0, hb⟩; refine ⟨_, rfl, ?_⟩; have n0_ := Aside0.mk (Kd.S_elder' (by (with_reducible repeat (first | apply Kd.S_alloc | apply Kd.S_drewN | apply Kd.S_drew)); exact (Kd.S_mono (Kd.S_far (p := ⟨gb155, 2, none⟩) (Kd.S_far (p := ⟨gb155, 1, none⟩) (Kd.S_far (p := ⟨gb155, 0, none⟩) (Kd.S_mono HO_3.out (fun k_ hk => (⟨hk, hk.2⟩ : _ ∧ k_ ≠ gb155))) (fun _ hk => hk.2) (.int .i64 ((rd_T36 l0 x9_1).f0))) (fun _ hk => hk.2) (.slice A154_1 ((rd_T36 l0 x9_1).f1).length c154_1)) (fun _ hk => hk.2) (.int .i64 ((rd_T36 l0 x9_1).f2))) (fun _ h_ => h_.1))) (Kd.R_base ho0) hb); have HO158 := Aside0.mk (Kd.R_lower ho0 (below_size y41_)); have n2_ := Aside0.mk (blk_below (g := gb155) (o := .cells #[.int .i64 ((rd_T36 l0 x9_1).f0), .slice A154_1 ((rd_T36 l0 x9_1).f1).length c154_1, .int .i64 ((rd_T36 l0 x9_1).f2)] 36 (0, 0)) (by (with_reducible repeat (first | refine blk_drewN ?_ _ | refine blk_drew ?_ | refine blk_alloc ?_ _)); refine blk_put (cs := #[.int .i64 ((rd_T36 l0 x9_1).f0), .slice A154_1 ((rd_T36 l0 x9_1).f1).length c154_1, .int .i64 0]) ?_ 2 _ rfl; (with_reducible repeat (first | refine blk_drewN ?_ _ | refine blk_drew ?_ | refine blk_alloc ?_ _)); refine blk_put (cs := #[.int .i64 ((rd_T36 l0 x9_1).f0), .slice none 0 0, .int .i64 0]) ?_ 1 _ rfl; (with_reducible repeat (first | refine blk_drewN ?_ _ | refine blk_drew ?_ | refine blk_alloc ?_ _)); refine blk_put (cs := #[.int .i64 0, .slice none 0 0, .int .i64 0]) ?_ 0 _ rfl; (with_reducible repeat (first | refine blk_drewN ?_ _ | refine blk_drew ?_ | refine blk_alloc ?_ _)); exact BK155.out) hb); have n3_ := Aside0.mk (below_step y41_ hb); clear HO_3; clear BK155; clear HB; have HO_3 := n0_; have BK155 := n2_; have HB := n3_; clear n0_ n2_ n3_; (try clear hb); (try clear hb2); (try clear hk); (try clear hi); (try clear ho0); obtain ⟨Ao12, co12, eo12⟩ := Kd.R_slice HO158.out; subst eo12; have hcz13_0 : w11.cell? ⟨gb155, 0, none⟩ = some (.int .i64 ((rd_T36 l0 x9_1).f0)) := (blk_cell BK155.out 0).trans rfl; have hcz13_1 : w11.cell? ⟨gb155, 1, none⟩ = some (.slice A154_1 ((rd_T36 l0 x9_1).f1).length c154_1) := (blk_cell BK155.out 1).trans rfl; have hcz13_2 : w11.cell? ⟨gb155, 2, none⟩ = some (.int .i64 ((rd_T36 l0 x9_1).f2)) := (blk_cell BK155.out 2).trans rfl; obtain ⟨hfz13_0, hfz13_1, hfz13_2⟩ := z40_ BK155.out) | ((with_reducible refine gate_store (t := 34) (p := 16) rfl ?_); refine store_event (t := 34) (p := 16) (v := ?vo_w14) (w1 := (w11.setCell ⟨gb155, 1, none⟩ (.slice Ao12 t156.length co12))) ?hg ?ho ?hn ?hr ?_; (case ho => rfl); (case hg => rfl); (case hn => rfl); (case hr => first | (go_simp; done) | (go_simp; rfl)); intro w14 hw; have n0_ : Aside0 (Kd.S k36 36 w14 w.heap.size (fun k_ => some k_ ≠ (.slice Ao12 t156.length co12 : Value).ownBlock ∧ k_ ≠ gb155) u3 x3_1) := ⟨(by rw [hw]; exact (by (with_reducible repeat (first | apply Kd.S_alloc | apply Kd.S_drewN | apply Kd.S_drew)); exact Kd.S_mono (Kd.S_far (p := ⟨gb155, 1, none⟩) (Kd.S_mono HO_3.out (fun k_ hk => (⟨hk, hk.1.2⟩ : _ ∧ k_ ≠ gb155))) (fun _ hk => hk.2) (.slice Ao12 t156.length co12)) (fun _ hk => ⟨hk.1.2, hk.1.1.2⟩)))⟩; have n1_ : Aside0 (Kd.R k67 67 w14 w.heap.size (fun _ => True) (.slice Ao12 t156.length co12) t156) := ⟨(by rw [hw]; exact (by (with_reducible repeat (first | apply Kd.R_alloc | apply Kd.R_drewN | apply Kd.R_drew)); exact Kd.R_mono (Kd.R_far (p := ⟨gb155, 1, none⟩) (Kd.R_types HO158.out BK155.out (by decide)) (fun _ hk => hk.2) (.slice Ao12 t156.length co12)) (fun _ hk => trivial)))⟩; have n2_ : Aside0 (w14.heap[gb155]? = some (.cells #[.int .i64 ((rd_T36 l0 x9_1).f0), .slice Ao12 t156.length co12, .int .i64 ((rd_T36 l0 x9_1).f2)] 36 (0, 0))) := ⟨(by rw [hw]; exact (by (with_reducible repeat (first | refine blk_drewN ?_ _ | refine blk_drew ?_ | refine blk_alloc ?_ _)); refine blk_put (cs := #[.int .i64 ((rd_T36 l0 x9_1).f0), .slice A154_1 ((rd_T36 l0 x9_1).f1).length c154_1, .int .i64 ((rd_T36 l0 x9_1).f2)]) ?_ 1 _ rfl; (with_reducible repeat (first | refine blk_drewN ?_ _ | refine blk_drew ?_ | refine blk_alloc ?_ _)); exact BK155.out))⟩; have n3_ : Aside0 (Below w.heap.size w w14) := ⟨(by rw [hw]; exact y41_)⟩; clear hw; clear HO_3; clear HO158; clear BK155; clear HB; have HO_3 := n0_; have HO158 := n1_; have BK155 := n2_; have HB := n3_; clear n0_ n1_ n2_ n3_; have hcz15_0 : w14.cell? ⟨gb155, 0, none⟩ = some (.int .i64 ((rd_T36 l0 x9_1).f0)) := (blk_cell BK155.out 0).trans rfl; have hcz15_1 : w14.cell? ⟨gb155, 1, none⟩ = some (.slice Ao12 t156.length co12) := (blk_cell BK155.out 1).trans rfl; have hcz15_2 : w14.cell? ⟨gb155, 2, none⟩ = some (.int .i64 ((rd_T36 l0 x9_1).f2)) := (blk_cell BK155.out 2).trans rfl; obtain ⟨hfz15_0, hfz15_1, hfz15_2⟩ := z40_ BK155.out) | ((with_reducible refine gate_builtin (b := .append) (xs := #[.tmp 17, .tmp 19]) rfl ?_); at_builtin; refine Kd.S_append k36 (w0 := w) w.heap.size rfl (.tmp 17) (.tmp 19) 25 36 (.agg #[(.int .i64 0), (.slice none 0 0), (.int .i64 0)]) 40 rfl Try.underlying25 info36 rfl (by decide) (by omega) u3 x3_1 (⟨(rd_T36 l0 x9_1).f0, t156, (rd_T36 l0 x9_1).f2⟩ : S36) [.int .i64 ((rd_T36 l0 x9_1).f0), .slice Ao12 t156.length co12, .int .i64 ((rd_T36 l0 x9_1).f2)] (fun k_ => k_ ≠ gb155) (fun k_ => some k_ = (.slice Ao12 t156.length co12 : Value).ownBlock) rfl rfl ?aP (fun k_ hk_ => ((Kd.R_mono (ok' := fun k_ => ((fun k_ => k_ ≠ gb155)) k_ ∧ some k_ ≠ (u3 : Value).ownBlock) (Kd.R_types (Kd.R_apart' (HO158.out) (Kd.S_typed HO_3.out) (by decide)) BK155.out (by decide)) (fun k_ hk => ⟨hk.2, hk.1.2⟩))).1 k_ hk_.symm) ?aF ?aO ?aB ?aS ?aL ?_; (case aP => exact k36_mkM _ _ _ (⟨(rd_T36 l0 x9_1).f0, t156, (rd_T36 l0 x9_1).f2⟩ : S36) (Kd.R_mono (Kd.R_tight rfl (Kd.R_mono (ok' := fun k_ => ((fun k_ => k_ ≠ gb155)) k_ ∧ some k_ ≠ (u3 : Value).ownBlock) (Kd.R_types (Kd.R_apart' (HO158.out) (Kd.S_typed HO_3.out) (by decide)) BK155.out (by decide)) (fun k_ hk => ⟨hk.2, hk.1.2⟩))) (fun _ h_ => h_))); (case aB => exact y41_); (case aF => exact (fun k_ hk => Kd.freshB (g := gb155) (o := .cells #[.int .i64 ((rd_T36 l0 x9_1).f0), .slice Ao12 t156.length co12, .int .i64 ((rd_T36 l0 x9_1).f2)] 36 (0, 0)) (bd_ BK155.out) k_ hk)); (case aO => exact (by (with_reducible repeat (first | apply Kd.S_alloc | apply Kd.S_drewN | apply Kd.S_drew)); exact Kd.S_mono HO_3.out (fun k_ hk => ⟨hk.2, fun e_ => hk.1 e_⟩))); (case aS => exact (below_size y41_)); (case aL => have := LMc8.out; omega); intro v160 w16 ho hb hg hat; rw [← Ny159.out] at ho; have n0_ := Aside0.mk (blk_grown (g := gb155) (o := .cells #[.int .i64 ((rd_T36 l0 x9_1).f0), .slice Ao12 t156.length co12, .int .i64 ((rd_T36 l0 x9_1).f2)] 36 (0, 0)) (bd_ BK155.out) hg (Kd.S_away HO_3.out (fun _ hk => hk.2))); have n1_ := Aside0.mk (hb); have HO161 := Aside0.mk (ho); clear BK155; clear HB; clear HO_3; clear HO158; have BK155 := n0_; have HB := n1_; clear n0_ n1_; clear ho hb hg hat))
              go_roundg k1
              case measure => have := HK1.out; omega
              case rel => exact ⟨(y159), (wrap64 (x9_1 + 1)), (by first | rfl | (simp; done) | (simp [*]; done)), H', ⟨by have := HK1.out; omega⟩, ⟨by (with_reducible repeat (first | apply Kd.S_alloc | apply Kd.S_drewN | apply Kd.S_drew)); exact Kd.S_mono HO161.out (fun _ hk => trivial)⟩, ⟨by repeat (first | (with_reducible first | exact HB.out | apply below_alloc | apply pw_below_drewN | apply below_drew1 | refine below_set ?_ GE155.out) | exact HB.out)⟩⟩
            · rw [if_neg c8] at H
              exact absurd H (by simp)
          · rw [if_neg c6] at H
            exact absurd H (by simp)
        · rw [if_neg c5] at H
          exact absurd H (by simp)
      · rw [if_neg c4] at H
        have c4b0 : decide (x9_1 < (l0.length : Int)) = false := decide_eq_false c4
        clear c4
        obtain rfl := Option.some.inj H
        go_wp2
        go_ret
        exact ⟨_, by first | rfl | (simp [errW_none, errW_some] <;> rfl) | (simp [*, errW_none, errW_some] <;> rfl), by (with_reducible repeat (first | apply Kd.S_alloc | apply Kd.S_drewN | apply Kd.S_drew)); exact HO_3.out, hd_ HB.out⟩

/-! ### impl_Secret_60: function 60 -/
open Classical in
/-- slices.Insert of one element: its blocks (okv) are none of the row's. -/
theorem impl_Secret_60.own (l0 : List S36) (u0 : Value) (i : Nat) (x : S36) (vb : Nat) (v1 : Value) (P0 okv : Nat → Prop) (base : Nat) (w : World) (ho0 : Kd.S k36 36 w base P0 u0 l0) (hv : w.heap[vb]? = some (.cells #[.int .i64 x.f0, v1, .int .i64 x.f2] 36 (0, 0))) (hbv : ¬ P0 vb)
    (hr : k67.R 67 w base okv v1 x.f1) (hdis : ∀ k, okv k → ¬ P0 k) (hi : i ≤ l0.length) (hbig : (l0.length + 1) * 40 ≤ 140737488355328) (hbase : base ≤ w.heap.size) :
    Calls Try.prog 60 #[u0, .int .i64 i, .slice (some ⟨vb, 0, none⟩) 1 1] w fun e w' => ∃ v, e = .returned v ∧ Kd.S k36 36 w' base (fun _ => True) v (l0.take i ++ x :: l0.drop i) ∧ (∀ k, k < w.heap.size → ¬ P0 k → w'.heap[k]? = w.heap[k]?) ∧ ∀ (B : Nat) (W : World), B ≤ base → Below B W w → Below B W w' := by
  obtain ⟨f, hok0, inner, ho, hrep⟩ := ho0
  rw [List.length_zipIdx] at ho
  have hil : inner.length = l0.length * 3 := ho.1
  have hM : ∀ j y, l0[j]? = some y → k36.M w base (fun k => (P0 k ∧ some k ≠ u0.ownBlock) ∧ f k = j) y ((inner.drop (j * 3)).take 3) := fun j y hj => hrep.2 j (y, j) (Kd.zip_at hj)
  have h1i : ∀ v ∈ inner, v.oneCell' = true := by
    intro v hv
    obtain ⟨q, hq, rfl⟩ := List.mem_iff_getElem.1 hv
    have hj : q / 3 < l0.length := by omega
    have h3 := k36.K_one (k36.K_of_M (hM (q / 3) _ (List.getElem?_eq_getElem hj)))
    refine h3 _ ?_
    rw [List.mem_iff_getElem?]
    refine ⟨q % 3, ?_⟩
    rw [List.getElem?_take, if_pos (by omega), List.getElem?_drop, show q / 3 * 3 + q % 3 = q by omega, List.getElem?_eq_getElem hq]
  obtain ⟨A1, c1, e1⟩ := Kd.R_slice hr
  have h1v : ∀ v ∈ [Value.int .i64 x.f0, v1, Value.int .i64 x.f2], v.oneCell' = true := by
    intro v hv
    rw [e1] at hv
    simp only [List.mem_cons, List.not_mem_nil, or_false] at hv
    rcases hv with rfl | rfl | rfl <;> rfl
  refine (Ins.all u0 l0.length i vb base inner (.int .i64 x.f0) v1 (.int .i64 x.f2) w ho hi hbig (fun e => hbv (hok0 vb e)) hbase hv h1i h1v).mono ?_
  rintro e w' ⟨v, rfl, ho', ⟨b, hvb, hb⟩, hkeep, hbel⟩
  refine ⟨v, rfl, ?_, fun k hk hn => hkeep k hk (fun e => hn (hok0 k e.symm)), hbel⟩
  have hlen : (l0.take i ++ x :: l0.drop i).length = l0.length + 1 := by simp; omega
  have hfr : ∀ k, ((P0 k ∧ some k ≠ u0.ownBlock) ∨ okv k) → k < w.heap.size → w'.heap[k]? = w.heap[k]? := by
    intro k hk hlt
    refine hkeep k hlt (fun e => ?_)
    rcases hk with h | h
    · exact h.2 e
    · exact hdis k h (hok0 k e.symm)
  have hfn : ∀ k, ((P0 k ∧ some k ≠ u0.ownBlock) ∨ okv k) → k < w.heap.size → some k ≠ v.ownBlock := by
    intro k hk hlt e
    rw [hvb] at e
    injection e with e
    subst e
    rcases hb with hb | hb
    · rcases hk with h | h
      · exact h.2 hb.symm
      · exact hdis k h (hok0 k hb)
    · omega
  let okj : Nat → Nat → Prop := fun j k => (if j = i then okv k else (P0 k ∧ some k ≠ u0.ownBlock) ∧ f k = (if j < i then j else j - 1)) ∧ k < w.heap.size
  have hor : ∀ j k, okj j k → ((P0 k ∧ some k ≠ u0.ownBlock) ∨ okv k) := by
    intro j k hk
    have h := hk.1
    split at h
    · exact .inr h
    · exact .inl h.1
  obtain ⟨f', hf'⟩ := Kd.reps_tag (d := k36) (w := w') (base := base) (ok := fun k => True ∧ some k ≠ v.ownBlock) (xs := l0.take i ++ x :: l0.drop i) (inner := inner.take (i * 3) ++ [.int .i64 x.f0, v1, .int .i64 x.f2] ++ inner.drop (i * 3)) okj
    (fun a b k ha hb => by
      have h1 := ha.1
      have h2 := hb.1
      split at h1 <;> split at h2
      · omega
      · exact absurd h2.1.1 (hdis k h1)
      · exact absurd h1.1.1 (hdis k h2)
      · have h3 := h1.2.symm.trans h2.2
        split at h3 <;> split at h3 <;> omega)
    (fun j k hk => ⟨trivial, hfn k (hor j k hk) hk.2⟩)
    (by rw [hlen]; simp [hil]; show _ = (l0.length + 1) * 3; omega)
    (fun j y hj => by
      show k36.M w' base (okj j) y ((_ : List Value).drop (j * 3) |>.take 3)
      refine Kd.M_step (w := w) ?_ (fun k hk hlt => hfr k (hor j k hk) hlt)
      rcases Nat.lt_trichotomy j i with h | h | h
      · rw [List.getElem?_append_left (by rw [List.length_take]; omega), List.getElem?_take, if_pos h] at hj
        have hm := k36.M_bound (hM j y hj)
        rw [show ((inner.take (i * 3) ++ [Value.int .i64 x.f0, v1, Value.int .i64 x.f2] ++ inner.drop (i * 3)).drop (j * 3)).take 3 = (inner.drop (j * 3)).take 3 from by
          rw [List.append_assoc, List.drop_append_of_le_length (by rw [List.length_take]; omega), List.take_append_of_le_length (by rw [List.length_drop, List.length_take]; omega), List.drop_take, List.take_take]
          congr 1
          omega]
        exact k36.M_mono (fun k hk => ⟨by rw [if_neg (by omega), if_pos h]; exact hk.1, hk.2.2.1⟩) hm
      · subst h
        rw [List.getElem?_append_right (by rw [List.length_take]; omega), List.length_take, Nat.min_eq_left hi, Nat.sub_self, List.getElem?_cons_zero] at hj
        injection hj with hj
        subst hj
        rw [show ((inner.take (j * 3) ++ [Value.int .i64 x.f0, v1, Value.int .i64 x.f2] ++ inner.drop (j * 3)).drop (j * 3)).take 3 = [Value.int .i64 x.f0, v1, Value.int .i64 x.f2] from by
          rw [List.append_assoc, List.drop_left' (by rw [List.length_take]; omega)]
          rfl]
        exact k36_mkM w base _ x (Kd.R_mono (Kd.R_bound hr) (fun k hk => ⟨by rw [if_pos rfl]; exact hk.1, hk.2.2.1⟩))
      · rw [List.getElem?_append_right (by rw [List.length_take]; omega), List.length_take, Nat.min_eq_left hi, show j - i = (j - i - 1) + 1 by omega, List.getElem?_cons_succ, List.getElem?_drop, show i + (j - i - 1) = j - 1 by omega] at hj
        have hm := k36.M_bound (hM (j - 1) y hj)
        rw [show ((inner.take (i * 3) ++ [Value.int .i64 x.f0, v1, Value.int .i64 x.f2] ++ inner.drop (i * 3)).drop (j * 3)).take 3 = (inner.drop ((j - 1) * 3)).take 3 from by
          rw [show j * 3 = (inner.take (i * 3) ++ [Value.int .i64 x.f0, v1, Value.int .i64 x.f2]).length + ((j - 1) * 3 - i * 3) by simp; omega, List.drop_length_add_append, List.drop_drop]
          congr 2
          omega]
        exact k36.M_mono (fun k hk => ⟨by rw [if_neg (by omega), if_neg (by omega)]; exact hk.1, hk.2.2.1⟩) hm)
  exact ⟨f', fun _ _ => trivial, _, by rw [List.length_zipIdx, hlen]; exact ho', hf'⟩


/-! ### impl_PutSecret: function 31 -/
/-- Where a thing belongs. -/
def impl_PutSecret.pos : List S36 → Int → Nat
  | [], _ => 0
  | y :: l, t => if y.f0 < t then impl_PutSecret.pos l t + 1 else 0
theorem impl_PutSecret.pos_le : ∀ (l : List S36) (t : Int), impl_PutSecret.pos l t ≤ l.length
  | [], _ => Nat.le_refl _
  | y :: l, t => by
    rw [impl_PutSecret.pos]
    split
    · rw [List.length_cons]; exact Nat.succ_le_succ (impl_PutSecret.pos_le l t)
    · exact Nat.zero_le _
def impl_PutSecret.f (k : Nat) (l0 : List S36) (a1_0 : Int) (l1_1 : List S67) (a1_2 : Int) : Option (List S36 × Bool) := (impl_cloneSecrets.f k l0).bind fun y => ((impl_secretOf.f l0 a1_0).bind fun s => (if s ≥ 0 then (some (y, false)) else ((impl_Mark_55.f l1_1).bind fun m => (if impl_PutSecret.pos l0 a1_0 ≤ y.length ∧ (y.length + 1) * 40 ≤ 140737488355328 then ((impl_AreSecrets.f k (y.take (impl_PutSecret.pos l0 a1_0) ++ (⟨a1_0, m, a1_2⟩ : S36) :: y.drop (impl_PutSecret.pos l0 a1_0))).bind fun b => (if b = true then (some (y.take (impl_PutSecret.pos l0 a1_0) ++ (⟨a1_0, m, a1_2⟩ : S36) :: y.drop (impl_PutSecret.pos l0 a1_0), true)) else ((impl_cloneSecrets.f k l0).bind fun z => (some (z, false))))) else (none)))))
theorem impl_PutSecret.mono : ∀ a0 a1 a2 a3 k, LeO (impl_PutSecret.f k a0 a1 a2 a3) (impl_PutSecret.f (k + 1) a0 a1 a2 a3) := by
  intro a0 a1 a2 a3 k
  unfold impl_PutSecret.f
  repeat' first
    | (with_reducible exact impl_cloneSecrets.mono _ _)
    | (with_reducible exact impl_AreSecrets.mono _ _)
    | (with_reducible exact LeO.refl _)
    | (with_reducible exact LeO.none _)
    | (with_reducible refine LeO.ite ?_ ?_)
    | (with_reducible refine LeO.bind ?_ (fun _ => ?_))
theorem impl_PutSecret.rng {w : World} {b base : Nat} {ok : Nat → Prop} {v : Value} {xs : List S36} (h : Kd.S k36 36 w base ok v xs) (hb : b ≤ base) : Kd.S k36 36 w b (fun q => base ≤ q ∧ q < w.heap.size) v xs := by
  obtain ⟨f, hR⟩ := h
  exact ⟨f, Kd.R_lower (Kd.R_mono (Kd.R_bound hR) (fun q hq => ⟨hq.2.1, hq.2.2.1⟩)) hb⟩
theorem impl_PutSecret.stp {w w1 : World} {base : Nat} {ok : Nat → Prop} {v : Value} {xs : List S36} (h : Kd.S k36 36 w base ok v xs) (hm : ∀ q, ok q → q < w.heap.size → w1.heap[q]? = w.heap[q]?) : Kd.S k36 36 w1 base ok v xs := by
  obtain ⟨f, hR⟩ := h
  exact ⟨f, Kd.R_step hR hm⟩
theorem impl_PutSecret.pos_at (l : List S36) (t z : Int) (h0 : 0 ≤ z) (h1 : z < l.length) : impl_PutSecret.pos (l.drop z.toNat) t = if (rd_T36 l z).f0 < t then impl_PutSecret.pos (l.drop (z + 1).toNat) t + 1 else 0 := by
  have hl : z.toNat < l.length := by omega
  rw [List.drop_eq_getElem_cons hl, show (z + 1).toNat = z.toNat + 1 by omega, show rd_T36 l z = l[z.toNat] from by unfold rd_T36; rw [List.getD_eq_getElem?_getD, List.getElem?_eq_getElem hl]; rfl]
  rfl
set_option maxHeartbeats 8000000 in
set_option maxRecDepth 100000 in
theorem impl_PutSecret.calls (k : Nat) (A0 : Option Addr) (c0 : Nat) (l0 : List (S36)) (a1_0 : Int) (A1_1 : Option Addr) (c1_1 : Nat) (l1_1 : List (S67)) (a1_2 : Int) (r1 : List (S36)) (r2 : Bool) (w : World) (hr0 : Kd.C k36 w A0 l0.length l0) (hc0 : l0.length ≤ c0) (hr1_1 : Kd.C k67 w A1_1 l1_1.length l1_1) (hc1_1 : l1_1.length ≤ c1_1) (h : impl_PutSecret.f k l0 a1_0 l1_1 a1_2 = some (r1, r2)) :
    Calls Try.prog 31 #[.slice A0 l0.length c0, .agg #[.int .i64 a1_0, .slice A1_1 l1_1.length c1_1, .int .i64 a1_2]] w fun e w' => ∃ v0_ : Value, e = .returned (.tuple #[v0_, .bool r2]) ∧ Kd.S k36 36 w' w.heap.size (fun _ => True) v0_ r1 ∧ Below w.heap.size w w' := by
  have hu36 := Try.underlying36
  have HR0 := Aside0.mk hr0
  have HC0 := Aside0.mk hc0
  have HR1 := Aside0.mk hr1_1
  have HC1 := Aside0.mk hc1_1
  have hmax := Kd.C_max hr0
  unfold impl_PutSecret.f at h
  obtain ⟨y, hy, h⟩ := Option.bind_eq_some_iff.mp h
  obtain ⟨s, hs, h⟩ := Option.bind_eq_some_iff.mp h
  have HY := Aside0.mk hy
  have HS := Aside0.mk hs
  have H := Aside0.mk h
  have HB := Aside0.mk (Below.refl w.heap.size w)
  clear hr0 hc0 hr1_1 hc1_1 hy hs h
  go_enter Try.func31, Try.ntmps31
  go_upto_if 14 with (first | ((with_reducible refine gate_dst (N := 3) rfl ?_); refine box_event ?hg (N := 3) ?hd (cs := #[.int .i64 a1_0, .slice A1_1 l1_1.length c1_1, .int .i64 a1_2]) (t := 36) ?hr ?_; (case hd => rfl); (case hg => rfl); (case hr => first | (go_simp; done) | (go_simp; rfl)); intro gb hg w1 hbox hb; have n0_ := Aside0.mk (below_step HB.out hb); have BK := Aside0.mk hbox; have GB := Aside0.mk (show w.heap.size ≤ gb by rw [hg]; exact below_size HB.out); clear HB; have HB := n0_; clear n0_ hb hbox hg) | (go_at_call 59; refine (impl_cloneSecrets.calls k _ _ l0 y _ (Kd.C_below HR0.out HB.out) HC0.out HY.out).mono ?_; rintro e w2 ⟨v2, rfl, hs2, hb⟩; have HW1 := Aside0.mk (blk_lt BK.out); have HS2 := Aside0.mk (impl_PutSecret.rng hs2 (below_size HB.out)); have HT := Aside0.mk (Nat.le_refl w2.heap.size); have HW2 := Aside0.mk hb.size; have n0_ := Aside0.mk (below_step HB.out hb); have n1_ := Aside0.mk (blk_below BK.out hb); clear HB BK; have HB := n0_; have BK := n1_; clear n0_ n1_ hs2 hb; have hx0 := (blk_cell BK.out 0).trans (show (#[.int .i64 a1_0, .slice A1_1 l1_1.length c1_1, .int .i64 a1_2] : Array Value)[0]? = some (.int .i64 a1_0) from rfl)) | (go_at_call 54; refine (impl_secretOf.calls _ _ l0 a1_0 s _ (Kd.C_below HR0.out HB.out) HC0.out HS.out).mono ?_; rintro e w3 ⟨rfl, hb⟩; have n0_ := Aside0.mk (below_step HB.out hb); have n1_ := Aside0.mk (blk_below BK.out hb); have n2_ := Aside0.mk (Kd.S_below HS2.out hb); have n3_ := Aside0.mk (Nat.le_trans HT.out hb.size); clear HB BK HS2 HT; have HB := n0_; have BK := n1_; have HS2 := n2_; have HT := n3_; clear n0_ n1_ n2_ n3_ hb hx0))
  by_cases c1 : s ≥ 0
  · have hd : decide (0 ≤ s) = true := decide_eq_true c1
    have h := H.out
    rw [if_pos c1] at h
    simp only [Option.some.injEq, Prod.mk.injEq] at h
    obtain ⟨rfl, rfl⟩ := h
    clear c1 H
    rw [hd]
    go_wp2
    go_ret2
    exact ⟨v2, rfl, Kd.S_mono HS2.out (fun _ _ => trivial), HB.out⟩
  · have hd : decide (0 ≤ s) = false := decide_eq_false c1
    have h := H.out
    rw [if_neg c1] at h
    obtain ⟨m, hm, h⟩ := Option.bind_eq_some_iff.mp h
    have HM := Aside0.mk hm
    have H2 := Aside0.mk h
    clear c1 H h hm
    rw [hd]
    go_upto_block 0 with (fail)
    go_cut [7] (fun v7 wc => v7 = .int .i64 (impl_PutSecret.pos l0 a1_0 : Nat) ∧ Aside0 (Below w.heap.size w wc) ∧ Aside0 (wc.heap[gb]? = some (.cells #[.int .i64 a1_0, .slice A1_1 l1_1.length c1_1, .int .i64 a1_2] 36 (0, 0))) ∧ Aside0 (Kd.S k36 36 wc w.heap.size (fun q => w1.heap.size ≤ q ∧ q < w2.heap.size) v2 y) ∧ Aside0 (w2.heap.size ≤ wc.heap.size))
    case first =>
      go_wp2
      go_loopg [7] l0.length (fun gg v7 wr => ∃ z : Int, v7 = .int .i64 z ∧ Aside0 (0 ≤ z) ∧ Aside0 (z ≤ (l0.length : Int)) ∧ Aside0 ((l0.length : Int) - z ≤ gg) ∧ Aside0 (z + (impl_PutSecret.pos (l0.drop z.toNat) a1_0 : Nat) = (impl_PutSecret.pos l0 a1_0 : Nat)) ∧ Aside0 (Below w.heap.size w wr) ∧ Aside0 (wr.heap[gb]? = some (.cells #[.int .i64 a1_0, .slice A1_1 l1_1.length c1_1, .int .i64 a1_2] 36 (0, 0))) ∧ Aside0 (Kd.S k36 36 wr w.heap.size (fun q => w1.heap.size ≤ q ∧ q < w2.heap.size) v2 y) ∧ Aside0 (w2.heap.size ≤ wr.heap.size))
      case atStart => exact ⟨0, rfl, ⟨by omega⟩, ⟨by omega⟩, ⟨by omega⟩, ⟨by simp⟩, HB, BK, HS2, HT⟩
      case round =>
        clear HB BK HS2 HT
        obtain ⟨z, rfl, Z0, Z1, ZG, ZP, HB, BK, HS2, HT⟩ := hrel
        have hx0 := (blk_cell BK.out 0).trans (show (#[.int .i64 a1_0, .slice A1_1 l1_1.length c1_1, .int .i64 a1_2] : Array Value)[0]? = some (.int .i64 a1_0) from rfl)
        by_cases hlt : z < (l0.length : Int)
        · have p1 : 0 ≤ z := Z0.out
          have PA := Aside0.mk (impl_PutSecret.pos_at l0 a1_0 z p1 hlt)
          obtain ⟨ad, A_, c_, e, hx1, hx2, hx3, _, _⟩ := at_T36 HR0.out z p1 hlt
          cases e
          replace hx1 := pw_cell_below HB.out hx1
          clear hx2 hx3
          have HL := Aside0.mk hlt
          have hltb : decide (z < (l0.length : Int)) = true := decide_eq_true hlt
          have hwr : wrap64 (z + 1) = z + 1 := by unfold wrap64; omega
          by_cases c2 : (rd_T36 l0 z).f0 < a1_0
          · have c2b : decide ((rd_T36 l0 z).f0 < a1_0) = true := decide_eq_true c2
            have PB := Aside0.mk (PA.out.trans (if_pos c2))
            clear c2 PA
            replace p1 := eq_true p1
            replace hlt := eq_true hlt
            go_wp2
            go_quiet (fail)
            go_wp2
            go_roundg ((l0.length : Int) - (z + 1)).toNat
            case measure => have := Z0.out; have := HL.out; have := ZG.out; omega
            case rel =>
              exact ⟨z + 1, (by first | rfl | (simp; done) | (simp [*]; done)), ⟨by have := Z0.out; omega⟩, ⟨by have := HL.out; omega⟩, ⟨by have := HL.out; omega⟩, ⟨by have := ZP.out; have := PB.out; omega⟩, ⟨pw_below_drewN HB.out _⟩, ⟨blk_drewN BK.out _⟩, ⟨Kd.S_drewN HS2.out _⟩, ⟨HT.out⟩⟩
          · have c2b : decide ((rd_T36 l0 z).f0 < a1_0) = false := decide_eq_false c2
            have PB := Aside0.mk (PA.out.trans (if_neg c2))
            clear c2 PA
            replace p1 := eq_true p1
            replace hlt := eq_true hlt
            go_wp2
            go_quiet (fail)
            go_wp2
            go_meet
            case rel =>
              exact ⟨by rw [show z = (impl_PutSecret.pos l0 a1_0 : Nat) by have := ZP.out; have := PB.out; omega], ⟨pw_below_drewN HB.out _⟩, ⟨blk_drewN BK.out _⟩, ⟨Kd.S_drewN HS2.out _⟩, ⟨HT.out⟩⟩
        · have hltb : decide (z < (l0.length : Int)) = false := decide_eq_false hlt
          have PB := Aside0.mk (show z = (impl_PutSecret.pos l0 a1_0 : Nat) by
            have h1 := ZP.out
            rw [List.drop_eq_nil_of_le (by have := Z1.out; omega)] at h1
            simpa [impl_PutSecret.pos] using h1)
          clear hlt
          go_wp2
          go_quiet (fail)
          go_wp2
          go_meet
          case rel =>
            exact ⟨by rw [PB.out], ⟨pw_below_drewN HB.out _⟩, ⟨blk_drewN BK.out _⟩, ⟨Kd.S_drewN HS2.out _⟩, ⟨HT.out⟩⟩
    case rest =>
      clear HB BK HS2 HT
      obtain ⟨rfl, HB, BK, HS2, HT⟩ := hcut
      have hx1 := (blk_cell BK.out 1).trans (show (#[.int .i64 a1_0, .slice A1_1 l1_1.length c1_1, .int .i64 a1_2] : Array Value)[1]? = some (.slice A1_1 l1_1.length c1_1) from rfl)
      have h := H2.out
      by_cases cp : impl_PutSecret.pos l0 a1_0 ≤ y.length ∧ (y.length + 1) * 40 ≤ 140737488355328
      · rw [if_pos cp] at h
        obtain ⟨b, hb, h⟩ := Option.bind_eq_some_iff.mp h
        obtain ⟨out, hout⟩ : ∃ out, out = y.take (impl_PutSecret.pos l0 a1_0) ++ (⟨a1_0, m, a1_2⟩ : S36) :: y.drop (impl_PutSecret.pos l0 a1_0) := ⟨_, rfl⟩
        rw [← hout] at hb h
        have HO := Aside0.mk hout
        have HA := Aside0.mk hb
        have HP := Aside0.mk cp.1
        have HG := Aside0.mk cp.2
        clear hout hb cp H2
        cases b with
        | true =>
          rw [if_pos rfl] at h
          simp only [Option.some.injEq, Prod.mk.injEq] at h
          obtain ⟨rfl, rfl⟩ := h
          go_wp2_with (first | (go_at_call 55; refine (impl_Mark_55.calls _ _ l1_1 m _ (Kd.C_below HR1.out HB.out) HC1.out HM.out).mono ?_; rintro e w5 ⟨v5, rfl, hr5, hb⟩; obtain ⟨A5, c5, e5⟩ := Kd.R_slice hr5; subst e5; have n0_ := Aside0.mk (below_step HB.out hb); have n1_ := Aside0.mk (blk_below BK.out hb); have n2_ := Aside0.mk (Kd.S_below HS2.out hb); have HR5 := Aside0.mk (Kd.R_mono (Kd.R_lower (Kd.R_bound hr5) (below_size HB.out)) (ok' := fun q => w2.heap.size ≤ q ∧ q < w5.heap.size) (fun q hq => ⟨Nat.le_trans HT.out hq.2.1, hq.2.2.1⟩)); have n3_ := Aside0.mk (Nat.le_trans HT.out hb.size); clear HB BK HS2 HT hx1; have HB := n0_; have BK := n1_; have HS2 := n2_; have HT := n3_; clear n0_ n1_ n2_ n3_ hb hr5; have hx1 := (blk_cell BK.out 1).trans (show (#[.int .i64 a1_0, .slice A1_1 l1_1.length c1_1, .int .i64 a1_2] : Array Value)[1]? = some (.slice A1_1 l1_1.length c1_1) from rfl); have hf1 := blk_frozen BK.out 1) | ((with_reducible refine gate_store (t := 34) (p := 35) rfl ?_); refine store_event (t := 34) (p := 35) (v := ?vo_w6) (w1 := (w5.setCell ⟨gb, 1, none⟩ (.slice A5 m.length c5))) ?hg ?ho ?hn ?hr ?_; (case ho => rfl); (case hg => rfl); (case hn => rfl); (case hr => first | (go_simp; done) | (go_simp; rfl)); intro w6 hw; have n0_ := Aside0.mk (show Below w.heap.size w w6 by rw [hw]; exact below_set HB.out GB.out); have n1_ := Aside0.mk (show w6.heap[gb]? = some (.cells #[.int .i64 a1_0, .slice A5 m.length c5, .int .i64 a1_2] 36 (0, 0)) by rw [hw]; exact heap_setCell_same w5 gb 1 _ 36 _ BK.out); have n2_ := Aside0.mk (impl_PutSecret.stp (w1 := w6) HS2.out (fun q hq _ => by rw [hw]; exact Below.heap_setCell _ _ _ _ (by have := HW1.out; show q ≠ gb; omega))); have n3_ := Aside0.mk (Kd.R_step (w1 := w6) HR5.out (fun q hq _ => by rw [hw]; exact Below.heap_setCell _ _ _ _ (by have := HW1.out; have := HW2.out; show q ≠ gb; omega))); have n4_ := Aside0.mk (show w2.heap.size ≤ w6.heap.size by rw [hw]; simpa [World.setCell] using HT.out); have HT5 := Aside0.mk (show w5.heap.size ≤ w6.heap.size by rw [hw]; simp [World.setCell]); clear HB BK HS2 HR5 HT hx1 hf1 hw; have HB := n0_; have BK := n1_; have HS2 := n2_; have HR5 := n3_; have HT := n4_; clear n0_ n1_ n2_ n3_ n4_; have hx0 := (blk_cell BK.out 0).trans (show (#[.int .i64 a1_0, .slice A5 m.length c5, .int .i64 a1_2] : Array Value)[0]? = some (.int .i64 a1_0) from rfl); have hx1 := (blk_cell BK.out 1).trans (show (#[.int .i64 a1_0, .slice A5 m.length c5, .int .i64 a1_2] : Array Value)[1]? = some (.slice A5 m.length c5) from rfl); have hx2 := (blk_cell BK.out 2).trans (show (#[.int .i64 a1_0, .slice A5 m.length c5, .int .i64 a1_2] : Array Value)[2]? = some (.int .i64 a1_2) from rfl)) | (go_at_call 60; refine (impl_Secret_60.own y v2 (impl_PutSecret.pos l0 a1_0) ⟨a1_0, m, a1_2⟩ w6.heap.size (.slice A5 m.length c5) (fun q => w1.heap.size ≤ q ∧ q < w2.heap.size) (fun q => w2.heap.size ≤ q ∧ q < w5.heap.size) w.heap.size _ (Kd.S_alloc HS2.out _) (heap_alloc_new w6 _) (fun hq => by have := HT.out; omega) (Kd.R_alloc HR5.out _) (fun q h1 h2 => by omega) HP.out HG.out (below_size (below_alloc HB.out _))).mono ?_; rintro e w8 ⟨v8, rfl, hs8, _, hbel⟩; rw [← HO.out] at hs8; have HS8 := Aside0.mk hs8; have n0_ := Aside0.mk (hbel _ _ (Nat.le_refl _) (below_alloc HB.out _)); clear HB HS2 HR5 HT HT5 BK hx0 hx1 hx2 hs8 hbel; have HB := n0_; clear n0_; obtain ⟨A8, c8, e8⟩ := Kd.S_slice HS8.out; subst e8) | (go_at_call 13; refine (impl_AreSecrets.calls k _ _ out _ _ (Kd.S_reads' HS8.out).2.2 (Kd.S_reads' HS8.out).2.1 HA.out).mono ?_; rintro e w9 ⟨rfl, hb⟩; have n0_ := Aside0.mk (below_step HB.out hb); have n1_ := Aside0.mk (Kd.S_below HS8.out hb); clear HB HS8; have HB := n0_; have HS8 := n1_; clear n0_ n1_ hb))
          go_ret2
          exact ⟨_, rfl, Kd.S_mono HS8.out (fun _ _ => trivial), HB.out⟩
        | false =>
          rw [if_neg (by simp)] at h
          obtain ⟨z, hz, h⟩ := Option.bind_eq_some_iff.mp h
          simp only [Option.some.injEq, Prod.mk.injEq] at h
          obtain ⟨rfl, rfl⟩ := h
          have HZ := Aside0.mk hz
          clear hz
          go_wp2_with (first | (go_at_call 55; refine (impl_Mark_55.calls _ _ l1_1 m _ (Kd.C_below HR1.out HB.out) HC1.out HM.out).mono ?_; rintro e w5 ⟨v5, rfl, hr5, hb⟩; obtain ⟨A5, c5, e5⟩ := Kd.R_slice hr5; subst e5; have n0_ := Aside0.mk (below_step HB.out hb); have n1_ := Aside0.mk (blk_below BK.out hb); have n2_ := Aside0.mk (Kd.S_below HS2.out hb); have HR5 := Aside0.mk (Kd.R_mono (Kd.R_lower (Kd.R_bound hr5) (below_size HB.out)) (ok' := fun q => w2.heap.size ≤ q ∧ q < w5.heap.size) (fun q hq => ⟨Nat.le_trans HT.out hq.2.1, hq.2.2.1⟩)); have n3_ := Aside0.mk (Nat.le_trans HT.out hb.size); clear HB BK HS2 HT hx1; have HB := n0_; have BK := n1_; have HS2 := n2_; have HT := n3_; clear n0_ n1_ n2_ n3_ hb hr5; have hx1 := (blk_cell BK.out 1).trans (show (#[.int .i64 a1_0, .slice A1_1 l1_1.length c1_1, .int .i64 a1_2] : Array Value)[1]? = some (.slice A1_1 l1_1.length c1_1) from rfl); have hf1 := blk_frozen BK.out 1) | ((with_reducible refine gate_store (t := 34) (p := 35) rfl ?_); refine store_event (t := 34) (p := 35) (v := ?vo_w6) (w1 := (w5.setCell ⟨gb, 1, none⟩ (.slice A5 m.length c5))) ?hg ?ho ?hn ?hr ?_; (case ho => rfl); (case hg => rfl); (case hn => rfl); (case hr => first | (go_simp; done) | (go_simp; rfl)); intro w6 hw; have n0_ := Aside0.mk (show Below w.heap.size w w6 by rw [hw]; exact below_set HB.out GB.out); have n1_ := Aside0.mk (show w6.heap[gb]? = some (.cells #[.int .i64 a1_0, .slice A5 m.length c5, .int .i64 a1_2] 36 (0, 0)) by rw [hw]; exact heap_setCell_same w5 gb 1 _ 36 _ BK.out); have n2_ := Aside0.mk (impl_PutSecret.stp (w1 := w6) HS2.out (fun q hq _ => by rw [hw]; exact Below.heap_setCell _ _ _ _ (by have := HW1.out; show q ≠ gb; omega))); have n3_ := Aside0.mk (Kd.R_step (w1 := w6) HR5.out (fun q hq _ => by rw [hw]; exact Below.heap_setCell _ _ _ _ (by have := HW1.out; have := HW2.out; show q ≠ gb; omega))); have n4_ := Aside0.mk (show w2.heap.size ≤ w6.heap.size by rw [hw]; simpa [World.setCell] using HT.out); have HT5 := Aside0.mk (show w5.heap.size ≤ w6.heap.size by rw [hw]; simp [World.setCell]); clear HB BK HS2 HR5 HT hx1 hf1 hw; have HB := n0_; have BK := n1_; have HS2 := n2_; have HR5 := n3_; have HT := n4_; clear n0_ n1_ n2_ n3_ n4_; have hx0 := (blk_cell BK.out 0).trans (show (#[.int .i64 a1_0, .slice A5 m.length c5, .int .i64 a1_2] : Array Value)[0]? = some (.int .i64 a1_0) from rfl); have hx1 := (blk_cell BK.out 1).trans (show (#[.int .i64 a1_0, .slice A5 m.length c5, .int .i64 a1_2] : Array Value)[1]? = some (.slice A5 m.length c5) from rfl); have hx2 := (blk_cell BK.out 2).trans (show (#[.int .i64 a1_0, .slice A5 m.length c5, .int .i64 a1_2] : Array Value)[2]? = some (.int .i64 a1_2) from rfl)) | (go_at_call 60; refine (impl_Secret_60.own y v2 (impl_PutSecret.pos l0 a1_0) ⟨a1_0, m, a1_2⟩ w6.heap.size (.slice A5 m.length c5) (fun q => w1.heap.size ≤ q ∧ q < w2.heap.size) (fun q => w2.heap.size ≤ q ∧ q < w5.heap.size) w.heap.size _ (Kd.S_alloc HS2.out _) (heap_alloc_new w6 _) (fun hq => by have := HT.out; omega) (Kd.R_alloc HR5.out _) (fun q h1 h2 => by omega) HP.out HG.out (below_size (below_alloc HB.out _))).mono ?_; rintro e w8 ⟨v8, rfl, hs8, _, hbel⟩; rw [← HO.out] at hs8; have HS8 := Aside0.mk hs8; have n0_ := Aside0.mk (hbel _ _ (Nat.le_refl _) (below_alloc HB.out _)); clear HB HS2 HR5 HT HT5 BK hx0 hx1 hx2 hs8 hbel; have HB := n0_; clear n0_; obtain ⟨A8, c8, e8⟩ := Kd.S_slice HS8.out; subst e8) | (go_at_call 13; refine (impl_AreSecrets.calls k _ _ out _ _ (Kd.S_reads' HS8.out).2.2 (Kd.S_reads' HS8.out).2.1 HA.out).mono ?_; rintro e w9 ⟨rfl, hb⟩; have n0_ := Aside0.mk (below_step HB.out hb); have n1_ := Aside0.mk (Kd.S_below HS8.out hb); clear HB HS8; have HB := n0_; have HS8 := n1_; clear n0_ n1_ hb) | (go_at_call 59; refine (impl_cloneSecrets.calls k _ _ l0 z _ (Kd.C_below HR0.out HB.out) HC0.out HZ.out).mono ?_; rintro e w10 ⟨v10, rfl, hs10, hb⟩; have HS10 := Aside0.mk (impl_PutSecret.rng hs10 (below_size HB.out)); have n0_ := Aside0.mk (below_step HB.out hb); clear HB; have HB := n0_; clear n0_ hb hs10))
          go_ret2
          exact ⟨_, rfl, Kd.S_mono HS10.out (fun _ _ => trivial), HB.out⟩
      · rw [if_neg cp] at h
        cases h


/-! ### laws_big: function 34 -/
def laws_big.f (l0 : List Int) : Option (Bool) := some (decide ((l0.length : Int) > 1048576))
set_option maxHeartbeats 8000000 in
set_option maxRecDepth 100000 in
theorem laws_big.calls (A0 : Option Addr) (c0 : Nat) (l0 : List Int) (r : Bool) (w : World) (hr0 : Kd.C (Kd.int .u8) w A0 l0.length l0) (hc0 : l0.length ≤ c0) (h : laws_big.f l0 = some r) :
    Calls Try.prog 34 #[.slice A0 l0.length c0] w fun e w' => e = .returned (.bool r) ∧ Drawn0 w w' := by
  have HR0 := Aside0.mk hr0
  have HC0 := Aside0.mk hc0
  clear hr0 hc0
  have H : (some (decide ((l0.length : Int) > 1048576))) = some r := h
  clear h
  obtain rfl := Option.some.inj H
  go_enter Try.func34, Try.ntmps34
  go_wp2
  go_ret
  exact ⟨by first | rfl | (simp; done) | (simp [*]; done), by repeat (first | exact Drawn0.refl _ | apply Drawn0.step)⟩

/-- A state of type 86 at block g of W; what its slices lead to came in by w0. -/
def IsS86 (w0 W : World) (g : Nat) (f0 : List Int) (f1 : Int) (f2 : Int) : Prop := ∃ A0 c0, W.heap[g]? = some (.cells #[.slice A0 f0.length c0, .int .i64 f1, .int .i64 f2] 86 (0, 0)) ∧ w0.heap.size ≤ g ∧ Kd.C (Kd.int .u8) w0 A0 f0.length f0
theorem IsS86.grown {w0 W : World} {g : Nat} {f0 : List Int} {f1 : Int} {f2 : Int} {W1 : World} {row : Option Nat} (h : IsS86 w0 W g f0 f1 f2) (hw : W.grownBy W1 row) (hne : some g ≠ row) : IsS86 w0 W1 g f0 f1 f2 := by
  obtain ⟨A0, c0, hb, hg, hr0⟩ := h
  exact ⟨A0, c0, blk_grown hb hw hne, hg, hr0⟩
theorem IsS86.own_neN {w0 W : World} {g : Nat} {f0 : List Int} {f1 : Int} {f2 : Int} {α : Type} {d : Kd α} {e : Nat} {base : Nat} {ok : Nat → Prop} {v : Value} {xs : List α} (h : IsS86 w0 W g f0 f1 f2) (ho : Kd.N d e W base ok v xs) (ht : e ≠ 86) : some g ≠ v.ownBlock := by
  obtain ⟨A0, c0, hb, hg, hr0⟩ := h
  exact Kd.N_ne ho hb ht
theorem IsS86.fresh {w0 W : World} {g : Nat} {f0 : List Int} {f1 : Int} {f2 : Int} (h : IsS86 w0 W g f0 f1 f2) : ∀ k, W.heap.size ≤ k → k ≠ g := by
  obtain ⟨A0, c0, hb, hg, hr0⟩ := h
  exact Kd.freshB hb
theorem IsS86.kept {w0 W : World} {g : Nat} {f0 : List Int} {f1 : Int} {f2 : Int} {W1 : World} {S : Nat → Prop} (h : IsS86 w0 W g f0 f1 f2) (hk : Kept W W1 S) (hne : ¬ S g) : IsS86 w0 W1 g f0 f1 f2 := by
  obtain ⟨A0, c0, hb, hg, hr0⟩ := h
  exact ⟨A0, c0, blk_kept hb hk hne, hg, hr0⟩
theorem IsS86.below {w0 W : World} {g : Nat} {f0 : List Int} {f1 : Int} {f2 : Int} {W1 : World} (h : IsS86 w0 W g f0 f1 f2) (hw : Below W.heap.size W W1) : IsS86 w0 W1 g f0 f1 f2 := h.grown (grown_of_below hw none) (by simp)
theorem IsS86.alloc {w0 W : World} {g : Nat} {f0 : List Int} {f1 : Int} {f2 : Int} (h : IsS86 w0 W g f0 f1 f2) (o : Obj) : IsS86 w0 (W.alloc o) g f0 f1 f2 := h.below (below_alloc (Below.refl _ _) o)
theorem IsS86.drewN {w0 W : World} {g : Nat} {f0 : List Int} {f1 : Int} {f2 : Int} (h : IsS86 w0 W g f0 f1 f2) (m : Nat) : IsS86 w0 (W.drewN m) g f0 f1 f2 := h
theorem IsS86.drew {w0 W : World} {g : Nat} {f0 : List Int} {f1 : Int} {f2 : Int} (h : IsS86 w0 W g f0 f1 f2) : IsS86 w0 W.drew g f0 f1 f2 := h
theorem IsS86.at_ {w0 W : World} {g : Nat} {f0 : List Int} {f1 : Int} {f2 : Int} {w' : World} {m : Nat} (hq : W.drewN m = w') (h : IsS86 w0 W g f0 f1 f2) : IsS86 w0 w' g f0 f1 f2 := by subst hq; exact IsS86.drewN h m
theorem IsS86.apart {w0 W : World} {g : Nat} {f0 : List Int} {f1 : Int} {f2 : Int} {α : Type} {d : Kd α} {e : Nat} {base : Nat} {ok : Nat → Prop} {v : Value} {xs : List α} (h : IsS86 w0 W g f0 f1 f2) (ho : d.R e W base ok v xs) (ht : ∀ q, q ∈ e :: d.E → q ≠ 86) : d.R e W base (fun k => ok k ∧ k ≠ g) v xs := by
  obtain ⟨A0, c0, hb, hg, hr0⟩ := h
  exact Kd.R_types ho hb ht
theorem IsS86.own_ne {w0 W : World} {g : Nat} {f0 : List Int} {f1 : Int} {f2 : Int} {α : Type} {d : Kd α} {e : Nat} {base : Nat} {ok : Nat → Prop} {v : Value} {xs : List α} (h : IsS86 w0 W g f0 f1 f2) (ho : d.R e W base ok v xs) (ht : e ≠ 86) : some g ≠ v.ownBlock := by
  obtain ⟨A0, c0, hb, hg, hr0⟩ := h
  exact Kd.R_ne ho hb ht
theorem IsS86.apartQ {w0 W : World} {g : Nat} {f0 : List Int} {f1 : Int} {f2 : Int} {α : Type} {d : Kd α} {e : Nat} {base : Nat} {ok : Nat → Prop} {v : Value} {xs : List α} (h : IsS86 w0 W g f0 f1 f2) (ho : d.Q e W base ok v xs) (ht : ∀ q, q ∈ e :: d.E → q ≠ 86) : d.Q e W base (fun k => ok k ∧ k ≠ g) v xs := by
  obtain ⟨A0, c0, hb, hg, hr0⟩ := h
  exact Kd.Q_types ho hb ht
theorem IsS86.own_neQ {w0 W : World} {g : Nat} {f0 : List Int} {f1 : Int} {f2 : Int} {α : Type} {d : Kd α} {e : Nat} {base : Nat} {ok : Nat → Prop} {v : Value} {xs : List α} (h : IsS86 w0 W g f0 f1 f2) (ho : d.Q e W base ok v xs) (ht : e ≠ 86) : some g ≠ v.ownBlock := by
  obtain ⟨A0, c0, hb, hg, hr0⟩ := h
  exact Kd.Q_ne ho hb ht
theorem IsS86.apartS {w0 W : World} {g : Nat} {f0 : List Int} {f1 : Int} {f2 : Int} {α : Type} {d : Kd α} {e : Nat} {base : Nat} {ok : Nat → Prop} {v : Value} {xs : List α} (h : IsS86 w0 W g f0 f1 f2) (ho : d.S e W base ok v xs) (ht : ∀ q, q ∈ e :: d.E → q ≠ 86) : d.S e W base (fun k => ok k ∧ k ≠ g) v xs := by
  obtain ⟨A0, c0, hb, hg, hr0⟩ := h
  exact Kd.S_types ho hb ht
theorem IsS86.own_neS {w0 W : World} {g : Nat} {f0 : List Int} {f1 : Int} {f2 : Int} {α : Type} {d : Kd α} {e : Nat} {base : Nat} {ok : Nat → Prop} {v : Value} {xs : List α} (h : IsS86 w0 W g f0 f1 f2) (ho : d.S e W base ok v xs) (ht : e ≠ 86) : some g ≠ v.ownBlock := by
  obtain ⟨A0, c0, hb, hg, hr0⟩ := h
  exact Kd.S_ne ho hb ht
theorem IsS86.lt {w0 W : World} {g : Nat} {f0 : List Int} {f1 : Int} {f2 : Int} (h : IsS86 w0 W g f0 f1 f2) : g < W.heap.size := by
  obtain ⟨A0, c0, hb, hg, hr0⟩ := h
  exact blk_lt hb
theorem IsS86.ge {w0 W : World} {g : Nat} {f0 : List Int} {f1 : Int} {f2 : Int} (h : IsS86 w0 W g f0 f1 f2) : w0.heap.size ≤ g := by
  obtain ⟨A0, c0, hb, hg, hr0⟩ := h
  exact hg
theorem IsS86.ne_blk {w0 W : World} {g : Nat} {f0 : List Int} {f1 : Int} {f2 : Int} {a : Nat} {cs : Array Value} {t : TypeId} {fr : Nat × Nat} (h : IsS86 w0 W g f0 f1 f2) (hb2 : W.heap[a]? = some (.cells cs t fr)) (ht : t ≠ 86) : g ≠ a := by
  obtain ⟨A0, c0, hb, hg, hr0⟩ := h
  rintro rfl
  rw [hb] at hb2
  injection hb2 with hb2
  injection hb2 with _ ht2
  exact ht ht2.symm
theorem IsS86.far {w0 W : World} {g : Nat} {f0 : List Int} {f1 : Int} {f2 : Int} {p : Addr} (h : IsS86 w0 W g f0 f1 f2) (hne : g ≠ p.block) (u : Value) : IsS86 w0 (W.setCell p u) g f0 f1 f2 := by
  obtain ⟨A0, c0, hb, hg, hr0⟩ := h
  exact ⟨A0, c0, blk_far hb hne u, hg, hr0⟩
theorem cellS86_0 {W : World} {g : Nat} {A0 : Option Addr} {c0 : Nat} {f0 : List Int} {f1 : Int} {f2 : Int} (h : W.heap[g]? = some (.cells #[.slice A0 f0.length c0, .int .i64 f1, .int .i64 f2] 86 (0, 0))) : W.cell? ⟨g, 0, none⟩ = some (.slice A0 f0.length c0) := (blk_cell h 0).trans rfl
theorem cellS86_1 {W : World} {g : Nat} {A0 : Option Addr} {c0 : Nat} {f0 : List Int} {f1 : Int} {f2 : Int} (h : W.heap[g]? = some (.cells #[.slice A0 f0.length c0, .int .i64 f1, .int .i64 f2] 86 (0, 0))) : W.cell? ⟨g, 1, none⟩ = some (.int .i64 f1) := (blk_cell h 1).trans rfl
theorem IsS86.set_1 {w0 W : World} {g : Nat} {f0 : List Int} {f1 : Int} {f2 : Int} (h : IsS86 w0 W g f0 f1 f2) (x : Int) : IsS86 w0 (W.setCell ⟨g, 1, none⟩ (.int .i64 x)) g f0 x f2 := by
  obtain ⟨A0, c0, hb, hg, hr0⟩ := h
  exact ⟨A0, c0, by simpa using blk_set hb 1 (.int .i64 x), hg, hr0⟩
theorem cellS86_2 {W : World} {g : Nat} {A0 : Option Addr} {c0 : Nat} {f0 : List Int} {f1 : Int} {f2 : Int} (h : W.heap[g]? = some (.cells #[.slice A0 f0.length c0, .int .i64 f1, .int .i64 f2] 86 (0, 0))) : W.cell? ⟨g, 2, none⟩ = some (.int .i64 f2) := (blk_cell h 2).trans rfl
theorem IsS86.set_2 {w0 W : World} {g : Nat} {f0 : List Int} {f1 : Int} {f2 : Int} (h : IsS86 w0 W g f0 f1 f2) (x : Int) : IsS86 w0 (W.setCell ⟨g, 2, none⟩ (.int .i64 x)) g f0 f1 x := by
  obtain ⟨A0, c0, hb, hg, hr0⟩ := h
  exact ⟨A0, c0, by simpa using blk_set hb 2 (.int .i64 x), hg, hr0⟩
theorem IsS86.new (w0 W : World) (A0 : Option Addr) (c0 : Nat) (f0 : List Int) (f1 : Int) (f2 : Int) (hB : Below w0.heap.size w0 W) (hr0 : Kd.C (Kd.int .u8) w0 A0 f0.length f0) : IsS86 w0 (W.alloc (.cells #[.slice A0 f0.length c0, .int .i64 f1, .int .i64 f2] 86)) W.heap.size f0 f1 f2 := ⟨A0, c0, by simpa using heap_alloc_new W _, hB.size, hr0⟩

/-! ### spec_l1New: function 61 -/
def spec_l1New.l0 : Nat → List Int → Int → Int → Option (List Int × Int × Int)
  | 0, _, _, _ => none
  | k + 1, x0, x3, x4 => if x4 < (x0.length : Int) then (if x4 < 4000 then (if 0 ≤ x4 then (spec_l1New.l0 k x0 (Go.bits .and .i64 (wrap64 ((wrap64 ((wrap64 (x3 * 137)) + (wrap64 (rd x0 x4)))) + 11)) 1073741823) (wrap64 (x4 + 1))) else (none)) else (some (x0, 0, x3))) else (some (x0, 0, x3))
def spec_l1New.f (k : Nat) (l0 : List Int) : Option (List Int × Int × Int) := spec_l1New.l0 k l0 (wrap64 (193017 + (l0.length : Int))) 0
theorem spec_l1New.mono_l : ∀ k, (∀ y0 y1 y2, LeO (spec_l1New.l0 k y0 y1 y2) (spec_l1New.l0 (k + 1) y0 y1 y2))
  | 0 => fun _ _ _ r h => by simp [spec_l1New.l0] at h
  | k + 1 => by
    have ih0 := spec_l1New.mono_l k
    · intro y0 y1 y2
      unfold spec_l1New.l0
      repeat' first
      | (with_reducible exact ih0 _ _ _)
      | (with_reducible exact LeO.refl _)
      | (with_reducible exact LeO.none _)
      | (with_reducible refine LeO.ite ?_ ?_)
      | (with_reducible refine LeO.bind ?_ (fun _ => ?_))
      | exact ih0 _ _ _
      | exact LeO.none _
      | refine LeO.ite ?_ ?_
      | refine LeO.bind ?_ (fun _ => ?_)
theorem spec_l1New.mono : ∀ a0 k, LeO (spec_l1New.f k a0) (spec_l1New.f (k + 1) a0) := by
  intro a0 k
  have ih0 := spec_l1New.mono_l k
  unfold spec_l1New.f
  repeat' first
      | (with_reducible exact ih0 _ _ _)
      | (with_reducible exact LeO.refl _)
      | (with_reducible exact LeO.none _)
      | (with_reducible refine LeO.ite ?_ ?_)
      | (with_reducible refine LeO.bind ?_ (fun _ => ?_))
      | exact ih0 _ _ _
      | exact LeO.none _
      | refine LeO.ite ?_ ?_
      | refine LeO.bind ?_ (fun _ => ?_)
theorem y43_ {P : Prop} (h : P := by rw [hg]; exact (below_size (hd_ HBW.out))) : P := h
set_option maxHeartbeats 8000000 in
set_option maxRecDepth 100000 in
theorem spec_l1New.calls (k : Nat) (A0 : Option Addr) (c0 : Nat) (l0 : List Int) (r1 : List Int) (r2 : Int) (r3 : Int) (w0 w : World) (hB : Below w0.heap.size w0 w) (hr0 : Kd.C (Kd.int .u8) w0 A0 l0.length l0) (hc0 : l0.length ≤ c0) (h : spec_l1New.f k l0 = some (r1, r2, r3)) :
    Calls Try.prog 61 #[.slice A0 l0.length c0] w fun e w' => ∃ g_ : Nat, e = .returned (.pointer (some ⟨g_, 0, none⟩)) ∧ IsS86 w0 w' g_ r1 r2 r3 ∧ Below w0.heap.size w0 w' ∧ Below w.heap.size w w' := by
  have hu86 := Try.underlying86
  have HR0 := Aside0.mk hr0
  have HC0 := Aside0.mk hc0
  clear hr0 hc0
  have HBW := Aside0.mk (Below.refl w.heap.size w)
  have HW0 := Aside0.mk hB.size
  have HB := Aside0.mk hB
  clear hB
  have H : (spec_l1New.l0 k l0 (wrap64 (193017 + (l0.length : Int))) 0) = some (r1, r2, r3) := h
  clear h
  have H' := Aside0.mk H
  clear H
  go_enter Try.func61, Try.ntmps61
  go_wp2
  go_loopg [3, 4] k (fun kq v3 v4 w' => ∃ (x3_1 : Int) (x4_1 : Int), v3 = .int .i64 x3_1 ∧ v4 = .int .i64 x4_1 ∧ Aside0 (spec_l1New.l0 kq l0 x3_1 x4_1 = some (r1, r2, r3)) ∧ Aside0 (kq ≤ k) ∧ Aside0 (Below w0.heap.size w0 w') ∧ Aside0 (Below w.heap.size w w'))
  case atStart => exact ⟨(wrap64 (193017 + (l0.length : Int))), (0), (by first | rfl | (simp; done) | (simp [*]; done)), (by first | rfl | (simp; done) | (simp [*]; done)), H', ⟨Nat.le_refl _⟩, ⟨hd_ HB.out⟩, HBW⟩
  case round =>
    clear H'
    obtain ⟨x3_1, x4_1, rfl, rfl, HA, HK1, HB, HBW⟩ := hrel
    cases gk with
    | zero => exact absurd HA.out (by simp [spec_l1New.l0])
    | succ k1 =>
      have H := HA.out
      clear HA
      simp only [spec_l1New.l0] at H
      by_cases c2 : x4_1 < (l0.length : Int)
      · rw [if_pos c2] at H
        have c2b0 : decide (x4_1 < (l0.length : Int)) = true := decide_eq_true c2
        clear c2
        by_cases c3 : x4_1 < 4000
        · rw [if_pos c3] at H
          have c3b0 : decide (x4_1 < 4000) = true := decide_eq_true c3
          clear c3
          by_cases c4 : 0 ≤ x4_1
          · rw [if_pos c4] at H
            have c4b0 : decide (0 ≤ x4_1) = true := decide_eq_true c4
            clear c4
            have H' := Aside0.mk H
            clear H
            have p162 : 0 ≤ (x4_1 : Int) := of_decide_eq_true as_
            have q162 : x4_1 < (l0.length : Int) := of_decide_eq_true as_
            obtain ⟨ad162, e162, hx162_0⟩ := Kd.at_int HR0.out x4_1 p162 q162
            cases e162
            replace hx162_0 := pw_cell_below HB.out hx162_0
            replace p162 := eq_true p162
            replace q162 := eq_true q162
            go_wp2
            go_roundg k1
            case measure => have := HK1.out; omega
            case rel => exact ⟨(Go.bits .and .i64 (wrap64 ((wrap64 ((wrap64 (x3_1 * 137)) + (wrap64 (rd l0 x4_1)))) + 11)) 1073741823), (wrap64 (x4_1 + 1)), (by first | rfl | (simp; done) | (simp [*]; done)), (by first | rfl | (simp; done) | (simp [*]; done)), H', ⟨by have := HK1.out; omega⟩, ⟨hd_ HB.out⟩, ⟨hd_ HBW.out⟩⟩
          · rw [if_neg c4] at H
            exact absurd H (by simp)
        · rw [if_neg c3] at H
          have c3b0 : decide (x4_1 < 4000) = false := decide_eq_false c3
          clear c3
          simp only [Option.some.injEq, Prod.mk.injEq] at H
          obtain ⟨rfl, rfl, rfl⟩ := H
          go_wp2_with (first | ((with_reducible refine gate_dst (N := 31) rfl ?_); refine box_event ?hg (N := 31) ?hd (cs := #[.slice A0 l0.length c0, .int .i64 0, .int .i64 x3_1]) (t := 86) ?hr ?_; (case hd => rfl); (case hg => rfl); (case hr => first | (go_simp; done) | (go_simp; rfl)); intro gb163 hg w5 hbox hb; have n0_ := Aside0.mk (below_step HBW.out hb); have n1_ := Aside0.mk (below_step (hd_ HB.out) hb); have BK163 := Aside0.mk (hbox); have GW163 := Aside0.mk ((y43_ : w.heap.size ≤ gb163)); have GE163 := Aside0.mk ((Nat.le_trans HW0.out (y43_ : w.heap.size ≤ gb163) : w0.heap.size ≤ gb163)); clear HBW; clear HB; have HBW := n0_; have HB := n1_; clear n0_ n1_; clear hb hbox hg))
          go_ret
          exact ⟨_, rfl, (show IsS86 w0 _ gb163 l0 0 x3_1 from ⟨_, _, bd_ BK163.out, GE163.out, HR0.out⟩), by repeat (first | (with_reducible first | exact HB.out | apply below_alloc | apply pw_below_drewN | apply below_drew1 | refine below_set ?_ GE163.out) | exact HB.out), by repeat (first | (with_reducible first | exact HBW.out | apply below_alloc | apply pw_below_drewN | apply below_drew1 | refine below_set ?_ GW163.out) | exact HBW.out)⟩
      · rw [if_neg c2] at H
        have c2b0 : decide (x4_1 < (l0.length : Int)) = false := decide_eq_false c2
        clear c2
        simp only [Option.some.injEq, Prod.mk.injEq] at H
        obtain ⟨rfl, rfl, rfl⟩ := H
        go_wp2_with (first | ((with_reducible refine gate_dst (N := 31) rfl ?_); refine box_event ?hg (N := 31) ?hd (cs := #[.slice A0 l0.length c0, .int .i64 0, .int .i64 x3_1]) (t := 86) ?hr ?_; (case hd => rfl); (case hg => rfl); (case hr => first | (go_simp; done) | (go_simp; rfl)); intro gb164 hg w6 hbox hb; have n0_ := Aside0.mk (below_step HBW.out hb); have n1_ := Aside0.mk (below_step (hd_ HB.out) hb); have BK164 := Aside0.mk (hbox); have GW164 := Aside0.mk ((y43_ : w.heap.size ≤ gb164)); have GE164 := Aside0.mk ((Nat.le_trans HW0.out (y43_ : w.heap.size ≤ gb164) : w0.heap.size ≤ gb164)); clear HBW; clear HB; have HBW := n0_; have HB := n1_; clear n0_ n1_; clear hb hbox hg))
        go_ret
        exact ⟨_, rfl, (show IsS86 w0 _ gb164 l0 0 x3_1 from ⟨_, _, bd_ BK164.out, GE164.out, HR0.out⟩), by repeat (first | (with_reducible first | exact HB.out | apply below_alloc | apply pw_below_drewN | apply below_drew1 | refine below_set ?_ GE164.out) | exact HB.out), by repeat (first | (with_reducible first | exact HBW.out | apply below_alloc | apply pw_below_drewN | apply below_drew1 | refine below_set ?_ GW164.out) | exact HBW.out)⟩

end Go.Proofs.Ytfghapankndioaa.PFnSecrets
