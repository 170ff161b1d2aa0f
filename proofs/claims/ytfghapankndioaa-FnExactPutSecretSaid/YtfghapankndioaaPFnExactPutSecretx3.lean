-- Written for this claim by a program (a printer turned to this claim); Lean checks it.
import Derived.Test.YtfghapankndioaaPFnExactPutSecretx0
import Derived.Test.YtfghapankndioaaPFnExactPutSecretx2
namespace Go.Proofs.Ytfghapankndioaa.PFnExactPutSecret
open Go.RowKit Go.Proofs.YtfghapankndioaaW.PrintWords Go.Proofs.YtfghapankndioaaW.PrintLast Go.Proofs.YtfghapankndioaaW.PrintMore
attribute [local go_sem] max2_int min2_int max_two min_two max_three min_three max_four min_four   -- for this text's walks alone
set_option linter.unusedVariables false
set_option linter.unusedSimpArgs false

/-! ### laws_eqSecretS: function 14 -/
def laws_eqSecretS.l0 : Nat → List (S36) → List (S36) → Int → Option (Bool)
  | 0, _, _, _ => none
  | k + 1, x0, x1, x5 => if x5 < (x0.length : Int) then (if 0 ≤ x5 then (if x5 < (x1.length : Int) then ((laws_eqSecret.f k ((rd_T36 x0 x5).f0) ((rd_T36 x0 x5).f1) ((rd_T36 x0 x5).f2) ((rd_T36 x1 x5).f0) ((rd_T36 x1 x5).f1) ((rd_T36 x1 x5).f2)).bind fun t141 => (if t141 = true then (laws_eqSecretS.l0 k x0 x1 (wrap64 (x5 + 1))) else (some false))) else (none)) else (none)) else (some true)
def laws_eqSecretS.f (k : Nat) (l0 : List (S36)) (l1 : List (S36)) : Option (Bool) := if (l0.length : Int) = (l1.length : Int) then (laws_eqSecretS.l0 k l0 l1 0) else (some false)
theorem laws_eqSecretS.mono_l : ∀ k, (∀ y0 y1 y2, LeO (laws_eqSecretS.l0 k y0 y1 y2) (laws_eqSecretS.l0 (k + 1) y0 y1 y2))
  | 0 => fun _ _ _ r h => by simp [laws_eqSecretS.l0] at h
  | k + 1 => by
    have ih0 := laws_eqSecretS.mono_l k
    · intro y0 y1 y2
      unfold laws_eqSecretS.l0
      repeat' first
      | (with_reducible exact ih0 _ _ _)
      | (with_reducible exact laws_eqSecret.mono _ _ _ _ _ _ _)
      | (with_reducible exact LeO.refl _)
      | (with_reducible exact LeO.none _)
      | (with_reducible refine LeO.ite ?_ ?_)
      | (with_reducible refine LeO.bind ?_ (fun _ => ?_))
      | exact ih0 _ _ _
      | exact laws_eqSecret.mono _ _ _ _ _ _ _
      | exact LeO.none _
      | refine LeO.ite ?_ ?_
      | refine LeO.bind ?_ (fun _ => ?_)
theorem laws_eqSecretS.mono : ∀ a0 a1 k, LeO (laws_eqSecretS.f k a0 a1) (laws_eqSecretS.f (k + 1) a0 a1) := by
  intro a0 a1 k
  have ih0 := laws_eqSecretS.mono_l k
  unfold laws_eqSecretS.f
  repeat' first
      | (with_reducible exact ih0 _ _ _)
      | (with_reducible exact laws_eqSecret.mono _ _ _ _ _ _ _)
      | (with_reducible exact LeO.refl _)
      | (with_reducible exact LeO.none _)
      | (with_reducible refine LeO.ite ?_ ?_)
      | (with_reducible refine LeO.bind ?_ (fun _ => ?_))
      | exact ih0 _ _ _
      | exact laws_eqSecret.mono _ _ _ _ _ _ _
      | exact LeO.none _
      | refine LeO.ite ?_ ?_
      | refine LeO.bind ?_ (fun _ => ?_)
def laws_eqSecretS.T6 : Bool × List (List Nat × List Nat) := (true, [([], []), ([], []), ([0, 1], [0, 1]), ([2], [2]), ([], []), ([], []), ([4, 5], [4, 5]), ([6], [6]), ([3, 7], [3, 7]), ([8], [8])])
def laws_eqSecretS.B6 : List Nat := [0, 0, 3, 7, 0, 0, 48, 112, 255, 511]
theorem laws_eqSecretS.tab6 : rtab .any (opsOf Try.f14 6) = laws_eqSecretS.T6 := by kernel_rfl
theorem laws_eqSecretS.bits6 : waitsOk laws_eqSecretS.T6.2 laws_eqSecretS.B6 = true := by kernel_rfl
abbrev M1_0 : Array Bool := #[false, false, false, false, false, false, false, false, false, false]
abbrev M1_1 : Array Bool := #[true, false, false, false, false, false, false, false, false, false]
abbrev M1_2 : Array Bool := #[true, true, false, false, false, false, false, false, false, false]
abbrev M1_3 : Array Bool := #[true, true, true, false, false, false, false, false, false, false]
abbrev M1_4 : Array Bool := #[true, true, true, false, true, false, false, false, false, false]
abbrev M1_5 : Array Bool := #[true, true, true, false, true, true, false, false, false, false]
abbrev M1_6 : Array Bool := #[true, true, true, false, true, true, true, false, false, false]
abbrev M1_7 : Array Bool := #[true, true, true, true, true, true, true, false, false, false]
abbrev M1_8 : Array Bool := #[true, true, true, true, true, true, true, true, false, false]
abbrev M1_9 : Array Bool := #[true, true, true, true, true, true, true, true, true, false]
abbrev M1_10 : Array Bool := #[true, true, true, true, true, true, true, true, true, true]
set_option maxHeartbeats 8000000 in
set_option maxRecDepth 100000 in
theorem laws_eqSecretS.calls (k : Nat) (A0 : Option Addr) (c0 : Nat) (l0 : List (S36)) (A1 : Option Addr) (c1 : Nat) (l1 : List (S36)) (r : Bool) (w : World) (hr0 : Kd.C k36 w A0 l0.length l0) (hc0 : l0.length ≤ c0) (hr1 : Kd.C k36 w A1 l1.length l1) (hc1 : l1.length ≤ c1) (h : laws_eqSecretS.f k l0 l1 = some r) :
    Calls Try.prog 14 #[.slice A0 l0.length c0, .slice A1 l1.length c1] w fun e w' => e = .returned (.bool r) ∧ Below w.heap.size w w' := by
  have hu36 := Try.underlying36
  have HR0 := Aside0.mk hr0
  have HC0 := Aside0.mk hc0
  clear hr0 hc0
  have HR1 := Aside0.mk hr1
  have HC1 := Aside0.mk hc1
  clear hr1 hc1
  have HB := Aside0.mk (Below.refl w.heap.size w)
  have H : (if (l0.length : Int) = (l1.length : Int) then (laws_eqSecretS.l0 k l0 l1 0) else (some false)) = some r := h
  clear h
  by_cases c3 : (l0.length : Int) = (l1.length : Int)
  · rw [if_pos c3] at H
    have c3b0 : ((l0.length : Int) == (l1.length : Int)) = true := beq_iff_eq.mpr c3
    have c3b1 : ((l0.length : Int) != (l1.length : Int)) = false := bne_eq_false_iff_eq.mpr c3
    have c3b2 : (l0.length == l1.length) = true := by first | simpa using c3 | (simp at c3 ⊢; omega)
    clear c3
    have H' := Aside0.mk H
    clear H
    go_enter Try.func14, Try.ntmps14
    go_wp2
    go_loopg [5] k (fun kq v5 w' => ∃ (x5_1 : Int), v5 = .int .i64 x5_1 ∧ Aside0 (laws_eqSecretS.l0 kq l0 l1 x5_1 = some r) ∧ Aside0 (kq ≤ k) ∧ Aside0 (Below w.heap.size w w'))
    case atStart => exact ⟨(0), (by first | rfl | (simp; done) | (simp [*]; done)), H', ⟨Nat.le_refl _⟩, ⟨hd_ HB.out⟩⟩
    case round =>
      clear H'
      try clear c1
      try clear p2
      try clear c3
      try clear c3b0
      try clear c3b1
      try clear c3b2
      obtain ⟨x5_1, rfl, HA, HK1, HB⟩ := hrel
      cases gk with
      | zero => exact absurd HA.out (by simp [laws_eqSecretS.l0])
      | succ k1 =>
        have H := HA.out
        clear HA
        simp only [laws_eqSecretS.l0] at H
        by_cases c4 : x5_1 < (l0.length : Int)
        · rw [if_pos c4] at H
          have c4b0 : decide (x5_1 < (l0.length : Int)) = true := decide_eq_true c4
          clear c4
          by_cases c5 : 0 ≤ x5_1
          · rw [if_pos c5] at H
            have c5b0 : decide (0 ≤ x5_1) = true := decide_eq_true c5
            clear c5
            by_cases c6 : x5_1 < (l1.length : Int)
            · rw [if_pos c6] at H
              have c6b0 : decide (x5_1 < (l1.length : Int)) = true := decide_eq_true c6
              clear c6
              replace H := Option.bind_eq_some_iff.mp H
              obtain ⟨t141, A70, H⟩ := H
              replace H : (if t141 = true then (laws_eqSecretS.l0 k1 l0 l1 (wrap64 (x5_1 + 1))) else (some false)) = some r := H
              have A7 := Aside0.mk A70
              clear A70
              by_cases c8 : t141 = true
              · subst c8
                have H1 : (laws_eqSecretS.l0 k1 l0 l1 (wrap64 (x5_1 + 1))) = some r := by rw [if_pos rfl] at H; exact H
                clear H
                have H := H1
                clear H1
                have H' := Aside0.mk H
                clear H
                try go_wp2
                have n0_ := Aside0.mk (below_drew1 HB.out)
                clear HB
                have HB := n0_
                clear n0_
                have p139 : 0 ≤ (x5_1 : Int) := of_decide_eq_true as_
                have q139 : x5_1 < (l0.length : Int) := of_decide_eq_true as_
                obtain ⟨ad139, A139_1, c139_1, e139, hx139_0, hx139_1, hx139_2, hl139_1, hi139_1⟩ := at_T36 HR0.out x5_1 p139 q139
                have hw139_2 := hx139_2
                have hw139_1 := hx139_1
                have hw139_0 := hx139_0
                cases e139
                replace hx139_0 := cb_ HB.out hx139_0
                replace hx139_1 := cb_ HB.out hx139_1
                replace hx139_2 := cb_ HB.out hx139_2
                have HR139_1 := Aside0.mk hi139_1
                have HC139_1 := Aside0.mk hl139_1
                clear hi139_1 hl139_1
                replace p139 := eq_true p139
                replace q139 := eq_true q139
                have p140 : 0 ≤ (x5_1 : Int) := of_decide_eq_true as_
                have q140 : x5_1 < (l1.length : Int) := of_decide_eq_true as_
                obtain ⟨ad140, A140_1, c140_1, e140, hx140_0, hx140_1, hx140_2, hl140_1, hi140_1⟩ := at_T36 HR1.out x5_1 p140 q140
                have hw140_2 := hx140_2
                have hw140_1 := hx140_1
                have hw140_0 := hx140_0
                cases e140
                replace hx140_0 := cb_ HB.out hx140_0
                replace hx140_1 := cb_ HB.out hx140_1
                replace hx140_2 := cb_ HB.out hx140_2
                have HR140_1 := Aside0.mk hi140_1
                have HC140_1 := Aside0.mk hl140_1
                clear hi140_1 hl140_1
                replace p140 := eq_true p140
                replace q140 := eq_true q140
                refine start_ (n := 10) (S := fun w' => q2_ w' (ad139.add ((x5_1).toNat * 3)) ((rd_T36 l0 x5_1).f0) A139_1 ((rd_T36 l0 x5_1).f1).length c139_1 ((rd_T36 l0 x5_1).f2) (q2e_ w' (ad140.add ((x5_1).toNat * 3)) ((rd_T36 l1 x5_1).f0) A140_1 ((rd_T36 l1 x5_1).f1).length c140_1 ((rd_T36 l1 x5_1).f2))) (ds := []) M1_0 (by kernel_rfl) rfl rfl ⟨(cb_ HB.out hw139_0), (cb_ HB.out hw139_1), (cb_ HB.out hw139_2), (cb_ HB.out hw140_0), (cb_ HB.out hw140_1), (cb_ HB.out hw140_2)⟩ (fun hHeld => ?_); refine with_tabW laws_eqSecretS.tab6 laws_eqSecretS.bits6 (fun HT_ HW_ => ?_)
                generalize wr.drew = w9 at HB HR139_1 HR140_1 hx139_0 hx139_1 hx139_2 hx140_0 hx140_1 hx140_2 hHeld ⊢
                refine pu_ 0 (some 17) M1_1 HT_ ?_
                refine pu_ 1 (some 18) M1_2 HT_ ?_
                refine pu_ 2 (some 19) M1_3 HT_ ?_
                refine pu_ 4 (some 21) M1_4 HT_ ?_
                refine pu_ 5 (some 22) M1_5 HT_ ?_
                refine pu_ 6 (some 23) M1_6 HT_ ?_
                refine tk_ 3 (some 20) M1_7 HT_ HW_ hHeld ?_
                refine tk_ 7 (some 24) M1_8 HT_ HW_ hHeld ?_
                refine one_ (i := 8) (N := some 25) M1_9 rfl rfl (one_of HT_.out (by kernel_rfl)) (by decide) (fun K hK => ?_)
                refine goes_ Try.func19 (by kernel_rfl) rfl #[.agg #[.int .i64 ((rd_T36 l0 x5_1).f0), .slice A139_1 ((rd_T36 l0 x5_1).f1).length c139_1, .int .i64 ((rd_T36 l0 x5_1).f2)], .agg #[.int .i64 ((rd_T36 l1 x5_1).f0), .slice A140_1 ((rd_T36 l1 x5_1).f1).length c140_1, .int .i64 ((rd_T36 l1 x5_1).f2)]] (by rfl) rfl rfl ma_ ?_
                with_reducible refine (laws_eqSecret.calls k1 ((rd_T36 l0 x5_1).f0) _ _ ((rd_T36 l0 x5_1).f1) ((rd_T36 l0 x5_1).f2) ((rd_T36 l1 x5_1).f0) _ _ ((rd_T36 l1 x5_1).f1) ((rd_T36 l1 x5_1).f2) true _ ?side1 ?side2 ?side3 ?side4 A7.out).mono ?_
                (case side1 => exact cd_ (Kd.C_below HR139_1.out HB.out))
                (case side2 => exact HC139_1.out)
                (case side3 => exact cd_ (Kd.C_below HR140_1.out HB.out))
                (case side4 => exact HC140_1.out)
                rintro e w10 ⟨rfl, hb⟩
                refine ⟨_, rfl, ?_⟩
                have n0_ := Aside0.mk (below_step (hd_ HB.out) hb)
                clear HB
                have HB := n0_
                clear n0_
                (try clear hb)
                (try clear hb2)
                (try clear hk)
                (try clear hi)
                refine hK.out _ _ ⟨(cb_ HB.out hw139_0), (cb_ HB.out hw139_1), (cb_ HB.out hw139_2), (cb_ HB.out hw140_0), (cb_ HB.out hw140_1), (cb_ HB.out hw140_2)⟩ (fun hHeld => ?_)
                clear hK K
                refine norm_ (a' := ?_) ?_ ?_
                rotate_left
                · show Act.put _ (some 25) _ = _
                  simp only [Act.put, List.setIfInBounds_toArray, List.set_cons_zero, List.set_cons_succ, i64_w, i32_w]
                  rfl
                refine pu_ 9 (some 26) M1_10 HT_ ?_
                refine done_ (done_of HT_.out (by kernel_rfl)) ?_
                try go_wp2
                go_roundg k1
                case measure => have := HK1.out; omega
                case rel => exact ⟨(wrap64 (x5_1 + 1)), (by first | rfl | (simp; done) | (simp [*]; done)), H', ⟨by have := HK1.out; omega⟩, ⟨hd_ HB.out⟩⟩
              · replace c8 := Bool.eq_false_iff.mpr c8
                subst c8
                have H1 : (some false) = some r := by rw [if_neg (show ¬ (false = true) by decide)] at H; exact H
                clear H
                have H := H1
                clear H1
                obtain rfl := Option.some.inj H
                try go_wp2
                have n0_ := Aside0.mk (below_drew1 HB.out)
                clear HB
                have HB := n0_
                clear n0_
                have p139 : 0 ≤ (x5_1 : Int) := of_decide_eq_true as_
                have q139 : x5_1 < (l0.length : Int) := of_decide_eq_true as_
                obtain ⟨ad139, A139_1, c139_1, e139, hx139_0, hx139_1, hx139_2, hl139_1, hi139_1⟩ := at_T36 HR0.out x5_1 p139 q139
                have hw139_2 := hx139_2
                have hw139_1 := hx139_1
                have hw139_0 := hx139_0
                cases e139
                replace hx139_0 := cb_ HB.out hx139_0
                replace hx139_1 := cb_ HB.out hx139_1
                replace hx139_2 := cb_ HB.out hx139_2
                have HR139_1 := Aside0.mk hi139_1
                have HC139_1 := Aside0.mk hl139_1
                clear hi139_1 hl139_1
                replace p139 := eq_true p139
                replace q139 := eq_true q139
                have p140 : 0 ≤ (x5_1 : Int) := of_decide_eq_true as_
                have q140 : x5_1 < (l1.length : Int) := of_decide_eq_true as_
                obtain ⟨ad140, A140_1, c140_1, e140, hx140_0, hx140_1, hx140_2, hl140_1, hi140_1⟩ := at_T36 HR1.out x5_1 p140 q140
                have hw140_2 := hx140_2
                have hw140_1 := hx140_1
                have hw140_0 := hx140_0
                cases e140
                replace hx140_0 := cb_ HB.out hx140_0
                replace hx140_1 := cb_ HB.out hx140_1
                replace hx140_2 := cb_ HB.out hx140_2
                have HR140_1 := Aside0.mk hi140_1
                have HC140_1 := Aside0.mk hl140_1
                clear hi140_1 hl140_1
                replace p140 := eq_true p140
                replace q140 := eq_true q140
                refine start_ (n := 10) (S := fun w' => q2_ w' (ad139.add ((x5_1).toNat * 3)) ((rd_T36 l0 x5_1).f0) A139_1 ((rd_T36 l0 x5_1).f1).length c139_1 ((rd_T36 l0 x5_1).f2) (q2e_ w' (ad140.add ((x5_1).toNat * 3)) ((rd_T36 l1 x5_1).f0) A140_1 ((rd_T36 l1 x5_1).f1).length c140_1 ((rd_T36 l1 x5_1).f2))) (ds := []) M1_0 (by kernel_rfl) rfl rfl ⟨(cb_ HB.out hw139_0), (cb_ HB.out hw139_1), (cb_ HB.out hw139_2), (cb_ HB.out hw140_0), (cb_ HB.out hw140_1), (cb_ HB.out hw140_2)⟩ (fun hHeld => ?_); refine with_tabW laws_eqSecretS.tab6 laws_eqSecretS.bits6 (fun HT_ HW_ => ?_)
                generalize wr.drew = w11 at HB HR139_1 HR140_1 hx139_0 hx139_1 hx139_2 hx140_0 hx140_1 hx140_2 hHeld ⊢
                refine pu_ 0 (some 17) M1_1 HT_ ?_
                refine pu_ 1 (some 18) M1_2 HT_ ?_
                refine pu_ 2 (some 19) M1_3 HT_ ?_
                refine pu_ 4 (some 21) M1_4 HT_ ?_
                refine pu_ 5 (some 22) M1_5 HT_ ?_
                refine pu_ 6 (some 23) M1_6 HT_ ?_
                refine tk_ 3 (some 20) M1_7 HT_ HW_ hHeld ?_
                refine tk_ 7 (some 24) M1_8 HT_ HW_ hHeld ?_
                refine one_ (i := 8) (N := some 25) M1_9 rfl rfl (one_of HT_.out (by kernel_rfl)) (by decide) (fun K hK => ?_)
                refine goes_ Try.func19 (by kernel_rfl) rfl #[.agg #[.int .i64 ((rd_T36 l0 x5_1).f0), .slice A139_1 ((rd_T36 l0 x5_1).f1).length c139_1, .int .i64 ((rd_T36 l0 x5_1).f2)], .agg #[.int .i64 ((rd_T36 l1 x5_1).f0), .slice A140_1 ((rd_T36 l1 x5_1).f1).length c140_1, .int .i64 ((rd_T36 l1 x5_1).f2)]] (by rfl) rfl rfl ma_ ?_
                with_reducible refine (laws_eqSecret.calls k1 ((rd_T36 l0 x5_1).f0) _ _ ((rd_T36 l0 x5_1).f1) ((rd_T36 l0 x5_1).f2) ((rd_T36 l1 x5_1).f0) _ _ ((rd_T36 l1 x5_1).f1) ((rd_T36 l1 x5_1).f2) false _ ?side1 ?side2 ?side3 ?side4 A7.out).mono ?_
                (case side1 => exact cd_ (Kd.C_below HR139_1.out HB.out))
                (case side2 => exact HC139_1.out)
                (case side3 => exact cd_ (Kd.C_below HR140_1.out HB.out))
                (case side4 => exact HC140_1.out)
                rintro e w12 ⟨rfl, hb⟩
                refine ⟨_, rfl, ?_⟩
                have n0_ := Aside0.mk (below_step (hd_ HB.out) hb)
                clear HB
                have HB := n0_
                clear n0_
                (try clear hb)
                (try clear hb2)
                (try clear hk)
                (try clear hi)
                refine hK.out _ _ ⟨(cb_ HB.out hw139_0), (cb_ HB.out hw139_1), (cb_ HB.out hw139_2), (cb_ HB.out hw140_0), (cb_ HB.out hw140_1), (cb_ HB.out hw140_2)⟩ (fun hHeld => ?_)
                clear hK K
                refine norm_ (a' := ?_) ?_ ?_
                rotate_left
                · show Act.put _ (some 25) _ = _
                  simp only [Act.put, List.setIfInBounds_toArray, List.set_cons_zero, List.set_cons_succ, i64_w, i32_w]
                  rfl
                refine pu_ 9 (some 26) M1_10 HT_ ?_
                refine done_ (done_of HT_.out (by kernel_rfl)) ?_
                try go_wp2
                go_ret
                exact ⟨by first | rfl | (simp [errW_none, errW_some] <;> rfl) | (simp [*, errW_none, errW_some] <;> rfl), hd_ HB.out⟩
            · rw [if_neg c6] at H
              exact absurd H (by simp)
          · rw [if_neg c5] at H
            exact absurd H (by simp)
        · rw [if_neg c4] at H
          have c4b0 : decide (x5_1 < (l0.length : Int)) = false := decide_eq_false c4
          clear c4
          obtain rfl := Option.some.inj H
          go_wp2
          go_ret
          exact ⟨by first | rfl | (simp [errW_none, errW_some] <;> rfl) | (simp [*, errW_none, errW_some] <;> rfl), hd_ HB.out⟩
  · rw [if_neg c3] at H
    have c3b0 : ((l0.length : Int) == (l1.length : Int)) = false := beq_eq_false_iff_ne.mpr c3
    have c3b1 : ((l0.length : Int) != (l1.length : Int)) = true := bne_iff_ne.mpr c3
    have c3b2 : (l0.length == l1.length) = false := by first | simpa using c3 | (simp at c3 ⊢; omega)
    obtain rfl := Option.some.inj H
    go_enter Try.func14, Try.ntmps14
    go_wp2
    go_ret
    exact ⟨by first | rfl | (simp [errW_none, errW_some] <;> rfl) | (simp [*, errW_none, errW_some] <;> rfl), hd_ HB.out⟩

/-! ### laws_markMarkS: function 26 -/
def laws_markMarkS.l0 : Nat → List (S67) → Int → Int → Option (Int × (List (S67)))
  | 0, _, _, _ => none
  | k + 1, x0, x1, x5 => if x5 < (x0.length : Int) then (if 0 ≤ x5 then ((some (x0.set (x5 : Int).toNat (⟨x1, (rd_T67 x0 x5).f1⟩ : S67) : List (S67))).bind fun y142 => (laws_markMarkS.l0 k (y142.set (x5 : Int).toNat (⟨(rd_T67 y142 x5).f0, wrap64 (x1 + 1)⟩ : S67)) (wrap64 ((wrap64 (x1 + 1)) + 1)) (wrap64 (x5 + 1)))) else (none)) else (some (x1, x0))
def laws_markMarkS.f (k : Nat) (l0 : List (S67)) (a1 : Int) : Option (Int × (List (S67))) := laws_markMarkS.l0 k l0 a1 0
theorem laws_markMarkS.mono_l : ∀ k, (∀ y0 y1 y2, LeO (laws_markMarkS.l0 k y0 y1 y2) (laws_markMarkS.l0 (k + 1) y0 y1 y2))
  | 0 => fun _ _ _ r h => by simp [laws_markMarkS.l0] at h
  | k + 1 => by
    have ih0 := laws_markMarkS.mono_l k
    · intro y0 y1 y2
      unfold laws_markMarkS.l0
      repeat' first
      | (with_reducible exact ih0 _ _ _)
      | (with_reducible exact LeO.refl _)
      | (with_reducible exact LeO.none _)
      | (with_reducible refine LeO.ite ?_ ?_)
      | (with_reducible refine LeO.bind ?_ (fun _ => ?_))
      | exact ih0 _ _ _
      | exact LeO.none _
      | refine LeO.ite ?_ ?_
      | refine LeO.bind ?_ (fun _ => ?_)
theorem laws_markMarkS.mono : ∀ a0 a1 k, LeO (laws_markMarkS.f k a0 a1) (laws_markMarkS.f (k + 1) a0 a1) := by
  intro a0 a1 k
  have ih0 := laws_markMarkS.mono_l k
  unfold laws_markMarkS.f
  repeat' first
      | (with_reducible exact ih0 _ _ _)
      | (with_reducible exact LeO.refl _)
      | (with_reducible exact LeO.none _)
      | (with_reducible refine LeO.ite ?_ ?_)
      | (with_reducible refine LeO.bind ?_ (fun _ => ?_))
      | exact ih0 _ _ _
      | exact LeO.none _
      | refine LeO.ite ?_ ?_
      | refine LeO.bind ?_ (fun _ => ?_)
theorem y48_ {P : Prop} (h : P := by repeat (first | (with_reducible first | exact HK.out | apply Kept.alloc | apply Kept.drewN | apply Kept.drew) | exact HK.out)) : P := h
set_option maxHeartbeats 8000000 in
set_option maxRecDepth 100000 in
theorem laws_markMarkS.calls (k : Nat) (P0_ : Nat → Prop) (u9000_ : Value) (l0 : List (S67)) (a1 : Int) (r1 : Int) (r2 : List (S67)) (w0 w : World) (hB : Below w0.heap.size w0 w) (ho0 : Kd.R k67 67 w w0.heap.size P0_ u9000_ l0) (h : laws_markMarkS.f k l0 a1 = some (r1, r2)) :
    Calls Try.prog 26 #[u9000_, .int .i64 a1] w fun e w' => e = .returned (.int .i64 r1) ∧ Kd.R k67 67 w' w0.heap.size (fun k_ => (P0_ k_ ∨ w.heap.size ≤ k_)) u9000_ r2 ∧ Below w0.heap.size w0 w' ∧ Kept w w' (fun k_ => P0_ k_) := by
  have HO0 := Aside0.mk (show Kd.R k67 67 w w0.heap.size (fun k_ => (P0_ k_ ∨ w.heap.size ≤ k_)) u9000_ l0 from Kd.R_mono ho0 (fun k_ hk => (.inl hk)))
  have HK := Aside0.mk (Kept.refl w (fun k_ => P0_ k_))
  have HW0 := Aside0.mk hB.size
  have HB := Aside0.mk hB
  clear hB
  have H : (laws_markMarkS.l0 k l0 a1 0) = some (r1, r2) := h
  clear h
  have H' := Aside0.mk H
  clear H
  go_enter Try.func26, Try.ntmps26
  go_wp2
  go_loopg [1, 5] k (fun kq v1 v5 w' => ∃ (x0_1 : List (S67)) (x1_1 : Int) (x5_1 : Int), v1 = .int .i64 x1_1 ∧ v5 = .int .i64 x5_1 ∧ Aside0 (laws_markMarkS.l0 kq x0_1 x1_1 x5_1 = some (r1, r2)) ∧ Aside0 (kq ≤ k) ∧ Aside0 (Kd.R k67 67 w' w0.heap.size (fun k_ => (P0_ k_ ∨ w.heap.size ≤ k_)) u9000_ x0_1) ∧ Aside0 (Kept w w' (fun k_ => P0_ k_)) ∧ Aside0 (Below w0.heap.size w0 w'))
  case atStart => exact ⟨(l0), (a1), (0), (by first | rfl | (simp; done) | (simp [*]; done)), (by first | rfl | (simp; done) | (simp [*]; done)), H', ⟨Nat.le_refl _⟩, ⟨rd_ HO0.out⟩, ⟨y48_⟩, ⟨hd_ HB.out⟩⟩
  case round =>
    clear H'
    try clear c2
    try clear p2
    obtain ⟨x0_1, x1_1, x5_1, rfl, rfl, HA, HK1, HO_0, HK, HB⟩ := hrel
    cases gk with
    | zero => exact absurd HA.out (by simp [laws_markMarkS.l0])
    | succ k1 =>
      have H := HA.out
      clear HA
      simp only [laws_markMarkS.l0] at H
      by_cases c3 : x5_1 < (x0_1.length : Int)
      · rw [if_pos c3] at H
        have c3b0 : decide (x5_1 < (x0_1.length : Int)) = true := decide_eq_true c3
        clear c3
        by_cases c4 : 0 ≤ x5_1
        · rw [if_pos c4] at H
          have c4b0 : decide (0 ≤ x5_1) = true := decide_eq_true c4
          clear c4
          obtain ⟨y142, hy142⟩ : ∃ y_ : List (S67), y_ = (x0_1.set (x5_1 : Int).toNat (⟨x1_1, (rd_T67 x0_1 x5_1).f1⟩ : S67)) := ⟨_, rfl⟩
          replace H : (laws_markMarkS.l0 k1 (y142.set (x5_1 : Int).toNat (⟨(rd_T67 y142 x5_1).f0, wrap64 (x1_1 + 1)⟩ : S67)) (wrap64 ((wrap64 (x1_1 + 1)) + 1)) (wrap64 (x5_1 + 1))) = some (r1, r2) := by first | (rw [hy142]; with_reducible exact H) | (have H2_ := (Option.bind_some _ _).symm.trans H; rw [hy142]; with_reducible exact H2_) | (have H2_ := (Option.bind_some _ _).symm.trans H; with_reducible exact H2_) | with_reducible exact H | (rw [hy142]; exact H) | exact H
          have Ny142 := Aside0.mk hy142
          clear hy142
          obtain ⟨y143, hy143⟩ : ∃ y_ : List (S67), y_ = (y142.set (x5_1 : Int).toNat (⟨(rd_T67 y142 x5_1).f0, wrap64 (x1_1 + 1)⟩ : S67)) := ⟨_, rfl⟩
          replace H : (laws_markMarkS.l0 k1 y143 (wrap64 ((wrap64 (x1_1 + 1)) + 1)) (wrap64 (x5_1 + 1))) = some (r1, r2) := by first | (rw [hy143]; with_reducible exact H) | (have H2_ := (Option.bind_some _ _).symm.trans H; rw [hy143]; with_reducible exact H2_) | (have H2_ := (Option.bind_some _ _).symm.trans H; with_reducible exact H2_) | with_reducible exact H | (rw [hy143]; exact H) | exact H
          have Ny143 := Aside0.mk hy143
          clear hy143
          have H' := Aside0.mk H
          clear H
          obtain ⟨Ao7, co7, eo7⟩ := Kd.R_slice HO_0.out
          subst eo7
          have p5 : 0 ≤ (x5_1 : Int) := of_decide_eq_true as_
          have q5 : (x5_1 : Int) < ((x0_1.length : Int) : Int) := of_decide_eq_true as_
          obtain ⟨go5, co5, eo5, gb5, gl5, cl5, HG5⟩ := Kd.R_form HO_0.out (by omega)
          (first | cases eo5 | (injection eo5 with ea_ en_ ec_; (first | subst ea_ | (injection ea_ with ea_; subst ea_)); subst ec_; clear en_))
          have GB5 := Aside0.mk gb5
          have GG5 := Aside0.mk HG5
          clear gb5 gl5 HG5
          have HMgo5 := Aside0.mk (show (P0_ go5 ∨ w.heap.size ≤ go5) from (HO_0.out.1 _ rfl))
          obtain ⟨ce5, hcl5, hM5, hcc5, hfr5⟩ := Kd.R_elem HO_0.out z67 (x5_1 : Int) p5 q5
          obtain rfl := k67_openM hM5
          have hx5_0 : wr.cell? ⟨go5, (x5_1 : Int).toNat * 2, none⟩ = some (.int .i64 ((rd_T67 x0_1 x5_1).f0)) := hcc5 0 _ rfl
          have hx5_1 : wr.cell? ⟨go5, (x5_1 : Int).toNat * 2 + 1, none⟩ = some (.int .i64 ((rd_T67 x0_1 x5_1).f1)) := hcc5 1 _ rfl
          have hf5_0 : wr.frozen? ⟨go5, (x5_1 : Int).toNat * 2, none⟩ = false := hfr5 0
          have hf5_1 : wr.frozen? ⟨go5, (x5_1 : Int).toNat * 2 + 1, none⟩ = false := hfr5 1
          clear hcl5 hcc5 hfr5 hM5
          replace p5 := eq_true p5
          replace q5 := eq_true q5
          have HX8 := Aside0.mk (show Kd.R k67 67 wr w0.heap.size (fun k_ => (P0_ k_ ∨ w.heap.size ≤ k_)) (.slice (some ⟨go5, 0, none⟩) x0_1.length co7) x0_1 from (rd_ HO_0.out))
          obtain ⟨ce8, hcl8, hM8, hcc8, hfr8⟩ := Kd.R_elem HX8.out z67 (x5_1 : Int) (of_decide_eq_true as_) (by have h_ : (x5_1 : Int) < ((x0_1.length : Int) : Int) := of_decide_eq_true as_; first | exact h_ | (have e_ := (Kd.R_reads' HO_0.out).1; omega) | simpa using h_)
          obtain rfl := k67_openM hM8
          have HP8 := Kd.R_seg HX8.out (x5_1 : Int) (of_decide_eq_true as_) (by have h_ : (x5_1 : Int) < ((x0_1.length : Int) : Int) := of_decide_eq_true as_; first | exact h_ | (have e_ := (Kd.R_reads' HO_0.out).1; omega) | simpa using h_) (seg := [.int .i64 x1_1]) (j := 0) hcl8 hcc8 (show 1 ≤ 2 from by decide) (x' := (⟨x1_1, (rd_T67 x0_1 x5_1).f1⟩ : S67)) (k67_mkM _ _ _ (⟨x1_1, (rd_T67 x0_1 x5_1).f1⟩ : S67) ) (fun _ hk => hk)
          have hx8_0 := hcc8 0 _ rfl
          (try simp only [show (k67).sz = 2 from rfl, Nat.mul_one, Nat.add_zero] at hx8_0)
          have hf8_0 := hfr8 0
          (try simp only [show (k67).sz = 2 from rfl, Nat.mul_one, Nat.add_zero] at hf8_0)
          clear hcl8 hcc8 hfr8 hM8
          go_wp2_with (first | ((with_reducible refine gate_store (t := 3) (p := 16) rfl ?_); refine store_event (t := 3) (p := 16) (v := ?vo_w9) (w1 := (wr.setCell ⟨go5, (x5_1 : Int).toNat * 2, none⟩ (.int .i64 x1_1))) ?hg ?ho ?hn ?hr ?_; (case ho => rfl); (case hg => rfl); (case hn => rfl); (case hr => first | (go_simp; done) | (go_simp; rfl)); intro w9 hw; have hg : wr.grownBy w9 (some go5) := (by rw [hw]; exact HP8.2); have hp_ : Kd.R k67 67 w9 w0.heap.size (fun k_ => (P0_ k_ ∨ w.heap.size ≤ k_)) (.slice (some ⟨go5, 0, none⟩) x0_1.length co7) y142 := (by rw [hw, Ny142.out]; exact HP8.1); clear HP8; have n0_ := Aside0.mk (hp_); have n1_ := Aside0.mk ((by rw [hw]; exact below_set (HB.out) GB5.out : Below w0.heap.size w0 w9)); have n2_ := Aside0.mk (Kept.of_grown (S := (fun k_ => P0_ k_)) hg (y48_) (fun k_ e_ => (HO_0.out.1 k_ e_))); clear HO_0; clear HB; clear HK; have HO_0 := n0_; have HB := n1_; have HK := n2_; clear n0_ n1_ n2_; clear hg hw hp_; have p6 : 0 ≤ (x5_1 : Int) := of_decide_eq_true as_; have q6 : (x5_1 : Int) < ((x0_1.length : Int) : Int) := of_decide_eq_true as_; obtain ⟨ce6, hcl6, hM6, hcc6, hfr6⟩ := Kd.R_elem HO_0.out z67 (x5_1 : Int) p6 q6; obtain rfl := k67_openM hM6; have hx6_0 : w9.cell? ⟨go5, (x5_1 : Int).toNat * 2, none⟩ = some (.int .i64 ((rd_T67 y142 x5_1).f0)) := hcc6 0 _ rfl; have hx6_1 : w9.cell? ⟨go5, (x5_1 : Int).toNat * 2 + 1, none⟩ = some (.int .i64 ((rd_T67 y142 x5_1).f1)) := hcc6 1 _ rfl; have hf6_0 : w9.frozen? ⟨go5, (x5_1 : Int).toNat * 2, none⟩ = false := hfr6 0; have hf6_1 : w9.frozen? ⟨go5, (x5_1 : Int).toNat * 2 + 1, none⟩ = false := hfr6 1; clear hcl6 hcc6 hfr6 hM6; replace p6 := eq_true p6; replace q6 := eq_true q6; have HX10 := Aside0.mk (show Kd.R k67 67 w9 w0.heap.size (fun k_ => (P0_ k_ ∨ w.heap.size ≤ k_)) (.slice (some ⟨go5, 0, none⟩) x0_1.length co7) y142 from (rd_ HO_0.out)); obtain ⟨ce10, hcl10, hM10, hcc10, hfr10⟩ := Kd.R_elem HX10.out z67 (x5_1 : Int) (of_decide_eq_true as_) (by have h_ : (x5_1 : Int) < ((x0_1.length : Int) : Int) := of_decide_eq_true as_; first | exact h_ | (have e_ := (Kd.R_reads' HO_0.out).1; omega) | simpa using h_); obtain rfl := k67_openM hM10; have HP10 := Kd.R_seg HX10.out (x5_1 : Int) (of_decide_eq_true as_) (by have h_ : (x5_1 : Int) < ((x0_1.length : Int) : Int) := of_decide_eq_true as_; first | exact h_ | (have e_ := (Kd.R_reads' HO_0.out).1; omega) | simpa using h_) (seg := [.int .i64 (wrap64 (x1_1 + 1))]) (j := 1) hcl10 hcc10 (show 2 ≤ 2 from by decide) (x' := (⟨(rd_T67 y142 x5_1).f0, wrap64 (x1_1 + 1)⟩ : S67)) (k67_mkM _ _ _ (⟨(rd_T67 y142 x5_1).f0, wrap64 (x1_1 + 1)⟩ : S67) ) (fun _ hk => hk); have hx10_1 := hcc10 1 _ rfl; (try simp only [show (k67).sz = 2 from rfl, Nat.mul_one, Nat.add_zero] at hx10_1); have hf10_1 := hfr10 1; (try simp only [show (k67).sz = 2 from rfl, Nat.mul_one, Nat.add_zero] at hf10_1); clear hcl10 hcc10 hfr10 hM10) | ((with_reducible refine gate_store (t := 3) (p := 23) rfl ?_); refine store_event (t := 3) (p := 23) (v := ?vo_w11) (w1 := (w9.setCell ⟨go5, (x5_1 : Int).toNat * 2 + 1, none⟩ (.int .i64 (wrap64 (x1_1 + 1))))) ?hg ?ho ?hn ?hr ?_; (case ho => rfl); (case hg => rfl); (case hn => rfl); (case hr => first | (go_simp; done) | (go_simp; rfl)); intro w11 hw; have hg : w9.grownBy w11 (some go5) := (by rw [hw]; exact HP10.2); have hp_ : Kd.R k67 67 w11 w0.heap.size (fun k_ => (P0_ k_ ∨ w.heap.size ≤ k_)) (.slice (some ⟨go5, 0, none⟩) x0_1.length co7) y143 := (by rw [hw, Ny143.out]; exact HP10.1); clear HP10; have n0_ := Aside0.mk (hp_); have n1_ := Aside0.mk ((by rw [hw]; exact below_set (HB.out) GB5.out : Below w0.heap.size w0 w11)); have n2_ := Aside0.mk (Kept.of_grown (S := (fun k_ => P0_ k_)) hg (y48_) (fun k_ e_ => (HO_0.out.1 k_ e_))); clear HO_0; clear HB; clear HK; have HO_0 := n0_; have HB := n1_; have HK := n2_; clear n0_ n1_ n2_; clear hg hw hp_))
          go_roundg k1
          case measure => have := HK1.out; omega
          case rel => exact ⟨(y143), (wrap64 ((wrap64 (x1_1 + 1)) + 1)), (wrap64 (x5_1 + 1)), (by first | rfl | (simp; done) | (simp [*]; done)), (by first | rfl | (simp; done) | (simp [*]; done)), H', ⟨by have := HK1.out; omega⟩, ⟨rd_ HO_0.out⟩, ⟨y48_⟩, ⟨hd_ HB.out⟩⟩
        · rw [if_neg c4] at H
          exact absurd H (by simp)
      · rw [if_neg c3] at H
        have c3b0 : decide (x5_1 < (x0_1.length : Int)) = false := decide_eq_false c3
        clear c3
        simp only [Option.some.injEq, Prod.mk.injEq] at H
        obtain ⟨rfl, rfl⟩ := H
        obtain ⟨Ao12, co12, eo12⟩ := Kd.R_slice HO_0.out
        subst eo12
        go_wp2
        go_ret
        exact ⟨by first | rfl | (simp [errW_none, errW_some] <;> rfl) | (simp [*, errW_none, errW_some] <;> rfl), rd_ HO_0.out, hd_ HB.out, y48_⟩

/-! ### laws_markSecretS: function 25 -/
def laws_markSecretS.l0 : Nat → List S36 → Int → Int → Option (Int × List S36)
  | 0, _, _, _ => none
  | k + 1, x0, x1, x5 => if x5 < (x0.length : Int) then (if 0 ≤ x5 then ((laws_markMarkS.f k (rd_T36 x0 x5).f1 (wrap64 (x1 + 1))).bind fun bt => laws_markSecretS.l0 k (x0.set (x5 : Int).toNat (⟨x1, bt.2, bt.1⟩ : S36)) (wrap64 (bt.1 + 1)) (wrap64 (x5 + 1))) else none) else some (x1, x0)
def laws_markSecretS.g (k : Nat) (l0 : List S36) (a1 : Int) : Option (Int × List S36) := laws_markSecretS.l0 k l0 a1 0
/-- What the law sees of it. -/
def laws_markSecretS.f (k : Nat) (l0 : List S36) (a1 : Int) : Option Int := (laws_markSecretS.g k l0 a1).bind fun bt => some bt.1
theorem laws_markSecretS.both {k : Nat} {l0 : List S36} {a1 r : Int} (h : laws_markSecretS.f k l0 a1 = some r) : ∃ r2, laws_markSecretS.g k l0 a1 = some (r, r2) := by
  obtain ⟨⟨x, y⟩, h1, h2⟩ := Option.bind_eq_some_iff.mp h
  exact ⟨y, by rw [h1]; injection h2 with h2; subst h2; rfl⟩
theorem laws_markSecretS.mono_l : ∀ k, ∀ y0 y1 y2, LeO (laws_markSecretS.l0 k y0 y1 y2) (laws_markSecretS.l0 (k + 1) y0 y1 y2)
  | 0 => fun _ _ _ r h => by simp [laws_markSecretS.l0] at h
  | k + 1 => by
    have ih0 := laws_markSecretS.mono_l k
    intro y0 y1 y2
    unfold laws_markSecretS.l0
    repeat' first
      | (with_reducible exact ih0 _ _ _)
      | (with_reducible exact laws_markMarkS.mono _ _ _)
      | (with_reducible exact LeO.refl _)
      | (with_reducible exact LeO.none _)
      | (with_reducible refine LeO.ite ?_ ?_)
      | (with_reducible refine LeO.bind ?_ (fun _ => ?_))
theorem laws_markSecretS.mono : ∀ a0 a1 k, LeO (laws_markSecretS.f k a0 a1) (laws_markSecretS.f (k + 1) a0 a1) := fun a0 a1 k => LeO.bind (laws_markSecretS.mono_l k a0 a1 0) (fun _ => LeO.refl _)
set_option maxHeartbeats 8000000 in
set_option maxRecDepth 100000 in
theorem laws_markSecretS.calls (k : Nat) (P0_ : Nat → Prop) (u9000_ : Value) (l0 : List S36) (a1 : Int) (r1 : Int) (r2 : List S36) (w0 w : World) (hB : Below w0.heap.size w0 w) (ho0 : Kd.S k36 36 w w0.heap.size P0_ u9000_ l0) (h : laws_markSecretS.g k l0 a1 = some (r1, r2)) :
    Calls Try.prog 25 #[u9000_, .int .i64 a1] w fun e w' => e = .returned (.int .i64 r1) ∧ Kd.S k36 36 w' w0.heap.size (fun k_ => (P0_ k_ ∨ w.heap.size ≤ k_)) u9000_ r2 ∧ Below w0.heap.size w0 w' ∧ Kept w w' (fun k_ => P0_ k_) := by
  have huE := Try.underlying36
  have HO0 := Aside0.mk (show Kd.S k36 36 w w0.heap.size (fun k_ => (P0_ k_ ∨ w.heap.size ≤ k_)) u9000_ l0 from Kd.S_mono ho0 (fun k_ hk => (.inl hk)))
  have HK := Aside0.mk (Kept.refl w (fun k_ => P0_ k_))
  have HB := Aside0.mk hB
  clear hB ho0
  have H' := Aside0.mk (show laws_markSecretS.l0 k l0 a1 0 = some (r1, r2) from h)
  clear h
  go_enter Try.func25, Try.ntmps25
  go_wp2
  go_loopg [1, 5] k (fun kq v1 v5 w' => ∃ (x0_1 : List S36) (x1_1 : Int) (x5_1 : Int), v1 = .int .i64 x1_1 ∧ v5 = .int .i64 x5_1 ∧ Aside0 (laws_markSecretS.l0 kq x0_1 x1_1 x5_1 = some (r1, r2)) ∧ Aside0 (kq ≤ k) ∧ Aside0 (Kd.S k36 36 w' w0.heap.size (fun k_ => (P0_ k_ ∨ w.heap.size ≤ k_)) u9000_ x0_1) ∧ Aside0 (Kept w w' (fun k_ => P0_ k_)) ∧ Aside0 (Below w0.heap.size w0 w'))
  case atStart => exact ⟨l0, a1, 0, rfl, rfl, H', ⟨Nat.le_refl _⟩, HO0, HK, HB⟩
  case round =>
    clear H' HO0 HK HB
    obtain ⟨x0_1, x1_1, x5_1, rfl, rfl, HA, HK1, HO_0, HK, HB⟩ := hrel
    cases gk with
    | zero => exact absurd HA.out (by simp [laws_markSecretS.l0])
    | succ k1 =>
      have H := HA.out
      clear HA
      simp only [laws_markSecretS.l0] at H
      by_cases c3 : x5_1 < (x0_1.length : Int)
      · rw [if_pos c3] at H
        have c3b0 : decide (x5_1 < (x0_1.length : Int)) = true := decide_eq_true c3
        by_cases c4 : 0 ≤ x5_1
        · rw [if_pos c4] at H
          obtain ⟨bt, HM, H⟩ := Option.bind_eq_some_iff.mp H
          obtain ⟨m1, m2⟩ := bt
          have HM := Aside0.mk HM
          have H' := Aside0.mk H
          clear H
          obtain ⟨Ao7, co7, eo7⟩ := Kd.S_slice HO_0.out
          subst eo7
          obtain ⟨go5, co5, eo5, gb5, gl5, cl5, HG5⟩ := Kd.S_form HO_0.out (by omega)
          (first | cases eo5 | (injection eo5 with ea_ en_ ec_; (first | subst ea_ | (injection ea_ with ea_; subst ea_)); subst ec_; clear en_))
          have GB5 := Aside0.mk gb5
          clear gb5 gl5 HG5
          have GO5 := Aside0.mk (show (P0_ go5 ∨ w.heap.size ≤ go5) from (Kd.S_R HO_0.out).1 _ rfl)
          have hlen : x5_1.toNat < x0_1.length := by omega
          have HL := Aside0.mk hlen
          have P5 := Aside0.mk c4
          have Q5 := Aside0.mk c3
          obtain ⟨oki5, ce5, hcl5, hM5, hcc5, hfr5, hoki5, hH5⟩ := Kd.S_elem HO_0.out z36 x5_1 c4 c3
          obtain ⟨v5, rfl, hv5⟩ := k36_openM hM5
          have hx5_0 : wr.cell? ⟨go5, (x5_1 : Int).toNat * 3, none⟩ = some (.int .i64 (rd_T36 x0_1 x5_1).f0) := hcc5 0 _ rfl
          have hf5_0 : wr.frozen? ⟨go5, (x5_1 : Int).toNat * 3, none⟩ = false := hfr5 0
          have HP8 := Kd.S_seg (okg := fun _ => False) (Kd.H_mono hH5 (fun k_ hk => ⟨hk, id⟩)) c4 c3 (seg := [.int .i64 x1_1]) (j := 0) (show 1 ≤ 3 from by decide) (x' := (⟨x1_1, (rd_T36 x0_1 x5_1).f1, (rd_T36 x0_1 x5_1).f2⟩ : S36)) (k36_mkM _ _ _ (⟨x1_1, (rd_T36 x0_1 x5_1).f1, (rd_T36 x0_1 x5_1).f2⟩ : S36) hv5) (fun _ hk => .inl hk) (fun _ hk => hk.elim)
          have HP8 := Aside0.mk HP8
          clear hM5 hcc5 hfr5 hoki5 hH5 hv5 hcl5 hlen
          replace c3 := eq_true c3
          replace c4 := eq_true c4
          go_wp2_with (first | ((with_reducible refine gate_store (t := 3) (p := 16) rfl ?_); refine store_event (t := 3) (p := 16) (v := ?vo_w9) (w1 := (wr.setCell ⟨go5, (x5_1 : Int).toNat * 3, none⟩ (.int .i64 x1_1))) ?hg ?ho ?hn ?hr ?_; (case ho => rfl); (case hg => rfl); (case hn => rfl); (case hr => first | (go_simp; done) | (go_simp; rfl)); intro w9 hw; have hg : wr.grownBy w9 (some go5) := (by rw [hw]; exact HP8.out.2); have hp_ : Kd.S k36 36 w9 w0.heap.size (fun k_ => (P0_ k_ ∨ w.heap.size ≤ k_)) (.slice (some ⟨go5, 0, none⟩) x0_1.length co7) (x0_1.set x5_1.toNat (⟨x1_1, (rd_T36 x0_1 x5_1).f1, (rd_T36 x0_1 x5_1).f2⟩ : S36)) := (by rw [hw]; exact HP8.out.1); have n0_ := Aside0.mk hp_; have n1_ := Aside0.mk ((by rw [hw]; exact below_set (HB.out) GB5.out : Below w0.heap.size w0 w9)); have n2_ := Aside0.mk (Kept.of_grown (S := (fun k_ => P0_ k_)) hg HK.out (fun k_ e_ => by injection e_ with e_; subst e_; exact GO5.out)); clear HO_0 HB HK HP8 hx5_0 hf5_0; have HO_0 := n0_; have HB := n1_; have HK := n2_; clear n0_ n1_ n2_; clear hg hw hp_; obtain ⟨oki6, ce6, hcl6, hM6, hcc6, hfr6, hoki6, hH6⟩ := Kd.S_elem HO_0.out z36 x5_1 P5.out Q5.out; rw [List.getD_eq_getElem?_getD, List.getElem?_set_self HL.out, Option.getD_some] at hM6; obtain ⟨v6, rfl, hv6⟩ := k36_openM hM6; obtain ⟨A6, c6, e6⟩ := Kd.R_slice hv6; subst e6; have hx6_1 : w9.cell? ⟨go5, (x5_1 : Int).toNat * 3 + 1, none⟩ = some (.slice A6 (rd_T36 x0_1 x5_1).f1.length c6) := hcc6 1 _ rfl; have HH6 := Aside0.mk (Kd.H_widen hH6); have HV6 := Aside0.mk hv6; have HI6 := Aside0.mk hoki6; clear hcl6 hM6 hcc6 hfr6 hoki6 hH6 hv6) | (go_at_call 26; refine (laws_markMarkS.calls k1 oki6 _ _ (wrap64 (x1_1 + 1)) m1 m2 w0 _ HB.out HV6.out HM.out).mono ?_; rintro e w10 ⟨rfl, hr, hb, hk⟩; have n1_ := Aside0.mk hb; have n2_ := Aside0.mk (Kept.then_ HK.out hk (fun k_ h_ => (HI6.out k_ h_).1)); have hsz : w.heap.size ≤ w9.heap.size := HK.out.1; have hH := Kd.H_step (w1 := w10) HH6.out (fun k_ h1 h2 hlt => hk.2 k_ hlt (fun h3 => h2 (.inl h3))); have hS := Kd.H_back hH (k36_mkM w10 _ _ (⟨x1_1, m2, (rd_T36 x0_1 x5_1).f2⟩ : S36) hr) (fun k_ h_ => h_.elim .inl (fun h3 => .inr ⟨.inr (by omega), h3⟩)); rw [List.set_set] at hS; have n0_ := Aside0.mk hS; clear HO_0 HB HK HH6 HV6 HI6 hx6_1 hr hb hk hH hS hsz; have HO_0 := n0_; have HB := n1_; have HK := n2_; clear n0_ n1_ n2_; obtain ⟨oki7, ce7, hcl7, hM7, hcc7, hfr7, hoki7, hH7⟩ := Kd.S_elem HO_0.out z36 x5_1 P5.out Q5.out; rw [List.getD_eq_getElem?_getD, List.getElem?_set_self HL.out, Option.getD_some] at hM7; obtain ⟨v7, rfl, hv7⟩ := k36_openM hM7; have hx7_2 : w10.cell? ⟨go5, (x5_1 : Int).toNat * 3 + 2, none⟩ = some (.int .i64 (rd_T36 x0_1 x5_1).f2) := hcc7 2 _ rfl; have hf7_2 : w10.frozen? ⟨go5, (x5_1 : Int).toNat * 3 + 2, none⟩ = false := hfr7 2; have HP9 := Aside0.mk (Kd.S_seg (okg := fun _ => False) (Kd.H_mono hH7 (fun k_ hk => ⟨hk, id⟩)) P5.out Q5.out (seg := [.int .i64 m1]) (j := 2) (show 3 ≤ 3 from by decide) (x' := (⟨x1_1, m2, m1⟩ : S36)) (k36_mkM _ _ _ (⟨x1_1, m2, m1⟩ : S36) hv7) (fun _ hk => .inl hk) (fun _ hk => hk.elim)); clear hcl7 hM7 hcc7 hfr7 hoki7 hH7 hv7) | ((with_reducible refine gate_store (t := 3) (p := 30) rfl ?_); refine store_event (t := 3) (p := 30) (v := ?vo_w11) (w1 := (w10.setCell ⟨go5, (x5_1 : Int).toNat * 3 + 2, none⟩ (.int .i64 m1))) ?hg ?ho ?hn ?hr ?_; (case ho => rfl); (case hg => rfl); (case hn => rfl); (case hr => first | (go_simp; done) | (go_simp; rfl)); intro w11 hw; have hg : w10.grownBy w11 (some go5) := (by rw [hw]; exact HP9.out.2); have hp_ : Kd.S k36 36 w11 w0.heap.size (fun k_ => (P0_ k_ ∨ w.heap.size ≤ k_)) (.slice (some ⟨go5, 0, none⟩) x0_1.length co7) (x0_1.set x5_1.toNat (⟨x1_1, m2, m1⟩ : S36)) := (by rw [hw]; have h9 := HP9.out.1; rw [List.set_set] at h9; exact h9); have n0_ := Aside0.mk hp_; have n1_ := Aside0.mk ((by rw [hw]; exact below_set (HB.out) GB5.out : Below w0.heap.size w0 w11)); have n2_ := Aside0.mk (Kept.of_grown (S := (fun k_ => P0_ k_)) hg HK.out (fun k_ e_ => by injection e_ with e_; subst e_; exact GO5.out)); clear HO_0 HB HK HP9 hx7_2 hf7_2; have HO_0 := n0_; have HB := n1_; have HK := n2_; clear n0_ n1_ n2_; clear hg hw hp_))
          go_roundg k1
          case measure => have := HK1.out; omega
          case rel => exact ⟨_, wrap64 (m1 + 1), wrap64 (x5_1 + 1), (by first | rfl | (simp; done) | (simp [*]; done)), (by first | rfl | (simp; done) | (simp [*]; done)), H', ⟨by have := HK1.out; omega⟩, HO_0, HK, HB⟩
        · rw [if_neg c4] at H
          exact absurd H (by simp)
      · rw [if_neg c3] at H
        have c3b0 : decide (x5_1 < (x0_1.length : Int)) = false := decide_eq_false c3
        clear c3
        simp only [Option.some.injEq, Prod.mk.injEq] at H
        obtain ⟨rfl, rfl⟩ := H
        obtain ⟨Ao12, co12, eo12⟩ := Kd.S_slice HO_0.out
        subst eo12
        go_wp2
        go_ret
        exact ⟨rfl, HO_0.out, HB.out, HK.out⟩


/-! ### spec_l1In: function 42 -/
def spec_l1In.f (a0 : Int) (a1 : Int) (a2 : Int) : Option (Bool) := if a0 ≥ a1 then (some (decide (a0 ≤ a2))) else (some false)
set_option maxHeartbeats 8000000 in
set_option maxRecDepth 100000 in
theorem spec_l1In.calls (a0 : Int) (a1 : Int) (a2 : Int) (r : Bool) (w : World) (h : spec_l1In.f a0 a1 a2 = some r) :
    Calls Try.prog 42 #[.int .i64 a0, .int .i64 a1, .int .i64 a2] w fun e w' => e = .returned (.bool r) ∧ Drawn0 w w' := by
  have H : (if a0 ≥ a1 then (some (decide (a0 ≤ a2))) else (some false)) = some r := h
  clear h
  by_cases c4 : a0 ≥ a1
  · rw [if_pos c4] at H
    have c4b0 : decide (a1 ≤ a0) = true := decide_eq_true c4
    clear c4
    obtain rfl := Option.some.inj H
    go_enter Try.func42, Try.ntmps42
    go_wp2
    go_ret
    exact ⟨by first | rfl | (simp; done) | (simp [*]; done), by repeat (first | exact Drawn0.refl _ | apply Drawn0.step)⟩
  · rw [if_neg c4] at H
    have c4b0 : decide (a1 ≤ a0) = false := decide_eq_false c4
    clear c4
    obtain rfl := Option.some.inj H
    go_enter Try.func42, Try.ntmps42
    go_wp2
    go_ret
    exact ⟨by first | rfl | (simp; done) | (simp [*]; done), by repeat (first | exact Drawn0.refl _ | apply Drawn0.step)⟩

end Go.Proofs.Ytfghapankndioaa.PFnExactPutSecret
