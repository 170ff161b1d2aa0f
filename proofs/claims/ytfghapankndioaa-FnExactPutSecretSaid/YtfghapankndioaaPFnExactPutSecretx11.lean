-- Written for this claim by a program (a printer turned to this claim); Lean checks it.
import Derived.Test.YtfghapankndioaaPFnExactPutSecretx0
import Derived.Test.YtfghapankndioaaPFnExactPutSecretx1
import Derived.Test.YtfghapankndioaaPFnExactPutSecretx2
import Derived.Test.YtfghapankndioaaPFnExactPutSecretx3
import Derived.Test.YtfghapankndioaaPFnExactPutSecretx7
import Derived.Test.YtfghapankndioaaPFnExactPutSecretx10
namespace Go.Proofs.Ytfghapankndioaa.PFnExactPutSecret
open Go.RowKit Go.Proofs.YtfghapankndioaaW.PrintWords Go.Proofs.YtfghapankndioaaW.PrintLast Go.Proofs.YtfghapankndioaaW.PrintMore
attribute [local go_sem] max2_int min2_int max_two min_two max_three min_three max_four min_four   -- for this text's walks alone
set_option linter.unusedVariables false
set_option linter.unusedSimpArgs false

/-! ### laws_heldSecretS: function 33 -/
def laws_heldSecretS.l0 : Nat → List (S36) → Int → Int → Option (Int)
  | 0, _, _, _ => none
  | k + 1, x0, x1, x5 => if x5 < (x0.length : Int) then (if 0 ≤ x5 then (if ((rd_T36 x0 x5).f0) = x1 then ((laws_heldMarkS.f k ((rd_T36 x0 x5).f1) (wrap64 (x1 + 1))).bind fun t237 => (if t237 < 0 then (some (-1)) else (if ((rd_T36 x0 x5).f2) = t237 then (laws_heldSecretS.l0 k x0 (wrap64 (t237 + 1)) (wrap64 (x5 + 1))) else (some (-1))))) else (some (-1))) else (none)) else (some x1)
def laws_heldSecretS.f (k : Nat) (l0 : List (S36)) (a1 : Int) : Option (Int) := laws_heldSecretS.l0 k l0 a1 0
theorem laws_heldSecretS.mono_l : ∀ k, (∀ y0 y1 y2, LeO (laws_heldSecretS.l0 k y0 y1 y2) (laws_heldSecretS.l0 (k + 1) y0 y1 y2))
  | 0 => fun _ _ _ r h => by simp [laws_heldSecretS.l0] at h
  | k + 1 => by
    have ih0 := laws_heldSecretS.mono_l k
    · intro y0 y1 y2
      unfold laws_heldSecretS.l0
      repeat' first
      | (with_reducible exact ih0 _ _ _)
      | (with_reducible exact laws_heldMarkS.mono _ _ _)
      | (with_reducible exact LeO.refl _)
      | (with_reducible exact LeO.none _)
      | (with_reducible refine LeO.ite ?_ ?_)
      | (with_reducible refine LeO.bind ?_ (fun _ => ?_))
      | exact ih0 _ _ _
      | exact laws_heldMarkS.mono _ _ _
      | exact LeO.none _
      | refine LeO.ite ?_ ?_
      | refine LeO.bind ?_ (fun _ => ?_)
theorem laws_heldSecretS.mono : ∀ a0 a1 k, LeO (laws_heldSecretS.f k a0 a1) (laws_heldSecretS.f (k + 1) a0 a1) := by
  intro a0 a1 k
  have ih0 := laws_heldSecretS.mono_l k
  unfold laws_heldSecretS.f
  repeat' first
      | (with_reducible exact ih0 _ _ _)
      | (with_reducible exact laws_heldMarkS.mono _ _ _)
      | (with_reducible exact LeO.refl _)
      | (with_reducible exact LeO.none _)
      | (with_reducible refine LeO.ite ?_ ?_)
      | (with_reducible refine LeO.bind ?_ (fun _ => ?_))
      | exact ih0 _ _ _
      | exact laws_heldMarkS.mono _ _ _
      | exact LeO.none _
      | refine LeO.ite ?_ ?_
      | refine LeO.bind ?_ (fun _ => ?_)
theorem y98_ {P : Prop} (h : P := by first | (with_reducible assumption) | assumption) : P := h
theorem y99_ {P : Prop} (h : P := by (try simp only [List.map_toArray, List.map_cons, List.map_nil]); first | done | rfl | (simp only [List.length_drop, List.length_take]; rfl)) : P := h
theorem y100_ {P : Prop} (h : P := by repeat (first | exact Drawn0.refl _ | apply Drawn0.step)) : P := h
set_option maxHeartbeats 8000000 in
set_option maxRecDepth 100000 in
theorem laws_heldSecretS.calls (k : Nat) (A0 : Option Addr) (c0 : Nat) (l0 : List (S36)) (a1 : Int) (r : Int) (w : World) (hr0 : Kd.C k36 w A0 l0.length l0) (hc0 : l0.length ≤ c0) (h : laws_heldSecretS.f k l0 a1 = some r) :
    Calls Try.prog 33 #[.slice A0 l0.length c0, .int .i64 a1] w fun e w' => e = .returned (.int .i64 r) ∧ Drawn0 w w' := by
  have HR0 := Aside0.mk hr0
  have HC0 := Aside0.mk hc0
  clear hr0 hc0
  have H : (laws_heldSecretS.l0 k l0 a1 0) = some r := h
  clear h
  have H' := Aside0.mk H
  clear H
  go_enter Try.func33, Try.ntmps33
  go_wp2
  go_loopg [1, 5] k (fun kq v1 v5 w' => ∃ (x1_1 : Int) (x5_1 : Int), v1 = .int .i64 x1_1 ∧ v5 = .int .i64 x5_1 ∧ Aside0 (laws_heldSecretS.l0 kq l0 x1_1 x5_1 = some r) ∧ Aside0 (kq ≤ k) ∧ Drawn0 w w')
  case atStart => exact ⟨(a1), (0), (by first | rfl | (simp; done) | (simp [*]; done)), (by first | rfl | (simp; done) | (simp [*]; done)), H', ⟨Nat.le_refl _⟩, y100_⟩
  case round =>
    clear H'
    try clear p2
    obtain ⟨x1_1, x5_1, rfl, rfl, HA, HK1, ⟨m1, rfl⟩⟩ := hrel
    cases gk with
    | zero => exact absurd HA.out (by simp [laws_heldSecretS.l0])
    | succ k1 =>
      have H := HA.out
      clear HA
      simp only [laws_heldSecretS.l0] at H
      by_cases c3 : x5_1 < (l0.length : Int)
      · rw [if_pos c3] at H
        have c3b0 : decide (x5_1 < (l0.length : Int)) = true := decide_eq_true c3
        clear c3
        by_cases c4 : 0 ≤ x5_1
        · rw [if_pos c4] at H
          have c4b0 : decide (0 ≤ x5_1) = true := decide_eq_true c4
          clear c4
          by_cases c5 : ((rd_T36 l0 x5_1).f0) = x1_1
          · rw [if_pos c5] at H
            have c5b0 : (((rd_T36 l0 x5_1).f0) == x1_1) = true := beq_iff_eq.mpr c5
            have c5b1 : (((rd_T36 l0 x5_1).f0) != x1_1) = false := bne_eq_false_iff_eq.mpr c5
            clear c5
            replace H := Option.bind_eq_some_iff.mp H
            obtain ⟨t237, A60, H⟩ := H
            replace H : (if t237 < 0 then (some (-1)) else (if ((rd_T36 l0 x5_1).f2) = t237 then (laws_heldSecretS.l0 k1 l0 (wrap64 (t237 + 1)) (wrap64 (x5_1 + 1))) else (some (-1)))) = some r := H
            have A6 := Aside0.mk A60
            clear A60
            by_cases c7 : t237 < 0
            · rw [if_pos c7] at H
              have c7b0 : decide (t237 < 0) = true := decide_eq_true c7
              clear c7
              obtain rfl := Option.some.inj H
              have p235 : 0 ≤ (x5_1 : Int) := of_decide_eq_true y98_
              have q235 : x5_1 < (l0.length : Int) := of_decide_eq_true y98_
              obtain ⟨ad235, A235_1, c235_1, e235, hx235_0, hx235_1, hx235_2, hl235_1, hi235_1⟩ := at_T36 HR0.out x5_1 p235 q235
              cases e235
              have HR235_1 := Aside0.mk hi235_1
              have HC235_1 := Aside0.mk hl235_1
              clear hi235_1 hl235_1
              replace p235 := eq_true p235
              replace q235 := eq_true q235
              have p236 : 0 ≤ (x5_1 : Int) := of_decide_eq_true y98_
              have q236 : x5_1 < (l0.length : Int) := of_decide_eq_true y98_
              obtain ⟨ad236, A236_1, c236_1, e236, hx236_0, hx236_1, hx236_2, hl236_1, hi236_1⟩ := at_T36 HR0.out x5_1 p236 q236
              obtain rfl : ad235 = ad236 := (by injection e236)
              have HR236_1 := Aside0.mk hi236_1
              have HC236_1 := Aside0.mk hl236_1
              clear hi236_1 hl236_1
              replace p236 := eq_true p236
              replace q236 := eq_true q236
              have ea_ := Option.some.inj (hx235_1.symm.trans hx236_1)
              injection ea_ with ea_ en_ ec_
              subst ea_
              subst ec_
              clear en_
              go_wp2_with (first | ((with_reducible refine gate_callee (f := 27) rfl ?_); refine goesL_ (some 27) rfl rfl Try.func27 (by kernel_rfl) rfl #[.slice A235_1 ((rd_T36 l0 x5_1).f1).length c235_1, .int .i64 (wrap64 (x1_1 + 1))] rfl y99_ ?_; (with_reducible refine (laws_heldMarkS.calls k1 _ _ ((rd_T36 l0 x5_1).f1) (wrap64 (x1_1 + 1)) t237 _ ?side1 ?side2 A6.out).mono ?_); (case side1 => repeat (first | exact HR236_1.out | (with_reducible refine Kd.C_alloc ?_ _) | (with_reducible refine Kd.C_drewN ?_ _) | (with_reducible refine Kd.C_drew ?_))); (case side2 => exact HC236_1.out); rintro e w' ⟨rfl, ⟨nd, rfl⟩⟩; refine ⟨_, rfl, ?_⟩))
              go_ret
              exact ⟨by first | rfl | (simp; done) | (simp [*]; done), y100_⟩
            · rw [if_neg c7] at H
              have c7b0 : decide (t237 < 0) = false := decide_eq_false c7
              clear c7
              by_cases c8 : ((rd_T36 l0 x5_1).f2) = t237
              · rw [if_pos c8] at H
                have c8b0 : (((rd_T36 l0 x5_1).f2) == t237) = true := beq_iff_eq.mpr c8
                have c8b1 : (((rd_T36 l0 x5_1).f2) != t237) = false := bne_eq_false_iff_eq.mpr c8
                clear c8
                have H' := Aside0.mk H
                clear H
                have p235 : 0 ≤ (x5_1 : Int) := of_decide_eq_true y98_
                have q235 : x5_1 < (l0.length : Int) := of_decide_eq_true y98_
                obtain ⟨ad235, A235_1, c235_1, e235, hx235_0, hx235_1, hx235_2, hl235_1, hi235_1⟩ := at_T36 HR0.out x5_1 p235 q235
                cases e235
                have HR235_1 := Aside0.mk hi235_1
                have HC235_1 := Aside0.mk hl235_1
                clear hi235_1 hl235_1
                replace p235 := eq_true p235
                replace q235 := eq_true q235
                have p236 : 0 ≤ (x5_1 : Int) := of_decide_eq_true y98_
                have q236 : x5_1 < (l0.length : Int) := of_decide_eq_true y98_
                obtain ⟨ad236, A236_1, c236_1, e236, hx236_0, hx236_1, hx236_2, hl236_1, hi236_1⟩ := at_T36 HR0.out x5_1 p236 q236
                obtain rfl : ad235 = ad236 := (by injection e236)
                have HR236_1 := Aside0.mk hi236_1
                have HC236_1 := Aside0.mk hl236_1
                clear hi236_1 hl236_1
                replace p236 := eq_true p236
                replace q236 := eq_true q236
                have ea_ := Option.some.inj (hx235_1.symm.trans hx236_1)
                injection ea_ with ea_ en_ ec_
                subst ea_
                subst ec_
                clear en_
                go_wp2_with (first | ((with_reducible refine gate_callee (f := 27) rfl ?_); refine goesL_ (some 27) rfl rfl Try.func27 (by kernel_rfl) rfl #[.slice A235_1 ((rd_T36 l0 x5_1).f1).length c235_1, .int .i64 (wrap64 (x1_1 + 1))] rfl y99_ ?_; (with_reducible refine (laws_heldMarkS.calls k1 _ _ ((rd_T36 l0 x5_1).f1) (wrap64 (x1_1 + 1)) t237 _ ?side1 ?side2 A6.out).mono ?_); (case side1 => repeat (first | exact HR236_1.out | (with_reducible refine Kd.C_alloc ?_ _) | (with_reducible refine Kd.C_drewN ?_ _) | (with_reducible refine Kd.C_drew ?_))); (case side2 => exact HC236_1.out); rintro e w' ⟨rfl, ⟨nd, rfl⟩⟩; refine ⟨_, rfl, ?_⟩; have p238 : 0 ≤ (x5_1 : Int) := of_decide_eq_true y98_; have q238 : x5_1 < (l0.length : Int) := of_decide_eq_true y98_; obtain ⟨ad238, A238_1, c238_1, e238, hx238_0, hx238_1, hx238_2, hl238_1, hi238_1⟩ := at_T36 HR0.out x5_1 p238 q238; obtain rfl : ad235 = ad238 := (by injection e238); have HR238_1 := Aside0.mk hi238_1; have HC238_1 := Aside0.mk hl238_1; clear hi238_1 hl238_1; replace p238 := eq_true p238; replace q238 := eq_true q238; have ea_ := Option.some.inj (hx235_1.symm.trans hx238_1); injection ea_ with ea_ en_ ec_; subst ea_; subst ec_; clear en_))
                go_roundg k1
                case measure => have := HK1.out; omega
                case rel => exact ⟨(wrap64 (t237 + 1)), (wrap64 (x5_1 + 1)), (by first | rfl | (simp; done) | (simp [*]; done)), (by first | rfl | (simp; done) | (simp [*]; done)), H', ⟨by have := HK1.out; omega⟩, y100_⟩
              · rw [if_neg c8] at H
                have c8b0 : (((rd_T36 l0 x5_1).f2) == t237) = false := beq_eq_false_iff_ne.mpr c8
                have c8b1 : (((rd_T36 l0 x5_1).f2) != t237) = true := bne_iff_ne.mpr c8
                obtain rfl := Option.some.inj H
                have p235 : 0 ≤ (x5_1 : Int) := of_decide_eq_true y98_
                have q235 : x5_1 < (l0.length : Int) := of_decide_eq_true y98_
                obtain ⟨ad235, A235_1, c235_1, e235, hx235_0, hx235_1, hx235_2, hl235_1, hi235_1⟩ := at_T36 HR0.out x5_1 p235 q235
                cases e235
                have HR235_1 := Aside0.mk hi235_1
                have HC235_1 := Aside0.mk hl235_1
                clear hi235_1 hl235_1
                replace p235 := eq_true p235
                replace q235 := eq_true q235
                have p236 : 0 ≤ (x5_1 : Int) := of_decide_eq_true y98_
                have q236 : x5_1 < (l0.length : Int) := of_decide_eq_true y98_
                obtain ⟨ad236, A236_1, c236_1, e236, hx236_0, hx236_1, hx236_2, hl236_1, hi236_1⟩ := at_T36 HR0.out x5_1 p236 q236
                obtain rfl : ad235 = ad236 := (by injection e236)
                have HR236_1 := Aside0.mk hi236_1
                have HC236_1 := Aside0.mk hl236_1
                clear hi236_1 hl236_1
                replace p236 := eq_true p236
                replace q236 := eq_true q236
                have ea_ := Option.some.inj (hx235_1.symm.trans hx236_1)
                injection ea_ with ea_ en_ ec_
                subst ea_
                subst ec_
                clear en_
                go_wp2_with (first | ((with_reducible refine gate_callee (f := 27) rfl ?_); refine goesL_ (some 27) rfl rfl Try.func27 (by kernel_rfl) rfl #[.slice A235_1 ((rd_T36 l0 x5_1).f1).length c235_1, .int .i64 (wrap64 (x1_1 + 1))] rfl y99_ ?_; (with_reducible refine (laws_heldMarkS.calls k1 _ _ ((rd_T36 l0 x5_1).f1) (wrap64 (x1_1 + 1)) t237 _ ?side1 ?side2 A6.out).mono ?_); (case side1 => repeat (first | exact HR236_1.out | (with_reducible refine Kd.C_alloc ?_ _) | (with_reducible refine Kd.C_drewN ?_ _) | (with_reducible refine Kd.C_drew ?_))); (case side2 => exact HC236_1.out); rintro e w' ⟨rfl, ⟨nd, rfl⟩⟩; refine ⟨_, rfl, ?_⟩; have p238 : 0 ≤ (x5_1 : Int) := of_decide_eq_true y98_; have q238 : x5_1 < (l0.length : Int) := of_decide_eq_true y98_; obtain ⟨ad238, A238_1, c238_1, e238, hx238_0, hx238_1, hx238_2, hl238_1, hi238_1⟩ := at_T36 HR0.out x5_1 p238 q238; obtain rfl : ad235 = ad238 := (by injection e238); have HR238_1 := Aside0.mk hi238_1; have HC238_1 := Aside0.mk hl238_1; clear hi238_1 hl238_1; replace p238 := eq_true p238; replace q238 := eq_true q238; have ea_ := Option.some.inj (hx235_1.symm.trans hx238_1); injection ea_ with ea_ en_ ec_; subst ea_; subst ec_; clear en_))
                go_ret
                exact ⟨by first | rfl | (simp; done) | (simp [*]; done), y100_⟩
          · rw [if_neg c5] at H
            have c5b0 : (((rd_T36 l0 x5_1).f0) == x1_1) = false := beq_eq_false_iff_ne.mpr c5
            have c5b1 : (((rd_T36 l0 x5_1).f0) != x1_1) = true := bne_iff_ne.mpr c5
            obtain rfl := Option.some.inj H
            have p235 : 0 ≤ (x5_1 : Int) := of_decide_eq_true y98_
            have q235 : x5_1 < (l0.length : Int) := of_decide_eq_true y98_
            obtain ⟨ad235, A235_1, c235_1, e235, hx235_0, hx235_1, hx235_2, hl235_1, hi235_1⟩ := at_T36 HR0.out x5_1 p235 q235
            cases e235
            have HR235_1 := Aside0.mk hi235_1
            have HC235_1 := Aside0.mk hl235_1
            clear hi235_1 hl235_1
            replace p235 := eq_true p235
            replace q235 := eq_true q235
            go_wp2
            go_ret
            exact ⟨by first | rfl | (simp; done) | (simp [*]; done), y100_⟩
        · rw [if_neg c4] at H
          exact absurd H (by simp)
      · rw [if_neg c3] at H
        have c3b0 : decide (x5_1 < (l0.length : Int)) = false := decide_eq_false c3
        clear c3
        obtain rfl := Option.some.inj H
        go_wp2
        go_ret
        exact ⟨by first | rfl | (simp; done) | (simp [*]; done), y100_⟩


end Go.Proofs.Ytfghapankndioaa.PFnExactPutSecret
