-- Written for this claim by a program (a printer turned to this claim); Lean checks it.
import Derived.Test.YtfghapankndioaaPFnExactPutSecretx0
import Derived.Test.YtfghapankndioaaPFnExactPutSecretx3
namespace Go.Proofs.Ytfghapankndioaa.PFnExactPutSecret
open Go.RowKit Go.Proofs.YtfghapankndioaaW.PrintWords Go.Proofs.YtfghapankndioaaW.PrintLast Go.Proofs.YtfghapankndioaaW.PrintMore
attribute [local go_sem] max2_int min2_int max_two min_two max_three min_three max_four min_four   -- for this text's walks alone
set_option linter.unusedVariables false
set_option linter.unusedSimpArgs false

/-! ### spec_AreMarks: function 43 -/
def spec_AreMarks.l0 : Nat → List (S67) → Int → Option (Bool)
 | 0, _, _ => none
 | k + 1, x0, x3 => if x3 < (x0.length : Int) then (if 0 ≤ x3 then ((spec_l1In.f ((rd_T67 x0 x3).f0) 1 20).bind fun t145 => (if t145 = true then ((spec_l1In.f ((rd_T67 x0 x3).f1) 0 99).bind fun t147 => (if t147 = true then (if x3 > 0 then (if 0 ≤ (wrap64 (x3 - 1)) then (if (wrap64 (x3 - 1)) < (x0.length : Int) then (if ((rd_T67 x0 (wrap64 (x3 - 1))).f0) ≥ ((rd_T67 x0 x3).f0) then (some false) else (spec_AreMarks.l0 k x0 (wrap64 (x3 + 1)))) else (none)) else (none)) else (spec_AreMarks.l0 k x0 (wrap64 (x3 + 1)))) else (some false))) else (some false))) else (none)) else (some (decide ((x0.length : Int) ≤ 8)))
def spec_AreMarks.f (k : Nat) (l0 : List (S67)) : Option (Bool) := spec_AreMarks.l0 k l0 0
theorem spec_AreMarks.mono_l : ∀ k, (∀ y0 y1, LeO (spec_AreMarks.l0 k y0 y1) (spec_AreMarks.l0 (k + 1) y0 y1))
 | 0 => fun _ _ r h => by simp [spec_AreMarks.l0] at h
 | k + 1 => by
  have ih0 := spec_AreMarks.mono_l k
  ·
   intro y0 y1
   unfold spec_AreMarks.l0
   repeat' first
   | (with_reducible exact ih0 _ _)
   | (with_reducible exact LeO.refl _)
   | (with_reducible exact LeO.none _)
   | (with_reducible refine LeO.ite ?_ ?_)
   | (with_reducible refine LeO.bind ?_ (fun _ => ?_))
   | exact ih0 _ _
   | exact LeO.none _
   | refine LeO.ite ?_ ?_
   | refine LeO.bind ?_ (fun _ => ?_)
theorem spec_AreMarks.mono : ∀ a0 k, LeO (spec_AreMarks.f k a0) (spec_AreMarks.f (k + 1) a0) := by
 intro a0 k
 have ih0 := spec_AreMarks.mono_l k
 unfold spec_AreMarks.f
 repeat' first
   | (with_reducible exact ih0 _ _)
   | (with_reducible exact LeO.refl _)
   | (with_reducible exact LeO.none _)
   | (with_reducible refine LeO.ite ?_ ?_)
   | (with_reducible refine LeO.bind ?_ (fun _ => ?_))
   | exact ih0 _ _
   | exact LeO.none _
   | refine LeO.ite ?_ ?_
   | refine LeO.bind ?_ (fun _ => ?_)
def spec_AreMarks.T4 : Bool × List (List Nat × List Nat) := (true, [([], []), ([], []), ([0, 1], [0, 1]), ([2], [2]), ([3], [3]), ([4], [4]), ([5], [5]), ([6, 5], [6]), ([7], [7]), ([7], [7]), ([8, 9, 7], [7, 8, 9]), ([10, 7], [7, 10]), ([11, 7], [7, 11]), ([12, 7, 7], [7, 12]), ([13, 7], [7, 13]), ([7, 14], [7, 14]), ([15, 13], [15]), ([16], [16]), ([17, 16], [16, 17]), ([18, 16, 16], [16, 18]), ([19], [19]), ([19], [19]), ([21, 19], [19, 21]), ([20, 22, 19], [19, 20, 22]), ([23, 19], [19, 23]), ([24, 19], [19, 24]), ([19], [19]), ([19], [19]), ([26, 27, 19], [19, 26, 27]), ([28, 19], [19, 28]), ([29, 19], [19, 29]), ([25, 30, 19], [19, 25, 30]), ([19, 31, 16], [16, 19, 31]), ([16, 32], [16, 32])])
def spec_AreMarks.B4 : List Nat := [0, 0, 3, 7, 15, 31, 63, 127, 255, 255, 1023, 2047, 4095, 8191, 16383, 32767, 65535, 131071, 262143, 524287, 1048575, 1048575, 3145727, 8388607, 16777215, 33554431, 1048575, 1048575, 202375167, 470810623, 1007681535, 2147483647, 4294967295, 8589934591]
theorem spec_AreMarks.tab4 : rtab .any (opsOf Try.f43 4) = spec_AreMarks.T4 := by kernel_rfl
theorem spec_AreMarks.bits4 : waitsOk spec_AreMarks.T4.2 spec_AreMarks.B4 = true := by kernel_rfl
abbrev M2_0 : Array Bool := #[false, false, false, false, false, false, false, false, false, false, false, false, false, false, false, false, false, false, false, false, false, false, false, false, false, false, false, false, false, false, false, false, false, false]
abbrev M2_1 : Array Bool := #[true, false, false, false, false, false, false, false, false, false, false, false, false, false, false, false, false, false, false, false, false, false, false, false, false, false, false, false, false, false, false, false, false, false]
abbrev M2_2 : Array Bool := #[true, true, false, false, false, false, false, false, false, false, false, false, false, false, false, false, false, false, false, false, false, false, false, false, false, false, false, false, false, false, false, false, false, false]
abbrev M2_3 : Array Bool := #[true, true, true, false, false, false, false, false, false, false, false, false, false, false, false, false, false, false, false, false, false, false, false, false, false, false, false, false, false, false, false, false, false, false]
abbrev M2_4 : Array Bool := #[true, true, true, true, false, false, false, false, false, false, false, false, false, false, false, false, false, false, false, false, false, false, false, false, false, false, false, false, false, false, false, false, false, false]
abbrev M2_5 : Array Bool := #[true, true, true, true, true, false, false, false, false, false, false, false, false, false, false, false, false, false, false, false, false, false, false, false, false, false, false, false, false, false, false, false, false, false]
abbrev M2_6 : Array Bool := #[true, true, true, true, true, true, false, false, false, false, false, false, false, false, false, false, false, false, false, false, false, false, false, false, false, false, false, false, false, false, false, false, false, false]
abbrev M2_7 : Array Bool := #[true, true, true, true, true, true, true, false, false, false, false, false, false, false, false, false, false, false, false, false, false, false, false, false, false, false, false, false, false, false, false, false, false, false]
abbrev M2_8 : Array Bool := #[true, true, true, true, true, true, true, true, false, false, false, false, false, false, false, false, false, false, false, false, false, false, false, false, false, false, false, false, false, false, false, false, false, false]
abbrev M2_9 : Array Bool := #[true, true, true, true, true, true, true, true, true, false, false, false, false, false, false, false, false, false, false, false, false, false, false, false, false, false, false, false, false, false, false, false, false, false]
abbrev M2_10 : Array Bool := #[true, true, true, true, true, true, true, true, true, true, false, false, false, false, false, false, false, false, false, false, false, false, false, false, false, false, false, false, false, false, false, false, false, false]
abbrev M2_11 : Array Bool := #[true, true, true, true, true, true, true, true, true, true, true, false, false, false, false, false, false, false, false, false, false, false, false, false, false, false, false, false, false, false, false, false, false, false]
abbrev M2_12 : Array Bool := #[true, true, true, true, true, true, true, true, true, true, true, true, false, false, false, false, false, false, false, false, false, false, false, false, false, false, false, false, false, false, false, false, false, false]
abbrev M2_13 : Array Bool := #[true, true, true, true, true, true, true, true, true, true, true, true, true, false, false, false, false, false, false, false, false, false, false, false, false, false, false, false, false, false, false, false, false, false]
abbrev M2_14 : Array Bool := #[true, true, true, true, true, true, true, true, true, true, true, true, true, true, false, false, false, false, false, false, false, false, false, false, false, false, false, false, false, false, false, false, false, false]
abbrev M2_15 : Array Bool := #[true, true, true, true, true, true, true, true, true, true, true, true, true, true, true, false, false, false, false, false, false, false, false, false, false, false, false, false, false, false, false, false, false, false]
abbrev M2_16 : Array Bool := #[true, true, true, true, true, true, true, true, true, true, true, true, true, true, true, true, false, false, false, false, false, false, false, false, false, false, false, false, false, false, false, false, false, false]
abbrev M2_17 : Array Bool := #[true, true, true, true, true, true, true, true, true, true, true, true, true, true, true, true, true, false, false, false, false, false, false, false, false, false, false, false, false, false, false, false, false, false]
abbrev M2_18 : Array Bool := #[true, true, true, true, true, true, true, true, true, true, true, true, true, true, true, true, true, true, false, false, false, false, false, false, false, false, false, false, false, false, false, false, false, false]
abbrev M2_19 : Array Bool := #[true, true, true, true, true, true, true, true, true, true, true, true, true, true, true, true, true, true, true, false, false, false, false, false, false, false, false, false, false, false, false, false, false, false]
abbrev M2_20 : Array Bool := #[true, true, true, true, true, true, true, true, true, true, true, true, true, true, true, true, true, true, true, true, false, false, false, false, false, false, false, false, false, false, false, false, false, false]
abbrev M2_21 : Array Bool := #[true, true, true, true, true, true, true, true, true, true, true, true, true, true, true, true, true, true, true, true, true, false, false, false, false, false, false, false, false, false, false, false, false, false]
abbrev M2_22 : Array Bool := #[true, true, true, true, true, true, true, true, true, true, true, true, true, true, true, true, true, true, true, true, true, true, false, false, false, false, false, false, false, false, false, false, false, false]
abbrev M2_23 : Array Bool := #[true, true, true, true, true, true, true, true, true, true, true, true, true, true, true, true, true, true, true, true, true, true, true, false, false, false, false, false, false, false, false, false, false, false]
abbrev M2_24 : Array Bool := #[true, true, true, true, true, true, true, true, true, true, true, true, true, true, true, true, true, true, true, true, true, true, true, true, false, false, false, false, false, false, false, false, false, false]
abbrev M2_25 : Array Bool := #[true, true, true, true, true, true, true, true, true, true, true, true, true, true, true, true, true, true, true, true, true, true, true, true, true, false, false, false, false, false, false, false, false, false]
abbrev M2_26 : Array Bool := #[true, true, true, true, true, true, true, true, true, true, true, true, true, true, true, true, true, true, true, true, true, true, true, true, true, false, true, false, false, false, false, false, false, false]
abbrev M2_27 : Array Bool := #[true, true, true, true, true, true, true, true, true, true, true, true, true, true, true, true, true, true, true, true, true, true, true, true, true, false, true, true, false, false, false, false, false, false]
abbrev M2_28 : Array Bool := #[true, true, true, true, true, true, true, true, true, true, true, true, true, true, true, true, true, true, true, true, true, true, true, true, true, false, true, true, true, false, false, false, false, false]
abbrev M2_29 : Array Bool := #[true, true, true, true, true, true, true, true, true, true, true, true, true, true, true, true, true, true, true, true, true, true, true, true, true, false, true, true, true, true, false, false, false, false]
abbrev M2_30 : Array Bool := #[true, true, true, true, true, true, true, true, true, true, true, true, true, true, true, true, true, true, true, true, true, true, true, true, true, true, true, true, true, true, false, false, false, false]
abbrev M2_31 : Array Bool := #[true, true, true, true, true, true, true, true, true, true, true, true, true, true, true, true, true, true, true, true, true, true, true, true, true, true, true, true, true, true, true, false, false, false]
abbrev M2_32 : Array Bool := #[true, true, true, true, true, true, true, true, true, true, true, true, true, true, true, true, true, true, true, true, true, true, true, true, true, true, true, true, true, true, true, true, false, false]
abbrev M2_33 : Array Bool := #[true, true, true, true, true, true, true, true, true, true, true, true, true, true, true, true, true, true, true, true, true, true, true, true, true, true, true, true, true, true, true, true, true, false]
abbrev M2_34 : Array Bool := #[true, true, true, true, true, true, true, true, true, true, true, true, true, true, true, true, true, true, true, true, true, true, true, true, true, true, true, true, true, true, true, true, true, true]
abbrev M2_35 : Array Bool := #[true, true, true, true, true, true, true, true, true, true, true, true, true, true, true, true, true, true, true, true, true, true, true, true, true, true, false, false, false, false, false, false, false, false]
abbrev M2_36 : Array Bool := #[true, true, true, true, true, true, true, true, true, true, true, true, true, true, true, true, true, true, true, true, true, true, true, true, true, true, true, false, false, false, false, false, false, false]
abbrev M2_37 : Array Bool := #[true, true, true, true, true, true, true, true, true, true, true, true, true, true, true, true, true, true, true, true, true, true, true, true, true, true, true, true, false, false, false, false, false, false]
abbrev M2_38 : Array Bool := #[true, true, true, true, true, true, true, true, true, true, true, true, true, true, true, true, true, true, true, true, true, true, true, true, true, true, true, true, true, false, false, false, false, false]
theorem P2_1 {α : Type} (l : List α) (i : Nat) (a : α) : l.toArray.setIfInBounds i a = (l.set i a).toArray := List.setIfInBounds_toArray l i a
theorem P2_2 {α : Type} (x : α) (l : List α) (a : α) : (x :: l).set 0 a = a :: l := List.set_cons_zero
theorem P2_3 {α : Type} (x : α) (l : List α) (n : Nat) (a : α) : (x :: l).set (n + 1) a = x :: l.set n a := List.set_cons_succ
set_option maxHeartbeats 8000000 in
set_option maxRecDepth 100000 in
theorem spec_AreMarks.calls (k : Nat) (A0 : Option Addr) (c0 : Nat) (l0 : List (S67)) (r : Bool) (w : World) (hr0 : Kd.C k67 w A0 l0.length l0) (hc0 : l0.length ≤ c0) (h : spec_AreMarks.f k l0 = some r) :
  Calls Try.prog 43 #[.slice A0 l0.length c0] w fun e w' => e = .returned (.bool r) ∧ Below w.heap.size w w' := by
 have HR0 := Aside0.mk hr0
 have HC0 := Aside0.mk hc0
 clear hr0 hc0
 have HB := Aside0.mk (Below.refl w.heap.size w)
 have H : (spec_AreMarks.l0 k l0 0) = some r := h
 clear h
 have H' := Aside0.mk H
 clear H
 go_enter Try.func43, Try.ntmps43
 go_wp2
 go_loopg [3] k (fun kq v3 w' => ∃ (x3_1 : Int), v3 = .int .i64 x3_1 ∧ Aside0 (spec_AreMarks.l0 kq l0 x3_1 = some r) ∧ Aside0 (kq ≤ k) ∧ Aside0 (Below w.heap.size w w'))
 case atStart => exact ⟨(0), (by first | rfl | (simp; done) | (simp [*]; done)), H', ⟨Nat.le_refl _⟩, ⟨hd_ HB.out⟩⟩
 case round =>
  clear H'
  obtain ⟨x3_1, rfl, HA, HK1, HB⟩ := hrel
  cases gk with
  | zero => exact absurd HA.out (by simp [spec_AreMarks.l0])
  | succ k1 =>
   have H := HA.out
   clear HA
   simp only [spec_AreMarks.l0] at H
   by_cases c2 : x3_1 < (l0.length : Int)
   ·
    rw [if_pos c2] at H
    have c2b0 : decide (x3_1 < (l0.length : Int)) = true := decide_eq_true c2
    clear c2
    by_cases c3 : 0 ≤ x3_1
    ·
     rw [if_pos c3] at H
     have c3b0 : decide (0 ≤ x3_1) = true := decide_eq_true c3
     clear c3
     replace H := Option.bind_eq_some_iff.mp H
     obtain ⟨t145, A40, H⟩ := H
     replace H : (if t145 = true then ((spec_l1In.f ((rd_T67 l0 x3_1).f1) 0 99).bind fun t147 => (if t147 = true then (if x3_1 > 0 then (if 0 ≤ (wrap64 (x3_1 - 1)) then (if (wrap64 (x3_1 - 1)) < (l0.length : Int) then (if ((rd_T67 l0 (wrap64 (x3_1 - 1))).f0) ≥ ((rd_T67 l0 x3_1).f0) then (some false) else (spec_AreMarks.l0 k1 l0 (wrap64 (x3_1 + 1)))) else (none)) else (none)) else (spec_AreMarks.l0 k1 l0 (wrap64 (x3_1 + 1)))) else (some false))) else (some false)) = some r := H
     have A4 := Aside0.mk A40
     clear A40
     by_cases c5 : t145 = true
     ·
      subst c5
      have H1 : ((spec_l1In.f ((rd_T67 l0 x3_1).f1) 0 99).bind fun t147 => (if t147 = true then (if x3_1 > 0 then (if 0 ≤ (wrap64 (x3_1 - 1)) then (if (wrap64 (x3_1 - 1)) < (l0.length : Int) then (if ((rd_T67 l0 (wrap64 (x3_1 - 1))).f0) ≥ ((rd_T67 l0 x3_1).f0) then (some false) else (spec_AreMarks.l0 k1 l0 (wrap64 (x3_1 + 1)))) else (none)) else (none)) else (spec_AreMarks.l0 k1 l0 (wrap64 (x3_1 + 1)))) else (some false))) = some r := by rw [if_pos rfl] at H; exact H
      clear H
      have H := H1
      clear H1
      replace H := Option.bind_eq_some_iff.mp H
      obtain ⟨t147, A60, H⟩ := H
      replace H : (if t147 = true then (if x3_1 > 0 then (if 0 ≤ (wrap64 (x3_1 - 1)) then (if (wrap64 (x3_1 - 1)) < (l0.length : Int) then (if ((rd_T67 l0 (wrap64 (x3_1 - 1))).f0) ≥ ((rd_T67 l0 x3_1).f0) then (some false) else (spec_AreMarks.l0 k1 l0 (wrap64 (x3_1 + 1)))) else (none)) else (none)) else (spec_AreMarks.l0 k1 l0 (wrap64 (x3_1 + 1)))) else (some false)) = some r := H
      have A6 := Aside0.mk A60
      clear A60
      by_cases c7 : t147 = true
      ·
       subst c7
       have H1 : (if x3_1 > 0 then (if 0 ≤ (wrap64 (x3_1 - 1)) then (if (wrap64 (x3_1 - 1)) < (l0.length : Int) then (if ((rd_T67 l0 (wrap64 (x3_1 - 1))).f0) ≥ ((rd_T67 l0 x3_1).f0) then (some false) else (spec_AreMarks.l0 k1 l0 (wrap64 (x3_1 + 1)))) else (none)) else (none)) else (spec_AreMarks.l0 k1 l0 (wrap64 (x3_1 + 1)))) = some r := by rw [if_pos rfl] at H; exact H
       clear H
       have H := H1
       clear H1
       by_cases c8 : x3_1 > 0
       ·
        rw [if_pos c8] at H
        have c8b0 : decide (0 < x3_1) = true := decide_eq_true c8
        clear c8
        obtain ⟨ji9, hji9⟩ : ∃ j_ : Int, (wrap64 (x3_1 - 1)) = j_ := ⟨_, rfl⟩
        replace H : (if 0 ≤ (ji9) then (if (ji9) < (l0.length : Int) then (if ((rd_T67 l0 (ji9)).f0) ≥ ((rd_T67 l0 x3_1).f0) then (some false) else (spec_AreMarks.l0 k1 l0 (wrap64 (x3_1 + 1)))) else (none)) else (none)) = some r := by first | (rw [hji9] at H; exact H) | (simp only [hji9] at H ⊢; exact H)
        (try rw [hji9] at A4)
        (try rw [hji9] at A6)
        have hji9w : (IntKind.i64.wrap (x3_1 - 1)) = ji9 := (i64_w _).trans hji9
        by_cases c10 : 0 ≤ (ji9)
        ·
         rw [if_pos c10] at H
         have c10b0 : decide (0 ≤ (ji9)) = true := decide_eq_true c10
         clear c10
         by_cases c11 : (ji9) < (l0.length : Int)
         ·
          rw [if_pos c11] at H
          have c11b0 : decide ((ji9) < (l0.length : Int)) = true := decide_eq_true c11
          clear c11
          by_cases c12 : ((rd_T67 l0 (ji9)).f0) ≥ ((rd_T67 l0 x3_1).f0)
          ·
           rw [if_pos c12] at H
           have c12b0 : decide (((rd_T67 l0 x3_1).f0) ≤ ((rd_T67 l0 (ji9)).f0)) = true := decide_eq_true c12
           clear c12
           obtain rfl := Option.some.inj H
           try go_wp2
           have n0_ := Aside0.mk (below_drew1 HB.out)
           clear HB
           have HB := n0_
           clear n0_
           have p144 : 0 ≤ (x3_1 : Int) := of_decide_eq_true as_
           have q144 : x3_1 < (l0.length : Int) := of_decide_eq_true as_
           obtain ⟨ad144, e144, hx144_0, hx144_1⟩ := at_T67 HR0.out x3_1 p144 q144
           have hw144_1 := hx144_1
           have hw144_0 := hx144_0
           cases e144
           replace hx144_0 := cb_ HB.out hx144_0
           replace hx144_1 := cb_ HB.out hx144_1
           replace p144 := eq_true p144
           replace q144 := eq_true q144
           have p146 : 0 ≤ (x3_1 : Int) := of_decide_eq_true as_
           have q146 : x3_1 < (l0.length : Int) := of_decide_eq_true as_
           obtain ⟨ad146, e146, hx146_0, hx146_1⟩ := at_T67 HR0.out x3_1 p146 q146
           have hw146_1 := hx146_1
           have hw146_0 := hx146_0
           obtain rfl : ad144 = ad146 := (by injection e146)
           replace hx146_0 := cb_ HB.out hx146_0
           replace hx146_1 := cb_ HB.out hx146_1
           replace p146 := eq_true p146
           replace q146 := eq_true q146
           have p148 : 0 ≤ ((ji9) : Int) := of_decide_eq_true as_
           have q148 : (ji9) < (l0.length : Int) := of_decide_eq_true as_
           obtain ⟨ad148, e148, hx148_0, hx148_1⟩ := at_T67 HR0.out (ji9) p148 q148
           have hw148_1 := hx148_1
           have hw148_0 := hx148_0
           obtain rfl : ad144 = ad148 := (by injection e148)
           replace hx148_0 := cb_ HB.out hx148_0
           replace hx148_1 := cb_ HB.out hx148_1
           replace p148 := eq_true p148
           replace q148 := eq_true q148
           have p149 : 0 ≤ (x3_1 : Int) := of_decide_eq_true as_
           have q149 : x3_1 < (l0.length : Int) := of_decide_eq_true as_
           obtain ⟨ad149, e149, hx149_0, hx149_1⟩ := at_T67 HR0.out x3_1 p149 q149
           have hw149_1 := hx149_1
           have hw149_0 := hx149_0
           obtain rfl : ad144 = ad149 := (by injection e149)
           replace hx149_0 := cb_ HB.out hx149_0
           replace hx149_1 := cb_ HB.out hx149_1
           replace p149 := eq_true p149
           replace q149 := eq_true q149
           refine start_ (n := 34) (S := fun w' => w'.cell? (ad144.add ((x3_1).toNat * 2)) = some (.int .i64 ((rd_T67 l0 x3_1).f0)) ∧ w'.cell? ⟨(ad144.add ((x3_1).toNat * 2)).block, (ad144.add ((x3_1).toNat * 2)).off + 1, none⟩ = some (.int .i64 ((rd_T67 l0 x3_1).f1)) ∧ w'.cell? (ad144.add ((x3_1).toNat * 2)) = some (.int .i64 ((rd_T67 l0 x3_1).f0)) ∧ w'.cell? ⟨(ad144.add ((x3_1).toNat * 2)).block, (ad144.add ((x3_1).toNat * 2)).off + 1, none⟩ = some (.int .i64 ((rd_T67 l0 x3_1).f1)) ∧ w'.cell? (ad144.add (((ji9)).toNat * 2)) = some (.int .i64 ((rd_T67 l0 (ji9)).f0)) ∧ w'.cell? ⟨(ad144.add (((ji9)).toNat * 2)).block, (ad144.add (((ji9)).toNat * 2)).off + 1, none⟩ = some (.int .i64 ((rd_T67 l0 (ji9)).f1)) ∧ w'.cell? (ad144.add ((x3_1).toNat * 2)) = some (.int .i64 ((rd_T67 l0 x3_1).f0)) ∧ w'.cell? ⟨(ad144.add ((x3_1).toNat * 2)).block, (ad144.add ((x3_1).toNat * 2)).off + 1, none⟩ = some (.int .i64 ((rd_T67 l0 x3_1).f1))) (ds := []) M2_0 (by kernel_rfl) rfl rfl ⟨(cb_ HB.out hw144_0), (cb_ HB.out hw144_1), (cb_ HB.out hw146_0), (cb_ HB.out hw146_1), (cb_ HB.out hw148_0), (cb_ HB.out hw148_1), (cb_ HB.out hw149_0), (cb_ HB.out hw149_1)⟩ (fun hHeld => ?_); refine with_tabW spec_AreMarks.tab4 spec_AreMarks.bits4 (fun HT_ HW_ => ?_)
           generalize wr.drew = w13 at HB hx144_0 hx144_1 hx146_0 hx146_1 hx148_0 hx148_1 hx149_0 hx149_1 hHeld ⊢
           refine pu_ 0 (some 10) M2_1 HT_ ?_
           refine pu_ 1 (some 11) M2_2 HT_ ?_
           refine pu_ 2 (some 12) M2_3 HT_ ?_
           refine pu_ 3 (some 13) M2_4 HT_ ?_
           refine tk_ 4 (some 14) M2_5 HT_ HW_ hHeld ?_
           refine one_ (i := 5) (N := some 15) M2_6 rfl rfl (one_of HT_.out (by kernel_rfl)) (by decide) (fun K hK => ?_)
           refine goes_ Try.func42 (by kernel_rfl) rfl #[.int .i64 ((rd_T67 l0 x3_1).f0), .int .i64 1, .int .i64 20] (by rfl) rfl rfl ma_ ?_
           with_reducible refine (spec_l1In.calls ((rd_T67 l0 x3_1).f0) 1 20 true _ A4.out).mono ?_
           rintro e w' ⟨rfl, ⟨nd, rfl⟩⟩
           refine ⟨_, rfl, ?_⟩
           refine hK.out _ _ ⟨(cb_ HB.out hw144_0), (cb_ HB.out hw144_1), (cb_ HB.out hw146_0), (cb_ HB.out hw146_1), (cb_ HB.out hw148_0), (cb_ HB.out hw148_1), (cb_ HB.out hw149_0), (cb_ HB.out hw149_1)⟩ (fun hHeld => ?_)
           clear hK K
           refine norm_ (a' := ?_) ?_ ?_
           rotate_left
           ·
            show Act.put _ (some 15) _ = _
            simp only [Act.put, P2_1, P2_2, P2_3, i64_w, i32_w]
            rfl
           refine pu_ 6 (some 16) M2_7 HT_ ?_
           refine pu_ 7 (some 17) M2_8 HT_ ?_
           refine pu_ 8 (some 18) M2_9 HT_ ?_
           refine pu_ 9 (some 19) M2_10 HT_ ?_
           refine pu_ 10 (some 20) M2_11 HT_ ?_
           refine pu_ 11 (some 21) M2_12 HT_ ?_
           refine tk_ 12 (some 22) M2_13 HT_ HW_ hHeld ?_
           refine one_ (i := 13) (N := some 23) M2_14 rfl rfl (one_of HT_.out (by kernel_rfl)) (by decide) (fun K hK => ?_)
           refine goes_ Try.func42 (by kernel_rfl) rfl #[.int .i64 ((rd_T67 l0 x3_1).f1), .int .i64 0, .int .i64 99] (by rfl) rfl rfl ma_ ?_
           with_reducible refine (spec_l1In.calls ((rd_T67 l0 x3_1).f1) 0 99 true _ A6.out).mono ?_
           rintro e w' ⟨rfl, ⟨nd, rfl⟩⟩
           refine ⟨_, rfl, ?_⟩
           refine hK.out _ _ ⟨(cb_ HB.out hw144_0), (cb_ HB.out hw144_1), (cb_ HB.out hw146_0), (cb_ HB.out hw146_1), (cb_ HB.out hw148_0), (cb_ HB.out hw148_1), (cb_ HB.out hw149_0), (cb_ HB.out hw149_1)⟩ (fun hHeld => ?_)
           clear hK K
           refine norm_ (a' := ?_) ?_ ?_
           rotate_left
           ·
            show Act.put _ (some 23) _ = _
            simp only [Act.put, P2_1, P2_2, P2_3, i64_w, i32_w]
            rfl
           refine pu_ 14 (some 24) M2_15 HT_ ?_
           refine pu_ 15 (some 25) M2_16 HT_ ?_
           refine pu_ 16 (some 26) M2_17 HT_ ?_
           refine pu_ 17 (some 27) M2_18 HT_ ?_
           refine pu_ 18 (some 28) M2_19 HT_ ?_
           refine pu_ 19 (some 29) M2_20 HT_ ?_
           refine pu_ 20 (some 30) M2_21 HT_ ?_
           refine pu_ 21 (some 31) M2_22 HT_ ?_
           refine pu_ 22 (some 32) M2_23 HT_ ?_
           refine pu_ 23 (some 33) M2_24 HT_ ?_
           refine pu_ 24 (some 34) M2_25 HT_ ?_
           refine pu_ 26 (some 36) M2_26 HT_ ?_
           refine pu_ 27 (some 37) M2_27 HT_ ?_
           refine pu_ 28 (some 38) M2_28 HT_ ?_
           refine pu_ 29 (some 39) M2_29 HT_ ?_
           refine tk_ 25 (some 35) M2_30 HT_ HW_ hHeld ?_
           refine tk_ 30 (some 40) M2_31 HT_ HW_ hHeld ?_
           refine pu_ 31 (some 41) M2_32 HT_ ?_
           refine pu_ 32 (some 42) M2_33 HT_ ?_
           refine pu_ 33 (some 43) M2_34 HT_ ?_
           refine done_ (done_of HT_.out (by kernel_rfl)) ?_
           try go_wp2
           go_ret
           exact ⟨by first | rfl | (simp [errW_none, errW_some] <;> rfl) | (simp only [← hji9]; first | rfl | (simp [errW_none, errW_some] <;> rfl)) | (simp [*, errW_none, errW_some] <;> rfl), hd_ HB.out⟩
          ·
           rw [if_neg c12] at H
           have c12b0 : decide (((rd_T67 l0 x3_1).f0) ≤ ((rd_T67 l0 (ji9)).f0)) = false := decide_eq_false c12
           clear c12
           have H' := Aside0.mk H
           clear H
           try go_wp2
           have n0_ := Aside0.mk (below_drew1 HB.out)
           clear HB
           have HB := n0_
           clear n0_
           have p144 : 0 ≤ (x3_1 : Int) := of_decide_eq_true as_
           have q144 : x3_1 < (l0.length : Int) := of_decide_eq_true as_
           obtain ⟨ad144, e144, hx144_0, hx144_1⟩ := at_T67 HR0.out x3_1 p144 q144
           have hw144_1 := hx144_1
           have hw144_0 := hx144_0
           cases e144
           replace hx144_0 := cb_ HB.out hx144_0
           replace hx144_1 := cb_ HB.out hx144_1
           replace p144 := eq_true p144
           replace q144 := eq_true q144
           have p146 : 0 ≤ (x3_1 : Int) := of_decide_eq_true as_
           have q146 : x3_1 < (l0.length : Int) := of_decide_eq_true as_
           obtain ⟨ad146, e146, hx146_0, hx146_1⟩ := at_T67 HR0.out x3_1 p146 q146
           have hw146_1 := hx146_1
           have hw146_0 := hx146_0
           obtain rfl : ad144 = ad146 := (by injection e146)
           replace hx146_0 := cb_ HB.out hx146_0
           replace hx146_1 := cb_ HB.out hx146_1
           replace p146 := eq_true p146
           replace q146 := eq_true q146
           have p148 : 0 ≤ ((ji9) : Int) := of_decide_eq_true as_
           have q148 : (ji9) < (l0.length : Int) := of_decide_eq_true as_
           obtain ⟨ad148, e148, hx148_0, hx148_1⟩ := at_T67 HR0.out (ji9) p148 q148
           have hw148_1 := hx148_1
           have hw148_0 := hx148_0
           obtain rfl : ad144 = ad148 := (by injection e148)
           replace hx148_0 := cb_ HB.out hx148_0
           replace hx148_1 := cb_ HB.out hx148_1
           replace p148 := eq_true p148
           replace q148 := eq_true q148
           have p149 : 0 ≤ (x3_1 : Int) := of_decide_eq_true as_
           have q149 : x3_1 < (l0.length : Int) := of_decide_eq_true as_
           obtain ⟨ad149, e149, hx149_0, hx149_1⟩ := at_T67 HR0.out x3_1 p149 q149
           have hw149_1 := hx149_1
           have hw149_0 := hx149_0
           obtain rfl : ad144 = ad149 := (by injection e149)
           replace hx149_0 := cb_ HB.out hx149_0
           replace hx149_1 := cb_ HB.out hx149_1
           replace p149 := eq_true p149
           replace q149 := eq_true q149
           refine start_ (n := 34) (S := fun w' => w'.cell? (ad144.add ((x3_1).toNat * 2)) = some (.int .i64 ((rd_T67 l0 x3_1).f0)) ∧ w'.cell? ⟨(ad144.add ((x3_1).toNat * 2)).block, (ad144.add ((x3_1).toNat * 2)).off + 1, none⟩ = some (.int .i64 ((rd_T67 l0 x3_1).f1)) ∧ w'.cell? (ad144.add ((x3_1).toNat * 2)) = some (.int .i64 ((rd_T67 l0 x3_1).f0)) ∧ w'.cell? ⟨(ad144.add ((x3_1).toNat * 2)).block, (ad144.add ((x3_1).toNat * 2)).off + 1, none⟩ = some (.int .i64 ((rd_T67 l0 x3_1).f1)) ∧ w'.cell? (ad144.add (((ji9)).toNat * 2)) = some (.int .i64 ((rd_T67 l0 (ji9)).f0)) ∧ w'.cell? ⟨(ad144.add (((ji9)).toNat * 2)).block, (ad144.add (((ji9)).toNat * 2)).off + 1, none⟩ = some (.int .i64 ((rd_T67 l0 (ji9)).f1)) ∧ w'.cell? (ad144.add ((x3_1).toNat * 2)) = some (.int .i64 ((rd_T67 l0 x3_1).f0)) ∧ w'.cell? ⟨(ad144.add ((x3_1).toNat * 2)).block, (ad144.add ((x3_1).toNat * 2)).off + 1, none⟩ = some (.int .i64 ((rd_T67 l0 x3_1).f1))) (ds := []) M2_0 (by kernel_rfl) rfl rfl ⟨(cb_ HB.out hw144_0), (cb_ HB.out hw144_1), (cb_ HB.out hw146_0), (cb_ HB.out hw146_1), (cb_ HB.out hw148_0), (cb_ HB.out hw148_1), (cb_ HB.out hw149_0), (cb_ HB.out hw149_1)⟩ (fun hHeld => ?_); refine with_tabW spec_AreMarks.tab4 spec_AreMarks.bits4 (fun HT_ HW_ => ?_)
           generalize wr.drew = w14 at HB hx144_0 hx144_1 hx146_0 hx146_1 hx148_0 hx148_1 hx149_0 hx149_1 hHeld ⊢
           refine pu_ 0 (some 10) M2_1 HT_ ?_
           refine pu_ 1 (some 11) M2_2 HT_ ?_
           refine pu_ 2 (some 12) M2_3 HT_ ?_
           refine pu_ 3 (some 13) M2_4 HT_ ?_
           refine tk_ 4 (some 14) M2_5 HT_ HW_ hHeld ?_
           refine one_ (i := 5) (N := some 15) M2_6 rfl rfl (one_of HT_.out (by kernel_rfl)) (by decide) (fun K hK => ?_)
           refine goes_ Try.func42 (by kernel_rfl) rfl #[.int .i64 ((rd_T67 l0 x3_1).f0), .int .i64 1, .int .i64 20] (by rfl) rfl rfl ma_ ?_
           with_reducible refine (spec_l1In.calls ((rd_T67 l0 x3_1).f0) 1 20 true _ A4.out).mono ?_
           rintro e w' ⟨rfl, ⟨nd, rfl⟩⟩
           refine ⟨_, rfl, ?_⟩
           refine hK.out _ _ ⟨(cb_ HB.out hw144_0), (cb_ HB.out hw144_1), (cb_ HB.out hw146_0), (cb_ HB.out hw146_1), (cb_ HB.out hw148_0), (cb_ HB.out hw148_1), (cb_ HB.out hw149_0), (cb_ HB.out hw149_1)⟩ (fun hHeld => ?_)
           clear hK K
           refine norm_ (a' := ?_) ?_ ?_
           rotate_left
           ·
            show Act.put _ (some 15) _ = _
            simp only [Act.put, P2_1, P2_2, P2_3, i64_w, i32_w]
            rfl
           refine pu_ 6 (some 16) M2_7 HT_ ?_
           refine pu_ 7 (some 17) M2_8 HT_ ?_
           refine pu_ 8 (some 18) M2_9 HT_ ?_
           refine pu_ 9 (some 19) M2_10 HT_ ?_
           refine pu_ 10 (some 20) M2_11 HT_ ?_
           refine pu_ 11 (some 21) M2_12 HT_ ?_
           refine tk_ 12 (some 22) M2_13 HT_ HW_ hHeld ?_
           refine one_ (i := 13) (N := some 23) M2_14 rfl rfl (one_of HT_.out (by kernel_rfl)) (by decide) (fun K hK => ?_)
           refine goes_ Try.func42 (by kernel_rfl) rfl #[.int .i64 ((rd_T67 l0 x3_1).f1), .int .i64 0, .int .i64 99] (by rfl) rfl rfl ma_ ?_
           with_reducible refine (spec_l1In.calls ((rd_T67 l0 x3_1).f1) 0 99 true _ A6.out).mono ?_
           rintro e w' ⟨rfl, ⟨nd, rfl⟩⟩
           refine ⟨_, rfl, ?_⟩
           refine hK.out _ _ ⟨(cb_ HB.out hw144_0), (cb_ HB.out hw144_1), (cb_ HB.out hw146_0), (cb_ HB.out hw146_1), (cb_ HB.out hw148_0), (cb_ HB.out hw148_1), (cb_ HB.out hw149_0), (cb_ HB.out hw149_1)⟩ (fun hHeld => ?_)
           clear hK K
           refine norm_ (a' := ?_) ?_ ?_
           rotate_left
           ·
            show Act.put _ (some 23) _ = _
            simp only [Act.put, P2_1, P2_2, P2_3, i64_w, i32_w]
            rfl
           refine pu_ 14 (some 24) M2_15 HT_ ?_
           refine pu_ 15 (some 25) M2_16 HT_ ?_
           refine pu_ 16 (some 26) M2_17 HT_ ?_
           refine pu_ 17 (some 27) M2_18 HT_ ?_
           refine pu_ 18 (some 28) M2_19 HT_ ?_
           refine pu_ 19 (some 29) M2_20 HT_ ?_
           refine pu_ 20 (some 30) M2_21 HT_ ?_
           refine pu_ 21 (some 31) M2_22 HT_ ?_
           refine pu_ 22 (some 32) M2_23 HT_ ?_
           refine pu_ 23 (some 33) M2_24 HT_ ?_
           refine pu_ 24 (some 34) M2_25 HT_ ?_
           refine pu_ 26 (some 36) M2_26 HT_ ?_
           refine pu_ 27 (some 37) M2_27 HT_ ?_
           refine pu_ 28 (some 38) M2_28 HT_ ?_
           refine pu_ 29 (some 39) M2_29 HT_ ?_
           refine tk_ 25 (some 35) M2_30 HT_ HW_ hHeld ?_
           refine tk_ 30 (some 40) M2_31 HT_ HW_ hHeld ?_
           refine pu_ 31 (some 41) M2_32 HT_ ?_
           refine pu_ 32 (some 42) M2_33 HT_ ?_
           refine pu_ 33 (some 43) M2_34 HT_ ?_
           refine done_ (done_of HT_.out (by kernel_rfl)) ?_
           try go_wp2
           go_roundg k1
           case measure => have := HK1.out; omega
           case rel => exact ⟨(wrap64 (x3_1 + 1)), (by first | rfl | (simp; done) | (simp [*]; done)), H', ⟨by have := HK1.out; omega⟩, ⟨hd_ HB.out⟩⟩
         ·
          rw [if_neg c11] at H
          exact absurd H (by simp)
        ·
         rw [if_neg c10] at H
         exact absurd H (by simp)
       ·
        rw [if_neg c8] at H
        have c8b0 : decide (0 < x3_1) = false := decide_eq_false c8
        clear c8
        have H' := Aside0.mk H
        clear H
        try go_wp2
        have n0_ := Aside0.mk (below_drew1 HB.out)
        clear HB
        have HB := n0_
        clear n0_
        have p144 : 0 ≤ (x3_1 : Int) := of_decide_eq_true as_
        have q144 : x3_1 < (l0.length : Int) := of_decide_eq_true as_
        obtain ⟨ad144, e144, hx144_0, hx144_1⟩ := at_T67 HR0.out x3_1 p144 q144
        have hw144_1 := hx144_1
        have hw144_0 := hx144_0
        cases e144
        replace hx144_0 := cb_ HB.out hx144_0
        replace hx144_1 := cb_ HB.out hx144_1
        replace p144 := eq_true p144
        replace q144 := eq_true q144
        have p146 : 0 ≤ (x3_1 : Int) := of_decide_eq_true as_
        have q146 : x3_1 < (l0.length : Int) := of_decide_eq_true as_
        obtain ⟨ad146, e146, hx146_0, hx146_1⟩ := at_T67 HR0.out x3_1 p146 q146
        have hw146_1 := hx146_1
        have hw146_0 := hx146_0
        obtain rfl : ad144 = ad146 := (by injection e146)
        replace hx146_0 := cb_ HB.out hx146_0
        replace hx146_1 := cb_ HB.out hx146_1
        replace p146 := eq_true p146
        replace q146 := eq_true q146
        refine start_ (n := 34) (S := fun w' => w'.cell? (ad144.add ((x3_1).toNat * 2)) = some (.int .i64 ((rd_T67 l0 x3_1).f0)) ∧ w'.cell? ⟨(ad144.add ((x3_1).toNat * 2)).block, (ad144.add ((x3_1).toNat * 2)).off + 1, none⟩ = some (.int .i64 ((rd_T67 l0 x3_1).f1)) ∧ w'.cell? (ad144.add ((x3_1).toNat * 2)) = some (.int .i64 ((rd_T67 l0 x3_1).f0)) ∧ w'.cell? ⟨(ad144.add ((x3_1).toNat * 2)).block, (ad144.add ((x3_1).toNat * 2)).off + 1, none⟩ = some (.int .i64 ((rd_T67 l0 x3_1).f1))) (ds := []) M2_0 (by kernel_rfl) rfl rfl ⟨(cb_ HB.out hw144_0), (cb_ HB.out hw144_1), (cb_ HB.out hw146_0), (cb_ HB.out hw146_1)⟩ (fun hHeld => ?_); refine with_tabW spec_AreMarks.tab4 spec_AreMarks.bits4 (fun HT_ HW_ => ?_)
        generalize wr.drew = w15 at HB hx144_0 hx144_1 hx146_0 hx146_1 hHeld ⊢
        refine pu_ 0 (some 10) M2_1 HT_ ?_
        refine pu_ 1 (some 11) M2_2 HT_ ?_
        refine pu_ 2 (some 12) M2_3 HT_ ?_
        refine pu_ 3 (some 13) M2_4 HT_ ?_
        refine tk_ 4 (some 14) M2_5 HT_ HW_ hHeld ?_
        refine one_ (i := 5) (N := some 15) M2_6 rfl rfl (one_of HT_.out (by kernel_rfl)) (by decide) (fun K hK => ?_)
        refine goes_ Try.func42 (by kernel_rfl) rfl #[.int .i64 ((rd_T67 l0 x3_1).f0), .int .i64 1, .int .i64 20] (by rfl) rfl rfl ma_ ?_
        with_reducible refine (spec_l1In.calls ((rd_T67 l0 x3_1).f0) 1 20 true _ A4.out).mono ?_
        rintro e w' ⟨rfl, ⟨nd, rfl⟩⟩
        refine ⟨_, rfl, ?_⟩
        refine hK.out _ _ ⟨(cb_ HB.out hw144_0), (cb_ HB.out hw144_1), (cb_ HB.out hw146_0), (cb_ HB.out hw146_1)⟩ (fun hHeld => ?_)
        clear hK K
        refine norm_ (a' := ?_) ?_ ?_
        rotate_left
        ·
         show Act.put _ (some 15) _ = _
         simp only [Act.put, P2_1, P2_2, P2_3, i64_w, i32_w]
         rfl
        refine pu_ 6 (some 16) M2_7 HT_ ?_
        refine pu_ 7 (some 17) M2_8 HT_ ?_
        refine pu_ 8 (some 18) M2_9 HT_ ?_
        refine pu_ 9 (some 19) M2_10 HT_ ?_
        refine pu_ 10 (some 20) M2_11 HT_ ?_
        refine pu_ 11 (some 21) M2_12 HT_ ?_
        refine tk_ 12 (some 22) M2_13 HT_ HW_ hHeld ?_
        refine one_ (i := 13) (N := some 23) M2_14 rfl rfl (one_of HT_.out (by kernel_rfl)) (by decide) (fun K hK => ?_)
        refine goes_ Try.func42 (by kernel_rfl) rfl #[.int .i64 ((rd_T67 l0 x3_1).f1), .int .i64 0, .int .i64 99] (by rfl) rfl rfl ma_ ?_
        with_reducible refine (spec_l1In.calls ((rd_T67 l0 x3_1).f1) 0 99 true _ A6.out).mono ?_
        rintro e w' ⟨rfl, ⟨nd, rfl⟩⟩
        refine ⟨_, rfl, ?_⟩
        refine hK.out _ _ ⟨(cb_ HB.out hw144_0), (cb_ HB.out hw144_1), (cb_ HB.out hw146_0), (cb_ HB.out hw146_1)⟩ (fun hHeld => ?_)
        clear hK K
        refine norm_ (a' := ?_) ?_ ?_
        rotate_left
        ·
         show Act.put _ (some 23) _ = _
         simp only [Act.put, P2_1, P2_2, P2_3, i64_w, i32_w]
         rfl
        refine pu_ 14 (some 24) M2_15 HT_ ?_
        refine pu_ 15 (some 25) M2_16 HT_ ?_
        refine pu_ 16 (some 26) M2_17 HT_ ?_
        refine pu_ 17 (some 27) M2_18 HT_ ?_
        refine pu_ 18 (some 28) M2_19 HT_ ?_
        refine pu_ 19 (some 29) M2_20 HT_ ?_
        refine pn_ 20 (some 30) M2_21 HT_ ?_
        refine pn_ 21 (some 31) M2_22 HT_ ?_
        refine pn_ 22 (some 32) M2_23 HT_ ?_
        refine pn_ 23 (some 33) M2_24 HT_ ?_
        refine pn_ 24 (some 34) M2_25 HT_ ?_
        refine pn_ 25 (some 35) M2_35 HT_ ?_
        refine pn_ 26 (some 36) M2_36 HT_ ?_
        refine pn_ 27 (some 37) M2_37 HT_ ?_
        refine pn_ 28 (some 38) M2_38 HT_ ?_
        refine pn_ 29 (some 39) M2_30 HT_ ?_
        refine pn_ 30 (some 40) M2_31 HT_ ?_
        refine pn_ 31 (some 41) M2_32 HT_ ?_
        refine pu_ 32 (some 42) M2_33 HT_ ?_
        refine pu_ 33 (some 43) M2_34 HT_ ?_
        refine done_ (done_of HT_.out (by kernel_rfl)) ?_
        try go_wp2
        go_roundg k1
        case measure => have := HK1.out; omega
        case rel => exact ⟨(wrap64 (x3_1 + 1)), (by first | rfl | (simp; done) | (simp [*]; done)), H', ⟨by have := HK1.out; omega⟩, ⟨hd_ HB.out⟩⟩
      ·
       replace c7 := Bool.eq_false_iff.mpr c7
       subst c7
       have H1 : (some false) = some r := by rw [if_neg (show ¬ (false = true) by decide)] at H; exact H
       clear H
       have H := H1
       clear H1
       obtain rfl := Option.some.inj H
       try go_wp2
       have n0_ := Aside0.mk (below_drew1 HB.out)
       clear HB
       have HB := n0_
       clear n0_
       have p144 : 0 ≤ (x3_1 : Int) := of_decide_eq_true as_
       have q144 : x3_1 < (l0.length : Int) := of_decide_eq_true as_
       obtain ⟨ad144, e144, hx144_0, hx144_1⟩ := at_T67 HR0.out x3_1 p144 q144
       have hw144_1 := hx144_1
       have hw144_0 := hx144_0
       cases e144
       replace hx144_0 := cb_ HB.out hx144_0
       replace hx144_1 := cb_ HB.out hx144_1
       replace p144 := eq_true p144
       replace q144 := eq_true q144
       have p146 : 0 ≤ (x3_1 : Int) := of_decide_eq_true as_
       have q146 : x3_1 < (l0.length : Int) := of_decide_eq_true as_
       obtain ⟨ad146, e146, hx146_0, hx146_1⟩ := at_T67 HR0.out x3_1 p146 q146
       have hw146_1 := hx146_1
       have hw146_0 := hx146_0
       obtain rfl : ad144 = ad146 := (by injection e146)
       replace hx146_0 := cb_ HB.out hx146_0
       replace hx146_1 := cb_ HB.out hx146_1
       replace p146 := eq_true p146
       replace q146 := eq_true q146
       refine start_ (n := 34) (S := fun w' => w'.cell? (ad144.add ((x3_1).toNat * 2)) = some (.int .i64 ((rd_T67 l0 x3_1).f0)) ∧ w'.cell? ⟨(ad144.add ((x3_1).toNat * 2)).block, (ad144.add ((x3_1).toNat * 2)).off + 1, none⟩ = some (.int .i64 ((rd_T67 l0 x3_1).f1)) ∧ w'.cell? (ad144.add ((x3_1).toNat * 2)) = some (.int .i64 ((rd_T67 l0 x3_1).f0)) ∧ w'.cell? ⟨(ad144.add ((x3_1).toNat * 2)).block, (ad144.add ((x3_1).toNat * 2)).off + 1, none⟩ = some (.int .i64 ((rd_T67 l0 x3_1).f1))) (ds := []) M2_0 (by kernel_rfl) rfl rfl ⟨(cb_ HB.out hw144_0), (cb_ HB.out hw144_1), (cb_ HB.out hw146_0), (cb_ HB.out hw146_1)⟩ (fun hHeld => ?_); refine with_tabW spec_AreMarks.tab4 spec_AreMarks.bits4 (fun HT_ HW_ => ?_)
       generalize wr.drew = w16 at HB hx144_0 hx144_1 hx146_0 hx146_1 hHeld ⊢
       refine pu_ 0 (some 10) M2_1 HT_ ?_
       refine pu_ 1 (some 11) M2_2 HT_ ?_
       refine pu_ 2 (some 12) M2_3 HT_ ?_
       refine pu_ 3 (some 13) M2_4 HT_ ?_
       refine tk_ 4 (some 14) M2_5 HT_ HW_ hHeld ?_
       refine one_ (i := 5) (N := some 15) M2_6 rfl rfl (one_of HT_.out (by kernel_rfl)) (by decide) (fun K hK => ?_)
       refine goes_ Try.func42 (by kernel_rfl) rfl #[.int .i64 ((rd_T67 l0 x3_1).f0), .int .i64 1, .int .i64 20] (by rfl) rfl rfl ma_ ?_
       with_reducible refine (spec_l1In.calls ((rd_T67 l0 x3_1).f0) 1 20 true _ A4.out).mono ?_
       rintro e w' ⟨rfl, ⟨nd, rfl⟩⟩
       refine ⟨_, rfl, ?_⟩
       refine hK.out _ _ ⟨(cb_ HB.out hw144_0), (cb_ HB.out hw144_1), (cb_ HB.out hw146_0), (cb_ HB.out hw146_1)⟩ (fun hHeld => ?_)
       clear hK K
       refine norm_ (a' := ?_) ?_ ?_
       rotate_left
       ·
        show Act.put _ (some 15) _ = _
        simp only [Act.put, P2_1, P2_2, P2_3, i64_w, i32_w]
        rfl
       refine pu_ 6 (some 16) M2_7 HT_ ?_
       refine pu_ 7 (some 17) M2_8 HT_ ?_
       refine pu_ 8 (some 18) M2_9 HT_ ?_
       refine pu_ 9 (some 19) M2_10 HT_ ?_
       refine pu_ 10 (some 20) M2_11 HT_ ?_
       refine pu_ 11 (some 21) M2_12 HT_ ?_
       refine tk_ 12 (some 22) M2_13 HT_ HW_ hHeld ?_
       refine one_ (i := 13) (N := some 23) M2_14 rfl rfl (one_of HT_.out (by kernel_rfl)) (by decide) (fun K hK => ?_)
       refine goes_ Try.func42 (by kernel_rfl) rfl #[.int .i64 ((rd_T67 l0 x3_1).f1), .int .i64 0, .int .i64 99] (by rfl) rfl rfl ma_ ?_
       with_reducible refine (spec_l1In.calls ((rd_T67 l0 x3_1).f1) 0 99 false _ A6.out).mono ?_
       rintro e w' ⟨rfl, ⟨nd, rfl⟩⟩
       refine ⟨_, rfl, ?_⟩
       refine hK.out _ _ ⟨(cb_ HB.out hw144_0), (cb_ HB.out hw144_1), (cb_ HB.out hw146_0), (cb_ HB.out hw146_1)⟩ (fun hHeld => ?_)
       clear hK K
       refine norm_ (a' := ?_) ?_ ?_
       rotate_left
       ·
        show Act.put _ (some 23) _ = _
        simp only [Act.put, P2_1, P2_2, P2_3, i64_w, i32_w]
        rfl
       refine pu_ 14 (some 24) M2_15 HT_ ?_
       refine pu_ 15 (some 25) M2_16 HT_ ?_
       refine pu_ 16 (some 26) M2_17 HT_ ?_
       refine pn_ 17 (some 27) M2_18 HT_ ?_
       refine pn_ 18 (some 28) M2_19 HT_ ?_
       refine pn_ 19 (some 29) M2_20 HT_ ?_
       refine pn_ 20 (some 30) M2_21 HT_ ?_
       refine pn_ 21 (some 31) M2_22 HT_ ?_
       refine pn_ 22 (some 32) M2_23 HT_ ?_
       refine pn_ 23 (some 33) M2_24 HT_ ?_
       refine pn_ 24 (some 34) M2_25 HT_ ?_
       refine pn_ 25 (some 35) M2_35 HT_ ?_
       refine pn_ 26 (some 36) M2_36 HT_ ?_
       refine pn_ 27 (some 37) M2_37 HT_ ?_
       refine pn_ 28 (some 38) M2_38 HT_ ?_
       refine pn_ 29 (some 39) M2_30 HT_ ?_
       refine pn_ 30 (some 40) M2_31 HT_ ?_
       refine pn_ 31 (some 41) M2_32 HT_ ?_
       refine pn_ 32 (some 42) M2_33 HT_ ?_
       refine pu_ 33 (some 43) M2_34 HT_ ?_
       refine done_ (done_of HT_.out (by kernel_rfl)) ?_
       try go_wp2
       go_ret
       exact ⟨by first | rfl | (simp [errW_none, errW_some] <;> rfl) | (simp [*, errW_none, errW_some] <;> rfl), hd_ HB.out⟩
     ·
      replace c5 := Bool.eq_false_iff.mpr c5
      subst c5
      have H1 : (some false) = some r := by rw [if_neg (show ¬ (false = true) by decide)] at H; exact H
      clear H
      have H := H1
      clear H1
      obtain rfl := Option.some.inj H
      try go_wp2
      have n0_ := Aside0.mk (below_drew1 HB.out)
      clear HB
      have HB := n0_
      clear n0_
      have p144 : 0 ≤ (x3_1 : Int) := of_decide_eq_true as_
      have q144 : x3_1 < (l0.length : Int) := of_decide_eq_true as_
      obtain ⟨ad144, e144, hx144_0, hx144_1⟩ := at_T67 HR0.out x3_1 p144 q144
      have hw144_1 := hx144_1
      have hw144_0 := hx144_0
      cases e144
      replace hx144_0 := cb_ HB.out hx144_0
      replace hx144_1 := cb_ HB.out hx144_1
      replace p144 := eq_true p144
      replace q144 := eq_true q144
      refine start_ (n := 34) (S := fun w' => w'.cell? (ad144.add ((x3_1).toNat * 2)) = some (.int .i64 ((rd_T67 l0 x3_1).f0)) ∧ w'.cell? ⟨(ad144.add ((x3_1).toNat * 2)).block, (ad144.add ((x3_1).toNat * 2)).off + 1, none⟩ = some (.int .i64 ((rd_T67 l0 x3_1).f1))) (ds := []) M2_0 (by kernel_rfl) rfl rfl ⟨(cb_ HB.out hw144_0), (cb_ HB.out hw144_1)⟩ (fun hHeld => ?_); refine with_tabW spec_AreMarks.tab4 spec_AreMarks.bits4 (fun HT_ HW_ => ?_)
      generalize wr.drew = w17 at HB hx144_0 hx144_1 hHeld ⊢
      refine pu_ 0 (some 10) M2_1 HT_ ?_
      refine pu_ 1 (some 11) M2_2 HT_ ?_
      refine pu_ 2 (some 12) M2_3 HT_ ?_
      refine pu_ 3 (some 13) M2_4 HT_ ?_
      refine tk_ 4 (some 14) M2_5 HT_ HW_ hHeld ?_
      refine one_ (i := 5) (N := some 15) M2_6 rfl rfl (one_of HT_.out (by kernel_rfl)) (by decide) (fun K hK => ?_)
      refine goes_ Try.func42 (by kernel_rfl) rfl #[.int .i64 ((rd_T67 l0 x3_1).f0), .int .i64 1, .int .i64 20] (by rfl) rfl rfl ma_ ?_
      with_reducible refine (spec_l1In.calls ((rd_T67 l0 x3_1).f0) 1 20 false _ A4.out).mono ?_
      rintro e w' ⟨rfl, ⟨nd, rfl⟩⟩
      refine ⟨_, rfl, ?_⟩
      refine hK.out _ _ ⟨(cb_ HB.out hw144_0), (cb_ HB.out hw144_1)⟩ (fun hHeld => ?_)
      clear hK K
      refine norm_ (a' := ?_) ?_ ?_
      rotate_left
      ·
       show Act.put _ (some 15) _ = _
       simp only [Act.put, P2_1, P2_2, P2_3, i64_w, i32_w]
       rfl
      refine pu_ 6 (some 16) M2_7 HT_ ?_
      refine pu_ 7 (some 17) M2_8 HT_ ?_
      refine pn_ 8 (some 18) M2_9 HT_ ?_
      refine pn_ 9 (some 19) M2_10 HT_ ?_
      refine pn_ 10 (some 20) M2_11 HT_ ?_
      refine pn_ 11 (some 21) M2_12 HT_ ?_
      refine pn_ 12 (some 22) M2_13 HT_ ?_
      refine pn_ 13 (some 23) M2_14 HT_ ?_
      refine pn_ 14 (some 24) M2_15 HT_ ?_
      refine pu_ 15 (some 25) M2_16 HT_ ?_
      refine pu_ 16 (some 26) M2_17 HT_ ?_
      refine pn_ 17 (some 27) M2_18 HT_ ?_
      refine pn_ 18 (some 28) M2_19 HT_ ?_
      refine pn_ 19 (some 29) M2_20 HT_ ?_
      refine pn_ 20 (some 30) M2_21 HT_ ?_
      refine pn_ 21 (some 31) M2_22 HT_ ?_
      refine pn_ 22 (some 32) M2_23 HT_ ?_
      refine pn_ 23 (some 33) M2_24 HT_ ?_
      refine pn_ 24 (some 34) M2_25 HT_ ?_
      refine pn_ 25 (some 35) M2_35 HT_ ?_
      refine pn_ 26 (some 36) M2_36 HT_ ?_
      refine pn_ 27 (some 37) M2_37 HT_ ?_
      refine pn_ 28 (some 38) M2_38 HT_ ?_
      refine pn_ 29 (some 39) M2_30 HT_ ?_
      refine pn_ 30 (some 40) M2_31 HT_ ?_
      refine pn_ 31 (some 41) M2_32 HT_ ?_
      refine pn_ 32 (some 42) M2_33 HT_ ?_
      refine pu_ 33 (some 43) M2_34 HT_ ?_
      refine done_ (done_of HT_.out (by kernel_rfl)) ?_
      try go_wp2
      go_ret
      exact ⟨by first | rfl | (simp [errW_none, errW_some] <;> rfl) | (simp [*, errW_none, errW_some] <;> rfl), hd_ HB.out⟩
    ·
     rw [if_neg c3] at H
     exact absurd H (by simp)
   ·
    rw [if_neg c2] at H
    have c2b0 : decide (x3_1 < (l0.length : Int)) = false := decide_eq_false c2
    clear c2
    obtain rfl := Option.some.inj H
    go_wp2
    go_ret
    exact ⟨by first | rfl | (simp [errW_none, errW_some] <;> rfl) | (simp [*, errW_none, errW_some] <;> rfl), hd_ HB.out⟩

end Go.Proofs.Ytfghapankndioaa.PFnExactPutSecret
