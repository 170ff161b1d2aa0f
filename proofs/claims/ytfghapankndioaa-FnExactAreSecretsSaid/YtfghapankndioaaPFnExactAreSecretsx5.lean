-- Written for this claim by a program (a printer turned to this claim); Lean checks it.
import Derived.Test.YtfghapankndioaaPFnExactAreSecretsx0
import Derived.Test.YtfghapankndioaaPFnExactAreSecretsx4
namespace Go.Proofs.Ytfghapankndioaa.PFnExactAreSecrets
open Go.RowKit Go.Proofs.YtfghapankndioaaW.PrintWords Go.Proofs.YtfghapankndioaaW.PrintLast Go.Proofs.YtfghapankndioaaW.PrintMore
attribute [local go_sem] max2_int min2_int max_two min_two max_three min_three max_four min_four   -- for this text's walks alone
set_option linter.unusedVariables false
set_option linter.unusedSimpArgs false

/-! ### impl_AreSecrets: function 13 -/
def impl_AreSecrets.l0 : Nat → List (S36) → List (S36) → Int → Int → Option (Bool)
 | 0, _, _, _, _ => none
 | k + 1, x0, x8, x9, x10 => if x10 < x9 then (if 0 ≤ x10 then (if x10 < (x8.length : Int) then ((impl_InRange.f ((rd_T36 x8 x10).f0) 1 999).bind fun t153 => (if t153 = true then (if x10 > 0 then (if 0 ≤ (wrap64 (x10 - 1)) then (if (wrap64 (x10 - 1)) < (x0.length : Int) then (if ((rd_T36 x8 x10).f0) ≤ ((rd_T36 x0 (wrap64 (x10 - 1))).f0) then (some false) else (if (((rd_T36 x8 x10).f1).length : Int) = 0 then (some false) else ((impl_AreMarks.f k ((rd_T36 x8 x10).f1)).bind fun t155 => (if t155 = true then ((impl_InRange.f ((rd_T36 x8 x10).f2) 0 1000000).bind fun t156 => (if t156 = true then (impl_AreSecrets.l0 k x0 x8 x9 (wrap64 (x10 + 1))) else (some false))) else (some false))))) else (none)) else (none)) else (if (((rd_T36 x8 x10).f1).length : Int) = 0 then (some false) else ((impl_AreMarks.f k ((rd_T36 x8 x10).f1)).bind fun t157 => (if t157 = true then ((impl_InRange.f ((rd_T36 x8 x10).f2) 0 1000000).bind fun t158 => (if t158 = true then (impl_AreSecrets.l0 k x0 x8 x9 (wrap64 (x10 + 1))) else (some false))) else (some false))))) else (some false))) else (none)) else (none)) else (some true)
def impl_AreSecrets.f (k : Nat) (l0 : List (S36)) : Option (Bool) := if (l0.length : Int) > 20 then (some false) else (impl_AreSecrets.l0 k l0 l0 (l0.length : Int) 0)
theorem impl_AreSecrets.mono_l : ∀ k, (∀ y0 y1 y2 y3, LeO (impl_AreSecrets.l0 k y0 y1 y2 y3) (impl_AreSecrets.l0 (k + 1) y0 y1 y2 y3))
 | 0 => fun _ _ _ _ r h => by simp [impl_AreSecrets.l0] at h
 | k + 1 => by
  have ih0 := impl_AreSecrets.mono_l k
  ·
   intro y0 y1 y2 y3
   unfold impl_AreSecrets.l0
   repeat' first
   | (with_reducible exact ih0 _ _ _ _)
   | (with_reducible exact impl_AreMarks.mono _ _)
   | (with_reducible exact LeO.refl _)
   | (with_reducible exact LeO.none _)
   | (with_reducible refine LeO.ite ?_ ?_)
   | (with_reducible refine LeO.bind ?_ (fun _ => ?_))
   | exact ih0 _ _ _ _
   | exact impl_AreMarks.mono _ _
   | exact LeO.none _
   | refine LeO.ite ?_ ?_
   | refine LeO.bind ?_ (fun _ => ?_)
theorem impl_AreSecrets.mono : ∀ a0 k, LeO (impl_AreSecrets.f k a0) (impl_AreSecrets.f (k + 1) a0) := by
 intro a0 k
 have ih0 := impl_AreSecrets.mono_l k
 unfold impl_AreSecrets.f
 repeat' first
   | (with_reducible exact ih0 _ _ _ _)
   | (with_reducible exact impl_AreMarks.mono _ _)
   | (with_reducible exact LeO.refl _)
   | (with_reducible exact LeO.none _)
   | (with_reducible refine LeO.ite ?_ ?_)
   | (with_reducible refine LeO.bind ?_ (fun _ => ?_))
   | exact ih0 _ _ _ _
   | exact impl_AreMarks.mono _ _
   | exact LeO.none _
   | refine LeO.ite ?_ ?_
   | refine LeO.bind ?_ (fun _ => ?_)
def impl_AreSecrets.T6 : Bool × List (List Nat × List Nat) := (true, [([], []), ([0], [0]), ([1], [1]), ([2], [2]), ([3, 2], [3]), ([4], [4]), ([5, 4], [4, 5]), ([6, 4, 4], [4, 6]), ([7], [7]), ([8, 7], [7, 8]), ([7], [7]), ([7], [7]), ([11, 7], [7, 11]), ([10, 12, 7], [7, 10, 12]), ([13, 7], [7, 13]), ([14, 7], [7, 14]), ([9, 15, 7], [7, 9, 15]), ([7, 16, 4], [4, 7, 16]), ([4, 17], [4, 17]), ([18, 7], [18]), ([19], [19]), ([20, 19], [19, 20]), ([21, 19], [19, 21]), ([22, 19], [19, 22]), ([19, 23], [19, 23]), ([24, 19], [24]), ([25], [25]), ([26, 25], [25, 26]), ([27, 25, 25], [25, 27]), ([28, 25], [25, 28]), ([25, 29], [25, 29]), ([30, 28], [30]), ([31], [31]), ([32, 31], [31, 32]), ([33, 31, 31], [31, 33]), ([34, 31], [31, 34]), ([31, 35], [31, 35])])
def impl_AreSecrets.B6 : List Nat := [0, 1, 3, 7, 15, 31, 63, 127, 255, 511, 255, 255, 2303, 7423, 15615, 31999, 65535, 131071, 262143, 524287, 1048575, 2097151, 4194303, 8388607, 16777215, 33554431, 67108863, 134217727, 268435455, 536870911, 1073741823, 2147483647, 4294967295, 8589934591, 17179869183, 34359738367, 68719476735]
theorem impl_AreSecrets.tab6 : rtab .any (opsOf Try.f13 6) = impl_AreSecrets.T6 := by kernel_rfl
theorem impl_AreSecrets.bits6 : waitsOk impl_AreSecrets.T6.2 impl_AreSecrets.B6 = true := by kernel_rfl
abbrev M2_0 : Array Bool := #[false, false, false, false, false, false, false, false, false, false, false, false, false, false, false, false, false, false, false, false, false, false, false, false, false, false, false, false, false, false, false, false, false, false, false, false, false]
abbrev M2_1 : Array Bool := #[true, false, false, false, false, false, false, false, false, false, false, false, false, false, false, false, false, false, false, false, false, false, false, false, false, false, false, false, false, false, false, false, false, false, false, false, false]
abbrev M2_2 : Array Bool := #[true, true, false, false, false, false, false, false, false, false, false, false, false, false, false, false, false, false, false, false, false, false, false, false, false, false, false, false, false, false, false, false, false, false, false, false, false]
abbrev M2_3 : Array Bool := #[true, true, true, false, false, false, false, false, false, false, false, false, false, false, false, false, false, false, false, false, false, false, false, false, false, false, false, false, false, false, false, false, false, false, false, false, false]
abbrev M2_4 : Array Bool := #[true, true, true, true, false, false, false, false, false, false, false, false, false, false, false, false, false, false, false, false, false, false, false, false, false, false, false, false, false, false, false, false, false, false, false, false, false]
abbrev M2_5 : Array Bool := #[true, true, true, true, true, false, false, false, false, false, false, false, false, false, false, false, false, false, false, false, false, false, false, false, false, false, false, false, false, false, false, false, false, false, false, false, false]
abbrev M2_6 : Array Bool := #[true, true, true, true, true, true, false, false, false, false, false, false, false, false, false, false, false, false, false, false, false, false, false, false, false, false, false, false, false, false, false, false, false, false, false, false, false]
abbrev M2_7 : Array Bool := #[true, true, true, true, true, true, true, false, false, false, false, false, false, false, false, false, false, false, false, false, false, false, false, false, false, false, false, false, false, false, false, false, false, false, false, false, false]
abbrev M2_8 : Array Bool := #[true, true, true, true, true, true, true, true, false, false, false, false, false, false, false, false, false, false, false, false, false, false, false, false, false, false, false, false, false, false, false, false, false, false, false, false, false]
abbrev M2_9 : Array Bool := #[true, true, true, true, true, true, true, true, true, false, false, false, false, false, false, false, false, false, false, false, false, false, false, false, false, false, false, false, false, false, false, false, false, false, false, false, false]
abbrev M2_10 : Array Bool := #[true, true, true, true, true, true, true, true, true, false, true, false, false, false, false, false, false, false, false, false, false, false, false, false, false, false, false, false, false, false, false, false, false, false, false, false, false]
abbrev M2_11 : Array Bool := #[true, true, true, true, true, true, true, true, true, false, true, true, false, false, false, false, false, false, false, false, false, false, false, false, false, false, false, false, false, false, false, false, false, false, false, false, false]
abbrev M2_12 : Array Bool := #[true, true, true, true, true, true, true, true, true, false, true, true, true, false, false, false, false, false, false, false, false, false, false, false, false, false, false, false, false, false, false, false, false, false, false, false, false]
abbrev M2_13 : Array Bool := #[true, true, true, true, true, true, true, true, true, false, true, true, true, true, false, false, false, false, false, false, false, false, false, false, false, false, false, false, false, false, false, false, false, false, false, false, false]
abbrev M2_14 : Array Bool := #[true, true, true, true, true, true, true, true, true, false, true, true, true, true, true, false, false, false, false, false, false, false, false, false, false, false, false, false, false, false, false, false, false, false, false, false, false]
abbrev M2_15 : Array Bool := #[true, true, true, true, true, true, true, true, true, true, true, true, true, true, true, false, false, false, false, false, false, false, false, false, false, false, false, false, false, false, false, false, false, false, false, false, false]
abbrev M2_16 : Array Bool := #[true, true, true, true, true, true, true, true, true, true, true, true, true, true, true, true, false, false, false, false, false, false, false, false, false, false, false, false, false, false, false, false, false, false, false, false, false]
abbrev M2_17 : Array Bool := #[true, true, true, true, true, true, true, true, true, true, true, true, true, true, true, true, true, false, false, false, false, false, false, false, false, false, false, false, false, false, false, false, false, false, false, false, false]
abbrev M2_18 : Array Bool := #[true, true, true, true, true, true, true, true, true, true, true, true, true, true, true, true, true, true, false, false, false, false, false, false, false, false, false, false, false, false, false, false, false, false, false, false, false]
abbrev M2_19 : Array Bool := #[true, true, true, true, true, true, true, true, true, true, true, true, true, true, true, true, true, true, true, false, false, false, false, false, false, false, false, false, false, false, false, false, false, false, false, false, false]
abbrev M2_20 : Array Bool := #[true, true, true, true, true, true, true, true, true, true, true, true, true, true, true, true, true, true, true, true, false, false, false, false, false, false, false, false, false, false, false, false, false, false, false, false, false]
abbrev M2_21 : Array Bool := #[true, true, true, true, true, true, true, true, true, true, true, true, true, true, true, true, true, true, true, true, true, false, false, false, false, false, false, false, false, false, false, false, false, false, false, false, false]
abbrev M2_22 : Array Bool := #[true, true, true, true, true, true, true, true, true, true, true, true, true, true, true, true, true, true, true, true, true, true, false, false, false, false, false, false, false, false, false, false, false, false, false, false, false]
abbrev M2_23 : Array Bool := #[true, true, true, true, true, true, true, true, true, true, true, true, true, true, true, true, true, true, true, true, true, true, true, false, false, false, false, false, false, false, false, false, false, false, false, false, false]
abbrev M2_24 : Array Bool := #[true, true, true, true, true, true, true, true, true, true, true, true, true, true, true, true, true, true, true, true, true, true, true, true, false, false, false, false, false, false, false, false, false, false, false, false, false]
abbrev M2_25 : Array Bool := #[true, true, true, true, true, true, true, true, true, true, true, true, true, true, true, true, true, true, true, true, true, true, true, true, true, false, false, false, false, false, false, false, false, false, false, false, false]
abbrev M2_26 : Array Bool := #[true, true, true, true, true, true, true, true, true, true, true, true, true, true, true, true, true, true, true, true, true, true, true, true, true, true, false, false, false, false, false, false, false, false, false, false, false]
abbrev M2_27 : Array Bool := #[true, true, true, true, true, true, true, true, true, true, true, true, true, true, true, true, true, true, true, true, true, true, true, true, true, true, true, false, false, false, false, false, false, false, false, false, false]
abbrev M2_28 : Array Bool := #[true, true, true, true, true, true, true, true, true, true, true, true, true, true, true, true, true, true, true, true, true, true, true, true, true, true, true, true, false, false, false, false, false, false, false, false, false]
abbrev M2_29 : Array Bool := #[true, true, true, true, true, true, true, true, true, true, true, true, true, true, true, true, true, true, true, true, true, true, true, true, true, true, true, true, true, false, false, false, false, false, false, false, false]
abbrev M2_30 : Array Bool := #[true, true, true, true, true, true, true, true, true, true, true, true, true, true, true, true, true, true, true, true, true, true, true, true, true, true, true, true, true, true, false, false, false, false, false, false, false]
abbrev M2_31 : Array Bool := #[true, true, true, true, true, true, true, true, true, true, true, true, true, true, true, true, true, true, true, true, true, true, true, true, true, true, true, true, true, true, true, false, false, false, false, false, false]
abbrev M2_32 : Array Bool := #[true, true, true, true, true, true, true, true, true, true, true, true, true, true, true, true, true, true, true, true, true, true, true, true, true, true, true, true, true, true, true, true, false, false, false, false, false]
abbrev M2_33 : Array Bool := #[true, true, true, true, true, true, true, true, true, true, true, true, true, true, true, true, true, true, true, true, true, true, true, true, true, true, true, true, true, true, true, true, true, false, false, false, false]
abbrev M2_34 : Array Bool := #[true, true, true, true, true, true, true, true, true, true, true, true, true, true, true, true, true, true, true, true, true, true, true, true, true, true, true, true, true, true, true, true, true, true, false, false, false]
abbrev M2_35 : Array Bool := #[true, true, true, true, true, true, true, true, true, true, true, true, true, true, true, true, true, true, true, true, true, true, true, true, true, true, true, true, true, true, true, true, true, true, true, false, false]
abbrev M2_36 : Array Bool := #[true, true, true, true, true, true, true, true, true, true, true, true, true, true, true, true, true, true, true, true, true, true, true, true, true, true, true, true, true, true, true, true, true, true, true, true, false]
abbrev M2_37 : Array Bool := #[true, true, true, true, true, true, true, true, true, true, true, true, true, true, true, true, true, true, true, true, true, true, true, true, true, true, true, true, true, true, true, true, true, true, true, true, true]
abbrev M2_38 : Array Bool := #[true, true, true, true, true, true, true, true, true, true, false, false, false, false, false, false, false, false, false, false, false, false, false, false, false, false, false, false, false, false, false, false, false, false, false, false, false]
abbrev M2_39 : Array Bool := #[true, true, true, true, true, true, true, true, true, true, true, false, false, false, false, false, false, false, false, false, false, false, false, false, false, false, false, false, false, false, false, false, false, false, false, false, false]
abbrev M2_40 : Array Bool := #[true, true, true, true, true, true, true, true, true, true, true, true, false, false, false, false, false, false, false, false, false, false, false, false, false, false, false, false, false, false, false, false, false, false, false, false, false]
abbrev M2_41 : Array Bool := #[true, true, true, true, true, true, true, true, true, true, true, true, true, false, false, false, false, false, false, false, false, false, false, false, false, false, false, false, false, false, false, false, false, false, false, false, false]
abbrev M2_42 : Array Bool := #[true, true, true, true, true, true, true, true, true, true, true, true, true, true, false, false, false, false, false, false, false, false, false, false, false, false, false, false, false, false, false, false, false, false, false, false, false]
theorem P2_1 {α : Type} (l : List α) (i : Nat) (a : α) : l.toArray.setIfInBounds i a = (l.set i a).toArray := List.setIfInBounds_toArray l i a
theorem P2_2 {α : Type} (x : α) (l : List α) (a : α) : (x :: l).set 0 a = a :: l := List.set_cons_zero
theorem P2_3 {α : Type} (x : α) (l : List α) (n : Nat) (a : α) : (x :: l).set (n + 1) a = x :: l.set n a := List.set_cons_succ
set_option maxHeartbeats 8000000 in
set_option maxRecDepth 100000 in
theorem impl_AreSecrets.calls (k : Nat) (A0 : Option Addr) (c0 : Nat) (l0 : List (S36)) (r : Bool) (w : World) (hr0 : Kd.C k36 w A0 l0.length l0) (hc0 : l0.length ≤ c0) (h : impl_AreSecrets.f k l0 = some r) :
  Calls Try.prog 13 #[.slice A0 l0.length c0] w fun e w' => e = .returned (.bool r) ∧ Below w.heap.size w w' := by
 have hu36 := Try.underlying36
 have HR0 := Aside0.mk hr0
 have HC0 := Aside0.mk hc0
 clear hr0 hc0
 have HB := Aside0.mk (Below.refl w.heap.size w)
 have H : (if (l0.length : Int) > 20 then (some false) else (impl_AreSecrets.l0 k l0 l0 (l0.length : Int) 0)) = some r := h
 clear h
 by_cases c2 : (l0.length : Int) > 20
 ·
  rw [if_pos c2] at H
  have c2b0 : decide (20 < (l0.length : Int)) = true := decide_eq_true c2
  have c2b1 : decide (20 < l0.length) = true := decide_eq_true (by omega)
  clear c2
  obtain rfl := Option.some.inj H
  go_enter Try.func13, Try.ntmps13
  go_wp2
  go_ret
  exact ⟨by first | rfl | (simp [errW_none, errW_some] <;> rfl) | (simp [*, errW_none, errW_some] <;> rfl), by repeat (first | (with_reducible first | exact HB.out | apply below_alloc | apply pw_below_drewN | apply below_drew1) | exact HB.out)⟩
 ·
  rw [if_neg c2] at H
  have c2b0 : decide (20 < (l0.length : Int)) = false := decide_eq_false c2
  have c2b1 : decide (20 < l0.length) = false := decide_eq_false (by omega)
  clear c2
  have H' := Aside0.mk H
  clear H
  go_enter Try.func13, Try.ntmps13
  go_wp2
  go_loopg [10] k (fun kq v10 w' => ∃ (x10_1 : Int), v10 = .int .i64 x10_1 ∧ Aside0 (impl_AreSecrets.l0 kq l0 l0 (l0.length : Int) x10_1 = some r) ∧ Aside0 (kq ≤ k) ∧ Aside0 (Below w.heap.size w w'))
  case atStart => exact ⟨(0), (by first | rfl | (simp; done) | (simp [*]; done)), H', ⟨Nat.le_refl _⟩, ⟨by repeat (first | (with_reducible first | exact HB.out | apply below_alloc | apply pw_below_drewN | apply below_drew1) | exact HB.out)⟩⟩
  case round =>
   clear H'
   try clear c1
   try clear c2
   try clear c2b0
   try clear c2b1
   try clear p2
   obtain ⟨x10_1, rfl, HA, HK1, HB⟩ := hrel
   cases gk with
   | zero => exact absurd HA.out (by simp [impl_AreSecrets.l0])
   | succ k1 =>
    have H := HA.out
    clear HA
    simp only [impl_AreSecrets.l0] at H
    by_cases c3 : x10_1 < (l0.length : Int)
    ·
     rw [if_pos c3] at H
     have c3b0 : decide (x10_1 < (l0.length : Int)) = true := decide_eq_true c3
     clear c3
     by_cases c4 : 0 ≤ x10_1
     ·
      rw [if_pos c4] at H
      have c4b0 : decide (0 ≤ x10_1) = true := decide_eq_true c4
      clear c4
      by_cases c5 : x10_1 < (l0.length : Int)
      ·
       rw [if_pos c5] at H
       have c5b0 : decide (x10_1 < (l0.length : Int)) = true := decide_eq_true c5
       clear c5
       replace H := Option.bind_eq_some_iff.mp H
       obtain ⟨t153, A60, H⟩ := H
       replace H : (if t153 = true then (if x10_1 > 0 then (if 0 ≤ (wrap64 (x10_1 - 1)) then (if (wrap64 (x10_1 - 1)) < (l0.length : Int) then (if ((rd_T36 l0 x10_1).f0) ≤ ((rd_T36 l0 (wrap64 (x10_1 - 1))).f0) then (some false) else (if (((rd_T36 l0 x10_1).f1).length : Int) = 0 then (some false) else ((impl_AreMarks.f k1 ((rd_T36 l0 x10_1).f1)).bind fun t155 => (if t155 = true then ((impl_InRange.f ((rd_T36 l0 x10_1).f2) 0 1000000).bind fun t156 => (if t156 = true then (impl_AreSecrets.l0 k1 l0 l0 (l0.length : Int) (wrap64 (x10_1 + 1))) else (some false))) else (some false))))) else (none)) else (none)) else (if (((rd_T36 l0 x10_1).f1).length : Int) = 0 then (some false) else ((impl_AreMarks.f k1 ((rd_T36 l0 x10_1).f1)).bind fun t157 => (if t157 = true then ((impl_InRange.f ((rd_T36 l0 x10_1).f2) 0 1000000).bind fun t158 => (if t158 = true then (impl_AreSecrets.l0 k1 l0 l0 (l0.length : Int) (wrap64 (x10_1 + 1))) else (some false))) else (some false))))) else (some false)) = some r := H
       have A6 := Aside0.mk A60
       clear A60
       by_cases c7 : t153 = true
       ·
        subst c7
        have H1 : (if x10_1 > 0 then (if 0 ≤ (wrap64 (x10_1 - 1)) then (if (wrap64 (x10_1 - 1)) < (l0.length : Int) then (if ((rd_T36 l0 x10_1).f0) ≤ ((rd_T36 l0 (wrap64 (x10_1 - 1))).f0) then (some false) else (if (((rd_T36 l0 x10_1).f1).length : Int) = 0 then (some false) else ((impl_AreMarks.f k1 ((rd_T36 l0 x10_1).f1)).bind fun t155 => (if t155 = true then ((impl_InRange.f ((rd_T36 l0 x10_1).f2) 0 1000000).bind fun t156 => (if t156 = true then (impl_AreSecrets.l0 k1 l0 l0 (l0.length : Int) (wrap64 (x10_1 + 1))) else (some false))) else (some false))))) else (none)) else (none)) else (if (((rd_T36 l0 x10_1).f1).length : Int) = 0 then (some false) else ((impl_AreMarks.f k1 ((rd_T36 l0 x10_1).f1)).bind fun t157 => (if t157 = true then ((impl_InRange.f ((rd_T36 l0 x10_1).f2) 0 1000000).bind fun t158 => (if t158 = true then (impl_AreSecrets.l0 k1 l0 l0 (l0.length : Int) (wrap64 (x10_1 + 1))) else (some false))) else (some false))))) = some r := by rw [if_pos rfl] at H; exact H
        clear H
        have H := H1
        clear H1
        by_cases c8 : x10_1 > 0
        ·
         rw [if_pos c8] at H
         have c8b0 : decide (0 < x10_1) = true := decide_eq_true c8
         clear c8
         obtain ⟨ji9, hji9⟩ : ∃ j_ : Int, (wrap64 (x10_1 - 1)) = j_ := ⟨_, rfl⟩
         replace H : (if 0 ≤ (ji9) then (if (ji9) < (l0.length : Int) then (if ((rd_T36 l0 x10_1).f0) ≤ ((rd_T36 l0 (ji9)).f0) then (some false) else (if (((rd_T36 l0 x10_1).f1).length : Int) = 0 then (some false) else ((impl_AreMarks.f k1 ((rd_T36 l0 x10_1).f1)).bind fun t155 => (if t155 = true then ((impl_InRange.f ((rd_T36 l0 x10_1).f2) 0 1000000).bind fun t156 => (if t156 = true then (impl_AreSecrets.l0 k1 l0 l0 (l0.length : Int) (wrap64 (x10_1 + 1))) else (some false))) else (some false))))) else (none)) else (none)) = some r := by first | (rw [hji9] at H; exact H) | (simp only [hji9] at H ⊢; exact H)
         (try rw [hji9] at A6)
         have hji9w : (IntKind.i64.wrap (x10_1 - 1)) = ji9 := (i64_w _).trans hji9
         by_cases c10 : 0 ≤ (ji9)
         ·
          rw [if_pos c10] at H
          have c10b0 : decide (0 ≤ (ji9)) = true := decide_eq_true c10
          clear c10
          by_cases c11 : (ji9) < (l0.length : Int)
          ·
           rw [if_pos c11] at H
           have c11b0 : decide ((ji9) < (l0.length : Int)) = true := decide_eq_true c11
           clear c11
           by_cases c12 : ((rd_T36 l0 x10_1).f0) ≤ ((rd_T36 l0 (ji9)).f0)
           ·
            rw [if_pos c12] at H
            have c12b0 : decide (((rd_T36 l0 x10_1).f0) ≤ ((rd_T36 l0 (ji9)).f0)) = true := decide_eq_true c12
            clear c12
            obtain rfl := Option.some.inj H
            have p151 : 0 ≤ (x10_1 : Int) := of_decide_eq_true (by first | (with_reducible assumption) | assumption)
            have q151 : x10_1 < (l0.length : Int) := of_decide_eq_true (by first | (with_reducible assumption) | assumption)
            obtain ⟨ad151, A151_1, c151_1, e151, hx151_0, hx151_1, hx151_2, hl151_1, hi151_1⟩ := at_T36 HR0.out x10_1 p151 q151
            cases e151
            replace hx151_0 := (HB.out.cell (World.block_lt_of_cell? w _ hx151_0)).trans hx151_0
            replace hx151_1 := (HB.out.cell (World.block_lt_of_cell? w _ hx151_1)).trans hx151_1
            replace hx151_2 := (HB.out.cell (World.block_lt_of_cell? w _ hx151_2)).trans hx151_2
            have HR151_1 := Aside0.mk hi151_1
            have HC151_1 := Aside0.mk hl151_1
            clear hi151_1 hl151_1
            replace p151 := eq_true p151
            replace q151 := eq_true q151
            try go_wp2_with (first | ((with_reducible refine gate_dst (N := 4) rfl ?_); (try (refine gate_guard (by rfl) ?_; dsimp only)); refine box_event ?hg (N := 4) ?hd (cs := #[.int .i64 0, .slice none 0 0, .int .i64 0]) (t := 36) ?hr ?_; (case hd => rfl); (case hg => rfl); (case hr => first | (go_simp; done) | (go_simp; rfl)); intro gb152 hg w13 hbox hb; have n0_ := Aside0.mk (below_step (by repeat (first | (with_reducible first | exact HB.out | apply below_alloc | apply pw_below_drewN | apply below_drew1) | exact HB.out)) hb); have n1_ := Aside0.mk (hbox); have n2_ := Aside0.mk ((by rw [hg]; exact (below_size (by repeat (first | (with_reducible first | exact HB.out | apply below_alloc | apply pw_below_drewN | apply below_drew1) | exact HB.out))) : w.heap.size ≤ gb152)); have n3_ := Aside0.mk ((by rw [hg]; exact (below_size (by repeat (first | (with_reducible first | exact HB.out | apply below_alloc | apply pw_below_drewN | apply below_drew1) | exact HB.out))) : w.heap.size ≤ gb152)); clear HB; have HB := n0_; have BK152 := n1_; have GW152 := n2_; have GE152 := n3_; clear n0_ n1_ n2_ n3_; clear hb hbox hg; have hcz14_0 : w13.cell? ⟨gb152, 0, none⟩ = some (.int .i64 0) := (blk_cell BK152.out 0).trans rfl; have hcz14_1 : w13.cell? ⟨gb152, 1, none⟩ = some (.slice none 0 0) := (blk_cell BK152.out 1).trans rfl; have hcz14_2 : w13.cell? ⟨gb152, 2, none⟩ = some (.int .i64 0) := (blk_cell BK152.out 2).trans rfl; have hfz14_0 := blk_frozen BK152.out 0; have hfz14_1 := blk_frozen BK152.out 1; have hfz14_2 := blk_frozen BK152.out 2))
            have n0_ : Aside0 ((((w13.setCell ⟨gb152, 0, none⟩ (.int .i64 ((rd_T36 l0 x10_1).f0))).setCell ⟨gb152, 1, none⟩ (.slice A151_1 ((rd_T36 l0 x10_1).f1).length c151_1)).setCell ⟨gb152, 2, none⟩ (.int .i64 ((rd_T36 l0 x10_1).f2))).heap[gb152]? = some (.cells #[.int .i64 ((rd_T36 l0 x10_1).f0), .slice A151_1 ((rd_T36 l0 x10_1).f1).length c151_1, .int .i64 ((rd_T36 l0 x10_1).f2)] 36 (0, 0))) := ⟨by (with_reducible repeat (first | refine blk_drewN ?_ _ | refine blk_drew ?_ | refine blk_alloc ?_ _)); refine blk_put (cs := #[.int .i64 ((rd_T36 l0 x10_1).f0), .slice A151_1 ((rd_T36 l0 x10_1).f1).length c151_1, .int .i64 0]) ?_ 2 _ rfl; (with_reducible repeat (first | refine blk_drewN ?_ _ | refine blk_drew ?_ | refine blk_alloc ?_ _)); refine blk_put (cs := #[.int .i64 ((rd_T36 l0 x10_1).f0), .slice none 0 0, .int .i64 0]) ?_ 1 _ rfl; (with_reducible repeat (first | refine blk_drewN ?_ _ | refine blk_drew ?_ | refine blk_alloc ?_ _)); refine blk_put (cs := #[.int .i64 0, .slice none 0 0, .int .i64 0]) ?_ 0 _ rfl; (with_reducible repeat (first | refine blk_drewN ?_ _ | refine blk_drew ?_ | refine blk_alloc ?_ _)); exact BK152.out⟩
            have n1_ : Aside0 (Below w.heap.size w (((w13.setCell ⟨gb152, 0, none⟩ (.int .i64 ((rd_T36 l0 x10_1).f0))).setCell ⟨gb152, 1, none⟩ (.slice A151_1 ((rd_T36 l0 x10_1).f1).length c151_1)).setCell ⟨gb152, 2, none⟩ (.int .i64 ((rd_T36 l0 x10_1).f2)))) := ⟨by repeat (first | (with_reducible first | exact HB.out | apply below_alloc | apply pw_below_drewN | apply below_drew1 | refine below_set ?_ GE152.out) | exact HB.out)⟩
            (try clear BK152)
            (try clear HB)
            generalize (((w13.setCell ⟨gb152, 0, none⟩ (.int .i64 ((rd_T36 l0 x10_1).f0))).setCell ⟨gb152, 1, none⟩ (.slice A151_1 ((rd_T36 l0 x10_1).f1).length c151_1)).setCell ⟨gb152, 2, none⟩ (.int .i64 ((rd_T36 l0 x10_1).f2))) = w15 at n0_ n1_ ⊢
            have BK152 := n0_
            have HB := n1_
            clear n0_ n1_
            have n0_ := Aside0.mk (blk_drew BK152.out)
            have n1_ := Aside0.mk (below_drew1 HB.out)
            clear BK152
            clear HB
            have BK152 := n0_
            have HB := n1_
            clear n0_ n1_
            have p154 : 0 ≤ ((ji9) : Int) := of_decide_eq_true (by first | (with_reducible assumption) | assumption)
            have q154 : (ji9) < (l0.length : Int) := of_decide_eq_true (by first | (with_reducible assumption) | assumption)
            obtain ⟨ad154, A154_1, c154_1, e154, hx154_0, hx154_1, hx154_2, hl154_1, hi154_1⟩ := at_T36 HR0.out (ji9) p154 q154
            have hw154_2 := hx154_2
            have hw154_1 := hx154_1
            have hw154_0 := hx154_0
            obtain rfl : ad151 = ad154 := (by injection e154)
            replace hx154_0 := (HB.out.cell (World.block_lt_of_cell? w _ hx154_0)).trans hx154_0
            replace hx154_1 := (HB.out.cell (World.block_lt_of_cell? w _ hx154_1)).trans hx154_1
            replace hx154_2 := (HB.out.cell (World.block_lt_of_cell? w _ hx154_2)).trans hx154_2
            have HR154_1 := Aside0.mk hi154_1
            have HC154_1 := Aside0.mk hl154_1
            clear hi154_1 hl154_1
            replace p154 := eq_true p154
            replace q154 := eq_true q154
            refine start_ (n := 37) (S := fun w' => w'.cell? ⟨gb152, 0, none⟩ = some (.int .i64 ((rd_T36 l0 x10_1).f0)) ∧ w'.cell? ⟨gb152, 1, none⟩ = some (.slice A151_1 ((rd_T36 l0 x10_1).f1).length c151_1) ∧ w'.cell? ⟨gb152, 2, none⟩ = some (.int .i64 ((rd_T36 l0 x10_1).f2)) ∧ w'.cell? (ad151.add (((ji9)).toNat * 3)) = some (.int .i64 ((rd_T36 l0 (ji9)).f0)) ∧ w'.cell? ⟨(ad151.add (((ji9)).toNat * 3)).block, (ad151.add (((ji9)).toNat * 3)).off + 1, none⟩ = some (.slice A154_1 ((rd_T36 l0 (ji9)).f1).length c154_1) ∧ w'.cell? ⟨(ad151.add (((ji9)).toNat * 3)).block, (ad151.add (((ji9)).toNat * 3)).off + 2, none⟩ = some (.int .i64 ((rd_T36 l0 (ji9)).f2))) (ds := []) M2_0 (by kernel_rfl) rfl rfl ⟨(blk_cell BK152.out 0).trans rfl, (blk_cell BK152.out 1).trans rfl, (blk_cell BK152.out 2).trans rfl, ((HB.out.cell (World.block_lt_of_cell? w _ hw154_0)).trans hw154_0), ((HB.out.cell (World.block_lt_of_cell? w _ hw154_1)).trans hw154_1), ((HB.out.cell (World.block_lt_of_cell? w _ hw154_2)).trans hw154_2)⟩ (fun hHeld => ?_); refine with_tabW impl_AreSecrets.tab6 impl_AreSecrets.bits6 (fun HT_ HW_ => ?_)
            generalize w15.drew = w16 at BK152 HB HR154_1 hx154_0 hx154_1 hx154_2 hHeld ⊢
            refine pure_ (i := 0) (N := some 15) (v := ?_) (a' := ?_) M2_1 rfl rfl (any_of HT_.out (by kernel_rfl)) (fun _ _ _ h => h) (Or.inl ⟨by rfl, ?_⟩) ?_ ?_
            rotate_left; · intro w'; go_simp; with_reducible rfl
            rotate_left; · simp only [Act.put, P2_1, P2_2, P2_3, i64_w, i32_w]; rfl
            refine take_ (i := 1) (N := some 16) (v := ?_) (a' := ?_) M2_2 rfl rfl (take_ofW HT_.out HW_.out (by kernel_rfl)) (fun _ _ _ h => h) (Or.inl ⟨by rfl, ?_⟩) hHeld ?_ ?_
            rotate_left; · rintro w' ⟨s0, s1, s2, s3, s4, s5⟩; go_simp; with_reducible rfl
            rotate_left; · simp only [Act.put, P2_1, P2_2, P2_3, i64_w, i32_w]; rfl
            refine one_ (i := 2) (N := some 17) M2_3 rfl rfl (one_of HT_.out (by kernel_rfl)) (by decide) (fun K hK => ?_)
            refine goes_ Try.func44 (by kernel_rfl) rfl #[.int .i64 ((rd_T36 l0 x10_1).f0), .int .i64 1, .int .i64 999] (by rfl) rfl rfl (by (try simp only [List.map_toArray, List.map_cons, List.map_nil]); first | done | rfl | (simp only [List.length_drop, List.length_take]; rfl)) ?_
            with_reducible refine (impl_InRange.calls ((rd_T36 l0 x10_1).f0) 1 999 true _ A6.out).mono ?_
            rintro e w' ⟨rfl, ⟨nd, rfl⟩⟩
            refine ⟨_, rfl, ?_⟩
            refine hK.out _ _ ⟨(blk_cell BK152.out 0).trans rfl, (blk_cell BK152.out 1).trans rfl, (blk_cell BK152.out 2).trans rfl, ((HB.out.cell (World.block_lt_of_cell? w _ hw154_0)).trans hw154_0), ((HB.out.cell (World.block_lt_of_cell? w _ hw154_1)).trans hw154_1), ((HB.out.cell (World.block_lt_of_cell? w _ hw154_2)).trans hw154_2)⟩ (fun hHeld => ?_)
            clear hK K
            refine norm_ (a' := ?_) ?_ ?_
            rotate_left
            ·
             show Act.put _ (some 17) _ = _
             simp only [Act.put, P2_1, P2_2, P2_3, i64_w, i32_w]
             rfl
            refine pure_ (i := 3) (N := some 18) (v := ?_) (a' := ?_) M2_4 rfl rfl (any_of HT_.out (by kernel_rfl)) (fun _ _ _ h => h) (Or.inl ⟨by rfl, ?_⟩) ?_ ?_
            rotate_left; · intro w'; go_simp; with_reducible rfl
            rotate_left; · simp only [Act.put, P2_1, P2_2, P2_3, i64_w, i32_w]; rfl
            refine pure_ (i := 4) (N := some 19) (v := ?_) (a' := ?_) M2_5 rfl rfl (any_of HT_.out (by kernel_rfl)) (fun _ _ _ h => h) (Or.inl ⟨by rfl, ?_⟩) ?_ ?_
            rotate_left; · intro w'; go_simp; with_reducible rfl
            rotate_left; · simp only [Act.put, P2_1, P2_2, P2_3, i64_w, i32_w]; rfl
            refine pure_ (i := 5) (N := some 20) (v := ?_) (a' := ?_) M2_6 rfl rfl (any_of HT_.out (by kernel_rfl)) (fun _ _ _ h => h) (Or.inl ⟨by rfl, ?_⟩) ?_ ?_
            rotate_left; · intro w'; go_simp; with_reducible rfl
            rotate_left; · simp only [Act.put, P2_1, P2_2, P2_3, i64_w, i32_w]; rfl
            refine pure_ (i := 6) (N := some 21) (v := ?_) (a' := ?_) M2_7 rfl rfl (any_of HT_.out (by kernel_rfl)) (fun _ _ _ h => h) (Or.inl ⟨by rfl, ?_⟩) ?_ ?_
            rotate_left; · intro w'; go_simp; with_reducible rfl
            rotate_left; · simp only [Act.put, P2_1, P2_2, P2_3, i64_w, i32_w]; rfl
            refine pure_ (i := 7) (N := some 22) (v := ?_) (a' := ?_) M2_8 rfl rfl (any_of HT_.out (by kernel_rfl)) (fun _ _ _ h => h) (Or.inl ⟨by rfl, ?_⟩) ?_ ?_
            rotate_left; · intro w'; go_simp; with_reducible rfl
            rotate_left; · simp only [Act.put, P2_1, P2_2, P2_3, i64_w, i32_w]; rfl
            refine pure_ (i := 8) (N := some 23) (v := ?_) (a' := ?_) M2_9 rfl rfl (any_of HT_.out (by kernel_rfl)) (fun _ _ _ h => h) (Or.inl ⟨by rfl, ?_⟩) ?_ ?_
            rotate_left; · intro w'; go_simp; with_reducible rfl
            rotate_left; · simp only [Act.put, P2_1, P2_2, P2_3, i64_w, i32_w]; rfl
            refine pure_ (i := 10) (N := some 25) (v := ?_) (a' := ?_) M2_10 rfl rfl (any_of HT_.out (by kernel_rfl)) (fun _ _ _ h => h) (Or.inl ⟨by rfl, ?_⟩) ?_ ?_
            rotate_left; · intro w'; go_simp; with_reducible rfl
            rotate_left; · simp only [Act.put, P2_1, P2_2, P2_3, i64_w, i32_w]; rfl
            refine pure_ (i := 11) (N := some 26) (v := ?_) (a' := ?_) M2_11 rfl rfl (any_of HT_.out (by kernel_rfl)) (fun _ _ _ h => h) (Or.inl ⟨by rfl, ?_⟩) ?_ ?_
            rotate_left; · intro w'; go_simp; with_reducible rfl
            rotate_left; · simp only [Act.put, P2_1, P2_2, P2_3, i64_w, i32_w]; rfl
            refine pure_ (i := 12) (N := some 27) (v := ?_) (a' := ?_) M2_12 rfl rfl (any_of HT_.out (by kernel_rfl)) (fun _ _ _ h => h) (Or.inl ⟨by rfl, ?_⟩) ?_ ?_
            rotate_left; · intro w'; go_simp; with_reducible rfl
            rotate_left; · simp only [Act.put, P2_1, P2_2, P2_3, i64_w, i32_w]; rfl
            refine pure_ (i := 13) (N := some 28) (v := ?_) (a' := ?_) M2_13 rfl rfl (any_of HT_.out (by kernel_rfl)) (fun _ _ _ h => h) (Or.inl ⟨by rfl, ?_⟩) ?_ ?_
            rotate_left; · intro w'; go_simp; with_reducible rfl
            rotate_left; · simp only [Act.put, P2_1, P2_2, P2_3, i64_w, i32_w]; rfl
            refine pure_ (i := 14) (N := some 29) (v := ?_) (a' := ?_) M2_14 rfl rfl (any_of HT_.out (by kernel_rfl)) (fun _ _ _ h => h) (Or.inl ⟨by rfl, ?_⟩) ?_ ?_
            rotate_left; · intro w'; go_simp; with_reducible rfl
            rotate_left; · simp only [Act.put, P2_1, P2_2, P2_3, i64_w, i32_w]; rfl
            refine take_ (i := 9) (N := some 24) (v := ?_) (a' := ?_) M2_15 rfl rfl (take_ofW HT_.out HW_.out (by kernel_rfl)) (fun _ _ _ h => h) (Or.inl ⟨by rfl, ?_⟩) hHeld ?_ ?_
            rotate_left; · rintro w' ⟨s0, s1, s2, s3, s4, s5⟩; go_simp; with_reducible rfl
            rotate_left; · simp only [Act.put, P2_1, P2_2, P2_3, i64_w, i32_w]; rfl
            refine take_ (i := 15) (N := some 30) (v := ?_) (a' := ?_) M2_16 rfl rfl (take_ofW HT_.out HW_.out (by kernel_rfl)) (fun _ _ _ h => h) (Or.inl ⟨by rfl, ?_⟩) hHeld ?_ ?_
            rotate_left; · rintro w' ⟨s0, s1, s2, s3, s4, s5⟩; go_simp; with_reducible rfl
            rotate_left; · simp only [Act.put, P2_1, P2_2, P2_3, i64_w, i32_w]; rfl
            refine pure_ (i := 16) (N := some 31) (v := ?_) (a' := ?_) M2_17 rfl rfl (any_of HT_.out (by kernel_rfl)) (fun _ _ _ h => h) (Or.inl ⟨by rfl, ?_⟩) ?_ ?_
            rotate_left; · intro w'; go_simp; with_reducible rfl
            rotate_left; · simp only [Act.put, P2_1, P2_2, P2_3, i64_w, i32_w]; rfl
            refine pure_ (i := 17) (N := some 32) (v := ?_) (a' := ?_) M2_18 rfl rfl (any_of HT_.out (by kernel_rfl)) (fun _ _ _ h => h) (Or.inl ⟨by rfl, ?_⟩) ?_ ?_
            rotate_left; · intro w'; go_simp; with_reducible rfl
            rotate_left; · simp only [Act.put, P2_1, P2_2, P2_3, i64_w, i32_w]; rfl
            refine pure_ (i := 18) (N := some 33) (v := ?_) (a' := ?_) M2_19 rfl rfl (any_of HT_.out (by kernel_rfl)) (fun _ _ _ h => h) (Or.inl ⟨by rfl, ?_⟩) ?_ ?_
            rotate_left; · intro w'; go_simp; with_reducible rfl
            rotate_left; · simp only [Act.put, P2_1, P2_2, P2_3, i64_w, i32_w]; rfl
            refine pure_ (i := 19) (N := some 34) (v := ?_) (a' := ?_) M2_20 rfl rfl (any_of HT_.out (by kernel_rfl)) (fun _ _ _ h => h) (Or.inl ⟨by rfl, ?_⟩) ?_ ?_
            rotate_left; · intro w'; go_simp; with_reducible rfl
            rotate_left; · simp only [Act.put, P2_1, P2_2, P2_3, i64_w, i32_w]; rfl
            refine pure_ (i := 20) (N := some 35) (v := undef) (a' := ?_) M2_21 rfl rfl (any_of HT_.out (by kernel_rfl)) (fun _ _ _ h => h) (Or.inr ⟨by rfl, rfl⟩) ?_ ?_
            rotate_left; · simp only [Act.put, P2_1, P2_2, P2_3, i64_w, i32_w]; rfl
            refine pure_ (i := 21) (N := some 36) (v := undef) (a' := ?_) M2_22 rfl rfl (any_of HT_.out (by kernel_rfl)) (fun _ _ _ h => h) (Or.inr ⟨by rfl, rfl⟩) ?_ ?_
            rotate_left; · simp only [Act.put, P2_1, P2_2, P2_3, i64_w, i32_w]; rfl
            refine pure_ (i := 22) (N := some 37) (v := undef) (a' := ?_) M2_23 rfl rfl (any_of HT_.out (by kernel_rfl)) (fun _ _ _ h => h) (Or.inr ⟨by rfl, rfl⟩) ?_ ?_
            rotate_left; · simp only [Act.put, P2_1, P2_2, P2_3, i64_w, i32_w]; rfl
            refine pure_ (i := 23) (N := some 38) (v := undef) (a' := ?_) M2_24 rfl rfl (any_of HT_.out (by kernel_rfl)) (fun _ _ _ h => h) (Or.inr ⟨by rfl, rfl⟩) ?_ ?_
            rotate_left; · simp only [Act.put, P2_1, P2_2, P2_3, i64_w, i32_w]; rfl
            refine pure_ (i := 24) (N := some 39) (v := ?_) (a' := ?_) M2_25 rfl rfl (any_of HT_.out (by kernel_rfl)) (fun _ _ _ h => h) (Or.inl ⟨by rfl, ?_⟩) ?_ ?_
            rotate_left; · intro w'; go_simp; with_reducible rfl
            rotate_left; · simp only [Act.put, P2_1, P2_2, P2_3, i64_w, i32_w]; rfl
            refine pure_ (i := 25) (N := some 40) (v := ?_) (a' := ?_) M2_26 rfl rfl (any_of HT_.out (by kernel_rfl)) (fun _ _ _ h => h) (Or.inl ⟨by rfl, ?_⟩) ?_ ?_
            rotate_left; · intro w'; go_simp; with_reducible rfl
            rotate_left; · simp only [Act.put, P2_1, P2_2, P2_3, i64_w, i32_w]; rfl
            refine pure_ (i := 26) (N := some 41) (v := undef) (a' := ?_) M2_27 rfl rfl (any_of HT_.out (by kernel_rfl)) (fun _ _ _ h => h) (Or.inr ⟨by rfl, rfl⟩) ?_ ?_
            rotate_left; · simp only [Act.put, P2_1, P2_2, P2_3, i64_w, i32_w]; rfl
            refine pure_ (i := 27) (N := some 42) (v := undef) (a' := ?_) M2_28 rfl rfl (any_of HT_.out (by kernel_rfl)) (fun _ _ _ h => h) (Or.inr ⟨by rfl, rfl⟩) ?_ ?_
            rotate_left; · simp only [Act.put, P2_1, P2_2, P2_3, i64_w, i32_w]; rfl
            refine pure_ (i := 28) (N := some 43) (v := undef) (a' := ?_) M2_29 rfl rfl (any_of HT_.out (by kernel_rfl)) (fun _ _ _ h => h) (Or.inr ⟨by rfl, rfl⟩) ?_ ?_
            rotate_left; · simp only [Act.put, P2_1, P2_2, P2_3, i64_w, i32_w]; rfl
            refine pure_ (i := 29) (N := some 44) (v := undef) (a' := ?_) M2_30 rfl rfl (any_of HT_.out (by kernel_rfl)) (fun _ _ _ h => h) (Or.inr ⟨by rfl, rfl⟩) ?_ ?_
            rotate_left; · simp only [Act.put, P2_1, P2_2, P2_3, i64_w, i32_w]; rfl
            refine pure_ (i := 30) (N := some 45) (v := ?_) (a' := ?_) M2_31 rfl rfl (any_of HT_.out (by kernel_rfl)) (fun _ _ _ h => h) (Or.inl ⟨by rfl, ?_⟩) ?_ ?_
            rotate_left; · intro w'; go_simp; with_reducible rfl
            rotate_left; · simp only [Act.put, P2_1, P2_2, P2_3, i64_w, i32_w]; rfl
            refine pure_ (i := 31) (N := some 46) (v := ?_) (a' := ?_) M2_32 rfl rfl (any_of HT_.out (by kernel_rfl)) (fun _ _ _ h => h) (Or.inl ⟨by rfl, ?_⟩) ?_ ?_
            rotate_left; · intro w'; go_simp; with_reducible rfl
            rotate_left; · simp only [Act.put, P2_1, P2_2, P2_3, i64_w, i32_w]; rfl
            refine pure_ (i := 32) (N := some 47) (v := undef) (a' := ?_) M2_33 rfl rfl (any_of HT_.out (by kernel_rfl)) (fun _ _ _ h => h) (Or.inr ⟨by rfl, rfl⟩) ?_ ?_
            rotate_left; · simp only [Act.put, P2_1, P2_2, P2_3, i64_w, i32_w]; rfl
            refine pure_ (i := 33) (N := some 48) (v := undef) (a' := ?_) M2_34 rfl rfl (any_of HT_.out (by kernel_rfl)) (fun _ _ _ h => h) (Or.inr ⟨by rfl, rfl⟩) ?_ ?_
            rotate_left; · simp only [Act.put, P2_1, P2_2, P2_3, i64_w, i32_w]; rfl
            refine pure_ (i := 34) (N := some 49) (v := undef) (a' := ?_) M2_35 rfl rfl (any_of HT_.out (by kernel_rfl)) (fun _ _ _ h => h) (Or.inr ⟨by rfl, rfl⟩) ?_ ?_
            rotate_left; · simp only [Act.put, P2_1, P2_2, P2_3, i64_w, i32_w]; rfl
            refine pure_ (i := 35) (N := some 50) (v := undef) (a' := ?_) M2_36 rfl rfl (any_of HT_.out (by kernel_rfl)) (fun _ _ _ h => h) (Or.inr ⟨by rfl, rfl⟩) ?_ ?_
            rotate_left; · simp only [Act.put, P2_1, P2_2, P2_3, i64_w, i32_w]; rfl
            refine pure_ (i := 36) (N := some 51) (v := ?_) (a' := ?_) M2_37 rfl rfl (any_of HT_.out (by kernel_rfl)) (fun _ _ _ h => h) (Or.inl ⟨by rfl, ?_⟩) ?_ ?_
            rotate_left; · intro w'; go_simp; with_reducible rfl
            rotate_left; · simp only [Act.put, P2_1, P2_2, P2_3, i64_w, i32_w]; rfl
            refine done_ (done_of HT_.out (by kernel_rfl)) ?_
            try go_wp2
            go_ret
            exact ⟨by first | rfl | (simp [errW_none, errW_some] <;> rfl) | (simp only [← hji9]; first | rfl | (simp [errW_none, errW_some] <;> rfl)) | (simp [*, errW_none, errW_some] <;> rfl), by repeat (first | (with_reducible first | exact HB.out | apply below_alloc | apply pw_below_drewN | apply below_drew1 | refine below_set ?_ GE152.out) | exact HB.out)⟩
           ·
            rw [if_neg c12] at H
            have c12b0 : decide (((rd_T36 l0 x10_1).f0) ≤ ((rd_T36 l0 (ji9)).f0)) = false := decide_eq_false c12
            clear c12
            by_cases c17 : (((rd_T36 l0 x10_1).f1).length : Int) = 0
            ·
             rw [if_pos c17] at H
             have c17b0 : ((((rd_T36 l0 x10_1).f1).length : Int) == 0) = true := beq_iff_eq.mpr c17
             have c17b1 : ((((rd_T36 l0 x10_1).f1).length : Int) != 0) = false := bne_eq_false_iff_eq.mpr c17
             clear c17
             obtain rfl := Option.some.inj H
             have p151 : 0 ≤ (x10_1 : Int) := of_decide_eq_true (by first | (with_reducible assumption) | assumption)
             have q151 : x10_1 < (l0.length : Int) := of_decide_eq_true (by first | (with_reducible assumption) | assumption)
             obtain ⟨ad151, A151_1, c151_1, e151, hx151_0, hx151_1, hx151_2, hl151_1, hi151_1⟩ := at_T36 HR0.out x10_1 p151 q151
             cases e151
             replace hx151_0 := (HB.out.cell (World.block_lt_of_cell? w _ hx151_0)).trans hx151_0
             replace hx151_1 := (HB.out.cell (World.block_lt_of_cell? w _ hx151_1)).trans hx151_1
             replace hx151_2 := (HB.out.cell (World.block_lt_of_cell? w _ hx151_2)).trans hx151_2
             have HR151_1 := Aside0.mk hi151_1
             have HC151_1 := Aside0.mk hl151_1
             clear hi151_1 hl151_1
             replace p151 := eq_true p151
             replace q151 := eq_true q151
             try go_wp2_with (first | ((with_reducible refine gate_dst (N := 4) rfl ?_); (try (refine gate_guard (by rfl) ?_; dsimp only)); refine box_event ?hg (N := 4) ?hd (cs := #[.int .i64 0, .slice none 0 0, .int .i64 0]) (t := 36) ?hr ?_; (case hd => rfl); (case hg => rfl); (case hr => first | (go_simp; done) | (go_simp; rfl)); intro gb152 hg w18 hbox hb; have n0_ := Aside0.mk (below_step (by repeat (first | (with_reducible first | exact HB.out | apply below_alloc | apply pw_below_drewN | apply below_drew1) | exact HB.out)) hb); have n1_ := Aside0.mk (hbox); have n2_ := Aside0.mk ((by rw [hg]; exact (below_size (by repeat (first | (with_reducible first | exact HB.out | apply below_alloc | apply pw_below_drewN | apply below_drew1) | exact HB.out))) : w.heap.size ≤ gb152)); have n3_ := Aside0.mk ((by rw [hg]; exact (below_size (by repeat (first | (with_reducible first | exact HB.out | apply below_alloc | apply pw_below_drewN | apply below_drew1) | exact HB.out))) : w.heap.size ≤ gb152)); clear HB; have HB := n0_; have BK152 := n1_; have GW152 := n2_; have GE152 := n3_; clear n0_ n1_ n2_ n3_; clear hb hbox hg; have hcz19_0 : w18.cell? ⟨gb152, 0, none⟩ = some (.int .i64 0) := (blk_cell BK152.out 0).trans rfl; have hcz19_1 : w18.cell? ⟨gb152, 1, none⟩ = some (.slice none 0 0) := (blk_cell BK152.out 1).trans rfl; have hcz19_2 : w18.cell? ⟨gb152, 2, none⟩ = some (.int .i64 0) := (blk_cell BK152.out 2).trans rfl; have hfz19_0 := blk_frozen BK152.out 0; have hfz19_1 := blk_frozen BK152.out 1; have hfz19_2 := blk_frozen BK152.out 2))
             have n0_ : Aside0 ((((w18.setCell ⟨gb152, 0, none⟩ (.int .i64 ((rd_T36 l0 x10_1).f0))).setCell ⟨gb152, 1, none⟩ (.slice A151_1 ((rd_T36 l0 x10_1).f1).length c151_1)).setCell ⟨gb152, 2, none⟩ (.int .i64 ((rd_T36 l0 x10_1).f2))).heap[gb152]? = some (.cells #[.int .i64 ((rd_T36 l0 x10_1).f0), .slice A151_1 ((rd_T36 l0 x10_1).f1).length c151_1, .int .i64 ((rd_T36 l0 x10_1).f2)] 36 (0, 0))) := ⟨by (with_reducible repeat (first | refine blk_drewN ?_ _ | refine blk_drew ?_ | refine blk_alloc ?_ _)); refine blk_put (cs := #[.int .i64 ((rd_T36 l0 x10_1).f0), .slice A151_1 ((rd_T36 l0 x10_1).f1).length c151_1, .int .i64 0]) ?_ 2 _ rfl; (with_reducible repeat (first | refine blk_drewN ?_ _ | refine blk_drew ?_ | refine blk_alloc ?_ _)); refine blk_put (cs := #[.int .i64 ((rd_T36 l0 x10_1).f0), .slice none 0 0, .int .i64 0]) ?_ 1 _ rfl; (with_reducible repeat (first | refine blk_drewN ?_ _ | refine blk_drew ?_ | refine blk_alloc ?_ _)); refine blk_put (cs := #[.int .i64 0, .slice none 0 0, .int .i64 0]) ?_ 0 _ rfl; (with_reducible repeat (first | refine blk_drewN ?_ _ | refine blk_drew ?_ | refine blk_alloc ?_ _)); exact BK152.out⟩
             have n1_ : Aside0 (Below w.heap.size w (((w18.setCell ⟨gb152, 0, none⟩ (.int .i64 ((rd_T36 l0 x10_1).f0))).setCell ⟨gb152, 1, none⟩ (.slice A151_1 ((rd_T36 l0 x10_1).f1).length c151_1)).setCell ⟨gb152, 2, none⟩ (.int .i64 ((rd_T36 l0 x10_1).f2)))) := ⟨by repeat (first | (with_reducible first | exact HB.out | apply below_alloc | apply pw_below_drewN | apply below_drew1 | refine below_set ?_ GE152.out) | exact HB.out)⟩
             (try clear BK152)
             (try clear HB)
             generalize (((w18.setCell ⟨gb152, 0, none⟩ (.int .i64 ((rd_T36 l0 x10_1).f0))).setCell ⟨gb152, 1, none⟩ (.slice A151_1 ((rd_T36 l0 x10_1).f1).length c151_1)).setCell ⟨gb152, 2, none⟩ (.int .i64 ((rd_T36 l0 x10_1).f2))) = w20 at n0_ n1_ ⊢
             have BK152 := n0_
             have HB := n1_
             clear n0_ n1_
             have n0_ := Aside0.mk (blk_drew BK152.out)
             have n1_ := Aside0.mk (below_drew1 HB.out)
             clear BK152
             clear HB
             have BK152 := n0_
             have HB := n1_
             clear n0_ n1_
             have p154 : 0 ≤ ((ji9) : Int) := of_decide_eq_true (by first | (with_reducible assumption) | assumption)
             have q154 : (ji9) < (l0.length : Int) := of_decide_eq_true (by first | (with_reducible assumption) | assumption)
             obtain ⟨ad154, A154_1, c154_1, e154, hx154_0, hx154_1, hx154_2, hl154_1, hi154_1⟩ := at_T36 HR0.out (ji9) p154 q154
             have hw154_2 := hx154_2
             have hw154_1 := hx154_1
             have hw154_0 := hx154_0
             obtain rfl : ad151 = ad154 := (by injection e154)
             replace hx154_0 := (HB.out.cell (World.block_lt_of_cell? w _ hx154_0)).trans hx154_0
             replace hx154_1 := (HB.out.cell (World.block_lt_of_cell? w _ hx154_1)).trans hx154_1
             replace hx154_2 := (HB.out.cell (World.block_lt_of_cell? w _ hx154_2)).trans hx154_2
             have HR154_1 := Aside0.mk hi154_1
             have HC154_1 := Aside0.mk hl154_1
             clear hi154_1 hl154_1
             replace p154 := eq_true p154
             replace q154 := eq_true q154
             refine start_ (n := 37) (S := fun w' => w'.cell? ⟨gb152, 0, none⟩ = some (.int .i64 ((rd_T36 l0 x10_1).f0)) ∧ w'.cell? ⟨gb152, 1, none⟩ = some (.slice A151_1 ((rd_T36 l0 x10_1).f1).length c151_1) ∧ w'.cell? ⟨gb152, 2, none⟩ = some (.int .i64 ((rd_T36 l0 x10_1).f2)) ∧ w'.cell? (ad151.add (((ji9)).toNat * 3)) = some (.int .i64 ((rd_T36 l0 (ji9)).f0)) ∧ w'.cell? ⟨(ad151.add (((ji9)).toNat * 3)).block, (ad151.add (((ji9)).toNat * 3)).off + 1, none⟩ = some (.slice A154_1 ((rd_T36 l0 (ji9)).f1).length c154_1) ∧ w'.cell? ⟨(ad151.add (((ji9)).toNat * 3)).block, (ad151.add (((ji9)).toNat * 3)).off + 2, none⟩ = some (.int .i64 ((rd_T36 l0 (ji9)).f2))) (ds := []) M2_0 (by kernel_rfl) rfl rfl ⟨(blk_cell BK152.out 0).trans rfl, (blk_cell BK152.out 1).trans rfl, (blk_cell BK152.out 2).trans rfl, ((HB.out.cell (World.block_lt_of_cell? w _ hw154_0)).trans hw154_0), ((HB.out.cell (World.block_lt_of_cell? w _ hw154_1)).trans hw154_1), ((HB.out.cell (World.block_lt_of_cell? w _ hw154_2)).trans hw154_2)⟩ (fun hHeld => ?_); refine with_tabW impl_AreSecrets.tab6 impl_AreSecrets.bits6 (fun HT_ HW_ => ?_)
             generalize w20.drew = w21 at BK152 HB HR154_1 hx154_0 hx154_1 hx154_2 hHeld ⊢
             refine pure_ (i := 0) (N := some 15) (v := ?_) (a' := ?_) M2_1 rfl rfl (any_of HT_.out (by kernel_rfl)) (fun _ _ _ h => h) (Or.inl ⟨by rfl, ?_⟩) ?_ ?_
             rotate_left; · intro w'; go_simp; with_reducible rfl
             rotate_left; · simp only [Act.put, P2_1, P2_2, P2_3, i64_w, i32_w]; rfl
             refine take_ (i := 1) (N := some 16) (v := ?_) (a' := ?_) M2_2 rfl rfl (take_ofW HT_.out HW_.out (by kernel_rfl)) (fun _ _ _ h => h) (Or.inl ⟨by rfl, ?_⟩) hHeld ?_ ?_
             rotate_left; · rintro w' ⟨s0, s1, s2, s3, s4, s5⟩; go_simp; with_reducible rfl
             rotate_left; · simp only [Act.put, P2_1, P2_2, P2_3, i64_w, i32_w]; rfl
             refine one_ (i := 2) (N := some 17) M2_3 rfl rfl (one_of HT_.out (by kernel_rfl)) (by decide) (fun K hK => ?_)
             refine goes_ Try.func44 (by kernel_rfl) rfl #[.int .i64 ((rd_T36 l0 x10_1).f0), .int .i64 1, .int .i64 999] (by rfl) rfl rfl (by (try simp only [List.map_toArray, List.map_cons, List.map_nil]); first | done | rfl | (simp only [List.length_drop, List.length_take]; rfl)) ?_
             with_reducible refine (impl_InRange.calls ((rd_T36 l0 x10_1).f0) 1 999 true _ A6.out).mono ?_
             rintro e w' ⟨rfl, ⟨nd, rfl⟩⟩
             refine ⟨_, rfl, ?_⟩
             refine hK.out _ _ ⟨(blk_cell BK152.out 0).trans rfl, (blk_cell BK152.out 1).trans rfl, (blk_cell BK152.out 2).trans rfl, ((HB.out.cell (World.block_lt_of_cell? w _ hw154_0)).trans hw154_0), ((HB.out.cell (World.block_lt_of_cell? w _ hw154_1)).trans hw154_1), ((HB.out.cell (World.block_lt_of_cell? w _ hw154_2)).trans hw154_2)⟩ (fun hHeld => ?_)
             clear hK K
             refine norm_ (a' := ?_) ?_ ?_
             rotate_left
             ·
              show Act.put _ (some 17) _ = _
              simp only [Act.put, P2_1, P2_2, P2_3, i64_w, i32_w]
              rfl
             refine pure_ (i := 3) (N := some 18) (v := ?_) (a' := ?_) M2_4 rfl rfl (any_of HT_.out (by kernel_rfl)) (fun _ _ _ h => h) (Or.inl ⟨by rfl, ?_⟩) ?_ ?_
             rotate_left; · intro w'; go_simp; with_reducible rfl
             rotate_left; · simp only [Act.put, P2_1, P2_2, P2_3, i64_w, i32_w]; rfl
             refine pure_ (i := 4) (N := some 19) (v := ?_) (a' := ?_) M2_5 rfl rfl (any_of HT_.out (by kernel_rfl)) (fun _ _ _ h => h) (Or.inl ⟨by rfl, ?_⟩) ?_ ?_
             rotate_left; · intro w'; go_simp; with_reducible rfl
             rotate_left; · simp only [Act.put, P2_1, P2_2, P2_3, i64_w, i32_w]; rfl
             refine pure_ (i := 5) (N := some 20) (v := ?_) (a' := ?_) M2_6 rfl rfl (any_of HT_.out (by kernel_rfl)) (fun _ _ _ h => h) (Or.inl ⟨by rfl, ?_⟩) ?_ ?_
             rotate_left; · intro w'; go_simp; with_reducible rfl
             rotate_left; · simp only [Act.put, P2_1, P2_2, P2_3, i64_w, i32_w]; rfl
             refine pure_ (i := 6) (N := some 21) (v := ?_) (a' := ?_) M2_7 rfl rfl (any_of HT_.out (by kernel_rfl)) (fun _ _ _ h => h) (Or.inl ⟨by rfl, ?_⟩) ?_ ?_
             rotate_left; · intro w'; go_simp; with_reducible rfl
             rotate_left; · simp only [Act.put, P2_1, P2_2, P2_3, i64_w, i32_w]; rfl
             refine pure_ (i := 7) (N := some 22) (v := ?_) (a' := ?_) M2_8 rfl rfl (any_of HT_.out (by kernel_rfl)) (fun _ _ _ h => h) (Or.inl ⟨by rfl, ?_⟩) ?_ ?_
             rotate_left; · intro w'; go_simp; with_reducible rfl
             rotate_left; · simp only [Act.put, P2_1, P2_2, P2_3, i64_w, i32_w]; rfl
             refine pure_ (i := 8) (N := some 23) (v := ?_) (a' := ?_) M2_9 rfl rfl (any_of HT_.out (by kernel_rfl)) (fun _ _ _ h => h) (Or.inl ⟨by rfl, ?_⟩) ?_ ?_
             rotate_left; · intro w'; go_simp; with_reducible rfl
             rotate_left; · simp only [Act.put, P2_1, P2_2, P2_3, i64_w, i32_w]; rfl
             refine pure_ (i := 10) (N := some 25) (v := ?_) (a' := ?_) M2_10 rfl rfl (any_of HT_.out (by kernel_rfl)) (fun _ _ _ h => h) (Or.inl ⟨by rfl, ?_⟩) ?_ ?_
             rotate_left; · intro w'; go_simp; with_reducible rfl
             rotate_left; · simp only [Act.put, P2_1, P2_2, P2_3, i64_w, i32_w]; rfl
             refine pure_ (i := 11) (N := some 26) (v := ?_) (a' := ?_) M2_11 rfl rfl (any_of HT_.out (by kernel_rfl)) (fun _ _ _ h => h) (Or.inl ⟨by rfl, ?_⟩) ?_ ?_
             rotate_left; · intro w'; go_simp; with_reducible rfl
             rotate_left; · simp only [Act.put, P2_1, P2_2, P2_3, i64_w, i32_w]; rfl
             refine pure_ (i := 12) (N := some 27) (v := ?_) (a' := ?_) M2_12 rfl rfl (any_of HT_.out (by kernel_rfl)) (fun _ _ _ h => h) (Or.inl ⟨by rfl, ?_⟩) ?_ ?_
             rotate_left; · intro w'; go_simp; with_reducible rfl
             rotate_left; · simp only [Act.put, P2_1, P2_2, P2_3, i64_w, i32_w]; rfl
             refine pure_ (i := 13) (N := some 28) (v := ?_) (a' := ?_) M2_13 rfl rfl (any_of HT_.out (by kernel_rfl)) (fun _ _ _ h => h) (Or.inl ⟨by rfl, ?_⟩) ?_ ?_
             rotate_left; · intro w'; go_simp; with_reducible rfl
             rotate_left; · simp only [Act.put, P2_1, P2_2, P2_3, i64_w, i32_w]; rfl
             refine pure_ (i := 14) (N := some 29) (v := ?_) (a' := ?_) M2_14 rfl rfl (any_of HT_.out (by kernel_rfl)) (fun _ _ _ h => h) (Or.inl ⟨by rfl, ?_⟩) ?_ ?_
             rotate_left; · intro w'; go_simp; with_reducible rfl
             rotate_left; · simp only [Act.put, P2_1, P2_2, P2_3, i64_w, i32_w]; rfl
             refine take_ (i := 9) (N := some 24) (v := ?_) (a' := ?_) M2_15 rfl rfl (take_ofW HT_.out HW_.out (by kernel_rfl)) (fun _ _ _ h => h) (Or.inl ⟨by rfl, ?_⟩) hHeld ?_ ?_
             rotate_left; · rintro w' ⟨s0, s1, s2, s3, s4, s5⟩; go_simp; with_reducible rfl
             rotate_left; · simp only [Act.put, P2_1, P2_2, P2_3, i64_w, i32_w]; rfl
             refine take_ (i := 15) (N := some 30) (v := ?_) (a' := ?_) M2_16 rfl rfl (take_ofW HT_.out HW_.out (by kernel_rfl)) (fun _ _ _ h => h) (Or.inl ⟨by rfl, ?_⟩) hHeld ?_ ?_
             rotate_left; · rintro w' ⟨s0, s1, s2, s3, s4, s5⟩; go_simp; with_reducible rfl
             rotate_left; · simp only [Act.put, P2_1, P2_2, P2_3, i64_w, i32_w]; rfl
             refine pure_ (i := 16) (N := some 31) (v := ?_) (a' := ?_) M2_17 rfl rfl (any_of HT_.out (by kernel_rfl)) (fun _ _ _ h => h) (Or.inl ⟨by rfl, ?_⟩) ?_ ?_
             rotate_left; · intro w'; go_simp; with_reducible rfl
             rotate_left; · simp only [Act.put, P2_1, P2_2, P2_3, i64_w, i32_w]; rfl
             refine pure_ (i := 17) (N := some 32) (v := ?_) (a' := ?_) M2_18 rfl rfl (any_of HT_.out (by kernel_rfl)) (fun _ _ _ h => h) (Or.inl ⟨by rfl, ?_⟩) ?_ ?_
             rotate_left; · intro w'; go_simp; with_reducible rfl
             rotate_left; · simp only [Act.put, P2_1, P2_2, P2_3, i64_w, i32_w]; rfl
             refine pure_ (i := 18) (N := some 33) (v := ?_) (a' := ?_) M2_19 rfl rfl (any_of HT_.out (by kernel_rfl)) (fun _ _ _ h => h) (Or.inl ⟨by rfl, ?_⟩) ?_ ?_
             rotate_left; · intro w'; go_simp; with_reducible rfl
             rotate_left; · simp only [Act.put, P2_1, P2_2, P2_3, i64_w, i32_w]; rfl
             refine pure_ (i := 19) (N := some 34) (v := ?_) (a' := ?_) M2_20 rfl rfl (any_of HT_.out (by kernel_rfl)) (fun _ _ _ h => h) (Or.inl ⟨by rfl, ?_⟩) ?_ ?_
             rotate_left; · intro w'; go_simp; with_reducible rfl
             rotate_left; · simp only [Act.put, P2_1, P2_2, P2_3, i64_w, i32_w]; rfl
             refine pure_ (i := 20) (N := some 35) (v := ?_) (a' := ?_) M2_21 rfl rfl (any_of HT_.out (by kernel_rfl)) (fun _ _ _ h => h) (Or.inl ⟨by rfl, ?_⟩) ?_ ?_
             rotate_left; · intro w'; go_simp; with_reducible rfl
             rotate_left; · simp only [Act.put, P2_1, P2_2, P2_3, i64_w, i32_w]; rfl
             refine take_ (i := 21) (N := some 36) (v := ?_) (a' := ?_) M2_22 rfl rfl (take_ofW HT_.out HW_.out (by kernel_rfl)) (fun _ _ _ h => h) (Or.inl ⟨by rfl, ?_⟩) hHeld ?_ ?_
             rotate_left; · rintro w' ⟨s0, s1, s2, s3, s4, s5⟩; go_simp; with_reducible rfl
             rotate_left; · simp only [Act.put, P2_1, P2_2, P2_3, i64_w, i32_w]; rfl
             refine pure_ (i := 22) (N := some 37) (v := ?_) (a' := ?_) M2_23 rfl rfl (any_of HT_.out (by kernel_rfl)) (fun _ _ _ h => h) (Or.inl ⟨by rfl, ?_⟩) ?_ ?_
             rotate_left; · intro w'; go_simp; with_reducible rfl
             rotate_left; · simp only [Act.put, P2_1, P2_2, P2_3, i64_w, i32_w]; rfl
             refine pure_ (i := 23) (N := some 38) (v := ?_) (a' := ?_) M2_24 rfl rfl (any_of HT_.out (by kernel_rfl)) (fun _ _ _ h => h) (Or.inl ⟨by rfl, ?_⟩) ?_ ?_
             rotate_left; · intro w'; go_simp; with_reducible rfl
             rotate_left; · simp only [Act.put, P2_1, P2_2, P2_3, i64_w, i32_w]; rfl
             refine pure_ (i := 24) (N := some 39) (v := ?_) (a' := ?_) M2_25 rfl rfl (any_of HT_.out (by kernel_rfl)) (fun _ _ _ h => h) (Or.inl ⟨by rfl, ?_⟩) ?_ ?_
             rotate_left; · intro w'; go_simp; with_reducible rfl
             rotate_left; · simp only [Act.put, P2_1, P2_2, P2_3, i64_w, i32_w]; rfl
             refine pure_ (i := 25) (N := some 40) (v := ?_) (a' := ?_) M2_26 rfl rfl (any_of HT_.out (by kernel_rfl)) (fun _ _ _ h => h) (Or.inl ⟨by rfl, ?_⟩) ?_ ?_
             rotate_left; · intro w'; go_simp; with_reducible rfl
             rotate_left; · simp only [Act.put, P2_1, P2_2, P2_3, i64_w, i32_w]; rfl
             refine pure_ (i := 26) (N := some 41) (v := undef) (a' := ?_) M2_27 rfl rfl (any_of HT_.out (by kernel_rfl)) (fun _ _ _ h => h) (Or.inr ⟨by rfl, rfl⟩) ?_ ?_
             rotate_left; · simp only [Act.put, P2_1, P2_2, P2_3, i64_w, i32_w]; rfl
             refine pure_ (i := 27) (N := some 42) (v := undef) (a' := ?_) M2_28 rfl rfl (any_of HT_.out (by kernel_rfl)) (fun _ _ _ h => h) (Or.inr ⟨by rfl, rfl⟩) ?_ ?_
             rotate_left; · simp only [Act.put, P2_1, P2_2, P2_3, i64_w, i32_w]; rfl
             refine pure_ (i := 28) (N := some 43) (v := undef) (a' := ?_) M2_29 rfl rfl (any_of HT_.out (by kernel_rfl)) (fun _ _ _ h => h) (Or.inr ⟨by rfl, rfl⟩) ?_ ?_
             rotate_left; · simp only [Act.put, P2_1, P2_2, P2_3, i64_w, i32_w]; rfl
             refine pure_ (i := 29) (N := some 44) (v := undef) (a' := ?_) M2_30 rfl rfl (any_of HT_.out (by kernel_rfl)) (fun _ _ _ h => h) (Or.inr ⟨by rfl, rfl⟩) ?_ ?_
             rotate_left; · simp only [Act.put, P2_1, P2_2, P2_3, i64_w, i32_w]; rfl
             refine pure_ (i := 30) (N := some 45) (v := ?_) (a' := ?_) M2_31 rfl rfl (any_of HT_.out (by kernel_rfl)) (fun _ _ _ h => h) (Or.inl ⟨by rfl, ?_⟩) ?_ ?_
             rotate_left; · intro w'; go_simp; with_reducible rfl
             rotate_left; · simp only [Act.put, P2_1, P2_2, P2_3, i64_w, i32_w]; rfl
             refine pure_ (i := 31) (N := some 46) (v := ?_) (a' := ?_) M2_32 rfl rfl (any_of HT_.out (by kernel_rfl)) (fun _ _ _ h => h) (Or.inl ⟨by rfl, ?_⟩) ?_ ?_
             rotate_left; · intro w'; go_simp; with_reducible rfl
             rotate_left; · simp only [Act.put, P2_1, P2_2, P2_3, i64_w, i32_w]; rfl
             refine pure_ (i := 32) (N := some 47) (v := undef) (a' := ?_) M2_33 rfl rfl (any_of HT_.out (by kernel_rfl)) (fun _ _ _ h => h) (Or.inr ⟨by rfl, rfl⟩) ?_ ?_
             rotate_left; · simp only [Act.put, P2_1, P2_2, P2_3, i64_w, i32_w]; rfl
             refine pure_ (i := 33) (N := some 48) (v := undef) (a' := ?_) M2_34 rfl rfl (any_of HT_.out (by kernel_rfl)) (fun _ _ _ h => h) (Or.inr ⟨by rfl, rfl⟩) ?_ ?_
             rotate_left; · simp only [Act.put, P2_1, P2_2, P2_3, i64_w, i32_w]; rfl
             refine pure_ (i := 34) (N := some 49) (v := undef) (a' := ?_) M2_35 rfl rfl (any_of HT_.out (by kernel_rfl)) (fun _ _ _ h => h) (Or.inr ⟨by rfl, rfl⟩) ?_ ?_
             rotate_left; · simp only [Act.put, P2_1, P2_2, P2_3, i64_w, i32_w]; rfl
             refine pure_ (i := 35) (N := some 50) (v := undef) (a' := ?_) M2_36 rfl rfl (any_of HT_.out (by kernel_rfl)) (fun _ _ _ h => h) (Or.inr ⟨by rfl, rfl⟩) ?_ ?_
             rotate_left; · simp only [Act.put, P2_1, P2_2, P2_3, i64_w, i32_w]; rfl
             refine pure_ (i := 36) (N := some 51) (v := ?_) (a' := ?_) M2_37 rfl rfl (any_of HT_.out (by kernel_rfl)) (fun _ _ _ h => h) (Or.inl ⟨by rfl, ?_⟩) ?_ ?_
             rotate_left; · intro w'; go_simp; with_reducible rfl
             rotate_left; · simp only [Act.put, P2_1, P2_2, P2_3, i64_w, i32_w]; rfl
             refine done_ (done_of HT_.out (by kernel_rfl)) ?_
             try go_wp2
             go_ret
             exact ⟨by first | rfl | (simp [errW_none, errW_some] <;> rfl) | (simp only [← hji9]; first | rfl | (simp [errW_none, errW_some] <;> rfl)) | (simp [*, errW_none, errW_some] <;> rfl), by repeat (first | (with_reducible first | exact HB.out | apply below_alloc | apply pw_below_drewN | apply below_drew1 | refine below_set ?_ GE152.out) | exact HB.out)⟩
            ·
             rw [if_neg c17] at H
             have c17b0 : ((((rd_T36 l0 x10_1).f1).length : Int) == 0) = false := beq_eq_false_iff_ne.mpr c17
             have c17b1 : ((((rd_T36 l0 x10_1).f1).length : Int) != 0) = true := bne_iff_ne.mpr c17
             have c17b2 : ¬ (((rd_T36 l0 x10_1).f1) = []) := fun h_ => c17 (by rw [h_]; rfl)
             replace H := Option.bind_eq_some_iff.mp H
             obtain ⟨t155, A220, H⟩ := H
             replace H : (if t155 = true then ((impl_InRange.f ((rd_T36 l0 x10_1).f2) 0 1000000).bind fun t156 => (if t156 = true then (impl_AreSecrets.l0 k1 l0 l0 (l0.length : Int) (wrap64 (x10_1 + 1))) else (some false))) else (some false)) = some r := H
             have A22 := Aside0.mk A220
             clear A220
             by_cases c23 : t155 = true
             ·
              subst c23
              have H1 : ((impl_InRange.f ((rd_T36 l0 x10_1).f2) 0 1000000).bind fun t156 => (if t156 = true then (impl_AreSecrets.l0 k1 l0 l0 (l0.length : Int) (wrap64 (x10_1 + 1))) else (some false))) = some r := by rw [if_pos rfl] at H; exact H
              clear H
              have H := H1
              clear H1
              replace H := Option.bind_eq_some_iff.mp H
              obtain ⟨t156, A240, H⟩ := H
              replace H : (if t156 = true then (impl_AreSecrets.l0 k1 l0 l0 (l0.length : Int) (wrap64 (x10_1 + 1))) else (some false)) = some r := H
              have A24 := Aside0.mk A240
              clear A240
              by_cases c25 : t156 = true
              ·
               subst c25
               have H1 : (impl_AreSecrets.l0 k1 l0 l0 (l0.length : Int) (wrap64 (x10_1 + 1))) = some r := by rw [if_pos rfl] at H; exact H
               clear H
               have H := H1
               clear H1
               have H' := Aside0.mk H
               clear H
               have p151 : 0 ≤ (x10_1 : Int) := of_decide_eq_true (by first | (with_reducible assumption) | assumption)
               have q151 : x10_1 < (l0.length : Int) := of_decide_eq_true (by first | (with_reducible assumption) | assumption)
               obtain ⟨ad151, A151_1, c151_1, e151, hx151_0, hx151_1, hx151_2, hl151_1, hi151_1⟩ := at_T36 HR0.out x10_1 p151 q151
               cases e151
               replace hx151_0 := (HB.out.cell (World.block_lt_of_cell? w _ hx151_0)).trans hx151_0
               replace hx151_1 := (HB.out.cell (World.block_lt_of_cell? w _ hx151_1)).trans hx151_1
               replace hx151_2 := (HB.out.cell (World.block_lt_of_cell? w _ hx151_2)).trans hx151_2
               have HR151_1 := Aside0.mk hi151_1
               have HC151_1 := Aside0.mk hl151_1
               clear hi151_1 hl151_1
               replace p151 := eq_true p151
               replace q151 := eq_true q151
               try go_wp2_with (first | ((with_reducible refine gate_dst (N := 4) rfl ?_); (try (refine gate_guard (by rfl) ?_; dsimp only)); refine box_event ?hg (N := 4) ?hd (cs := #[.int .i64 0, .slice none 0 0, .int .i64 0]) (t := 36) ?hr ?_; (case hd => rfl); (case hg => rfl); (case hr => first | (go_simp; done) | (go_simp; rfl)); intro gb152 hg w26 hbox hb; have n0_ := Aside0.mk (below_step (by repeat (first | (with_reducible first | exact HB.out | apply below_alloc | apply pw_below_drewN | apply below_drew1) | exact HB.out)) hb); have n1_ := Aside0.mk (hbox); have n2_ := Aside0.mk ((by rw [hg]; exact (below_size (by repeat (first | (with_reducible first | exact HB.out | apply below_alloc | apply pw_below_drewN | apply below_drew1) | exact HB.out))) : w.heap.size ≤ gb152)); have n3_ := Aside0.mk ((by rw [hg]; exact (below_size (by repeat (first | (with_reducible first | exact HB.out | apply below_alloc | apply pw_below_drewN | apply below_drew1) | exact HB.out))) : w.heap.size ≤ gb152)); clear HB; have HB := n0_; have BK152 := n1_; have GW152 := n2_; have GE152 := n3_; clear n0_ n1_ n2_ n3_; clear hb hbox hg; have hcz27_0 : w26.cell? ⟨gb152, 0, none⟩ = some (.int .i64 0) := (blk_cell BK152.out 0).trans rfl; have hcz27_1 : w26.cell? ⟨gb152, 1, none⟩ = some (.slice none 0 0) := (blk_cell BK152.out 1).trans rfl; have hcz27_2 : w26.cell? ⟨gb152, 2, none⟩ = some (.int .i64 0) := (blk_cell BK152.out 2).trans rfl; have hfz27_0 := blk_frozen BK152.out 0; have hfz27_1 := blk_frozen BK152.out 1; have hfz27_2 := blk_frozen BK152.out 2))
               have n0_ : Aside0 ((((w26.setCell ⟨gb152, 0, none⟩ (.int .i64 ((rd_T36 l0 x10_1).f0))).setCell ⟨gb152, 1, none⟩ (.slice A151_1 ((rd_T36 l0 x10_1).f1).length c151_1)).setCell ⟨gb152, 2, none⟩ (.int .i64 ((rd_T36 l0 x10_1).f2))).heap[gb152]? = some (.cells #[.int .i64 ((rd_T36 l0 x10_1).f0), .slice A151_1 ((rd_T36 l0 x10_1).f1).length c151_1, .int .i64 ((rd_T36 l0 x10_1).f2)] 36 (0, 0))) := ⟨by (with_reducible repeat (first | refine blk_drewN ?_ _ | refine blk_drew ?_ | refine blk_alloc ?_ _)); refine blk_put (cs := #[.int .i64 ((rd_T36 l0 x10_1).f0), .slice A151_1 ((rd_T36 l0 x10_1).f1).length c151_1, .int .i64 0]) ?_ 2 _ rfl; (with_reducible repeat (first | refine blk_drewN ?_ _ | refine blk_drew ?_ | refine blk_alloc ?_ _)); refine blk_put (cs := #[.int .i64 ((rd_T36 l0 x10_1).f0), .slice none 0 0, .int .i64 0]) ?_ 1 _ rfl; (with_reducible repeat (first | refine blk_drewN ?_ _ | refine blk_drew ?_ | refine blk_alloc ?_ _)); refine blk_put (cs := #[.int .i64 0, .slice none 0 0, .int .i64 0]) ?_ 0 _ rfl; (with_reducible repeat (first | refine blk_drewN ?_ _ | refine blk_drew ?_ | refine blk_alloc ?_ _)); exact BK152.out⟩
               have n1_ : Aside0 (Below w.heap.size w (((w26.setCell ⟨gb152, 0, none⟩ (.int .i64 ((rd_T36 l0 x10_1).f0))).setCell ⟨gb152, 1, none⟩ (.slice A151_1 ((rd_T36 l0 x10_1).f1).length c151_1)).setCell ⟨gb152, 2, none⟩ (.int .i64 ((rd_T36 l0 x10_1).f2)))) := ⟨by repeat (first | (with_reducible first | exact HB.out | apply below_alloc | apply pw_below_drewN | apply below_drew1 | refine below_set ?_ GE152.out) | exact HB.out)⟩
               (try clear BK152)
               (try clear HB)
               generalize (((w26.setCell ⟨gb152, 0, none⟩ (.int .i64 ((rd_T36 l0 x10_1).f0))).setCell ⟨gb152, 1, none⟩ (.slice A151_1 ((rd_T36 l0 x10_1).f1).length c151_1)).setCell ⟨gb152, 2, none⟩ (.int .i64 ((rd_T36 l0 x10_1).f2))) = w28 at n0_ n1_ ⊢
               have BK152 := n0_
               have HB := n1_
               clear n0_ n1_
               have n0_ := Aside0.mk (blk_drew BK152.out)
               have n1_ := Aside0.mk (below_drew1 HB.out)
               clear BK152
               clear HB
               have BK152 := n0_
               have HB := n1_
               clear n0_ n1_
               have p154 : 0 ≤ ((ji9) : Int) := of_decide_eq_true (by first | (with_reducible assumption) | assumption)
               have q154 : (ji9) < (l0.length : Int) := of_decide_eq_true (by first | (with_reducible assumption) | assumption)
               obtain ⟨ad154, A154_1, c154_1, e154, hx154_0, hx154_1, hx154_2, hl154_1, hi154_1⟩ := at_T36 HR0.out (ji9) p154 q154
               have hw154_2 := hx154_2
               have hw154_1 := hx154_1
               have hw154_0 := hx154_0
               obtain rfl : ad151 = ad154 := (by injection e154)
               replace hx154_0 := (HB.out.cell (World.block_lt_of_cell? w _ hx154_0)).trans hx154_0
               replace hx154_1 := (HB.out.cell (World.block_lt_of_cell? w _ hx154_1)).trans hx154_1
               replace hx154_2 := (HB.out.cell (World.block_lt_of_cell? w _ hx154_2)).trans hx154_2
               have HR154_1 := Aside0.mk hi154_1
               have HC154_1 := Aside0.mk hl154_1
               clear hi154_1 hl154_1
               replace p154 := eq_true p154
               replace q154 := eq_true q154
               refine start_ (n := 37) (S := fun w' => w'.cell? ⟨gb152, 0, none⟩ = some (.int .i64 ((rd_T36 l0 x10_1).f0)) ∧ w'.cell? ⟨gb152, 1, none⟩ = some (.slice A151_1 ((rd_T36 l0 x10_1).f1).length c151_1) ∧ w'.cell? ⟨gb152, 2, none⟩ = some (.int .i64 ((rd_T36 l0 x10_1).f2)) ∧ w'.cell? (ad151.add (((ji9)).toNat * 3)) = some (.int .i64 ((rd_T36 l0 (ji9)).f0)) ∧ w'.cell? ⟨(ad151.add (((ji9)).toNat * 3)).block, (ad151.add (((ji9)).toNat * 3)).off + 1, none⟩ = some (.slice A154_1 ((rd_T36 l0 (ji9)).f1).length c154_1) ∧ w'.cell? ⟨(ad151.add (((ji9)).toNat * 3)).block, (ad151.add (((ji9)).toNat * 3)).off + 2, none⟩ = some (.int .i64 ((rd_T36 l0 (ji9)).f2))) (ds := []) M2_0 (by kernel_rfl) rfl rfl ⟨(blk_cell BK152.out 0).trans rfl, (blk_cell BK152.out 1).trans rfl, (blk_cell BK152.out 2).trans rfl, ((HB.out.cell (World.block_lt_of_cell? w _ hw154_0)).trans hw154_0), ((HB.out.cell (World.block_lt_of_cell? w _ hw154_1)).trans hw154_1), ((HB.out.cell (World.block_lt_of_cell? w _ hw154_2)).trans hw154_2)⟩ (fun hHeld => ?_); refine with_tabW impl_AreSecrets.tab6 impl_AreSecrets.bits6 (fun HT_ HW_ => ?_)
               generalize w28.drew = w29 at BK152 HB HR154_1 hx154_0 hx154_1 hx154_2 hHeld ⊢
               refine pure_ (i := 0) (N := some 15) (v := ?_) (a' := ?_) M2_1 rfl rfl (any_of HT_.out (by kernel_rfl)) (fun _ _ _ h => h) (Or.inl ⟨by rfl, ?_⟩) ?_ ?_
               rotate_left; · intro w'; go_simp; with_reducible rfl
               rotate_left; · simp only [Act.put, P2_1, P2_2, P2_3, i64_w, i32_w]; rfl
               refine take_ (i := 1) (N := some 16) (v := ?_) (a' := ?_) M2_2 rfl rfl (take_ofW HT_.out HW_.out (by kernel_rfl)) (fun _ _ _ h => h) (Or.inl ⟨by rfl, ?_⟩) hHeld ?_ ?_
               rotate_left; · rintro w' ⟨s0, s1, s2, s3, s4, s5⟩; go_simp; with_reducible rfl
               rotate_left; · simp only [Act.put, P2_1, P2_2, P2_3, i64_w, i32_w]; rfl
               refine one_ (i := 2) (N := some 17) M2_3 rfl rfl (one_of HT_.out (by kernel_rfl)) (by decide) (fun K hK => ?_)
               refine goes_ Try.func44 (by kernel_rfl) rfl #[.int .i64 ((rd_T36 l0 x10_1).f0), .int .i64 1, .int .i64 999] (by rfl) rfl rfl (by (try simp only [List.map_toArray, List.map_cons, List.map_nil]); first | done | rfl | (simp only [List.length_drop, List.length_take]; rfl)) ?_
               with_reducible refine (impl_InRange.calls ((rd_T36 l0 x10_1).f0) 1 999 true _ A6.out).mono ?_
               rintro e w' ⟨rfl, ⟨nd, rfl⟩⟩
               refine ⟨_, rfl, ?_⟩
               refine hK.out _ _ ⟨(blk_cell BK152.out 0).trans rfl, (blk_cell BK152.out 1).trans rfl, (blk_cell BK152.out 2).trans rfl, ((HB.out.cell (World.block_lt_of_cell? w _ hw154_0)).trans hw154_0), ((HB.out.cell (World.block_lt_of_cell? w _ hw154_1)).trans hw154_1), ((HB.out.cell (World.block_lt_of_cell? w _ hw154_2)).trans hw154_2)⟩ (fun hHeld => ?_)
               clear hK K
               refine norm_ (a' := ?_) ?_ ?_
               rotate_left
               ·
                show Act.put _ (some 17) _ = _
                simp only [Act.put, P2_1, P2_2, P2_3, i64_w, i32_w]
                rfl
               refine pure_ (i := 3) (N := some 18) (v := ?_) (a' := ?_) M2_4 rfl rfl (any_of HT_.out (by kernel_rfl)) (fun _ _ _ h => h) (Or.inl ⟨by rfl, ?_⟩) ?_ ?_
               rotate_left; · intro w'; go_simp; with_reducible rfl
               rotate_left; · simp only [Act.put, P2_1, P2_2, P2_3, i64_w, i32_w]; rfl
               refine pure_ (i := 4) (N := some 19) (v := ?_) (a' := ?_) M2_5 rfl rfl (any_of HT_.out (by kernel_rfl)) (fun _ _ _ h => h) (Or.inl ⟨by rfl, ?_⟩) ?_ ?_
               rotate_left; · intro w'; go_simp; with_reducible rfl
               rotate_left; · simp only [Act.put, P2_1, P2_2, P2_3, i64_w, i32_w]; rfl
               refine pure_ (i := 5) (N := some 20) (v := ?_) (a' := ?_) M2_6 rfl rfl (any_of HT_.out (by kernel_rfl)) (fun _ _ _ h => h) (Or.inl ⟨by rfl, ?_⟩) ?_ ?_
               rotate_left; · intro w'; go_simp; with_reducible rfl
               rotate_left; · simp only [Act.put, P2_1, P2_2, P2_3, i64_w, i32_w]; rfl
               refine pure_ (i := 6) (N := some 21) (v := ?_) (a' := ?_) M2_7 rfl rfl (any_of HT_.out (by kernel_rfl)) (fun _ _ _ h => h) (Or.inl ⟨by rfl, ?_⟩) ?_ ?_
               rotate_left; · intro w'; go_simp; with_reducible rfl
               rotate_left; · simp only [Act.put, P2_1, P2_2, P2_3, i64_w, i32_w]; rfl
               refine pure_ (i := 7) (N := some 22) (v := ?_) (a' := ?_) M2_8 rfl rfl (any_of HT_.out (by kernel_rfl)) (fun _ _ _ h => h) (Or.inl ⟨by rfl, ?_⟩) ?_ ?_
               rotate_left; · intro w'; go_simp; with_reducible rfl
               rotate_left; · simp only [Act.put, P2_1, P2_2, P2_3, i64_w, i32_w]; rfl
               refine pure_ (i := 8) (N := some 23) (v := ?_) (a' := ?_) M2_9 rfl rfl (any_of HT_.out (by kernel_rfl)) (fun _ _ _ h => h) (Or.inl ⟨by rfl, ?_⟩) ?_ ?_
               rotate_left; · intro w'; go_simp; with_reducible rfl
               rotate_left; · simp only [Act.put, P2_1, P2_2, P2_3, i64_w, i32_w]; rfl
               refine pure_ (i := 10) (N := some 25) (v := ?_) (a' := ?_) M2_10 rfl rfl (any_of HT_.out (by kernel_rfl)) (fun _ _ _ h => h) (Or.inl ⟨by rfl, ?_⟩) ?_ ?_
               rotate_left; · intro w'; go_simp; with_reducible rfl
               rotate_left; · simp only [Act.put, P2_1, P2_2, P2_3, i64_w, i32_w]; rfl
               refine pure_ (i := 11) (N := some 26) (v := ?_) (a' := ?_) M2_11 rfl rfl (any_of HT_.out (by kernel_rfl)) (fun _ _ _ h => h) (Or.inl ⟨by rfl, ?_⟩) ?_ ?_
               rotate_left; · intro w'; go_simp; with_reducible rfl
               rotate_left; · simp only [Act.put, P2_1, P2_2, P2_3, i64_w, i32_w]; rfl
               refine pure_ (i := 12) (N := some 27) (v := ?_) (a' := ?_) M2_12 rfl rfl (any_of HT_.out (by kernel_rfl)) (fun _ _ _ h => h) (Or.inl ⟨by rfl, ?_⟩) ?_ ?_
               rotate_left; · intro w'; go_simp; with_reducible rfl
               rotate_left; · simp only [Act.put, P2_1, P2_2, P2_3, i64_w, i32_w]; rfl
               refine pure_ (i := 13) (N := some 28) (v := ?_) (a' := ?_) M2_13 rfl rfl (any_of HT_.out (by kernel_rfl)) (fun _ _ _ h => h) (Or.inl ⟨by rfl, ?_⟩) ?_ ?_
               rotate_left; · intro w'; go_simp; with_reducible rfl
               rotate_left; · simp only [Act.put, P2_1, P2_2, P2_3, i64_w, i32_w]; rfl
               refine pure_ (i := 14) (N := some 29) (v := ?_) (a' := ?_) M2_14 rfl rfl (any_of HT_.out (by kernel_rfl)) (fun _ _ _ h => h) (Or.inl ⟨by rfl, ?_⟩) ?_ ?_
               rotate_left; · intro w'; go_simp; with_reducible rfl
               rotate_left; · simp only [Act.put, P2_1, P2_2, P2_3, i64_w, i32_w]; rfl
               refine take_ (i := 9) (N := some 24) (v := ?_) (a' := ?_) M2_15 rfl rfl (take_ofW HT_.out HW_.out (by kernel_rfl)) (fun _ _ _ h => h) (Or.inl ⟨by rfl, ?_⟩) hHeld ?_ ?_
               rotate_left; · rintro w' ⟨s0, s1, s2, s3, s4, s5⟩; go_simp; with_reducible rfl
               rotate_left; · simp only [Act.put, P2_1, P2_2, P2_3, i64_w, i32_w]; rfl
               refine take_ (i := 15) (N := some 30) (v := ?_) (a' := ?_) M2_16 rfl rfl (take_ofW HT_.out HW_.out (by kernel_rfl)) (fun _ _ _ h => h) (Or.inl ⟨by rfl, ?_⟩) hHeld ?_ ?_
               rotate_left; · rintro w' ⟨s0, s1, s2, s3, s4, s5⟩; go_simp; with_reducible rfl
               rotate_left; · simp only [Act.put, P2_1, P2_2, P2_3, i64_w, i32_w]; rfl
               refine pure_ (i := 16) (N := some 31) (v := ?_) (a' := ?_) M2_17 rfl rfl (any_of HT_.out (by kernel_rfl)) (fun _ _ _ h => h) (Or.inl ⟨by rfl, ?_⟩) ?_ ?_
               rotate_left; · intro w'; go_simp; with_reducible rfl
               rotate_left; · simp only [Act.put, P2_1, P2_2, P2_3, i64_w, i32_w]; rfl
               refine pure_ (i := 17) (N := some 32) (v := ?_) (a' := ?_) M2_18 rfl rfl (any_of HT_.out (by kernel_rfl)) (fun _ _ _ h => h) (Or.inl ⟨by rfl, ?_⟩) ?_ ?_
               rotate_left; · intro w'; go_simp; with_reducible rfl
               rotate_left; · simp only [Act.put, P2_1, P2_2, P2_3, i64_w, i32_w]; rfl
               refine pure_ (i := 18) (N := some 33) (v := ?_) (a' := ?_) M2_19 rfl rfl (any_of HT_.out (by kernel_rfl)) (fun _ _ _ h => h) (Or.inl ⟨by rfl, ?_⟩) ?_ ?_
               rotate_left; · intro w'; go_simp; with_reducible rfl
               rotate_left; · simp only [Act.put, P2_1, P2_2, P2_3, i64_w, i32_w]; rfl
               refine pure_ (i := 19) (N := some 34) (v := ?_) (a' := ?_) M2_20 rfl rfl (any_of HT_.out (by kernel_rfl)) (fun _ _ _ h => h) (Or.inl ⟨by rfl, ?_⟩) ?_ ?_
               rotate_left; · intro w'; go_simp; with_reducible rfl
               rotate_left; · simp only [Act.put, P2_1, P2_2, P2_3, i64_w, i32_w]; rfl
               refine pure_ (i := 20) (N := some 35) (v := ?_) (a' := ?_) M2_21 rfl rfl (any_of HT_.out (by kernel_rfl)) (fun _ _ _ h => h) (Or.inl ⟨by rfl, ?_⟩) ?_ ?_
               rotate_left; · intro w'; go_simp; with_reducible rfl
               rotate_left; · simp only [Act.put, P2_1, P2_2, P2_3, i64_w, i32_w]; rfl
               refine take_ (i := 21) (N := some 36) (v := ?_) (a' := ?_) M2_22 rfl rfl (take_ofW HT_.out HW_.out (by kernel_rfl)) (fun _ _ _ h => h) (Or.inl ⟨by rfl, ?_⟩) hHeld ?_ ?_
               rotate_left; · rintro w' ⟨s0, s1, s2, s3, s4, s5⟩; go_simp; with_reducible rfl
               rotate_left; · simp only [Act.put, P2_1, P2_2, P2_3, i64_w, i32_w]; rfl
               refine pure_ (i := 22) (N := some 37) (v := ?_) (a' := ?_) M2_23 rfl rfl (any_of HT_.out (by kernel_rfl)) (fun _ _ _ h => h) (Or.inl ⟨by rfl, ?_⟩) ?_ ?_
               rotate_left; · intro w'; go_simp; with_reducible rfl
               rotate_left; · simp only [Act.put, P2_1, P2_2, P2_3, i64_w, i32_w]; rfl
               refine pure_ (i := 23) (N := some 38) (v := ?_) (a' := ?_) M2_24 rfl rfl (any_of HT_.out (by kernel_rfl)) (fun _ _ _ h => h) (Or.inl ⟨by rfl, ?_⟩) ?_ ?_
               rotate_left; · intro w'; go_simp; with_reducible rfl
               rotate_left; · simp only [Act.put, P2_1, P2_2, P2_3, i64_w, i32_w]; rfl
               refine pure_ (i := 24) (N := some 39) (v := ?_) (a' := ?_) M2_25 rfl rfl (any_of HT_.out (by kernel_rfl)) (fun _ _ _ h => h) (Or.inl ⟨by rfl, ?_⟩) ?_ ?_
               rotate_left; · intro w'; go_simp; with_reducible rfl
               rotate_left; · simp only [Act.put, P2_1, P2_2, P2_3, i64_w, i32_w]; rfl
               refine pure_ (i := 25) (N := some 40) (v := ?_) (a' := ?_) M2_26 rfl rfl (any_of HT_.out (by kernel_rfl)) (fun _ _ _ h => h) (Or.inl ⟨by rfl, ?_⟩) ?_ ?_
               rotate_left; · intro w'; go_simp; with_reducible rfl
               rotate_left; · simp only [Act.put, P2_1, P2_2, P2_3, i64_w, i32_w]; rfl
               refine pure_ (i := 26) (N := some 41) (v := ?_) (a' := ?_) M2_27 rfl rfl (any_of HT_.out (by kernel_rfl)) (fun _ _ _ h => h) (Or.inl ⟨by rfl, ?_⟩) ?_ ?_
               rotate_left; · intro w'; go_simp; with_reducible rfl
               rotate_left; · simp only [Act.put, P2_1, P2_2, P2_3, i64_w, i32_w]; rfl
               refine take_ (i := 27) (N := some 42) (v := ?_) (a' := ?_) M2_28 rfl rfl (take_ofW HT_.out HW_.out (by kernel_rfl)) (fun _ _ _ h => h) (Or.inl ⟨by rfl, ?_⟩) hHeld ?_ ?_
               rotate_left; · rintro w' ⟨s0, s1, s2, s3, s4, s5⟩; go_simp; with_reducible rfl
               rotate_left; · simp only [Act.put, P2_1, P2_2, P2_3, i64_w, i32_w]; rfl
               refine one_ (i := 28) (N := some 43) M2_29 rfl rfl (one_of HT_.out (by kernel_rfl)) (by decide) (fun K hK => ?_)
               refine goes_ Try.func45 (by kernel_rfl) rfl #[.slice A151_1 ((rd_T36 l0 x10_1).f1).length c151_1] (by rfl) rfl rfl (by (try simp only [List.map_toArray, List.map_cons, List.map_nil]); first | done | rfl | (simp only [List.length_drop, List.length_take]; rfl)) ?_
               with_reducible refine (impl_AreMarks.calls k1 _ _ ((rd_T36 l0 x10_1).f1) true _ ?side1 ?side2 A22.out).mono ?_
               (case side1 => repeat (first | exact (Kd.C_below HR151_1.out (by repeat (first | (with_reducible first | exact HB.out | apply below_alloc | apply pw_below_drewN | apply below_drew1 | refine below_set ?_ GE152.out) | exact HB.out))) | (with_reducible refine Kd.C_alloc ?_ _) | (with_reducible refine Kd.C_drewN ?_ _) | (with_reducible refine Kd.C_drew ?_)))
               (case side2 => exact HC151_1.out)
               rintro e w30 ⟨rfl, hb⟩
               refine ⟨_, rfl, ?_⟩
               have n0_ := Aside0.mk (blk_below (g := gb152) (o := .cells #[.int .i64 ((rd_T36 l0 x10_1).f0), .slice A151_1 ((rd_T36 l0 x10_1).f1).length c151_1, .int .i64 ((rd_T36 l0 x10_1).f2)] 36 (0, 0)) (by (with_reducible repeat (first | refine blk_drewN ?_ _ | refine blk_drew ?_ | refine blk_alloc ?_ _)); exact BK152.out) hb)
               have n1_ := Aside0.mk (below_step (by repeat (first | (with_reducible first | exact HB.out | apply below_alloc | apply pw_below_drewN | apply below_drew1 | refine below_set ?_ GE152.out) | exact HB.out)) hb)
               clear BK152
               clear HB
               have BK152 := n0_
               have HB := n1_
               clear n0_ n1_
               (try clear hb)
               (try clear hb2)
               (try clear hk)
               (try clear hi)
               refine hK.out _ _ ⟨(blk_cell BK152.out 0).trans rfl, (blk_cell BK152.out 1).trans rfl, (blk_cell BK152.out 2).trans rfl, ((HB.out.cell (World.block_lt_of_cell? w _ hw154_0)).trans hw154_0), ((HB.out.cell (World.block_lt_of_cell? w _ hw154_1)).trans hw154_1), ((HB.out.cell (World.block_lt_of_cell? w _ hw154_2)).trans hw154_2)⟩ (fun hHeld => ?_)
               clear hK K
               refine norm_ (a' := ?_) ?_ ?_
               rotate_left
               ·
                show Act.put _ (some 43) _ = _
                simp only [Act.put, P2_1, P2_2, P2_3, i64_w, i32_w]
                rfl
               refine pure_ (i := 29) (N := some 44) (v := ?_) (a' := ?_) M2_30 rfl rfl (any_of HT_.out (by kernel_rfl)) (fun _ _ _ h => h) (Or.inl ⟨by rfl, ?_⟩) ?_ ?_
               rotate_left; · intro w'; go_simp; with_reducible rfl
               rotate_left; · simp only [Act.put, P2_1, P2_2, P2_3, i64_w, i32_w]; rfl
               refine pure_ (i := 30) (N := some 45) (v := ?_) (a' := ?_) M2_31 rfl rfl (any_of HT_.out (by kernel_rfl)) (fun _ _ _ h => h) (Or.inl ⟨by rfl, ?_⟩) ?_ ?_
               rotate_left; · intro w'; go_simp; with_reducible rfl
               rotate_left; · simp only [Act.put, P2_1, P2_2, P2_3, i64_w, i32_w]; rfl
               refine pure_ (i := 31) (N := some 46) (v := ?_) (a' := ?_) M2_32 rfl rfl (any_of HT_.out (by kernel_rfl)) (fun _ _ _ h => h) (Or.inl ⟨by rfl, ?_⟩) ?_ ?_
               rotate_left; · intro w'; go_simp; with_reducible rfl
               rotate_left; · simp only [Act.put, P2_1, P2_2, P2_3, i64_w, i32_w]; rfl
               refine pure_ (i := 32) (N := some 47) (v := ?_) (a' := ?_) M2_33 rfl rfl (any_of HT_.out (by kernel_rfl)) (fun _ _ _ h => h) (Or.inl ⟨by rfl, ?_⟩) ?_ ?_
               rotate_left; · intro w'; go_simp; with_reducible rfl
               rotate_left; · simp only [Act.put, P2_1, P2_2, P2_3, i64_w, i32_w]; rfl
               refine take_ (i := 33) (N := some 48) (v := ?_) (a' := ?_) M2_34 rfl rfl (take_ofW HT_.out HW_.out (by kernel_rfl)) (fun _ _ _ h => h) (Or.inl ⟨by rfl, ?_⟩) hHeld ?_ ?_
               rotate_left; · rintro w' ⟨s0, s1, s2, s3, s4, s5⟩; go_simp; with_reducible rfl
               rotate_left; · simp only [Act.put, P2_1, P2_2, P2_3, i64_w, i32_w]; rfl
               refine one_ (i := 34) (N := some 49) M2_35 rfl rfl (one_of HT_.out (by kernel_rfl)) (by decide) (fun K hK => ?_)
               refine goes_ Try.func44 (by kernel_rfl) rfl #[.int .i64 ((rd_T36 l0 x10_1).f2), .int .i64 0, .int .i64 1000000] (by rfl) rfl rfl (by (try simp only [List.map_toArray, List.map_cons, List.map_nil]); first | done | rfl | (simp only [List.length_drop, List.length_take]; rfl)) ?_
               with_reducible refine (impl_InRange.calls ((rd_T36 l0 x10_1).f2) 0 1000000 true _ A24.out).mono ?_
               rintro e w' ⟨rfl, ⟨nd, rfl⟩⟩
               refine ⟨_, rfl, ?_⟩
               refine hK.out _ _ ⟨(blk_cell BK152.out 0).trans rfl, (blk_cell BK152.out 1).trans rfl, (blk_cell BK152.out 2).trans rfl, ((HB.out.cell (World.block_lt_of_cell? w _ hw154_0)).trans hw154_0), ((HB.out.cell (World.block_lt_of_cell? w _ hw154_1)).trans hw154_1), ((HB.out.cell (World.block_lt_of_cell? w _ hw154_2)).trans hw154_2)⟩ (fun hHeld => ?_)
               clear hK K
               refine norm_ (a' := ?_) ?_ ?_
               rotate_left
               ·
                show Act.put _ (some 49) _ = _
                simp only [Act.put, P2_1, P2_2, P2_3, i64_w, i32_w]
                rfl
               refine pure_ (i := 35) (N := some 50) (v := ?_) (a' := ?_) M2_36 rfl rfl (any_of HT_.out (by kernel_rfl)) (fun _ _ _ h => h) (Or.inl ⟨by rfl, ?_⟩) ?_ ?_
               rotate_left; · intro w'; go_simp; with_reducible rfl
               rotate_left; · simp only [Act.put, P2_1, P2_2, P2_3, i64_w, i32_w]; rfl
               refine pure_ (i := 36) (N := some 51) (v := ?_) (a' := ?_) M2_37 rfl rfl (any_of HT_.out (by kernel_rfl)) (fun _ _ _ h => h) (Or.inl ⟨by rfl, ?_⟩) ?_ ?_
               rotate_left; · intro w'; go_simp; with_reducible rfl
               rotate_left; · simp only [Act.put, P2_1, P2_2, P2_3, i64_w, i32_w]; rfl
               refine done_ (done_of HT_.out (by kernel_rfl)) ?_
               try go_wp2
               go_roundg k1
               case measure => have := HK1.out; omega
               case rel => exact ⟨(wrap64 (x10_1 + 1)), (by first | rfl | (simp; done) | (simp [*]; done)), H', ⟨by have := HK1.out; omega⟩, ⟨by repeat (first | (with_reducible first | exact HB.out | apply below_alloc | apply pw_below_drewN | apply below_drew1 | refine below_set ?_ GE152.out) | exact HB.out)⟩⟩
              ·
               replace c25 := Bool.eq_false_iff.mpr c25
               subst c25
               have H1 : (some false) = some r := by rw [if_neg (show ¬ (false = true) by decide)] at H; exact H
               clear H
               have H := H1
               clear H1
               obtain rfl := Option.some.inj H
               have p151 : 0 ≤ (x10_1 : Int) := of_decide_eq_true (by first | (with_reducible assumption) | assumption)
               have q151 : x10_1 < (l0.length : Int) := of_decide_eq_true (by first | (with_reducible assumption) | assumption)
               obtain ⟨ad151, A151_1, c151_1, e151, hx151_0, hx151_1, hx151_2, hl151_1, hi151_1⟩ := at_T36 HR0.out x10_1 p151 q151
               cases e151
               replace hx151_0 := (HB.out.cell (World.block_lt_of_cell? w _ hx151_0)).trans hx151_0
               replace hx151_1 := (HB.out.cell (World.block_lt_of_cell? w _ hx151_1)).trans hx151_1
               replace hx151_2 := (HB.out.cell (World.block_lt_of_cell? w _ hx151_2)).trans hx151_2
               have HR151_1 := Aside0.mk hi151_1
               have HC151_1 := Aside0.mk hl151_1
               clear hi151_1 hl151_1
               replace p151 := eq_true p151
               replace q151 := eq_true q151
               try go_wp2_with (first | ((with_reducible refine gate_dst (N := 4) rfl ?_); (try (refine gate_guard (by rfl) ?_; dsimp only)); refine box_event ?hg (N := 4) ?hd (cs := #[.int .i64 0, .slice none 0 0, .int .i64 0]) (t := 36) ?hr ?_; (case hd => rfl); (case hg => rfl); (case hr => first | (go_simp; done) | (go_simp; rfl)); intro gb152 hg w31 hbox hb; have n0_ := Aside0.mk (below_step (by repeat (first | (with_reducible first | exact HB.out | apply below_alloc | apply pw_below_drewN | apply below_drew1) | exact HB.out)) hb); have n1_ := Aside0.mk (hbox); have n2_ := Aside0.mk ((by rw [hg]; exact (below_size (by repeat (first | (with_reducible first | exact HB.out | apply below_alloc | apply pw_below_drewN | apply below_drew1) | exact HB.out))) : w.heap.size ≤ gb152)); have n3_ := Aside0.mk ((by rw [hg]; exact (below_size (by repeat (first | (with_reducible first | exact HB.out | apply below_alloc | apply pw_below_drewN | apply below_drew1) | exact HB.out))) : w.heap.size ≤ gb152)); clear HB; have HB := n0_; have BK152 := n1_; have GW152 := n2_; have GE152 := n3_; clear n0_ n1_ n2_ n3_; clear hb hbox hg; have hcz32_0 : w31.cell? ⟨gb152, 0, none⟩ = some (.int .i64 0) := (blk_cell BK152.out 0).trans rfl; have hcz32_1 : w31.cell? ⟨gb152, 1, none⟩ = some (.slice none 0 0) := (blk_cell BK152.out 1).trans rfl; have hcz32_2 : w31.cell? ⟨gb152, 2, none⟩ = some (.int .i64 0) := (blk_cell BK152.out 2).trans rfl; have hfz32_0 := blk_frozen BK152.out 0; have hfz32_1 := blk_frozen BK152.out 1; have hfz32_2 := blk_frozen BK152.out 2))
               have n0_ : Aside0 ((((w31.setCell ⟨gb152, 0, none⟩ (.int .i64 ((rd_T36 l0 x10_1).f0))).setCell ⟨gb152, 1, none⟩ (.slice A151_1 ((rd_T36 l0 x10_1).f1).length c151_1)).setCell ⟨gb152, 2, none⟩ (.int .i64 ((rd_T36 l0 x10_1).f2))).heap[gb152]? = some (.cells #[.int .i64 ((rd_T36 l0 x10_1).f0), .slice A151_1 ((rd_T36 l0 x10_1).f1).length c151_1, .int .i64 ((rd_T36 l0 x10_1).f2)] 36 (0, 0))) := ⟨by (with_reducible repeat (first | refine blk_drewN ?_ _ | refine blk_drew ?_ | refine blk_alloc ?_ _)); refine blk_put (cs := #[.int .i64 ((rd_T36 l0 x10_1).f0), .slice A151_1 ((rd_T36 l0 x10_1).f1).length c151_1, .int .i64 0]) ?_ 2 _ rfl; (with_reducible repeat (first | refine blk_drewN ?_ _ | refine blk_drew ?_ | refine blk_alloc ?_ _)); refine blk_put (cs := #[.int .i64 ((rd_T36 l0 x10_1).f0), .slice none 0 0, .int .i64 0]) ?_ 1 _ rfl; (with_reducible repeat (first | refine blk_drewN ?_ _ | refine blk_drew ?_ | refine blk_alloc ?_ _)); refine blk_put (cs := #[.int .i64 0, .slice none 0 0, .int .i64 0]) ?_ 0 _ rfl; (with_reducible repeat (first | refine blk_drewN ?_ _ | refine blk_drew ?_ | refine blk_alloc ?_ _)); exact BK152.out⟩
               have n1_ : Aside0 (Below w.heap.size w (((w31.setCell ⟨gb152, 0, none⟩ (.int .i64 ((rd_T36 l0 x10_1).f0))).setCell ⟨gb152, 1, none⟩ (.slice A151_1 ((rd_T36 l0 x10_1).f1).length c151_1)).setCell ⟨gb152, 2, none⟩ (.int .i64 ((rd_T36 l0 x10_1).f2)))) := ⟨by repeat (first | (with_reducible first | exact HB.out | apply below_alloc | apply pw_below_drewN | apply below_drew1 | refine below_set ?_ GE152.out) | exact HB.out)⟩
               (try clear BK152)
               (try clear HB)
               generalize (((w31.setCell ⟨gb152, 0, none⟩ (.int .i64 ((rd_T36 l0 x10_1).f0))).setCell ⟨gb152, 1, none⟩ (.slice A151_1 ((rd_T36 l0 x10_1).f1).length c151_1)).setCell ⟨gb152, 2, none⟩ (.int .i64 ((rd_T36 l0 x10_1).f2))) = w33 at n0_ n1_ ⊢
               have BK152 := n0_
               have HB := n1_
               clear n0_ n1_
               have n0_ := Aside0.mk (blk_drew BK152.out)
               have n1_ := Aside0.mk (below_drew1 HB.out)
               clear BK152
               clear HB
               have BK152 := n0_
               have HB := n1_
               clear n0_ n1_
               have p154 : 0 ≤ ((ji9) : Int) := of_decide_eq_true (by first | (with_reducible assumption) | assumption)
               have q154 : (ji9) < (l0.length : Int) := of_decide_eq_true (by first | (with_reducible assumption) | assumption)
               obtain ⟨ad154, A154_1, c154_1, e154, hx154_0, hx154_1, hx154_2, hl154_1, hi154_1⟩ := at_T36 HR0.out (ji9) p154 q154
               have hw154_2 := hx154_2
               have hw154_1 := hx154_1
               have hw154_0 := hx154_0
               obtain rfl : ad151 = ad154 := (by injection e154)
               replace hx154_0 := (HB.out.cell (World.block_lt_of_cell? w _ hx154_0)).trans hx154_0
               replace hx154_1 := (HB.out.cell (World.block_lt_of_cell? w _ hx154_1)).trans hx154_1
               replace hx154_2 := (HB.out.cell (World.block_lt_of_cell? w _ hx154_2)).trans hx154_2
               have HR154_1 := Aside0.mk hi154_1
               have HC154_1 := Aside0.mk hl154_1
               clear hi154_1 hl154_1
               replace p154 := eq_true p154
               replace q154 := eq_true q154
               refine start_ (n := 37) (S := fun w' => w'.cell? ⟨gb152, 0, none⟩ = some (.int .i64 ((rd_T36 l0 x10_1).f0)) ∧ w'.cell? ⟨gb152, 1, none⟩ = some (.slice A151_1 ((rd_T36 l0 x10_1).f1).length c151_1) ∧ w'.cell? ⟨gb152, 2, none⟩ = some (.int .i64 ((rd_T36 l0 x10_1).f2)) ∧ w'.cell? (ad151.add (((ji9)).toNat * 3)) = some (.int .i64 ((rd_T36 l0 (ji9)).f0)) ∧ w'.cell? ⟨(ad151.add (((ji9)).toNat * 3)).block, (ad151.add (((ji9)).toNat * 3)).off + 1, none⟩ = some (.slice A154_1 ((rd_T36 l0 (ji9)).f1).length c154_1) ∧ w'.cell? ⟨(ad151.add (((ji9)).toNat * 3)).block, (ad151.add (((ji9)).toNat * 3)).off + 2, none⟩ = some (.int .i64 ((rd_T36 l0 (ji9)).f2))) (ds := []) M2_0 (by kernel_rfl) rfl rfl ⟨(blk_cell BK152.out 0).trans rfl, (blk_cell BK152.out 1).trans rfl, (blk_cell BK152.out 2).trans rfl, ((HB.out.cell (World.block_lt_of_cell? w _ hw154_0)).trans hw154_0), ((HB.out.cell (World.block_lt_of_cell? w _ hw154_1)).trans hw154_1), ((HB.out.cell (World.block_lt_of_cell? w _ hw154_2)).trans hw154_2)⟩ (fun hHeld => ?_); refine with_tabW impl_AreSecrets.tab6 impl_AreSecrets.bits6 (fun HT_ HW_ => ?_)
               generalize w33.drew = w34 at BK152 HB HR154_1 hx154_0 hx154_1 hx154_2 hHeld ⊢
               refine pure_ (i := 0) (N := some 15) (v := ?_) (a' := ?_) M2_1 rfl rfl (any_of HT_.out (by kernel_rfl)) (fun _ _ _ h => h) (Or.inl ⟨by rfl, ?_⟩) ?_ ?_
               rotate_left; · intro w'; go_simp; with_reducible rfl
               rotate_left; · simp only [Act.put, P2_1, P2_2, P2_3, i64_w, i32_w]; rfl
               refine take_ (i := 1) (N := some 16) (v := ?_) (a' := ?_) M2_2 rfl rfl (take_ofW HT_.out HW_.out (by kernel_rfl)) (fun _ _ _ h => h) (Or.inl ⟨by rfl, ?_⟩) hHeld ?_ ?_
               rotate_left; · rintro w' ⟨s0, s1, s2, s3, s4, s5⟩; go_simp; with_reducible rfl
               rotate_left; · simp only [Act.put, P2_1, P2_2, P2_3, i64_w, i32_w]; rfl
               refine one_ (i := 2) (N := some 17) M2_3 rfl rfl (one_of HT_.out (by kernel_rfl)) (by decide) (fun K hK => ?_)
               refine goes_ Try.func44 (by kernel_rfl) rfl #[.int .i64 ((rd_T36 l0 x10_1).f0), .int .i64 1, .int .i64 999] (by rfl) rfl rfl (by (try simp only [List.map_toArray, List.map_cons, List.map_nil]); first | done | rfl | (simp only [List.length_drop, List.length_take]; rfl)) ?_
               with_reducible refine (impl_InRange.calls ((rd_T36 l0 x10_1).f0) 1 999 true _ A6.out).mono ?_
               rintro e w' ⟨rfl, ⟨nd, rfl⟩⟩
               refine ⟨_, rfl, ?_⟩
               refine hK.out _ _ ⟨(blk_cell BK152.out 0).trans rfl, (blk_cell BK152.out 1).trans rfl, (blk_cell BK152.out 2).trans rfl, ((HB.out.cell (World.block_lt_of_cell? w _ hw154_0)).trans hw154_0), ((HB.out.cell (World.block_lt_of_cell? w _ hw154_1)).trans hw154_1), ((HB.out.cell (World.block_lt_of_cell? w _ hw154_2)).trans hw154_2)⟩ (fun hHeld => ?_)
               clear hK K
               refine norm_ (a' := ?_) ?_ ?_
               rotate_left
               ·
                show Act.put _ (some 17) _ = _
                simp only [Act.put, P2_1, P2_2, P2_3, i64_w, i32_w]
                rfl
               refine pure_ (i := 3) (N := some 18) (v := ?_) (a' := ?_) M2_4 rfl rfl (any_of HT_.out (by kernel_rfl)) (fun _ _ _ h => h) (Or.inl ⟨by rfl, ?_⟩) ?_ ?_
               rotate_left; · intro w'; go_simp; with_reducible rfl
               rotate_left; · simp only [Act.put, P2_1, P2_2, P2_3, i64_w, i32_w]; rfl
               refine pure_ (i := 4) (N := some 19) (v := ?_) (a' := ?_) M2_5 rfl rfl (any_of HT_.out (by kernel_rfl)) (fun _ _ _ h => h) (Or.inl ⟨by rfl, ?_⟩) ?_ ?_
               rotate_left; · intro w'; go_simp; with_reducible rfl
               rotate_left; · simp only [Act.put, P2_1, P2_2, P2_3, i64_w, i32_w]; rfl
               refine pure_ (i := 5) (N := some 20) (v := ?_) (a' := ?_) M2_6 rfl rfl (any_of HT_.out (by kernel_rfl)) (fun _ _ _ h => h) (Or.inl ⟨by rfl, ?_⟩) ?_ ?_
               rotate_left; · intro w'; go_simp; with_reducible rfl
               rotate_left; · simp only [Act.put, P2_1, P2_2, P2_3, i64_w, i32_w]; rfl
               refine pure_ (i := 6) (N := some 21) (v := ?_) (a' := ?_) M2_7 rfl rfl (any_of HT_.out (by kernel_rfl)) (fun _ _ _ h => h) (Or.inl ⟨by rfl, ?_⟩) ?_ ?_
               rotate_left; · intro w'; go_simp; with_reducible rfl
               rotate_left; · simp only [Act.put, P2_1, P2_2, P2_3, i64_w, i32_w]; rfl
               refine pure_ (i := 7) (N := some 22) (v := ?_) (a' := ?_) M2_8 rfl rfl (any_of HT_.out (by kernel_rfl)) (fun _ _ _ h => h) (Or.inl ⟨by rfl, ?_⟩) ?_ ?_
               rotate_left; · intro w'; go_simp; with_reducible rfl
               rotate_left; · simp only [Act.put, P2_1, P2_2, P2_3, i64_w, i32_w]; rfl
               refine pure_ (i := 8) (N := some 23) (v := ?_) (a' := ?_) M2_9 rfl rfl (any_of HT_.out (by kernel_rfl)) (fun _ _ _ h => h) (Or.inl ⟨by rfl, ?_⟩) ?_ ?_
               rotate_left; · intro w'; go_simp; with_reducible rfl
               rotate_left; · simp only [Act.put, P2_1, P2_2, P2_3, i64_w, i32_w]; rfl
               refine pure_ (i := 10) (N := some 25) (v := ?_) (a' := ?_) M2_10 rfl rfl (any_of HT_.out (by kernel_rfl)) (fun _ _ _ h => h) (Or.inl ⟨by rfl, ?_⟩) ?_ ?_
               rotate_left; · intro w'; go_simp; with_reducible rfl
               rotate_left; · simp only [Act.put, P2_1, P2_2, P2_3, i64_w, i32_w]; rfl
               refine pure_ (i := 11) (N := some 26) (v := ?_) (a' := ?_) M2_11 rfl rfl (any_of HT_.out (by kernel_rfl)) (fun _ _ _ h => h) (Or.inl ⟨by rfl, ?_⟩) ?_ ?_
               rotate_left; · intro w'; go_simp; with_reducible rfl
               rotate_left; · simp only [Act.put, P2_1, P2_2, P2_3, i64_w, i32_w]; rfl
               refine pure_ (i := 12) (N := some 27) (v := ?_) (a' := ?_) M2_12 rfl rfl (any_of HT_.out (by kernel_rfl)) (fun _ _ _ h => h) (Or.inl ⟨by rfl, ?_⟩) ?_ ?_
               rotate_left; · intro w'; go_simp; with_reducible rfl
               rotate_left; · simp only [Act.put, P2_1, P2_2, P2_3, i64_w, i32_w]; rfl
               refine pure_ (i := 13) (N := some 28) (v := ?_) (a' := ?_) M2_13 rfl rfl (any_of HT_.out (by kernel_rfl)) (fun _ _ _ h => h) (Or.inl ⟨by rfl, ?_⟩) ?_ ?_
               rotate_left; · intro w'; go_simp; with_reducible rfl
               rotate_left; · simp only [Act.put, P2_1, P2_2, P2_3, i64_w, i32_w]; rfl
               refine pure_ (i := 14) (N := some 29) (v := ?_) (a' := ?_) M2_14 rfl rfl (any_of HT_.out (by kernel_rfl)) (fun _ _ _ h => h) (Or.inl ⟨by rfl, ?_⟩) ?_ ?_
               rotate_left; · intro w'; go_simp; with_reducible rfl
               rotate_left; · simp only [Act.put, P2_1, P2_2, P2_3, i64_w, i32_w]; rfl
               refine take_ (i := 9) (N := some 24) (v := ?_) (a' := ?_) M2_15 rfl rfl (take_ofW HT_.out HW_.out (by kernel_rfl)) (fun _ _ _ h => h) (Or.inl ⟨by rfl, ?_⟩) hHeld ?_ ?_
               rotate_left; · rintro w' ⟨s0, s1, s2, s3, s4, s5⟩; go_simp; with_reducible rfl
               rotate_left; · simp only [Act.put, P2_1, P2_2, P2_3, i64_w, i32_w]; rfl
               refine take_ (i := 15) (N := some 30) (v := ?_) (a' := ?_) M2_16 rfl rfl (take_ofW HT_.out HW_.out (by kernel_rfl)) (fun _ _ _ h => h) (Or.inl ⟨by rfl, ?_⟩) hHeld ?_ ?_
               rotate_left; · rintro w' ⟨s0, s1, s2, s3, s4, s5⟩; go_simp; with_reducible rfl
               rotate_left; · simp only [Act.put, P2_1, P2_2, P2_3, i64_w, i32_w]; rfl
               refine pure_ (i := 16) (N := some 31) (v := ?_) (a' := ?_) M2_17 rfl rfl (any_of HT_.out (by kernel_rfl)) (fun _ _ _ h => h) (Or.inl ⟨by rfl, ?_⟩) ?_ ?_
               rotate_left; · intro w'; go_simp; with_reducible rfl
               rotate_left; · simp only [Act.put, P2_1, P2_2, P2_3, i64_w, i32_w]; rfl
               refine pure_ (i := 17) (N := some 32) (v := ?_) (a' := ?_) M2_18 rfl rfl (any_of HT_.out (by kernel_rfl)) (fun _ _ _ h => h) (Or.inl ⟨by rfl, ?_⟩) ?_ ?_
               rotate_left; · intro w'; go_simp; with_reducible rfl
               rotate_left; · simp only [Act.put, P2_1, P2_2, P2_3, i64_w, i32_w]; rfl
               refine pure_ (i := 18) (N := some 33) (v := ?_) (a' := ?_) M2_19 rfl rfl (any_of HT_.out (by kernel_rfl)) (fun _ _ _ h => h) (Or.inl ⟨by rfl, ?_⟩) ?_ ?_
               rotate_left; · intro w'; go_simp; with_reducible rfl
               rotate_left; · simp only [Act.put, P2_1, P2_2, P2_3, i64_w, i32_w]; rfl
               refine pure_ (i := 19) (N := some 34) (v := ?_) (a' := ?_) M2_20 rfl rfl (any_of HT_.out (by kernel_rfl)) (fun _ _ _ h => h) (Or.inl ⟨by rfl, ?_⟩) ?_ ?_
               rotate_left; · intro w'; go_simp; with_reducible rfl
               rotate_left; · simp only [Act.put, P2_1, P2_2, P2_3, i64_w, i32_w]; rfl
               refine pure_ (i := 20) (N := some 35) (v := ?_) (a' := ?_) M2_21 rfl rfl (any_of HT_.out (by kernel_rfl)) (fun _ _ _ h => h) (Or.inl ⟨by rfl, ?_⟩) ?_ ?_
               rotate_left; · intro w'; go_simp; with_reducible rfl
               rotate_left; · simp only [Act.put, P2_1, P2_2, P2_3, i64_w, i32_w]; rfl
               refine take_ (i := 21) (N := some 36) (v := ?_) (a' := ?_) M2_22 rfl rfl (take_ofW HT_.out HW_.out (by kernel_rfl)) (fun _ _ _ h => h) (Or.inl ⟨by rfl, ?_⟩) hHeld ?_ ?_
               rotate_left; · rintro w' ⟨s0, s1, s2, s3, s4, s5⟩; go_simp; with_reducible rfl
               rotate_left; · simp only [Act.put, P2_1, P2_2, P2_3, i64_w, i32_w]; rfl
               refine pure_ (i := 22) (N := some 37) (v := ?_) (a' := ?_) M2_23 rfl rfl (any_of HT_.out (by kernel_rfl)) (fun _ _ _ h => h) (Or.inl ⟨by rfl, ?_⟩) ?_ ?_
               rotate_left; · intro w'; go_simp; with_reducible rfl
               rotate_left; · simp only [Act.put, P2_1, P2_2, P2_3, i64_w, i32_w]; rfl
               refine pure_ (i := 23) (N := some 38) (v := ?_) (a' := ?_) M2_24 rfl rfl (any_of HT_.out (by kernel_rfl)) (fun _ _ _ h => h) (Or.inl ⟨by rfl, ?_⟩) ?_ ?_
               rotate_left; · intro w'; go_simp; with_reducible rfl
               rotate_left; · simp only [Act.put, P2_1, P2_2, P2_3, i64_w, i32_w]; rfl
               refine pure_ (i := 24) (N := some 39) (v := ?_) (a' := ?_) M2_25 rfl rfl (any_of HT_.out (by kernel_rfl)) (fun _ _ _ h => h) (Or.inl ⟨by rfl, ?_⟩) ?_ ?_
               rotate_left; · intro w'; go_simp; with_reducible rfl
               rotate_left; · simp only [Act.put, P2_1, P2_2, P2_3, i64_w, i32_w]; rfl
               refine pure_ (i := 25) (N := some 40) (v := ?_) (a' := ?_) M2_26 rfl rfl (any_of HT_.out (by kernel_rfl)) (fun _ _ _ h => h) (Or.inl ⟨by rfl, ?_⟩) ?_ ?_
               rotate_left; · intro w'; go_simp; with_reducible rfl
               rotate_left; · simp only [Act.put, P2_1, P2_2, P2_3, i64_w, i32_w]; rfl
               refine pure_ (i := 26) (N := some 41) (v := ?_) (a' := ?_) M2_27 rfl rfl (any_of HT_.out (by kernel_rfl)) (fun _ _ _ h => h) (Or.inl ⟨by rfl, ?_⟩) ?_ ?_
               rotate_left; · intro w'; go_simp; with_reducible rfl
               rotate_left; · simp only [Act.put, P2_1, P2_2, P2_3, i64_w, i32_w]; rfl
               refine take_ (i := 27) (N := some 42) (v := ?_) (a' := ?_) M2_28 rfl rfl (take_ofW HT_.out HW_.out (by kernel_rfl)) (fun _ _ _ h => h) (Or.inl ⟨by rfl, ?_⟩) hHeld ?_ ?_
               rotate_left; · rintro w' ⟨s0, s1, s2, s3, s4, s5⟩; go_simp; with_reducible rfl
               rotate_left; · simp only [Act.put, P2_1, P2_2, P2_3, i64_w, i32_w]; rfl
               refine one_ (i := 28) (N := some 43) M2_29 rfl rfl (one_of HT_.out (by kernel_rfl)) (by decide) (fun K hK => ?_)
               refine goes_ Try.func45 (by kernel_rfl) rfl #[.slice A151_1 ((rd_T36 l0 x10_1).f1).length c151_1] (by rfl) rfl rfl (by (try simp only [List.map_toArray, List.map_cons, List.map_nil]); first | done | rfl | (simp only [List.length_drop, List.length_take]; rfl)) ?_
               with_reducible refine (impl_AreMarks.calls k1 _ _ ((rd_T36 l0 x10_1).f1) true _ ?side1 ?side2 A22.out).mono ?_
               (case side1 => repeat (first | exact (Kd.C_below HR151_1.out (by repeat (first | (with_reducible first | exact HB.out | apply below_alloc | apply pw_below_drewN | apply below_drew1 | refine below_set ?_ GE152.out) | exact HB.out))) | (with_reducible refine Kd.C_alloc ?_ _) | (with_reducible refine Kd.C_drewN ?_ _) | (with_reducible refine Kd.C_drew ?_)))
               (case side2 => exact HC151_1.out)
               rintro e w35 ⟨rfl, hb⟩
               refine ⟨_, rfl, ?_⟩
               have n0_ := Aside0.mk (blk_below (g := gb152) (o := .cells #[.int .i64 ((rd_T36 l0 x10_1).f0), .slice A151_1 ((rd_T36 l0 x10_1).f1).length c151_1, .int .i64 ((rd_T36 l0 x10_1).f2)] 36 (0, 0)) (by (with_reducible repeat (first | refine blk_drewN ?_ _ | refine blk_drew ?_ | refine blk_alloc ?_ _)); exact BK152.out) hb)
               have n1_ := Aside0.mk (below_step (by repeat (first | (with_reducible first | exact HB.out | apply below_alloc | apply pw_below_drewN | apply below_drew1 | refine below_set ?_ GE152.out) | exact HB.out)) hb)
               clear BK152
               clear HB
               have BK152 := n0_
               have HB := n1_
               clear n0_ n1_
               (try clear hb)
               (try clear hb2)
               (try clear hk)
               (try clear hi)
               refine hK.out _ _ ⟨(blk_cell BK152.out 0).trans rfl, (blk_cell BK152.out 1).trans rfl, (blk_cell BK152.out 2).trans rfl, ((HB.out.cell (World.block_lt_of_cell? w _ hw154_0)).trans hw154_0), ((HB.out.cell (World.block_lt_of_cell? w _ hw154_1)).trans hw154_1), ((HB.out.cell (World.block_lt_of_cell? w _ hw154_2)).trans hw154_2)⟩ (fun hHeld => ?_)
               clear hK K
               refine norm_ (a' := ?_) ?_ ?_
               rotate_left
               ·
                show Act.put _ (some 43) _ = _
                simp only [Act.put, P2_1, P2_2, P2_3, i64_w, i32_w]
                rfl
               refine pure_ (i := 29) (N := some 44) (v := ?_) (a' := ?_) M2_30 rfl rfl (any_of HT_.out (by kernel_rfl)) (fun _ _ _ h => h) (Or.inl ⟨by rfl, ?_⟩) ?_ ?_
               rotate_left; · intro w'; go_simp; with_reducible rfl
               rotate_left; · simp only [Act.put, P2_1, P2_2, P2_3, i64_w, i32_w]; rfl
               refine pure_ (i := 30) (N := some 45) (v := ?_) (a' := ?_) M2_31 rfl rfl (any_of HT_.out (by kernel_rfl)) (fun _ _ _ h => h) (Or.inl ⟨by rfl, ?_⟩) ?_ ?_
               rotate_left; · intro w'; go_simp; with_reducible rfl
               rotate_left; · simp only [Act.put, P2_1, P2_2, P2_3, i64_w, i32_w]; rfl
               refine pure_ (i := 31) (N := some 46) (v := ?_) (a' := ?_) M2_32 rfl rfl (any_of HT_.out (by kernel_rfl)) (fun _ _ _ h => h) (Or.inl ⟨by rfl, ?_⟩) ?_ ?_
               rotate_left; · intro w'; go_simp; with_reducible rfl
               rotate_left; · simp only [Act.put, P2_1, P2_2, P2_3, i64_w, i32_w]; rfl
               refine pure_ (i := 32) (N := some 47) (v := ?_) (a' := ?_) M2_33 rfl rfl (any_of HT_.out (by kernel_rfl)) (fun _ _ _ h => h) (Or.inl ⟨by rfl, ?_⟩) ?_ ?_
               rotate_left; · intro w'; go_simp; with_reducible rfl
               rotate_left; · simp only [Act.put, P2_1, P2_2, P2_3, i64_w, i32_w]; rfl
               refine take_ (i := 33) (N := some 48) (v := ?_) (a' := ?_) M2_34 rfl rfl (take_ofW HT_.out HW_.out (by kernel_rfl)) (fun _ _ _ h => h) (Or.inl ⟨by rfl, ?_⟩) hHeld ?_ ?_
               rotate_left; · rintro w' ⟨s0, s1, s2, s3, s4, s5⟩; go_simp; with_reducible rfl
               rotate_left; · simp only [Act.put, P2_1, P2_2, P2_3, i64_w, i32_w]; rfl
               refine one_ (i := 34) (N := some 49) M2_35 rfl rfl (one_of HT_.out (by kernel_rfl)) (by decide) (fun K hK => ?_)
               refine goes_ Try.func44 (by kernel_rfl) rfl #[.int .i64 ((rd_T36 l0 x10_1).f2), .int .i64 0, .int .i64 1000000] (by rfl) rfl rfl (by (try simp only [List.map_toArray, List.map_cons, List.map_nil]); first | done | rfl | (simp only [List.length_drop, List.length_take]; rfl)) ?_
               with_reducible refine (impl_InRange.calls ((rd_T36 l0 x10_1).f2) 0 1000000 false _ A24.out).mono ?_
               rintro e w' ⟨rfl, ⟨nd, rfl⟩⟩
               refine ⟨_, rfl, ?_⟩
               refine hK.out _ _ ⟨(blk_cell BK152.out 0).trans rfl, (blk_cell BK152.out 1).trans rfl, (blk_cell BK152.out 2).trans rfl, ((HB.out.cell (World.block_lt_of_cell? w _ hw154_0)).trans hw154_0), ((HB.out.cell (World.block_lt_of_cell? w _ hw154_1)).trans hw154_1), ((HB.out.cell (World.block_lt_of_cell? w _ hw154_2)).trans hw154_2)⟩ (fun hHeld => ?_)
               clear hK K
               refine norm_ (a' := ?_) ?_ ?_
               rotate_left
               ·
                show Act.put _ (some 49) _ = _
                simp only [Act.put, P2_1, P2_2, P2_3, i64_w, i32_w]
                rfl
               refine pure_ (i := 35) (N := some 50) (v := ?_) (a' := ?_) M2_36 rfl rfl (any_of HT_.out (by kernel_rfl)) (fun _ _ _ h => h) (Or.inl ⟨by rfl, ?_⟩) ?_ ?_
               rotate_left; · intro w'; go_simp; with_reducible rfl
               rotate_left; · simp only [Act.put, P2_1, P2_2, P2_3, i64_w, i32_w]; rfl
               refine pure_ (i := 36) (N := some 51) (v := ?_) (a' := ?_) M2_37 rfl rfl (any_of HT_.out (by kernel_rfl)) (fun _ _ _ h => h) (Or.inl ⟨by rfl, ?_⟩) ?_ ?_
               rotate_left; · intro w'; go_simp; with_reducible rfl
               rotate_left; · simp only [Act.put, P2_1, P2_2, P2_3, i64_w, i32_w]; rfl
               refine done_ (done_of HT_.out (by kernel_rfl)) ?_
               try go_wp2
               go_ret
               exact ⟨by first | rfl | (simp [errW_none, errW_some] <;> rfl) | (simp only [← hji9]; first | rfl | (simp [errW_none, errW_some] <;> rfl)) | (simp [*, errW_none, errW_some] <;> rfl), by repeat (first | (with_reducible first | exact HB.out | apply below_alloc | apply pw_below_drewN | apply below_drew1 | refine below_set ?_ GE152.out) | exact HB.out)⟩
             ·
              replace c23 := Bool.eq_false_iff.mpr c23
              subst c23
              have H1 : (some false) = some r := by rw [if_neg (show ¬ (false = true) by decide)] at H; exact H
              clear H
              have H := H1
              clear H1
              obtain rfl := Option.some.inj H
              have p151 : 0 ≤ (x10_1 : Int) := of_decide_eq_true (by first | (with_reducible assumption) | assumption)
              have q151 : x10_1 < (l0.length : Int) := of_decide_eq_true (by first | (with_reducible assumption) | assumption)
              obtain ⟨ad151, A151_1, c151_1, e151, hx151_0, hx151_1, hx151_2, hl151_1, hi151_1⟩ := at_T36 HR0.out x10_1 p151 q151
              cases e151
              replace hx151_0 := (HB.out.cell (World.block_lt_of_cell? w _ hx151_0)).trans hx151_0
              replace hx151_1 := (HB.out.cell (World.block_lt_of_cell? w _ hx151_1)).trans hx151_1
              replace hx151_2 := (HB.out.cell (World.block_lt_of_cell? w _ hx151_2)).trans hx151_2
              have HR151_1 := Aside0.mk hi151_1
              have HC151_1 := Aside0.mk hl151_1
              clear hi151_1 hl151_1
              replace p151 := eq_true p151
              replace q151 := eq_true q151
              try go_wp2_with (first | ((with_reducible refine gate_dst (N := 4) rfl ?_); (try (refine gate_guard (by rfl) ?_; dsimp only)); refine box_event ?hg (N := 4) ?hd (cs := #[.int .i64 0, .slice none 0 0, .int .i64 0]) (t := 36) ?hr ?_; (case hd => rfl); (case hg => rfl); (case hr => first | (go_simp; done) | (go_simp; rfl)); intro gb152 hg w36 hbox hb; have n0_ := Aside0.mk (below_step (by repeat (first | (with_reducible first | exact HB.out | apply below_alloc | apply pw_below_drewN | apply below_drew1) | exact HB.out)) hb); have n1_ := Aside0.mk (hbox); have n2_ := Aside0.mk ((by rw [hg]; exact (below_size (by repeat (first | (with_reducible first | exact HB.out | apply below_alloc | apply pw_below_drewN | apply below_drew1) | exact HB.out))) : w.heap.size ≤ gb152)); have n3_ := Aside0.mk ((by rw [hg]; exact (below_size (by repeat (first | (with_reducible first | exact HB.out | apply below_alloc | apply pw_below_drewN | apply below_drew1) | exact HB.out))) : w.heap.size ≤ gb152)); clear HB; have HB := n0_; have BK152 := n1_; have GW152 := n2_; have GE152 := n3_; clear n0_ n1_ n2_ n3_; clear hb hbox hg; have hcz37_0 : w36.cell? ⟨gb152, 0, none⟩ = some (.int .i64 0) := (blk_cell BK152.out 0).trans rfl; have hcz37_1 : w36.cell? ⟨gb152, 1, none⟩ = some (.slice none 0 0) := (blk_cell BK152.out 1).trans rfl; have hcz37_2 : w36.cell? ⟨gb152, 2, none⟩ = some (.int .i64 0) := (blk_cell BK152.out 2).trans rfl; have hfz37_0 := blk_frozen BK152.out 0; have hfz37_1 := blk_frozen BK152.out 1; have hfz37_2 := blk_frozen BK152.out 2))
              have n0_ : Aside0 ((((w36.setCell ⟨gb152, 0, none⟩ (.int .i64 ((rd_T36 l0 x10_1).f0))).setCell ⟨gb152, 1, none⟩ (.slice A151_1 ((rd_T36 l0 x10_1).f1).length c151_1)).setCell ⟨gb152, 2, none⟩ (.int .i64 ((rd_T36 l0 x10_1).f2))).heap[gb152]? = some (.cells #[.int .i64 ((rd_T36 l0 x10_1).f0), .slice A151_1 ((rd_T36 l0 x10_1).f1).length c151_1, .int .i64 ((rd_T36 l0 x10_1).f2)] 36 (0, 0))) := ⟨by (with_reducible repeat (first | refine blk_drewN ?_ _ | refine blk_drew ?_ | refine blk_alloc ?_ _)); refine blk_put (cs := #[.int .i64 ((rd_T36 l0 x10_1).f0), .slice A151_1 ((rd_T36 l0 x10_1).f1).length c151_1, .int .i64 0]) ?_ 2 _ rfl; (with_reducible repeat (first | refine blk_drewN ?_ _ | refine blk_drew ?_ | refine blk_alloc ?_ _)); refine blk_put (cs := #[.int .i64 ((rd_T36 l0 x10_1).f0), .slice none 0 0, .int .i64 0]) ?_ 1 _ rfl; (with_reducible repeat (first | refine blk_drewN ?_ _ | refine blk_drew ?_ | refine blk_alloc ?_ _)); refine blk_put (cs := #[.int .i64 0, .slice none 0 0, .int .i64 0]) ?_ 0 _ rfl; (with_reducible repeat (first | refine blk_drewN ?_ _ | refine blk_drew ?_ | refine blk_alloc ?_ _)); exact BK152.out⟩
              have n1_ : Aside0 (Below w.heap.size w (((w36.setCell ⟨gb152, 0, none⟩ (.int .i64 ((rd_T36 l0 x10_1).f0))).setCell ⟨gb152, 1, none⟩ (.slice A151_1 ((rd_T36 l0 x10_1).f1).length c151_1)).setCell ⟨gb152, 2, none⟩ (.int .i64 ((rd_T36 l0 x10_1).f2)))) := ⟨by repeat (first | (with_reducible first | exact HB.out | apply below_alloc | apply pw_below_drewN | apply below_drew1 | refine below_set ?_ GE152.out) | exact HB.out)⟩
              (try clear BK152)
              (try clear HB)
              generalize (((w36.setCell ⟨gb152, 0, none⟩ (.int .i64 ((rd_T36 l0 x10_1).f0))).setCell ⟨gb152, 1, none⟩ (.slice A151_1 ((rd_T36 l0 x10_1).f1).length c151_1)).setCell ⟨gb152, 2, none⟩ (.int .i64 ((rd_T36 l0 x10_1).f2))) = w38 at n0_ n1_ ⊢
              have BK152 := n0_
              have HB := n1_
              clear n0_ n1_
              have n0_ := Aside0.mk (blk_drew BK152.out)
              have n1_ := Aside0.mk (below_drew1 HB.out)
              clear BK152
              clear HB
              have BK152 := n0_
              have HB := n1_
              clear n0_ n1_
              have p154 : 0 ≤ ((ji9) : Int) := of_decide_eq_true (by first | (with_reducible assumption) | assumption)
              have q154 : (ji9) < (l0.length : Int) := of_decide_eq_true (by first | (with_reducible assumption) | assumption)
              obtain ⟨ad154, A154_1, c154_1, e154, hx154_0, hx154_1, hx154_2, hl154_1, hi154_1⟩ := at_T36 HR0.out (ji9) p154 q154
              have hw154_2 := hx154_2
              have hw154_1 := hx154_1
              have hw154_0 := hx154_0
              obtain rfl : ad151 = ad154 := (by injection e154)
              replace hx154_0 := (HB.out.cell (World.block_lt_of_cell? w _ hx154_0)).trans hx154_0
              replace hx154_1 := (HB.out.cell (World.block_lt_of_cell? w _ hx154_1)).trans hx154_1
              replace hx154_2 := (HB.out.cell (World.block_lt_of_cell? w _ hx154_2)).trans hx154_2
              have HR154_1 := Aside0.mk hi154_1
              have HC154_1 := Aside0.mk hl154_1
              clear hi154_1 hl154_1
              replace p154 := eq_true p154
              replace q154 := eq_true q154
              refine start_ (n := 37) (S := fun w' => w'.cell? ⟨gb152, 0, none⟩ = some (.int .i64 ((rd_T36 l0 x10_1).f0)) ∧ w'.cell? ⟨gb152, 1, none⟩ = some (.slice A151_1 ((rd_T36 l0 x10_1).f1).length c151_1) ∧ w'.cell? ⟨gb152, 2, none⟩ = some (.int .i64 ((rd_T36 l0 x10_1).f2)) ∧ w'.cell? (ad151.add (((ji9)).toNat * 3)) = some (.int .i64 ((rd_T36 l0 (ji9)).f0)) ∧ w'.cell? ⟨(ad151.add (((ji9)).toNat * 3)).block, (ad151.add (((ji9)).toNat * 3)).off + 1, none⟩ = some (.slice A154_1 ((rd_T36 l0 (ji9)).f1).length c154_1) ∧ w'.cell? ⟨(ad151.add (((ji9)).toNat * 3)).block, (ad151.add (((ji9)).toNat * 3)).off + 2, none⟩ = some (.int .i64 ((rd_T36 l0 (ji9)).f2))) (ds := []) M2_0 (by kernel_rfl) rfl rfl ⟨(blk_cell BK152.out 0).trans rfl, (blk_cell BK152.out 1).trans rfl, (blk_cell BK152.out 2).trans rfl, ((HB.out.cell (World.block_lt_of_cell? w _ hw154_0)).trans hw154_0), ((HB.out.cell (World.block_lt_of_cell? w _ hw154_1)).trans hw154_1), ((HB.out.cell (World.block_lt_of_cell? w _ hw154_2)).trans hw154_2)⟩ (fun hHeld => ?_); refine with_tabW impl_AreSecrets.tab6 impl_AreSecrets.bits6 (fun HT_ HW_ => ?_)
              generalize w38.drew = w39 at BK152 HB HR154_1 hx154_0 hx154_1 hx154_2 hHeld ⊢
              refine pure_ (i := 0) (N := some 15) (v := ?_) (a' := ?_) M2_1 rfl rfl (any_of HT_.out (by kernel_rfl)) (fun _ _ _ h => h) (Or.inl ⟨by rfl, ?_⟩) ?_ ?_
              rotate_left; · intro w'; go_simp; with_reducible rfl
              rotate_left; · simp only [Act.put, P2_1, P2_2, P2_3, i64_w, i32_w]; rfl
              refine take_ (i := 1) (N := some 16) (v := ?_) (a' := ?_) M2_2 rfl rfl (take_ofW HT_.out HW_.out (by kernel_rfl)) (fun _ _ _ h => h) (Or.inl ⟨by rfl, ?_⟩) hHeld ?_ ?_
              rotate_left; · rintro w' ⟨s0, s1, s2, s3, s4, s5⟩; go_simp; with_reducible rfl
              rotate_left; · simp only [Act.put, P2_1, P2_2, P2_3, i64_w, i32_w]; rfl
              refine one_ (i := 2) (N := some 17) M2_3 rfl rfl (one_of HT_.out (by kernel_rfl)) (by decide) (fun K hK => ?_)
              refine goes_ Try.func44 (by kernel_rfl) rfl #[.int .i64 ((rd_T36 l0 x10_1).f0), .int .i64 1, .int .i64 999] (by rfl) rfl rfl (by (try simp only [List.map_toArray, List.map_cons, List.map_nil]); first | done | rfl | (simp only [List.length_drop, List.length_take]; rfl)) ?_
              with_reducible refine (impl_InRange.calls ((rd_T36 l0 x10_1).f0) 1 999 true _ A6.out).mono ?_
              rintro e w' ⟨rfl, ⟨nd, rfl⟩⟩
              refine ⟨_, rfl, ?_⟩
              refine hK.out _ _ ⟨(blk_cell BK152.out 0).trans rfl, (blk_cell BK152.out 1).trans rfl, (blk_cell BK152.out 2).trans rfl, ((HB.out.cell (World.block_lt_of_cell? w _ hw154_0)).trans hw154_0), ((HB.out.cell (World.block_lt_of_cell? w _ hw154_1)).trans hw154_1), ((HB.out.cell (World.block_lt_of_cell? w _ hw154_2)).trans hw154_2)⟩ (fun hHeld => ?_)
              clear hK K
              refine norm_ (a' := ?_) ?_ ?_
              rotate_left
              ·
               show Act.put _ (some 17) _ = _
               simp only [Act.put, P2_1, P2_2, P2_3, i64_w, i32_w]
               rfl
              refine pure_ (i := 3) (N := some 18) (v := ?_) (a' := ?_) M2_4 rfl rfl (any_of HT_.out (by kernel_rfl)) (fun _ _ _ h => h) (Or.inl ⟨by rfl, ?_⟩) ?_ ?_
              rotate_left; · intro w'; go_simp; with_reducible rfl
              rotate_left; · simp only [Act.put, P2_1, P2_2, P2_3, i64_w, i32_w]; rfl
              refine pure_ (i := 4) (N := some 19) (v := ?_) (a' := ?_) M2_5 rfl rfl (any_of HT_.out (by kernel_rfl)) (fun _ _ _ h => h) (Or.inl ⟨by rfl, ?_⟩) ?_ ?_
              rotate_left; · intro w'; go_simp; with_reducible rfl
              rotate_left; · simp only [Act.put, P2_1, P2_2, P2_3, i64_w, i32_w]; rfl
              refine pure_ (i := 5) (N := some 20) (v := ?_) (a' := ?_) M2_6 rfl rfl (any_of HT_.out (by kernel_rfl)) (fun _ _ _ h => h) (Or.inl ⟨by rfl, ?_⟩) ?_ ?_
              rotate_left; · intro w'; go_simp; with_reducible rfl
              rotate_left; · simp only [Act.put, P2_1, P2_2, P2_3, i64_w, i32_w]; rfl
              refine pure_ (i := 6) (N := some 21) (v := ?_) (a' := ?_) M2_7 rfl rfl (any_of HT_.out (by kernel_rfl)) (fun _ _ _ h => h) (Or.inl ⟨by rfl, ?_⟩) ?_ ?_
              rotate_left; · intro w'; go_simp; with_reducible rfl
              rotate_left; · simp only [Act.put, P2_1, P2_2, P2_3, i64_w, i32_w]; rfl
              refine pure_ (i := 7) (N := some 22) (v := ?_) (a' := ?_) M2_8 rfl rfl (any_of HT_.out (by kernel_rfl)) (fun _ _ _ h => h) (Or.inl ⟨by rfl, ?_⟩) ?_ ?_
              rotate_left; · intro w'; go_simp; with_reducible rfl
              rotate_left; · simp only [Act.put, P2_1, P2_2, P2_3, i64_w, i32_w]; rfl
              refine pure_ (i := 8) (N := some 23) (v := ?_) (a' := ?_) M2_9 rfl rfl (any_of HT_.out (by kernel_rfl)) (fun _ _ _ h => h) (Or.inl ⟨by rfl, ?_⟩) ?_ ?_
              rotate_left; · intro w'; go_simp; with_reducible rfl
              rotate_left; · simp only [Act.put, P2_1, P2_2, P2_3, i64_w, i32_w]; rfl
              refine pure_ (i := 10) (N := some 25) (v := ?_) (a' := ?_) M2_10 rfl rfl (any_of HT_.out (by kernel_rfl)) (fun _ _ _ h => h) (Or.inl ⟨by rfl, ?_⟩) ?_ ?_
              rotate_left; · intro w'; go_simp; with_reducible rfl
              rotate_left; · simp only [Act.put, P2_1, P2_2, P2_3, i64_w, i32_w]; rfl
              refine pure_ (i := 11) (N := some 26) (v := ?_) (a' := ?_) M2_11 rfl rfl (any_of HT_.out (by kernel_rfl)) (fun _ _ _ h => h) (Or.inl ⟨by rfl, ?_⟩) ?_ ?_
              rotate_left; · intro w'; go_simp; with_reducible rfl
              rotate_left; · simp only [Act.put, P2_1, P2_2, P2_3, i64_w, i32_w]; rfl
              refine pure_ (i := 12) (N := some 27) (v := ?_) (a' := ?_) M2_12 rfl rfl (any_of HT_.out (by kernel_rfl)) (fun _ _ _ h => h) (Or.inl ⟨by rfl, ?_⟩) ?_ ?_
              rotate_left; · intro w'; go_simp; with_reducible rfl
              rotate_left; · simp only [Act.put, P2_1, P2_2, P2_3, i64_w, i32_w]; rfl
              refine pure_ (i := 13) (N := some 28) (v := ?_) (a' := ?_) M2_13 rfl rfl (any_of HT_.out (by kernel_rfl)) (fun _ _ _ h => h) (Or.inl ⟨by rfl, ?_⟩) ?_ ?_
              rotate_left; · intro w'; go_simp; with_reducible rfl
              rotate_left; · simp only [Act.put, P2_1, P2_2, P2_3, i64_w, i32_w]; rfl
              refine pure_ (i := 14) (N := some 29) (v := ?_) (a' := ?_) M2_14 rfl rfl (any_of HT_.out (by kernel_rfl)) (fun _ _ _ h => h) (Or.inl ⟨by rfl, ?_⟩) ?_ ?_
              rotate_left; · intro w'; go_simp; with_reducible rfl
              rotate_left; · simp only [Act.put, P2_1, P2_2, P2_3, i64_w, i32_w]; rfl
              refine take_ (i := 9) (N := some 24) (v := ?_) (a' := ?_) M2_15 rfl rfl (take_ofW HT_.out HW_.out (by kernel_rfl)) (fun _ _ _ h => h) (Or.inl ⟨by rfl, ?_⟩) hHeld ?_ ?_
              rotate_left; · rintro w' ⟨s0, s1, s2, s3, s4, s5⟩; go_simp; with_reducible rfl
              rotate_left; · simp only [Act.put, P2_1, P2_2, P2_3, i64_w, i32_w]; rfl
              refine take_ (i := 15) (N := some 30) (v := ?_) (a' := ?_) M2_16 rfl rfl (take_ofW HT_.out HW_.out (by kernel_rfl)) (fun _ _ _ h => h) (Or.inl ⟨by rfl, ?_⟩) hHeld ?_ ?_
              rotate_left; · rintro w' ⟨s0, s1, s2, s3, s4, s5⟩; go_simp; with_reducible rfl
              rotate_left; · simp only [Act.put, P2_1, P2_2, P2_3, i64_w, i32_w]; rfl
              refine pure_ (i := 16) (N := some 31) (v := ?_) (a' := ?_) M2_17 rfl rfl (any_of HT_.out (by kernel_rfl)) (fun _ _ _ h => h) (Or.inl ⟨by rfl, ?_⟩) ?_ ?_
              rotate_left; · intro w'; go_simp; with_reducible rfl
              rotate_left; · simp only [Act.put, P2_1, P2_2, P2_3, i64_w, i32_w]; rfl
              refine pure_ (i := 17) (N := some 32) (v := ?_) (a' := ?_) M2_18 rfl rfl (any_of HT_.out (by kernel_rfl)) (fun _ _ _ h => h) (Or.inl ⟨by rfl, ?_⟩) ?_ ?_
              rotate_left; · intro w'; go_simp; with_reducible rfl
              rotate_left; · simp only [Act.put, P2_1, P2_2, P2_3, i64_w, i32_w]; rfl
              refine pure_ (i := 18) (N := some 33) (v := ?_) (a' := ?_) M2_19 rfl rfl (any_of HT_.out (by kernel_rfl)) (fun _ _ _ h => h) (Or.inl ⟨by rfl, ?_⟩) ?_ ?_
              rotate_left; · intro w'; go_simp; with_reducible rfl
              rotate_left; · simp only [Act.put, P2_1, P2_2, P2_3, i64_w, i32_w]; rfl
              refine pure_ (i := 19) (N := some 34) (v := ?_) (a' := ?_) M2_20 rfl rfl (any_of HT_.out (by kernel_rfl)) (fun _ _ _ h => h) (Or.inl ⟨by rfl, ?_⟩) ?_ ?_
              rotate_left; · intro w'; go_simp; with_reducible rfl
              rotate_left; · simp only [Act.put, P2_1, P2_2, P2_3, i64_w, i32_w]; rfl
              refine pure_ (i := 20) (N := some 35) (v := ?_) (a' := ?_) M2_21 rfl rfl (any_of HT_.out (by kernel_rfl)) (fun _ _ _ h => h) (Or.inl ⟨by rfl, ?_⟩) ?_ ?_
              rotate_left; · intro w'; go_simp; with_reducible rfl
              rotate_left; · simp only [Act.put, P2_1, P2_2, P2_3, i64_w, i32_w]; rfl
              refine take_ (i := 21) (N := some 36) (v := ?_) (a' := ?_) M2_22 rfl rfl (take_ofW HT_.out HW_.out (by kernel_rfl)) (fun _ _ _ h => h) (Or.inl ⟨by rfl, ?_⟩) hHeld ?_ ?_
              rotate_left; · rintro w' ⟨s0, s1, s2, s3, s4, s5⟩; go_simp; with_reducible rfl
              rotate_left; · simp only [Act.put, P2_1, P2_2, P2_3, i64_w, i32_w]; rfl
              refine pure_ (i := 22) (N := some 37) (v := ?_) (a' := ?_) M2_23 rfl rfl (any_of HT_.out (by kernel_rfl)) (fun _ _ _ h => h) (Or.inl ⟨by rfl, ?_⟩) ?_ ?_
              rotate_left; · intro w'; go_simp; with_reducible rfl
              rotate_left; · simp only [Act.put, P2_1, P2_2, P2_3, i64_w, i32_w]; rfl
              refine pure_ (i := 23) (N := some 38) (v := ?_) (a' := ?_) M2_24 rfl rfl (any_of HT_.out (by kernel_rfl)) (fun _ _ _ h => h) (Or.inl ⟨by rfl, ?_⟩) ?_ ?_
              rotate_left; · intro w'; go_simp; with_reducible rfl
              rotate_left; · simp only [Act.put, P2_1, P2_2, P2_3, i64_w, i32_w]; rfl
              refine pure_ (i := 24) (N := some 39) (v := ?_) (a' := ?_) M2_25 rfl rfl (any_of HT_.out (by kernel_rfl)) (fun _ _ _ h => h) (Or.inl ⟨by rfl, ?_⟩) ?_ ?_
              rotate_left; · intro w'; go_simp; with_reducible rfl
              rotate_left; · simp only [Act.put, P2_1, P2_2, P2_3, i64_w, i32_w]; rfl
              refine pure_ (i := 25) (N := some 40) (v := ?_) (a' := ?_) M2_26 rfl rfl (any_of HT_.out (by kernel_rfl)) (fun _ _ _ h => h) (Or.inl ⟨by rfl, ?_⟩) ?_ ?_
              rotate_left; · intro w'; go_simp; with_reducible rfl
              rotate_left; · simp only [Act.put, P2_1, P2_2, P2_3, i64_w, i32_w]; rfl
              refine pure_ (i := 26) (N := some 41) (v := ?_) (a' := ?_) M2_27 rfl rfl (any_of HT_.out (by kernel_rfl)) (fun _ _ _ h => h) (Or.inl ⟨by rfl, ?_⟩) ?_ ?_
              rotate_left; · intro w'; go_simp; with_reducible rfl
              rotate_left; · simp only [Act.put, P2_1, P2_2, P2_3, i64_w, i32_w]; rfl
              refine take_ (i := 27) (N := some 42) (v := ?_) (a' := ?_) M2_28 rfl rfl (take_ofW HT_.out HW_.out (by kernel_rfl)) (fun _ _ _ h => h) (Or.inl ⟨by rfl, ?_⟩) hHeld ?_ ?_
              rotate_left; · rintro w' ⟨s0, s1, s2, s3, s4, s5⟩; go_simp; with_reducible rfl
              rotate_left; · simp only [Act.put, P2_1, P2_2, P2_3, i64_w, i32_w]; rfl
              refine one_ (i := 28) (N := some 43) M2_29 rfl rfl (one_of HT_.out (by kernel_rfl)) (by decide) (fun K hK => ?_)
              refine goes_ Try.func45 (by kernel_rfl) rfl #[.slice A151_1 ((rd_T36 l0 x10_1).f1).length c151_1] (by rfl) rfl rfl (by (try simp only [List.map_toArray, List.map_cons, List.map_nil]); first | done | rfl | (simp only [List.length_drop, List.length_take]; rfl)) ?_
              with_reducible refine (impl_AreMarks.calls k1 _ _ ((rd_T36 l0 x10_1).f1) false _ ?side1 ?side2 A22.out).mono ?_
              (case side1 => repeat (first | exact (Kd.C_below HR151_1.out (by repeat (first | (with_reducible first | exact HB.out | apply below_alloc | apply pw_below_drewN | apply below_drew1 | refine below_set ?_ GE152.out) | exact HB.out))) | (with_reducible refine Kd.C_alloc ?_ _) | (with_reducible refine Kd.C_drewN ?_ _) | (with_reducible refine Kd.C_drew ?_)))
              (case side2 => exact HC151_1.out)
              rintro e w40 ⟨rfl, hb⟩
              refine ⟨_, rfl, ?_⟩
              have n0_ := Aside0.mk (blk_below (g := gb152) (o := .cells #[.int .i64 ((rd_T36 l0 x10_1).f0), .slice A151_1 ((rd_T36 l0 x10_1).f1).length c151_1, .int .i64 ((rd_T36 l0 x10_1).f2)] 36 (0, 0)) (by (with_reducible repeat (first | refine blk_drewN ?_ _ | refine blk_drew ?_ | refine blk_alloc ?_ _)); exact BK152.out) hb)
              have n1_ := Aside0.mk (below_step (by repeat (first | (with_reducible first | exact HB.out | apply below_alloc | apply pw_below_drewN | apply below_drew1 | refine below_set ?_ GE152.out) | exact HB.out)) hb)
              clear BK152
              clear HB
              have BK152 := n0_
              have HB := n1_
              clear n0_ n1_
              (try clear hb)
              (try clear hb2)
              (try clear hk)
              (try clear hi)
              refine hK.out _ _ ⟨(blk_cell BK152.out 0).trans rfl, (blk_cell BK152.out 1).trans rfl, (blk_cell BK152.out 2).trans rfl, ((HB.out.cell (World.block_lt_of_cell? w _ hw154_0)).trans hw154_0), ((HB.out.cell (World.block_lt_of_cell? w _ hw154_1)).trans hw154_1), ((HB.out.cell (World.block_lt_of_cell? w _ hw154_2)).trans hw154_2)⟩ (fun hHeld => ?_)
              clear hK K
              refine norm_ (a' := ?_) ?_ ?_
              rotate_left
              ·
               show Act.put _ (some 43) _ = _
               simp only [Act.put, P2_1, P2_2, P2_3, i64_w, i32_w]
               rfl
              refine pure_ (i := 29) (N := some 44) (v := ?_) (a' := ?_) M2_30 rfl rfl (any_of HT_.out (by kernel_rfl)) (fun _ _ _ h => h) (Or.inl ⟨by rfl, ?_⟩) ?_ ?_
              rotate_left; · intro w'; go_simp; with_reducible rfl
              rotate_left; · simp only [Act.put, P2_1, P2_2, P2_3, i64_w, i32_w]; rfl
              refine pure_ (i := 30) (N := some 45) (v := ?_) (a' := ?_) M2_31 rfl rfl (any_of HT_.out (by kernel_rfl)) (fun _ _ _ h => h) (Or.inl ⟨by rfl, ?_⟩) ?_ ?_
              rotate_left; · intro w'; go_simp; with_reducible rfl
              rotate_left; · simp only [Act.put, P2_1, P2_2, P2_3, i64_w, i32_w]; rfl
              refine pure_ (i := 31) (N := some 46) (v := ?_) (a' := ?_) M2_32 rfl rfl (any_of HT_.out (by kernel_rfl)) (fun _ _ _ h => h) (Or.inl ⟨by rfl, ?_⟩) ?_ ?_
              rotate_left; · intro w'; go_simp; with_reducible rfl
              rotate_left; · simp only [Act.put, P2_1, P2_2, P2_3, i64_w, i32_w]; rfl
              refine pure_ (i := 32) (N := some 47) (v := undef) (a' := ?_) M2_33 rfl rfl (any_of HT_.out (by kernel_rfl)) (fun _ _ _ h => h) (Or.inr ⟨by rfl, rfl⟩) ?_ ?_
              rotate_left; · simp only [Act.put, P2_1, P2_2, P2_3, i64_w, i32_w]; rfl
              refine pure_ (i := 33) (N := some 48) (v := undef) (a' := ?_) M2_34 rfl rfl (any_of HT_.out (by kernel_rfl)) (fun _ _ _ h => h) (Or.inr ⟨by rfl, rfl⟩) ?_ ?_
              rotate_left; · simp only [Act.put, P2_1, P2_2, P2_3, i64_w, i32_w]; rfl
              refine pure_ (i := 34) (N := some 49) (v := undef) (a' := ?_) M2_35 rfl rfl (any_of HT_.out (by kernel_rfl)) (fun _ _ _ h => h) (Or.inr ⟨by rfl, rfl⟩) ?_ ?_
              rotate_left; · simp only [Act.put, P2_1, P2_2, P2_3, i64_w, i32_w]; rfl
              refine pure_ (i := 35) (N := some 50) (v := undef) (a' := ?_) M2_36 rfl rfl (any_of HT_.out (by kernel_rfl)) (fun _ _ _ h => h) (Or.inr ⟨by rfl, rfl⟩) ?_ ?_
              rotate_left; · simp only [Act.put, P2_1, P2_2, P2_3, i64_w, i32_w]; rfl
              refine pure_ (i := 36) (N := some 51) (v := ?_) (a' := ?_) M2_37 rfl rfl (any_of HT_.out (by kernel_rfl)) (fun _ _ _ h => h) (Or.inl ⟨by rfl, ?_⟩) ?_ ?_
              rotate_left; · intro w'; go_simp; with_reducible rfl
              rotate_left; · simp only [Act.put, P2_1, P2_2, P2_3, i64_w, i32_w]; rfl
              refine done_ (done_of HT_.out (by kernel_rfl)) ?_
              try go_wp2
              go_ret
              exact ⟨by first | rfl | (simp [errW_none, errW_some] <;> rfl) | (simp only [← hji9]; first | rfl | (simp [errW_none, errW_some] <;> rfl)) | (simp [*, errW_none, errW_some] <;> rfl), by repeat (first | (with_reducible first | exact HB.out | apply below_alloc | apply pw_below_drewN | apply below_drew1 | refine below_set ?_ GE152.out) | exact HB.out)⟩
          ·
           rw [if_neg c11] at H
           exact absurd H (by simp)
         ·
          rw [if_neg c10] at H
          exact absurd H (by simp)
        ·
         rw [if_neg c8] at H
         have c8b0 : decide (0 < x10_1) = false := decide_eq_false c8
         clear c8
         by_cases c41 : (((rd_T36 l0 x10_1).f1).length : Int) = 0
         ·
          rw [if_pos c41] at H
          have c41b0 : ((((rd_T36 l0 x10_1).f1).length : Int) == 0) = true := beq_iff_eq.mpr c41
          have c41b1 : ((((rd_T36 l0 x10_1).f1).length : Int) != 0) = false := bne_eq_false_iff_eq.mpr c41
          clear c41
          obtain rfl := Option.some.inj H
          have p151 : 0 ≤ (x10_1 : Int) := of_decide_eq_true (by first | (with_reducible assumption) | assumption)
          have q151 : x10_1 < (l0.length : Int) := of_decide_eq_true (by first | (with_reducible assumption) | assumption)
          obtain ⟨ad151, A151_1, c151_1, e151, hx151_0, hx151_1, hx151_2, hl151_1, hi151_1⟩ := at_T36 HR0.out x10_1 p151 q151
          cases e151
          replace hx151_0 := (HB.out.cell (World.block_lt_of_cell? w _ hx151_0)).trans hx151_0
          replace hx151_1 := (HB.out.cell (World.block_lt_of_cell? w _ hx151_1)).trans hx151_1
          replace hx151_2 := (HB.out.cell (World.block_lt_of_cell? w _ hx151_2)).trans hx151_2
          have HR151_1 := Aside0.mk hi151_1
          have HC151_1 := Aside0.mk hl151_1
          clear hi151_1 hl151_1
          replace p151 := eq_true p151
          replace q151 := eq_true q151
          try go_wp2_with (first | ((with_reducible refine gate_dst (N := 4) rfl ?_); (try (refine gate_guard (by rfl) ?_; dsimp only)); refine box_event ?hg (N := 4) ?hd (cs := #[.int .i64 0, .slice none 0 0, .int .i64 0]) (t := 36) ?hr ?_; (case hd => rfl); (case hg => rfl); (case hr => first | (go_simp; done) | (go_simp; rfl)); intro gb152 hg w42 hbox hb; have n0_ := Aside0.mk (below_step (by repeat (first | (with_reducible first | exact HB.out | apply below_alloc | apply pw_below_drewN | apply below_drew1) | exact HB.out)) hb); have n1_ := Aside0.mk (hbox); have n2_ := Aside0.mk ((by rw [hg]; exact (below_size (by repeat (first | (with_reducible first | exact HB.out | apply below_alloc | apply pw_below_drewN | apply below_drew1) | exact HB.out))) : w.heap.size ≤ gb152)); have n3_ := Aside0.mk ((by rw [hg]; exact (below_size (by repeat (first | (with_reducible first | exact HB.out | apply below_alloc | apply pw_below_drewN | apply below_drew1) | exact HB.out))) : w.heap.size ≤ gb152)); clear HB; have HB := n0_; have BK152 := n1_; have GW152 := n2_; have GE152 := n3_; clear n0_ n1_ n2_ n3_; clear hb hbox hg; have hcz43_0 : w42.cell? ⟨gb152, 0, none⟩ = some (.int .i64 0) := (blk_cell BK152.out 0).trans rfl; have hcz43_1 : w42.cell? ⟨gb152, 1, none⟩ = some (.slice none 0 0) := (blk_cell BK152.out 1).trans rfl; have hcz43_2 : w42.cell? ⟨gb152, 2, none⟩ = some (.int .i64 0) := (blk_cell BK152.out 2).trans rfl; have hfz43_0 := blk_frozen BK152.out 0; have hfz43_1 := blk_frozen BK152.out 1; have hfz43_2 := blk_frozen BK152.out 2))
          have n0_ : Aside0 ((((w42.setCell ⟨gb152, 0, none⟩ (.int .i64 ((rd_T36 l0 x10_1).f0))).setCell ⟨gb152, 1, none⟩ (.slice A151_1 ((rd_T36 l0 x10_1).f1).length c151_1)).setCell ⟨gb152, 2, none⟩ (.int .i64 ((rd_T36 l0 x10_1).f2))).heap[gb152]? = some (.cells #[.int .i64 ((rd_T36 l0 x10_1).f0), .slice A151_1 ((rd_T36 l0 x10_1).f1).length c151_1, .int .i64 ((rd_T36 l0 x10_1).f2)] 36 (0, 0))) := ⟨by (with_reducible repeat (first | refine blk_drewN ?_ _ | refine blk_drew ?_ | refine blk_alloc ?_ _)); refine blk_put (cs := #[.int .i64 ((rd_T36 l0 x10_1).f0), .slice A151_1 ((rd_T36 l0 x10_1).f1).length c151_1, .int .i64 0]) ?_ 2 _ rfl; (with_reducible repeat (first | refine blk_drewN ?_ _ | refine blk_drew ?_ | refine blk_alloc ?_ _)); refine blk_put (cs := #[.int .i64 ((rd_T36 l0 x10_1).f0), .slice none 0 0, .int .i64 0]) ?_ 1 _ rfl; (with_reducible repeat (first | refine blk_drewN ?_ _ | refine blk_drew ?_ | refine blk_alloc ?_ _)); refine blk_put (cs := #[.int .i64 0, .slice none 0 0, .int .i64 0]) ?_ 0 _ rfl; (with_reducible repeat (first | refine blk_drewN ?_ _ | refine blk_drew ?_ | refine blk_alloc ?_ _)); exact BK152.out⟩
          have n1_ : Aside0 (Below w.heap.size w (((w42.setCell ⟨gb152, 0, none⟩ (.int .i64 ((rd_T36 l0 x10_1).f0))).setCell ⟨gb152, 1, none⟩ (.slice A151_1 ((rd_T36 l0 x10_1).f1).length c151_1)).setCell ⟨gb152, 2, none⟩ (.int .i64 ((rd_T36 l0 x10_1).f2)))) := ⟨by repeat (first | (with_reducible first | exact HB.out | apply below_alloc | apply pw_below_drewN | apply below_drew1 | refine below_set ?_ GE152.out) | exact HB.out)⟩
          (try clear BK152)
          (try clear HB)
          generalize (((w42.setCell ⟨gb152, 0, none⟩ (.int .i64 ((rd_T36 l0 x10_1).f0))).setCell ⟨gb152, 1, none⟩ (.slice A151_1 ((rd_T36 l0 x10_1).f1).length c151_1)).setCell ⟨gb152, 2, none⟩ (.int .i64 ((rd_T36 l0 x10_1).f2))) = w44 at n0_ n1_ ⊢
          have BK152 := n0_
          have HB := n1_
          clear n0_ n1_
          have n0_ := Aside0.mk (blk_drew BK152.out)
          have n1_ := Aside0.mk (below_drew1 HB.out)
          clear BK152
          clear HB
          have BK152 := n0_
          have HB := n1_
          clear n0_ n1_
          refine start_ (n := 37) (S := fun w' => w'.cell? ⟨gb152, 0, none⟩ = some (.int .i64 ((rd_T36 l0 x10_1).f0)) ∧ w'.cell? ⟨gb152, 1, none⟩ = some (.slice A151_1 ((rd_T36 l0 x10_1).f1).length c151_1) ∧ w'.cell? ⟨gb152, 2, none⟩ = some (.int .i64 ((rd_T36 l0 x10_1).f2))) (ds := []) M2_0 (by kernel_rfl) rfl rfl ⟨(blk_cell BK152.out 0).trans rfl, (blk_cell BK152.out 1).trans rfl, (blk_cell BK152.out 2).trans rfl⟩ (fun hHeld => ?_); refine with_tabW impl_AreSecrets.tab6 impl_AreSecrets.bits6 (fun HT_ HW_ => ?_)
          generalize w44.drew = w45 at BK152 HB hHeld ⊢
          refine pure_ (i := 0) (N := some 15) (v := ?_) (a' := ?_) M2_1 rfl rfl (any_of HT_.out (by kernel_rfl)) (fun _ _ _ h => h) (Or.inl ⟨by rfl, ?_⟩) ?_ ?_
          rotate_left; · intro w'; go_simp; with_reducible rfl
          rotate_left; · simp only [Act.put, P2_1, P2_2, P2_3, i64_w, i32_w]; rfl
          refine take_ (i := 1) (N := some 16) (v := ?_) (a' := ?_) M2_2 rfl rfl (take_ofW HT_.out HW_.out (by kernel_rfl)) (fun _ _ _ h => h) (Or.inl ⟨by rfl, ?_⟩) hHeld ?_ ?_
          rotate_left; · rintro w' ⟨s0, s1, s2⟩; go_simp; with_reducible rfl
          rotate_left; · simp only [Act.put, P2_1, P2_2, P2_3, i64_w, i32_w]; rfl
          refine one_ (i := 2) (N := some 17) M2_3 rfl rfl (one_of HT_.out (by kernel_rfl)) (by decide) (fun K hK => ?_)
          refine goes_ Try.func44 (by kernel_rfl) rfl #[.int .i64 ((rd_T36 l0 x10_1).f0), .int .i64 1, .int .i64 999] (by rfl) rfl rfl (by (try simp only [List.map_toArray, List.map_cons, List.map_nil]); first | done | rfl | (simp only [List.length_drop, List.length_take]; rfl)) ?_
          with_reducible refine (impl_InRange.calls ((rd_T36 l0 x10_1).f0) 1 999 true _ A6.out).mono ?_
          rintro e w' ⟨rfl, ⟨nd, rfl⟩⟩
          refine ⟨_, rfl, ?_⟩
          refine hK.out _ _ ⟨(blk_cell BK152.out 0).trans rfl, (blk_cell BK152.out 1).trans rfl, (blk_cell BK152.out 2).trans rfl⟩ (fun hHeld => ?_)
          clear hK K
          refine norm_ (a' := ?_) ?_ ?_
          rotate_left
          ·
           show Act.put _ (some 17) _ = _
           simp only [Act.put, P2_1, P2_2, P2_3, i64_w, i32_w]
           rfl
          refine pure_ (i := 3) (N := some 18) (v := ?_) (a' := ?_) M2_4 rfl rfl (any_of HT_.out (by kernel_rfl)) (fun _ _ _ h => h) (Or.inl ⟨by rfl, ?_⟩) ?_ ?_
          rotate_left; · intro w'; go_simp; with_reducible rfl
          rotate_left; · simp only [Act.put, P2_1, P2_2, P2_3, i64_w, i32_w]; rfl
          refine pure_ (i := 4) (N := some 19) (v := ?_) (a' := ?_) M2_5 rfl rfl (any_of HT_.out (by kernel_rfl)) (fun _ _ _ h => h) (Or.inl ⟨by rfl, ?_⟩) ?_ ?_
          rotate_left; · intro w'; go_simp; with_reducible rfl
          rotate_left; · simp only [Act.put, P2_1, P2_2, P2_3, i64_w, i32_w]; rfl
          refine pure_ (i := 5) (N := some 20) (v := ?_) (a' := ?_) M2_6 rfl rfl (any_of HT_.out (by kernel_rfl)) (fun _ _ _ h => h) (Or.inl ⟨by rfl, ?_⟩) ?_ ?_
          rotate_left; · intro w'; go_simp; with_reducible rfl
          rotate_left; · simp only [Act.put, P2_1, P2_2, P2_3, i64_w, i32_w]; rfl
          refine pure_ (i := 6) (N := some 21) (v := ?_) (a' := ?_) M2_7 rfl rfl (any_of HT_.out (by kernel_rfl)) (fun _ _ _ h => h) (Or.inl ⟨by rfl, ?_⟩) ?_ ?_
          rotate_left; · intro w'; go_simp; with_reducible rfl
          rotate_left; · simp only [Act.put, P2_1, P2_2, P2_3, i64_w, i32_w]; rfl
          refine pure_ (i := 7) (N := some 22) (v := ?_) (a' := ?_) M2_8 rfl rfl (any_of HT_.out (by kernel_rfl)) (fun _ _ _ h => h) (Or.inl ⟨by rfl, ?_⟩) ?_ ?_
          rotate_left; · intro w'; go_simp; with_reducible rfl
          rotate_left; · simp only [Act.put, P2_1, P2_2, P2_3, i64_w, i32_w]; rfl
          refine pure_ (i := 8) (N := some 23) (v := undef) (a' := ?_) M2_9 rfl rfl (any_of HT_.out (by kernel_rfl)) (fun _ _ _ h => h) (Or.inr ⟨by rfl, rfl⟩) ?_ ?_
          rotate_left; · simp only [Act.put, P2_1, P2_2, P2_3, i64_w, i32_w]; rfl
          refine pure_ (i := 9) (N := some 24) (v := undef) (a' := ?_) M2_38 rfl rfl (any_of HT_.out (by kernel_rfl)) (fun _ _ _ h => h) (Or.inr ⟨by rfl, rfl⟩) ?_ ?_
          rotate_left; · simp only [Act.put, P2_1, P2_2, P2_3, i64_w, i32_w]; rfl
          refine pure_ (i := 10) (N := some 25) (v := undef) (a' := ?_) M2_39 rfl rfl (any_of HT_.out (by kernel_rfl)) (fun _ _ _ h => h) (Or.inr ⟨by rfl, rfl⟩) ?_ ?_
          rotate_left; · simp only [Act.put, P2_1, P2_2, P2_3, i64_w, i32_w]; rfl
          refine pure_ (i := 11) (N := some 26) (v := undef) (a' := ?_) M2_40 rfl rfl (any_of HT_.out (by kernel_rfl)) (fun _ _ _ h => h) (Or.inr ⟨by rfl, rfl⟩) ?_ ?_
          rotate_left; · simp only [Act.put, P2_1, P2_2, P2_3, i64_w, i32_w]; rfl
          refine pure_ (i := 12) (N := some 27) (v := undef) (a' := ?_) M2_41 rfl rfl (any_of HT_.out (by kernel_rfl)) (fun _ _ _ h => h) (Or.inr ⟨by rfl, rfl⟩) ?_ ?_
          rotate_left; · simp only [Act.put, P2_1, P2_2, P2_3, i64_w, i32_w]; rfl
          refine pure_ (i := 13) (N := some 28) (v := undef) (a' := ?_) M2_42 rfl rfl (any_of HT_.out (by kernel_rfl)) (fun _ _ _ h => h) (Or.inr ⟨by rfl, rfl⟩) ?_ ?_
          rotate_left; · simp only [Act.put, P2_1, P2_2, P2_3, i64_w, i32_w]; rfl
          refine pure_ (i := 14) (N := some 29) (v := undef) (a' := ?_) M2_15 rfl rfl (any_of HT_.out (by kernel_rfl)) (fun _ _ _ h => h) (Or.inr ⟨by rfl, rfl⟩) ?_ ?_
          rotate_left; · simp only [Act.put, P2_1, P2_2, P2_3, i64_w, i32_w]; rfl
          refine pure_ (i := 15) (N := some 30) (v := undef) (a' := ?_) M2_16 rfl rfl (any_of HT_.out (by kernel_rfl)) (fun _ _ _ h => h) (Or.inr ⟨by rfl, rfl⟩) ?_ ?_
          rotate_left; · simp only [Act.put, P2_1, P2_2, P2_3, i64_w, i32_w]; rfl
          refine pure_ (i := 16) (N := some 31) (v := undef) (a' := ?_) M2_17 rfl rfl (any_of HT_.out (by kernel_rfl)) (fun _ _ _ h => h) (Or.inr ⟨by rfl, rfl⟩) ?_ ?_
          rotate_left; · simp only [Act.put, P2_1, P2_2, P2_3, i64_w, i32_w]; rfl
          refine pure_ (i := 17) (N := some 32) (v := ?_) (a' := ?_) M2_18 rfl rfl (any_of HT_.out (by kernel_rfl)) (fun _ _ _ h => h) (Or.inl ⟨by rfl, ?_⟩) ?_ ?_
          rotate_left; · intro w'; go_simp; with_reducible rfl
          rotate_left; · simp only [Act.put, P2_1, P2_2, P2_3, i64_w, i32_w]; rfl
          refine pure_ (i := 18) (N := some 33) (v := ?_) (a' := ?_) M2_19 rfl rfl (any_of HT_.out (by kernel_rfl)) (fun _ _ _ h => h) (Or.inl ⟨by rfl, ?_⟩) ?_ ?_
          rotate_left; · intro w'; go_simp; with_reducible rfl
          rotate_left; · simp only [Act.put, P2_1, P2_2, P2_3, i64_w, i32_w]; rfl
          refine pure_ (i := 19) (N := some 34) (v := ?_) (a' := ?_) M2_20 rfl rfl (any_of HT_.out (by kernel_rfl)) (fun _ _ _ h => h) (Or.inl ⟨by rfl, ?_⟩) ?_ ?_
          rotate_left; · intro w'; go_simp; with_reducible rfl
          rotate_left; · simp only [Act.put, P2_1, P2_2, P2_3, i64_w, i32_w]; rfl
          refine pure_ (i := 20) (N := some 35) (v := ?_) (a' := ?_) M2_21 rfl rfl (any_of HT_.out (by kernel_rfl)) (fun _ _ _ h => h) (Or.inl ⟨by rfl, ?_⟩) ?_ ?_
          rotate_left; · intro w'; go_simp; with_reducible rfl
          rotate_left; · simp only [Act.put, P2_1, P2_2, P2_3, i64_w, i32_w]; rfl
          refine take_ (i := 21) (N := some 36) (v := ?_) (a' := ?_) M2_22 rfl rfl (take_ofW HT_.out HW_.out (by kernel_rfl)) (fun _ _ _ h => h) (Or.inl ⟨by rfl, ?_⟩) hHeld ?_ ?_
          rotate_left; · rintro w' ⟨s0, s1, s2⟩; go_simp; with_reducible rfl
          rotate_left; · simp only [Act.put, P2_1, P2_2, P2_3, i64_w, i32_w]; rfl
          refine pure_ (i := 22) (N := some 37) (v := ?_) (a' := ?_) M2_23 rfl rfl (any_of HT_.out (by kernel_rfl)) (fun _ _ _ h => h) (Or.inl ⟨by rfl, ?_⟩) ?_ ?_
          rotate_left; · intro w'; go_simp; with_reducible rfl
          rotate_left; · simp only [Act.put, P2_1, P2_2, P2_3, i64_w, i32_w]; rfl
          refine pure_ (i := 23) (N := some 38) (v := ?_) (a' := ?_) M2_24 rfl rfl (any_of HT_.out (by kernel_rfl)) (fun _ _ _ h => h) (Or.inl ⟨by rfl, ?_⟩) ?_ ?_
          rotate_left; · intro w'; go_simp; with_reducible rfl
          rotate_left; · simp only [Act.put, P2_1, P2_2, P2_3, i64_w, i32_w]; rfl
          refine pure_ (i := 24) (N := some 39) (v := ?_) (a' := ?_) M2_25 rfl rfl (any_of HT_.out (by kernel_rfl)) (fun _ _ _ h => h) (Or.inl ⟨by rfl, ?_⟩) ?_ ?_
          rotate_left; · intro w'; go_simp; with_reducible rfl
          rotate_left; · simp only [Act.put, P2_1, P2_2, P2_3, i64_w, i32_w]; rfl
          refine pure_ (i := 25) (N := some 40) (v := ?_) (a' := ?_) M2_26 rfl rfl (any_of HT_.out (by kernel_rfl)) (fun _ _ _ h => h) (Or.inl ⟨by rfl, ?_⟩) ?_ ?_
          rotate_left; · intro w'; go_simp; with_reducible rfl
          rotate_left; · simp only [Act.put, P2_1, P2_2, P2_3, i64_w, i32_w]; rfl
          refine pure_ (i := 26) (N := some 41) (v := undef) (a' := ?_) M2_27 rfl rfl (any_of HT_.out (by kernel_rfl)) (fun _ _ _ h => h) (Or.inr ⟨by rfl, rfl⟩) ?_ ?_
          rotate_left; · simp only [Act.put, P2_1, P2_2, P2_3, i64_w, i32_w]; rfl
          refine pure_ (i := 27) (N := some 42) (v := undef) (a' := ?_) M2_28 rfl rfl (any_of HT_.out (by kernel_rfl)) (fun _ _ _ h => h) (Or.inr ⟨by rfl, rfl⟩) ?_ ?_
          rotate_left; · simp only [Act.put, P2_1, P2_2, P2_3, i64_w, i32_w]; rfl
          refine pure_ (i := 28) (N := some 43) (v := undef) (a' := ?_) M2_29 rfl rfl (any_of HT_.out (by kernel_rfl)) (fun _ _ _ h => h) (Or.inr ⟨by rfl, rfl⟩) ?_ ?_
          rotate_left; · simp only [Act.put, P2_1, P2_2, P2_3, i64_w, i32_w]; rfl
          refine pure_ (i := 29) (N := some 44) (v := undef) (a' := ?_) M2_30 rfl rfl (any_of HT_.out (by kernel_rfl)) (fun _ _ _ h => h) (Or.inr ⟨by rfl, rfl⟩) ?_ ?_
          rotate_left; · simp only [Act.put, P2_1, P2_2, P2_3, i64_w, i32_w]; rfl
          refine pure_ (i := 30) (N := some 45) (v := ?_) (a' := ?_) M2_31 rfl rfl (any_of HT_.out (by kernel_rfl)) (fun _ _ _ h => h) (Or.inl ⟨by rfl, ?_⟩) ?_ ?_
          rotate_left; · intro w'; go_simp; with_reducible rfl
          rotate_left; · simp only [Act.put, P2_1, P2_2, P2_3, i64_w, i32_w]; rfl
          refine pure_ (i := 31) (N := some 46) (v := ?_) (a' := ?_) M2_32 rfl rfl (any_of HT_.out (by kernel_rfl)) (fun _ _ _ h => h) (Or.inl ⟨by rfl, ?_⟩) ?_ ?_
          rotate_left; · intro w'; go_simp; with_reducible rfl
          rotate_left; · simp only [Act.put, P2_1, P2_2, P2_3, i64_w, i32_w]; rfl
          refine pure_ (i := 32) (N := some 47) (v := undef) (a' := ?_) M2_33 rfl rfl (any_of HT_.out (by kernel_rfl)) (fun _ _ _ h => h) (Or.inr ⟨by rfl, rfl⟩) ?_ ?_
          rotate_left; · simp only [Act.put, P2_1, P2_2, P2_3, i64_w, i32_w]; rfl
          refine pure_ (i := 33) (N := some 48) (v := undef) (a' := ?_) M2_34 rfl rfl (any_of HT_.out (by kernel_rfl)) (fun _ _ _ h => h) (Or.inr ⟨by rfl, rfl⟩) ?_ ?_
          rotate_left; · simp only [Act.put, P2_1, P2_2, P2_3, i64_w, i32_w]; rfl
          refine pure_ (i := 34) (N := some 49) (v := undef) (a' := ?_) M2_35 rfl rfl (any_of HT_.out (by kernel_rfl)) (fun _ _ _ h => h) (Or.inr ⟨by rfl, rfl⟩) ?_ ?_
          rotate_left; · simp only [Act.put, P2_1, P2_2, P2_3, i64_w, i32_w]; rfl
          refine pure_ (i := 35) (N := some 50) (v := undef) (a' := ?_) M2_36 rfl rfl (any_of HT_.out (by kernel_rfl)) (fun _ _ _ h => h) (Or.inr ⟨by rfl, rfl⟩) ?_ ?_
          rotate_left; · simp only [Act.put, P2_1, P2_2, P2_3, i64_w, i32_w]; rfl
          refine pure_ (i := 36) (N := some 51) (v := ?_) (a' := ?_) M2_37 rfl rfl (any_of HT_.out (by kernel_rfl)) (fun _ _ _ h => h) (Or.inl ⟨by rfl, ?_⟩) ?_ ?_
          rotate_left; · intro w'; go_simp; with_reducible rfl
          rotate_left; · simp only [Act.put, P2_1, P2_2, P2_3, i64_w, i32_w]; rfl
          refine done_ (done_of HT_.out (by kernel_rfl)) ?_
          try go_wp2
          go_ret
          exact ⟨by first | rfl | (simp [errW_none, errW_some] <;> rfl) | (simp [*, errW_none, errW_some] <;> rfl), by repeat (first | (with_reducible first | exact HB.out | apply below_alloc | apply pw_below_drewN | apply below_drew1 | refine below_set ?_ GE152.out) | exact HB.out)⟩
         ·
          rw [if_neg c41] at H
          have c41b0 : ((((rd_T36 l0 x10_1).f1).length : Int) == 0) = false := beq_eq_false_iff_ne.mpr c41
          have c41b1 : ((((rd_T36 l0 x10_1).f1).length : Int) != 0) = true := bne_iff_ne.mpr c41
          have c41b2 : ¬ (((rd_T36 l0 x10_1).f1) = []) := fun h_ => c41 (by rw [h_]; rfl)
          replace H := Option.bind_eq_some_iff.mp H
          obtain ⟨t157, A460, H⟩ := H
          replace H : (if t157 = true then ((impl_InRange.f ((rd_T36 l0 x10_1).f2) 0 1000000).bind fun t158 => (if t158 = true then (impl_AreSecrets.l0 k1 l0 l0 (l0.length : Int) (wrap64 (x10_1 + 1))) else (some false))) else (some false)) = some r := H
          have A46 := Aside0.mk A460
          clear A460
          by_cases c47 : t157 = true
          ·
           subst c47
           have H1 : ((impl_InRange.f ((rd_T36 l0 x10_1).f2) 0 1000000).bind fun t158 => (if t158 = true then (impl_AreSecrets.l0 k1 l0 l0 (l0.length : Int) (wrap64 (x10_1 + 1))) else (some false))) = some r := by rw [if_pos rfl] at H; exact H
           clear H
           have H := H1
           clear H1
           replace H := Option.bind_eq_some_iff.mp H
           obtain ⟨t158, A480, H⟩ := H
           replace H : (if t158 = true then (impl_AreSecrets.l0 k1 l0 l0 (l0.length : Int) (wrap64 (x10_1 + 1))) else (some false)) = some r := H
           have A48 := Aside0.mk A480
           clear A480
           by_cases c49 : t158 = true
           ·
            subst c49
            have H1 : (impl_AreSecrets.l0 k1 l0 l0 (l0.length : Int) (wrap64 (x10_1 + 1))) = some r := by rw [if_pos rfl] at H; exact H
            clear H
            have H := H1
            clear H1
            have H' := Aside0.mk H
            clear H
            have p151 : 0 ≤ (x10_1 : Int) := of_decide_eq_true (by first | (with_reducible assumption) | assumption)
            have q151 : x10_1 < (l0.length : Int) := of_decide_eq_true (by first | (with_reducible assumption) | assumption)
            obtain ⟨ad151, A151_1, c151_1, e151, hx151_0, hx151_1, hx151_2, hl151_1, hi151_1⟩ := at_T36 HR0.out x10_1 p151 q151
            cases e151
            replace hx151_0 := (HB.out.cell (World.block_lt_of_cell? w _ hx151_0)).trans hx151_0
            replace hx151_1 := (HB.out.cell (World.block_lt_of_cell? w _ hx151_1)).trans hx151_1
            replace hx151_2 := (HB.out.cell (World.block_lt_of_cell? w _ hx151_2)).trans hx151_2
            have HR151_1 := Aside0.mk hi151_1
            have HC151_1 := Aside0.mk hl151_1
            clear hi151_1 hl151_1
            replace p151 := eq_true p151
            replace q151 := eq_true q151
            try go_wp2_with (first | ((with_reducible refine gate_dst (N := 4) rfl ?_); (try (refine gate_guard (by rfl) ?_; dsimp only)); refine box_event ?hg (N := 4) ?hd (cs := #[.int .i64 0, .slice none 0 0, .int .i64 0]) (t := 36) ?hr ?_; (case hd => rfl); (case hg => rfl); (case hr => first | (go_simp; done) | (go_simp; rfl)); intro gb152 hg w50 hbox hb; have n0_ := Aside0.mk (below_step (by repeat (first | (with_reducible first | exact HB.out | apply below_alloc | apply pw_below_drewN | apply below_drew1) | exact HB.out)) hb); have n1_ := Aside0.mk (hbox); have n2_ := Aside0.mk ((by rw [hg]; exact (below_size (by repeat (first | (with_reducible first | exact HB.out | apply below_alloc | apply pw_below_drewN | apply below_drew1) | exact HB.out))) : w.heap.size ≤ gb152)); have n3_ := Aside0.mk ((by rw [hg]; exact (below_size (by repeat (first | (with_reducible first | exact HB.out | apply below_alloc | apply pw_below_drewN | apply below_drew1) | exact HB.out))) : w.heap.size ≤ gb152)); clear HB; have HB := n0_; have BK152 := n1_; have GW152 := n2_; have GE152 := n3_; clear n0_ n1_ n2_ n3_; clear hb hbox hg; have hcz51_0 : w50.cell? ⟨gb152, 0, none⟩ = some (.int .i64 0) := (blk_cell BK152.out 0).trans rfl; have hcz51_1 : w50.cell? ⟨gb152, 1, none⟩ = some (.slice none 0 0) := (blk_cell BK152.out 1).trans rfl; have hcz51_2 : w50.cell? ⟨gb152, 2, none⟩ = some (.int .i64 0) := (blk_cell BK152.out 2).trans rfl; have hfz51_0 := blk_frozen BK152.out 0; have hfz51_1 := blk_frozen BK152.out 1; have hfz51_2 := blk_frozen BK152.out 2))
            have n0_ : Aside0 ((((w50.setCell ⟨gb152, 0, none⟩ (.int .i64 ((rd_T36 l0 x10_1).f0))).setCell ⟨gb152, 1, none⟩ (.slice A151_1 ((rd_T36 l0 x10_1).f1).length c151_1)).setCell ⟨gb152, 2, none⟩ (.int .i64 ((rd_T36 l0 x10_1).f2))).heap[gb152]? = some (.cells #[.int .i64 ((rd_T36 l0 x10_1).f0), .slice A151_1 ((rd_T36 l0 x10_1).f1).length c151_1, .int .i64 ((rd_T36 l0 x10_1).f2)] 36 (0, 0))) := ⟨by (with_reducible repeat (first | refine blk_drewN ?_ _ | refine blk_drew ?_ | refine blk_alloc ?_ _)); refine blk_put (cs := #[.int .i64 ((rd_T36 l0 x10_1).f0), .slice A151_1 ((rd_T36 l0 x10_1).f1).length c151_1, .int .i64 0]) ?_ 2 _ rfl; (with_reducible repeat (first | refine blk_drewN ?_ _ | refine blk_drew ?_ | refine blk_alloc ?_ _)); refine blk_put (cs := #[.int .i64 ((rd_T36 l0 x10_1).f0), .slice none 0 0, .int .i64 0]) ?_ 1 _ rfl; (with_reducible repeat (first | refine blk_drewN ?_ _ | refine blk_drew ?_ | refine blk_alloc ?_ _)); refine blk_put (cs := #[.int .i64 0, .slice none 0 0, .int .i64 0]) ?_ 0 _ rfl; (with_reducible repeat (first | refine blk_drewN ?_ _ | refine blk_drew ?_ | refine blk_alloc ?_ _)); exact BK152.out⟩
            have n1_ : Aside0 (Below w.heap.size w (((w50.setCell ⟨gb152, 0, none⟩ (.int .i64 ((rd_T36 l0 x10_1).f0))).setCell ⟨gb152, 1, none⟩ (.slice A151_1 ((rd_T36 l0 x10_1).f1).length c151_1)).setCell ⟨gb152, 2, none⟩ (.int .i64 ((rd_T36 l0 x10_1).f2)))) := ⟨by repeat (first | (with_reducible first | exact HB.out | apply below_alloc | apply pw_below_drewN | apply below_drew1 | refine below_set ?_ GE152.out) | exact HB.out)⟩
            (try clear BK152)
            (try clear HB)
            generalize (((w50.setCell ⟨gb152, 0, none⟩ (.int .i64 ((rd_T36 l0 x10_1).f0))).setCell ⟨gb152, 1, none⟩ (.slice A151_1 ((rd_T36 l0 x10_1).f1).length c151_1)).setCell ⟨gb152, 2, none⟩ (.int .i64 ((rd_T36 l0 x10_1).f2))) = w52 at n0_ n1_ ⊢
            have BK152 := n0_
            have HB := n1_
            clear n0_ n1_
            have n0_ := Aside0.mk (blk_drew BK152.out)
            have n1_ := Aside0.mk (below_drew1 HB.out)
            clear BK152
            clear HB
            have BK152 := n0_
            have HB := n1_
            clear n0_ n1_
            refine start_ (n := 37) (S := fun w' => w'.cell? ⟨gb152, 0, none⟩ = some (.int .i64 ((rd_T36 l0 x10_1).f0)) ∧ w'.cell? ⟨gb152, 1, none⟩ = some (.slice A151_1 ((rd_T36 l0 x10_1).f1).length c151_1) ∧ w'.cell? ⟨gb152, 2, none⟩ = some (.int .i64 ((rd_T36 l0 x10_1).f2))) (ds := []) M2_0 (by kernel_rfl) rfl rfl ⟨(blk_cell BK152.out 0).trans rfl, (blk_cell BK152.out 1).trans rfl, (blk_cell BK152.out 2).trans rfl⟩ (fun hHeld => ?_); refine with_tabW impl_AreSecrets.tab6 impl_AreSecrets.bits6 (fun HT_ HW_ => ?_)
            generalize w52.drew = w53 at BK152 HB hHeld ⊢
            refine pure_ (i := 0) (N := some 15) (v := ?_) (a' := ?_) M2_1 rfl rfl (any_of HT_.out (by kernel_rfl)) (fun _ _ _ h => h) (Or.inl ⟨by rfl, ?_⟩) ?_ ?_
            rotate_left; · intro w'; go_simp; with_reducible rfl
            rotate_left; · simp only [Act.put, P2_1, P2_2, P2_3, i64_w, i32_w]; rfl
            refine take_ (i := 1) (N := some 16) (v := ?_) (a' := ?_) M2_2 rfl rfl (take_ofW HT_.out HW_.out (by kernel_rfl)) (fun _ _ _ h => h) (Or.inl ⟨by rfl, ?_⟩) hHeld ?_ ?_
            rotate_left; · rintro w' ⟨s0, s1, s2⟩; go_simp; with_reducible rfl
            rotate_left; · simp only [Act.put, P2_1, P2_2, P2_3, i64_w, i32_w]; rfl
            refine one_ (i := 2) (N := some 17) M2_3 rfl rfl (one_of HT_.out (by kernel_rfl)) (by decide) (fun K hK => ?_)
            refine goes_ Try.func44 (by kernel_rfl) rfl #[.int .i64 ((rd_T36 l0 x10_1).f0), .int .i64 1, .int .i64 999] (by rfl) rfl rfl (by (try simp only [List.map_toArray, List.map_cons, List.map_nil]); first | done | rfl | (simp only [List.length_drop, List.length_take]; rfl)) ?_
            with_reducible refine (impl_InRange.calls ((rd_T36 l0 x10_1).f0) 1 999 true _ A6.out).mono ?_
            rintro e w' ⟨rfl, ⟨nd, rfl⟩⟩
            refine ⟨_, rfl, ?_⟩
            refine hK.out _ _ ⟨(blk_cell BK152.out 0).trans rfl, (blk_cell BK152.out 1).trans rfl, (blk_cell BK152.out 2).trans rfl⟩ (fun hHeld => ?_)
            clear hK K
            refine norm_ (a' := ?_) ?_ ?_
            rotate_left
            ·
             show Act.put _ (some 17) _ = _
             simp only [Act.put, P2_1, P2_2, P2_3, i64_w, i32_w]
             rfl
            refine pure_ (i := 3) (N := some 18) (v := ?_) (a' := ?_) M2_4 rfl rfl (any_of HT_.out (by kernel_rfl)) (fun _ _ _ h => h) (Or.inl ⟨by rfl, ?_⟩) ?_ ?_
            rotate_left; · intro w'; go_simp; with_reducible rfl
            rotate_left; · simp only [Act.put, P2_1, P2_2, P2_3, i64_w, i32_w]; rfl
            refine pure_ (i := 4) (N := some 19) (v := ?_) (a' := ?_) M2_5 rfl rfl (any_of HT_.out (by kernel_rfl)) (fun _ _ _ h => h) (Or.inl ⟨by rfl, ?_⟩) ?_ ?_
            rotate_left; · intro w'; go_simp; with_reducible rfl
            rotate_left; · simp only [Act.put, P2_1, P2_2, P2_3, i64_w, i32_w]; rfl
            refine pure_ (i := 5) (N := some 20) (v := ?_) (a' := ?_) M2_6 rfl rfl (any_of HT_.out (by kernel_rfl)) (fun _ _ _ h => h) (Or.inl ⟨by rfl, ?_⟩) ?_ ?_
            rotate_left; · intro w'; go_simp; with_reducible rfl
            rotate_left; · simp only [Act.put, P2_1, P2_2, P2_3, i64_w, i32_w]; rfl
            refine pure_ (i := 6) (N := some 21) (v := ?_) (a' := ?_) M2_7 rfl rfl (any_of HT_.out (by kernel_rfl)) (fun _ _ _ h => h) (Or.inl ⟨by rfl, ?_⟩) ?_ ?_
            rotate_left; · intro w'; go_simp; with_reducible rfl
            rotate_left; · simp only [Act.put, P2_1, P2_2, P2_3, i64_w, i32_w]; rfl
            refine pure_ (i := 7) (N := some 22) (v := ?_) (a' := ?_) M2_8 rfl rfl (any_of HT_.out (by kernel_rfl)) (fun _ _ _ h => h) (Or.inl ⟨by rfl, ?_⟩) ?_ ?_
            rotate_left; · intro w'; go_simp; with_reducible rfl
            rotate_left; · simp only [Act.put, P2_1, P2_2, P2_3, i64_w, i32_w]; rfl
            refine pure_ (i := 8) (N := some 23) (v := undef) (a' := ?_) M2_9 rfl rfl (any_of HT_.out (by kernel_rfl)) (fun _ _ _ h => h) (Or.inr ⟨by rfl, rfl⟩) ?_ ?_
            rotate_left; · simp only [Act.put, P2_1, P2_2, P2_3, i64_w, i32_w]; rfl
            refine pure_ (i := 9) (N := some 24) (v := undef) (a' := ?_) M2_38 rfl rfl (any_of HT_.out (by kernel_rfl)) (fun _ _ _ h => h) (Or.inr ⟨by rfl, rfl⟩) ?_ ?_
            rotate_left; · simp only [Act.put, P2_1, P2_2, P2_3, i64_w, i32_w]; rfl
            refine pure_ (i := 10) (N := some 25) (v := undef) (a' := ?_) M2_39 rfl rfl (any_of HT_.out (by kernel_rfl)) (fun _ _ _ h => h) (Or.inr ⟨by rfl, rfl⟩) ?_ ?_
            rotate_left; · simp only [Act.put, P2_1, P2_2, P2_3, i64_w, i32_w]; rfl
            refine pure_ (i := 11) (N := some 26) (v := undef) (a' := ?_) M2_40 rfl rfl (any_of HT_.out (by kernel_rfl)) (fun _ _ _ h => h) (Or.inr ⟨by rfl, rfl⟩) ?_ ?_
            rotate_left; · simp only [Act.put, P2_1, P2_2, P2_3, i64_w, i32_w]; rfl
            refine pure_ (i := 12) (N := some 27) (v := undef) (a' := ?_) M2_41 rfl rfl (any_of HT_.out (by kernel_rfl)) (fun _ _ _ h => h) (Or.inr ⟨by rfl, rfl⟩) ?_ ?_
            rotate_left; · simp only [Act.put, P2_1, P2_2, P2_3, i64_w, i32_w]; rfl
            refine pure_ (i := 13) (N := some 28) (v := undef) (a' := ?_) M2_42 rfl rfl (any_of HT_.out (by kernel_rfl)) (fun _ _ _ h => h) (Or.inr ⟨by rfl, rfl⟩) ?_ ?_
            rotate_left; · simp only [Act.put, P2_1, P2_2, P2_3, i64_w, i32_w]; rfl
            refine pure_ (i := 14) (N := some 29) (v := undef) (a' := ?_) M2_15 rfl rfl (any_of HT_.out (by kernel_rfl)) (fun _ _ _ h => h) (Or.inr ⟨by rfl, rfl⟩) ?_ ?_
            rotate_left; · simp only [Act.put, P2_1, P2_2, P2_3, i64_w, i32_w]; rfl
            refine pure_ (i := 15) (N := some 30) (v := undef) (a' := ?_) M2_16 rfl rfl (any_of HT_.out (by kernel_rfl)) (fun _ _ _ h => h) (Or.inr ⟨by rfl, rfl⟩) ?_ ?_
            rotate_left; · simp only [Act.put, P2_1, P2_2, P2_3, i64_w, i32_w]; rfl
            refine pure_ (i := 16) (N := some 31) (v := undef) (a' := ?_) M2_17 rfl rfl (any_of HT_.out (by kernel_rfl)) (fun _ _ _ h => h) (Or.inr ⟨by rfl, rfl⟩) ?_ ?_
            rotate_left; · simp only [Act.put, P2_1, P2_2, P2_3, i64_w, i32_w]; rfl
            refine pure_ (i := 17) (N := some 32) (v := ?_) (a' := ?_) M2_18 rfl rfl (any_of HT_.out (by kernel_rfl)) (fun _ _ _ h => h) (Or.inl ⟨by rfl, ?_⟩) ?_ ?_
            rotate_left; · intro w'; go_simp; with_reducible rfl
            rotate_left; · simp only [Act.put, P2_1, P2_2, P2_3, i64_w, i32_w]; rfl
            refine pure_ (i := 18) (N := some 33) (v := ?_) (a' := ?_) M2_19 rfl rfl (any_of HT_.out (by kernel_rfl)) (fun _ _ _ h => h) (Or.inl ⟨by rfl, ?_⟩) ?_ ?_
            rotate_left; · intro w'; go_simp; with_reducible rfl
            rotate_left; · simp only [Act.put, P2_1, P2_2, P2_3, i64_w, i32_w]; rfl
            refine pure_ (i := 19) (N := some 34) (v := ?_) (a' := ?_) M2_20 rfl rfl (any_of HT_.out (by kernel_rfl)) (fun _ _ _ h => h) (Or.inl ⟨by rfl, ?_⟩) ?_ ?_
            rotate_left; · intro w'; go_simp; with_reducible rfl
            rotate_left; · simp only [Act.put, P2_1, P2_2, P2_3, i64_w, i32_w]; rfl
            refine pure_ (i := 20) (N := some 35) (v := ?_) (a' := ?_) M2_21 rfl rfl (any_of HT_.out (by kernel_rfl)) (fun _ _ _ h => h) (Or.inl ⟨by rfl, ?_⟩) ?_ ?_
            rotate_left; · intro w'; go_simp; with_reducible rfl
            rotate_left; · simp only [Act.put, P2_1, P2_2, P2_3, i64_w, i32_w]; rfl
            refine take_ (i := 21) (N := some 36) (v := ?_) (a' := ?_) M2_22 rfl rfl (take_ofW HT_.out HW_.out (by kernel_rfl)) (fun _ _ _ h => h) (Or.inl ⟨by rfl, ?_⟩) hHeld ?_ ?_
            rotate_left; · rintro w' ⟨s0, s1, s2⟩; go_simp; with_reducible rfl
            rotate_left; · simp only [Act.put, P2_1, P2_2, P2_3, i64_w, i32_w]; rfl
            refine pure_ (i := 22) (N := some 37) (v := ?_) (a' := ?_) M2_23 rfl rfl (any_of HT_.out (by kernel_rfl)) (fun _ _ _ h => h) (Or.inl ⟨by rfl, ?_⟩) ?_ ?_
            rotate_left; · intro w'; go_simp; with_reducible rfl
            rotate_left; · simp only [Act.put, P2_1, P2_2, P2_3, i64_w, i32_w]; rfl
            refine pure_ (i := 23) (N := some 38) (v := ?_) (a' := ?_) M2_24 rfl rfl (any_of HT_.out (by kernel_rfl)) (fun _ _ _ h => h) (Or.inl ⟨by rfl, ?_⟩) ?_ ?_
            rotate_left; · intro w'; go_simp; with_reducible rfl
            rotate_left; · simp only [Act.put, P2_1, P2_2, P2_3, i64_w, i32_w]; rfl
            refine pure_ (i := 24) (N := some 39) (v := ?_) (a' := ?_) M2_25 rfl rfl (any_of HT_.out (by kernel_rfl)) (fun _ _ _ h => h) (Or.inl ⟨by rfl, ?_⟩) ?_ ?_
            rotate_left; · intro w'; go_simp; with_reducible rfl
            rotate_left; · simp only [Act.put, P2_1, P2_2, P2_3, i64_w, i32_w]; rfl
            refine pure_ (i := 25) (N := some 40) (v := ?_) (a' := ?_) M2_26 rfl rfl (any_of HT_.out (by kernel_rfl)) (fun _ _ _ h => h) (Or.inl ⟨by rfl, ?_⟩) ?_ ?_
            rotate_left; · intro w'; go_simp; with_reducible rfl
            rotate_left; · simp only [Act.put, P2_1, P2_2, P2_3, i64_w, i32_w]; rfl
            refine pure_ (i := 26) (N := some 41) (v := ?_) (a' := ?_) M2_27 rfl rfl (any_of HT_.out (by kernel_rfl)) (fun _ _ _ h => h) (Or.inl ⟨by rfl, ?_⟩) ?_ ?_
            rotate_left; · intro w'; go_simp; with_reducible rfl
            rotate_left; · simp only [Act.put, P2_1, P2_2, P2_3, i64_w, i32_w]; rfl
            refine take_ (i := 27) (N := some 42) (v := ?_) (a' := ?_) M2_28 rfl rfl (take_ofW HT_.out HW_.out (by kernel_rfl)) (fun _ _ _ h => h) (Or.inl ⟨by rfl, ?_⟩) hHeld ?_ ?_
            rotate_left; · rintro w' ⟨s0, s1, s2⟩; go_simp; with_reducible rfl
            rotate_left; · simp only [Act.put, P2_1, P2_2, P2_3, i64_w, i32_w]; rfl
            refine one_ (i := 28) (N := some 43) M2_29 rfl rfl (one_of HT_.out (by kernel_rfl)) (by decide) (fun K hK => ?_)
            refine goes_ Try.func45 (by kernel_rfl) rfl #[.slice A151_1 ((rd_T36 l0 x10_1).f1).length c151_1] (by rfl) rfl rfl (by (try simp only [List.map_toArray, List.map_cons, List.map_nil]); first | done | rfl | (simp only [List.length_drop, List.length_take]; rfl)) ?_
            with_reducible refine (impl_AreMarks.calls k1 _ _ ((rd_T36 l0 x10_1).f1) true _ ?side1 ?side2 A46.out).mono ?_
            (case side1 => repeat (first | exact (Kd.C_below HR151_1.out (by repeat (first | (with_reducible first | exact HB.out | apply below_alloc | apply pw_below_drewN | apply below_drew1 | refine below_set ?_ GE152.out) | exact HB.out))) | (with_reducible refine Kd.C_alloc ?_ _) | (with_reducible refine Kd.C_drewN ?_ _) | (with_reducible refine Kd.C_drew ?_)))
            (case side2 => exact HC151_1.out)
            rintro e w54 ⟨rfl, hb⟩
            refine ⟨_, rfl, ?_⟩
            have n0_ := Aside0.mk (blk_below (g := gb152) (o := .cells #[.int .i64 ((rd_T36 l0 x10_1).f0), .slice A151_1 ((rd_T36 l0 x10_1).f1).length c151_1, .int .i64 ((rd_T36 l0 x10_1).f2)] 36 (0, 0)) (by (with_reducible repeat (first | refine blk_drewN ?_ _ | refine blk_drew ?_ | refine blk_alloc ?_ _)); exact BK152.out) hb)
            have n1_ := Aside0.mk (below_step (by repeat (first | (with_reducible first | exact HB.out | apply below_alloc | apply pw_below_drewN | apply below_drew1 | refine below_set ?_ GE152.out) | exact HB.out)) hb)
            clear BK152
            clear HB
            have BK152 := n0_
            have HB := n1_
            clear n0_ n1_
            (try clear hb)
            (try clear hb2)
            (try clear hk)
            (try clear hi)
            refine hK.out _ _ ⟨(blk_cell BK152.out 0).trans rfl, (blk_cell BK152.out 1).trans rfl, (blk_cell BK152.out 2).trans rfl⟩ (fun hHeld => ?_)
            clear hK K
            refine norm_ (a' := ?_) ?_ ?_
            rotate_left
            ·
             show Act.put _ (some 43) _ = _
             simp only [Act.put, P2_1, P2_2, P2_3, i64_w, i32_w]
             rfl
            refine pure_ (i := 29) (N := some 44) (v := ?_) (a' := ?_) M2_30 rfl rfl (any_of HT_.out (by kernel_rfl)) (fun _ _ _ h => h) (Or.inl ⟨by rfl, ?_⟩) ?_ ?_
            rotate_left; · intro w'; go_simp; with_reducible rfl
            rotate_left; · simp only [Act.put, P2_1, P2_2, P2_3, i64_w, i32_w]; rfl
            refine pure_ (i := 30) (N := some 45) (v := ?_) (a' := ?_) M2_31 rfl rfl (any_of HT_.out (by kernel_rfl)) (fun _ _ _ h => h) (Or.inl ⟨by rfl, ?_⟩) ?_ ?_
            rotate_left; · intro w'; go_simp; with_reducible rfl
            rotate_left; · simp only [Act.put, P2_1, P2_2, P2_3, i64_w, i32_w]; rfl
            refine pure_ (i := 31) (N := some 46) (v := ?_) (a' := ?_) M2_32 rfl rfl (any_of HT_.out (by kernel_rfl)) (fun _ _ _ h => h) (Or.inl ⟨by rfl, ?_⟩) ?_ ?_
            rotate_left; · intro w'; go_simp; with_reducible rfl
            rotate_left; · simp only [Act.put, P2_1, P2_2, P2_3, i64_w, i32_w]; rfl
            refine pure_ (i := 32) (N := some 47) (v := ?_) (a' := ?_) M2_33 rfl rfl (any_of HT_.out (by kernel_rfl)) (fun _ _ _ h => h) (Or.inl ⟨by rfl, ?_⟩) ?_ ?_
            rotate_left; · intro w'; go_simp; with_reducible rfl
            rotate_left; · simp only [Act.put, P2_1, P2_2, P2_3, i64_w, i32_w]; rfl
            refine take_ (i := 33) (N := some 48) (v := ?_) (a' := ?_) M2_34 rfl rfl (take_ofW HT_.out HW_.out (by kernel_rfl)) (fun _ _ _ h => h) (Or.inl ⟨by rfl, ?_⟩) hHeld ?_ ?_
            rotate_left; · rintro w' ⟨s0, s1, s2⟩; go_simp; with_reducible rfl
            rotate_left; · simp only [Act.put, P2_1, P2_2, P2_3, i64_w, i32_w]; rfl
            refine one_ (i := 34) (N := some 49) M2_35 rfl rfl (one_of HT_.out (by kernel_rfl)) (by decide) (fun K hK => ?_)
            refine goes_ Try.func44 (by kernel_rfl) rfl #[.int .i64 ((rd_T36 l0 x10_1).f2), .int .i64 0, .int .i64 1000000] (by rfl) rfl rfl (by (try simp only [List.map_toArray, List.map_cons, List.map_nil]); first | done | rfl | (simp only [List.length_drop, List.length_take]; rfl)) ?_
            with_reducible refine (impl_InRange.calls ((rd_T36 l0 x10_1).f2) 0 1000000 true _ A48.out).mono ?_
            rintro e w' ⟨rfl, ⟨nd, rfl⟩⟩
            refine ⟨_, rfl, ?_⟩
            refine hK.out _ _ ⟨(blk_cell BK152.out 0).trans rfl, (blk_cell BK152.out 1).trans rfl, (blk_cell BK152.out 2).trans rfl⟩ (fun hHeld => ?_)
            clear hK K
            refine norm_ (a' := ?_) ?_ ?_
            rotate_left
            ·
             show Act.put _ (some 49) _ = _
             simp only [Act.put, P2_1, P2_2, P2_3, i64_w, i32_w]
             rfl
            refine pure_ (i := 35) (N := some 50) (v := ?_) (a' := ?_) M2_36 rfl rfl (any_of HT_.out (by kernel_rfl)) (fun _ _ _ h => h) (Or.inl ⟨by rfl, ?_⟩) ?_ ?_
            rotate_left; · intro w'; go_simp; with_reducible rfl
            rotate_left; · simp only [Act.put, P2_1, P2_2, P2_3, i64_w, i32_w]; rfl
            refine pure_ (i := 36) (N := some 51) (v := ?_) (a' := ?_) M2_37 rfl rfl (any_of HT_.out (by kernel_rfl)) (fun _ _ _ h => h) (Or.inl ⟨by rfl, ?_⟩) ?_ ?_
            rotate_left; · intro w'; go_simp; with_reducible rfl
            rotate_left; · simp only [Act.put, P2_1, P2_2, P2_3, i64_w, i32_w]; rfl
            refine done_ (done_of HT_.out (by kernel_rfl)) ?_
            try go_wp2
            go_roundg k1
            case measure => have := HK1.out; omega
            case rel => exact ⟨(wrap64 (x10_1 + 1)), (by first | rfl | (simp; done) | (simp [*]; done)), H', ⟨by have := HK1.out; omega⟩, ⟨by repeat (first | (with_reducible first | exact HB.out | apply below_alloc | apply pw_below_drewN | apply below_drew1 | refine below_set ?_ GE152.out) | exact HB.out)⟩⟩
           ·
            replace c49 := Bool.eq_false_iff.mpr c49
            subst c49
            have H1 : (some false) = some r := by rw [if_neg (show ¬ (false = true) by decide)] at H; exact H
            clear H
            have H := H1
            clear H1
            obtain rfl := Option.some.inj H
            have p151 : 0 ≤ (x10_1 : Int) := of_decide_eq_true (by first | (with_reducible assumption) | assumption)
            have q151 : x10_1 < (l0.length : Int) := of_decide_eq_true (by first | (with_reducible assumption) | assumption)
            obtain ⟨ad151, A151_1, c151_1, e151, hx151_0, hx151_1, hx151_2, hl151_1, hi151_1⟩ := at_T36 HR0.out x10_1 p151 q151
            cases e151
            replace hx151_0 := (HB.out.cell (World.block_lt_of_cell? w _ hx151_0)).trans hx151_0
            replace hx151_1 := (HB.out.cell (World.block_lt_of_cell? w _ hx151_1)).trans hx151_1
            replace hx151_2 := (HB.out.cell (World.block_lt_of_cell? w _ hx151_2)).trans hx151_2
            have HR151_1 := Aside0.mk hi151_1
            have HC151_1 := Aside0.mk hl151_1
            clear hi151_1 hl151_1
            replace p151 := eq_true p151
            replace q151 := eq_true q151
            try go_wp2_with (first | ((with_reducible refine gate_dst (N := 4) rfl ?_); (try (refine gate_guard (by rfl) ?_; dsimp only)); refine box_event ?hg (N := 4) ?hd (cs := #[.int .i64 0, .slice none 0 0, .int .i64 0]) (t := 36) ?hr ?_; (case hd => rfl); (case hg => rfl); (case hr => first | (go_simp; done) | (go_simp; rfl)); intro gb152 hg w55 hbox hb; have n0_ := Aside0.mk (below_step (by repeat (first | (with_reducible first | exact HB.out | apply below_alloc | apply pw_below_drewN | apply below_drew1) | exact HB.out)) hb); have n1_ := Aside0.mk (hbox); have n2_ := Aside0.mk ((by rw [hg]; exact (below_size (by repeat (first | (with_reducible first | exact HB.out | apply below_alloc | apply pw_below_drewN | apply below_drew1) | exact HB.out))) : w.heap.size ≤ gb152)); have n3_ := Aside0.mk ((by rw [hg]; exact (below_size (by repeat (first | (with_reducible first | exact HB.out | apply below_alloc | apply pw_below_drewN | apply below_drew1) | exact HB.out))) : w.heap.size ≤ gb152)); clear HB; have HB := n0_; have BK152 := n1_; have GW152 := n2_; have GE152 := n3_; clear n0_ n1_ n2_ n3_; clear hb hbox hg; have hcz56_0 : w55.cell? ⟨gb152, 0, none⟩ = some (.int .i64 0) := (blk_cell BK152.out 0).trans rfl; have hcz56_1 : w55.cell? ⟨gb152, 1, none⟩ = some (.slice none 0 0) := (blk_cell BK152.out 1).trans rfl; have hcz56_2 : w55.cell? ⟨gb152, 2, none⟩ = some (.int .i64 0) := (blk_cell BK152.out 2).trans rfl; have hfz56_0 := blk_frozen BK152.out 0; have hfz56_1 := blk_frozen BK152.out 1; have hfz56_2 := blk_frozen BK152.out 2))
            have n0_ : Aside0 ((((w55.setCell ⟨gb152, 0, none⟩ (.int .i64 ((rd_T36 l0 x10_1).f0))).setCell ⟨gb152, 1, none⟩ (.slice A151_1 ((rd_T36 l0 x10_1).f1).length c151_1)).setCell ⟨gb152, 2, none⟩ (.int .i64 ((rd_T36 l0 x10_1).f2))).heap[gb152]? = some (.cells #[.int .i64 ((rd_T36 l0 x10_1).f0), .slice A151_1 ((rd_T36 l0 x10_1).f1).length c151_1, .int .i64 ((rd_T36 l0 x10_1).f2)] 36 (0, 0))) := ⟨by (with_reducible repeat (first | refine blk_drewN ?_ _ | refine blk_drew ?_ | refine blk_alloc ?_ _)); refine blk_put (cs := #[.int .i64 ((rd_T36 l0 x10_1).f0), .slice A151_1 ((rd_T36 l0 x10_1).f1).length c151_1, .int .i64 0]) ?_ 2 _ rfl; (with_reducible repeat (first | refine blk_drewN ?_ _ | refine blk_drew ?_ | refine blk_alloc ?_ _)); refine blk_put (cs := #[.int .i64 ((rd_T36 l0 x10_1).f0), .slice none 0 0, .int .i64 0]) ?_ 1 _ rfl; (with_reducible repeat (first | refine blk_drewN ?_ _ | refine blk_drew ?_ | refine blk_alloc ?_ _)); refine blk_put (cs := #[.int .i64 0, .slice none 0 0, .int .i64 0]) ?_ 0 _ rfl; (with_reducible repeat (first | refine blk_drewN ?_ _ | refine blk_drew ?_ | refine blk_alloc ?_ _)); exact BK152.out⟩
            have n1_ : Aside0 (Below w.heap.size w (((w55.setCell ⟨gb152, 0, none⟩ (.int .i64 ((rd_T36 l0 x10_1).f0))).setCell ⟨gb152, 1, none⟩ (.slice A151_1 ((rd_T36 l0 x10_1).f1).length c151_1)).setCell ⟨gb152, 2, none⟩ (.int .i64 ((rd_T36 l0 x10_1).f2)))) := ⟨by repeat (first | (with_reducible first | exact HB.out | apply below_alloc | apply pw_below_drewN | apply below_drew1 | refine below_set ?_ GE152.out) | exact HB.out)⟩
            (try clear BK152)
            (try clear HB)
            generalize (((w55.setCell ⟨gb152, 0, none⟩ (.int .i64 ((rd_T36 l0 x10_1).f0))).setCell ⟨gb152, 1, none⟩ (.slice A151_1 ((rd_T36 l0 x10_1).f1).length c151_1)).setCell ⟨gb152, 2, none⟩ (.int .i64 ((rd_T36 l0 x10_1).f2))) = w57 at n0_ n1_ ⊢
            have BK152 := n0_
            have HB := n1_
            clear n0_ n1_
            have n0_ := Aside0.mk (blk_drew BK152.out)
            have n1_ := Aside0.mk (below_drew1 HB.out)
            clear BK152
            clear HB
            have BK152 := n0_
            have HB := n1_
            clear n0_ n1_
            refine start_ (n := 37) (S := fun w' => w'.cell? ⟨gb152, 0, none⟩ = some (.int .i64 ((rd_T36 l0 x10_1).f0)) ∧ w'.cell? ⟨gb152, 1, none⟩ = some (.slice A151_1 ((rd_T36 l0 x10_1).f1).length c151_1) ∧ w'.cell? ⟨gb152, 2, none⟩ = some (.int .i64 ((rd_T36 l0 x10_1).f2))) (ds := []) M2_0 (by kernel_rfl) rfl rfl ⟨(blk_cell BK152.out 0).trans rfl, (blk_cell BK152.out 1).trans rfl, (blk_cell BK152.out 2).trans rfl⟩ (fun hHeld => ?_); refine with_tabW impl_AreSecrets.tab6 impl_AreSecrets.bits6 (fun HT_ HW_ => ?_)
            generalize w57.drew = w58 at BK152 HB hHeld ⊢
            refine pure_ (i := 0) (N := some 15) (v := ?_) (a' := ?_) M2_1 rfl rfl (any_of HT_.out (by kernel_rfl)) (fun _ _ _ h => h) (Or.inl ⟨by rfl, ?_⟩) ?_ ?_
            rotate_left; · intro w'; go_simp; with_reducible rfl
            rotate_left; · simp only [Act.put, P2_1, P2_2, P2_3, i64_w, i32_w]; rfl
            refine take_ (i := 1) (N := some 16) (v := ?_) (a' := ?_) M2_2 rfl rfl (take_ofW HT_.out HW_.out (by kernel_rfl)) (fun _ _ _ h => h) (Or.inl ⟨by rfl, ?_⟩) hHeld ?_ ?_
            rotate_left; · rintro w' ⟨s0, s1, s2⟩; go_simp; with_reducible rfl
            rotate_left; · simp only [Act.put, P2_1, P2_2, P2_3, i64_w, i32_w]; rfl
            refine one_ (i := 2) (N := some 17) M2_3 rfl rfl (one_of HT_.out (by kernel_rfl)) (by decide) (fun K hK => ?_)
            refine goes_ Try.func44 (by kernel_rfl) rfl #[.int .i64 ((rd_T36 l0 x10_1).f0), .int .i64 1, .int .i64 999] (by rfl) rfl rfl (by (try simp only [List.map_toArray, List.map_cons, List.map_nil]); first | done | rfl | (simp only [List.length_drop, List.length_take]; rfl)) ?_
            with_reducible refine (impl_InRange.calls ((rd_T36 l0 x10_1).f0) 1 999 true _ A6.out).mono ?_
            rintro e w' ⟨rfl, ⟨nd, rfl⟩⟩
            refine ⟨_, rfl, ?_⟩
            refine hK.out _ _ ⟨(blk_cell BK152.out 0).trans rfl, (blk_cell BK152.out 1).trans rfl, (blk_cell BK152.out 2).trans rfl⟩ (fun hHeld => ?_)
            clear hK K
            refine norm_ (a' := ?_) ?_ ?_
            rotate_left
            ·
             show Act.put _ (some 17) _ = _
             simp only [Act.put, P2_1, P2_2, P2_3, i64_w, i32_w]
             rfl
            refine pure_ (i := 3) (N := some 18) (v := ?_) (a' := ?_) M2_4 rfl rfl (any_of HT_.out (by kernel_rfl)) (fun _ _ _ h => h) (Or.inl ⟨by rfl, ?_⟩) ?_ ?_
            rotate_left; · intro w'; go_simp; with_reducible rfl
            rotate_left; · simp only [Act.put, P2_1, P2_2, P2_3, i64_w, i32_w]; rfl
            refine pure_ (i := 4) (N := some 19) (v := ?_) (a' := ?_) M2_5 rfl rfl (any_of HT_.out (by kernel_rfl)) (fun _ _ _ h => h) (Or.inl ⟨by rfl, ?_⟩) ?_ ?_
            rotate_left; · intro w'; go_simp; with_reducible rfl
            rotate_left; · simp only [Act.put, P2_1, P2_2, P2_3, i64_w, i32_w]; rfl
            refine pure_ (i := 5) (N := some 20) (v := ?_) (a' := ?_) M2_6 rfl rfl (any_of HT_.out (by kernel_rfl)) (fun _ _ _ h => h) (Or.inl ⟨by rfl, ?_⟩) ?_ ?_
            rotate_left; · intro w'; go_simp; with_reducible rfl
            rotate_left; · simp only [Act.put, P2_1, P2_2, P2_3, i64_w, i32_w]; rfl
            refine pure_ (i := 6) (N := some 21) (v := ?_) (a' := ?_) M2_7 rfl rfl (any_of HT_.out (by kernel_rfl)) (fun _ _ _ h => h) (Or.inl ⟨by rfl, ?_⟩) ?_ ?_
            rotate_left; · intro w'; go_simp; with_reducible rfl
            rotate_left; · simp only [Act.put, P2_1, P2_2, P2_3, i64_w, i32_w]; rfl
            refine pure_ (i := 7) (N := some 22) (v := ?_) (a' := ?_) M2_8 rfl rfl (any_of HT_.out (by kernel_rfl)) (fun _ _ _ h => h) (Or.inl ⟨by rfl, ?_⟩) ?_ ?_
            rotate_left; · intro w'; go_simp; with_reducible rfl
            rotate_left; · simp only [Act.put, P2_1, P2_2, P2_3, i64_w, i32_w]; rfl
            refine pure_ (i := 8) (N := some 23) (v := undef) (a' := ?_) M2_9 rfl rfl (any_of HT_.out (by kernel_rfl)) (fun _ _ _ h => h) (Or.inr ⟨by rfl, rfl⟩) ?_ ?_
            rotate_left; · simp only [Act.put, P2_1, P2_2, P2_3, i64_w, i32_w]; rfl
            refine pure_ (i := 9) (N := some 24) (v := undef) (a' := ?_) M2_38 rfl rfl (any_of HT_.out (by kernel_rfl)) (fun _ _ _ h => h) (Or.inr ⟨by rfl, rfl⟩) ?_ ?_
            rotate_left; · simp only [Act.put, P2_1, P2_2, P2_3, i64_w, i32_w]; rfl
            refine pure_ (i := 10) (N := some 25) (v := undef) (a' := ?_) M2_39 rfl rfl (any_of HT_.out (by kernel_rfl)) (fun _ _ _ h => h) (Or.inr ⟨by rfl, rfl⟩) ?_ ?_
            rotate_left; · simp only [Act.put, P2_1, P2_2, P2_3, i64_w, i32_w]; rfl
            refine pure_ (i := 11) (N := some 26) (v := undef) (a' := ?_) M2_40 rfl rfl (any_of HT_.out (by kernel_rfl)) (fun _ _ _ h => h) (Or.inr ⟨by rfl, rfl⟩) ?_ ?_
            rotate_left; · simp only [Act.put, P2_1, P2_2, P2_3, i64_w, i32_w]; rfl
            refine pure_ (i := 12) (N := some 27) (v := undef) (a' := ?_) M2_41 rfl rfl (any_of HT_.out (by kernel_rfl)) (fun _ _ _ h => h) (Or.inr ⟨by rfl, rfl⟩) ?_ ?_
            rotate_left; · simp only [Act.put, P2_1, P2_2, P2_3, i64_w, i32_w]; rfl
            refine pure_ (i := 13) (N := some 28) (v := undef) (a' := ?_) M2_42 rfl rfl (any_of HT_.out (by kernel_rfl)) (fun _ _ _ h => h) (Or.inr ⟨by rfl, rfl⟩) ?_ ?_
            rotate_left; · simp only [Act.put, P2_1, P2_2, P2_3, i64_w, i32_w]; rfl
            refine pure_ (i := 14) (N := some 29) (v := undef) (a' := ?_) M2_15 rfl rfl (any_of HT_.out (by kernel_rfl)) (fun _ _ _ h => h) (Or.inr ⟨by rfl, rfl⟩) ?_ ?_
            rotate_left; · simp only [Act.put, P2_1, P2_2, P2_3, i64_w, i32_w]; rfl
            refine pure_ (i := 15) (N := some 30) (v := undef) (a' := ?_) M2_16 rfl rfl (any_of HT_.out (by kernel_rfl)) (fun _ _ _ h => h) (Or.inr ⟨by rfl, rfl⟩) ?_ ?_
            rotate_left; · simp only [Act.put, P2_1, P2_2, P2_3, i64_w, i32_w]; rfl
            refine pure_ (i := 16) (N := some 31) (v := undef) (a' := ?_) M2_17 rfl rfl (any_of HT_.out (by kernel_rfl)) (fun _ _ _ h => h) (Or.inr ⟨by rfl, rfl⟩) ?_ ?_
            rotate_left; · simp only [Act.put, P2_1, P2_2, P2_3, i64_w, i32_w]; rfl
            refine pure_ (i := 17) (N := some 32) (v := ?_) (a' := ?_) M2_18 rfl rfl (any_of HT_.out (by kernel_rfl)) (fun _ _ _ h => h) (Or.inl ⟨by rfl, ?_⟩) ?_ ?_
            rotate_left; · intro w'; go_simp; with_reducible rfl
            rotate_left; · simp only [Act.put, P2_1, P2_2, P2_3, i64_w, i32_w]; rfl
            refine pure_ (i := 18) (N := some 33) (v := ?_) (a' := ?_) M2_19 rfl rfl (any_of HT_.out (by kernel_rfl)) (fun _ _ _ h => h) (Or.inl ⟨by rfl, ?_⟩) ?_ ?_
            rotate_left; · intro w'; go_simp; with_reducible rfl
            rotate_left; · simp only [Act.put, P2_1, P2_2, P2_3, i64_w, i32_w]; rfl
            refine pure_ (i := 19) (N := some 34) (v := ?_) (a' := ?_) M2_20 rfl rfl (any_of HT_.out (by kernel_rfl)) (fun _ _ _ h => h) (Or.inl ⟨by rfl, ?_⟩) ?_ ?_
            rotate_left; · intro w'; go_simp; with_reducible rfl
            rotate_left; · simp only [Act.put, P2_1, P2_2, P2_3, i64_w, i32_w]; rfl
            refine pure_ (i := 20) (N := some 35) (v := ?_) (a' := ?_) M2_21 rfl rfl (any_of HT_.out (by kernel_rfl)) (fun _ _ _ h => h) (Or.inl ⟨by rfl, ?_⟩) ?_ ?_
            rotate_left; · intro w'; go_simp; with_reducible rfl
            rotate_left; · simp only [Act.put, P2_1, P2_2, P2_3, i64_w, i32_w]; rfl
            refine take_ (i := 21) (N := some 36) (v := ?_) (a' := ?_) M2_22 rfl rfl (take_ofW HT_.out HW_.out (by kernel_rfl)) (fun _ _ _ h => h) (Or.inl ⟨by rfl, ?_⟩) hHeld ?_ ?_
            rotate_left; · rintro w' ⟨s0, s1, s2⟩; go_simp; with_reducible rfl
            rotate_left; · simp only [Act.put, P2_1, P2_2, P2_3, i64_w, i32_w]; rfl
            refine pure_ (i := 22) (N := some 37) (v := ?_) (a' := ?_) M2_23 rfl rfl (any_of HT_.out (by kernel_rfl)) (fun _ _ _ h => h) (Or.inl ⟨by rfl, ?_⟩) ?_ ?_
            rotate_left; · intro w'; go_simp; with_reducible rfl
            rotate_left; · simp only [Act.put, P2_1, P2_2, P2_3, i64_w, i32_w]; rfl
            refine pure_ (i := 23) (N := some 38) (v := ?_) (a' := ?_) M2_24 rfl rfl (any_of HT_.out (by kernel_rfl)) (fun _ _ _ h => h) (Or.inl ⟨by rfl, ?_⟩) ?_ ?_
            rotate_left; · intro w'; go_simp; with_reducible rfl
            rotate_left; · simp only [Act.put, P2_1, P2_2, P2_3, i64_w, i32_w]; rfl
            refine pure_ (i := 24) (N := some 39) (v := ?_) (a' := ?_) M2_25 rfl rfl (any_of HT_.out (by kernel_rfl)) (fun _ _ _ h => h) (Or.inl ⟨by rfl, ?_⟩) ?_ ?_
            rotate_left; · intro w'; go_simp; with_reducible rfl
            rotate_left; · simp only [Act.put, P2_1, P2_2, P2_3, i64_w, i32_w]; rfl
            refine pure_ (i := 25) (N := some 40) (v := ?_) (a' := ?_) M2_26 rfl rfl (any_of HT_.out (by kernel_rfl)) (fun _ _ _ h => h) (Or.inl ⟨by rfl, ?_⟩) ?_ ?_
            rotate_left; · intro w'; go_simp; with_reducible rfl
            rotate_left; · simp only [Act.put, P2_1, P2_2, P2_3, i64_w, i32_w]; rfl
            refine pure_ (i := 26) (N := some 41) (v := ?_) (a' := ?_) M2_27 rfl rfl (any_of HT_.out (by kernel_rfl)) (fun _ _ _ h => h) (Or.inl ⟨by rfl, ?_⟩) ?_ ?_
            rotate_left; · intro w'; go_simp; with_reducible rfl
            rotate_left; · simp only [Act.put, P2_1, P2_2, P2_3, i64_w, i32_w]; rfl
            refine take_ (i := 27) (N := some 42) (v := ?_) (a' := ?_) M2_28 rfl rfl (take_ofW HT_.out HW_.out (by kernel_rfl)) (fun _ _ _ h => h) (Or.inl ⟨by rfl, ?_⟩) hHeld ?_ ?_
            rotate_left; · rintro w' ⟨s0, s1, s2⟩; go_simp; with_reducible rfl
            rotate_left; · simp only [Act.put, P2_1, P2_2, P2_3, i64_w, i32_w]; rfl
            refine one_ (i := 28) (N := some 43) M2_29 rfl rfl (one_of HT_.out (by kernel_rfl)) (by decide) (fun K hK => ?_)
            refine goes_ Try.func45 (by kernel_rfl) rfl #[.slice A151_1 ((rd_T36 l0 x10_1).f1).length c151_1] (by rfl) rfl rfl (by (try simp only [List.map_toArray, List.map_cons, List.map_nil]); first | done | rfl | (simp only [List.length_drop, List.length_take]; rfl)) ?_
            with_reducible refine (impl_AreMarks.calls k1 _ _ ((rd_T36 l0 x10_1).f1) true _ ?side1 ?side2 A46.out).mono ?_
            (case side1 => repeat (first | exact (Kd.C_below HR151_1.out (by repeat (first | (with_reducible first | exact HB.out | apply below_alloc | apply pw_below_drewN | apply below_drew1 | refine below_set ?_ GE152.out) | exact HB.out))) | (with_reducible refine Kd.C_alloc ?_ _) | (with_reducible refine Kd.C_drewN ?_ _) | (with_reducible refine Kd.C_drew ?_)))
            (case side2 => exact HC151_1.out)
            rintro e w59 ⟨rfl, hb⟩
            refine ⟨_, rfl, ?_⟩
            have n0_ := Aside0.mk (blk_below (g := gb152) (o := .cells #[.int .i64 ((rd_T36 l0 x10_1).f0), .slice A151_1 ((rd_T36 l0 x10_1).f1).length c151_1, .int .i64 ((rd_T36 l0 x10_1).f2)] 36 (0, 0)) (by (with_reducible repeat (first | refine blk_drewN ?_ _ | refine blk_drew ?_ | refine blk_alloc ?_ _)); exact BK152.out) hb)
            have n1_ := Aside0.mk (below_step (by repeat (first | (with_reducible first | exact HB.out | apply below_alloc | apply pw_below_drewN | apply below_drew1 | refine below_set ?_ GE152.out) | exact HB.out)) hb)
            clear BK152
            clear HB
            have BK152 := n0_
            have HB := n1_
            clear n0_ n1_
            (try clear hb)
            (try clear hb2)
            (try clear hk)
            (try clear hi)
            refine hK.out _ _ ⟨(blk_cell BK152.out 0).trans rfl, (blk_cell BK152.out 1).trans rfl, (blk_cell BK152.out 2).trans rfl⟩ (fun hHeld => ?_)
            clear hK K
            refine norm_ (a' := ?_) ?_ ?_
            rotate_left
            ·
             show Act.put _ (some 43) _ = _
             simp only [Act.put, P2_1, P2_2, P2_3, i64_w, i32_w]
             rfl
            refine pure_ (i := 29) (N := some 44) (v := ?_) (a' := ?_) M2_30 rfl rfl (any_of HT_.out (by kernel_rfl)) (fun _ _ _ h => h) (Or.inl ⟨by rfl, ?_⟩) ?_ ?_
            rotate_left; · intro w'; go_simp; with_reducible rfl
            rotate_left; · simp only [Act.put, P2_1, P2_2, P2_3, i64_w, i32_w]; rfl
            refine pure_ (i := 30) (N := some 45) (v := ?_) (a' := ?_) M2_31 rfl rfl (any_of HT_.out (by kernel_rfl)) (fun _ _ _ h => h) (Or.inl ⟨by rfl, ?_⟩) ?_ ?_
            rotate_left; · intro w'; go_simp; with_reducible rfl
            rotate_left; · simp only [Act.put, P2_1, P2_2, P2_3, i64_w, i32_w]; rfl
            refine pure_ (i := 31) (N := some 46) (v := ?_) (a' := ?_) M2_32 rfl rfl (any_of HT_.out (by kernel_rfl)) (fun _ _ _ h => h) (Or.inl ⟨by rfl, ?_⟩) ?_ ?_
            rotate_left; · intro w'; go_simp; with_reducible rfl
            rotate_left; · simp only [Act.put, P2_1, P2_2, P2_3, i64_w, i32_w]; rfl
            refine pure_ (i := 32) (N := some 47) (v := ?_) (a' := ?_) M2_33 rfl rfl (any_of HT_.out (by kernel_rfl)) (fun _ _ _ h => h) (Or.inl ⟨by rfl, ?_⟩) ?_ ?_
            rotate_left; · intro w'; go_simp; with_reducible rfl
            rotate_left; · simp only [Act.put, P2_1, P2_2, P2_3, i64_w, i32_w]; rfl
            refine take_ (i := 33) (N := some 48) (v := ?_) (a' := ?_) M2_34 rfl rfl (take_ofW HT_.out HW_.out (by kernel_rfl)) (fun _ _ _ h => h) (Or.inl ⟨by rfl, ?_⟩) hHeld ?_ ?_
            rotate_left; · rintro w' ⟨s0, s1, s2⟩; go_simp; with_reducible rfl
            rotate_left; · simp only [Act.put, P2_1, P2_2, P2_3, i64_w, i32_w]; rfl
            refine one_ (i := 34) (N := some 49) M2_35 rfl rfl (one_of HT_.out (by kernel_rfl)) (by decide) (fun K hK => ?_)
            refine goes_ Try.func44 (by kernel_rfl) rfl #[.int .i64 ((rd_T36 l0 x10_1).f2), .int .i64 0, .int .i64 1000000] (by rfl) rfl rfl (by (try simp only [List.map_toArray, List.map_cons, List.map_nil]); first | done | rfl | (simp only [List.length_drop, List.length_take]; rfl)) ?_
            with_reducible refine (impl_InRange.calls ((rd_T36 l0 x10_1).f2) 0 1000000 false _ A48.out).mono ?_
            rintro e w' ⟨rfl, ⟨nd, rfl⟩⟩
            refine ⟨_, rfl, ?_⟩
            refine hK.out _ _ ⟨(blk_cell BK152.out 0).trans rfl, (blk_cell BK152.out 1).trans rfl, (blk_cell BK152.out 2).trans rfl⟩ (fun hHeld => ?_)
            clear hK K
            refine norm_ (a' := ?_) ?_ ?_
            rotate_left
            ·
             show Act.put _ (some 49) _ = _
             simp only [Act.put, P2_1, P2_2, P2_3, i64_w, i32_w]
             rfl
            refine pure_ (i := 35) (N := some 50) (v := ?_) (a' := ?_) M2_36 rfl rfl (any_of HT_.out (by kernel_rfl)) (fun _ _ _ h => h) (Or.inl ⟨by rfl, ?_⟩) ?_ ?_
            rotate_left; · intro w'; go_simp; with_reducible rfl
            rotate_left; · simp only [Act.put, P2_1, P2_2, P2_3, i64_w, i32_w]; rfl
            refine pure_ (i := 36) (N := some 51) (v := ?_) (a' := ?_) M2_37 rfl rfl (any_of HT_.out (by kernel_rfl)) (fun _ _ _ h => h) (Or.inl ⟨by rfl, ?_⟩) ?_ ?_
            rotate_left; · intro w'; go_simp; with_reducible rfl
            rotate_left; · simp only [Act.put, P2_1, P2_2, P2_3, i64_w, i32_w]; rfl
            refine done_ (done_of HT_.out (by kernel_rfl)) ?_
            try go_wp2
            go_ret
            exact ⟨by first | rfl | (simp [errW_none, errW_some] <;> rfl) | (simp [*, errW_none, errW_some] <;> rfl), by repeat (first | (with_reducible first | exact HB.out | apply below_alloc | apply pw_below_drewN | apply below_drew1 | refine below_set ?_ GE152.out) | exact HB.out)⟩
          ·
           replace c47 := Bool.eq_false_iff.mpr c47
           subst c47
           have H1 : (some false) = some r := by rw [if_neg (show ¬ (false = true) by decide)] at H; exact H
           clear H
           have H := H1
           clear H1
           obtain rfl := Option.some.inj H
           have p151 : 0 ≤ (x10_1 : Int) := of_decide_eq_true (by first | (with_reducible assumption) | assumption)
           have q151 : x10_1 < (l0.length : Int) := of_decide_eq_true (by first | (with_reducible assumption) | assumption)
           obtain ⟨ad151, A151_1, c151_1, e151, hx151_0, hx151_1, hx151_2, hl151_1, hi151_1⟩ := at_T36 HR0.out x10_1 p151 q151
           cases e151
           replace hx151_0 := (HB.out.cell (World.block_lt_of_cell? w _ hx151_0)).trans hx151_0
           replace hx151_1 := (HB.out.cell (World.block_lt_of_cell? w _ hx151_1)).trans hx151_1
           replace hx151_2 := (HB.out.cell (World.block_lt_of_cell? w _ hx151_2)).trans hx151_2
           have HR151_1 := Aside0.mk hi151_1
           have HC151_1 := Aside0.mk hl151_1
           clear hi151_1 hl151_1
           replace p151 := eq_true p151
           replace q151 := eq_true q151
           try go_wp2_with (first | ((with_reducible refine gate_dst (N := 4) rfl ?_); (try (refine gate_guard (by rfl) ?_; dsimp only)); refine box_event ?hg (N := 4) ?hd (cs := #[.int .i64 0, .slice none 0 0, .int .i64 0]) (t := 36) ?hr ?_; (case hd => rfl); (case hg => rfl); (case hr => first | (go_simp; done) | (go_simp; rfl)); intro gb152 hg w60 hbox hb; have n0_ := Aside0.mk (below_step (by repeat (first | (with_reducible first | exact HB.out | apply below_alloc | apply pw_below_drewN | apply below_drew1) | exact HB.out)) hb); have n1_ := Aside0.mk (hbox); have n2_ := Aside0.mk ((by rw [hg]; exact (below_size (by repeat (first | (with_reducible first | exact HB.out | apply below_alloc | apply pw_below_drewN | apply below_drew1) | exact HB.out))) : w.heap.size ≤ gb152)); have n3_ := Aside0.mk ((by rw [hg]; exact (below_size (by repeat (first | (with_reducible first | exact HB.out | apply below_alloc | apply pw_below_drewN | apply below_drew1) | exact HB.out))) : w.heap.size ≤ gb152)); clear HB; have HB := n0_; have BK152 := n1_; have GW152 := n2_; have GE152 := n3_; clear n0_ n1_ n2_ n3_; clear hb hbox hg; have hcz61_0 : w60.cell? ⟨gb152, 0, none⟩ = some (.int .i64 0) := (blk_cell BK152.out 0).trans rfl; have hcz61_1 : w60.cell? ⟨gb152, 1, none⟩ = some (.slice none 0 0) := (blk_cell BK152.out 1).trans rfl; have hcz61_2 : w60.cell? ⟨gb152, 2, none⟩ = some (.int .i64 0) := (blk_cell BK152.out 2).trans rfl; have hfz61_0 := blk_frozen BK152.out 0; have hfz61_1 := blk_frozen BK152.out 1; have hfz61_2 := blk_frozen BK152.out 2))
           have n0_ : Aside0 ((((w60.setCell ⟨gb152, 0, none⟩ (.int .i64 ((rd_T36 l0 x10_1).f0))).setCell ⟨gb152, 1, none⟩ (.slice A151_1 ((rd_T36 l0 x10_1).f1).length c151_1)).setCell ⟨gb152, 2, none⟩ (.int .i64 ((rd_T36 l0 x10_1).f2))).heap[gb152]? = some (.cells #[.int .i64 ((rd_T36 l0 x10_1).f0), .slice A151_1 ((rd_T36 l0 x10_1).f1).length c151_1, .int .i64 ((rd_T36 l0 x10_1).f2)] 36 (0, 0))) := ⟨by (with_reducible repeat (first | refine blk_drewN ?_ _ | refine blk_drew ?_ | refine blk_alloc ?_ _)); refine blk_put (cs := #[.int .i64 ((rd_T36 l0 x10_1).f0), .slice A151_1 ((rd_T36 l0 x10_1).f1).length c151_1, .int .i64 0]) ?_ 2 _ rfl; (with_reducible repeat (first | refine blk_drewN ?_ _ | refine blk_drew ?_ | refine blk_alloc ?_ _)); refine blk_put (cs := #[.int .i64 ((rd_T36 l0 x10_1).f0), .slice none 0 0, .int .i64 0]) ?_ 1 _ rfl; (with_reducible repeat (first | refine blk_drewN ?_ _ | refine blk_drew ?_ | refine blk_alloc ?_ _)); refine blk_put (cs := #[.int .i64 0, .slice none 0 0, .int .i64 0]) ?_ 0 _ rfl; (with_reducible repeat (first | refine blk_drewN ?_ _ | refine blk_drew ?_ | refine blk_alloc ?_ _)); exact BK152.out⟩
           have n1_ : Aside0 (Below w.heap.size w (((w60.setCell ⟨gb152, 0, none⟩ (.int .i64 ((rd_T36 l0 x10_1).f0))).setCell ⟨gb152, 1, none⟩ (.slice A151_1 ((rd_T36 l0 x10_1).f1).length c151_1)).setCell ⟨gb152, 2, none⟩ (.int .i64 ((rd_T36 l0 x10_1).f2)))) := ⟨by repeat (first | (with_reducible first | exact HB.out | apply below_alloc | apply pw_below_drewN | apply below_drew1 | refine below_set ?_ GE152.out) | exact HB.out)⟩
           (try clear BK152)
           (try clear HB)
           generalize (((w60.setCell ⟨gb152, 0, none⟩ (.int .i64 ((rd_T36 l0 x10_1).f0))).setCell ⟨gb152, 1, none⟩ (.slice A151_1 ((rd_T36 l0 x10_1).f1).length c151_1)).setCell ⟨gb152, 2, none⟩ (.int .i64 ((rd_T36 l0 x10_1).f2))) = w62 at n0_ n1_ ⊢
           have BK152 := n0_
           have HB := n1_
           clear n0_ n1_
           have n0_ := Aside0.mk (blk_drew BK152.out)
           have n1_ := Aside0.mk (below_drew1 HB.out)
           clear BK152
           clear HB
           have BK152 := n0_
           have HB := n1_
           clear n0_ n1_
           refine start_ (n := 37) (S := fun w' => w'.cell? ⟨gb152, 0, none⟩ = some (.int .i64 ((rd_T36 l0 x10_1).f0)) ∧ w'.cell? ⟨gb152, 1, none⟩ = some (.slice A151_1 ((rd_T36 l0 x10_1).f1).length c151_1) ∧ w'.cell? ⟨gb152, 2, none⟩ = some (.int .i64 ((rd_T36 l0 x10_1).f2))) (ds := []) M2_0 (by kernel_rfl) rfl rfl ⟨(blk_cell BK152.out 0).trans rfl, (blk_cell BK152.out 1).trans rfl, (blk_cell BK152.out 2).trans rfl⟩ (fun hHeld => ?_); refine with_tabW impl_AreSecrets.tab6 impl_AreSecrets.bits6 (fun HT_ HW_ => ?_)
           generalize w62.drew = w63 at BK152 HB hHeld ⊢
           refine pure_ (i := 0) (N := some 15) (v := ?_) (a' := ?_) M2_1 rfl rfl (any_of HT_.out (by kernel_rfl)) (fun _ _ _ h => h) (Or.inl ⟨by rfl, ?_⟩) ?_ ?_
           rotate_left; · intro w'; go_simp; with_reducible rfl
           rotate_left; · simp only [Act.put, P2_1, P2_2, P2_3, i64_w, i32_w]; rfl
           refine take_ (i := 1) (N := some 16) (v := ?_) (a' := ?_) M2_2 rfl rfl (take_ofW HT_.out HW_.out (by kernel_rfl)) (fun _ _ _ h => h) (Or.inl ⟨by rfl, ?_⟩) hHeld ?_ ?_
           rotate_left; · rintro w' ⟨s0, s1, s2⟩; go_simp; with_reducible rfl
           rotate_left; · simp only [Act.put, P2_1, P2_2, P2_3, i64_w, i32_w]; rfl
           refine one_ (i := 2) (N := some 17) M2_3 rfl rfl (one_of HT_.out (by kernel_rfl)) (by decide) (fun K hK => ?_)
           refine goes_ Try.func44 (by kernel_rfl) rfl #[.int .i64 ((rd_T36 l0 x10_1).f0), .int .i64 1, .int .i64 999] (by rfl) rfl rfl (by (try simp only [List.map_toArray, List.map_cons, List.map_nil]); first | done | rfl | (simp only [List.length_drop, List.length_take]; rfl)) ?_
           with_reducible refine (impl_InRange.calls ((rd_T36 l0 x10_1).f0) 1 999 true _ A6.out).mono ?_
           rintro e w' ⟨rfl, ⟨nd, rfl⟩⟩
           refine ⟨_, rfl, ?_⟩
           refine hK.out _ _ ⟨(blk_cell BK152.out 0).trans rfl, (blk_cell BK152.out 1).trans rfl, (blk_cell BK152.out 2).trans rfl⟩ (fun hHeld => ?_)
           clear hK K
           refine norm_ (a' := ?_) ?_ ?_
           rotate_left
           ·
            show Act.put _ (some 17) _ = _
            simp only [Act.put, P2_1, P2_2, P2_3, i64_w, i32_w]
            rfl
           refine pure_ (i := 3) (N := some 18) (v := ?_) (a' := ?_) M2_4 rfl rfl (any_of HT_.out (by kernel_rfl)) (fun _ _ _ h => h) (Or.inl ⟨by rfl, ?_⟩) ?_ ?_
           rotate_left; · intro w'; go_simp; with_reducible rfl
           rotate_left; · simp only [Act.put, P2_1, P2_2, P2_3, i64_w, i32_w]; rfl
           refine pure_ (i := 4) (N := some 19) (v := ?_) (a' := ?_) M2_5 rfl rfl (any_of HT_.out (by kernel_rfl)) (fun _ _ _ h => h) (Or.inl ⟨by rfl, ?_⟩) ?_ ?_
           rotate_left; · intro w'; go_simp; with_reducible rfl
           rotate_left; · simp only [Act.put, P2_1, P2_2, P2_3, i64_w, i32_w]; rfl
           refine pure_ (i := 5) (N := some 20) (v := ?_) (a' := ?_) M2_6 rfl rfl (any_of HT_.out (by kernel_rfl)) (fun _ _ _ h => h) (Or.inl ⟨by rfl, ?_⟩) ?_ ?_
           rotate_left; · intro w'; go_simp; with_reducible rfl
           rotate_left; · simp only [Act.put, P2_1, P2_2, P2_3, i64_w, i32_w]; rfl
           refine pure_ (i := 6) (N := some 21) (v := ?_) (a' := ?_) M2_7 rfl rfl (any_of HT_.out (by kernel_rfl)) (fun _ _ _ h => h) (Or.inl ⟨by rfl, ?_⟩) ?_ ?_
           rotate_left; · intro w'; go_simp; with_reducible rfl
           rotate_left; · simp only [Act.put, P2_1, P2_2, P2_3, i64_w, i32_w]; rfl
           refine pure_ (i := 7) (N := some 22) (v := ?_) (a' := ?_) M2_8 rfl rfl (any_of HT_.out (by kernel_rfl)) (fun _ _ _ h => h) (Or.inl ⟨by rfl, ?_⟩) ?_ ?_
           rotate_left; · intro w'; go_simp; with_reducible rfl
           rotate_left; · simp only [Act.put, P2_1, P2_2, P2_3, i64_w, i32_w]; rfl
           refine pure_ (i := 8) (N := some 23) (v := undef) (a' := ?_) M2_9 rfl rfl (any_of HT_.out (by kernel_rfl)) (fun _ _ _ h => h) (Or.inr ⟨by rfl, rfl⟩) ?_ ?_
           rotate_left; · simp only [Act.put, P2_1, P2_2, P2_3, i64_w, i32_w]; rfl
           refine pure_ (i := 9) (N := some 24) (v := undef) (a' := ?_) M2_38 rfl rfl (any_of HT_.out (by kernel_rfl)) (fun _ _ _ h => h) (Or.inr ⟨by rfl, rfl⟩) ?_ ?_
           rotate_left; · simp only [Act.put, P2_1, P2_2, P2_3, i64_w, i32_w]; rfl
           refine pure_ (i := 10) (N := some 25) (v := undef) (a' := ?_) M2_39 rfl rfl (any_of HT_.out (by kernel_rfl)) (fun _ _ _ h => h) (Or.inr ⟨by rfl, rfl⟩) ?_ ?_
           rotate_left; · simp only [Act.put, P2_1, P2_2, P2_3, i64_w, i32_w]; rfl
           refine pure_ (i := 11) (N := some 26) (v := undef) (a' := ?_) M2_40 rfl rfl (any_of HT_.out (by kernel_rfl)) (fun _ _ _ h => h) (Or.inr ⟨by rfl, rfl⟩) ?_ ?_
           rotate_left; · simp only [Act.put, P2_1, P2_2, P2_3, i64_w, i32_w]; rfl
           refine pure_ (i := 12) (N := some 27) (v := undef) (a' := ?_) M2_41 rfl rfl (any_of HT_.out (by kernel_rfl)) (fun _ _ _ h => h) (Or.inr ⟨by rfl, rfl⟩) ?_ ?_
           rotate_left; · simp only [Act.put, P2_1, P2_2, P2_3, i64_w, i32_w]; rfl
           refine pure_ (i := 13) (N := some 28) (v := undef) (a' := ?_) M2_42 rfl rfl (any_of HT_.out (by kernel_rfl)) (fun _ _ _ h => h) (Or.inr ⟨by rfl, rfl⟩) ?_ ?_
           rotate_left; · simp only [Act.put, P2_1, P2_2, P2_3, i64_w, i32_w]; rfl
           refine pure_ (i := 14) (N := some 29) (v := undef) (a' := ?_) M2_15 rfl rfl (any_of HT_.out (by kernel_rfl)) (fun _ _ _ h => h) (Or.inr ⟨by rfl, rfl⟩) ?_ ?_
           rotate_left; · simp only [Act.put, P2_1, P2_2, P2_3, i64_w, i32_w]; rfl
           refine pure_ (i := 15) (N := some 30) (v := undef) (a' := ?_) M2_16 rfl rfl (any_of HT_.out (by kernel_rfl)) (fun _ _ _ h => h) (Or.inr ⟨by rfl, rfl⟩) ?_ ?_
           rotate_left; · simp only [Act.put, P2_1, P2_2, P2_3, i64_w, i32_w]; rfl
           refine pure_ (i := 16) (N := some 31) (v := undef) (a' := ?_) M2_17 rfl rfl (any_of HT_.out (by kernel_rfl)) (fun _ _ _ h => h) (Or.inr ⟨by rfl, rfl⟩) ?_ ?_
           rotate_left; · simp only [Act.put, P2_1, P2_2, P2_3, i64_w, i32_w]; rfl
           refine pure_ (i := 17) (N := some 32) (v := ?_) (a' := ?_) M2_18 rfl rfl (any_of HT_.out (by kernel_rfl)) (fun _ _ _ h => h) (Or.inl ⟨by rfl, ?_⟩) ?_ ?_
           rotate_left; · intro w'; go_simp; with_reducible rfl
           rotate_left; · simp only [Act.put, P2_1, P2_2, P2_3, i64_w, i32_w]; rfl
           refine pure_ (i := 18) (N := some 33) (v := ?_) (a' := ?_) M2_19 rfl rfl (any_of HT_.out (by kernel_rfl)) (fun _ _ _ h => h) (Or.inl ⟨by rfl, ?_⟩) ?_ ?_
           rotate_left; · intro w'; go_simp; with_reducible rfl
           rotate_left; · simp only [Act.put, P2_1, P2_2, P2_3, i64_w, i32_w]; rfl
           refine pure_ (i := 19) (N := some 34) (v := ?_) (a' := ?_) M2_20 rfl rfl (any_of HT_.out (by kernel_rfl)) (fun _ _ _ h => h) (Or.inl ⟨by rfl, ?_⟩) ?_ ?_
           rotate_left; · intro w'; go_simp; with_reducible rfl
           rotate_left; · simp only [Act.put, P2_1, P2_2, P2_3, i64_w, i32_w]; rfl
           refine pure_ (i := 20) (N := some 35) (v := ?_) (a' := ?_) M2_21 rfl rfl (any_of HT_.out (by kernel_rfl)) (fun _ _ _ h => h) (Or.inl ⟨by rfl, ?_⟩) ?_ ?_
           rotate_left; · intro w'; go_simp; with_reducible rfl
           rotate_left; · simp only [Act.put, P2_1, P2_2, P2_3, i64_w, i32_w]; rfl
           refine take_ (i := 21) (N := some 36) (v := ?_) (a' := ?_) M2_22 rfl rfl (take_ofW HT_.out HW_.out (by kernel_rfl)) (fun _ _ _ h => h) (Or.inl ⟨by rfl, ?_⟩) hHeld ?_ ?_
           rotate_left; · rintro w' ⟨s0, s1, s2⟩; go_simp; with_reducible rfl
           rotate_left; · simp only [Act.put, P2_1, P2_2, P2_3, i64_w, i32_w]; rfl
           refine pure_ (i := 22) (N := some 37) (v := ?_) (a' := ?_) M2_23 rfl rfl (any_of HT_.out (by kernel_rfl)) (fun _ _ _ h => h) (Or.inl ⟨by rfl, ?_⟩) ?_ ?_
           rotate_left; · intro w'; go_simp; with_reducible rfl
           rotate_left; · simp only [Act.put, P2_1, P2_2, P2_3, i64_w, i32_w]; rfl
           refine pure_ (i := 23) (N := some 38) (v := ?_) (a' := ?_) M2_24 rfl rfl (any_of HT_.out (by kernel_rfl)) (fun _ _ _ h => h) (Or.inl ⟨by rfl, ?_⟩) ?_ ?_
           rotate_left; · intro w'; go_simp; with_reducible rfl
           rotate_left; · simp only [Act.put, P2_1, P2_2, P2_3, i64_w, i32_w]; rfl
           refine pure_ (i := 24) (N := some 39) (v := ?_) (a' := ?_) M2_25 rfl rfl (any_of HT_.out (by kernel_rfl)) (fun _ _ _ h => h) (Or.inl ⟨by rfl, ?_⟩) ?_ ?_
           rotate_left; · intro w'; go_simp; with_reducible rfl
           rotate_left; · simp only [Act.put, P2_1, P2_2, P2_3, i64_w, i32_w]; rfl
           refine pure_ (i := 25) (N := some 40) (v := ?_) (a' := ?_) M2_26 rfl rfl (any_of HT_.out (by kernel_rfl)) (fun _ _ _ h => h) (Or.inl ⟨by rfl, ?_⟩) ?_ ?_
           rotate_left; · intro w'; go_simp; with_reducible rfl
           rotate_left; · simp only [Act.put, P2_1, P2_2, P2_3, i64_w, i32_w]; rfl
           refine pure_ (i := 26) (N := some 41) (v := ?_) (a' := ?_) M2_27 rfl rfl (any_of HT_.out (by kernel_rfl)) (fun _ _ _ h => h) (Or.inl ⟨by rfl, ?_⟩) ?_ ?_
           rotate_left; · intro w'; go_simp; with_reducible rfl
           rotate_left; · simp only [Act.put, P2_1, P2_2, P2_3, i64_w, i32_w]; rfl
           refine take_ (i := 27) (N := some 42) (v := ?_) (a' := ?_) M2_28 rfl rfl (take_ofW HT_.out HW_.out (by kernel_rfl)) (fun _ _ _ h => h) (Or.inl ⟨by rfl, ?_⟩) hHeld ?_ ?_
           rotate_left; · rintro w' ⟨s0, s1, s2⟩; go_simp; with_reducible rfl
           rotate_left; · simp only [Act.put, P2_1, P2_2, P2_3, i64_w, i32_w]; rfl
           refine one_ (i := 28) (N := some 43) M2_29 rfl rfl (one_of HT_.out (by kernel_rfl)) (by decide) (fun K hK => ?_)
           refine goes_ Try.func45 (by kernel_rfl) rfl #[.slice A151_1 ((rd_T36 l0 x10_1).f1).length c151_1] (by rfl) rfl rfl (by (try simp only [List.map_toArray, List.map_cons, List.map_nil]); first | done | rfl | (simp only [List.length_drop, List.length_take]; rfl)) ?_
           with_reducible refine (impl_AreMarks.calls k1 _ _ ((rd_T36 l0 x10_1).f1) false _ ?side1 ?side2 A46.out).mono ?_
           (case side1 => repeat (first | exact (Kd.C_below HR151_1.out (by repeat (first | (with_reducible first | exact HB.out | apply below_alloc | apply pw_below_drewN | apply below_drew1 | refine below_set ?_ GE152.out) | exact HB.out))) | (with_reducible refine Kd.C_alloc ?_ _) | (with_reducible refine Kd.C_drewN ?_ _) | (with_reducible refine Kd.C_drew ?_)))
           (case side2 => exact HC151_1.out)
           rintro e w64 ⟨rfl, hb⟩
           refine ⟨_, rfl, ?_⟩
           have n0_ := Aside0.mk (blk_below (g := gb152) (o := .cells #[.int .i64 ((rd_T36 l0 x10_1).f0), .slice A151_1 ((rd_T36 l0 x10_1).f1).length c151_1, .int .i64 ((rd_T36 l0 x10_1).f2)] 36 (0, 0)) (by (with_reducible repeat (first | refine blk_drewN ?_ _ | refine blk_drew ?_ | refine blk_alloc ?_ _)); exact BK152.out) hb)
           have n1_ := Aside0.mk (below_step (by repeat (first | (with_reducible first | exact HB.out | apply below_alloc | apply pw_below_drewN | apply below_drew1 | refine below_set ?_ GE152.out) | exact HB.out)) hb)
           clear BK152
           clear HB
           have BK152 := n0_
           have HB := n1_
           clear n0_ n1_
           (try clear hb)
           (try clear hb2)
           (try clear hk)
           (try clear hi)
           refine hK.out _ _ ⟨(blk_cell BK152.out 0).trans rfl, (blk_cell BK152.out 1).trans rfl, (blk_cell BK152.out 2).trans rfl⟩ (fun hHeld => ?_)
           clear hK K
           refine norm_ (a' := ?_) ?_ ?_
           rotate_left
           ·
            show Act.put _ (some 43) _ = _
            simp only [Act.put, P2_1, P2_2, P2_3, i64_w, i32_w]
            rfl
           refine pure_ (i := 29) (N := some 44) (v := ?_) (a' := ?_) M2_30 rfl rfl (any_of HT_.out (by kernel_rfl)) (fun _ _ _ h => h) (Or.inl ⟨by rfl, ?_⟩) ?_ ?_
           rotate_left; · intro w'; go_simp; with_reducible rfl
           rotate_left; · simp only [Act.put, P2_1, P2_2, P2_3, i64_w, i32_w]; rfl
           refine pure_ (i := 30) (N := some 45) (v := ?_) (a' := ?_) M2_31 rfl rfl (any_of HT_.out (by kernel_rfl)) (fun _ _ _ h => h) (Or.inl ⟨by rfl, ?_⟩) ?_ ?_
           rotate_left; · intro w'; go_simp; with_reducible rfl
           rotate_left; · simp only [Act.put, P2_1, P2_2, P2_3, i64_w, i32_w]; rfl
           refine pure_ (i := 31) (N := some 46) (v := ?_) (a' := ?_) M2_32 rfl rfl (any_of HT_.out (by kernel_rfl)) (fun _ _ _ h => h) (Or.inl ⟨by rfl, ?_⟩) ?_ ?_
           rotate_left; · intro w'; go_simp; with_reducible rfl
           rotate_left; · simp only [Act.put, P2_1, P2_2, P2_3, i64_w, i32_w]; rfl
           refine pure_ (i := 32) (N := some 47) (v := undef) (a' := ?_) M2_33 rfl rfl (any_of HT_.out (by kernel_rfl)) (fun _ _ _ h => h) (Or.inr ⟨by rfl, rfl⟩) ?_ ?_
           rotate_left; · simp only [Act.put, P2_1, P2_2, P2_3, i64_w, i32_w]; rfl
           refine pure_ (i := 33) (N := some 48) (v := undef) (a' := ?_) M2_34 rfl rfl (any_of HT_.out (by kernel_rfl)) (fun _ _ _ h => h) (Or.inr ⟨by rfl, rfl⟩) ?_ ?_
           rotate_left; · simp only [Act.put, P2_1, P2_2, P2_3, i64_w, i32_w]; rfl
           refine pure_ (i := 34) (N := some 49) (v := undef) (a' := ?_) M2_35 rfl rfl (any_of HT_.out (by kernel_rfl)) (fun _ _ _ h => h) (Or.inr ⟨by rfl, rfl⟩) ?_ ?_
           rotate_left; · simp only [Act.put, P2_1, P2_2, P2_3, i64_w, i32_w]; rfl
           refine pure_ (i := 35) (N := some 50) (v := undef) (a' := ?_) M2_36 rfl rfl (any_of HT_.out (by kernel_rfl)) (fun _ _ _ h => h) (Or.inr ⟨by rfl, rfl⟩) ?_ ?_
           rotate_left; · simp only [Act.put, P2_1, P2_2, P2_3, i64_w, i32_w]; rfl
           refine pure_ (i := 36) (N := some 51) (v := ?_) (a' := ?_) M2_37 rfl rfl (any_of HT_.out (by kernel_rfl)) (fun _ _ _ h => h) (Or.inl ⟨by rfl, ?_⟩) ?_ ?_
           rotate_left; · intro w'; go_simp; with_reducible rfl
           rotate_left; · simp only [Act.put, P2_1, P2_2, P2_3, i64_w, i32_w]; rfl
           refine done_ (done_of HT_.out (by kernel_rfl)) ?_
           try go_wp2
           go_ret
           exact ⟨by first | rfl | (simp [errW_none, errW_some] <;> rfl) | (simp [*, errW_none, errW_some] <;> rfl), by repeat (first | (with_reducible first | exact HB.out | apply below_alloc | apply pw_below_drewN | apply below_drew1 | refine below_set ?_ GE152.out) | exact HB.out)⟩
       ·
        replace c7 := Bool.eq_false_iff.mpr c7
        subst c7
        have H1 : (some false) = some r := by rw [if_neg (show ¬ (false = true) by decide)] at H; exact H
        clear H
        have H := H1
        clear H1
        obtain rfl := Option.some.inj H
        have p151 : 0 ≤ (x10_1 : Int) := of_decide_eq_true (by first | (with_reducible assumption) | assumption)
        have q151 : x10_1 < (l0.length : Int) := of_decide_eq_true (by first | (with_reducible assumption) | assumption)
        obtain ⟨ad151, A151_1, c151_1, e151, hx151_0, hx151_1, hx151_2, hl151_1, hi151_1⟩ := at_T36 HR0.out x10_1 p151 q151
        cases e151
        replace hx151_0 := (HB.out.cell (World.block_lt_of_cell? w _ hx151_0)).trans hx151_0
        replace hx151_1 := (HB.out.cell (World.block_lt_of_cell? w _ hx151_1)).trans hx151_1
        replace hx151_2 := (HB.out.cell (World.block_lt_of_cell? w _ hx151_2)).trans hx151_2
        have HR151_1 := Aside0.mk hi151_1
        have HC151_1 := Aside0.mk hl151_1
        clear hi151_1 hl151_1
        replace p151 := eq_true p151
        replace q151 := eq_true q151
        try go_wp2_with (first | ((with_reducible refine gate_dst (N := 4) rfl ?_); (try (refine gate_guard (by rfl) ?_; dsimp only)); refine box_event ?hg (N := 4) ?hd (cs := #[.int .i64 0, .slice none 0 0, .int .i64 0]) (t := 36) ?hr ?_; (case hd => rfl); (case hg => rfl); (case hr => first | (go_simp; done) | (go_simp; rfl)); intro gb152 hg w65 hbox hb; have n0_ := Aside0.mk (below_step (by repeat (first | (with_reducible first | exact HB.out | apply below_alloc | apply pw_below_drewN | apply below_drew1) | exact HB.out)) hb); have n1_ := Aside0.mk (hbox); have n2_ := Aside0.mk ((by rw [hg]; exact (below_size (by repeat (first | (with_reducible first | exact HB.out | apply below_alloc | apply pw_below_drewN | apply below_drew1) | exact HB.out))) : w.heap.size ≤ gb152)); have n3_ := Aside0.mk ((by rw [hg]; exact (below_size (by repeat (first | (with_reducible first | exact HB.out | apply below_alloc | apply pw_below_drewN | apply below_drew1) | exact HB.out))) : w.heap.size ≤ gb152)); clear HB; have HB := n0_; have BK152 := n1_; have GW152 := n2_; have GE152 := n3_; clear n0_ n1_ n2_ n3_; clear hb hbox hg; have hcz66_0 : w65.cell? ⟨gb152, 0, none⟩ = some (.int .i64 0) := (blk_cell BK152.out 0).trans rfl; have hcz66_1 : w65.cell? ⟨gb152, 1, none⟩ = some (.slice none 0 0) := (blk_cell BK152.out 1).trans rfl; have hcz66_2 : w65.cell? ⟨gb152, 2, none⟩ = some (.int .i64 0) := (blk_cell BK152.out 2).trans rfl; have hfz66_0 := blk_frozen BK152.out 0; have hfz66_1 := blk_frozen BK152.out 1; have hfz66_2 := blk_frozen BK152.out 2))
        have n0_ : Aside0 ((((w65.setCell ⟨gb152, 0, none⟩ (.int .i64 ((rd_T36 l0 x10_1).f0))).setCell ⟨gb152, 1, none⟩ (.slice A151_1 ((rd_T36 l0 x10_1).f1).length c151_1)).setCell ⟨gb152, 2, none⟩ (.int .i64 ((rd_T36 l0 x10_1).f2))).heap[gb152]? = some (.cells #[.int .i64 ((rd_T36 l0 x10_1).f0), .slice A151_1 ((rd_T36 l0 x10_1).f1).length c151_1, .int .i64 ((rd_T36 l0 x10_1).f2)] 36 (0, 0))) := ⟨by (with_reducible repeat (first | refine blk_drewN ?_ _ | refine blk_drew ?_ | refine blk_alloc ?_ _)); refine blk_put (cs := #[.int .i64 ((rd_T36 l0 x10_1).f0), .slice A151_1 ((rd_T36 l0 x10_1).f1).length c151_1, .int .i64 0]) ?_ 2 _ rfl; (with_reducible repeat (first | refine blk_drewN ?_ _ | refine blk_drew ?_ | refine blk_alloc ?_ _)); refine blk_put (cs := #[.int .i64 ((rd_T36 l0 x10_1).f0), .slice none 0 0, .int .i64 0]) ?_ 1 _ rfl; (with_reducible repeat (first | refine blk_drewN ?_ _ | refine blk_drew ?_ | refine blk_alloc ?_ _)); refine blk_put (cs := #[.int .i64 0, .slice none 0 0, .int .i64 0]) ?_ 0 _ rfl; (with_reducible repeat (first | refine blk_drewN ?_ _ | refine blk_drew ?_ | refine blk_alloc ?_ _)); exact BK152.out⟩
        have n1_ : Aside0 (Below w.heap.size w (((w65.setCell ⟨gb152, 0, none⟩ (.int .i64 ((rd_T36 l0 x10_1).f0))).setCell ⟨gb152, 1, none⟩ (.slice A151_1 ((rd_T36 l0 x10_1).f1).length c151_1)).setCell ⟨gb152, 2, none⟩ (.int .i64 ((rd_T36 l0 x10_1).f2)))) := ⟨by repeat (first | (with_reducible first | exact HB.out | apply below_alloc | apply pw_below_drewN | apply below_drew1 | refine below_set ?_ GE152.out) | exact HB.out)⟩
        (try clear BK152)
        (try clear HB)
        generalize (((w65.setCell ⟨gb152, 0, none⟩ (.int .i64 ((rd_T36 l0 x10_1).f0))).setCell ⟨gb152, 1, none⟩ (.slice A151_1 ((rd_T36 l0 x10_1).f1).length c151_1)).setCell ⟨gb152, 2, none⟩ (.int .i64 ((rd_T36 l0 x10_1).f2))) = w67 at n0_ n1_ ⊢
        have BK152 := n0_
        have HB := n1_
        clear n0_ n1_
        have n0_ := Aside0.mk (blk_drew BK152.out)
        have n1_ := Aside0.mk (below_drew1 HB.out)
        clear BK152
        clear HB
        have BK152 := n0_
        have HB := n1_
        clear n0_ n1_
        refine start_ (n := 37) (S := fun w' => w'.cell? ⟨gb152, 0, none⟩ = some (.int .i64 ((rd_T36 l0 x10_1).f0)) ∧ w'.cell? ⟨gb152, 1, none⟩ = some (.slice A151_1 ((rd_T36 l0 x10_1).f1).length c151_1) ∧ w'.cell? ⟨gb152, 2, none⟩ = some (.int .i64 ((rd_T36 l0 x10_1).f2))) (ds := []) M2_0 (by kernel_rfl) rfl rfl ⟨(blk_cell BK152.out 0).trans rfl, (blk_cell BK152.out 1).trans rfl, (blk_cell BK152.out 2).trans rfl⟩ (fun hHeld => ?_); refine with_tabW impl_AreSecrets.tab6 impl_AreSecrets.bits6 (fun HT_ HW_ => ?_)
        generalize w67.drew = w68 at BK152 HB hHeld ⊢
        refine pure_ (i := 0) (N := some 15) (v := ?_) (a' := ?_) M2_1 rfl rfl (any_of HT_.out (by kernel_rfl)) (fun _ _ _ h => h) (Or.inl ⟨by rfl, ?_⟩) ?_ ?_
        rotate_left; · intro w'; go_simp; with_reducible rfl
        rotate_left; · simp only [Act.put, P2_1, P2_2, P2_3, i64_w, i32_w]; rfl
        refine take_ (i := 1) (N := some 16) (v := ?_) (a' := ?_) M2_2 rfl rfl (take_ofW HT_.out HW_.out (by kernel_rfl)) (fun _ _ _ h => h) (Or.inl ⟨by rfl, ?_⟩) hHeld ?_ ?_
        rotate_left; · rintro w' ⟨s0, s1, s2⟩; go_simp; with_reducible rfl
        rotate_left; · simp only [Act.put, P2_1, P2_2, P2_3, i64_w, i32_w]; rfl
        refine one_ (i := 2) (N := some 17) M2_3 rfl rfl (one_of HT_.out (by kernel_rfl)) (by decide) (fun K hK => ?_)
        refine goes_ Try.func44 (by kernel_rfl) rfl #[.int .i64 ((rd_T36 l0 x10_1).f0), .int .i64 1, .int .i64 999] (by rfl) rfl rfl (by (try simp only [List.map_toArray, List.map_cons, List.map_nil]); first | done | rfl | (simp only [List.length_drop, List.length_take]; rfl)) ?_
        with_reducible refine (impl_InRange.calls ((rd_T36 l0 x10_1).f0) 1 999 false _ A6.out).mono ?_
        rintro e w' ⟨rfl, ⟨nd, rfl⟩⟩
        refine ⟨_, rfl, ?_⟩
        refine hK.out _ _ ⟨(blk_cell BK152.out 0).trans rfl, (blk_cell BK152.out 1).trans rfl, (blk_cell BK152.out 2).trans rfl⟩ (fun hHeld => ?_)
        clear hK K
        refine norm_ (a' := ?_) ?_ ?_
        rotate_left
        ·
         show Act.put _ (some 17) _ = _
         simp only [Act.put, P2_1, P2_2, P2_3, i64_w, i32_w]
         rfl
        refine pure_ (i := 3) (N := some 18) (v := ?_) (a' := ?_) M2_4 rfl rfl (any_of HT_.out (by kernel_rfl)) (fun _ _ _ h => h) (Or.inl ⟨by rfl, ?_⟩) ?_ ?_
        rotate_left; · intro w'; go_simp; with_reducible rfl
        rotate_left; · simp only [Act.put, P2_1, P2_2, P2_3, i64_w, i32_w]; rfl
        refine pure_ (i := 4) (N := some 19) (v := ?_) (a' := ?_) M2_5 rfl rfl (any_of HT_.out (by kernel_rfl)) (fun _ _ _ h => h) (Or.inl ⟨by rfl, ?_⟩) ?_ ?_
        rotate_left; · intro w'; go_simp; with_reducible rfl
        rotate_left; · simp only [Act.put, P2_1, P2_2, P2_3, i64_w, i32_w]; rfl
        refine pure_ (i := 5) (N := some 20) (v := undef) (a' := ?_) M2_6 rfl rfl (any_of HT_.out (by kernel_rfl)) (fun _ _ _ h => h) (Or.inr ⟨by rfl, rfl⟩) ?_ ?_
        rotate_left; · simp only [Act.put, P2_1, P2_2, P2_3, i64_w, i32_w]; rfl
        refine pure_ (i := 6) (N := some 21) (v := undef) (a' := ?_) M2_7 rfl rfl (any_of HT_.out (by kernel_rfl)) (fun _ _ _ h => h) (Or.inr ⟨by rfl, rfl⟩) ?_ ?_
        rotate_left; · simp only [Act.put, P2_1, P2_2, P2_3, i64_w, i32_w]; rfl
        refine pure_ (i := 7) (N := some 22) (v := undef) (a' := ?_) M2_8 rfl rfl (any_of HT_.out (by kernel_rfl)) (fun _ _ _ h => h) (Or.inr ⟨by rfl, rfl⟩) ?_ ?_
        rotate_left; · simp only [Act.put, P2_1, P2_2, P2_3, i64_w, i32_w]; rfl
        refine pure_ (i := 8) (N := some 23) (v := undef) (a' := ?_) M2_9 rfl rfl (any_of HT_.out (by kernel_rfl)) (fun _ _ _ h => h) (Or.inr ⟨by rfl, rfl⟩) ?_ ?_
        rotate_left; · simp only [Act.put, P2_1, P2_2, P2_3, i64_w, i32_w]; rfl
        refine pure_ (i := 9) (N := some 24) (v := undef) (a' := ?_) M2_38 rfl rfl (any_of HT_.out (by kernel_rfl)) (fun _ _ _ h => h) (Or.inr ⟨by rfl, rfl⟩) ?_ ?_
        rotate_left; · simp only [Act.put, P2_1, P2_2, P2_3, i64_w, i32_w]; rfl
        refine pure_ (i := 10) (N := some 25) (v := undef) (a' := ?_) M2_39 rfl rfl (any_of HT_.out (by kernel_rfl)) (fun _ _ _ h => h) (Or.inr ⟨by rfl, rfl⟩) ?_ ?_
        rotate_left; · simp only [Act.put, P2_1, P2_2, P2_3, i64_w, i32_w]; rfl
        refine pure_ (i := 11) (N := some 26) (v := undef) (a' := ?_) M2_40 rfl rfl (any_of HT_.out (by kernel_rfl)) (fun _ _ _ h => h) (Or.inr ⟨by rfl, rfl⟩) ?_ ?_
        rotate_left; · simp only [Act.put, P2_1, P2_2, P2_3, i64_w, i32_w]; rfl
        refine pure_ (i := 12) (N := some 27) (v := undef) (a' := ?_) M2_41 rfl rfl (any_of HT_.out (by kernel_rfl)) (fun _ _ _ h => h) (Or.inr ⟨by rfl, rfl⟩) ?_ ?_
        rotate_left; · simp only [Act.put, P2_1, P2_2, P2_3, i64_w, i32_w]; rfl
        refine pure_ (i := 13) (N := some 28) (v := undef) (a' := ?_) M2_42 rfl rfl (any_of HT_.out (by kernel_rfl)) (fun _ _ _ h => h) (Or.inr ⟨by rfl, rfl⟩) ?_ ?_
        rotate_left; · simp only [Act.put, P2_1, P2_2, P2_3, i64_w, i32_w]; rfl
        refine pure_ (i := 14) (N := some 29) (v := undef) (a' := ?_) M2_15 rfl rfl (any_of HT_.out (by kernel_rfl)) (fun _ _ _ h => h) (Or.inr ⟨by rfl, rfl⟩) ?_ ?_
        rotate_left; · simp only [Act.put, P2_1, P2_2, P2_3, i64_w, i32_w]; rfl
        refine pure_ (i := 15) (N := some 30) (v := undef) (a' := ?_) M2_16 rfl rfl (any_of HT_.out (by kernel_rfl)) (fun _ _ _ h => h) (Or.inr ⟨by rfl, rfl⟩) ?_ ?_
        rotate_left; · simp only [Act.put, P2_1, P2_2, P2_3, i64_w, i32_w]; rfl
        refine pure_ (i := 16) (N := some 31) (v := undef) (a' := ?_) M2_17 rfl rfl (any_of HT_.out (by kernel_rfl)) (fun _ _ _ h => h) (Or.inr ⟨by rfl, rfl⟩) ?_ ?_
        rotate_left; · simp only [Act.put, P2_1, P2_2, P2_3, i64_w, i32_w]; rfl
        refine pure_ (i := 17) (N := some 32) (v := undef) (a' := ?_) M2_18 rfl rfl (any_of HT_.out (by kernel_rfl)) (fun _ _ _ h => h) (Or.inr ⟨by rfl, rfl⟩) ?_ ?_
        rotate_left; · simp only [Act.put, P2_1, P2_2, P2_3, i64_w, i32_w]; rfl
        refine pure_ (i := 18) (N := some 33) (v := ?_) (a' := ?_) M2_19 rfl rfl (any_of HT_.out (by kernel_rfl)) (fun _ _ _ h => h) (Or.inl ⟨by rfl, ?_⟩) ?_ ?_
        rotate_left; · intro w'; go_simp; with_reducible rfl
        rotate_left; · simp only [Act.put, P2_1, P2_2, P2_3, i64_w, i32_w]; rfl
        refine pure_ (i := 19) (N := some 34) (v := ?_) (a' := ?_) M2_20 rfl rfl (any_of HT_.out (by kernel_rfl)) (fun _ _ _ h => h) (Or.inl ⟨by rfl, ?_⟩) ?_ ?_
        rotate_left; · intro w'; go_simp; with_reducible rfl
        rotate_left; · simp only [Act.put, P2_1, P2_2, P2_3, i64_w, i32_w]; rfl
        refine pure_ (i := 20) (N := some 35) (v := undef) (a' := ?_) M2_21 rfl rfl (any_of HT_.out (by kernel_rfl)) (fun _ _ _ h => h) (Or.inr ⟨by rfl, rfl⟩) ?_ ?_
        rotate_left; · simp only [Act.put, P2_1, P2_2, P2_3, i64_w, i32_w]; rfl
        refine pure_ (i := 21) (N := some 36) (v := undef) (a' := ?_) M2_22 rfl rfl (any_of HT_.out (by kernel_rfl)) (fun _ _ _ h => h) (Or.inr ⟨by rfl, rfl⟩) ?_ ?_
        rotate_left; · simp only [Act.put, P2_1, P2_2, P2_3, i64_w, i32_w]; rfl
        refine pure_ (i := 22) (N := some 37) (v := undef) (a' := ?_) M2_23 rfl rfl (any_of HT_.out (by kernel_rfl)) (fun _ _ _ h => h) (Or.inr ⟨by rfl, rfl⟩) ?_ ?_
        rotate_left; · simp only [Act.put, P2_1, P2_2, P2_3, i64_w, i32_w]; rfl
        refine pure_ (i := 23) (N := some 38) (v := undef) (a' := ?_) M2_24 rfl rfl (any_of HT_.out (by kernel_rfl)) (fun _ _ _ h => h) (Or.inr ⟨by rfl, rfl⟩) ?_ ?_
        rotate_left; · simp only [Act.put, P2_1, P2_2, P2_3, i64_w, i32_w]; rfl
        refine pure_ (i := 24) (N := some 39) (v := ?_) (a' := ?_) M2_25 rfl rfl (any_of HT_.out (by kernel_rfl)) (fun _ _ _ h => h) (Or.inl ⟨by rfl, ?_⟩) ?_ ?_
        rotate_left; · intro w'; go_simp; with_reducible rfl
        rotate_left; · simp only [Act.put, P2_1, P2_2, P2_3, i64_w, i32_w]; rfl
        refine pure_ (i := 25) (N := some 40) (v := ?_) (a' := ?_) M2_26 rfl rfl (any_of HT_.out (by kernel_rfl)) (fun _ _ _ h => h) (Or.inl ⟨by rfl, ?_⟩) ?_ ?_
        rotate_left; · intro w'; go_simp; with_reducible rfl
        rotate_left; · simp only [Act.put, P2_1, P2_2, P2_3, i64_w, i32_w]; rfl
        refine pure_ (i := 26) (N := some 41) (v := undef) (a' := ?_) M2_27 rfl rfl (any_of HT_.out (by kernel_rfl)) (fun _ _ _ h => h) (Or.inr ⟨by rfl, rfl⟩) ?_ ?_
        rotate_left; · simp only [Act.put, P2_1, P2_2, P2_3, i64_w, i32_w]; rfl
        refine pure_ (i := 27) (N := some 42) (v := undef) (a' := ?_) M2_28 rfl rfl (any_of HT_.out (by kernel_rfl)) (fun _ _ _ h => h) (Or.inr ⟨by rfl, rfl⟩) ?_ ?_
        rotate_left; · simp only [Act.put, P2_1, P2_2, P2_3, i64_w, i32_w]; rfl
        refine pure_ (i := 28) (N := some 43) (v := undef) (a' := ?_) M2_29 rfl rfl (any_of HT_.out (by kernel_rfl)) (fun _ _ _ h => h) (Or.inr ⟨by rfl, rfl⟩) ?_ ?_
        rotate_left; · simp only [Act.put, P2_1, P2_2, P2_3, i64_w, i32_w]; rfl
        refine pure_ (i := 29) (N := some 44) (v := undef) (a' := ?_) M2_30 rfl rfl (any_of HT_.out (by kernel_rfl)) (fun _ _ _ h => h) (Or.inr ⟨by rfl, rfl⟩) ?_ ?_
        rotate_left; · simp only [Act.put, P2_1, P2_2, P2_3, i64_w, i32_w]; rfl
        refine pure_ (i := 30) (N := some 45) (v := ?_) (a' := ?_) M2_31 rfl rfl (any_of HT_.out (by kernel_rfl)) (fun _ _ _ h => h) (Or.inl ⟨by rfl, ?_⟩) ?_ ?_
        rotate_left; · intro w'; go_simp; with_reducible rfl
        rotate_left; · simp only [Act.put, P2_1, P2_2, P2_3, i64_w, i32_w]; rfl
        refine pure_ (i := 31) (N := some 46) (v := ?_) (a' := ?_) M2_32 rfl rfl (any_of HT_.out (by kernel_rfl)) (fun _ _ _ h => h) (Or.inl ⟨by rfl, ?_⟩) ?_ ?_
        rotate_left; · intro w'; go_simp; with_reducible rfl
        rotate_left; · simp only [Act.put, P2_1, P2_2, P2_3, i64_w, i32_w]; rfl
        refine pure_ (i := 32) (N := some 47) (v := undef) (a' := ?_) M2_33 rfl rfl (any_of HT_.out (by kernel_rfl)) (fun _ _ _ h => h) (Or.inr ⟨by rfl, rfl⟩) ?_ ?_
        rotate_left; · simp only [Act.put, P2_1, P2_2, P2_3, i64_w, i32_w]; rfl
        refine pure_ (i := 33) (N := some 48) (v := undef) (a' := ?_) M2_34 rfl rfl (any_of HT_.out (by kernel_rfl)) (fun _ _ _ h => h) (Or.inr ⟨by rfl, rfl⟩) ?_ ?_
        rotate_left; · simp only [Act.put, P2_1, P2_2, P2_3, i64_w, i32_w]; rfl
        refine pure_ (i := 34) (N := some 49) (v := undef) (a' := ?_) M2_35 rfl rfl (any_of HT_.out (by kernel_rfl)) (fun _ _ _ h => h) (Or.inr ⟨by rfl, rfl⟩) ?_ ?_
        rotate_left; · simp only [Act.put, P2_1, P2_2, P2_3, i64_w, i32_w]; rfl
        refine pure_ (i := 35) (N := some 50) (v := undef) (a' := ?_) M2_36 rfl rfl (any_of HT_.out (by kernel_rfl)) (fun _ _ _ h => h) (Or.inr ⟨by rfl, rfl⟩) ?_ ?_
        rotate_left; · simp only [Act.put, P2_1, P2_2, P2_3, i64_w, i32_w]; rfl
        refine pure_ (i := 36) (N := some 51) (v := ?_) (a' := ?_) M2_37 rfl rfl (any_of HT_.out (by kernel_rfl)) (fun _ _ _ h => h) (Or.inl ⟨by rfl, ?_⟩) ?_ ?_
        rotate_left; · intro w'; go_simp; with_reducible rfl
        rotate_left; · simp only [Act.put, P2_1, P2_2, P2_3, i64_w, i32_w]; rfl
        refine done_ (done_of HT_.out (by kernel_rfl)) ?_
        try go_wp2
        go_ret
        exact ⟨by first | rfl | (simp [errW_none, errW_some] <;> rfl) | (simp [*, errW_none, errW_some] <;> rfl), by repeat (first | (with_reducible first | exact HB.out | apply below_alloc | apply pw_below_drewN | apply below_drew1 | refine below_set ?_ GE152.out) | exact HB.out)⟩
      ·
       rw [if_neg c5] at H
       exact absurd H (by simp)
     ·
      rw [if_neg c4] at H
      exact absurd H (by simp)
    ·
     rw [if_neg c3] at H
     have c3b0 : decide (x10_1 < (l0.length : Int)) = false := decide_eq_false c3
     clear c3
     obtain rfl := Option.some.inj H
     go_wp2
     go_ret
     exact ⟨by first | rfl | (simp [errW_none, errW_some] <;> rfl) | (simp [*, errW_none, errW_some] <;> rfl), by repeat (first | (with_reducible first | exact HB.out | apply below_alloc | apply pw_below_drewN | apply below_drew1) | exact HB.out)⟩

end Go.Proofs.Ytfghapankndioaa.PFnExactAreSecrets
