-- Written for this claim by a program (a printer turned to this claim); Lean checks it.
import Derived.Test.YtfghapankndioaaPFnExactPutSecretx0
import Derived.Test.YtfghapankndioaaPFnExactPutSecretx8
namespace Go.Proofs.Ytfghapankndioaa.PFnExactPutSecret
open Go.RowKit Go.Proofs.YtfghapankndioaaW.PrintWords Go.Proofs.YtfghapankndioaaW.PrintLast Go.Proofs.YtfghapankndioaaW.PrintMore
attribute [local go_sem] max2_int min2_int max_two min_two max_three min_three max_four min_four   -- for this text's walks alone
set_option linter.unusedVariables false
set_option linter.unusedSimpArgs false

/-! ### impl_AreSecrets: function 13 -/
def impl_AreSecrets.l0 : Nat → List (S36) → List (S36) → Int → Int → Option (Bool)
 | 0, _, _, _, _ => none
 | k + 1, x0, x8, x9, x10 => if x10 < x9 then (if 0 ≤ x10 then (if x10 < (x8.length : Int) then ((impl_InRange.f ((rd_T36 x8 x10).f0) 1 999).bind fun t213 => (if t213 = true then (if x10 > 0 then (if 0 ≤ (wrap64 (x10 - 1)) then (if (wrap64 (x10 - 1)) < (x0.length : Int) then (if ((rd_T36 x8 x10).f0) ≤ ((rd_T36 x0 (wrap64 (x10 - 1))).f0) then (some false) else (if (((rd_T36 x8 x10).f1).length : Int) = 0 then (some false) else ((impl_AreMarks.f k ((rd_T36 x8 x10).f1)).bind fun t215 => (if t215 = true then ((impl_InRange.f ((rd_T36 x8 x10).f2) 0 1000000).bind fun t216 => (if t216 = true then (impl_AreSecrets.l0 k x0 x8 x9 (wrap64 (x10 + 1))) else (some false))) else (some false))))) else (none)) else (none)) else (if (((rd_T36 x8 x10).f1).length : Int) = 0 then (some false) else ((impl_AreMarks.f k ((rd_T36 x8 x10).f1)).bind fun t217 => (if t217 = true then ((impl_InRange.f ((rd_T36 x8 x10).f2) 0 1000000).bind fun t218 => (if t218 = true then (impl_AreSecrets.l0 k x0 x8 x9 (wrap64 (x10 + 1))) else (some false))) else (some false))))) else (some false))) else (none)) else (none)) else (some true)
def impl_AreSecrets.f (k : Nat) (l0 : List (S36)) : Option (Bool) := if (l0.length : Int) > 20 then (some false) else (impl_AreSecrets.l0 k l0 l0 (l0.length : Int) 0)
theorem impl_AreSecrets.mono_l : ∀ k, (∀ y0 y1 y2 y3, LeO (impl_AreSecrets.l0 k y0 y1 y2 y3) (impl_AreSecrets.l0 (k + 1) y0 y1 y2 y3))
 | 0 => fun _ _ _ _ r h => by simp [impl_AreSecrets.l0] at h
 | k + 1 => by
  have ih0 := impl_AreSecrets.mono_l k
  ·
   intro y0 y1 y2 y3
   unfold impl_AreSecrets.l0
   repeat' first
   | (with_reducible exact ih0 _ _ _ _)
   | (with_reducible exact impl_AreMarks.mono _ _)
   | (with_reducible exact LeO.refl _)
   | (with_reducible exact LeO.none _)
   | (with_reducible refine LeO.ite ?_ ?_)
   | (with_reducible refine LeO.bind ?_ (fun _ => ?_))
   | exact ih0 _ _ _ _
   | exact impl_AreMarks.mono _ _
   | exact LeO.none _
   | refine LeO.ite ?_ ?_
   | refine LeO.bind ?_ (fun _ => ?_)
theorem impl_AreSecrets.mono : ∀ a0 k, LeO (impl_AreSecrets.f k a0) (impl_AreSecrets.f (k + 1) a0) := by
 intro a0 k
 have ih0 := impl_AreSecrets.mono_l k
 unfold impl_AreSecrets.f
 repeat' first
   | (with_reducible exact ih0 _ _ _ _)
   | (with_reducible exact impl_AreMarks.mono _ _)
   | (with_reducible exact LeO.refl _)
   | (with_reducible exact LeO.none _)
   | (with_reducible refine LeO.ite ?_ ?_)
   | (with_reducible refine LeO.bind ?_ (fun _ => ?_))
   | exact ih0 _ _ _ _
   | exact impl_AreMarks.mono _ _
   | exact LeO.none _
   | refine LeO.ite ?_ ?_
   | refine LeO.bind ?_ (fun _ => ?_)
def impl_AreSecrets.T6 : Bool × List (List Nat × List Nat) := (true, [([], []), ([0], [0]), ([1], [1]), ([2], [2]), ([3, 2], [3]), ([4], [4]), ([5, 4], [4, 5]), ([6, 4, 4], [4, 6]), ([7], [7]), ([8, 7], [7, 8]), ([7], [7]), ([7], [7]), ([11, 7], [7, 11]), ([10, 12, 7], [7, 10, 12]), ([13, 7], [7, 13]), ([14, 7], [7, 14]), ([9, 15, 7], [7, 9, 15]), ([7, 16, 4], [4, 7, 16]), ([4, 17], [4, 17]), ([18, 7], [18]), ([19], [19]), ([20, 19], [19, 20]), ([21, 19], [19, 21]), ([22, 19], [19, 22]), ([19, 23], [19, 23]), ([24, 19], [24]), ([25], [25]), ([26, 25], [25, 26]), ([27, 25, 25], [25, 27]), ([28, 25], [25, 28]), ([25, 29], [25, 29]), ([30, 28], [30]), ([31], [31]), ([32, 31], [31, 32]), ([33, 31, 31], [31, 33]), ([34, 31], [31, 34]), ([31, 35], [31, 35])])
def impl_AreSecrets.B6 : List Nat := [0, 1, 3, 7, 15, 31, 63, 127, 255, 511, 255, 255, 2303, 7423, 15615, 31999, 65535, 131071, 262143, 524287, 1048575, 2097151, 4194303, 8388607, 16777215, 33554431, 67108863, 134217727, 268435455, 536870911, 1073741823, 2147483647, 4294967295, 8589934591, 17179869183, 34359738367, 68719476735]
theorem impl_AreSecrets.tab6 : rtab .any (opsOf Try.f13 6) = impl_AreSecrets.T6 := by kernel_rfl
theorem impl_AreSecrets.bits6 : waitsOk impl_AreSecrets.T6.2 impl_AreSecrets.B6 = true := by kernel_rfl
abbrev M6_0 : Array Bool := #[false, false, false, false, false, false, false, false, false, false, false, false, false, false, false, false, false, false, false, false, false, false, false, false, false, false, false, false, false, false, false, false, false, false, false, false, false]
abbrev M6_1 : Array Bool := #[true, false, false, false, false, false, false, false, false, false, false, false, false, false, false, false, false, false, false, false, false, false, false, false, false, false, false, false, false, false, false, false, false, false, false, false, false]
abbrev M6_2 : Array Bool := #[true, true, false, false, false, false, false, false, false, false, false, false, false, false, false, false, false, false, false, false, false, false, false, false, false, false, false, false, false, false, false, false, false, false, false, false, false]
abbrev M6_3 : Array Bool := #[true, true, true, false, false, false, false, false, false, false, false, false, false, false, false, false, false, false, false, false, false, false, false, false, false, false, false, false, false, false, false, false, false, false, false, false, false]
abbrev M6_4 : Array Bool := #[true, true, true, true, false, false, false, false, false, false, false, false, false, false, false, false, false, false, false, false, false, false, false, false, false, false, false, false, false, false, false, false, false, false, false, false, false]
abbrev M6_5 : Array Bool := #[true, true, true, true, true, false, false, false, false, false, false, false, false, false, false, false, false, false, false, false, false, false, false, false, false, false, false, false, false, false, false, false, false, false, false, false, false]
abbrev M6_6 : Array Bool := #[true, true, true, true, true, true, false, false, false, false, false, false, false, false, false, false, false, false, false, false, false, false, false, false, false, false, false, false, false, false, false, false, false, false, false, false, false]
abbrev M6_7 : Array Bool := #[true, true, true, true, true, true, true, false, false, false, false, false, false, false, false, false, false, false, false, false, false, false, false, false, false, false, false, false, false, false, false, false, false, false, false, false, false]
abbrev M6_8 : Array Bool := #[true, true, true, true, true, true, true, true, false, false, false, false, false, false, false, false, false, false, false, false, false, false, false, false, false, false, false, false, false, false, false, false, false, false, false, false, false]
abbrev M6_9 : Array Bool := #[true, true, true, true, true, true, true, true, true, false, false, false, false, false, false, false, false, false, false, false, false, false, false, false, false, false, false, false, false, false, false, false, false, false, false, false, false]
abbrev M6_10 : Array Bool := #[true, true, true, true, true, true, true, true, true, false, true, false, false, false, false, false, false, false, false, false, false, false, false, false, false, false, false, false, false, false, false, false, false, false, false, false, false]
abbrev M6_11 : Array Bool := #[true, true, true, true, true, true, true, true, true, false, true, true, false, false, false, false, false, false, false, false, false, false, false, false, false, false, false, false, false, false, false, false, false, false, false, false, false]
abbrev M6_12 : Array Bool := #[true, true, true, true, true, true, true, true, true, false, true, true, true, false, false, false, false, false, false, false, false, false, false, false, false, false, false, false, false, false, false, false, false, false, false, false, false]
abbrev M6_13 : Array Bool := #[true, true, true, true, true, true, true, true, true, false, true, true, true, true, false, false, false, false, false, false, false, false, false, false, false, false, false, false, false, false, false, false, false, false, false, false, false]
abbrev M6_14 : Array Bool := #[true, true, true, true, true, true, true, true, true, false, true, true, true, true, true, false, false, false, false, false, false, false, false, false, false, false, false, false, false, false, false, false, false, false, false, false, false]
abbrev M6_15 : Array Bool := #[true, true, true, true, true, true, true, true, true, true, true, true, true, true, true, false, false, false, false, false, false, false, false, false, false, false, false, false, false, false, false, false, false, false, false, false, false]
abbrev M6_16 : Array Bool := #[true, true, true, true, true, true, true, true, true, true, true, true, true, true, true, true, false, false, false, false, false, false, false, false, false, false, false, false, false, false, false, false, false, false, false, false, false]
abbrev M6_17 : Array Bool := #[true, true, true, true, true, true, true, true, true, true, true, true, true, true, true, true, true, false, false, false, false, false, false, false, false, false, false, false, false, false, false, false, false, false, false, false, false]
abbrev M6_18 : Array Bool := #[true, true, true, true, true, true, true, true, true, true, true, true, true, true, true, true, true, true, false, false, false, false, false, false, false, false, false, false, false, false, false, false, false, false, false, false, false]
abbrev M6_19 : Array Bool := #[true, true, true, true, true, true, true, true, true, true, true, true, true, true, true, true, true, true, true, false, false, false, false, false, false, false, false, false, false, false, false, false, false, false, false, false, false]
abbrev M6_20 : Array Bool := #[true, true, true, true, true, true, true, true, true, true, true, true, true, true, true, true, true, true, true, true, false, false, false, false, false, false, false, false, false, false, false, false, false, false, false, false, false]
abbrev M6_21 : Array Bool := #[true, true, true, true, true, true, true, true, true, true, true, true, true, true, true, true, true, true, true, true, true, false, false, false, false, false, false, false, false, false, false, false, false, false, false, false, false]
abbrev M6_22 : Array Bool := #[true, true, true, true, true, true, true, true, true, true, true, true, true, true, true, true, true, true, true, true, true, true, false, false, false, false, false, false, false, false, false, false, false, false, false, false, false]
abbrev M6_23 : Array Bool := #[true, true, true, true, true, true, true, true, true, true, true, true, true, true, true, true, true, true, true, true, true, true, true, false, false, false, false, false, false, false, false, false, false, false, false, false, false]
abbrev M6_24 : Array Bool := #[true, true, true, true, true, true, true, true, true, true, true, true, true, true, true, true, true, true, true, true, true, true, true, true, false, false, false, false, false, false, false, false, false, false, false, false, false]
abbrev M6_25 : Array Bool := #[true, true, true, true, true, true, true, true, true, true, true, true, true, true, true, true, true, true, true, true, true, true, true, true, true, false, false, false, false, false, false, false, false, false, false, false, false]
abbrev M6_26 : Array Bool := #[true, true, true, true, true, true, true, true, true, true, true, true, true, true, true, true, true, true, true, true, true, true, true, true, true, true, false, false, false, false, false, false, false, false, false, false, false]
abbrev M6_27 : Array Bool := #[true, true, true, true, true, true, true, true, true, true, true, true, true, true, true, true, true, true, true, true, true, true, true, true, true, true, true, false, false, false, false, false, false, false, false, false, false]
abbrev M6_28 : Array Bool := #[true, true, true, true, true, true, true, true, true, true, true, true, true, true, true, true, true, true, true, true, true, true, true, true, true, true, true, true, false, false, false, false, false, false, false, false, false]
abbrev M6_29 : Array Bool := #[true, true, true, true, true, true, true, true, true, true, true, true, true, true, true, true, true, true, true, true, true, true, true, true, true, true, true, true, true, false, false, false, false, false, false, false, false]
abbrev M6_30 : Array Bool := #[true, true, true, true, true, true, true, true, true, true, true, true, true, true, true, true, true, true, true, true, true, true, true, true, true, true, true, true, true, true, false, false, false, false, false, false, false]
abbrev M6_31 : Array Bool := #[true, true, true, true, true, true, true, true, true, true, true, true, true, true, true, true, true, true, true, true, true, true, true, true, true, true, true, true, true, true, true, false, false, false, false, false, false]
abbrev M6_32 : Array Bool := #[true, true, true, true, true, true, true, true, true, true, true, true, true, true, true, true, true, true, true, true, true, true, true, true, true, true, true, true, true, true, true, true, false, false, false, false, false]
abbrev M6_33 : Array Bool := #[true, true, true, true, true, true, true, true, true, true, true, true, true, true, true, true, true, true, true, true, true, true, true, true, true, true, true, true, true, true, true, true, true, false, false, false, false]
abbrev M6_34 : Array Bool := #[true, true, true, true, true, true, true, true, true, true, true, true, true, true, true, true, true, true, true, true, true, true, true, true, true, true, true, true, true, true, true, true, true, true, false, false, false]
abbrev M6_35 : Array Bool := #[true, true, true, true, true, true, true, true, true, true, true, true, true, true, true, true, true, true, true, true, true, true, true, true, true, true, true, true, true, true, true, true, true, true, true, false, false]
abbrev M6_36 : Array Bool := #[true, true, true, true, true, true, true, true, true, true, true, true, true, true, true, true, true, true, true, true, true, true, true, true, true, true, true, true, true, true, true, true, true, true, true, true, false]
abbrev M6_37 : Array Bool := #[true, true, true, true, true, true, true, true, true, true, true, true, true, true, true, true, true, true, true, true, true, true, true, true, true, true, true, true, true, true, true, true, true, true, true, true, true]
abbrev M6_38 : Array Bool := #[true, true, true, true, true, true, true, true, true, true, false, false, false, false, false, false, false, false, false, false, false, false, false, false, false, false, false, false, false, false, false, false, false, false, false, false, false]
abbrev M6_39 : Array Bool := #[true, true, true, true, true, true, true, true, true, true, true, false, false, false, false, false, false, false, false, false, false, false, false, false, false, false, false, false, false, false, false, false, false, false, false, false, false]
abbrev M6_40 : Array Bool := #[true, true, true, true, true, true, true, true, true, true, true, true, false, false, false, false, false, false, false, false, false, false, false, false, false, false, false, false, false, false, false, false, false, false, false, false, false]
abbrev M6_41 : Array Bool := #[true, true, true, true, true, true, true, true, true, true, true, true, true, false, false, false, false, false, false, false, false, false, false, false, false, false, false, false, false, false, false, false, false, false, false, false, false]
abbrev M6_42 : Array Bool := #[true, true, true, true, true, true, true, true, true, true, true, true, true, true, false, false, false, false, false, false, false, false, false, false, false, false, false, false, false, false, false, false, false, false, false, false, false]
theorem P6_1 {α : Type} (l : List α) (i : Nat) (a : α) : l.toArray.setIfInBounds i a = (l.set i a).toArray := List.setIfInBounds_toArray l i a
theorem P6_2 {α : Type} (x : α) (l : List α) (a : α) : (x :: l).set 0 a = a :: l := List.set_cons_zero
theorem P6_3 {α : Type} (x : α) (l : List α) (n : Nat) (a : α) : (x :: l).set (n + 1) a = x :: l.set n a := List.set_cons_succ
theorem e81_ {w : World} {g : Nat} {t : TypeId} {i0 : Int} {A1 : Option Addr} {n1 c1 : Nat} {i2 : Int} (h : w.heap[g]? = some (.cells #[.int .i64 i0, .slice A1 n1 c1, .int .i64 i2] t (0, 0))) : w.cell? ⟨g, 0, none⟩ = some (.int .i64 i0) ∧ w.cell? ⟨g, 1, none⟩ = some (.slice A1 n1 c1) ∧ w.cell? ⟨g, 2, none⟩ = some (.int .i64 i2) := ⟨(blk_cell h 0).trans rfl, (blk_cell h 1).trans rfl, (blk_cell h 2).trans rfl⟩
theorem z82_ {w : World} {g : Nat} {t : TypeId} {cs : Array Value} (h : w.heap[g]? = some (.cells cs t (0, 0))) : w.frozen? ⟨g, 0, none⟩ = false ∧ w.frozen? ⟨g, 1, none⟩ = false ∧ w.frozen? ⟨g, 2, none⟩ = false := ⟨blk_frozen h 0, blk_frozen h 1, blk_frozen h 2⟩
theorem y84_ {P : Prop} (h : P := by repeat (first | (with_reducible first | exact HB.out | apply below_alloc | apply pw_below_drewN | apply below_drew1 | refine below_set ?_ GE212.out) | exact HB.out)) : P := h
theorem y87_ {P : Prop} (h : P := by rw [hg]; exact (below_size (hd_ HB.out))) : P := h
set_option maxHeartbeats 8000000 in
set_option maxRecDepth 100000 in
theorem impl_AreSecrets.calls (k : Nat) (A0 : Option Addr) (c0 : Nat) (l0 : List (S36)) (r : Bool) (w : World) (hr0 : Kd.C k36 w A0 l0.length l0) (hc0 : l0.length ≤ c0) (h : impl_AreSecrets.f k l0 = some r) :
  Calls Try.prog 13 #[.slice A0 l0.length c0] w fun e w' => e = .returned (.bool r) ∧ Below w.heap.size w w' := by
 have hu36 := Try.underlying36
 have HR0 := Aside0.mk hr0
 have HC0 := Aside0.mk hc0
 clear hr0 hc0
 have HB := Aside0.mk (Below.refl w.heap.size w)
 have H : (if (l0.length : Int) > 20 then (some false) else (impl_AreSecrets.l0 k l0 l0 (l0.length : Int) 0)) = some r := h
 clear h
 by_cases c2 : (l0.length : Int) > 20
 ·
  rw [if_pos c2] at H
  have c2b0 : decide (20 < (l0.length : Int)) = true := decide_eq_true c2
  have c2b1 : decide (20 < l0.length) = true := decide_eq_true (by omega)
  clear c2
  obtain rfl := Option.some.inj H
  go_enter Try.func13, Try.ntmps13
  go_wp2
  go_ret
  exact ⟨by first | rfl | (simp [errW_none, errW_some] <;> rfl) | (simp [*, errW_none, errW_some] <;> rfl), hd_ HB.out⟩
 ·
  rw [if_neg c2] at H
  have c2b0 : decide (20 < (l0.length : Int)) = false := decide_eq_false c2
  have c2b1 : decide (20 < l0.length) = false := decide_eq_false (by omega)
  clear c2
  have H' := Aside0.mk H
  clear H
  go_enter Try.func13, Try.ntmps13
  go_wp2
  go_loopg [10] k (fun kq v10 w' => ∃ (x10_1 : Int), v10 = .int .i64 x10_1 ∧ Aside0 (impl_AreSecrets.l0 kq l0 l0 (l0.length : Int) x10_1 = some r) ∧ Aside0 (kq ≤ k) ∧ Aside0 (Below w.heap.size w w'))
  case atStart => exact ⟨(0), (by first | rfl | (simp; done) | (simp [*]; done)), H', ⟨Nat.le_refl _⟩, ⟨hd_ HB.out⟩⟩
  case round =>
   clear H'
   try clear c1
   try clear c2
   try clear c2b0
   try clear c2b1
   try clear p2
   obtain ⟨x10_1, rfl, HA, HK1, HB⟩ := hrel
   cases gk with
   | zero => exact absurd HA.out (by simp [impl_AreSecrets.l0])
   | succ k1 =>
    have H := HA.out
    clear HA
    simp only [impl_AreSecrets.l0] at H
    by_cases c3 : x10_1 < (l0.length : Int)
    ·
     rw [if_pos c3] at H
     have c3b0 : decide (x10_1 < (l0.length : Int)) = true := decide_eq_true c3
     clear c3
     by_cases c4 : 0 ≤ x10_1
     ·
      rw [if_pos c4] at H
      have c4b0 : decide (0 ≤ x10_1) = true := decide_eq_true c4
      clear c4
      by_cases c5 : x10_1 < (l0.length : Int)
      ·
       rw [if_pos c5] at H
       have c5b0 : decide (x10_1 < (l0.length : Int)) = true := decide_eq_true c5
       clear c5
       replace H := Option.bind_eq_some_iff.mp H
       obtain ⟨t213, A60, H⟩ := H
       replace H : (if t213 = true then (if x10_1 > 0 then (if 0 ≤ (wrap64 (x10_1 - 1)) then (if (wrap64 (x10_1 - 1)) < (l0.length : Int) then (if ((rd_T36 l0 x10_1).f0) ≤ ((rd_T36 l0 (wrap64 (x10_1 - 1))).f0) then (some false) else (if (((rd_T36 l0 x10_1).f1).length : Int) = 0 then (some false) else ((impl_AreMarks.f k1 ((rd_T36 l0 x10_1).f1)).bind fun t215 => (if t215 = true then ((impl_InRange.f ((rd_T36 l0 x10_1).f2) 0 1000000).bind fun t216 => (if t216 = true then (impl_AreSecrets.l0 k1 l0 l0 (l0.length : Int) (wrap64 (x10_1 + 1))) else (some false))) else (some false))))) else (none)) else (none)) else (if (((rd_T36 l0 x10_1).f1).length : Int) = 0 then (some false) else ((impl_AreMarks.f k1 ((rd_T36 l0 x10_1).f1)).bind fun t217 => (if t217 = true then ((impl_InRange.f ((rd_T36 l0 x10_1).f2) 0 1000000).bind fun t218 => (if t218 = true then (impl_AreSecrets.l0 k1 l0 l0 (l0.length : Int) (wrap64 (x10_1 + 1))) else (some false))) else (some false))))) else (some false)) = some r := H
       have A6 := Aside0.mk A60
       clear A60
       by_cases c7 : t213 = true
       ·
        subst c7
        have H1 : (if x10_1 > 0 then (if 0 ≤ (wrap64 (x10_1 - 1)) then (if (wrap64 (x10_1 - 1)) < (l0.length : Int) then (if ((rd_T36 l0 x10_1).f0) ≤ ((rd_T36 l0 (wrap64 (x10_1 - 1))).f0) then (some false) else (if (((rd_T36 l0 x10_1).f1).length : Int) = 0 then (some false) else ((impl_AreMarks.f k1 ((rd_T36 l0 x10_1).f1)).bind fun t215 => (if t215 = true then ((impl_InRange.f ((rd_T36 l0 x10_1).f2) 0 1000000).bind fun t216 => (if t216 = true then (impl_AreSecrets.l0 k1 l0 l0 (l0.length : Int) (wrap64 (x10_1 + 1))) else (some false))) else (some false))))) else (none)) else (none)) else (if (((rd_T36 l0 x10_1).f1).length : Int) = 0 then (some false) else ((impl_AreMarks.f k1 ((rd_T36 l0 x10_1).f1)).bind fun t217 => (if t217 = true then ((impl_InRange.f ((rd_T36 l0 x10_1).f2) 0 1000000).bind fun t218 => (if t218 = true then (impl_AreSecrets.l0 k1 l0 l0 (l0.length : Int) (wrap64 (x10_1 + 1))) else (some false))) else (some false))))) = some r := by rw [if_pos rfl] at H; exact H
        clear H
        have H := H1
        clear H1
        by_cases c8 : x10_1 > 0
        ·
         rw [if_pos c8] at H
         have c8b0 : decide (0 < x10_1) = true := decide_eq_true c8
         clear c8
         obtain ⟨ji9, hji9⟩ : ∃ j_ : Int, (wrap64 (x10_1 - 1)) = j_ := ⟨_, rfl⟩
         replace H : (if 0 ≤ (ji9) then (if (ji9) < (l0.length : Int) then (if ((rd_T36 l0 x10_1).f0) ≤ ((rd_T36 l0 (ji9)).f0) then (some false) else (if (((rd_T36 l0 x10_1).f1).length : Int) = 0 then (some false) else ((impl_AreMarks.f k1 ((rd_T36 l0 x10_1).f1)).bind fun t215 => (if t215 = true then ((impl_InRange.f ((rd_T36 l0 x10_1).f2) 0 1000000).bind fun t216 => (if t216 = true then (impl_AreSecrets.l0 k1 l0 l0 (l0.length : Int) (wrap64 (x10_1 + 1))) else (some false))) else (some false))))) else (none)) else (none)) = some r := by first | (rw [hji9] at H; exact H) | (simp only [hji9] at H ⊢; exact H)
         (try rw [hji9] at A6)
         have hji9w : (IntKind.i64.wrap (x10_1 - 1)) = ji9 := (i64_w _).trans hji9
         by_cases c10 : 0 ≤ (ji9)
         ·
          rw [if_pos c10] at H
          have c10b0 : decide (0 ≤ (ji9)) = true := decide_eq_true c10
          clear c10
          by_cases c11 : (ji9) < (l0.length : Int)
          ·
           rw [if_pos c11] at H
           have c11b0 : decide ((ji9) < (l0.length : Int)) = true := decide_eq_true c11
           clear c11
           by_cases c12 : ((rd_T36 l0 x10_1).f0) ≤ ((rd_T36 l0 (ji9)).f0)
           ·
            rw [if_pos c12] at H
            have c12b0 : decide (((rd_T36 l0 x10_1).f0) ≤ ((rd_T36 l0 (ji9)).f0)) = true := decide_eq_true c12
            clear c12
            obtain rfl := Option.some.inj H
            have p211 : 0 ≤ (x10_1 : Int) := of_decide_eq_true as_
            have q211 : x10_1 < (l0.length : Int) := of_decide_eq_true as_
            obtain ⟨ad211, A211_1, c211_1, e211, hx211_0, hx211_1, hx211_2, hl211_1, hi211_1⟩ := at_T36 HR0.out x10_1 p211 q211
            cases e211
            replace hx211_0 := cb_ HB.out hx211_0
            replace hx211_1 := cb_ HB.out hx211_1
            replace hx211_2 := cb_ HB.out hx211_2
            have HR211_1 := Aside0.mk hi211_1
            have HC211_1 := Aside0.mk hl211_1
            clear hi211_1 hl211_1
            replace p211 := eq_true p211
            replace q211 := eq_true q211
            try go_wp2_with (first | ((with_reducible refine gate_dst (N := 4) rfl ?_); (try (refine gate_guard (by rfl) ?_; dsimp only)); refine box_event ?hg (N := 4) ?hd (cs := #[.int .i64 0, .slice none 0 0, .int .i64 0]) (t := 36) ?hr ?_; (case hd => rfl); (case hg => rfl); (case hr => first | (go_simp; done) | (go_simp; rfl)); intro gb212 hg w13 hbox hb; have n0_ := Aside0.mk (below_step (hd_ HB.out) hb); have BK212 := Aside0.mk (hbox); have GW212 := Aside0.mk ((y87_ : w.heap.size ≤ gb212)); have GE212 := Aside0.mk ((y87_ : w.heap.size ≤ gb212)); clear HB; have HB := n0_; clear n0_; clear hb hbox hg; obtain ⟨hcz14_0, hcz14_1, hcz14_2⟩ := e81_ BK212.out; obtain ⟨hfz14_0, hfz14_1, hfz14_2⟩ := z82_ BK212.out))
            have n0_ : Aside0 ((((w13.setCell ⟨gb212, 0, none⟩ (.int .i64 ((rd_T36 l0 x10_1).f0))).setCell ⟨gb212, 1, none⟩ (.slice A211_1 ((rd_T36 l0 x10_1).f1).length c211_1)).setCell ⟨gb212, 2, none⟩ (.int .i64 ((rd_T36 l0 x10_1).f2))).heap[gb212]? = some (.cells #[.int .i64 ((rd_T36 l0 x10_1).f0), .slice A211_1 ((rd_T36 l0 x10_1).f1).length c211_1, .int .i64 ((rd_T36 l0 x10_1).f2)] 36 (0, 0))) := ⟨by (with_reducible repeat (first | refine blk_drewN ?_ _ | refine blk_drew ?_ | refine blk_alloc ?_ _)); refine blk_put (cs := #[.int .i64 ((rd_T36 l0 x10_1).f0), .slice A211_1 ((rd_T36 l0 x10_1).f1).length c211_1, .int .i64 0]) ?_ 2 _ rfl; (with_reducible repeat (first | refine blk_drewN ?_ _ | refine blk_drew ?_ | refine blk_alloc ?_ _)); refine blk_put (cs := #[.int .i64 ((rd_T36 l0 x10_1).f0), .slice none 0 0, .int .i64 0]) ?_ 1 _ rfl; (with_reducible repeat (first | refine blk_drewN ?_ _ | refine blk_drew ?_ | refine blk_alloc ?_ _)); refine blk_put (cs := #[.int .i64 0, .slice none 0 0, .int .i64 0]) ?_ 0 _ rfl; (with_reducible repeat (first | refine blk_drewN ?_ _ | refine blk_drew ?_ | refine blk_alloc ?_ _)); exact BK212.out⟩
            have n1_ : Aside0 (Below w.heap.size w (((w13.setCell ⟨gb212, 0, none⟩ (.int .i64 ((rd_T36 l0 x10_1).f0))).setCell ⟨gb212, 1, none⟩ (.slice A211_1 ((rd_T36 l0 x10_1).f1).length c211_1)).setCell ⟨gb212, 2, none⟩ (.int .i64 ((rd_T36 l0 x10_1).f2)))) := ⟨y84_⟩
            (try clear BK212)
            (try clear HB)
            generalize (((w13.setCell ⟨gb212, 0, none⟩ (.int .i64 ((rd_T36 l0 x10_1).f0))).setCell ⟨gb212, 1, none⟩ (.slice A211_1 ((rd_T36 l0 x10_1).f1).length c211_1)).setCell ⟨gb212, 2, none⟩ (.int .i64 ((rd_T36 l0 x10_1).f2))) = w15 at n0_ n1_ ⊢
            have BK212 := n0_
            have HB := n1_
            clear n0_ n1_
            have n0_ := Aside0.mk (blk_drew BK212.out)
            have n1_ := Aside0.mk (below_drew1 HB.out)
            clear BK212
            clear HB
            have BK212 := n0_
            have HB := n1_
            clear n0_ n1_
            have p214 : 0 ≤ ((ji9) : Int) := of_decide_eq_true as_
            have q214 : (ji9) < (l0.length : Int) := of_decide_eq_true as_
            obtain ⟨ad214, A214_1, c214_1, e214, hx214_0, hx214_1, hx214_2, hl214_1, hi214_1⟩ := at_T36 HR0.out (ji9) p214 q214
            have hw214_2 := hx214_2
            have hw214_1 := hx214_1
            have hw214_0 := hx214_0
            obtain rfl : ad211 = ad214 := (by injection e214)
            replace hx214_0 := cb_ HB.out hx214_0
            replace hx214_1 := cb_ HB.out hx214_1
            replace hx214_2 := cb_ HB.out hx214_2
            have HR214_1 := Aside0.mk hi214_1
            have HC214_1 := Aside0.mk hl214_1
            clear hi214_1 hl214_1
            replace p214 := eq_true p214
            replace q214 := eq_true q214
            refine start_ (n := 37) (S := fun w' => q1_ w' gb212 ((rd_T36 l0 x10_1).f0) A211_1 ((rd_T36 l0 x10_1).f1).length c211_1 ((rd_T36 l0 x10_1).f2) (q2e_ w' (ad211.add (((ji9)).toNat * 3)) ((rd_T36 l0 (ji9)).f0) A214_1 ((rd_T36 l0 (ji9)).f1).length c214_1 ((rd_T36 l0 (ji9)).f2))) (ds := []) M6_0 (by kernel_rfl) rfl rfl (k1_ BK212.out ⟨(cb_ HB.out hw214_0), (cb_ HB.out hw214_1), (cb_ HB.out hw214_2)⟩) (fun hHeld => ?_); refine with_tabW impl_AreSecrets.tab6 impl_AreSecrets.bits6 (fun HT_ HW_ => ?_)
            generalize w15.drew = w16 at BK212 HB HR214_1 hx214_0 hx214_1 hx214_2 hHeld ⊢
            refine pu_ 0 (some 15) M6_1 HT_ ?_
            refine tk_ 1 (some 16) M6_2 HT_ HW_ hHeld ?_
            refine one_ (i := 2) (N := some 17) M6_3 rfl rfl (one_of HT_.out (by kernel_rfl)) (by decide) (fun K hK => ?_)
            refine goes_ Try.func44 (by kernel_rfl) rfl #[.int .i64 ((rd_T36 l0 x10_1).f0), .int .i64 1, .int .i64 999] (by rfl) rfl rfl ma_ ?_
            with_reducible refine (impl_InRange.calls ((rd_T36 l0 x10_1).f0) 1 999 true _ A6.out).mono ?_
            rintro e w' ⟨rfl, ⟨nd, rfl⟩⟩
            refine ⟨_, rfl, ?_⟩
            refine hK.out _ _ (k1_ BK212.out ⟨(cb_ HB.out hw214_0), (cb_ HB.out hw214_1), (cb_ HB.out hw214_2)⟩) (fun hHeld => ?_)
            clear hK K
            refine norm_ (a' := ?_) ?_ ?_
            rotate_left
            ·
             show Act.put _ (some 17) _ = _
             simp only [Act.put, P6_1, P6_2, P6_3, i64_w, i32_w]
             rfl
            refine pu_ 3 (some 18) M6_4 HT_ ?_
            refine pu_ 4 (some 19) M6_5 HT_ ?_
            refine pu_ 5 (some 20) M6_6 HT_ ?_
            refine pu_ 6 (some 21) M6_7 HT_ ?_
            refine pu_ 7 (some 22) M6_8 HT_ ?_
            refine pu_ 8 (some 23) M6_9 HT_ ?_
            refine pu_ 10 (some 25) M6_10 HT_ ?_
            refine pu_ 11 (some 26) M6_11 HT_ ?_
            refine pu_ 12 (some 27) M6_12 HT_ ?_
            refine pu_ 13 (some 28) M6_13 HT_ ?_
            refine pu_ 14 (some 29) M6_14 HT_ ?_
            refine tk_ 9 (some 24) M6_15 HT_ HW_ hHeld ?_
            refine tk_ 15 (some 30) M6_16 HT_ HW_ hHeld ?_
            refine pu_ 16 (some 31) M6_17 HT_ ?_
            refine pu_ 17 (some 32) M6_18 HT_ ?_
            refine pu_ 18 (some 33) M6_19 HT_ ?_
            refine pu_ 19 (some 34) M6_20 HT_ ?_
            refine pn_ 20 (some 35) M6_21 HT_ ?_
            refine pn_ 21 (some 36) M6_22 HT_ ?_
            refine pn_ 22 (some 37) M6_23 HT_ ?_
            refine pn_ 23 (some 38) M6_24 HT_ ?_
            refine pu_ 24 (some 39) M6_25 HT_ ?_
            refine pu_ 25 (some 40) M6_26 HT_ ?_
            refine pn_ 26 (some 41) M6_27 HT_ ?_
            refine pn_ 27 (some 42) M6_28 HT_ ?_
            refine pn_ 28 (some 43) M6_29 HT_ ?_
            refine pn_ 29 (some 44) M6_30 HT_ ?_
            refine pu_ 30 (some 45) M6_31 HT_ ?_
            refine pu_ 31 (some 46) M6_32 HT_ ?_
            refine pn_ 32 (some 47) M6_33 HT_ ?_
            refine pn_ 33 (some 48) M6_34 HT_ ?_
            refine pn_ 34 (some 49) M6_35 HT_ ?_
            refine pn_ 35 (some 50) M6_36 HT_ ?_
            refine pu_ 36 (some 51) M6_37 HT_ ?_
            refine done_ (done_of HT_.out (by kernel_rfl)) ?_
            try go_wp2
            go_ret
            exact ⟨by first | rfl | (simp [errW_none, errW_some] <;> rfl) | (simp only [← hji9]; first | rfl | (simp [errW_none, errW_some] <;> rfl)) | (simp [*, errW_none, errW_some] <;> rfl), y84_⟩
           ·
            rw [if_neg c12] at H
            have c12b0 : decide (((rd_T36 l0 x10_1).f0) ≤ ((rd_T36 l0 (ji9)).f0)) = false := decide_eq_false c12
            clear c12
            by_cases c17 : (((rd_T36 l0 x10_1).f1).length : Int) = 0
            ·
             rw [if_pos c17] at H
             have c17b0 : ((((rd_T36 l0 x10_1).f1).length : Int) == 0) = true := beq_iff_eq.mpr c17
             have c17b1 : ((((rd_T36 l0 x10_1).f1).length : Int) != 0) = false := bne_eq_false_iff_eq.mpr c17
             clear c17
             obtain rfl := Option.some.inj H
             have p211 : 0 ≤ (x10_1 : Int) := of_decide_eq_true as_
             have q211 : x10_1 < (l0.length : Int) := of_decide_eq_true as_
             obtain ⟨ad211, A211_1, c211_1, e211, hx211_0, hx211_1, hx211_2, hl211_1, hi211_1⟩ := at_T36 HR0.out x10_1 p211 q211
             cases e211
             replace hx211_0 := cb_ HB.out hx211_0
             replace hx211_1 := cb_ HB.out hx211_1
             replace hx211_2 := cb_ HB.out hx211_2
             have HR211_1 := Aside0.mk hi211_1
             have HC211_1 := Aside0.mk hl211_1
             clear hi211_1 hl211_1
             replace p211 := eq_true p211
             replace q211 := eq_true q211
             try go_wp2_with (first | ((with_reducible refine gate_dst (N := 4) rfl ?_); (try (refine gate_guard (by rfl) ?_; dsimp only)); refine box_event ?hg (N := 4) ?hd (cs := #[.int .i64 0, .slice none 0 0, .int .i64 0]) (t := 36) ?hr ?_; (case hd => rfl); (case hg => rfl); (case hr => first | (go_simp; done) | (go_simp; rfl)); intro gb212 hg w18 hbox hb; have n0_ := Aside0.mk (below_step (hd_ HB.out) hb); have BK212 := Aside0.mk (hbox); have GW212 := Aside0.mk ((y87_ : w.heap.size ≤ gb212)); have GE212 := Aside0.mk ((y87_ : w.heap.size ≤ gb212)); clear HB; have HB := n0_; clear n0_; clear hb hbox hg; obtain ⟨hcz19_0, hcz19_1, hcz19_2⟩ := e81_ BK212.out; obtain ⟨hfz19_0, hfz19_1, hfz19_2⟩ := z82_ BK212.out))
             have n0_ : Aside0 ((((w18.setCell ⟨gb212, 0, none⟩ (.int .i64 ((rd_T36 l0 x10_1).f0))).setCell ⟨gb212, 1, none⟩ (.slice A211_1 ((rd_T36 l0 x10_1).f1).length c211_1)).setCell ⟨gb212, 2, none⟩ (.int .i64 ((rd_T36 l0 x10_1).f2))).heap[gb212]? = some (.cells #[.int .i64 ((rd_T36 l0 x10_1).f0), .slice A211_1 ((rd_T36 l0 x10_1).f1).length c211_1, .int .i64 ((rd_T36 l0 x10_1).f2)] 36 (0, 0))) := ⟨by (with_reducible repeat (first | refine blk_drewN ?_ _ | refine blk_drew ?_ | refine blk_alloc ?_ _)); refine blk_put (cs := #[.int .i64 ((rd_T36 l0 x10_1).f0), .slice A211_1 ((rd_T36 l0 x10_1).f1).length c211_1, .int .i64 0]) ?_ 2 _ rfl; (with_reducible repeat (first | refine blk_drewN ?_ _ | refine blk_drew ?_ | refine blk_alloc ?_ _)); refine blk_put (cs := #[.int .i64 ((rd_T36 l0 x10_1).f0), .slice none 0 0, .int .i64 0]) ?_ 1 _ rfl; (with_reducible repeat (first | refine blk_drewN ?_ _ | refine blk_drew ?_ | refine blk_alloc ?_ _)); refine blk_put (cs := #[.int .i64 0, .slice none 0 0, .int .i64 0]) ?_ 0 _ rfl; (with_reducible repeat (first | refine blk_drewN ?_ _ | refine blk_drew ?_ | refine blk_alloc ?_ _)); exact BK212.out⟩
             have n1_ : Aside0 (Below w.heap.size w (((w18.setCell ⟨gb212, 0, none⟩ (.int .i64 ((rd_T36 l0 x10_1).f0))).setCell ⟨gb212, 1, none⟩ (.slice A211_1 ((rd_T36 l0 x10_1).f1).length c211_1)).setCell ⟨gb212, 2, none⟩ (.int .i64 ((rd_T36 l0 x10_1).f2)))) := ⟨y84_⟩
             (try clear BK212)
             (try clear HB)
             generalize (((w18.setCell ⟨gb212, 0, none⟩ (.int .i64 ((rd_T36 l0 x10_1).f0))).setCell ⟨gb212, 1, none⟩ (.slice A211_1 ((rd_T36 l0 x10_1).f1).length c211_1)).setCell ⟨gb212, 2, none⟩ (.int .i64 ((rd_T36 l0 x10_1).f2))) = w20 at n0_ n1_ ⊢
             have BK212 := n0_
             have HB := n1_
             clear n0_ n1_
             have n0_ := Aside0.mk (blk_drew BK212.out)
             have n1_ := Aside0.mk (below_drew1 HB.out)
             clear BK212
             clear HB
             have BK212 := n0_
             have HB := n1_
             clear n0_ n1_
             have p214 : 0 ≤ ((ji9) : Int) := of_decide_eq_true as_
             have q214 : (ji9) < (l0.length : Int) := of_decide_eq_true as_
             obtain ⟨ad214, A214_1, c214_1, e214, hx214_0, hx214_1, hx214_2, hl214_1, hi214_1⟩ := at_T36 HR0.out (ji9) p214 q214
             have hw214_2 := hx214_2
             have hw214_1 := hx214_1
             have hw214_0 := hx214_0
             obtain rfl : ad211 = ad214 := (by injection e214)
             replace hx214_0 := cb_ HB.out hx214_0
             replace hx214_1 := cb_ HB.out hx214_1
             replace hx214_2 := cb_ HB.out hx214_2
             have HR214_1 := Aside0.mk hi214_1
             have HC214_1 := Aside0.mk hl214_1
             clear hi214_1 hl214_1
             replace p214 := eq_true p214
             replace q214 := eq_true q214
             refine start_ (n := 37) (S := fun w' => q1_ w' gb212 ((rd_T36 l0 x10_1).f0) A211_1 ((rd_T36 l0 x10_1).f1).length c211_1 ((rd_T36 l0 x10_1).f2) (q2e_ w' (ad211.add (((ji9)).toNat * 3)) ((rd_T36 l0 (ji9)).f0) A214_1 ((rd_T36 l0 (ji9)).f1).length c214_1 ((rd_T36 l0 (ji9)).f2))) (ds := []) M6_0 (by kernel_rfl) rfl rfl (k1_ BK212.out ⟨(cb_ HB.out hw214_0), (cb_ HB.out hw214_1), (cb_ HB.out hw214_2)⟩) (fun hHeld => ?_); refine with_tabW impl_AreSecrets.tab6 impl_AreSecrets.bits6 (fun HT_ HW_ => ?_)
             generalize w20.drew = w21 at BK212 HB HR214_1 hx214_0 hx214_1 hx214_2 hHeld ⊢
             refine pu_ 0 (some 15) M6_1 HT_ ?_
             refine tk_ 1 (some 16) M6_2 HT_ HW_ hHeld ?_
             refine one_ (i := 2) (N := some 17) M6_3 rfl rfl (one_of HT_.out (by kernel_rfl)) (by decide) (fun K hK => ?_)
             refine goes_ Try.func44 (by kernel_rfl) rfl #[.int .i64 ((rd_T36 l0 x10_1).f0), .int .i64 1, .int .i64 999] (by rfl) rfl rfl ma_ ?_
             with_reducible refine (impl_InRange.calls ((rd_T36 l0 x10_1).f0) 1 999 true _ A6.out).mono ?_
             rintro e w' ⟨rfl, ⟨nd, rfl⟩⟩
             refine ⟨_, rfl, ?_⟩
             refine hK.out _ _ (k1_ BK212.out ⟨(cb_ HB.out hw214_0), (cb_ HB.out hw214_1), (cb_ HB.out hw214_2)⟩) (fun hHeld => ?_)
             clear hK K
             refine norm_ (a' := ?_) ?_ ?_
             rotate_left
             ·
              show Act.put _ (some 17) _ = _
              simp only [Act.put, P6_1, P6_2, P6_3, i64_w, i32_w]
              rfl
             refine pu_ 3 (some 18) M6_4 HT_ ?_
             refine pu_ 4 (some 19) M6_5 HT_ ?_
             refine pu_ 5 (some 20) M6_6 HT_ ?_
             refine pu_ 6 (some 21) M6_7 HT_ ?_
             refine pu_ 7 (some 22) M6_8 HT_ ?_
             refine pu_ 8 (some 23) M6_9 HT_ ?_
             refine pu_ 10 (some 25) M6_10 HT_ ?_
             refine pu_ 11 (some 26) M6_11 HT_ ?_
             refine pu_ 12 (some 27) M6_12 HT_ ?_
             refine pu_ 13 (some 28) M6_13 HT_ ?_
             refine pu_ 14 (some 29) M6_14 HT_ ?_
             refine tk_ 9 (some 24) M6_15 HT_ HW_ hHeld ?_
             refine tk_ 15 (some 30) M6_16 HT_ HW_ hHeld ?_
             refine pu_ 16 (some 31) M6_17 HT_ ?_
             refine pu_ 17 (some 32) M6_18 HT_ ?_
             refine pu_ 18 (some 33) M6_19 HT_ ?_
             refine pu_ 19 (some 34) M6_20 HT_ ?_
             refine pu_ 20 (some 35) M6_21 HT_ ?_
             refine tk_ 21 (some 36) M6_22 HT_ HW_ hHeld ?_
             refine pu_ 22 (some 37) M6_23 HT_ ?_
             refine pu_ 23 (some 38) M6_24 HT_ ?_
             refine pu_ 24 (some 39) M6_25 HT_ ?_
             refine pu_ 25 (some 40) M6_26 HT_ ?_
             refine pn_ 26 (some 41) M6_27 HT_ ?_
             refine pn_ 27 (some 42) M6_28 HT_ ?_
             refine pn_ 28 (some 43) M6_29 HT_ ?_
             refine pn_ 29 (some 44) M6_30 HT_ ?_
             refine pu_ 30 (some 45) M6_31 HT_ ?_
             refine pu_ 31 (some 46) M6_32 HT_ ?_
             refine pn_ 32 (some 47) M6_33 HT_ ?_
             refine pn_ 33 (some 48) M6_34 HT_ ?_
             refine pn_ 34 (some 49) M6_35 HT_ ?_
             refine pn_ 35 (some 50) M6_36 HT_ ?_
             refine pu_ 36 (some 51) M6_37 HT_ ?_
             refine done_ (done_of HT_.out (by kernel_rfl)) ?_
             try go_wp2
             go_ret
             exact ⟨by first | rfl | (simp [errW_none, errW_some] <;> rfl) | (simp only [← hji9]; first | rfl | (simp [errW_none, errW_some] <;> rfl)) | (simp [*, errW_none, errW_some] <;> rfl), y84_⟩
            ·
             rw [if_neg c17] at H
             have c17b0 : ((((rd_T36 l0 x10_1).f1).length : Int) == 0) = false := beq_eq_false_iff_ne.mpr c17
             have c17b1 : ((((rd_T36 l0 x10_1).f1).length : Int) != 0) = true := bne_iff_ne.mpr c17
             have c17b2 : ¬ (((rd_T36 l0 x10_1).f1) = []) := fun h_ => c17 (by rw [h_]; rfl)
             replace H := Option.bind_eq_some_iff.mp H
             obtain ⟨t215, A220, H⟩ := H
             replace H : (if t215 = true then ((impl_InRange.f ((rd_T36 l0 x10_1).f2) 0 1000000).bind fun t216 => (if t216 = true then (impl_AreSecrets.l0 k1 l0 l0 (l0.length : Int) (wrap64 (x10_1 + 1))) else (some false))) else (some false)) = some r := H
             have A22 := Aside0.mk A220
             clear A220
             by_cases c23 : t215 = true
             ·
              subst c23
              have H1 : ((impl_InRange.f ((rd_T36 l0 x10_1).f2) 0 1000000).bind fun t216 => (if t216 = true then (impl_AreSecrets.l0 k1 l0 l0 (l0.length : Int) (wrap64 (x10_1 + 1))) else (some false))) = some r := by rw [if_pos rfl] at H; exact H
              clear H
              have H := H1
              clear H1
              replace H := Option.bind_eq_some_iff.mp H
              obtain ⟨t216, A240, H⟩ := H
              replace H : (if t216 = true then (impl_AreSecrets.l0 k1 l0 l0 (l0.length : Int) (wrap64 (x10_1 + 1))) else (some false)) = some r := H
              have A24 := Aside0.mk A240
              clear A240
              by_cases c25 : t216 = true
              ·
               subst c25
               have H1 : (impl_AreSecrets.l0 k1 l0 l0 (l0.length : Int) (wrap64 (x10_1 + 1))) = some r := by rw [if_pos rfl] at H; exact H
               clear H
               have H := H1
               clear H1
               have H' := Aside0.mk H
               clear H
               have p211 : 0 ≤ (x10_1 : Int) := of_decide_eq_true as_
               have q211 : x10_1 < (l0.length : Int) := of_decide_eq_true as_
               obtain ⟨ad211, A211_1, c211_1, e211, hx211_0, hx211_1, hx211_2, hl211_1, hi211_1⟩ := at_T36 HR0.out x10_1 p211 q211
               cases e211
               replace hx211_0 := cb_ HB.out hx211_0
               replace hx211_1 := cb_ HB.out hx211_1
               replace hx211_2 := cb_ HB.out hx211_2
               have HR211_1 := Aside0.mk hi211_1
               have HC211_1 := Aside0.mk hl211_1
               clear hi211_1 hl211_1
               replace p211 := eq_true p211
               replace q211 := eq_true q211
               try go_wp2_with (first | ((with_reducible refine gate_dst (N := 4) rfl ?_); (try (refine gate_guard (by rfl) ?_; dsimp only)); refine box_event ?hg (N := 4) ?hd (cs := #[.int .i64 0, .slice none 0 0, .int .i64 0]) (t := 36) ?hr ?_; (case hd => rfl); (case hg => rfl); (case hr => first | (go_simp; done) | (go_simp; rfl)); intro gb212 hg w26 hbox hb; have n0_ := Aside0.mk (below_step (hd_ HB.out) hb); have BK212 := Aside0.mk (hbox); have GW212 := Aside0.mk ((y87_ : w.heap.size ≤ gb212)); have GE212 := Aside0.mk ((y87_ : w.heap.size ≤ gb212)); clear HB; have HB := n0_; clear n0_; clear hb hbox hg; obtain ⟨hcz27_0, hcz27_1, hcz27_2⟩ := e81_ BK212.out; obtain ⟨hfz27_0, hfz27_1, hfz27_2⟩ := z82_ BK212.out))
               have n0_ : Aside0 ((((w26.setCell ⟨gb212, 0, none⟩ (.int .i64 ((rd_T36 l0 x10_1).f0))).setCell ⟨gb212, 1, none⟩ (.slice A211_1 ((rd_T36 l0 x10_1).f1).length c211_1)).setCell ⟨gb212, 2, none⟩ (.int .i64 ((rd_T36 l0 x10_1).f2))).heap[gb212]? = some (.cells #[.int .i64 ((rd_T36 l0 x10_1).f0), .slice A211_1 ((rd_T36 l0 x10_1).f1).length c211_1, .int .i64 ((rd_T36 l0 x10_1).f2)] 36 (0, 0))) := ⟨by (with_reducible repeat (first | refine blk_drewN ?_ _ | refine blk_drew ?_ | refine blk_alloc ?_ _)); refine blk_put (cs := #[.int .i64 ((rd_T36 l0 x10_1).f0), .slice A211_1 ((rd_T36 l0 x10_1).f1).length c211_1, .int .i64 0]) ?_ 2 _ rfl; (with_reducible repeat (first | refine blk_drewN ?_ _ | refine blk_drew ?_ | refine blk_alloc ?_ _)); refine blk_put (cs := #[.int .i64 ((rd_T36 l0 x10_1).f0), .slice none 0 0, .int .i64 0]) ?_ 1 _ rfl; (with_reducible repeat (first | refine blk_drewN ?_ _ | refine blk_drew ?_ | refine blk_alloc ?_ _)); refine blk_put (cs := #[.int .i64 0, .slice none 0 0, .int .i64 0]) ?_ 0 _ rfl; (with_reducible repeat (first | refine blk_drewN ?_ _ | refine blk_drew ?_ | refine blk_alloc ?_ _)); exact BK212.out⟩
               have n1_ : Aside0 (Below w.heap.size w (((w26.setCell ⟨gb212, 0, none⟩ (.int .i64 ((rd_T36 l0 x10_1).f0))).setCell ⟨gb212, 1, none⟩ (.slice A211_1 ((rd_T36 l0 x10_1).f1).length c211_1)).setCell ⟨gb212, 2, none⟩ (.int .i64 ((rd_T36 l0 x10_1).f2)))) := ⟨y84_⟩
               (try clear BK212)
               (try clear HB)
               generalize (((w26.setCell ⟨gb212, 0, none⟩ (.int .i64 ((rd_T36 l0 x10_1).f0))).setCell ⟨gb212, 1, none⟩ (.slice A211_1 ((rd_T36 l0 x10_1).f1).length c211_1)).setCell ⟨gb212, 2, none⟩ (.int .i64 ((rd_T36 l0 x10_1).f2))) = w28 at n0_ n1_ ⊢
               have BK212 := n0_
               have HB := n1_
               clear n0_ n1_
               have n0_ := Aside0.mk (blk_drew BK212.out)
               have n1_ := Aside0.mk (below_drew1 HB.out)
               clear BK212
               clear HB
               have BK212 := n0_
               have HB := n1_
               clear n0_ n1_
               have p214 : 0 ≤ ((ji9) : Int) := of_decide_eq_true as_
               have q214 : (ji9) < (l0.length : Int) := of_decide_eq_true as_
               obtain ⟨ad214, A214_1, c214_1, e214, hx214_0, hx214_1, hx214_2, hl214_1, hi214_1⟩ := at_T36 HR0.out (ji9) p214 q214
               have hw214_2 := hx214_2
               have hw214_1 := hx214_1
               have hw214_0 := hx214_0
               obtain rfl : ad211 = ad214 := (by injection e214)
               replace hx214_0 := cb_ HB.out hx214_0
               replace hx214_1 := cb_ HB.out hx214_1
               replace hx214_2 := cb_ HB.out hx214_2
               have HR214_1 := Aside0.mk hi214_1
               have HC214_1 := Aside0.mk hl214_1
               clear hi214_1 hl214_1
               replace p214 := eq_true p214
               replace q214 := eq_true q214
               refine start_ (n := 37) (S := fun w' => q1_ w' gb212 ((rd_T36 l0 x10_1).f0) A211_1 ((rd_T36 l0 x10_1).f1).length c211_1 ((rd_T36 l0 x10_1).f2) (q2e_ w' (ad211.add (((ji9)).toNat * 3)) ((rd_T36 l0 (ji9)).f0) A214_1 ((rd_T36 l0 (ji9)).f1).length c214_1 ((rd_T36 l0 (ji9)).f2))) (ds := []) M6_0 (by kernel_rfl) rfl rfl (k1_ BK212.out ⟨(cb_ HB.out hw214_0), (cb_ HB.out hw214_1), (cb_ HB.out hw214_2)⟩) (fun hHeld => ?_); refine with_tabW impl_AreSecrets.tab6 impl_AreSecrets.bits6 (fun HT_ HW_ => ?_)
               generalize w28.drew = w29 at BK212 HB HR214_1 hx214_0 hx214_1 hx214_2 hHeld ⊢
               refine pu_ 0 (some 15) M6_1 HT_ ?_
               refine tk_ 1 (some 16) M6_2 HT_ HW_ hHeld ?_
               refine one_ (i := 2) (N := some 17) M6_3 rfl rfl (one_of HT_.out (by kernel_rfl)) (by decide) (fun K hK => ?_)
               refine goes_ Try.func44 (by kernel_rfl) rfl #[.int .i64 ((rd_T36 l0 x10_1).f0), .int .i64 1, .int .i64 999] (by rfl) rfl rfl ma_ ?_
               with_reducible refine (impl_InRange.calls ((rd_T36 l0 x10_1).f0) 1 999 true _ A6.out).mono ?_
               rintro e w' ⟨rfl, ⟨nd, rfl⟩⟩
               refine ⟨_, rfl, ?_⟩
               refine hK.out _ _ (k1_ BK212.out ⟨(cb_ HB.out hw214_0), (cb_ HB.out hw214_1), (cb_ HB.out hw214_2)⟩) (fun hHeld => ?_)
               clear hK K
               refine norm_ (a' := ?_) ?_ ?_
               rotate_left
               ·
                show Act.put _ (some 17) _ = _
                simp only [Act.put, P6_1, P6_2, P6_3, i64_w, i32_w]
                rfl
               refine pu_ 3 (some 18) M6_4 HT_ ?_
               refine pu_ 4 (some 19) M6_5 HT_ ?_
               refine pu_ 5 (some 20) M6_6 HT_ ?_
               refine pu_ 6 (some 21) M6_7 HT_ ?_
               refine pu_ 7 (some 22) M6_8 HT_ ?_
               refine pu_ 8 (some 23) M6_9 HT_ ?_
               refine pu_ 10 (some 25) M6_10 HT_ ?_
               refine pu_ 11 (some 26) M6_11 HT_ ?_
               refine pu_ 12 (some 27) M6_12 HT_ ?_
               refine pu_ 13 (some 28) M6_13 HT_ ?_
               refine pu_ 14 (some 29) M6_14 HT_ ?_
               refine tk_ 9 (some 24) M6_15 HT_ HW_ hHeld ?_
               refine tk_ 15 (some 30) M6_16 HT_ HW_ hHeld ?_
               refine pu_ 16 (some 31) M6_17 HT_ ?_
               refine pu_ 17 (some 32) M6_18 HT_ ?_
               refine pu_ 18 (some 33) M6_19 HT_ ?_
               refine pu_ 19 (some 34) M6_20 HT_ ?_
               refine pu_ 20 (some 35) M6_21 HT_ ?_
               refine tk_ 21 (some 36) M6_22 HT_ HW_ hHeld ?_
               refine pu_ 22 (some 37) M6_23 HT_ ?_
               refine pu_ 23 (some 38) M6_24 HT_ ?_
               refine pu_ 24 (some 39) M6_25 HT_ ?_
               refine pu_ 25 (some 40) M6_26 HT_ ?_
               refine pu_ 26 (some 41) M6_27 HT_ ?_
               refine tk_ 27 (some 42) M6_28 HT_ HW_ hHeld ?_
               refine one_ (i := 28) (N := some 43) M6_29 rfl rfl (one_of HT_.out (by kernel_rfl)) (by decide) (fun K hK => ?_)
               refine goes_ Try.func45 (by kernel_rfl) rfl #[.slice A211_1 ((rd_T36 l0 x10_1).f1).length c211_1] (by rfl) rfl rfl ma_ ?_
               with_reducible refine (impl_AreMarks.calls k1 _ _ ((rd_T36 l0 x10_1).f1) true _ ?side1 ?side2 A22.out).mono ?_
               (case side1 => repeat (first | exact (Kd.C_below HR211_1.out (y84_)) | (with_reducible refine Kd.C_alloc ?_ _) | (with_reducible refine Kd.C_drewN ?_ _) | (with_reducible refine Kd.C_drew ?_)))
               (case side2 => exact HC211_1.out)
               rintro e w30 ⟨rfl, hb⟩
               refine ⟨_, rfl, ?_⟩
               have n0_ := Aside0.mk (blk_below (bd_ BK212.out) hb)
               have n1_ := Aside0.mk (below_step (y84_) hb)
               clear BK212
               clear HB
               have BK212 := n0_
               have HB := n1_
               clear n0_ n1_
               (try clear hb)
               (try clear hb2)
               (try clear hk)
               (try clear hi)
               refine hK.out _ _ (k1_ BK212.out ⟨(cb_ HB.out hw214_0), (cb_ HB.out hw214_1), (cb_ HB.out hw214_2)⟩) (fun hHeld => ?_)
               clear hK K
               refine norm_ (a' := ?_) ?_ ?_
               rotate_left
               ·
                show Act.put _ (some 43) _ = _
                simp only [Act.put, P6_1, P6_2, P6_3, i64_w, i32_w]
                rfl
               refine pu_ 29 (some 44) M6_30 HT_ ?_
               refine pu_ 30 (some 45) M6_31 HT_ ?_
               refine pu_ 31 (some 46) M6_32 HT_ ?_
               refine pu_ 32 (some 47) M6_33 HT_ ?_
               refine tk_ 33 (some 48) M6_34 HT_ HW_ hHeld ?_
               refine one_ (i := 34) (N := some 49) M6_35 rfl rfl (one_of HT_.out (by kernel_rfl)) (by decide) (fun K hK => ?_)
               refine goes_ Try.func44 (by kernel_rfl) rfl #[.int .i64 ((rd_T36 l0 x10_1).f2), .int .i64 0, .int .i64 1000000] (by rfl) rfl rfl ma_ ?_
               with_reducible refine (impl_InRange.calls ((rd_T36 l0 x10_1).f2) 0 1000000 true _ A24.out).mono ?_
               rintro e w' ⟨rfl, ⟨nd, rfl⟩⟩
               refine ⟨_, rfl, ?_⟩
               refine hK.out _ _ (k1_ BK212.out ⟨(cb_ HB.out hw214_0), (cb_ HB.out hw214_1), (cb_ HB.out hw214_2)⟩) (fun hHeld => ?_)
               clear hK K
               refine norm_ (a' := ?_) ?_ ?_
               rotate_left
               ·
                show Act.put _ (some 49) _ = _
                simp only [Act.put, P6_1, P6_2, P6_3, i64_w, i32_w]
                rfl
               refine pu_ 35 (some 50) M6_36 HT_ ?_
               refine pu_ 36 (some 51) M6_37 HT_ ?_
               refine done_ (done_of HT_.out (by kernel_rfl)) ?_
               try go_wp2
               go_roundg k1
               case measure => have := HK1.out; omega
               case rel => exact ⟨(wrap64 (x10_1 + 1)), (by first | rfl | (simp; done) | (simp [*]; done)), H', ⟨by have := HK1.out; omega⟩, ⟨y84_⟩⟩
              ·
               replace c25 := Bool.eq_false_iff.mpr c25
               subst c25
               have H1 : (some false) = some r := by rw [if_neg (show ¬ (false = true) by decide)] at H; exact H
               clear H
               have H := H1
               clear H1
               obtain rfl := Option.some.inj H
               have p211 : 0 ≤ (x10_1 : Int) := of_decide_eq_true as_
               have q211 : x10_1 < (l0.length : Int) := of_decide_eq_true as_
               obtain ⟨ad211, A211_1, c211_1, e211, hx211_0, hx211_1, hx211_2, hl211_1, hi211_1⟩ := at_T36 HR0.out x10_1 p211 q211
               cases e211
               replace hx211_0 := cb_ HB.out hx211_0
               replace hx211_1 := cb_ HB.out hx211_1
               replace hx211_2 := cb_ HB.out hx211_2
               have HR211_1 := Aside0.mk hi211_1
               have HC211_1 := Aside0.mk hl211_1
               clear hi211_1 hl211_1
               replace p211 := eq_true p211
               replace q211 := eq_true q211
               try go_wp2_with (first | ((with_reducible refine gate_dst (N := 4) rfl ?_); (try (refine gate_guard (by rfl) ?_; dsimp only)); refine box_event ?hg (N := 4) ?hd (cs := #[.int .i64 0, .slice none 0 0, .int .i64 0]) (t := 36) ?hr ?_; (case hd => rfl); (case hg => rfl); (case hr => first | (go_simp; done) | (go_simp; rfl)); intro gb212 hg w31 hbox hb; have n0_ := Aside0.mk (below_step (hd_ HB.out) hb); have BK212 := Aside0.mk (hbox); have GW212 := Aside0.mk ((y87_ : w.heap.size ≤ gb212)); have GE212 := Aside0.mk ((y87_ : w.heap.size ≤ gb212)); clear HB; have HB := n0_; clear n0_; clear hb hbox hg; obtain ⟨hcz32_0, hcz32_1, hcz32_2⟩ := e81_ BK212.out; obtain ⟨hfz32_0, hfz32_1, hfz32_2⟩ := z82_ BK212.out))
               have n0_ : Aside0 ((((w31.setCell ⟨gb212, 0, none⟩ (.int .i64 ((rd_T36 l0 x10_1).f0))).setCell ⟨gb212, 1, none⟩ (.slice A211_1 ((rd_T36 l0 x10_1).f1).length c211_1)).setCell ⟨gb212, 2, none⟩ (.int .i64 ((rd_T36 l0 x10_1).f2))).heap[gb212]? = some (.cells #[.int .i64 ((rd_T36 l0 x10_1).f0), .slice A211_1 ((rd_T36 l0 x10_1).f1).length c211_1, .int .i64 ((rd_T36 l0 x10_1).f2)] 36 (0, 0))) := ⟨by (with_reducible repeat (first | refine blk_drewN ?_ _ | refine blk_drew ?_ | refine blk_alloc ?_ _)); refine blk_put (cs := #[.int .i64 ((rd_T36 l0 x10_1).f0), .slice A211_1 ((rd_T36 l0 x10_1).f1).length c211_1, .int .i64 0]) ?_ 2 _ rfl; (with_reducible repeat (first | refine blk_drewN ?_ _ | refine blk_drew ?_ | refine blk_alloc ?_ _)); refine blk_put (cs := #[.int .i64 ((rd_T36 l0 x10_1).f0), .slice none 0 0, .int .i64 0]) ?_ 1 _ rfl; (with_reducible repeat (first | refine blk_drewN ?_ _ | refine blk_drew ?_ | refine blk_alloc ?_ _)); refine blk_put (cs := #[.int .i64 0, .slice none 0 0, .int .i64 0]) ?_ 0 _ rfl; (with_reducible repeat (first | refine blk_drewN ?_ _ | refine blk_drew ?_ | refine blk_alloc ?_ _)); exact BK212.out⟩
               have n1_ : Aside0 (Below w.heap.size w (((w31.setCell ⟨gb212, 0, none⟩ (.int .i64 ((rd_T36 l0 x10_1).f0))).setCell ⟨gb212, 1, none⟩ (.slice A211_1 ((rd_T36 l0 x10_1).f1).length c211_1)).setCell ⟨gb212, 2, none⟩ (.int .i64 ((rd_T36 l0 x10_1).f2)))) := ⟨y84_⟩
               (try clear BK212)
               (try clear HB)
               generalize (((w31.setCell ⟨gb212, 0, none⟩ (.int .i64 ((rd_T36 l0 x10_1).f0))).setCell ⟨gb212, 1, none⟩ (.slice A211_1 ((rd_T36 l0 x10_1).f1).length c211_1)).setCell ⟨gb212, 2, none⟩ (.int .i64 ((rd_T36 l0 x10_1).f2))) = w33 at n0_ n1_ ⊢
               have BK212 := n0_
               have HB := n1_
               clear n0_ n1_
               have n0_ := Aside0.mk (blk_drew BK212.out)
               have n1_ := Aside0.mk (below_drew1 HB.out)
               clear BK212
               clear HB
               have BK212 := n0_
               have HB := n1_
               clear n0_ n1_
               have p214 : 0 ≤ ((ji9) : Int) := of_decide_eq_true as_
               have q214 : (ji9) < (l0.length : Int) := of_decide_eq_true as_
               obtain ⟨ad214, A214_1, c214_1, e214, hx214_0, hx214_1, hx214_2, hl214_1, hi214_1⟩ := at_T36 HR0.out (ji9) p214 q214
               have hw214_2 := hx214_2
               have hw214_1 := hx214_1
               have hw214_0 := hx214_0
               obtain rfl : ad211 = ad214 := (by injection e214)
               replace hx214_0 := cb_ HB.out hx214_0
               replace hx214_1 := cb_ HB.out hx214_1
               replace hx214_2 := cb_ HB.out hx214_2
               have HR214_1 := Aside0.mk hi214_1
               have HC214_1 := Aside0.mk hl214_1
               clear hi214_1 hl214_1
               replace p214 := eq_true p214
               replace q214 := eq_true q214
               refine start_ (n := 37) (S := fun w' => q1_ w' gb212 ((rd_T36 l0 x10_1).f0) A211_1 ((rd_T36 l0 x10_1).f1).length c211_1 ((rd_T36 l0 x10_1).f2) (q2e_ w' (ad211.add (((ji9)).toNat * 3)) ((rd_T36 l0 (ji9)).f0) A214_1 ((rd_T36 l0 (ji9)).f1).length c214_1 ((rd_T36 l0 (ji9)).f2))) (ds := []) M6_0 (by kernel_rfl) rfl rfl (k1_ BK212.out ⟨(cb_ HB.out hw214_0), (cb_ HB.out hw214_1), (cb_ HB.out hw214_2)⟩) (fun hHeld => ?_); refine with_tabW impl_AreSecrets.tab6 impl_AreSecrets.bits6 (fun HT_ HW_ => ?_)
               generalize w33.drew = w34 at BK212 HB HR214_1 hx214_0 hx214_1 hx214_2 hHeld ⊢
               refine pu_ 0 (some 15) M6_1 HT_ ?_
               refine tk_ 1 (some 16) M6_2 HT_ HW_ hHeld ?_
               refine one_ (i := 2) (N := some 17) M6_3 rfl rfl (one_of HT_.out (by kernel_rfl)) (by decide) (fun K hK => ?_)
               refine goes_ Try.func44 (by kernel_rfl) rfl #[.int .i64 ((rd_T36 l0 x10_1).f0), .int .i64 1, .int .i64 999] (by rfl) rfl rfl ma_ ?_
               with_reducible refine (impl_InRange.calls ((rd_T36 l0 x10_1).f0) 1 999 true _ A6.out).mono ?_
               rintro e w' ⟨rfl, ⟨nd, rfl⟩⟩
               refine ⟨_, rfl, ?_⟩
               refine hK.out _ _ (k1_ BK212.out ⟨(cb_ HB.out hw214_0), (cb_ HB.out hw214_1), (cb_ HB.out hw214_2)⟩) (fun hHeld => ?_)
               clear hK K
               refine norm_ (a' := ?_) ?_ ?_
               rotate_left
               ·
                show Act.put _ (some 17) _ = _
                simp only [Act.put, P6_1, P6_2, P6_3, i64_w, i32_w]
                rfl
               refine pu_ 3 (some 18) M6_4 HT_ ?_
               refine pu_ 4 (some 19) M6_5 HT_ ?_
               refine pu_ 5 (some 20) M6_6 HT_ ?_
               refine pu_ 6 (some 21) M6_7 HT_ ?_
               refine pu_ 7 (some 22) M6_8 HT_ ?_
               refine pu_ 8 (some 23) M6_9 HT_ ?_
               refine pu_ 10 (some 25) M6_10 HT_ ?_
               refine pu_ 11 (some 26) M6_11 HT_ ?_
               refine pu_ 12 (some 27) M6_12 HT_ ?_
               refine pu_ 13 (some 28) M6_13 HT_ ?_
               refine pu_ 14 (some 29) M6_14 HT_ ?_
               refine tk_ 9 (some 24) M6_15 HT_ HW_ hHeld ?_
               refine tk_ 15 (some 30) M6_16 HT_ HW_ hHeld ?_
               refine pu_ 16 (some 31) M6_17 HT_ ?_
               refine pu_ 17 (some 32) M6_18 HT_ ?_
               refine pu_ 18 (some 33) M6_19 HT_ ?_
               refine pu_ 19 (some 34) M6_20 HT_ ?_
               refine pu_ 20 (some 35) M6_21 HT_ ?_
               refine tk_ 21 (some 36) M6_22 HT_ HW_ hHeld ?_
               refine pu_ 22 (some 37) M6_23 HT_ ?_
               refine pu_ 23 (some 38) M6_24 HT_ ?_
               refine pu_ 24 (some 39) M6_25 HT_ ?_
               refine pu_ 25 (some 40) M6_26 HT_ ?_
               refine pu_ 26 (some 41) M6_27 HT_ ?_
               refine tk_ 27 (some 42) M6_28 HT_ HW_ hHeld ?_
               refine one_ (i := 28) (N := some 43) M6_29 rfl rfl (one_of HT_.out (by kernel_rfl)) (by decide) (fun K hK => ?_)
               refine goes_ Try.func45 (by kernel_rfl) rfl #[.slice A211_1 ((rd_T36 l0 x10_1).f1).length c211_1] (by rfl) rfl rfl ma_ ?_
               with_reducible refine (impl_AreMarks.calls k1 _ _ ((rd_T36 l0 x10_1).f1) true _ ?side1 ?side2 A22.out).mono ?_
               (case side1 => repeat (first | exact (Kd.C_below HR211_1.out (y84_)) | (with_reducible refine Kd.C_alloc ?_ _) | (with_reducible refine Kd.C_drewN ?_ _) | (with_reducible refine Kd.C_drew ?_)))
               (case side2 => exact HC211_1.out)
               rintro e w35 ⟨rfl, hb⟩
               refine ⟨_, rfl, ?_⟩
               have n0_ := Aside0.mk (blk_below (bd_ BK212.out) hb)
               have n1_ := Aside0.mk (below_step (y84_) hb)
               clear BK212
               clear HB
               have BK212 := n0_
               have HB := n1_
               clear n0_ n1_
               (try clear hb)
               (try clear hb2)
               (try clear hk)
               (try clear hi)
               refine hK.out _ _ (k1_ BK212.out ⟨(cb_ HB.out hw214_0), (cb_ HB.out hw214_1), (cb_ HB.out hw214_2)⟩) (fun hHeld => ?_)
               clear hK K
               refine norm_ (a' := ?_) ?_ ?_
               rotate_left
               ·
                show Act.put _ (some 43) _ = _
                simp only [Act.put, P6_1, P6_2, P6_3, i64_w, i32_w]
                rfl
               refine pu_ 29 (some 44) M6_30 HT_ ?_
               refine pu_ 30 (some 45) M6_31 HT_ ?_
               refine pu_ 31 (some 46) M6_32 HT_ ?_
               refine pu_ 32 (some 47) M6_33 HT_ ?_
               refine tk_ 33 (some 48) M6_34 HT_ HW_ hHeld ?_
               refine one_ (i := 34) (N := some 49) M6_35 rfl rfl (one_of HT_.out (by kernel_rfl)) (by decide) (fun K hK => ?_)
               refine goes_ Try.func44 (by kernel_rfl) rfl #[.int .i64 ((rd_T36 l0 x10_1).f2), .int .i64 0, .int .i64 1000000] (by rfl) rfl rfl ma_ ?_
               with_reducible refine (impl_InRange.calls ((rd_T36 l0 x10_1).f2) 0 1000000 false _ A24.out).mono ?_
               rintro e w' ⟨rfl, ⟨nd, rfl⟩⟩
               refine ⟨_, rfl, ?_⟩
               refine hK.out _ _ (k1_ BK212.out ⟨(cb_ HB.out hw214_0), (cb_ HB.out hw214_1), (cb_ HB.out hw214_2)⟩) (fun hHeld => ?_)
               clear hK K
               refine norm_ (a' := ?_) ?_ ?_
               rotate_left
               ·
                show Act.put _ (some 49) _ = _
                simp only [Act.put, P6_1, P6_2, P6_3, i64_w, i32_w]
                rfl
               refine pu_ 35 (some 50) M6_36 HT_ ?_
               refine pu_ 36 (some 51) M6_37 HT_ ?_
               refine done_ (done_of HT_.out (by kernel_rfl)) ?_
               try go_wp2
               go_ret
               exact ⟨by first | rfl | (simp [errW_none, errW_some] <;> rfl) | (simp only [← hji9]; first | rfl | (simp [errW_none, errW_some] <;> rfl)) | (simp [*, errW_none, errW_some] <;> rfl), y84_⟩
             ·
              replace c23 := Bool.eq_false_iff.mpr c23
              subst c23
              have H1 : (some false) = some r := by rw [if_neg (show ¬ (false = true) by decide)] at H; exact H
              clear H
              have H := H1
              clear H1
              obtain rfl := Option.some.inj H
              have p211 : 0 ≤ (x10_1 : Int) := of_decide_eq_true as_
              have q211 : x10_1 < (l0.length : Int) := of_decide_eq_true as_
              obtain ⟨ad211, A211_1, c211_1, e211, hx211_0, hx211_1, hx211_2, hl211_1, hi211_1⟩ := at_T36 HR0.out x10_1 p211 q211
              cases e211
              replace hx211_0 := cb_ HB.out hx211_0
              replace hx211_1 := cb_ HB.out hx211_1
              replace hx211_2 := cb_ HB.out hx211_2
              have HR211_1 := Aside0.mk hi211_1
              have HC211_1 := Aside0.mk hl211_1
              clear hi211_1 hl211_1
              replace p211 := eq_true p211
              replace q211 := eq_true q211
              try go_wp2_with (first | ((with_reducible refine gate_dst (N := 4) rfl ?_); (try (refine gate_guard (by rfl) ?_; dsimp only)); refine box_event ?hg (N := 4) ?hd (cs := #[.int .i64 0, .slice none 0 0, .int .i64 0]) (t := 36) ?hr ?_; (case hd => rfl); (case hg => rfl); (case hr => first | (go_simp; done) | (go_simp; rfl)); intro gb212 hg w36 hbox hb; have n0_ := Aside0.mk (below_step (hd_ HB.out) hb); have BK212 := Aside0.mk (hbox); have GW212 := Aside0.mk ((y87_ : w.heap.size ≤ gb212)); have GE212 := Aside0.mk ((y87_ : w.heap.size ≤ gb212)); clear HB; have HB := n0_; clear n0_; clear hb hbox hg; obtain ⟨hcz37_0, hcz37_1, hcz37_2⟩ := e81_ BK212.out; obtain ⟨hfz37_0, hfz37_1, hfz37_2⟩ := z82_ BK212.out))
              have n0_ : Aside0 ((((w36.setCell ⟨gb212, 0, none⟩ (.int .i64 ((rd_T36 l0 x10_1).f0))).setCell ⟨gb212, 1, none⟩ (.slice A211_1 ((rd_T36 l0 x10_1).f1).length c211_1)).setCell ⟨gb212, 2, none⟩ (.int .i64 ((rd_T36 l0 x10_1).f2))).heap[gb212]? = some (.cells #[.int .i64 ((rd_T36 l0 x10_1).f0), .slice A211_1 ((rd_T36 l0 x10_1).f1).length c211_1, .int .i64 ((rd_T36 l0 x10_1).f2)] 36 (0, 0))) := ⟨by (with_reducible repeat (first | refine blk_drewN ?_ _ | refine blk_drew ?_ | refine blk_alloc ?_ _)); refine blk_put (cs := #[.int .i64 ((rd_T36 l0 x10_1).f0), .slice A211_1 ((rd_T36 l0 x10_1).f1).length c211_1, .int .i64 0]) ?_ 2 _ rfl; (with_reducible repeat (first | refine blk_drewN ?_ _ | refine blk_drew ?_ | refine blk_alloc ?_ _)); refine blk_put (cs := #[.int .i64 ((rd_T36 l0 x10_1).f0), .slice none 0 0, .int .i64 0]) ?_ 1 _ rfl; (with_reducible repeat (first | refine blk_drewN ?_ _ | refine blk_drew ?_ | refine blk_alloc ?_ _)); refine blk_put (cs := #[.int .i64 0, .slice none 0 0, .int .i64 0]) ?_ 0 _ rfl; (with_reducible repeat (first | refine blk_drewN ?_ _ | refine blk_drew ?_ | refine blk_alloc ?_ _)); exact BK212.out⟩
              have n1_ : Aside0 (Below w.heap.size w (((w36.setCell ⟨gb212, 0, none⟩ (.int .i64 ((rd_T36 l0 x10_1).f0))).setCell ⟨gb212, 1, none⟩ (.slice A211_1 ((rd_T36 l0 x10_1).f1).length c211_1)).setCell ⟨gb212, 2, none⟩ (.int .i64 ((rd_T36 l0 x10_1).f2)))) := ⟨y84_⟩
              (try clear BK212)
              (try clear HB)
              generalize (((w36.setCell ⟨gb212, 0, none⟩ (.int .i64 ((rd_T36 l0 x10_1).f0))).setCell ⟨gb212, 1, none⟩ (.slice A211_1 ((rd_T36 l0 x10_1).f1).length c211_1)).setCell ⟨gb212, 2, none⟩ (.int .i64 ((rd_T36 l0 x10_1).f2))) = w38 at n0_ n1_ ⊢
              have BK212 := n0_
              have HB := n1_
              clear n0_ n1_
              have n0_ := Aside0.mk (blk_drew BK212.out)
              have n1_ := Aside0.mk (below_drew1 HB.out)
              clear BK212
              clear HB
              have BK212 := n0_
              have HB := n1_
              clear n0_ n1_
              have p214 : 0 ≤ ((ji9) : Int) := of_decide_eq_true as_
              have q214 : (ji9) < (l0.length : Int) := of_decide_eq_true as_
              obtain ⟨ad214, A214_1, c214_1, e214, hx214_0, hx214_1, hx214_2, hl214_1, hi214_1⟩ := at_T36 HR0.out (ji9) p214 q214
              have hw214_2 := hx214_2
              have hw214_1 := hx214_1
              have hw214_0 := hx214_0
              obtain rfl : ad211 = ad214 := (by injection e214)
              replace hx214_0 := cb_ HB.out hx214_0
              replace hx214_1 := cb_ HB.out hx214_1
              replace hx214_2 := cb_ HB.out hx214_2
              have HR214_1 := Aside0.mk hi214_1
              have HC214_1 := Aside0.mk hl214_1
              clear hi214_1 hl214_1
              replace p214 := eq_true p214
              replace q214 := eq_true q214
              refine start_ (n := 37) (S := fun w' => q1_ w' gb212 ((rd_T36 l0 x10_1).f0) A211_1 ((rd_T36 l0 x10_1).f1).length c211_1 ((rd_T36 l0 x10_1).f2) (q2e_ w' (ad211.add (((ji9)).toNat * 3)) ((rd_T36 l0 (ji9)).f0) A214_1 ((rd_T36 l0 (ji9)).f1).length c214_1 ((rd_T36 l0 (ji9)).f2))) (ds := []) M6_0 (by kernel_rfl) rfl rfl (k1_ BK212.out ⟨(cb_ HB.out hw214_0), (cb_ HB.out hw214_1), (cb_ HB.out hw214_2)⟩) (fun hHeld => ?_); refine with_tabW impl_AreSecrets.tab6 impl_AreSecrets.bits6 (fun HT_ HW_ => ?_)
              generalize w38.drew = w39 at BK212 HB HR214_1 hx214_0 hx214_1 hx214_2 hHeld ⊢
              refine pu_ 0 (some 15) M6_1 HT_ ?_
              refine tk_ 1 (some 16) M6_2 HT_ HW_ hHeld ?_
              refine one_ (i := 2) (N := some 17) M6_3 rfl rfl (one_of HT_.out (by kernel_rfl)) (by decide) (fun K hK => ?_)
              refine goes_ Try.func44 (by kernel_rfl) rfl #[.int .i64 ((rd_T36 l0 x10_1).f0), .int .i64 1, .int .i64 999] (by rfl) rfl rfl ma_ ?_
              with_reducible refine (impl_InRange.calls ((rd_T36 l0 x10_1).f0) 1 999 true _ A6.out).mono ?_
              rintro e w' ⟨rfl, ⟨nd, rfl⟩⟩
              refine ⟨_, rfl, ?_⟩
              refine hK.out _ _ (k1_ BK212.out ⟨(cb_ HB.out hw214_0), (cb_ HB.out hw214_1), (cb_ HB.out hw214_2)⟩) (fun hHeld => ?_)
              clear hK K
              refine norm_ (a' := ?_) ?_ ?_
              rotate_left
              ·
               show Act.put _ (some 17) _ = _
               simp only [Act.put, P6_1, P6_2, P6_3, i64_w, i32_w]
               rfl
              refine pu_ 3 (some 18) M6_4 HT_ ?_
              refine pu_ 4 (some 19) M6_5 HT_ ?_
              refine pu_ 5 (some 20) M6_6 HT_ ?_
              refine pu_ 6 (some 21) M6_7 HT_ ?_
              refine pu_ 7 (some 22) M6_8 HT_ ?_
              refine pu_ 8 (some 23) M6_9 HT_ ?_
              refine pu_ 10 (some 25) M6_10 HT_ ?_
              refine pu_ 11 (some 26) M6_11 HT_ ?_
              refine pu_ 12 (some 27) M6_12 HT_ ?_
              refine pu_ 13 (some 28) M6_13 HT_ ?_
              refine pu_ 14 (some 29) M6_14 HT_ ?_
              refine tk_ 9 (some 24) M6_15 HT_ HW_ hHeld ?_
              refine tk_ 15 (some 30) M6_16 HT_ HW_ hHeld ?_
              refine pu_ 16 (some 31) M6_17 HT_ ?_
              refine pu_ 17 (some 32) M6_18 HT_ ?_
              refine pu_ 18 (some 33) M6_19 HT_ ?_
              refine pu_ 19 (some 34) M6_20 HT_ ?_
              refine pu_ 20 (some 35) M6_21 HT_ ?_
              refine tk_ 21 (some 36) M6_22 HT_ HW_ hHeld ?_
              refine pu_ 22 (some 37) M6_23 HT_ ?_
              refine pu_ 23 (some 38) M6_24 HT_ ?_
              refine pu_ 24 (some 39) M6_25 HT_ ?_
              refine pu_ 25 (some 40) M6_26 HT_ ?_
              refine pu_ 26 (some 41) M6_27 HT_ ?_
              refine tk_ 27 (some 42) M6_28 HT_ HW_ hHeld ?_
              refine one_ (i := 28) (N := some 43) M6_29 rfl rfl (one_of HT_.out (by kernel_rfl)) (by decide) (fun K hK => ?_)
              refine goes_ Try.func45 (by kernel_rfl) rfl #[.slice A211_1 ((rd_T36 l0 x10_1).f1).length c211_1] (by rfl) rfl rfl ma_ ?_
              with_reducible refine (impl_AreMarks.calls k1 _ _ ((rd_T36 l0 x10_1).f1) false _ ?side1 ?side2 A22.out).mono ?_
              (case side1 => repeat (first | exact (Kd.C_below HR211_1.out (y84_)) | (with_reducible refine Kd.C_alloc ?_ _) | (with_reducible refine Kd.C_drewN ?_ _) | (with_reducible refine Kd.C_drew ?_)))
              (case side2 => exact HC211_1.out)
              rintro e w40 ⟨rfl, hb⟩
              refine ⟨_, rfl, ?_⟩
              have n0_ := Aside0.mk (blk_below (bd_ BK212.out) hb)
              have n1_ := Aside0.mk (below_step (y84_) hb)
              clear BK212
              clear HB
              have BK212 := n0_
              have HB := n1_
              clear n0_ n1_
              (try clear hb)
              (try clear hb2)
              (try clear hk)
              (try clear hi)
              refine hK.out _ _ (k1_ BK212.out ⟨(cb_ HB.out hw214_0), (cb_ HB.out hw214_1), (cb_ HB.out hw214_2)⟩) (fun hHeld => ?_)
              clear hK K
              refine norm_ (a' := ?_) ?_ ?_
              rotate_left
              ·
               show Act.put _ (some 43) _ = _
               simp only [Act.put, P6_1, P6_2, P6_3, i64_w, i32_w]
               rfl
              refine pu_ 29 (some 44) M6_30 HT_ ?_
              refine pu_ 30 (some 45) M6_31 HT_ ?_
              refine pu_ 31 (some 46) M6_32 HT_ ?_
              refine pn_ 32 (some 47) M6_33 HT_ ?_
              refine pn_ 33 (some 48) M6_34 HT_ ?_
              refine pn_ 34 (some 49) M6_35 HT_ ?_
              refine pn_ 35 (some 50) M6_36 HT_ ?_
              refine pu_ 36 (some 51) M6_37 HT_ ?_
              refine done_ (done_of HT_.out (by kernel_rfl)) ?_
              try go_wp2
              go_ret
              exact ⟨by first | rfl | (simp [errW_none, errW_some] <;> rfl) | (simp only [← hji9]; first | rfl | (simp [errW_none, errW_some] <;> rfl)) | (simp [*, errW_none, errW_some] <;> rfl), y84_⟩
          ·
           rw [if_neg c11] at H
           exact absurd H (by simp)
         ·
          rw [if_neg c10] at H
          exact absurd H (by simp)
        ·
         rw [if_neg c8] at H
         have c8b0 : decide (0 < x10_1) = false := decide_eq_false c8
         clear c8
         by_cases c41 : (((rd_T36 l0 x10_1).f1).length : Int) = 0
         ·
          rw [if_pos c41] at H
          have c41b0 : ((((rd_T36 l0 x10_1).f1).length : Int) == 0) = true := beq_iff_eq.mpr c41
          have c41b1 : ((((rd_T36 l0 x10_1).f1).length : Int) != 0) = false := bne_eq_false_iff_eq.mpr c41
          clear c41
          obtain rfl := Option.some.inj H
          have p211 : 0 ≤ (x10_1 : Int) := of_decide_eq_true as_
          have q211 : x10_1 < (l0.length : Int) := of_decide_eq_true as_
          obtain ⟨ad211, A211_1, c211_1, e211, hx211_0, hx211_1, hx211_2, hl211_1, hi211_1⟩ := at_T36 HR0.out x10_1 p211 q211
          cases e211
          replace hx211_0 := cb_ HB.out hx211_0
          replace hx211_1 := cb_ HB.out hx211_1
          replace hx211_2 := cb_ HB.out hx211_2
          have HR211_1 := Aside0.mk hi211_1
          have HC211_1 := Aside0.mk hl211_1
          clear hi211_1 hl211_1
          replace p211 := eq_true p211
          replace q211 := eq_true q211
          try go_wp2_with (first | ((with_reducible refine gate_dst (N := 4) rfl ?_); (try (refine gate_guard (by rfl) ?_; dsimp only)); refine box_event ?hg (N := 4) ?hd (cs := #[.int .i64 0, .slice none 0 0, .int .i64 0]) (t := 36) ?hr ?_; (case hd => rfl); (case hg => rfl); (case hr => first | (go_simp; done) | (go_simp; rfl)); intro gb212 hg w42 hbox hb; have n0_ := Aside0.mk (below_step (hd_ HB.out) hb); have BK212 := Aside0.mk (hbox); have GW212 := Aside0.mk ((y87_ : w.heap.size ≤ gb212)); have GE212 := Aside0.mk ((y87_ : w.heap.size ≤ gb212)); clear HB; have HB := n0_; clear n0_; clear hb hbox hg; obtain ⟨hcz43_0, hcz43_1, hcz43_2⟩ := e81_ BK212.out; obtain ⟨hfz43_0, hfz43_1, hfz43_2⟩ := z82_ BK212.out))
          have n0_ : Aside0 ((((w42.setCell ⟨gb212, 0, none⟩ (.int .i64 ((rd_T36 l0 x10_1).f0))).setCell ⟨gb212, 1, none⟩ (.slice A211_1 ((rd_T36 l0 x10_1).f1).length c211_1)).setCell ⟨gb212, 2, none⟩ (.int .i64 ((rd_T36 l0 x10_1).f2))).heap[gb212]? = some (.cells #[.int .i64 ((rd_T36 l0 x10_1).f0), .slice A211_1 ((rd_T36 l0 x10_1).f1).length c211_1, .int .i64 ((rd_T36 l0 x10_1).f2)] 36 (0, 0))) := ⟨by (with_reducible repeat (first | refine blk_drewN ?_ _ | refine blk_drew ?_ | refine blk_alloc ?_ _)); refine blk_put (cs := #[.int .i64 ((rd_T36 l0 x10_1).f0), .slice A211_1 ((rd_T36 l0 x10_1).f1).length c211_1, .int .i64 0]) ?_ 2 _ rfl; (with_reducible repeat (first | refine blk_drewN ?_ _ | refine blk_drew ?_ | refine blk_alloc ?_ _)); refine blk_put (cs := #[.int .i64 ((rd_T36 l0 x10_1).f0), .slice none 0 0, .int .i64 0]) ?_ 1 _ rfl; (with_reducible repeat (first | refine blk_drewN ?_ _ | refine blk_drew ?_ | refine blk_alloc ?_ _)); refine blk_put (cs := #[.int .i64 0, .slice none 0 0, .int .i64 0]) ?_ 0 _ rfl; (with_reducible repeat (first | refine blk_drewN ?_ _ | refine blk_drew ?_ | refine blk_alloc ?_ _)); exact BK212.out⟩
          have n1_ : Aside0 (Below w.heap.size w (((w42.setCell ⟨gb212, 0, none⟩ (.int .i64 ((rd_T36 l0 x10_1).f0))).setCell ⟨gb212, 1, none⟩ (.slice A211_1 ((rd_T36 l0 x10_1).f1).length c211_1)).setCell ⟨gb212, 2, none⟩ (.int .i64 ((rd_T36 l0 x10_1).f2)))) := ⟨y84_⟩
          (try clear BK212)
          (try clear HB)
          generalize (((w42.setCell ⟨gb212, 0, none⟩ (.int .i64 ((rd_T36 l0 x10_1).f0))).setCell ⟨gb212, 1, none⟩ (.slice A211_1 ((rd_T36 l0 x10_1).f1).length c211_1)).setCell ⟨gb212, 2, none⟩ (.int .i64 ((rd_T36 l0 x10_1).f2))) = w44 at n0_ n1_ ⊢
          have BK212 := n0_
          have HB := n1_
          clear n0_ n1_
          have n0_ := Aside0.mk (blk_drew BK212.out)
          have n1_ := Aside0.mk (below_drew1 HB.out)
          clear BK212
          clear HB
          have BK212 := n0_
          have HB := n1_
          clear n0_ n1_
          refine start_ (n := 37) (S := fun w' => q1e_ w' gb212 ((rd_T36 l0 x10_1).f0) A211_1 ((rd_T36 l0 x10_1).f1).length c211_1 ((rd_T36 l0 x10_1).f2)) (ds := []) M6_0 (by kernel_rfl) rfl rfl (k1e_ BK212.out) (fun hHeld => ?_); refine with_tabW impl_AreSecrets.tab6 impl_AreSecrets.bits6 (fun HT_ HW_ => ?_)
          generalize w44.drew = w45 at BK212 HB hHeld ⊢
          refine pu_ 0 (some 15) M6_1 HT_ ?_
          refine tk_ 1 (some 16) M6_2 HT_ HW_ hHeld ?_
          refine one_ (i := 2) (N := some 17) M6_3 rfl rfl (one_of HT_.out (by kernel_rfl)) (by decide) (fun K hK => ?_)
          refine goes_ Try.func44 (by kernel_rfl) rfl #[.int .i64 ((rd_T36 l0 x10_1).f0), .int .i64 1, .int .i64 999] (by rfl) rfl rfl ma_ ?_
          with_reducible refine (impl_InRange.calls ((rd_T36 l0 x10_1).f0) 1 999 true _ A6.out).mono ?_
          rintro e w' ⟨rfl, ⟨nd, rfl⟩⟩
          refine ⟨_, rfl, ?_⟩
          refine hK.out _ _ (k1e_ BK212.out) (fun hHeld => ?_)
          clear hK K
          refine norm_ (a' := ?_) ?_ ?_
          rotate_left
          ·
           show Act.put _ (some 17) _ = _
           simp only [Act.put, P6_1, P6_2, P6_3, i64_w, i32_w]
           rfl
          refine pu_ 3 (some 18) M6_4 HT_ ?_
          refine pu_ 4 (some 19) M6_5 HT_ ?_
          refine pu_ 5 (some 20) M6_6 HT_ ?_
          refine pu_ 6 (some 21) M6_7 HT_ ?_
          refine pu_ 7 (some 22) M6_8 HT_ ?_
          refine pn_ 8 (some 23) M6_9 HT_ ?_
          refine pn_ 9 (some 24) M6_38 HT_ ?_
          refine pn_ 10 (some 25) M6_39 HT_ ?_
          refine pn_ 11 (some 26) M6_40 HT_ ?_
          refine pn_ 12 (some 27) M6_41 HT_ ?_
          refine pn_ 13 (some 28) M6_42 HT_ ?_
          refine pn_ 14 (some 29) M6_15 HT_ ?_
          refine pn_ 15 (some 30) M6_16 HT_ ?_
          refine pn_ 16 (some 31) M6_17 HT_ ?_
          refine pu_ 17 (some 32) M6_18 HT_ ?_
          refine pu_ 18 (some 33) M6_19 HT_ ?_
          refine pu_ 19 (some 34) M6_20 HT_ ?_
          refine pu_ 20 (some 35) M6_21 HT_ ?_
          refine tk_ 21 (some 36) M6_22 HT_ HW_ hHeld ?_
          refine pu_ 22 (some 37) M6_23 HT_ ?_
          refine pu_ 23 (some 38) M6_24 HT_ ?_
          refine pu_ 24 (some 39) M6_25 HT_ ?_
          refine pu_ 25 (some 40) M6_26 HT_ ?_
          refine pn_ 26 (some 41) M6_27 HT_ ?_
          refine pn_ 27 (some 42) M6_28 HT_ ?_
          refine pn_ 28 (some 43) M6_29 HT_ ?_
          refine pn_ 29 (some 44) M6_30 HT_ ?_
          refine pu_ 30 (some 45) M6_31 HT_ ?_
          refine pu_ 31 (some 46) M6_32 HT_ ?_
          refine pn_ 32 (some 47) M6_33 HT_ ?_
          refine pn_ 33 (some 48) M6_34 HT_ ?_
          refine pn_ 34 (some 49) M6_35 HT_ ?_
          refine pn_ 35 (some 50) M6_36 HT_ ?_
          refine pu_ 36 (some 51) M6_37 HT_ ?_
          refine done_ (done_of HT_.out (by kernel_rfl)) ?_
          try go_wp2
          go_ret
          exact ⟨by first | rfl | (simp [errW_none, errW_some] <;> rfl) | (simp [*, errW_none, errW_some] <;> rfl), y84_⟩
         ·
          rw [if_neg c41] at H
          have c41b0 : ((((rd_T36 l0 x10_1).f1).length : Int) == 0) = false := beq_eq_false_iff_ne.mpr c41
          have c41b1 : ((((rd_T36 l0 x10_1).f1).length : Int) != 0) = true := bne_iff_ne.mpr c41
          have c41b2 : ¬ (((rd_T36 l0 x10_1).f1) = []) := fun h_ => c41 (by rw [h_]; rfl)
          replace H := Option.bind_eq_some_iff.mp H
          obtain ⟨t217, A460, H⟩ := H
          replace H : (if t217 = true then ((impl_InRange.f ((rd_T36 l0 x10_1).f2) 0 1000000).bind fun t218 => (if t218 = true then (impl_AreSecrets.l0 k1 l0 l0 (l0.length : Int) (wrap64 (x10_1 + 1))) else (some false))) else (some false)) = some r := H
          have A46 := Aside0.mk A460
          clear A460
          by_cases c47 : t217 = true
          ·
           subst c47
           have H1 : ((impl_InRange.f ((rd_T36 l0 x10_1).f2) 0 1000000).bind fun t218 => (if t218 = true then (impl_AreSecrets.l0 k1 l0 l0 (l0.length : Int) (wrap64 (x10_1 + 1))) else (some false))) = some r := by rw [if_pos rfl] at H; exact H
           clear H
           have H := H1
           clear H1
           replace H := Option.bind_eq_some_iff.mp H
           obtain ⟨t218, A480, H⟩ := H
           replace H : (if t218 = true then (impl_AreSecrets.l0 k1 l0 l0 (l0.length : Int) (wrap64 (x10_1 + 1))) else (some false)) = some r := H
           have A48 := Aside0.mk A480
           clear A480
           by_cases c49 : t218 = true
           ·
            subst c49
            have H1 : (impl_AreSecrets.l0 k1 l0 l0 (l0.length : Int) (wrap64 (x10_1 + 1))) = some r := by rw [if_pos rfl] at H; exact H
            clear H
            have H := H1
            clear H1
            have H' := Aside0.mk H
            clear H
            have p211 : 0 ≤ (x10_1 : Int) := of_decide_eq_true as_
            have q211 : x10_1 < (l0.length : Int) := of_decide_eq_true as_
            obtain ⟨ad211, A211_1, c211_1, e211, hx211_0, hx211_1, hx211_2, hl211_1, hi211_1⟩ := at_T36 HR0.out x10_1 p211 q211
            cases e211
            replace hx211_0 := cb_ HB.out hx211_0
            replace hx211_1 := cb_ HB.out hx211_1
            replace hx211_2 := cb_ HB.out hx211_2
            have HR211_1 := Aside0.mk hi211_1
            have HC211_1 := Aside0.mk hl211_1
            clear hi211_1 hl211_1
            replace p211 := eq_true p211
            replace q211 := eq_true q211
            try go_wp2_with (first | ((with_reducible refine gate_dst (N := 4) rfl ?_); (try (refine gate_guard (by rfl) ?_; dsimp only)); refine box_event ?hg (N := 4) ?hd (cs := #[.int .i64 0, .slice none 0 0, .int .i64 0]) (t := 36) ?hr ?_; (case hd => rfl); (case hg => rfl); (case hr => first | (go_simp; done) | (go_simp; rfl)); intro gb212 hg w50 hbox hb; have n0_ := Aside0.mk (below_step (hd_ HB.out) hb); have BK212 := Aside0.mk (hbox); have GW212 := Aside0.mk ((y87_ : w.heap.size ≤ gb212)); have GE212 := Aside0.mk ((y87_ : w.heap.size ≤ gb212)); clear HB; have HB := n0_; clear n0_; clear hb hbox hg; obtain ⟨hcz51_0, hcz51_1, hcz51_2⟩ := e81_ BK212.out; obtain ⟨hfz51_0, hfz51_1, hfz51_2⟩ := z82_ BK212.out))
            have n0_ : Aside0 ((((w50.setCell ⟨gb212, 0, none⟩ (.int .i64 ((rd_T36 l0 x10_1).f0))).setCell ⟨gb212, 1, none⟩ (.slice A211_1 ((rd_T36 l0 x10_1).f1).length c211_1)).setCell ⟨gb212, 2, none⟩ (.int .i64 ((rd_T36 l0 x10_1).f2))).heap[gb212]? = some (.cells #[.int .i64 ((rd_T36 l0 x10_1).f0), .slice A211_1 ((rd_T36 l0 x10_1).f1).length c211_1, .int .i64 ((rd_T36 l0 x10_1).f2)] 36 (0, 0))) := ⟨by (with_reducible repeat (first | refine blk_drewN ?_ _ | refine blk_drew ?_ | refine blk_alloc ?_ _)); refine blk_put (cs := #[.int .i64 ((rd_T36 l0 x10_1).f0), .slice A211_1 ((rd_T36 l0 x10_1).f1).length c211_1, .int .i64 0]) ?_ 2 _ rfl; (with_reducible repeat (first | refine blk_drewN ?_ _ | refine blk_drew ?_ | refine blk_alloc ?_ _)); refine blk_put (cs := #[.int .i64 ((rd_T36 l0 x10_1).f0), .slice none 0 0, .int .i64 0]) ?_ 1 _ rfl; (with_reducible repeat (first | refine blk_drewN ?_ _ | refine blk_drew ?_ | refine blk_alloc ?_ _)); refine blk_put (cs := #[.int .i64 0, .slice none 0 0, .int .i64 0]) ?_ 0 _ rfl; (with_reducible repeat (first | refine blk_drewN ?_ _ | refine blk_drew ?_ | refine blk_alloc ?_ _)); exact BK212.out⟩
            have n1_ : Aside0 (Below w.heap.size w (((w50.setCell ⟨gb212, 0, none⟩ (.int .i64 ((rd_T36 l0 x10_1).f0))).setCell ⟨gb212, 1, none⟩ (.slice A211_1 ((rd_T36 l0 x10_1).f1).length c211_1)).setCell ⟨gb212, 2, none⟩ (.int .i64 ((rd_T36 l0 x10_1).f2)))) := ⟨y84_⟩
            (try clear BK212)
            (try clear HB)
            generalize (((w50.setCell ⟨gb212, 0, none⟩ (.int .i64 ((rd_T36 l0 x10_1).f0))).setCell ⟨gb212, 1, none⟩ (.slice A211_1 ((rd_T36 l0 x10_1).f1).length c211_1)).setCell ⟨gb212, 2, none⟩ (.int .i64 ((rd_T36 l0 x10_1).f2))) = w52 at n0_ n1_ ⊢
            have BK212 := n0_
            have HB := n1_
            clear n0_ n1_
            have n0_ := Aside0.mk (blk_drew BK212.out)
            have n1_ := Aside0.mk (below_drew1 HB.out)
            clear BK212
            clear HB
            have BK212 := n0_
            have HB := n1_
            clear n0_ n1_
            refine start_ (n := 37) (S := fun w' => q1e_ w' gb212 ((rd_T36 l0 x10_1).f0) A211_1 ((rd_T36 l0 x10_1).f1).length c211_1 ((rd_T36 l0 x10_1).f2)) (ds := []) M6_0 (by kernel_rfl) rfl rfl (k1e_ BK212.out) (fun hHeld => ?_); refine with_tabW impl_AreSecrets.tab6 impl_AreSecrets.bits6 (fun HT_ HW_ => ?_)
            generalize w52.drew = w53 at BK212 HB hHeld ⊢
            refine pu_ 0 (some 15) M6_1 HT_ ?_
            refine tk_ 1 (some 16) M6_2 HT_ HW_ hHeld ?_
            refine one_ (i := 2) (N := some 17) M6_3 rfl rfl (one_of HT_.out (by kernel_rfl)) (by decide) (fun K hK => ?_)
            refine goes_ Try.func44 (by kernel_rfl) rfl #[.int .i64 ((rd_T36 l0 x10_1).f0), .int .i64 1, .int .i64 999] (by rfl) rfl rfl ma_ ?_
            with_reducible refine (impl_InRange.calls ((rd_T36 l0 x10_1).f0) 1 999 true _ A6.out).mono ?_
            rintro e w' ⟨rfl, ⟨nd, rfl⟩⟩
            refine ⟨_, rfl, ?_⟩
            refine hK.out _ _ (k1e_ BK212.out) (fun hHeld => ?_)
            clear hK K
            refine norm_ (a' := ?_) ?_ ?_
            rotate_left
            ·
             show Act.put _ (some 17) _ = _
             simp only [Act.put, P6_1, P6_2, P6_3, i64_w, i32_w]
             rfl
            refine pu_ 3 (some 18) M6_4 HT_ ?_
            refine pu_ 4 (some 19) M6_5 HT_ ?_
            refine pu_ 5 (some 20) M6_6 HT_ ?_
            refine pu_ 6 (some 21) M6_7 HT_ ?_
            refine pu_ 7 (some 22) M6_8 HT_ ?_
            refine pn_ 8 (some 23) M6_9 HT_ ?_
            refine pn_ 9 (some 24) M6_38 HT_ ?_
            refine pn_ 10 (some 25) M6_39 HT_ ?_
            refine pn_ 11 (some 26) M6_40 HT_ ?_
            refine pn_ 12 (some 27) M6_41 HT_ ?_
            refine pn_ 13 (some 28) M6_42 HT_ ?_
            refine pn_ 14 (some 29) M6_15 HT_ ?_
            refine pn_ 15 (some 30) M6_16 HT_ ?_
            refine pn_ 16 (some 31) M6_17 HT_ ?_
            refine pu_ 17 (some 32) M6_18 HT_ ?_
            refine pu_ 18 (some 33) M6_19 HT_ ?_
            refine pu_ 19 (some 34) M6_20 HT_ ?_
            refine pu_ 20 (some 35) M6_21 HT_ ?_
            refine tk_ 21 (some 36) M6_22 HT_ HW_ hHeld ?_
            refine pu_ 22 (some 37) M6_23 HT_ ?_
            refine pu_ 23 (some 38) M6_24 HT_ ?_
            refine pu_ 24 (some 39) M6_25 HT_ ?_
            refine pu_ 25 (some 40) M6_26 HT_ ?_
            refine pu_ 26 (some 41) M6_27 HT_ ?_
            refine tk_ 27 (some 42) M6_28 HT_ HW_ hHeld ?_
            refine one_ (i := 28) (N := some 43) M6_29 rfl rfl (one_of HT_.out (by kernel_rfl)) (by decide) (fun K hK => ?_)
            refine goes_ Try.func45 (by kernel_rfl) rfl #[.slice A211_1 ((rd_T36 l0 x10_1).f1).length c211_1] (by rfl) rfl rfl ma_ ?_
            with_reducible refine (impl_AreMarks.calls k1 _ _ ((rd_T36 l0 x10_1).f1) true _ ?side1 ?side2 A46.out).mono ?_
            (case side1 => repeat (first | exact (Kd.C_below HR211_1.out (y84_)) | (with_reducible refine Kd.C_alloc ?_ _) | (with_reducible refine Kd.C_drewN ?_ _) | (with_reducible refine Kd.C_drew ?_)))
            (case side2 => exact HC211_1.out)
            rintro e w54 ⟨rfl, hb⟩
            refine ⟨_, rfl, ?_⟩
            have n0_ := Aside0.mk (blk_below (bd_ BK212.out) hb)
            have n1_ := Aside0.mk (below_step (y84_) hb)
            clear BK212
            clear HB
            have BK212 := n0_
            have HB := n1_
            clear n0_ n1_
            (try clear hb)
            (try clear hb2)
            (try clear hk)
            (try clear hi)
            refine hK.out _ _ (k1e_ BK212.out) (fun hHeld => ?_)
            clear hK K
            refine norm_ (a' := ?_) ?_ ?_
            rotate_left
            ·
             show Act.put _ (some 43) _ = _
             simp only [Act.put, P6_1, P6_2, P6_3, i64_w, i32_w]
             rfl
            refine pu_ 29 (some 44) M6_30 HT_ ?_
            refine pu_ 30 (some 45) M6_31 HT_ ?_
            refine pu_ 31 (some 46) M6_32 HT_ ?_
            refine pu_ 32 (some 47) M6_33 HT_ ?_
            refine tk_ 33 (some 48) M6_34 HT_ HW_ hHeld ?_
            refine one_ (i := 34) (N := some 49) M6_35 rfl rfl (one_of HT_.out (by kernel_rfl)) (by decide) (fun K hK => ?_)
            refine goes_ Try.func44 (by kernel_rfl) rfl #[.int .i64 ((rd_T36 l0 x10_1).f2), .int .i64 0, .int .i64 1000000] (by rfl) rfl rfl ma_ ?_
            with_reducible refine (impl_InRange.calls ((rd_T36 l0 x10_1).f2) 0 1000000 true _ A48.out).mono ?_
            rintro e w' ⟨rfl, ⟨nd, rfl⟩⟩
            refine ⟨_, rfl, ?_⟩
            refine hK.out _ _ (k1e_ BK212.out) (fun hHeld => ?_)
            clear hK K
            refine norm_ (a' := ?_) ?_ ?_
            rotate_left
            ·
             show Act.put _ (some 49) _ = _
             simp only [Act.put, P6_1, P6_2, P6_3, i64_w, i32_w]
             rfl
            refine pu_ 35 (some 50) M6_36 HT_ ?_
            refine pu_ 36 (some 51) M6_37 HT_ ?_
            refine done_ (done_of HT_.out (by kernel_rfl)) ?_
            try go_wp2
            go_roundg k1
            case measure => have := HK1.out; omega
            case rel => exact ⟨(wrap64 (x10_1 + 1)), (by first | rfl | (simp; done) | (simp [*]; done)), H', ⟨by have := HK1.out; omega⟩, ⟨y84_⟩⟩
           ·
            replace c49 := Bool.eq_false_iff.mpr c49
            subst c49
            have H1 : (some false) = some r := by rw [if_neg (show ¬ (false = true) by decide)] at H; exact H
            clear H
            have H := H1
            clear H1
            obtain rfl := Option.some.inj H
            have p211 : 0 ≤ (x10_1 : Int) := of_decide_eq_true as_
            have q211 : x10_1 < (l0.length : Int) := of_decide_eq_true as_
            obtain ⟨ad211, A211_1, c211_1, e211, hx211_0, hx211_1, hx211_2, hl211_1, hi211_1⟩ := at_T36 HR0.out x10_1 p211 q211
            cases e211
            replace hx211_0 := cb_ HB.out hx211_0
            replace hx211_1 := cb_ HB.out hx211_1
            replace hx211_2 := cb_ HB.out hx211_2
            have HR211_1 := Aside0.mk hi211_1
            have HC211_1 := Aside0.mk hl211_1
            clear hi211_1 hl211_1
            replace p211 := eq_true p211
            replace q211 := eq_true q211
            try go_wp2_with (first | ((with_reducible refine gate_dst (N := 4) rfl ?_); (try (refine gate_guard (by rfl) ?_; dsimp only)); refine box_event ?hg (N := 4) ?hd (cs := #[.int .i64 0, .slice none 0 0, .int .i64 0]) (t := 36) ?hr ?_; (case hd => rfl); (case hg => rfl); (case hr => first | (go_simp; done) | (go_simp; rfl)); intro gb212 hg w55 hbox hb; have n0_ := Aside0.mk (below_step (hd_ HB.out) hb); have BK212 := Aside0.mk (hbox); have GW212 := Aside0.mk ((y87_ : w.heap.size ≤ gb212)); have GE212 := Aside0.mk ((y87_ : w.heap.size ≤ gb212)); clear HB; have HB := n0_; clear n0_; clear hb hbox hg; obtain ⟨hcz56_0, hcz56_1, hcz56_2⟩ := e81_ BK212.out; obtain ⟨hfz56_0, hfz56_1, hfz56_2⟩ := z82_ BK212.out))
            have n0_ : Aside0 ((((w55.setCell ⟨gb212, 0, none⟩ (.int .i64 ((rd_T36 l0 x10_1).f0))).setCell ⟨gb212, 1, none⟩ (.slice A211_1 ((rd_T36 l0 x10_1).f1).length c211_1)).setCell ⟨gb212, 2, none⟩ (.int .i64 ((rd_T36 l0 x10_1).f2))).heap[gb212]? = some (.cells #[.int .i64 ((rd_T36 l0 x10_1).f0), .slice A211_1 ((rd_T36 l0 x10_1).f1).length c211_1, .int .i64 ((rd_T36 l0 x10_1).f2)] 36 (0, 0))) := ⟨by (with_reducible repeat (first | refine blk_drewN ?_ _ | refine blk_drew ?_ | refine blk_alloc ?_ _)); refine blk_put (cs := #[.int .i64 ((rd_T36 l0 x10_1).f0), .slice A211_1 ((rd_T36 l0 x10_1).f1).length c211_1, .int .i64 0]) ?_ 2 _ rfl; (with_reducible repeat (first | refine blk_drewN ?_ _ | refine blk_drew ?_ | refine blk_alloc ?_ _)); refine blk_put (cs := #[.int .i64 ((rd_T36 l0 x10_1).f0), .slice none 0 0, .int .i64 0]) ?_ 1 _ rfl; (with_reducible repeat (first | refine blk_drewN ?_ _ | refine blk_drew ?_ | refine blk_alloc ?_ _)); refine blk_put (cs := #[.int .i64 0, .slice none 0 0, .int .i64 0]) ?_ 0 _ rfl; (with_reducible repeat (first | refine blk_drewN ?_ _ | refine blk_drew ?_ | refine blk_alloc ?_ _)); exact BK212.out⟩
            have n1_ : Aside0 (Below w.heap.size w (((w55.setCell ⟨gb212, 0, none⟩ (.int .i64 ((rd_T36 l0 x10_1).f0))).setCell ⟨gb212, 1, none⟩ (.slice A211_1 ((rd_T36 l0 x10_1).f1).length c211_1)).setCell ⟨gb212, 2, none⟩ (.int .i64 ((rd_T36 l0 x10_1).f2)))) := ⟨y84_⟩
            (try clear BK212)
            (try clear HB)
            generalize (((w55.setCell ⟨gb212, 0, none⟩ (.int .i64 ((rd_T36 l0 x10_1).f0))).setCell ⟨gb212, 1, none⟩ (.slice A211_1 ((rd_T36 l0 x10_1).f1).length c211_1)).setCell ⟨gb212, 2, none⟩ (.int .i64 ((rd_T36 l0 x10_1).f2))) = w57 at n0_ n1_ ⊢
            have BK212 := n0_
            have HB := n1_
            clear n0_ n1_
            have n0_ := Aside0.mk (blk_drew BK212.out)
            have n1_ := Aside0.mk (below_drew1 HB.out)
            clear BK212
            clear HB
            have BK212 := n0_
            have HB := n1_
            clear n0_ n1_
            refine start_ (n := 37) (S := fun w' => q1e_ w' gb212 ((rd_T36 l0 x10_1).f0) A211_1 ((rd_T36 l0 x10_1).f1).length c211_1 ((rd_T36 l0 x10_1).f2)) (ds := []) M6_0 (by kernel_rfl) rfl rfl (k1e_ BK212.out) (fun hHeld => ?_); refine with_tabW impl_AreSecrets.tab6 impl_AreSecrets.bits6 (fun HT_ HW_ => ?_)
            generalize w57.drew = w58 at BK212 HB hHeld ⊢
            refine pu_ 0 (some 15) M6_1 HT_ ?_
            refine tk_ 1 (some 16) M6_2 HT_ HW_ hHeld ?_
            refine one_ (i := 2) (N := some 17) M6_3 rfl rfl (one_of HT_.out (by kernel_rfl)) (by decide) (fun K hK => ?_)
            refine goes_ Try.func44 (by kernel_rfl) rfl #[.int .i64 ((rd_T36 l0 x10_1).f0), .int .i64 1, .int .i64 999] (by rfl) rfl rfl ma_ ?_
            with_reducible refine (impl_InRange.calls ((rd_T36 l0 x10_1).f0) 1 999 true _ A6.out).mono ?_
            rintro e w' ⟨rfl, ⟨nd, rfl⟩⟩
            refine ⟨_, rfl, ?_⟩
            refine hK.out _ _ (k1e_ BK212.out) (fun hHeld => ?_)
            clear hK K
            refine norm_ (a' := ?_) ?_ ?_
            rotate_left
            ·
             show Act.put _ (some 17) _ = _
             simp only [Act.put, P6_1, P6_2, P6_3, i64_w, i32_w]
             rfl
            refine pu_ 3 (some 18) M6_4 HT_ ?_
            refine pu_ 4 (some 19) M6_5 HT_ ?_
            refine pu_ 5 (some 20) M6_6 HT_ ?_
            refine pu_ 6 (some 21) M6_7 HT_ ?_
            refine pu_ 7 (some 22) M6_8 HT_ ?_
            refine pn_ 8 (some 23) M6_9 HT_ ?_
            refine pn_ 9 (some 24) M6_38 HT_ ?_
            refine pn_ 10 (some 25) M6_39 HT_ ?_
            refine pn_ 11 (some 26) M6_40 HT_ ?_
            refine pn_ 12 (some 27) M6_41 HT_ ?_
            refine pn_ 13 (some 28) M6_42 HT_ ?_
            refine pn_ 14 (some 29) M6_15 HT_ ?_
            refine pn_ 15 (some 30) M6_16 HT_ ?_
            refine pn_ 16 (some 31) M6_17 HT_ ?_
            refine pu_ 17 (some 32) M6_18 HT_ ?_
            refine pu_ 18 (some 33) M6_19 HT_ ?_
            refine pu_ 19 (some 34) M6_20 HT_ ?_
            refine pu_ 20 (some 35) M6_21 HT_ ?_
            refine tk_ 21 (some 36) M6_22 HT_ HW_ hHeld ?_
            refine pu_ 22 (some 37) M6_23 HT_ ?_
            refine pu_ 23 (some 38) M6_24 HT_ ?_
            refine pu_ 24 (some 39) M6_25 HT_ ?_
            refine pu_ 25 (some 40) M6_26 HT_ ?_
            refine pu_ 26 (some 41) M6_27 HT_ ?_
            refine tk_ 27 (some 42) M6_28 HT_ HW_ hHeld ?_
            refine one_ (i := 28) (N := some 43) M6_29 rfl rfl (one_of HT_.out (by kernel_rfl)) (by decide) (fun K hK => ?_)
            refine goes_ Try.func45 (by kernel_rfl) rfl #[.slice A211_1 ((rd_T36 l0 x10_1).f1).length c211_1] (by rfl) rfl rfl ma_ ?_
            with_reducible refine (impl_AreMarks.calls k1 _ _ ((rd_T36 l0 x10_1).f1) true _ ?side1 ?side2 A46.out).mono ?_
            (case side1 => repeat (first | exact (Kd.C_below HR211_1.out (y84_)) | (with_reducible refine Kd.C_alloc ?_ _) | (with_reducible refine Kd.C_drewN ?_ _) | (with_reducible refine Kd.C_drew ?_)))
            (case side2 => exact HC211_1.out)
            rintro e w59 ⟨rfl, hb⟩
            refine ⟨_, rfl, ?_⟩
            have n0_ := Aside0.mk (blk_below (bd_ BK212.out) hb)
            have n1_ := Aside0.mk (below_step (y84_) hb)
            clear BK212
            clear HB
            have BK212 := n0_
            have HB := n1_
            clear n0_ n1_
            (try clear hb)
            (try clear hb2)
            (try clear hk)
            (try clear hi)
            refine hK.out _ _ (k1e_ BK212.out) (fun hHeld => ?_)
            clear hK K
            refine norm_ (a' := ?_) ?_ ?_
            rotate_left
            ·
             show Act.put _ (some 43) _ = _
             simp only [Act.put, P6_1, P6_2, P6_3, i64_w, i32_w]
             rfl
            refine pu_ 29 (some 44) M6_30 HT_ ?_
            refine pu_ 30 (some 45) M6_31 HT_ ?_
            refine pu_ 31 (some 46) M6_32 HT_ ?_
            refine pu_ 32 (some 47) M6_33 HT_ ?_
            refine tk_ 33 (some 48) M6_34 HT_ HW_ hHeld ?_
            refine one_ (i := 34) (N := some 49) M6_35 rfl rfl (one_of HT_.out (by kernel_rfl)) (by decide) (fun K hK => ?_)
            refine goes_ Try.func44 (by kernel_rfl) rfl #[.int .i64 ((rd_T36 l0 x10_1).f2), .int .i64 0, .int .i64 1000000] (by rfl) rfl rfl ma_ ?_
            with_reducible refine (impl_InRange.calls ((rd_T36 l0 x10_1).f2) 0 1000000 false _ A48.out).mono ?_
            rintro e w' ⟨rfl, ⟨nd, rfl⟩⟩
            refine ⟨_, rfl, ?_⟩
            refine hK.out _ _ (k1e_ BK212.out) (fun hHeld => ?_)
            clear hK K
            refine norm_ (a' := ?_) ?_ ?_
            rotate_left
            ·
             show Act.put _ (some 49) _ = _
             simp only [Act.put, P6_1, P6_2, P6_3, i64_w, i32_w]
             rfl
            refine pu_ 35 (some 50) M6_36 HT_ ?_
            refine pu_ 36 (some 51) M6_37 HT_ ?_
            refine done_ (done_of HT_.out (by kernel_rfl)) ?_
            try go_wp2
            go_ret
            exact ⟨by first | rfl | (simp [errW_none, errW_some] <;> rfl) | (simp [*, errW_none, errW_some] <;> rfl), y84_⟩
          ·
           replace c47 := Bool.eq_false_iff.mpr c47
           subst c47
           have H1 : (some false) = some r := by rw [if_neg (show ¬ (false = true) by decide)] at H; exact H
           clear H
           have H := H1
           clear H1
           obtain rfl := Option.some.inj H
           have p211 : 0 ≤ (x10_1 : Int) := of_decide_eq_true as_
           have q211 : x10_1 < (l0.length : Int) := of_decide_eq_true as_
           obtain ⟨ad211, A211_1, c211_1, e211, hx211_0, hx211_1, hx211_2, hl211_1, hi211_1⟩ := at_T36 HR0.out x10_1 p211 q211
           cases e211
           replace hx211_0 := cb_ HB.out hx211_0
           replace hx211_1 := cb_ HB.out hx211_1
           replace hx211_2 := cb_ HB.out hx211_2
           have HR211_1 := Aside0.mk hi211_1
           have HC211_1 := Aside0.mk hl211_1
           clear hi211_1 hl211_1
           replace p211 := eq_true p211
           replace q211 := eq_true q211
           try go_wp2_with (first | ((with_reducible refine gate_dst (N := 4) rfl ?_); (try (refine gate_guard (by rfl) ?_; dsimp only)); refine box_event ?hg (N := 4) ?hd (cs := #[.int .i64 0, .slice none 0 0, .int .i64 0]) (t := 36) ?hr ?_; (case hd => rfl); (case hg => rfl); (case hr => first | (go_simp; done) | (go_simp; rfl)); intro gb212 hg w60 hbox hb; have n0_ := Aside0.mk (below_step (hd_ HB.out) hb); have BK212 := Aside0.mk (hbox); have GW212 := Aside0.mk ((y87_ : w.heap.size ≤ gb212)); have GE212 := Aside0.mk ((y87_ : w.heap.size ≤ gb212)); clear HB; have HB := n0_; clear n0_; clear hb hbox hg; obtain ⟨hcz61_0, hcz61_1, hcz61_2⟩ := e81_ BK212.out; obtain ⟨hfz61_0, hfz61_1, hfz61_2⟩ := z82_ BK212.out))
           have n0_ : Aside0 ((((w60.setCell ⟨gb212, 0, none⟩ (.int .i64 ((rd_T36 l0 x10_1).f0))).setCell ⟨gb212, 1, none⟩ (.slice A211_1 ((rd_T36 l0 x10_1).f1).length c211_1)).setCell ⟨gb212, 2, none⟩ (.int .i64 ((rd_T36 l0 x10_1).f2))).heap[gb212]? = some (.cells #[.int .i64 ((rd_T36 l0 x10_1).f0), .slice A211_1 ((rd_T36 l0 x10_1).f1).length c211_1, .int .i64 ((rd_T36 l0 x10_1).f2)] 36 (0, 0))) := ⟨by (with_reducible repeat (first | refine blk_drewN ?_ _ | refine blk_drew ?_ | refine blk_alloc ?_ _)); refine blk_put (cs := #[.int .i64 ((rd_T36 l0 x10_1).f0), .slice A211_1 ((rd_T36 l0 x10_1).f1).length c211_1, .int .i64 0]) ?_ 2 _ rfl; (with_reducible repeat (first | refine blk_drewN ?_ _ | refine blk_drew ?_ | refine blk_alloc ?_ _)); refine blk_put (cs := #[.int .i64 ((rd_T36 l0 x10_1).f0), .slice none 0 0, .int .i64 0]) ?_ 1 _ rfl; (with_reducible repeat (first | refine blk_drewN ?_ _ | refine blk_drew ?_ | refine blk_alloc ?_ _)); refine blk_put (cs := #[.int .i64 0, .slice none 0 0, .int .i64 0]) ?_ 0 _ rfl; (with_reducible repeat (first | refine blk_drewN ?_ _ | refine blk_drew ?_ | refine blk_alloc ?_ _)); exact BK212.out⟩
           have n1_ : Aside0 (Below w.heap.size w (((w60.setCell ⟨gb212, 0, none⟩ (.int .i64 ((rd_T36 l0 x10_1).f0))).setCell ⟨gb212, 1, none⟩ (.slice A211_1 ((rd_T36 l0 x10_1).f1).length c211_1)).setCell ⟨gb212, 2, none⟩ (.int .i64 ((rd_T36 l0 x10_1).f2)))) := ⟨y84_⟩
           (try clear BK212)
           (try clear HB)
           generalize (((w60.setCell ⟨gb212, 0, none⟩ (.int .i64 ((rd_T36 l0 x10_1).f0))).setCell ⟨gb212, 1, none⟩ (.slice A211_1 ((rd_T36 l0 x10_1).f1).length c211_1)).setCell ⟨gb212, 2, none⟩ (.int .i64 ((rd_T36 l0 x10_1).f2))) = w62 at n0_ n1_ ⊢
           have BK212 := n0_
           have HB := n1_
           clear n0_ n1_
           have n0_ := Aside0.mk (blk_drew BK212.out)
           have n1_ := Aside0.mk (below_drew1 HB.out)
           clear BK212
           clear HB
           have BK212 := n0_
           have HB := n1_
           clear n0_ n1_
           refine start_ (n := 37) (S := fun w' => q1e_ w' gb212 ((rd_T36 l0 x10_1).f0) A211_1 ((rd_T36 l0 x10_1).f1).length c211_1 ((rd_T36 l0 x10_1).f2)) (ds := []) M6_0 (by kernel_rfl) rfl rfl (k1e_ BK212.out) (fun hHeld => ?_); refine with_tabW impl_AreSecrets.tab6 impl_AreSecrets.bits6 (fun HT_ HW_ => ?_)
           generalize w62.drew = w63 at BK212 HB hHeld ⊢
           refine pu_ 0 (some 15) M6_1 HT_ ?_
           refine tk_ 1 (some 16) M6_2 HT_ HW_ hHeld ?_
           refine one_ (i := 2) (N := some 17) M6_3 rfl rfl (one_of HT_.out (by kernel_rfl)) (by decide) (fun K hK => ?_)
           refine goes_ Try.func44 (by kernel_rfl) rfl #[.int .i64 ((rd_T36 l0 x10_1).f0), .int .i64 1, .int .i64 999] (by rfl) rfl rfl ma_ ?_
           with_reducible refine (impl_InRange.calls ((rd_T36 l0 x10_1).f0) 1 999 true _ A6.out).mono ?_
           rintro e w' ⟨rfl, ⟨nd, rfl⟩⟩
           refine ⟨_, rfl, ?_⟩
           refine hK.out _ _ (k1e_ BK212.out) (fun hHeld => ?_)
           clear hK K
           refine norm_ (a' := ?_) ?_ ?_
           rotate_left
           ·
            show Act.put _ (some 17) _ = _
            simp only [Act.put, P6_1, P6_2, P6_3, i64_w, i32_w]
            rfl
           refine pu_ 3 (some 18) M6_4 HT_ ?_
           refine pu_ 4 (some 19) M6_5 HT_ ?_
           refine pu_ 5 (some 20) M6_6 HT_ ?_
           refine pu_ 6 (some 21) M6_7 HT_ ?_
           refine pu_ 7 (some 22) M6_8 HT_ ?_
           refine pn_ 8 (some 23) M6_9 HT_ ?_
           refine pn_ 9 (some 24) M6_38 HT_ ?_
           refine pn_ 10 (some 25) M6_39 HT_ ?_
           refine pn_ 11 (some 26) M6_40 HT_ ?_
           refine pn_ 12 (some 27) M6_41 HT_ ?_
           refine pn_ 13 (some 28) M6_42 HT_ ?_
           refine pn_ 14 (some 29) M6_15 HT_ ?_
           refine pn_ 15 (some 30) M6_16 HT_ ?_
           refine pn_ 16 (some 31) M6_17 HT_ ?_
           refine pu_ 17 (some 32) M6_18 HT_ ?_
           refine pu_ 18 (some 33) M6_19 HT_ ?_
           refine pu_ 19 (some 34) M6_20 HT_ ?_
           refine pu_ 20 (some 35) M6_21 HT_ ?_
           refine tk_ 21 (some 36) M6_22 HT_ HW_ hHeld ?_
           refine pu_ 22 (some 37) M6_23 HT_ ?_
           refine pu_ 23 (some 38) M6_24 HT_ ?_
           refine pu_ 24 (some 39) M6_25 HT_ ?_
           refine pu_ 25 (some 40) M6_26 HT_ ?_
           refine pu_ 26 (some 41) M6_27 HT_ ?_
           refine tk_ 27 (some 42) M6_28 HT_ HW_ hHeld ?_
           refine one_ (i := 28) (N := some 43) M6_29 rfl rfl (one_of HT_.out (by kernel_rfl)) (by decide) (fun K hK => ?_)
           refine goes_ Try.func45 (by kernel_rfl) rfl #[.slice A211_1 ((rd_T36 l0 x10_1).f1).length c211_1] (by rfl) rfl rfl ma_ ?_
           with_reducible refine (impl_AreMarks.calls k1 _ _ ((rd_T36 l0 x10_1).f1) false _ ?side1 ?side2 A46.out).mono ?_
           (case side1 => repeat (first | exact (Kd.C_below HR211_1.out (y84_)) | (with_reducible refine Kd.C_alloc ?_ _) | (with_reducible refine Kd.C_drewN ?_ _) | (with_reducible refine Kd.C_drew ?_)))
           (case side2 => exact HC211_1.out)
           rintro e w64 ⟨rfl, hb⟩
           refine ⟨_, rfl, ?_⟩
           have n0_ := Aside0.mk (blk_below (bd_ BK212.out) hb)
           have n1_ := Aside0.mk (below_step (y84_) hb)
           clear BK212
           clear HB
           have BK212 := n0_
           have HB := n1_
           clear n0_ n1_
           (try clear hb)
           (try clear hb2)
           (try clear hk)
           (try clear hi)
           refine hK.out _ _ (k1e_ BK212.out) (fun hHeld => ?_)
           clear hK K
           refine norm_ (a' := ?_) ?_ ?_
           rotate_left
           ·
            show Act.put _ (some 43) _ = _
            simp only [Act.put, P6_1, P6_2, P6_3, i64_w, i32_w]
            rfl
           refine pu_ 29 (some 44) M6_30 HT_ ?_
           refine pu_ 30 (some 45) M6_31 HT_ ?_
           refine pu_ 31 (some 46) M6_32 HT_ ?_
           refine pn_ 32 (some 47) M6_33 HT_ ?_
           refine pn_ 33 (some 48) M6_34 HT_ ?_
           refine pn_ 34 (some 49) M6_35 HT_ ?_
           refine pn_ 35 (some 50) M6_36 HT_ ?_
           refine pu_ 36 (some 51) M6_37 HT_ ?_
           refine done_ (done_of HT_.out (by kernel_rfl)) ?_
           try go_wp2
           go_ret
           exact ⟨by first | rfl | (simp [errW_none, errW_some] <;> rfl) | (simp [*, errW_none, errW_some] <;> rfl), y84_⟩
       ·
        replace c7 := Bool.eq_false_iff.mpr c7
        subst c7
        have H1 : (some false) = some r := by rw [if_neg (show ¬ (false = true) by decide)] at H; exact H
        clear H
        have H := H1
        clear H1
        obtain rfl := Option.some.inj H
        have p211 : 0 ≤ (x10_1 : Int) := of_decide_eq_true as_
        have q211 : x10_1 < (l0.length : Int) := of_decide_eq_true as_
        obtain ⟨ad211, A211_1, c211_1, e211, hx211_0, hx211_1, hx211_2, hl211_1, hi211_1⟩ := at_T36 HR0.out x10_1 p211 q211
        cases e211
        replace hx211_0 := cb_ HB.out hx211_0
        replace hx211_1 := cb_ HB.out hx211_1
        replace hx211_2 := cb_ HB.out hx211_2
        have HR211_1 := Aside0.mk hi211_1
        have HC211_1 := Aside0.mk hl211_1
        clear hi211_1 hl211_1
        replace p211 := eq_true p211
        replace q211 := eq_true q211
        try go_wp2_with (first | ((with_reducible refine gate_dst (N := 4) rfl ?_); (try (refine gate_guard (by rfl) ?_; dsimp only)); refine box_event ?hg (N := 4) ?hd (cs := #[.int .i64 0, .slice none 0 0, .int .i64 0]) (t := 36) ?hr ?_; (case hd => rfl); (case hg => rfl); (case hr => first | (go_simp; done) | (go_simp; rfl)); intro gb212 hg w65 hbox hb; have n0_ := Aside0.mk (below_step (hd_ HB.out) hb); have BK212 := Aside0.mk (hbox); have GW212 := Aside0.mk ((y87_ : w.heap.size ≤ gb212)); have GE212 := Aside0.mk ((y87_ : w.heap.size ≤ gb212)); clear HB; have HB := n0_; clear n0_; clear hb hbox hg; obtain ⟨hcz66_0, hcz66_1, hcz66_2⟩ := e81_ BK212.out; obtain ⟨hfz66_0, hfz66_1, hfz66_2⟩ := z82_ BK212.out))
        have n0_ : Aside0 ((((w65.setCell ⟨gb212, 0, none⟩ (.int .i64 ((rd_T36 l0 x10_1).f0))).setCell ⟨gb212, 1, none⟩ (.slice A211_1 ((rd_T36 l0 x10_1).f1).length c211_1)).setCell ⟨gb212, 2, none⟩ (.int .i64 ((rd_T36 l0 x10_1).f2))).heap[gb212]? = some (.cells #[.int .i64 ((rd_T36 l0 x10_1).f0), .slice A211_1 ((rd_T36 l0 x10_1).f1).length c211_1, .int .i64 ((rd_T36 l0 x10_1).f2)] 36 (0, 0))) := ⟨by (with_reducible repeat (first | refine blk_drewN ?_ _ | refine blk_drew ?_ | refine blk_alloc ?_ _)); refine blk_put (cs := #[.int .i64 ((rd_T36 l0 x10_1).f0), .slice A211_1 ((rd_T36 l0 x10_1).f1).length c211_1, .int .i64 0]) ?_ 2 _ rfl; (with_reducible repeat (first | refine blk_drewN ?_ _ | refine blk_drew ?_ | refine blk_alloc ?_ _)); refine blk_put (cs := #[.int .i64 ((rd_T36 l0 x10_1).f0), .slice none 0 0, .int .i64 0]) ?_ 1 _ rfl; (with_reducible repeat (first | refine blk_drewN ?_ _ | refine blk_drew ?_ | refine blk_alloc ?_ _)); refine blk_put (cs := #[.int .i64 0, .slice none 0 0, .int .i64 0]) ?_ 0 _ rfl; (with_reducible repeat (first | refine blk_drewN ?_ _ | refine blk_drew ?_ | refine blk_alloc ?_ _)); exact BK212.out⟩
        have n1_ : Aside0 (Below w.heap.size w (((w65.setCell ⟨gb212, 0, none⟩ (.int .i64 ((rd_T36 l0 x10_1).f0))).setCell ⟨gb212, 1, none⟩ (.slice A211_1 ((rd_T36 l0 x10_1).f1).length c211_1)).setCell ⟨gb212, 2, none⟩ (.int .i64 ((rd_T36 l0 x10_1).f2)))) := ⟨y84_⟩
        (try clear BK212)
        (try clear HB)
        generalize (((w65.setCell ⟨gb212, 0, none⟩ (.int .i64 ((rd_T36 l0 x10_1).f0))).setCell ⟨gb212, 1, none⟩ (.slice A211_1 ((rd_T36 l0 x10_1).f1).length c211_1)).setCell ⟨gb212, 2, none⟩ (.int .i64 ((rd_T36 l0 x10_1).f2))) = w67 at n0_ n1_ ⊢
        have BK212 := n0_
        have HB := n1_
        clear n0_ n1_
        have n0_ := Aside0.mk (blk_drew BK212.out)
        have n1_ := Aside0.mk (below_drew1 HB.out)
        clear BK212
        clear HB
        have BK212 := n0_
        have HB := n1_
        clear n0_ n1_
        refine start_ (n := 37) (S := fun w' => q1e_ w' gb212 ((rd_T36 l0 x10_1).f0) A211_1 ((rd_T36 l0 x10_1).f1).length c211_1 ((rd_T36 l0 x10_1).f2)) (ds := []) M6_0 (by kernel_rfl) rfl rfl (k1e_ BK212.out) (fun hHeld => ?_); refine with_tabW impl_AreSecrets.tab6 impl_AreSecrets.bits6 (fun HT_ HW_ => ?_)
        generalize w67.drew = w68 at BK212 HB hHeld ⊢
        refine pu_ 0 (some 15) M6_1 HT_ ?_
        refine tk_ 1 (some 16) M6_2 HT_ HW_ hHeld ?_
        refine one_ (i := 2) (N := some 17) M6_3 rfl rfl (one_of HT_.out (by kernel_rfl)) (by decide) (fun K hK => ?_)
        refine goes_ Try.func44 (by kernel_rfl) rfl #[.int .i64 ((rd_T36 l0 x10_1).f0), .int .i64 1, .int .i64 999] (by rfl) rfl rfl ma_ ?_
        with_reducible refine (impl_InRange.calls ((rd_T36 l0 x10_1).f0) 1 999 false _ A6.out).mono ?_
        rintro e w' ⟨rfl, ⟨nd, rfl⟩⟩
        refine ⟨_, rfl, ?_⟩
        refine hK.out _ _ (k1e_ BK212.out) (fun hHeld => ?_)
        clear hK K
        refine norm_ (a' := ?_) ?_ ?_
        rotate_left
        ·
         show Act.put _ (some 17) _ = _
         simp only [Act.put, P6_1, P6_2, P6_3, i64_w, i32_w]
         rfl
        refine pu_ 3 (some 18) M6_4 HT_ ?_
        refine pu_ 4 (some 19) M6_5 HT_ ?_
        refine pn_ 5 (some 20) M6_6 HT_ ?_
        refine pn_ 6 (some 21) M6_7 HT_ ?_
        refine pn_ 7 (some 22) M6_8 HT_ ?_
        refine pn_ 8 (some 23) M6_9 HT_ ?_
        refine pn_ 9 (some 24) M6_38 HT_ ?_
        refine pn_ 10 (some 25) M6_39 HT_ ?_
        refine pn_ 11 (some 26) M6_40 HT_ ?_
        refine pn_ 12 (some 27) M6_41 HT_ ?_
        refine pn_ 13 (some 28) M6_42 HT_ ?_
        refine pn_ 14 (some 29) M6_15 HT_ ?_
        refine pn_ 15 (some 30) M6_16 HT_ ?_
        refine pn_ 16 (some 31) M6_17 HT_ ?_
        refine pn_ 17 (some 32) M6_18 HT_ ?_
        refine pu_ 18 (some 33) M6_19 HT_ ?_
        refine pu_ 19 (some 34) M6_20 HT_ ?_
        refine pn_ 20 (some 35) M6_21 HT_ ?_
        refine pn_ 21 (some 36) M6_22 HT_ ?_
        refine pn_ 22 (some 37) M6_23 HT_ ?_
        refine pn_ 23 (some 38) M6_24 HT_ ?_
        refine pu_ 24 (some 39) M6_25 HT_ ?_
        refine pu_ 25 (some 40) M6_26 HT_ ?_
        refine pn_ 26 (some 41) M6_27 HT_ ?_
        refine pn_ 27 (some 42) M6_28 HT_ ?_
        refine pn_ 28 (some 43) M6_29 HT_ ?_
        refine pn_ 29 (some 44) M6_30 HT_ ?_
        refine pu_ 30 (some 45) M6_31 HT_ ?_
        refine pu_ 31 (some 46) M6_32 HT_ ?_
        refine pn_ 32 (some 47) M6_33 HT_ ?_
        refine pn_ 33 (some 48) M6_34 HT_ ?_
        refine pn_ 34 (some 49) M6_35 HT_ ?_
        refine pn_ 35 (some 50) M6_36 HT_ ?_
        refine pu_ 36 (some 51) M6_37 HT_ ?_
        refine done_ (done_of HT_.out (by kernel_rfl)) ?_
        try go_wp2
        go_ret
        exact ⟨by first | rfl | (simp [errW_none, errW_some] <;> rfl) | (simp [*, errW_none, errW_some] <;> rfl), y84_⟩
      ·
       rw [if_neg c5] at H
       exact absurd H (by simp)
     ·
      rw [if_neg c4] at H
      exact absurd H (by simp)
    ·
     rw [if_neg c3] at H
     have c3b0 : decide (x10_1 < (l0.length : Int)) = false := decide_eq_false c3
     clear c3
     obtain rfl := Option.some.inj H
     go_wp2
     go_ret
     exact ⟨by first | rfl | (simp [errW_none, errW_some] <;> rfl) | (simp [*, errW_none, errW_some] <;> rfl), hd_ HB.out⟩

end Go.Proofs.Ytfghapankndioaa.PFnExactPutSecret
