-- Written for this claim by a program (a printer turned to this claim); Lean checks it.
import Derived.Test.YtnlgilmbmoiniaaDoorPFnTasksx0
import Derived.Test.YtnlgilmbmoiniaaDoorPFnTasksx8
namespace Go.Proofs.YtnlgilmbmoiniaaDoor.PFnTasks
open Go.RowKit Go.Proofs.YtnlgilmbmoiniaaDoorW.PrintWords Go.Proofs.YtnlgilmbmoiniaaDoorW.PrintLast Go.Proofs.YtnlgilmbmoiniaaDoorW.PrintMore
attribute [local go_sem] max2_int min2_int max_two min_two max_three min_three max_four min_four   -- for this text's walks alone
set_option linter.unusedVariables false
set_option linter.unusedSimpArgs false

/-! ### impl_AreFinds: function 19 -/
def impl_AreFinds.l0 : Nat → List (S38) → List (S38) → Int → Int → Option (Bool)
 | 0, _, _, _, _ => none
 | k + 1, x0, x8, x9, x10 => if x10 < x9 then (if 0 ≤ x10 then (if x10 < (x8.length : Int) then ((impl_IsFind.f ((rd_T38 x8 x10).f0.f0) ((rd_T38 x8 x10).f0.f1) ((rd_T38 x8 x10).f0.f2) ((rd_T38 x8 x10).f0.f3) ((rd_T38 x8 x10).f0.f4) ((rd_T38 x8 x10).f1) ((rd_T38 x8 x10).f2) ((rd_T38 x8 x10).f3)).bind fun t531 => (if t531 = true then (if x10 > 0 then (if 0 ≤ (wrap64 (x10 - 1)) then (if (wrap64 (x10 - 1)) < (x0.length : Int) then (if ((rd_T38 x8 x10).f0.f0) ≤ ((rd_T38 x0 (wrap64 (x10 - 1))).f0.f0) then (some false) else (impl_AreFinds.l0 k x0 x8 x9 (wrap64 (x10 + 1)))) else (none)) else (none)) else (impl_AreFinds.l0 k x0 x8 x9 (wrap64 (x10 + 1)))) else (some false))) else (none)) else (none)) else (some true)
def impl_AreFinds.f (k : Nat) (l0 : List (S38)) : Option (Bool) := if (l0.length : Int) > 20 then (some false) else (impl_AreFinds.l0 k l0 l0 (l0.length : Int) 0)
theorem impl_AreFinds.mono_l : ∀ k, (∀ y0 y1 y2 y3, LeO (impl_AreFinds.l0 k y0 y1 y2 y3) (impl_AreFinds.l0 (k + 1) y0 y1 y2 y3))
 | 0 => fun _ _ _ _ r h => by simp [impl_AreFinds.l0] at h
 | k + 1 => by
  have ih0 := impl_AreFinds.mono_l k
  ·
   intro y0 y1 y2 y3
   unfold impl_AreFinds.l0
   exact mo_
theorem impl_AreFinds.mono : ∀ a0 k, LeO (impl_AreFinds.f k a0) (impl_AreFinds.f (k + 1) a0) := by
 intro a0 k
 have ih0 := impl_AreFinds.mono_l k
 unfold impl_AreFinds.f
 exact mo_
def impl_AreFinds.T6 : Bool × List (List Nat × List Nat) := (true, [([], []), ([0], [0]), ([1], [1]), ([2, 1], [2]), ([3], [3]), ([4, 3], [3, 4]), ([5, 3, 3], [3, 5]), ([6], [6]), ([7, 6], [6, 7]), ([8, 6], [6, 8]), ([6], [6]), ([6], [6]), ([11, 6], [6, 11]), ([10, 12, 6], [6, 10, 12]), ([13, 6], [6, 13]), ([14, 6], [6, 14]), ([15, 6], [6, 15]), ([9, 16, 6], [6, 9, 16]), ([6, 17, 3], [3, 6, 17]), ([3, 18], [3, 18])])
def impl_AreFinds.B6 : List Nat := [0, 1, 3, 7, 15, 31, 63, 127, 255, 511, 127, 127, 2175, 7295, 15487, 31871, 64639, 131071, 262143, 524287]
theorem impl_AreFinds.tab6 : rtab .any (opsOf Tryd.f19 6) = impl_AreFinds.T6 := by kernel_rfl
theorem impl_AreFinds.bits6 : waitsOk impl_AreFinds.T6.2 impl_AreFinds.B6 = true := by kernel_rfl
abbrev M2_0 := bm_ 20 0
abbrev M2_1 := bm_ 20 1
abbrev M2_2 := bm_ 20 3
abbrev M2_3 := bm_ 20 7
abbrev M2_4 := bm_ 20 15
abbrev M2_5 := bm_ 20 31
abbrev M2_6 := bm_ 20 63
abbrev M2_7 := bm_ 20 127
abbrev M2_8 := bm_ 20 255
abbrev M2_9 := bm_ 20 511
abbrev M2_10 := bm_ 20 1535
abbrev M2_11 := bm_ 20 3583
abbrev M2_12 := bm_ 20 7679
abbrev M2_13 := bm_ 20 15871
abbrev M2_14 := bm_ 20 32255
abbrev M2_15 := bm_ 20 65023
abbrev M2_16 := bm_ 20 65535
abbrev M2_17 := bm_ 20 131071
abbrev M2_18 := bm_ 20 262143
abbrev M2_19 := bm_ 20 524287
abbrev M2_20 := bm_ 20 1048575
abbrev M2_21 := bm_ 20 1023
abbrev M2_22 := bm_ 20 2047
abbrev M2_23 := bm_ 20 4095
abbrev M2_24 := bm_ 20 8191
abbrev M2_25 := bm_ 20 16383
abbrev M2_26 := bm_ 20 32767
theorem P2_1 {α : Type} (l : List α) (i : Nat) (a : α) : l.toArray.setIfInBounds i a = (l.set i a).toArray := List.setIfInBounds_toArray l i a
theorem P2_2 {α : Type} (x : α) (l : List α) (a : α) : (x :: l).set 0 a = a :: l := List.set_cons_zero
theorem P2_3 {α : Type} (x : α) (l : List α) (n : Nat) (a : α) : (x :: l).set (n + 1) a = x :: l.set n a := List.set_cons_succ
theorem e181_ {w : World} {g : Nat} {t : TypeId} {i0 : Int} {i1 : Int} {i2 : Int} {i3 : Int} {i4 : Int} {i5 : Int} {i6 : Int} {i7 : Int} (h : w.heap[g]? = some (.cells #[.int .i64 i0, .int .i64 i1, .int .i64 i2, .int .i64 i3, .int .i64 i4, .int .i64 i5, .int .i64 i6, .int .i64 i7] t (0, 0))) : w.cell? ⟨g, 0, none⟩ = some (.int .i64 i0) ∧ w.cell? ⟨g, 1, none⟩ = some (.int .i64 i1) ∧ w.cell? ⟨g, 2, none⟩ = some (.int .i64 i2) ∧ w.cell? ⟨g, 3, none⟩ = some (.int .i64 i3) ∧ w.cell? ⟨g, 4, none⟩ = some (.int .i64 i4) ∧ w.cell? ⟨g, 5, none⟩ = some (.int .i64 i5) ∧ w.cell? ⟨g, 6, none⟩ = some (.int .i64 i6) ∧ w.cell? ⟨g, 7, none⟩ = some (.int .i64 i7) := ⟨(blk_cell h 0).trans rfl, (blk_cell h 1).trans rfl, (blk_cell h 2).trans rfl, (blk_cell h 3).trans rfl, (blk_cell h 4).trans rfl, (blk_cell h 5).trans rfl, (blk_cell h 6).trans rfl, (blk_cell h 7).trans rfl⟩
theorem z182_ {w : World} {g : Nat} {t : TypeId} {cs : Array Value} (h : w.heap[g]? = some (.cells cs t (0, 0))) : w.frozen? ⟨g, 0, none⟩ = false ∧ w.frozen? ⟨g, 1, none⟩ = false ∧ w.frozen? ⟨g, 2, none⟩ = false ∧ w.frozen? ⟨g, 3, none⟩ = false ∧ w.frozen? ⟨g, 4, none⟩ = false ∧ w.frozen? ⟨g, 5, none⟩ = false ∧ w.frozen? ⟨g, 6, none⟩ = false ∧ w.frozen? ⟨g, 7, none⟩ = false := ⟨blk_frozen h 0, blk_frozen h 1, blk_frozen h 2, blk_frozen h 3, blk_frozen h 4, blk_frozen h 5, blk_frozen h 6, blk_frozen h 7⟩
theorem y184_ {P : Prop} (h : P := by repeat (first | (with_reducible first | exact HB.out | apply below_alloc | apply pw_below_drewN | apply below_drew1 | refine below_set ?_ GE530.out) | exact HB.out)) : P := h
theorem y189_ {P : Prop} (h : P := by rw [hg]; exact (below_size (hd_ HB.out))) : P := h
set_option maxHeartbeats 8000000 in
set_option maxRecDepth 100000 in
theorem impl_AreFinds.calls (k : Nat) (A0 : Option Addr) (c0 : Nat) (l0 : List (S38)) (r : Bool) (w : World) (hr0 : Kd.C k38 w A0 l0.length l0) (hc0 : l0.length ≤ c0) (h : impl_AreFinds.f k l0 = some r) :
  Calls Tryd.prog 19 #[.slice A0 l0.length c0] w fun e w' => e = .returned (.bool r) ∧ Below w.heap.size w w' := by
 have hu38 := Tryd.underlying38
 have HR0 := Aside0.mk hr0
 have HC0 := Aside0.mk hc0
 clear hr0 hc0
 have HB := Aside0.mk (Below.refl w.heap.size w)
 have H : (if (l0.length : Int) > 20 then (some false) else (impl_AreFinds.l0 k l0 l0 (l0.length : Int) 0)) = some r := h
 clear h
 by_cases c2 : (l0.length : Int) > 20
 ·
  rw [if_pos c2] at H
  have c2b0 : decide (20 < (l0.length : Int)) = true := decide_eq_true c2
  have c2b1 : decide (20 < l0.length) = true := decide_eq_true (by omega)
  clear c2
  obtain rfl := Option.some.inj H
  go_enter Tryd.func19, Tryd.ntmps19
  go_wp2
  go_ret
  exact ⟨rt_, hd_ HB.out⟩
 ·
  rw [if_neg c2] at H
  have c2b0 : decide (20 < (l0.length : Int)) = false := decide_eq_false c2
  have c2b1 : decide (20 < l0.length) = false := decide_eq_false (by omega)
  clear c2
  have H' := Aside0.mk H
  clear H
  go_enter Tryd.func19, Tryd.ntmps19
  go_wp2
  go_loopg [10] k (fun kq v10 w' => ∃ (x10_1 : Int), v10 = .int .i64 x10_1 ∧ Aside0 (impl_AreFinds.l0 kq l0 l0 (l0.length : Int) x10_1 = some r) ∧ Aside0 (kq ≤ k) ∧ Aside0 (Below w.heap.size w w'))
  case atStart => exact ⟨(0), rs_, H', ⟨Nat.le_refl _⟩, ⟨hd_ HB.out⟩⟩
  case round =>
   clear H'
   try clear c1
   try clear c2
   try clear c2b0
   try clear c2b1
   try clear p2
   obtain ⟨x10_1, rfl, HA, HK1, HB⟩ := hrel
   cases gk with
   | zero => exact absurd HA.out (by simp [impl_AreFinds.l0])
   | succ k1 =>
    have H := HA.out
    clear HA
    simp only [impl_AreFinds.l0] at H
    by_cases c3 : x10_1 < (l0.length : Int)
    ·
     rw [if_pos c3] at H
     have c3b0 : decide (x10_1 < (l0.length : Int)) = true := decide_eq_true c3
     clear c3
     by_cases c4 : 0 ≤ x10_1
     ·
      rw [if_pos c4] at H
      have c4b0 : decide (0 ≤ x10_1) = true := decide_eq_true c4
      clear c4
      by_cases c5 : x10_1 < (l0.length : Int)
      ·
       rw [if_pos c5] at H
       have c5b0 : decide (x10_1 < (l0.length : Int)) = true := decide_eq_true c5
       clear c5
       replace H := Option.bind_eq_some_iff.mp H
       obtain ⟨t531, A60, H⟩ := H
       replace H : (if t531 = true then (if x10_1 > 0 then (if 0 ≤ (wrap64 (x10_1 - 1)) then (if (wrap64 (x10_1 - 1)) < (l0.length : Int) then (if ((rd_T38 l0 x10_1).f0.f0) ≤ ((rd_T38 l0 (wrap64 (x10_1 - 1))).f0.f0) then (some false) else (impl_AreFinds.l0 k1 l0 l0 (l0.length : Int) (wrap64 (x10_1 + 1)))) else (none)) else (none)) else (impl_AreFinds.l0 k1 l0 l0 (l0.length : Int) (wrap64 (x10_1 + 1)))) else (some false)) = some r := H
       have A6 := Aside0.mk A60
       clear A60
       by_cases c7 : t531 = true
       ·
        subst c7
        have H1 : (if x10_1 > 0 then (if 0 ≤ (wrap64 (x10_1 - 1)) then (if (wrap64 (x10_1 - 1)) < (l0.length : Int) then (if ((rd_T38 l0 x10_1).f0.f0) ≤ ((rd_T38 l0 (wrap64 (x10_1 - 1))).f0.f0) then (some false) else (impl_AreFinds.l0 k1 l0 l0 (l0.length : Int) (wrap64 (x10_1 + 1)))) else (none)) else (none)) else (impl_AreFinds.l0 k1 l0 l0 (l0.length : Int) (wrap64 (x10_1 + 1)))) = some r := by rw [if_pos rfl] at H; exact H
        clear H
        have H := H1
        clear H1
        by_cases c8 : x10_1 > 0
        ·
         rw [if_pos c8] at H
         have c8b0 : decide (0 < x10_1) = true := decide_eq_true c8
         clear c8
         obtain ⟨ji9, hji9⟩ : ∃ j_ : Int, (wrap64 (x10_1 - 1)) = j_ := ⟨_, rfl⟩
         replace H : (if 0 ≤ (ji9) then (if (ji9) < (l0.length : Int) then (if ((rd_T38 l0 x10_1).f0.f0) ≤ ((rd_T38 l0 (ji9)).f0.f0) then (some false) else (impl_AreFinds.l0 k1 l0 l0 (l0.length : Int) (wrap64 (x10_1 + 1)))) else (none)) else (none)) = some r := by first | (rw [hji9] at H; exact H) | (simp only [hji9] at H ⊢; exact H)
         (try rw [hji9] at A6)
         have hji9w : (IntKind.i64.wrap (x10_1 - 1)) = ji9 := (i64_w _).trans hji9
         by_cases c10 : 0 ≤ (ji9)
         ·
          rw [if_pos c10] at H
          have c10b0 : decide (0 ≤ (ji9)) = true := decide_eq_true c10
          clear c10
          by_cases c11 : (ji9) < (l0.length : Int)
          ·
           rw [if_pos c11] at H
           have c11b0 : decide ((ji9) < (l0.length : Int)) = true := decide_eq_true c11
           clear c11
           by_cases c12 : ((rd_T38 l0 x10_1).f0.f0) ≤ ((rd_T38 l0 (ji9)).f0.f0)
           ·
            rw [if_pos c12] at H
            have c12b0 : decide (((rd_T38 l0 x10_1).f0.f0) ≤ ((rd_T38 l0 (ji9)).f0.f0)) = true := decide_eq_true c12
            clear c12
            obtain rfl := Option.some.inj H
            have p529 : 0 ≤ (x10_1 : Int) := of_decide_eq_true as_
            have q529 : x10_1 < (l0.length : Int) := of_decide_eq_true as_
            obtain ⟨ad529, e529, hx529_0, hx529_1, hx529_2, hx529_3, hx529_4, hx529_5, hx529_6, hx529_7⟩ := at_T38 HR0.out x10_1 p529 q529
            cases e529
            replace hx529_0 := cb_ HB.out hx529_0
            replace hx529_1 := cb_ HB.out hx529_1
            replace hx529_2 := cb_ HB.out hx529_2
            replace hx529_3 := cb_ HB.out hx529_3
            replace hx529_4 := cb_ HB.out hx529_4
            replace hx529_5 := cb_ HB.out hx529_5
            replace hx529_6 := cb_ HB.out hx529_6
            replace hx529_7 := cb_ HB.out hx529_7
            replace p529 := eq_true p529
            replace q529 := eq_true q529
            try go_wp2_with (first | ((with_reducible refine gate_dst (N := 4) rfl ?_); refine bx_ 4 #[.int .i64 0, .int .i64 0, .int .i64 0, .int .i64 0, .int .i64 0, .int .i64 0, .int .i64 0, .int .i64 0] 38 ?_; intro gb530 hg w13 hbox hb; have n0_ := Aside0.mk (below_step (hd_ HB.out) hb); have BK530 := Aside0.mk (hbox); have GW530 := Aside0.mk ((y189_ : w.heap.size ≤ gb530)); have GE530 := GW530; clear HB; have HB := n0_; clear n0_; clear hb hbox hg; obtain ⟨hcz14_0, hcz14_1, hcz14_2, hcz14_3, hcz14_4, hcz14_5, hcz14_6, hcz14_7⟩ := e181_ BK530.out; obtain ⟨hfz14_0, hfz14_1, hfz14_2, hfz14_3, hfz14_4, hfz14_5, hfz14_6, hfz14_7⟩ := z182_ BK530.out))
            have n0_ : Aside0 (((((((((w13.setCell ⟨gb530, 0, none⟩ (.int .i64 ((rd_T38 l0 x10_1).f0.f0))).setCell ⟨gb530, 1, none⟩ (.int .i64 ((rd_T38 l0 x10_1).f0.f1))).setCell ⟨gb530, 2, none⟩ (.int .i64 ((rd_T38 l0 x10_1).f0.f2))).setCell ⟨gb530, 3, none⟩ (.int .i64 ((rd_T38 l0 x10_1).f0.f3))).setCell ⟨gb530, 4, none⟩ (.int .i64 ((rd_T38 l0 x10_1).f0.f4))).setCell ⟨gb530, 5, none⟩ (.int .i64 ((rd_T38 l0 x10_1).f1))).setCell ⟨gb530, 6, none⟩ (.int .i64 ((rd_T38 l0 x10_1).f2))).setCell ⟨gb530, 7, none⟩ (.int .i64 ((rd_T38 l0 x10_1).f3))).heap[gb530]? = some (.cells #[.int .i64 ((rd_T38 l0 x10_1).f0.f0), .int .i64 ((rd_T38 l0 x10_1).f0.f1), .int .i64 ((rd_T38 l0 x10_1).f0.f2), .int .i64 ((rd_T38 l0 x10_1).f0.f3), .int .i64 ((rd_T38 l0 x10_1).f0.f4), .int .i64 ((rd_T38 l0 x10_1).f1), .int .i64 ((rd_T38 l0 x10_1).f2), .int .i64 ((rd_T38 l0 x10_1).f3)] 38 (0, 0))) := ⟨by (with_reducible repeat (first | refine blk_drewN ?_ _ | refine blk_drew ?_ | refine blk_alloc ?_ _)); refine blk_put (cs := #[.int .i64 ((rd_T38 l0 x10_1).f0.f0), .int .i64 ((rd_T38 l0 x10_1).f0.f1), .int .i64 ((rd_T38 l0 x10_1).f0.f2), .int .i64 ((rd_T38 l0 x10_1).f0.f3), .int .i64 ((rd_T38 l0 x10_1).f0.f4), .int .i64 ((rd_T38 l0 x10_1).f1), .int .i64 ((rd_T38 l0 x10_1).f2), .int .i64 0]) ?_ 7 _ rfl; (with_reducible repeat (first | refine blk_drewN ?_ _ | refine blk_drew ?_ | refine blk_alloc ?_ _)); refine blk_put (cs := #[.int .i64 ((rd_T38 l0 x10_1).f0.f0), .int .i64 ((rd_T38 l0 x10_1).f0.f1), .int .i64 ((rd_T38 l0 x10_1).f0.f2), .int .i64 ((rd_T38 l0 x10_1).f0.f3), .int .i64 ((rd_T38 l0 x10_1).f0.f4), .int .i64 ((rd_T38 l0 x10_1).f1), .int .i64 0, .int .i64 0]) ?_ 6 _ rfl; (with_reducible repeat (first | refine blk_drewN ?_ _ | refine blk_drew ?_ | refine blk_alloc ?_ _)); refine blk_put (cs := #[.int .i64 ((rd_T38 l0 x10_1).f0.f0), .int .i64 ((rd_T38 l0 x10_1).f0.f1), .int .i64 ((rd_T38 l0 x10_1).f0.f2), .int .i64 ((rd_T38 l0 x10_1).f0.f3), .int .i64 ((rd_T38 l0 x10_1).f0.f4), .int .i64 0, .int .i64 0, .int .i64 0]) ?_ 5 _ rfl; (with_reducible repeat (first | refine blk_drewN ?_ _ | refine blk_drew ?_ | refine blk_alloc ?_ _)); refine blk_put (cs := #[.int .i64 ((rd_T38 l0 x10_1).f0.f0), .int .i64 ((rd_T38 l0 x10_1).f0.f1), .int .i64 ((rd_T38 l0 x10_1).f0.f2), .int .i64 ((rd_T38 l0 x10_1).f0.f3), .int .i64 0, .int .i64 0, .int .i64 0, .int .i64 0]) ?_ 4 _ rfl; (with_reducible repeat (first | refine blk_drewN ?_ _ | refine blk_drew ?_ | refine blk_alloc ?_ _)); refine blk_put (cs := #[.int .i64 ((rd_T38 l0 x10_1).f0.f0), .int .i64 ((rd_T38 l0 x10_1).f0.f1), .int .i64 ((rd_T38 l0 x10_1).f0.f2), .int .i64 0, .int .i64 0, .int .i64 0, .int .i64 0, .int .i64 0]) ?_ 3 _ rfl; (with_reducible repeat (first | refine blk_drewN ?_ _ | refine blk_drew ?_ | refine blk_alloc ?_ _)); refine blk_put (cs := #[.int .i64 ((rd_T38 l0 x10_1).f0.f0), .int .i64 ((rd_T38 l0 x10_1).f0.f1), .int .i64 0, .int .i64 0, .int .i64 0, .int .i64 0, .int .i64 0, .int .i64 0]) ?_ 2 _ rfl; (with_reducible repeat (first | refine blk_drewN ?_ _ | refine blk_drew ?_ | refine blk_alloc ?_ _)); refine blk_put (cs := #[.int .i64 ((rd_T38 l0 x10_1).f0.f0), .int .i64 0, .int .i64 0, .int .i64 0, .int .i64 0, .int .i64 0, .int .i64 0, .int .i64 0]) ?_ 1 _ rfl; (with_reducible repeat (first | refine blk_drewN ?_ _ | refine blk_drew ?_ | refine blk_alloc ?_ _)); refine blk_put (cs := #[.int .i64 0, .int .i64 0, .int .i64 0, .int .i64 0, .int .i64 0, .int .i64 0, .int .i64 0, .int .i64 0]) ?_ 0 _ rfl; (with_reducible repeat (first | refine blk_drewN ?_ _ | refine blk_drew ?_ | refine blk_alloc ?_ _)); exact BK530.out⟩
            have n1_ : Aside0 (Below w.heap.size w ((((((((w13.setCell ⟨gb530, 0, none⟩ (.int .i64 ((rd_T38 l0 x10_1).f0.f0))).setCell ⟨gb530, 1, none⟩ (.int .i64 ((rd_T38 l0 x10_1).f0.f1))).setCell ⟨gb530, 2, none⟩ (.int .i64 ((rd_T38 l0 x10_1).f0.f2))).setCell ⟨gb530, 3, none⟩ (.int .i64 ((rd_T38 l0 x10_1).f0.f3))).setCell ⟨gb530, 4, none⟩ (.int .i64 ((rd_T38 l0 x10_1).f0.f4))).setCell ⟨gb530, 5, none⟩ (.int .i64 ((rd_T38 l0 x10_1).f1))).setCell ⟨gb530, 6, none⟩ (.int .i64 ((rd_T38 l0 x10_1).f2))).setCell ⟨gb530, 7, none⟩ (.int .i64 ((rd_T38 l0 x10_1).f3)))) := ⟨y184_⟩
            (try clear BK530)
            (try clear HB)
            generalize ((((((((w13.setCell ⟨gb530, 0, none⟩ (.int .i64 ((rd_T38 l0 x10_1).f0.f0))).setCell ⟨gb530, 1, none⟩ (.int .i64 ((rd_T38 l0 x10_1).f0.f1))).setCell ⟨gb530, 2, none⟩ (.int .i64 ((rd_T38 l0 x10_1).f0.f2))).setCell ⟨gb530, 3, none⟩ (.int .i64 ((rd_T38 l0 x10_1).f0.f3))).setCell ⟨gb530, 4, none⟩ (.int .i64 ((rd_T38 l0 x10_1).f0.f4))).setCell ⟨gb530, 5, none⟩ (.int .i64 ((rd_T38 l0 x10_1).f1))).setCell ⟨gb530, 6, none⟩ (.int .i64 ((rd_T38 l0 x10_1).f2))).setCell ⟨gb530, 7, none⟩ (.int .i64 ((rd_T38 l0 x10_1).f3))) = w15 at n0_ n1_ ⊢
            have BK530 := n0_
            have HB := n1_
            clear n0_ n1_
            have n0_ := Aside0.mk (blk_drew BK530.out)
            have n1_ := Aside0.mk (below_drew1 HB.out)
            clear BK530
            clear HB
            have BK530 := n0_
            have HB := n1_
            clear n0_ n1_
            have p532 : 0 ≤ ((ji9) : Int) := of_decide_eq_true as_
            have q532 : (ji9) < (l0.length : Int) := of_decide_eq_true as_
            obtain ⟨ad532, e532, hx532_0, hx532_1, hx532_2, hx532_3, hx532_4, hx532_5, hx532_6, hx532_7⟩ := at_T38 HR0.out (ji9) p532 q532
            have hw532_7 := hx532_7
            have hw532_6 := hx532_6
            have hw532_5 := hx532_5
            have hw532_4 := hx532_4
            have hw532_3 := hx532_3
            have hw532_2 := hx532_2
            have hw532_1 := hx532_1
            have hw532_0 := hx532_0
            obtain rfl : ad529 = ad532 := (by injection e532)
            replace hx532_0 := cb_ HB.out hx532_0
            replace hx532_1 := cb_ HB.out hx532_1
            replace hx532_2 := cb_ HB.out hx532_2
            replace hx532_3 := cb_ HB.out hx532_3
            replace hx532_4 := cb_ HB.out hx532_4
            replace hx532_5 := cb_ HB.out hx532_5
            replace hx532_6 := cb_ HB.out hx532_6
            replace hx532_7 := cb_ HB.out hx532_7
            replace p532 := eq_true p532
            replace q532 := eq_true q532
            refine start_ (n := 20) (S := fun w' => q3_ w' gb530 ((rd_T38 l0 x10_1).f0.f0) ((rd_T38 l0 x10_1).f0.f1) ((rd_T38 l0 x10_1).f0.f2) ((rd_T38 l0 x10_1).f0.f3) ((rd_T38 l0 x10_1).f0.f4) ((rd_T38 l0 x10_1).f1) ((rd_T38 l0 x10_1).f2) ((rd_T38 l0 x10_1).f3) (q4e_ w' (ad529.add (((ji9)).toNat * 8)) ((rd_T38 l0 (ji9)).f0.f0) ((rd_T38 l0 (ji9)).f0.f1) ((rd_T38 l0 (ji9)).f0.f2) ((rd_T38 l0 (ji9)).f0.f3) ((rd_T38 l0 (ji9)).f0.f4) ((rd_T38 l0 (ji9)).f1) ((rd_T38 l0 (ji9)).f2) ((rd_T38 l0 (ji9)).f3))) (ds := []) M2_0 (by kernel_rfl) rfl rfl (k3_ BK530.out ⟨(cb_ HB.out hw532_0), (cb_ HB.out hw532_1), (cb_ HB.out hw532_2), (cb_ HB.out hw532_3), (cb_ HB.out hw532_4), (cb_ HB.out hw532_5), (cb_ HB.out hw532_6), (cb_ HB.out hw532_7)⟩) (fun hHeld => ?_); refine with_tabW impl_AreFinds.tab6 impl_AreFinds.bits6 (fun HT_ HW_ => ?_)
            generalize w15.drew = w16 at BK530 HB hx532_0 hx532_1 hx532_2 hx532_3 hx532_4 hx532_5 hx532_6 hx532_7 hHeld ⊢
            refine tk_ 0 (some 15) M2_1 HT_ HW_ hHeld ?_
            refine one_ (i := 1) (N := some 16) M2_2 rfl rfl (one_of HT_.out (by kernel_rfl)) (by decide) (fun K hK => ?_)
            refine goes_ Tryd.func27 (by kernel_rfl) rfl #[.agg #[.int .i64 ((rd_T38 l0 x10_1).f0.f0), .int .i64 ((rd_T38 l0 x10_1).f0.f1), .int .i64 ((rd_T38 l0 x10_1).f0.f2), .int .i64 ((rd_T38 l0 x10_1).f0.f3), .int .i64 ((rd_T38 l0 x10_1).f0.f4), .int .i64 ((rd_T38 l0 x10_1).f1), .int .i64 ((rd_T38 l0 x10_1).f2), .int .i64 ((rd_T38 l0 x10_1).f3)]] (by rfl) rfl rfl ma_ ?_
            with_reducible refine (impl_IsFind.calls ((rd_T38 l0 x10_1).f0.f0) ((rd_T38 l0 x10_1).f0.f1) ((rd_T38 l0 x10_1).f0.f2) ((rd_T38 l0 x10_1).f0.f3) ((rd_T38 l0 x10_1).f0.f4) ((rd_T38 l0 x10_1).f1) ((rd_T38 l0 x10_1).f2) ((rd_T38 l0 x10_1).f3) true _ A6.out).mono ?_
            rintro e w17 ⟨rfl, hb⟩
            refine ⟨_, rfl, ?_⟩
            have n0_ := Aside0.mk (blk_below (bd_ BK530.out) hb)
            have n1_ := Aside0.mk (below_step (y184_) hb)
            clear BK530
            clear HB
            have BK530 := n0_
            have HB := n1_
            clear n0_ n1_
            (try clear hb)
            (try clear hb2)
            (try clear hk)
            (try clear hi)
            refine hK.out _ _ (k3_ BK530.out ⟨(cb_ HB.out hw532_0), (cb_ HB.out hw532_1), (cb_ HB.out hw532_2), (cb_ HB.out hw532_3), (cb_ HB.out hw532_4), (cb_ HB.out hw532_5), (cb_ HB.out hw532_6), (cb_ HB.out hw532_7)⟩) (fun hHeld => ?_)
            clear hK K
            refine norm_ (a' := ?_) ?_ ?_
            rotate_left
            ·
             show Act.put _ (some 16) _ = _
             simp only [Act.put, P2_1, P2_2, P2_3, i64_w, i32_w]
             rfl
            refine pu_ 2 (some 17) M2_3 HT_ ?_
            refine pu_ 3 (some 18) M2_4 HT_ ?_
            refine pu_ 4 (some 19) M2_5 HT_ ?_
            refine pu_ 5 (some 20) M2_6 HT_ ?_
            refine pu_ 6 (some 21) M2_7 HT_ ?_
            refine pu_ 7 (some 22) M2_8 HT_ ?_
            refine pu_ 8 (some 23) M2_9 HT_ ?_
            refine pu_ 10 (some 25) M2_10 HT_ ?_
            refine pu_ 11 (some 26) M2_11 HT_ ?_
            refine pu_ 12 (some 27) M2_12 HT_ ?_
            refine pu_ 13 (some 28) M2_13 HT_ ?_
            refine pu_ 14 (some 29) M2_14 HT_ ?_
            refine pu_ 15 (some 30) M2_15 HT_ ?_
            refine tk_ 9 (some 24) M2_16 HT_ HW_ hHeld ?_
            refine tk_ 16 (some 31) M2_17 HT_ HW_ hHeld ?_
            refine pu_ 17 (some 32) M2_18 HT_ ?_
            refine pu_ 18 (some 33) M2_19 HT_ ?_
            refine pu_ 19 (some 34) M2_20 HT_ ?_
            refine done_ (done_of HT_.out (by kernel_rfl)) ?_
            try go_wp2
            go_ret
            exact ⟨by first | rfl | (simp [errW_none, errW_some] <;> rfl) | (simp only [← hji9]; first | rfl | (simp [errW_none, errW_some] <;> rfl)) | (simp [*, errW_none, errW_some] <;> rfl), y184_⟩
           ·
            rw [if_neg c12] at H
            have c12b0 : decide (((rd_T38 l0 x10_1).f0.f0) ≤ ((rd_T38 l0 (ji9)).f0.f0)) = false := decide_eq_false c12
            clear c12
            have H' := Aside0.mk H
            clear H
            have p529 : 0 ≤ (x10_1 : Int) := of_decide_eq_true as_
            have q529 : x10_1 < (l0.length : Int) := of_decide_eq_true as_
            obtain ⟨ad529, e529, hx529_0, hx529_1, hx529_2, hx529_3, hx529_4, hx529_5, hx529_6, hx529_7⟩ := at_T38 HR0.out x10_1 p529 q529
            cases e529
            replace hx529_0 := cb_ HB.out hx529_0
            replace hx529_1 := cb_ HB.out hx529_1
            replace hx529_2 := cb_ HB.out hx529_2
            replace hx529_3 := cb_ HB.out hx529_3
            replace hx529_4 := cb_ HB.out hx529_4
            replace hx529_5 := cb_ HB.out hx529_5
            replace hx529_6 := cb_ HB.out hx529_6
            replace hx529_7 := cb_ HB.out hx529_7
            replace p529 := eq_true p529
            replace q529 := eq_true q529
            try go_wp2_with (first | ((with_reducible refine gate_dst (N := 4) rfl ?_); refine bx_ 4 #[.int .i64 0, .int .i64 0, .int .i64 0, .int .i64 0, .int .i64 0, .int .i64 0, .int .i64 0, .int .i64 0] 38 ?_; intro gb530 hg w18 hbox hb; have n0_ := Aside0.mk (below_step (hd_ HB.out) hb); have BK530 := Aside0.mk (hbox); have GW530 := Aside0.mk ((y189_ : w.heap.size ≤ gb530)); have GE530 := GW530; clear HB; have HB := n0_; clear n0_; clear hb hbox hg; obtain ⟨hcz19_0, hcz19_1, hcz19_2, hcz19_3, hcz19_4, hcz19_5, hcz19_6, hcz19_7⟩ := e181_ BK530.out; obtain ⟨hfz19_0, hfz19_1, hfz19_2, hfz19_3, hfz19_4, hfz19_5, hfz19_6, hfz19_7⟩ := z182_ BK530.out))
            have n0_ : Aside0 (((((((((w18.setCell ⟨gb530, 0, none⟩ (.int .i64 ((rd_T38 l0 x10_1).f0.f0))).setCell ⟨gb530, 1, none⟩ (.int .i64 ((rd_T38 l0 x10_1).f0.f1))).setCell ⟨gb530, 2, none⟩ (.int .i64 ((rd_T38 l0 x10_1).f0.f2))).setCell ⟨gb530, 3, none⟩ (.int .i64 ((rd_T38 l0 x10_1).f0.f3))).setCell ⟨gb530, 4, none⟩ (.int .i64 ((rd_T38 l0 x10_1).f0.f4))).setCell ⟨gb530, 5, none⟩ (.int .i64 ((rd_T38 l0 x10_1).f1))).setCell ⟨gb530, 6, none⟩ (.int .i64 ((rd_T38 l0 x10_1).f2))).setCell ⟨gb530, 7, none⟩ (.int .i64 ((rd_T38 l0 x10_1).f3))).heap[gb530]? = some (.cells #[.int .i64 ((rd_T38 l0 x10_1).f0.f0), .int .i64 ((rd_T38 l0 x10_1).f0.f1), .int .i64 ((rd_T38 l0 x10_1).f0.f2), .int .i64 ((rd_T38 l0 x10_1).f0.f3), .int .i64 ((rd_T38 l0 x10_1).f0.f4), .int .i64 ((rd_T38 l0 x10_1).f1), .int .i64 ((rd_T38 l0 x10_1).f2), .int .i64 ((rd_T38 l0 x10_1).f3)] 38 (0, 0))) := ⟨by (with_reducible repeat (first | refine blk_drewN ?_ _ | refine blk_drew ?_ | refine blk_alloc ?_ _)); refine blk_put (cs := #[.int .i64 ((rd_T38 l0 x10_1).f0.f0), .int .i64 ((rd_T38 l0 x10_1).f0.f1), .int .i64 ((rd_T38 l0 x10_1).f0.f2), .int .i64 ((rd_T38 l0 x10_1).f0.f3), .int .i64 ((rd_T38 l0 x10_1).f0.f4), .int .i64 ((rd_T38 l0 x10_1).f1), .int .i64 ((rd_T38 l0 x10_1).f2), .int .i64 0]) ?_ 7 _ rfl; (with_reducible repeat (first | refine blk_drewN ?_ _ | refine blk_drew ?_ | refine blk_alloc ?_ _)); refine blk_put (cs := #[.int .i64 ((rd_T38 l0 x10_1).f0.f0), .int .i64 ((rd_T38 l0 x10_1).f0.f1), .int .i64 ((rd_T38 l0 x10_1).f0.f2), .int .i64 ((rd_T38 l0 x10_1).f0.f3), .int .i64 ((rd_T38 l0 x10_1).f0.f4), .int .i64 ((rd_T38 l0 x10_1).f1), .int .i64 0, .int .i64 0]) ?_ 6 _ rfl; (with_reducible repeat (first | refine blk_drewN ?_ _ | refine blk_drew ?_ | refine blk_alloc ?_ _)); refine blk_put (cs := #[.int .i64 ((rd_T38 l0 x10_1).f0.f0), .int .i64 ((rd_T38 l0 x10_1).f0.f1), .int .i64 ((rd_T38 l0 x10_1).f0.f2), .int .i64 ((rd_T38 l0 x10_1).f0.f3), .int .i64 ((rd_T38 l0 x10_1).f0.f4), .int .i64 0, .int .i64 0, .int .i64 0]) ?_ 5 _ rfl; (with_reducible repeat (first | refine blk_drewN ?_ _ | refine blk_drew ?_ | refine blk_alloc ?_ _)); refine blk_put (cs := #[.int .i64 ((rd_T38 l0 x10_1).f0.f0), .int .i64 ((rd_T38 l0 x10_1).f0.f1), .int .i64 ((rd_T38 l0 x10_1).f0.f2), .int .i64 ((rd_T38 l0 x10_1).f0.f3), .int .i64 0, .int .i64 0, .int .i64 0, .int .i64 0]) ?_ 4 _ rfl; (with_reducible repeat (first | refine blk_drewN ?_ _ | refine blk_drew ?_ | refine blk_alloc ?_ _)); refine blk_put (cs := #[.int .i64 ((rd_T38 l0 x10_1).f0.f0), .int .i64 ((rd_T38 l0 x10_1).f0.f1), .int .i64 ((rd_T38 l0 x10_1).f0.f2), .int .i64 0, .int .i64 0, .int .i64 0, .int .i64 0, .int .i64 0]) ?_ 3 _ rfl; (with_reducible repeat (first | refine blk_drewN ?_ _ | refine blk_drew ?_ | refine blk_alloc ?_ _)); refine blk_put (cs := #[.int .i64 ((rd_T38 l0 x10_1).f0.f0), .int .i64 ((rd_T38 l0 x10_1).f0.f1), .int .i64 0, .int .i64 0, .int .i64 0, .int .i64 0, .int .i64 0, .int .i64 0]) ?_ 2 _ rfl; (with_reducible repeat (first | refine blk_drewN ?_ _ | refine blk_drew ?_ | refine blk_alloc ?_ _)); refine blk_put (cs := #[.int .i64 ((rd_T38 l0 x10_1).f0.f0), .int .i64 0, .int .i64 0, .int .i64 0, .int .i64 0, .int .i64 0, .int .i64 0, .int .i64 0]) ?_ 1 _ rfl; (with_reducible repeat (first | refine blk_drewN ?_ _ | refine blk_drew ?_ | refine blk_alloc ?_ _)); refine blk_put (cs := #[.int .i64 0, .int .i64 0, .int .i64 0, .int .i64 0, .int .i64 0, .int .i64 0, .int .i64 0, .int .i64 0]) ?_ 0 _ rfl; (with_reducible repeat (first | refine blk_drewN ?_ _ | refine blk_drew ?_ | refine blk_alloc ?_ _)); exact BK530.out⟩
            have n1_ : Aside0 (Below w.heap.size w ((((((((w18.setCell ⟨gb530, 0, none⟩ (.int .i64 ((rd_T38 l0 x10_1).f0.f0))).setCell ⟨gb530, 1, none⟩ (.int .i64 ((rd_T38 l0 x10_1).f0.f1))).setCell ⟨gb530, 2, none⟩ (.int .i64 ((rd_T38 l0 x10_1).f0.f2))).setCell ⟨gb530, 3, none⟩ (.int .i64 ((rd_T38 l0 x10_1).f0.f3))).setCell ⟨gb530, 4, none⟩ (.int .i64 ((rd_T38 l0 x10_1).f0.f4))).setCell ⟨gb530, 5, none⟩ (.int .i64 ((rd_T38 l0 x10_1).f1))).setCell ⟨gb530, 6, none⟩ (.int .i64 ((rd_T38 l0 x10_1).f2))).setCell ⟨gb530, 7, none⟩ (.int .i64 ((rd_T38 l0 x10_1).f3)))) := ⟨y184_⟩
            (try clear BK530)
            (try clear HB)
            generalize ((((((((w18.setCell ⟨gb530, 0, none⟩ (.int .i64 ((rd_T38 l0 x10_1).f0.f0))).setCell ⟨gb530, 1, none⟩ (.int .i64 ((rd_T38 l0 x10_1).f0.f1))).setCell ⟨gb530, 2, none⟩ (.int .i64 ((rd_T38 l0 x10_1).f0.f2))).setCell ⟨gb530, 3, none⟩ (.int .i64 ((rd_T38 l0 x10_1).f0.f3))).setCell ⟨gb530, 4, none⟩ (.int .i64 ((rd_T38 l0 x10_1).f0.f4))).setCell ⟨gb530, 5, none⟩ (.int .i64 ((rd_T38 l0 x10_1).f1))).setCell ⟨gb530, 6, none⟩ (.int .i64 ((rd_T38 l0 x10_1).f2))).setCell ⟨gb530, 7, none⟩ (.int .i64 ((rd_T38 l0 x10_1).f3))) = w20 at n0_ n1_ ⊢
            have BK530 := n0_
            have HB := n1_
            clear n0_ n1_
            have n0_ := Aside0.mk (blk_drew BK530.out)
            have n1_ := Aside0.mk (below_drew1 HB.out)
            clear BK530
            clear HB
            have BK530 := n0_
            have HB := n1_
            clear n0_ n1_
            have p532 : 0 ≤ ((ji9) : Int) := of_decide_eq_true as_
            have q532 : (ji9) < (l0.length : Int) := of_decide_eq_true as_
            obtain ⟨ad532, e532, hx532_0, hx532_1, hx532_2, hx532_3, hx532_4, hx532_5, hx532_6, hx532_7⟩ := at_T38 HR0.out (ji9) p532 q532
            have hw532_7 := hx532_7
            have hw532_6 := hx532_6
            have hw532_5 := hx532_5
            have hw532_4 := hx532_4
            have hw532_3 := hx532_3
            have hw532_2 := hx532_2
            have hw532_1 := hx532_1
            have hw532_0 := hx532_0
            obtain rfl : ad529 = ad532 := (by injection e532)
            replace hx532_0 := cb_ HB.out hx532_0
            replace hx532_1 := cb_ HB.out hx532_1
            replace hx532_2 := cb_ HB.out hx532_2
            replace hx532_3 := cb_ HB.out hx532_3
            replace hx532_4 := cb_ HB.out hx532_4
            replace hx532_5 := cb_ HB.out hx532_5
            replace hx532_6 := cb_ HB.out hx532_6
            replace hx532_7 := cb_ HB.out hx532_7
            replace p532 := eq_true p532
            replace q532 := eq_true q532
            refine start_ (n := 20) (S := fun w' => q3_ w' gb530 ((rd_T38 l0 x10_1).f0.f0) ((rd_T38 l0 x10_1).f0.f1) ((rd_T38 l0 x10_1).f0.f2) ((rd_T38 l0 x10_1).f0.f3) ((rd_T38 l0 x10_1).f0.f4) ((rd_T38 l0 x10_1).f1) ((rd_T38 l0 x10_1).f2) ((rd_T38 l0 x10_1).f3) (q4e_ w' (ad529.add (((ji9)).toNat * 8)) ((rd_T38 l0 (ji9)).f0.f0) ((rd_T38 l0 (ji9)).f0.f1) ((rd_T38 l0 (ji9)).f0.f2) ((rd_T38 l0 (ji9)).f0.f3) ((rd_T38 l0 (ji9)).f0.f4) ((rd_T38 l0 (ji9)).f1) ((rd_T38 l0 (ji9)).f2) ((rd_T38 l0 (ji9)).f3))) (ds := []) M2_0 (by kernel_rfl) rfl rfl (k3_ BK530.out ⟨(cb_ HB.out hw532_0), (cb_ HB.out hw532_1), (cb_ HB.out hw532_2), (cb_ HB.out hw532_3), (cb_ HB.out hw532_4), (cb_ HB.out hw532_5), (cb_ HB.out hw532_6), (cb_ HB.out hw532_7)⟩) (fun hHeld => ?_); refine with_tabW impl_AreFinds.tab6 impl_AreFinds.bits6 (fun HT_ HW_ => ?_)
            generalize w20.drew = w21 at BK530 HB hx532_0 hx532_1 hx532_2 hx532_3 hx532_4 hx532_5 hx532_6 hx532_7 hHeld ⊢
            refine tk_ 0 (some 15) M2_1 HT_ HW_ hHeld ?_
            refine one_ (i := 1) (N := some 16) M2_2 rfl rfl (one_of HT_.out (by kernel_rfl)) (by decide) (fun K hK => ?_)
            refine goes_ Tryd.func27 (by kernel_rfl) rfl #[.agg #[.int .i64 ((rd_T38 l0 x10_1).f0.f0), .int .i64 ((rd_T38 l0 x10_1).f0.f1), .int .i64 ((rd_T38 l0 x10_1).f0.f2), .int .i64 ((rd_T38 l0 x10_1).f0.f3), .int .i64 ((rd_T38 l0 x10_1).f0.f4), .int .i64 ((rd_T38 l0 x10_1).f1), .int .i64 ((rd_T38 l0 x10_1).f2), .int .i64 ((rd_T38 l0 x10_1).f3)]] (by rfl) rfl rfl ma_ ?_
            with_reducible refine (impl_IsFind.calls ((rd_T38 l0 x10_1).f0.f0) ((rd_T38 l0 x10_1).f0.f1) ((rd_T38 l0 x10_1).f0.f2) ((rd_T38 l0 x10_1).f0.f3) ((rd_T38 l0 x10_1).f0.f4) ((rd_T38 l0 x10_1).f1) ((rd_T38 l0 x10_1).f2) ((rd_T38 l0 x10_1).f3) true _ A6.out).mono ?_
            rintro e w22 ⟨rfl, hb⟩
            refine ⟨_, rfl, ?_⟩
            have n0_ := Aside0.mk (blk_below (bd_ BK530.out) hb)
            have n1_ := Aside0.mk (below_step (y184_) hb)
            clear BK530
            clear HB
            have BK530 := n0_
            have HB := n1_
            clear n0_ n1_
            (try clear hb)
            (try clear hb2)
            (try clear hk)
            (try clear hi)
            refine hK.out _ _ (k3_ BK530.out ⟨(cb_ HB.out hw532_0), (cb_ HB.out hw532_1), (cb_ HB.out hw532_2), (cb_ HB.out hw532_3), (cb_ HB.out hw532_4), (cb_ HB.out hw532_5), (cb_ HB.out hw532_6), (cb_ HB.out hw532_7)⟩) (fun hHeld => ?_)
            clear hK K
            refine norm_ (a' := ?_) ?_ ?_
            rotate_left
            ·
             show Act.put _ (some 16) _ = _
             simp only [Act.put, P2_1, P2_2, P2_3, i64_w, i32_w]
             rfl
            refine pu_ 2 (some 17) M2_3 HT_ ?_
            refine pu_ 3 (some 18) M2_4 HT_ ?_
            refine pu_ 4 (some 19) M2_5 HT_ ?_
            refine pu_ 5 (some 20) M2_6 HT_ ?_
            refine pu_ 6 (some 21) M2_7 HT_ ?_
            refine pu_ 7 (some 22) M2_8 HT_ ?_
            refine pu_ 8 (some 23) M2_9 HT_ ?_
            refine pu_ 10 (some 25) M2_10 HT_ ?_
            refine pu_ 11 (some 26) M2_11 HT_ ?_
            refine pu_ 12 (some 27) M2_12 HT_ ?_
            refine pu_ 13 (some 28) M2_13 HT_ ?_
            refine pu_ 14 (some 29) M2_14 HT_ ?_
            refine pu_ 15 (some 30) M2_15 HT_ ?_
            refine tk_ 9 (some 24) M2_16 HT_ HW_ hHeld ?_
            refine tk_ 16 (some 31) M2_17 HT_ HW_ hHeld ?_
            refine pu_ 17 (some 32) M2_18 HT_ ?_
            refine pu_ 18 (some 33) M2_19 HT_ ?_
            refine pu_ 19 (some 34) M2_20 HT_ ?_
            refine done_ (done_of HT_.out (by kernel_rfl)) ?_
            try go_wp2
            go_roundg k1
            case measure => have := HK1.out; omega
            case rel => exact ⟨(wrap64 (x10_1 + 1)), rs_, H', ⟨by have := HK1.out; omega⟩, ⟨y184_⟩⟩
          ·
           rw [if_neg c11] at H
           exact absurd H (by simp)
         ·
          rw [if_neg c10] at H
          exact absurd H (by simp)
        ·
         rw [if_neg c8] at H
         have c8b0 : decide (0 < x10_1) = false := decide_eq_false c8
         clear c8
         have H' := Aside0.mk H
         clear H
         have p529 : 0 ≤ (x10_1 : Int) := of_decide_eq_true as_
         have q529 : x10_1 < (l0.length : Int) := of_decide_eq_true as_
         obtain ⟨ad529, e529, hx529_0, hx529_1, hx529_2, hx529_3, hx529_4, hx529_5, hx529_6, hx529_7⟩ := at_T38 HR0.out x10_1 p529 q529
         cases e529
         replace hx529_0 := cb_ HB.out hx529_0
         replace hx529_1 := cb_ HB.out hx529_1
         replace hx529_2 := cb_ HB.out hx529_2
         replace hx529_3 := cb_ HB.out hx529_3
         replace hx529_4 := cb_ HB.out hx529_4
         replace hx529_5 := cb_ HB.out hx529_5
         replace hx529_6 := cb_ HB.out hx529_6
         replace hx529_7 := cb_ HB.out hx529_7
         replace p529 := eq_true p529
         replace q529 := eq_true q529
         try go_wp2_with (first | ((with_reducible refine gate_dst (N := 4) rfl ?_); refine bx_ 4 #[.int .i64 0, .int .i64 0, .int .i64 0, .int .i64 0, .int .i64 0, .int .i64 0, .int .i64 0, .int .i64 0] 38 ?_; intro gb530 hg w23 hbox hb; have n0_ := Aside0.mk (below_step (hd_ HB.out) hb); have BK530 := Aside0.mk (hbox); have GW530 := Aside0.mk ((y189_ : w.heap.size ≤ gb530)); have GE530 := GW530; clear HB; have HB := n0_; clear n0_; clear hb hbox hg; obtain ⟨hcz24_0, hcz24_1, hcz24_2, hcz24_3, hcz24_4, hcz24_5, hcz24_6, hcz24_7⟩ := e181_ BK530.out; obtain ⟨hfz24_0, hfz24_1, hfz24_2, hfz24_3, hfz24_4, hfz24_5, hfz24_6, hfz24_7⟩ := z182_ BK530.out))
         have n0_ : Aside0 (((((((((w23.setCell ⟨gb530, 0, none⟩ (.int .i64 ((rd_T38 l0 x10_1).f0.f0))).setCell ⟨gb530, 1, none⟩ (.int .i64 ((rd_T38 l0 x10_1).f0.f1))).setCell ⟨gb530, 2, none⟩ (.int .i64 ((rd_T38 l0 x10_1).f0.f2))).setCell ⟨gb530, 3, none⟩ (.int .i64 ((rd_T38 l0 x10_1).f0.f3))).setCell ⟨gb530, 4, none⟩ (.int .i64 ((rd_T38 l0 x10_1).f0.f4))).setCell ⟨gb530, 5, none⟩ (.int .i64 ((rd_T38 l0 x10_1).f1))).setCell ⟨gb530, 6, none⟩ (.int .i64 ((rd_T38 l0 x10_1).f2))).setCell ⟨gb530, 7, none⟩ (.int .i64 ((rd_T38 l0 x10_1).f3))).heap[gb530]? = some (.cells #[.int .i64 ((rd_T38 l0 x10_1).f0.f0), .int .i64 ((rd_T38 l0 x10_1).f0.f1), .int .i64 ((rd_T38 l0 x10_1).f0.f2), .int .i64 ((rd_T38 l0 x10_1).f0.f3), .int .i64 ((rd_T38 l0 x10_1).f0.f4), .int .i64 ((rd_T38 l0 x10_1).f1), .int .i64 ((rd_T38 l0 x10_1).f2), .int .i64 ((rd_T38 l0 x10_1).f3)] 38 (0, 0))) := ⟨by (with_reducible repeat (first | refine blk_drewN ?_ _ | refine blk_drew ?_ | refine blk_alloc ?_ _)); refine blk_put (cs := #[.int .i64 ((rd_T38 l0 x10_1).f0.f0), .int .i64 ((rd_T38 l0 x10_1).f0.f1), .int .i64 ((rd_T38 l0 x10_1).f0.f2), .int .i64 ((rd_T38 l0 x10_1).f0.f3), .int .i64 ((rd_T38 l0 x10_1).f0.f4), .int .i64 ((rd_T38 l0 x10_1).f1), .int .i64 ((rd_T38 l0 x10_1).f2), .int .i64 0]) ?_ 7 _ rfl; (with_reducible repeat (first | refine blk_drewN ?_ _ | refine blk_drew ?_ | refine blk_alloc ?_ _)); refine blk_put (cs := #[.int .i64 ((rd_T38 l0 x10_1).f0.f0), .int .i64 ((rd_T38 l0 x10_1).f0.f1), .int .i64 ((rd_T38 l0 x10_1).f0.f2), .int .i64 ((rd_T38 l0 x10_1).f0.f3), .int .i64 ((rd_T38 l0 x10_1).f0.f4), .int .i64 ((rd_T38 l0 x10_1).f1), .int .i64 0, .int .i64 0]) ?_ 6 _ rfl; (with_reducible repeat (first | refine blk_drewN ?_ _ | refine blk_drew ?_ | refine blk_alloc ?_ _)); refine blk_put (cs := #[.int .i64 ((rd_T38 l0 x10_1).f0.f0), .int .i64 ((rd_T38 l0 x10_1).f0.f1), .int .i64 ((rd_T38 l0 x10_1).f0.f2), .int .i64 ((rd_T38 l0 x10_1).f0.f3), .int .i64 ((rd_T38 l0 x10_1).f0.f4), .int .i64 0, .int .i64 0, .int .i64 0]) ?_ 5 _ rfl; (with_reducible repeat (first | refine blk_drewN ?_ _ | refine blk_drew ?_ | refine blk_alloc ?_ _)); refine blk_put (cs := #[.int .i64 ((rd_T38 l0 x10_1).f0.f0), .int .i64 ((rd_T38 l0 x10_1).f0.f1), .int .i64 ((rd_T38 l0 x10_1).f0.f2), .int .i64 ((rd_T38 l0 x10_1).f0.f3), .int .i64 0, .int .i64 0, .int .i64 0, .int .i64 0]) ?_ 4 _ rfl; (with_reducible repeat (first | refine blk_drewN ?_ _ | refine blk_drew ?_ | refine blk_alloc ?_ _)); refine blk_put (cs := #[.int .i64 ((rd_T38 l0 x10_1).f0.f0), .int .i64 ((rd_T38 l0 x10_1).f0.f1), .int .i64 ((rd_T38 l0 x10_1).f0.f2), .int .i64 0, .int .i64 0, .int .i64 0, .int .i64 0, .int .i64 0]) ?_ 3 _ rfl; (with_reducible repeat (first | refine blk_drewN ?_ _ | refine blk_drew ?_ | refine blk_alloc ?_ _)); refine blk_put (cs := #[.int .i64 ((rd_T38 l0 x10_1).f0.f0), .int .i64 ((rd_T38 l0 x10_1).f0.f1), .int .i64 0, .int .i64 0, .int .i64 0, .int .i64 0, .int .i64 0, .int .i64 0]) ?_ 2 _ rfl; (with_reducible repeat (first | refine blk_drewN ?_ _ | refine blk_drew ?_ | refine blk_alloc ?_ _)); refine blk_put (cs := #[.int .i64 ((rd_T38 l0 x10_1).f0.f0), .int .i64 0, .int .i64 0, .int .i64 0, .int .i64 0, .int .i64 0, .int .i64 0, .int .i64 0]) ?_ 1 _ rfl; (with_reducible repeat (first | refine blk_drewN ?_ _ | refine blk_drew ?_ | refine blk_alloc ?_ _)); refine blk_put (cs := #[.int .i64 0, .int .i64 0, .int .i64 0, .int .i64 0, .int .i64 0, .int .i64 0, .int .i64 0, .int .i64 0]) ?_ 0 _ rfl; (with_reducible repeat (first | refine blk_drewN ?_ _ | refine blk_drew ?_ | refine blk_alloc ?_ _)); exact BK530.out⟩
         have n1_ : Aside0 (Below w.heap.size w ((((((((w23.setCell ⟨gb530, 0, none⟩ (.int .i64 ((rd_T38 l0 x10_1).f0.f0))).setCell ⟨gb530, 1, none⟩ (.int .i64 ((rd_T38 l0 x10_1).f0.f1))).setCell ⟨gb530, 2, none⟩ (.int .i64 ((rd_T38 l0 x10_1).f0.f2))).setCell ⟨gb530, 3, none⟩ (.int .i64 ((rd_T38 l0 x10_1).f0.f3))).setCell ⟨gb530, 4, none⟩ (.int .i64 ((rd_T38 l0 x10_1).f0.f4))).setCell ⟨gb530, 5, none⟩ (.int .i64 ((rd_T38 l0 x10_1).f1))).setCell ⟨gb530, 6, none⟩ (.int .i64 ((rd_T38 l0 x10_1).f2))).setCell ⟨gb530, 7, none⟩ (.int .i64 ((rd_T38 l0 x10_1).f3)))) := ⟨y184_⟩
         (try clear BK530)
         (try clear HB)
         generalize ((((((((w23.setCell ⟨gb530, 0, none⟩ (.int .i64 ((rd_T38 l0 x10_1).f0.f0))).setCell ⟨gb530, 1, none⟩ (.int .i64 ((rd_T38 l0 x10_1).f0.f1))).setCell ⟨gb530, 2, none⟩ (.int .i64 ((rd_T38 l0 x10_1).f0.f2))).setCell ⟨gb530, 3, none⟩ (.int .i64 ((rd_T38 l0 x10_1).f0.f3))).setCell ⟨gb530, 4, none⟩ (.int .i64 ((rd_T38 l0 x10_1).f0.f4))).setCell ⟨gb530, 5, none⟩ (.int .i64 ((rd_T38 l0 x10_1).f1))).setCell ⟨gb530, 6, none⟩ (.int .i64 ((rd_T38 l0 x10_1).f2))).setCell ⟨gb530, 7, none⟩ (.int .i64 ((rd_T38 l0 x10_1).f3))) = w25 at n0_ n1_ ⊢
         have BK530 := n0_
         have HB := n1_
         clear n0_ n1_
         have n0_ := Aside0.mk (blk_drew BK530.out)
         have n1_ := Aside0.mk (below_drew1 HB.out)
         clear BK530
         clear HB
         have BK530 := n0_
         have HB := n1_
         clear n0_ n1_
         refine start_ (n := 20) (S := fun w' => q3e_ w' gb530 ((rd_T38 l0 x10_1).f0.f0) ((rd_T38 l0 x10_1).f0.f1) ((rd_T38 l0 x10_1).f0.f2) ((rd_T38 l0 x10_1).f0.f3) ((rd_T38 l0 x10_1).f0.f4) ((rd_T38 l0 x10_1).f1) ((rd_T38 l0 x10_1).f2) ((rd_T38 l0 x10_1).f3)) (ds := []) M2_0 (by kernel_rfl) rfl rfl (k3e_ BK530.out) (fun hHeld => ?_); refine with_tabW impl_AreFinds.tab6 impl_AreFinds.bits6 (fun HT_ HW_ => ?_)
         generalize w25.drew = w26 at BK530 HB hHeld ⊢
         refine tk_ 0 (some 15) M2_1 HT_ HW_ hHeld ?_
         refine one_ (i := 1) (N := some 16) M2_2 rfl rfl (one_of HT_.out (by kernel_rfl)) (by decide) (fun K hK => ?_)
         refine goes_ Tryd.func27 (by kernel_rfl) rfl #[.agg #[.int .i64 ((rd_T38 l0 x10_1).f0.f0), .int .i64 ((rd_T38 l0 x10_1).f0.f1), .int .i64 ((rd_T38 l0 x10_1).f0.f2), .int .i64 ((rd_T38 l0 x10_1).f0.f3), .int .i64 ((rd_T38 l0 x10_1).f0.f4), .int .i64 ((rd_T38 l0 x10_1).f1), .int .i64 ((rd_T38 l0 x10_1).f2), .int .i64 ((rd_T38 l0 x10_1).f3)]] (by rfl) rfl rfl ma_ ?_
         with_reducible refine (impl_IsFind.calls ((rd_T38 l0 x10_1).f0.f0) ((rd_T38 l0 x10_1).f0.f1) ((rd_T38 l0 x10_1).f0.f2) ((rd_T38 l0 x10_1).f0.f3) ((rd_T38 l0 x10_1).f0.f4) ((rd_T38 l0 x10_1).f1) ((rd_T38 l0 x10_1).f2) ((rd_T38 l0 x10_1).f3) true _ A6.out).mono ?_
         rintro e w27 ⟨rfl, hb⟩
         refine ⟨_, rfl, ?_⟩
         have n0_ := Aside0.mk (blk_below (bd_ BK530.out) hb)
         have n1_ := Aside0.mk (below_step (y184_) hb)
         clear BK530
         clear HB
         have BK530 := n0_
         have HB := n1_
         clear n0_ n1_
         (try clear hb)
         (try clear hb2)
         (try clear hk)
         (try clear hi)
         refine hK.out _ _ (k3e_ BK530.out) (fun hHeld => ?_)
         clear hK K
         refine norm_ (a' := ?_) ?_ ?_
         rotate_left
         ·
          show Act.put _ (some 16) _ = _
          simp only [Act.put, P2_1, P2_2, P2_3, i64_w, i32_w]
          rfl
         refine pu_ 2 (some 17) M2_3 HT_ ?_
         refine pu_ 3 (some 18) M2_4 HT_ ?_
         refine pu_ 4 (some 19) M2_5 HT_ ?_
         refine pu_ 5 (some 20) M2_6 HT_ ?_
         refine pu_ 6 (some 21) M2_7 HT_ ?_
         refine pn_ 7 (some 22) M2_8 HT_ ?_
         refine pn_ 8 (some 23) M2_9 HT_ ?_
         refine pn_ 9 (some 24) M2_21 HT_ ?_
         refine pn_ 10 (some 25) M2_22 HT_ ?_
         refine pn_ 11 (some 26) M2_23 HT_ ?_
         refine pn_ 12 (some 27) M2_24 HT_ ?_
         refine pn_ 13 (some 28) M2_25 HT_ ?_
         refine pn_ 14 (some 29) M2_26 HT_ ?_
         refine pn_ 15 (some 30) M2_16 HT_ ?_
         refine pn_ 16 (some 31) M2_17 HT_ ?_
         refine pn_ 17 (some 32) M2_18 HT_ ?_
         refine pu_ 18 (some 33) M2_19 HT_ ?_
         refine pu_ 19 (some 34) M2_20 HT_ ?_
         refine done_ (done_of HT_.out (by kernel_rfl)) ?_
         try go_wp2
         go_roundg k1
         case measure => have := HK1.out; omega
         case rel => exact ⟨(wrap64 (x10_1 + 1)), rs_, H', ⟨by have := HK1.out; omega⟩, ⟨y184_⟩⟩
       ·
        replace c7 := Bool.eq_false_iff.mpr c7
        subst c7
        have H1 : (some false) = some r := by rw [if_neg (show ¬ (false = true) by decide)] at H; exact H
        clear H
        have H := H1
        clear H1
        obtain rfl := Option.some.inj H
        have p529 : 0 ≤ (x10_1 : Int) := of_decide_eq_true as_
        have q529 : x10_1 < (l0.length : Int) := of_decide_eq_true as_
        obtain ⟨ad529, e529, hx529_0, hx529_1, hx529_2, hx529_3, hx529_4, hx529_5, hx529_6, hx529_7⟩ := at_T38 HR0.out x10_1 p529 q529
        cases e529
        replace hx529_0 := cb_ HB.out hx529_0
        replace hx529_1 := cb_ HB.out hx529_1
        replace hx529_2 := cb_ HB.out hx529_2
        replace hx529_3 := cb_ HB.out hx529_3
        replace hx529_4 := cb_ HB.out hx529_4
        replace hx529_5 := cb_ HB.out hx529_5
        replace hx529_6 := cb_ HB.out hx529_6
        replace hx529_7 := cb_ HB.out hx529_7
        replace p529 := eq_true p529
        replace q529 := eq_true q529
        try go_wp2_with (first | ((with_reducible refine gate_dst (N := 4) rfl ?_); refine bx_ 4 #[.int .i64 0, .int .i64 0, .int .i64 0, .int .i64 0, .int .i64 0, .int .i64 0, .int .i64 0, .int .i64 0] 38 ?_; intro gb530 hg w28 hbox hb; have n0_ := Aside0.mk (below_step (hd_ HB.out) hb); have BK530 := Aside0.mk (hbox); have GW530 := Aside0.mk ((y189_ : w.heap.size ≤ gb530)); have GE530 := GW530; clear HB; have HB := n0_; clear n0_; clear hb hbox hg; obtain ⟨hcz29_0, hcz29_1, hcz29_2, hcz29_3, hcz29_4, hcz29_5, hcz29_6, hcz29_7⟩ := e181_ BK530.out; obtain ⟨hfz29_0, hfz29_1, hfz29_2, hfz29_3, hfz29_4, hfz29_5, hfz29_6, hfz29_7⟩ := z182_ BK530.out))
        have n0_ : Aside0 (((((((((w28.setCell ⟨gb530, 0, none⟩ (.int .i64 ((rd_T38 l0 x10_1).f0.f0))).setCell ⟨gb530, 1, none⟩ (.int .i64 ((rd_T38 l0 x10_1).f0.f1))).setCell ⟨gb530, 2, none⟩ (.int .i64 ((rd_T38 l0 x10_1).f0.f2))).setCell ⟨gb530, 3, none⟩ (.int .i64 ((rd_T38 l0 x10_1).f0.f3))).setCell ⟨gb530, 4, none⟩ (.int .i64 ((rd_T38 l0 x10_1).f0.f4))).setCell ⟨gb530, 5, none⟩ (.int .i64 ((rd_T38 l0 x10_1).f1))).setCell ⟨gb530, 6, none⟩ (.int .i64 ((rd_T38 l0 x10_1).f2))).setCell ⟨gb530, 7, none⟩ (.int .i64 ((rd_T38 l0 x10_1).f3))).heap[gb530]? = some (.cells #[.int .i64 ((rd_T38 l0 x10_1).f0.f0), .int .i64 ((rd_T38 l0 x10_1).f0.f1), .int .i64 ((rd_T38 l0 x10_1).f0.f2), .int .i64 ((rd_T38 l0 x10_1).f0.f3), .int .i64 ((rd_T38 l0 x10_1).f0.f4), .int .i64 ((rd_T38 l0 x10_1).f1), .int .i64 ((rd_T38 l0 x10_1).f2), .int .i64 ((rd_T38 l0 x10_1).f3)] 38 (0, 0))) := ⟨by (with_reducible repeat (first | refine blk_drewN ?_ _ | refine blk_drew ?_ | refine blk_alloc ?_ _)); refine blk_put (cs := #[.int .i64 ((rd_T38 l0 x10_1).f0.f0), .int .i64 ((rd_T38 l0 x10_1).f0.f1), .int .i64 ((rd_T38 l0 x10_1).f0.f2), .int .i64 ((rd_T38 l0 x10_1).f0.f3), .int .i64 ((rd_T38 l0 x10_1).f0.f4), .int .i64 ((rd_T38 l0 x10_1).f1), .int .i64 ((rd_T38 l0 x10_1).f2), .int .i64 0]) ?_ 7 _ rfl; (with_reducible repeat (first | refine blk_drewN ?_ _ | refine blk_drew ?_ | refine blk_alloc ?_ _)); refine blk_put (cs := #[.int .i64 ((rd_T38 l0 x10_1).f0.f0), .int .i64 ((rd_T38 l0 x10_1).f0.f1), .int .i64 ((rd_T38 l0 x10_1).f0.f2), .int .i64 ((rd_T38 l0 x10_1).f0.f3), .int .i64 ((rd_T38 l0 x10_1).f0.f4), .int .i64 ((rd_T38 l0 x10_1).f1), .int .i64 0, .int .i64 0]) ?_ 6 _ rfl; (with_reducible repeat (first | refine blk_drewN ?_ _ | refine blk_drew ?_ | refine blk_alloc ?_ _)); refine blk_put (cs := #[.int .i64 ((rd_T38 l0 x10_1).f0.f0), .int .i64 ((rd_T38 l0 x10_1).f0.f1), .int .i64 ((rd_T38 l0 x10_1).f0.f2), .int .i64 ((rd_T38 l0 x10_1).f0.f3), .int .i64 ((rd_T38 l0 x10_1).f0.f4), .int .i64 0, .int .i64 0, .int .i64 0]) ?_ 5 _ rfl; (with_reducible repeat (first | refine blk_drewN ?_ _ | refine blk_drew ?_ | refine blk_alloc ?_ _)); refine blk_put (cs := #[.int .i64 ((rd_T38 l0 x10_1).f0.f0), .int .i64 ((rd_T38 l0 x10_1).f0.f1), .int .i64 ((rd_T38 l0 x10_1).f0.f2), .int .i64 ((rd_T38 l0 x10_1).f0.f3), .int .i64 0, .int .i64 0, .int .i64 0, .int .i64 0]) ?_ 4 _ rfl; (with_reducible repeat (first | refine blk_drewN ?_ _ | refine blk_drew ?_ | refine blk_alloc ?_ _)); refine blk_put (cs := #[.int .i64 ((rd_T38 l0 x10_1).f0.f0), .int .i64 ((rd_T38 l0 x10_1).f0.f1), .int .i64 ((rd_T38 l0 x10_1).f0.f2), .int .i64 0, .int .i64 0, .int .i64 0, .int .i64 0, .int .i64 0]) ?_ 3 _ rfl; (with_reducible repeat (first | refine blk_drewN ?_ _ | refine blk_drew ?_ | refine blk_alloc ?_ _)); refine blk_put (cs := #[.int .i64 ((rd_T38 l0 x10_1).f0.f0), .int .i64 ((rd_T38 l0 x10_1).f0.f1), .int .i64 0, .int .i64 0, .int .i64 0, .int .i64 0, .int .i64 0, .int .i64 0]) ?_ 2 _ rfl; (with_reducible repeat (first | refine blk_drewN ?_ _ | refine blk_drew ?_ | refine blk_alloc ?_ _)); refine blk_put (cs := #[.int .i64 ((rd_T38 l0 x10_1).f0.f0), .int .i64 0, .int .i64 0, .int .i64 0, .int .i64 0, .int .i64 0, .int .i64 0, .int .i64 0]) ?_ 1 _ rfl; (with_reducible repeat (first | refine blk_drewN ?_ _ | refine blk_drew ?_ | refine blk_alloc ?_ _)); refine blk_put (cs := #[.int .i64 0, .int .i64 0, .int .i64 0, .int .i64 0, .int .i64 0, .int .i64 0, .int .i64 0, .int .i64 0]) ?_ 0 _ rfl; (with_reducible repeat (first | refine blk_drewN ?_ _ | refine blk_drew ?_ | refine blk_alloc ?_ _)); exact BK530.out⟩
        have n1_ : Aside0 (Below w.heap.size w ((((((((w28.setCell ⟨gb530, 0, none⟩ (.int .i64 ((rd_T38 l0 x10_1).f0.f0))).setCell ⟨gb530, 1, none⟩ (.int .i64 ((rd_T38 l0 x10_1).f0.f1))).setCell ⟨gb530, 2, none⟩ (.int .i64 ((rd_T38 l0 x10_1).f0.f2))).setCell ⟨gb530, 3, none⟩ (.int .i64 ((rd_T38 l0 x10_1).f0.f3))).setCell ⟨gb530, 4, none⟩ (.int .i64 ((rd_T38 l0 x10_1).f0.f4))).setCell ⟨gb530, 5, none⟩ (.int .i64 ((rd_T38 l0 x10_1).f1))).setCell ⟨gb530, 6, none⟩ (.int .i64 ((rd_T38 l0 x10_1).f2))).setCell ⟨gb530, 7, none⟩ (.int .i64 ((rd_T38 l0 x10_1).f3)))) := ⟨y184_⟩
        (try clear BK530)
        (try clear HB)
        generalize ((((((((w28.setCell ⟨gb530, 0, none⟩ (.int .i64 ((rd_T38 l0 x10_1).f0.f0))).setCell ⟨gb530, 1, none⟩ (.int .i64 ((rd_T38 l0 x10_1).f0.f1))).setCell ⟨gb530, 2, none⟩ (.int .i64 ((rd_T38 l0 x10_1).f0.f2))).setCell ⟨gb530, 3, none⟩ (.int .i64 ((rd_T38 l0 x10_1).f0.f3))).setCell ⟨gb530, 4, none⟩ (.int .i64 ((rd_T38 l0 x10_1).f0.f4))).setCell ⟨gb530, 5, none⟩ (.int .i64 ((rd_T38 l0 x10_1).f1))).setCell ⟨gb530, 6, none⟩ (.int .i64 ((rd_T38 l0 x10_1).f2))).setCell ⟨gb530, 7, none⟩ (.int .i64 ((rd_T38 l0 x10_1).f3))) = w30 at n0_ n1_ ⊢
        have BK530 := n0_
        have HB := n1_
        clear n0_ n1_
        have n0_ := Aside0.mk (blk_drew BK530.out)
        have n1_ := Aside0.mk (below_drew1 HB.out)
        clear BK530
        clear HB
        have BK530 := n0_
        have HB := n1_
        clear n0_ n1_
        refine start_ (n := 20) (S := fun w' => q3e_ w' gb530 ((rd_T38 l0 x10_1).f0.f0) ((rd_T38 l0 x10_1).f0.f1) ((rd_T38 l0 x10_1).f0.f2) ((rd_T38 l0 x10_1).f0.f3) ((rd_T38 l0 x10_1).f0.f4) ((rd_T38 l0 x10_1).f1) ((rd_T38 l0 x10_1).f2) ((rd_T38 l0 x10_1).f3)) (ds := []) M2_0 (by kernel_rfl) rfl rfl (k3e_ BK530.out) (fun hHeld => ?_); refine with_tabW impl_AreFinds.tab6 impl_AreFinds.bits6 (fun HT_ HW_ => ?_)
        generalize w30.drew = w31 at BK530 HB hHeld ⊢
        refine tk_ 0 (some 15) M2_1 HT_ HW_ hHeld ?_
        refine one_ (i := 1) (N := some 16) M2_2 rfl rfl (one_of HT_.out (by kernel_rfl)) (by decide) (fun K hK => ?_)
        refine goes_ Tryd.func27 (by kernel_rfl) rfl #[.agg #[.int .i64 ((rd_T38 l0 x10_1).f0.f0), .int .i64 ((rd_T38 l0 x10_1).f0.f1), .int .i64 ((rd_T38 l0 x10_1).f0.f2), .int .i64 ((rd_T38 l0 x10_1).f0.f3), .int .i64 ((rd_T38 l0 x10_1).f0.f4), .int .i64 ((rd_T38 l0 x10_1).f1), .int .i64 ((rd_T38 l0 x10_1).f2), .int .i64 ((rd_T38 l0 x10_1).f3)]] (by rfl) rfl rfl ma_ ?_
        with_reducible refine (impl_IsFind.calls ((rd_T38 l0 x10_1).f0.f0) ((rd_T38 l0 x10_1).f0.f1) ((rd_T38 l0 x10_1).f0.f2) ((rd_T38 l0 x10_1).f0.f3) ((rd_T38 l0 x10_1).f0.f4) ((rd_T38 l0 x10_1).f1) ((rd_T38 l0 x10_1).f2) ((rd_T38 l0 x10_1).f3) false _ A6.out).mono ?_
        rintro e w32 ⟨rfl, hb⟩
        refine ⟨_, rfl, ?_⟩
        have n0_ := Aside0.mk (blk_below (bd_ BK530.out) hb)
        have n1_ := Aside0.mk (below_step (y184_) hb)
        clear BK530
        clear HB
        have BK530 := n0_
        have HB := n1_
        clear n0_ n1_
        (try clear hb)
        (try clear hb2)
        (try clear hk)
        (try clear hi)
        refine hK.out _ _ (k3e_ BK530.out) (fun hHeld => ?_)
        clear hK K
        refine norm_ (a' := ?_) ?_ ?_
        rotate_left
        ·
         show Act.put _ (some 16) _ = _
         simp only [Act.put, P2_1, P2_2, P2_3, i64_w, i32_w]
         rfl
        refine pu_ 2 (some 17) M2_3 HT_ ?_
        refine pu_ 3 (some 18) M2_4 HT_ ?_
        refine pn_ 4 (some 19) M2_5 HT_ ?_
        refine pn_ 5 (some 20) M2_6 HT_ ?_
        refine pn_ 6 (some 21) M2_7 HT_ ?_
        refine pn_ 7 (some 22) M2_8 HT_ ?_
        refine pn_ 8 (some 23) M2_9 HT_ ?_
        refine pn_ 9 (some 24) M2_21 HT_ ?_
        refine pn_ 10 (some 25) M2_22 HT_ ?_
        refine pn_ 11 (some 26) M2_23 HT_ ?_
        refine pn_ 12 (some 27) M2_24 HT_ ?_
        refine pn_ 13 (some 28) M2_25 HT_ ?_
        refine pn_ 14 (some 29) M2_26 HT_ ?_
        refine pn_ 15 (some 30) M2_16 HT_ ?_
        refine pn_ 16 (some 31) M2_17 HT_ ?_
        refine pn_ 17 (some 32) M2_18 HT_ ?_
        refine pn_ 18 (some 33) M2_19 HT_ ?_
        refine pu_ 19 (some 34) M2_20 HT_ ?_
        refine done_ (done_of HT_.out (by kernel_rfl)) ?_
        try go_wp2
        go_ret
        exact ⟨rt_, y184_⟩
      ·
       rw [if_neg c5] at H
       exact absurd H (by simp)
     ·
      rw [if_neg c4] at H
      exact absurd H (by simp)
    ·
     rw [if_neg c3] at H
     have c3b0 : decide (x10_1 < (l0.length : Int)) = false := decide_eq_false c3
     clear c3
     obtain rfl := Option.some.inj H
     go_wp2
     go_ret
     exact ⟨rt_, hd_ HB.out⟩

end Go.Proofs.YtnlgilmbmoiniaaDoor.PFnTasks
