-- Written for this claim by a program (a printer turned to this claim); Lean checks it.
import Derived.Test.YtnlgilmbmoiniaaDoorPFnTasksx0
import Derived.Test.YtnlgilmbmoiniaaDoorPFnTasksx3
namespace Go.Proofs.YtnlgilmbmoiniaaDoor.PFnTasks
open Go.RowKit Go.Proofs.YtnlgilmbmoiniaaDoorW.PrintWords Go.Proofs.YtnlgilmbmoiniaaDoorW.PrintLast Go.Proofs.YtnlgilmbmoiniaaDoorW.PrintMore
attribute [local go_sem] max2_int min2_int max_two min_two max_three min_three max_four min_four   -- for this text's walks alone
set_option linter.unusedVariables false
set_option linter.unusedSimpArgs false

/-! ### spec_AddClaim: function 76 -/
def spec_AddClaim.l0 : Nat → List (S73) → Int → Bool → Int → Int → Int → Int → Int → Int → Option ((List (S73)) × Bool)
 | 0, _, _, _, _, _, _, _, _, _ => none
 | k + 1, x0, x6, x7, x8, x256000, x256001, x256002, x256003, x256004 => if x8 < (x0.length : Int) then (if x7 = true then (if 0 ≤ x8 then (if ((rd_T73 x0 x8).f0) < x256000 then (spec_AddClaim.l0 k x0 (wrap64 (x8 + 1)) true (wrap64 (x8 + 1)) x256000 x256001 x256002 x256003 x256004) else (spec_AddClaim.l0 k x0 x6 true (wrap64 (x8 + 1)) x256000 x256001 x256002 x256003 x256004)) else (none)) else (if 0 ≤ x8 then (if ((rd_T73 x0 x8).f1) = x256001 then (if ((rd_T73 x0 x8).f0) < x256000 then (spec_AddClaim.l0 k x0 (wrap64 (x8 + 1)) (((rd_T73 x0 x8).f2) == x256002) (wrap64 (x8 + 1)) x256000 x256001 x256002 x256003 x256004) else (spec_AddClaim.l0 k x0 x6 (((rd_T73 x0 x8).f2) == x256002) (wrap64 (x8 + 1)) x256000 x256001 x256002 x256003 x256004)) else (if ((rd_T73 x0 x8).f0) < x256000 then (spec_AddClaim.l0 k x0 (wrap64 (x8 + 1)) false (wrap64 (x8 + 1)) x256000 x256001 x256002 x256003 x256004) else (spec_AddClaim.l0 k x0 x6 false (wrap64 (x8 + 1)) x256000 x256001 x256002 x256003 x256004))) else (none))) else ((some (([] : List (S73)) : List (S73))).bind fun y261 => (if 0 ≤ x6 then (if x6 ≤ (x0.length : Int) then ((some (x0.take (x6 : Int).toNat : List (S73))).bind fun y264 => (if y261.length + y264.length < 3518437208883 then ((some (y261 ++ y264 : List (S73))).bind fun y268 => ((some (([(⟨x256000, x256001, x256002, x256003, x256004⟩ : S73)] : List (S73)) : List (S73))).bind fun y271 => (if y268.length + y271.length < 3518437208883 then ((some (y268 ++ y271 : List (S73))).bind fun y274 => ((some (x0.drop (x6 : Int).toNat : List (S73))).bind fun y277 => (if y274.length + y277.length < 3518437208883 then ((some (y274 ++ y277 : List (S73))).bind fun y281 => (if x7 = true then ((some (([] : List (S73)) : List (S73))).bind fun y284 => (if y284.length + x0.length < 3518437208883 then (some ((y284 ++ x0), false)) else (none))) else ((spec_AreClaims.f y281).bind fun t290 => (if t290 = true then (some (y281, true)) else ((some (([] : List (S73)) : List (S73))).bind fun y291 => (if y291.length + x0.length < 3518437208883 then (some ((y291 ++ x0), false)) else (none))))))) else (none)))) else (none)))) else (none))) else (none)) else (none)))
def spec_AddClaim.f (k : Nat) (l0 : List (S73)) (a1_0 : Int) (a1_1 : Int) (a1_2 : Int) (a1_3 : Int) (a1_4 : Int) : Option ((List (S73)) × Bool) := spec_AddClaim.l0 k l0 0 (a1_4 != 0) 0 a1_0 a1_1 a1_2 a1_3 a1_4
theorem spec_AddClaim.mono_l : ∀ k, (∀ y0 y1 y2 y3 y4 y5 y6 y7 y8, LeO (spec_AddClaim.l0 k y0 y1 y2 y3 y4 y5 y6 y7 y8) (spec_AddClaim.l0 (k + 1) y0 y1 y2 y3 y4 y5 y6 y7 y8))
 | 0 => fun _ _ _ _ _ _ _ _ _ r h => by simp [spec_AddClaim.l0] at h
 | k + 1 => by
  have ih0 := spec_AddClaim.mono_l k
  ·
   intro y0 y1 y2 y3 y4 y5 y6 y7 y8
   unfold spec_AddClaim.l0
   exact mo_
theorem spec_AddClaim.mono : ∀ a0 a1 a2 a3 a4 a5 k, LeO (spec_AddClaim.f k a0 a1 a2 a3 a4 a5) (spec_AddClaim.f (k + 1) a0 a1 a2 a3 a4 a5) := by
 intro a0 a1 a2 a3 a4 a5 k
 have ih0 := spec_AddClaim.mono_l k
 unfold spec_AddClaim.f
 exact mo_
def spec_AddClaim.T6 : Bool × List (List Nat × List Nat) := (true, [([], []), ([0], [0]), ([1], [1]), ([1], [1]), ([2, 3, 1], [1, 2, 3]), ([4, 1], [1, 4]), ([5, 1], [1, 5]), ([1], [1]), ([7, 1], [1, 7]), ([6, 8, 1], [1, 6, 8]), ([9, 1, 1], [1, 9]), ([10], [10]), ([10], [10]), ([11, 12, 10], [10, 11, 12]), ([13, 10], [10, 13]), ([14, 10], [10, 14]), ([10], [10]), ([16, 10], [10, 16]), ([15, 17, 10], [10, 15, 17]), ([10, 18, 1], [1, 10, 18]), ([1, 19], [1, 19]), ([20, 10, 0, 1, 2, 3, 4, 5, 6, 7, 8, 9, 10, 11, 12, 13, 14, 15, 16, 17, 18, 19, 20], [0, 20])])
def spec_AddClaim.B6 : List Nat := [0, 1, 3, 3, 15, 31, 63, 3, 131, 511, 1023, 2047, 2047, 8191, 16383, 32767, 2047, 67583, 262143, 524287, 1048575, 2097151]
theorem spec_AddClaim.tab6 : rtab .any (opsOf Tryd.f76 6) = spec_AddClaim.T6 := by kernel_rfl
theorem spec_AddClaim.bits6 : waitsOk spec_AddClaim.T6.2 spec_AddClaim.B6 = true := by kernel_rfl
def spec_AddClaim.T7 : Bool × List (List Nat × List Nat) := (true, [([], []), ([], []), ([0, 1], [0, 1]), ([2], [2]), ([3], [3]), ([], []), ([5], [5]), ([4, 6], [4, 6])])
def spec_AddClaim.B7 : List Nat := [0, 0, 3, 7, 15, 0, 32, 127]
theorem spec_AddClaim.tab7 : rtab .any (opsOf Tryd.f76 7) = spec_AddClaim.T7 := by kernel_rfl
theorem spec_AddClaim.bits7 : waitsOk spec_AddClaim.T7.2 spec_AddClaim.B7 = true := by kernel_rfl
def spec_AddClaim.T9 : Bool × List (List Nat × List Nat) := (true, [([], []), ([], []), ([], []), ([1, 2], [1, 2]), ([0, 3], [0, 3]), ([], []), ([5], [5]), ([4, 6, 4], [4, 6]), ([], []), ([], []), ([8, 9], [8, 9]), ([7, 10, 7], [7, 10]), ([11, 11, 0, 1, 2, 3, 4, 5, 6, 7, 8, 9, 10, 11], [11])])
def spec_AddClaim.B9 : List Nat := [0, 0, 0, 6, 15, 0, 32, 127, 0, 0, 768, 2047, 4095]
theorem spec_AddClaim.tab9 : rtab .any (opsOf Tryd.f76 9) = spec_AddClaim.T9 := by kernel_rfl
theorem spec_AddClaim.bits9 : waitsOk spec_AddClaim.T9.2 spec_AddClaim.B9 = true := by kernel_rfl
abbrev M0_0 := bm_ 22 0
abbrev M0_1 := bm_ 22 1
abbrev M0_2 := bm_ 22 3
abbrev M0_3 := bm_ 22 7
abbrev M0_4 := bm_ 22 15
abbrev M0_5 := bm_ 22 31
abbrev M0_6 := bm_ 22 63
abbrev M0_7 := bm_ 22 127
abbrev M0_8 := bm_ 22 255
abbrev M0_9 := bm_ 22 511
abbrev M0_10 := bm_ 22 1023
abbrev M0_11 := bm_ 22 2047
abbrev M0_12 := bm_ 22 4095
abbrev M0_13 := bm_ 22 8191
abbrev M0_14 := bm_ 22 16383
abbrev M0_15 := bm_ 22 32767
abbrev M0_16 := bm_ 22 65535
abbrev M0_17 := bm_ 22 131071
abbrev M0_18 := bm_ 22 262143
abbrev M0_19 := bm_ 22 524287
abbrev M0_20 := bm_ 22 1048575
abbrev M0_21 := bm_ 22 2097151
abbrev M0_22 := bm_ 22 4194303
abbrev M0_23 := bm_ 8 0
abbrev M0_24 := bm_ 8 1
abbrev M0_25 := bm_ 8 3
abbrev M0_26 := bm_ 8 7
abbrev M0_27 := bm_ 8 15
abbrev M0_28 := bm_ 8 47
abbrev M0_29 := bm_ 8 63
abbrev M0_30 := bm_ 8 127
abbrev M0_31 := bm_ 8 255
abbrev M0_32 := bm_ 22 191
abbrev M0_33 := bm_ 22 98303
abbrev M0_34 := bm_ 13 0
abbrev M0_35 := bm_ 13 2
abbrev M0_36 := bm_ 13 6
abbrev M0_37 := bm_ 13 14
abbrev M0_38 := bm_ 13 270
abbrev M0_39 := bm_ 13 782
abbrev M0_40 := bm_ 13 1806
abbrev M0_41 := bm_ 13 1838
abbrev M0_42 := bm_ 13 1919
abbrev M0_43 := bm_ 13 1839
abbrev M0_44 := bm_ 13 1902
abbrev M0_45 := bm_ 13 1855
abbrev M0_46 := bm_ 13 1903
abbrev M0_47 := bm_ 13 2047
abbrev M0_48 := bm_ 13 4095
abbrev M0_49 := bm_ 13 8191
theorem P0_1 {α : Type} (l : List α) (i : Nat) (a : α) : l.toArray.setIfInBounds i a = (l.set i a).toArray := List.setIfInBounds_toArray l i a
theorem P0_2 {α : Type} (x : α) (l : List α) (a : α) : (x :: l).set 0 a = a :: l := List.set_cons_zero
theorem P0_3 {α : Type} (x : α) (l : List α) (n : Nat) (a : α) : (x :: l).set (n + 1) a = x :: l.set n a := List.set_cons_succ
abbrev c60_ (i0 : Int) (i1 : Int) (i2 : Int) (i3 : Int) (i4 : Int) : Obj := .cells #[.int .i64 i0, .int .i64 i1, .int .i64 i2, .int .i64 i3, .int .i64 i4] 73 (0, 0)
theorem e61_ {w : World} {g : Nat} {t : TypeId} {i0 : Int} {i1 : Int} {i2 : Int} {i3 : Int} {i4 : Int} (h : w.heap[g]? = some (.cells #[.int .i64 i0, .int .i64 i1, .int .i64 i2, .int .i64 i3, .int .i64 i4] t (0, 0))) : w.cell? ⟨g, 0, none⟩ = some (.int .i64 i0) ∧ w.cell? ⟨g, 1, none⟩ = some (.int .i64 i1) ∧ w.cell? ⟨g, 2, none⟩ = some (.int .i64 i2) ∧ w.cell? ⟨g, 3, none⟩ = some (.int .i64 i3) ∧ w.cell? ⟨g, 4, none⟩ = some (.int .i64 i4) := ⟨(blk_cell h 0).trans rfl, (blk_cell h 1).trans rfl, (blk_cell h 2).trans rfl, (blk_cell h 3).trans rfl, (blk_cell h 4).trans rfl⟩
theorem z62_ {w : World} {g : Nat} {t : TypeId} {cs : Array Value} (h : w.heap[g]? = some (.cells cs t (0, 0))) : w.frozen? ⟨g, 0, none⟩ = false ∧ w.frozen? ⟨g, 1, none⟩ = false ∧ w.frozen? ⟨g, 2, none⟩ = false ∧ w.frozen? ⟨g, 3, none⟩ = false ∧ w.frozen? ⟨g, 4, none⟩ = false := ⟨blk_frozen h 0, blk_frozen h 1, blk_frozen h 2, blk_frozen h 3, blk_frozen h 4⟩
theorem y63_ {P : Prop} (h : P := by repeat (first | (with_reducible first | exact HB.out | apply below_alloc | apply pw_below_drewN | apply below_drew1 | refine below_set ?_ GE255.out) | exact HB.out)) : P := h
theorem y67_ {P : Prop} (h : P := by repeat (first | (with_reducible first | exact HB.out | apply below_alloc | apply pw_below_drewN | apply below_drew1 | refine below_set ?_ GE255.out) | exact HB.out)) : P := h
theorem y69_ {P : Prop} (h : P := by (with_reducible repeat (first | apply Kd.R_alloc | apply Kd.R_drewN | apply Kd.R_drew)); exact Kd.R_mono HO273.out (fun _ hk => ⟨hk.2, hk.1⟩)) : P := h
theorem y71_ {P : Prop} (h : P := by first | rfl | (simp; done) | (simp [*]; done)) : P := h
theorem y72_ {P : Prop} (h : P := by simp only [putAll, Act.put, List.setIfInBounds_toArray, List.set_cons_zero, List.set_cons_succ]) : P := h
theorem y73_ {P : Prop} (h : P := by (with_reducible repeat (first | apply Kd.R_alloc | apply Kd.R_drewN | apply Kd.R_drew)); exact Kd.R_mono HO273.out (fun _ hk => ⟨hk.1.2, hk.2⟩)) : P := h
theorem y75_ {P : Prop} (h : P := by (with_reducible repeat (first | apply Kd.R_alloc | apply Kd.R_drewN | apply Kd.R_drew)); exact Kd.R_mono HO263.out (fun _ hk => ⟨hk.2, hk.1.2⟩)) : P := h
theorem y76_ {P : Prop} (h : P := by (with_reducible repeat (first | apply Kd.R_alloc | apply Kd.R_drewN | apply Kd.R_drew)); exact Kd.R_mono HO273.out (fun _ hk => ⟨hk.2, hk.1.2⟩)) : P := h
theorem y77_ {P : Prop} (h : P := by (with_reducible repeat (first | apply Kd.R_alloc | apply Kd.R_drewN | apply Kd.R_drew)); exact Kd.R_mono HO263.out (fun _ hk => ⟨hk.1.2, hk.2⟩)) : P := h
theorem y78_ {P : Prop} (h : P := by (with_reducible repeat (first | apply Kd.R_alloc | apply Kd.R_drewN | apply Kd.R_drew)); exact Kd.R_mono HO270.out (fun _ hk => ⟨hk.2, hk.1⟩)) : P := h
theorem y79_ {P : Prop} (h : P := by (with_reducible repeat (first | apply Kd.R_alloc | apply Kd.R_drewN | apply Kd.R_drew)); exact Kd.R_mono HO263.out (fun _ hk => hk.2)) : P := h
set_option maxHeartbeats 8000000 in
set_option maxRecDepth 100000 in
theorem spec_AddClaim.calls (k : Nat) (A0 : Option Addr) (c0 : Nat) (l0 : List (S73)) (a1_0 : Int) (a1_1 : Int) (a1_2 : Int) (a1_3 : Int) (a1_4 : Int) (r1 : List (S73)) (r2 : Bool) (w : World) (hr0 : Kd.C k73 w A0 l0.length l0) (hc0 : l0.length ≤ c0) (h : spec_AddClaim.f k l0 a1_0 a1_1 a1_2 a1_3 a1_4 = some (r1, r2)) :
  Calls Tryd.prog 76 #[.slice A0 l0.length c0, .agg #[.int .i64 a1_0, .int .i64 a1_1, .int .i64 a1_2, .int .i64 a1_3, .int .i64 a1_4]] w fun e w' => ∃ v0_ : Value, e = .returned (.tuple #[v0_, .bool r2]) ∧ Kd.R k73 73 w' w.heap.size (fun _ => True) v0_ r1 ∧ Below w.heap.size w w' := by
 have hu73 := Tryd.underlying73
 have HR0 := Aside0.mk hr0
 have HC0 := Aside0.mk hc0
 clear hr0 hc0
 have HB := Aside0.mk (Below.refl w.heap.size w)
 have H : (spec_AddClaim.l0 k l0 0 (a1_4 != 0) 0 a1_0 a1_1 a1_2 a1_3 a1_4) = some (r1, r2) := h
 clear h
 have H' := Aside0.mk H
 clear H
 go_enter Tryd.func76, Tryd.ntmps76
 go_wp2_with (first | ((with_reducible refine gate_dst (N := 3) rfl ?_); refine bx_ 3 #[.int .i64 a1_0, .int .i64 a1_1, .int .i64 a1_2, .int .i64 a1_3, .int .i64 a1_4] 73 ?_; intro gb255 hg w3 hbox hb; have n0_ := Aside0.mk (below_step (hd_ HB.out) hb); have BK255 := Aside0.mk (hbox); have GW255 := Aside0.mk ((by rw [hg]; exact (below_size (hd_ HB.out)) : w.heap.size ≤ gb255)); have GE255 := GW255; clear HB; have HB := n0_; clear n0_; clear hb hbox hg; obtain ⟨hcz4_0, hcz4_1, hcz4_2, hcz4_3, hcz4_4⟩ := e61_ BK255.out; obtain ⟨hfz4_0, hfz4_1, hfz4_2, hfz4_3, hfz4_4⟩ := z62_ BK255.out))
 go_loopg [6, 7, 8] k (fun kq v6 v7 v8 w' => ∃ (x6_1 : Int) (x7_1 : Bool) (x8_1 : Int), v6 = .int .i64 x6_1 ∧ v7 = .bool x7_1 ∧ v8 = .int .i64 x8_1 ∧ Aside0 (spec_AddClaim.l0 kq l0 x6_1 x7_1 x8_1 a1_0 a1_1 a1_2 a1_3 a1_4 = some (r1, r2)) ∧ Aside0 (kq ≤ k) ∧ Aside0 (w'.heap[gb255]? = some (c60_ a1_0 a1_1 a1_2 a1_3 a1_4)) ∧ Aside0 (Below w.heap.size w w'))
 case atStart => exact ⟨(0), ((a1_4 != 0)), (0), y71_, y71_, y71_, H', ⟨Nat.le_refl _⟩, ⟨bd_ BK255.out⟩, ⟨y67_⟩⟩
 case round =>
  clear H'
  try clear p2
  obtain ⟨x6_1, x7_1, x8_1, rfl, rfl, rfl, HA, HK1, BK255, HB⟩ := hrel
  cases gk with
  | zero => exact absurd HA.out (by simp [spec_AddClaim.l0])
  | succ k1 =>
   have H := HA.out
   clear HA
   simp only [spec_AddClaim.l0] at H
   by_cases c5 : x8_1 < (l0.length : Int)
   ·
    rw [if_pos c5] at H
    have c5b0 : decide (x8_1 < (l0.length : Int)) = true := decide_eq_true c5
    clear c5
    by_cases c6 : x7_1 = true
    ·
     subst c6
     have H1 : (if 0 ≤ x8_1 then (if ((rd_T73 l0 x8_1).f0) < a1_0 then (spec_AddClaim.l0 k1 l0 (wrap64 (x8_1 + 1)) true (wrap64 (x8_1 + 1)) a1_0 a1_1 a1_2 a1_3 a1_4) else (spec_AddClaim.l0 k1 l0 x6_1 true (wrap64 (x8_1 + 1)) a1_0 a1_1 a1_2 a1_3 a1_4)) else (none)) = some (r1, r2) := by rw [if_pos rfl] at H; exact H
     clear H
     have H := H1
     clear H1
     by_cases c7 : 0 ≤ x8_1
     ·
      rw [if_pos c7] at H
      have c7b0 : decide (0 ≤ x8_1) = true := decide_eq_true c7
      clear c7
      have HH_ := Aside0.mk H
      clear H
      try go_wp2
      have n0_ := Aside0.mk (blk_drew BK255.out)
      have n1_ := Aside0.mk (below_drew1 HB.out)
      clear BK255
      clear HB
      have BK255 := n0_
      have HB := n1_
      clear n0_ n1_
      refine start_ (n := 22) (S := fun w' => True) (ds := []) M0_0 (by kernel_rfl) rfl rfl trivial (fun hHeld => ?_); refine with_tabW spec_AddClaim.tab6 spec_AddClaim.bits6 (fun HT_ HW_ => ?_)
      generalize wr.drew = w9 at BK255 HB hHeld ⊢
      refine pu_ 0 (some 19) M0_1 HT_ ?_
      refine pu_ 1 (some 20) M0_2 HT_ ?_
      refine pn_ 2 (some 21) M0_3 HT_ ?_
      refine pn_ 3 (some 22) M0_4 HT_ ?_
      refine pn_ 4 (some 23) M0_5 HT_ ?_
      refine pn_ 5 (some 24) M0_6 HT_ ?_
      refine pn_ 6 (some 25) M0_7 HT_ ?_
      refine pn_ 7 (some 26) M0_8 HT_ ?_
      refine pn_ 8 (some 27) M0_9 HT_ ?_
      refine pn_ 9 (some 28) M0_10 HT_ ?_
      refine pn_ 10 (some 29) M0_11 HT_ ?_
      refine pn_ 11 (some 30) M0_12 HT_ ?_
      refine pn_ 12 (some 31) M0_13 HT_ ?_
      refine pn_ 13 (some 32) M0_14 HT_ ?_
      refine pn_ 14 (some 33) M0_15 HT_ ?_
      refine pn_ 15 (some 34) M0_16 HT_ ?_
      refine pn_ 16 (some 35) M0_17 HT_ ?_
      refine pn_ 17 (some 36) M0_18 HT_ ?_
      refine pn_ 18 (some 37) M0_19 HT_ ?_
      refine pn_ 19 (some 38) M0_20 HT_ ?_
      refine pu_ 20 (some 39) M0_21 HT_ ?_
      refine pu_ 21 (some 7) M0_22 HT_ ?_
      refine done_ (done_of HT_.out (by kernel_rfl)) ?_
      have H := HH_.out
      clear HH_
      have HH_ := Aside0.mk H
      clear H
      try go_wp2
      have n0_ := Aside0.mk (blk_drew BK255.out)
      have n1_ := Aside0.mk (below_drew1 HB.out)
      clear BK255
      clear HB
      have BK255 := n0_
      have HB := n1_
      clear n0_ n1_
      have p256 : 0 ≤ (x8_1 : Int) := of_decide_eq_true as_
      have q256 : x8_1 < (l0.length : Int) := of_decide_eq_true as_
      obtain ⟨ad256, e256, hx256_0, hx256_1, hx256_2, hx256_3, hx256_4⟩ := at_T73 HR0.out x8_1 p256 q256
      have hw256_4 := hx256_4
      have hw256_3 := hx256_3
      have hw256_2 := hx256_2
      have hw256_1 := hx256_1
      have hw256_0 := hx256_0
      cases e256
      replace hx256_0 := cb_ HB.out hx256_0
      replace hx256_1 := cb_ HB.out hx256_1
      replace hx256_2 := cb_ HB.out hx256_2
      replace hx256_3 := cb_ HB.out hx256_3
      replace hx256_4 := cb_ HB.out hx256_4
      replace p256 := eq_true p256
      replace q256 := eq_true q256
      refine start_ (n := 8) (S := fun w' => q1_ w' gb255 a1_0 a1_1 a1_2 a1_3 a1_4 (q2e_ w' (ad256.add ((x8_1).toNat * 5)) ((rd_T73 l0 x8_1).f0) ((rd_T73 l0 x8_1).f1) ((rd_T73 l0 x8_1).f2) ((rd_T73 l0 x8_1).f3) ((rd_T73 l0 x8_1).f4))) (ds := []) M0_23 (by kernel_rfl) rfl rfl (k1_ BK255.out ⟨(cb_ HB.out hw256_0), (cb_ HB.out hw256_1), (cb_ HB.out hw256_2), (cb_ HB.out hw256_3), (cb_ HB.out hw256_4)⟩) (fun hHeld => ?_); refine with_tabW spec_AddClaim.tab7 spec_AddClaim.bits7 (fun HT_ HW_ => ?_)
      generalize w9.drew = w10 at BK255 HB hx256_0 hx256_1 hx256_2 hx256_3 hx256_4 hHeld ⊢
      refine pu_ 0 (some 40) M0_24 HT_ ?_
      refine pu_ 1 (some 41) M0_25 HT_ ?_
      refine pu_ 2 (some 42) M0_26 HT_ ?_
      refine pu_ 3 (some 43) M0_27 HT_ ?_
      refine pu_ 5 (some 45) M0_28 HT_ ?_
      refine tk_ 4 (some 44) M0_29 HT_ HW_ hHeld ?_
      refine tk_ 6 (some 46) M0_30 HT_ HW_ hHeld ?_
      refine pu_ 7 (some 47) M0_31 HT_ ?_
      refine done_ (done_of HT_.out (by kernel_rfl)) ?_
      have H := HH_.out
      clear HH_
      by_cases c8 : ((rd_T73 l0 x8_1).f0) < a1_0
      ·
       rw [if_pos c8] at H
       have c8b0 : decide (((rd_T73 l0 x8_1).f0) < a1_0) = true := decide_eq_true c8
       (try rw [c8b0])
       (try rw [c8b0])
       clear c8
       have H' := Aside0.mk H
       clear H
       try go_wp2
       go_roundg k1
       case measure => have := HK1.out; omega
       case rel => exact ⟨(wrap64 (x8_1 + 1)), (true), (wrap64 (x8_1 + 1)), y71_, y71_, y71_, H', ⟨by have := HK1.out; omega⟩, ⟨bd_ BK255.out⟩, ⟨y67_⟩⟩
      ·
       rw [if_neg c8] at H
       have c8b0 : decide (((rd_T73 l0 x8_1).f0) < a1_0) = false := decide_eq_false c8
       (try rw [c8b0])
       (try rw [c8b0])
       clear c8
       have H' := Aside0.mk H
       clear H
       try go_wp2
       go_roundg k1
       case measure => have := HK1.out; omega
       case rel => exact ⟨(x6_1), (true), (wrap64 (x8_1 + 1)), y71_, y71_, y71_, H', ⟨by have := HK1.out; omega⟩, ⟨bd_ BK255.out⟩, ⟨y67_⟩⟩
     ·
      rw [if_neg c7] at H
      exact absurd H (by simp)
    ·
     replace c6 := Bool.eq_false_iff.mpr c6
     subst c6
     have H1 : (if 0 ≤ x8_1 then (if ((rd_T73 l0 x8_1).f1) = a1_1 then (if ((rd_T73 l0 x8_1).f0) < a1_0 then (spec_AddClaim.l0 k1 l0 (wrap64 (x8_1 + 1)) (((rd_T73 l0 x8_1).f2) == a1_2) (wrap64 (x8_1 + 1)) a1_0 a1_1 a1_2 a1_3 a1_4) else (spec_AddClaim.l0 k1 l0 x6_1 (((rd_T73 l0 x8_1).f2) == a1_2) (wrap64 (x8_1 + 1)) a1_0 a1_1 a1_2 a1_3 a1_4)) else (if ((rd_T73 l0 x8_1).f0) < a1_0 then (spec_AddClaim.l0 k1 l0 (wrap64 (x8_1 + 1)) false (wrap64 (x8_1 + 1)) a1_0 a1_1 a1_2 a1_3 a1_4) else (spec_AddClaim.l0 k1 l0 x6_1 false (wrap64 (x8_1 + 1)) a1_0 a1_1 a1_2 a1_3 a1_4))) else (none)) = some (r1, r2) := by rw [if_neg (show ¬ (false = true) by decide)] at H; exact H
     clear H
     have H := H1
     clear H1
     by_cases c13 : 0 ≤ x8_1
     ·
      rw [if_pos c13] at H
      have c13b0 : decide (0 ≤ x8_1) = true := decide_eq_true c13
      clear c13
      by_cases c14 : ((rd_T73 l0 x8_1).f1) = a1_1
      ·
       rw [if_pos c14] at H
       have c14b0 : (((rd_T73 l0 x8_1).f1) == a1_1) = true := beq_iff_eq.mpr c14
       have c14b1 : (((rd_T73 l0 x8_1).f1) != a1_1) = false := bne_eq_false_iff_eq.mpr c14
       clear c14
       have HH_ := Aside0.mk H
       clear H
       try go_wp2
       have n0_ := Aside0.mk (blk_drew BK255.out)
       have n1_ := Aside0.mk (below_drew1 HB.out)
       clear BK255
       clear HB
       have BK255 := n0_
       have HB := n1_
       clear n0_ n1_
       have p257 : 0 ≤ (x8_1 : Int) := of_decide_eq_true as_
       have q257 : x8_1 < (l0.length : Int) := of_decide_eq_true as_
       obtain ⟨ad257, e257, hx257_0, hx257_1, hx257_2, hx257_3, hx257_4⟩ := at_T73 HR0.out x8_1 p257 q257
       have hw257_4 := hx257_4
       have hw257_3 := hx257_3
       have hw257_2 := hx257_2
       have hw257_1 := hx257_1
       have hw257_0 := hx257_0
       cases e257
       replace hx257_0 := cb_ HB.out hx257_0
       replace hx257_1 := cb_ HB.out hx257_1
       replace hx257_2 := cb_ HB.out hx257_2
       replace hx257_3 := cb_ HB.out hx257_3
       replace hx257_4 := cb_ HB.out hx257_4
       replace p257 := eq_true p257
       replace q257 := eq_true q257
       have p258 : 0 ≤ (x8_1 : Int) := of_decide_eq_true as_
       have q258 : x8_1 < (l0.length : Int) := of_decide_eq_true as_
       obtain ⟨ad258, e258, hx258_0, hx258_1, hx258_2, hx258_3, hx258_4⟩ := at_T73 HR0.out x8_1 p258 q258
       have hw258_4 := hx258_4
       have hw258_3 := hx258_3
       have hw258_2 := hx258_2
       have hw258_1 := hx258_1
       have hw258_0 := hx258_0
       obtain rfl : ad257 = ad258 := (by injection e258)
       replace hx258_0 := cb_ HB.out hx258_0
       replace hx258_1 := cb_ HB.out hx258_1
       replace hx258_2 := cb_ HB.out hx258_2
       replace hx258_3 := cb_ HB.out hx258_3
       replace hx258_4 := cb_ HB.out hx258_4
       replace p258 := eq_true p258
       replace q258 := eq_true q258
       refine start_ (n := 22) (S := fun w' => q1_ w' gb255 a1_0 a1_1 a1_2 a1_3 a1_4 (q2_ w' (ad257.add ((x8_1).toNat * 5)) ((rd_T73 l0 x8_1).f0) ((rd_T73 l0 x8_1).f1) ((rd_T73 l0 x8_1).f2) ((rd_T73 l0 x8_1).f3) ((rd_T73 l0 x8_1).f4) (q2e_ w' (ad257.add ((x8_1).toNat * 5)) ((rd_T73 l0 x8_1).f0) ((rd_T73 l0 x8_1).f1) ((rd_T73 l0 x8_1).f2) ((rd_T73 l0 x8_1).f3) ((rd_T73 l0 x8_1).f4)))) (ds := []) M0_0 (by kernel_rfl) rfl rfl (k1_ BK255.out ⟨(cb_ HB.out hw257_0), (cb_ HB.out hw257_1), (cb_ HB.out hw257_2), (cb_ HB.out hw257_3), (cb_ HB.out hw257_4), (cb_ HB.out hw258_0), (cb_ HB.out hw258_1), (cb_ HB.out hw258_2), (cb_ HB.out hw258_3), (cb_ HB.out hw258_4)⟩) (fun hHeld => ?_); refine with_tabW spec_AddClaim.tab6 spec_AddClaim.bits6 (fun HT_ HW_ => ?_)
       generalize wr.drew = w16 at BK255 HB hx257_0 hx257_1 hx257_2 hx257_3 hx257_4 hx258_0 hx258_1 hx258_2 hx258_3 hx258_4 hHeld ⊢
       refine pu_ 0 (some 19) M0_1 HT_ ?_
       refine pu_ 1 (some 20) M0_2 HT_ ?_
       refine pu_ 2 (some 21) M0_3 HT_ ?_
       refine pu_ 3 (some 22) M0_4 HT_ ?_
       refine pu_ 4 (some 23) M0_5 HT_ ?_
       refine pu_ 5 (some 24) M0_6 HT_ ?_
       refine pu_ 7 (some 26) M0_32 HT_ ?_
       refine tk_ 6 (some 25) M0_8 HT_ HW_ hHeld ?_
       refine tk_ 8 (some 27) M0_9 HT_ HW_ hHeld ?_
       refine pu_ 9 (some 28) M0_10 HT_ ?_
       refine pu_ 10 (some 29) M0_11 HT_ ?_
       refine pu_ 11 (some 30) M0_12 HT_ ?_
       refine pu_ 12 (some 31) M0_13 HT_ ?_
       refine pu_ 13 (some 32) M0_14 HT_ ?_
       refine pu_ 14 (some 33) M0_15 HT_ ?_
       refine pu_ 16 (some 35) M0_33 HT_ ?_
       refine tk_ 15 (some 34) M0_17 HT_ HW_ hHeld ?_
       refine tk_ 17 (some 36) M0_18 HT_ HW_ hHeld ?_
       refine pu_ 18 (some 37) M0_19 HT_ ?_
       refine pu_ 19 (some 38) M0_20 HT_ ?_
       refine pu_ 20 (some 39) M0_21 HT_ ?_
       refine pu_ 21 (some 7) M0_22 HT_ ?_
       refine done_ (done_of HT_.out (by kernel_rfl)) ?_
       have H := HH_.out
       clear HH_
       have HH_ := Aside0.mk H
       clear H
       try go_wp2
       have n0_ := Aside0.mk (blk_drew BK255.out)
       have n1_ := Aside0.mk (below_drew1 HB.out)
       clear BK255
       clear HB
       have BK255 := n0_
       have HB := n1_
       clear n0_ n1_
       have p259 : 0 ≤ (x8_1 : Int) := of_decide_eq_true as_
       have q259 : x8_1 < (l0.length : Int) := of_decide_eq_true as_
       obtain ⟨ad259, e259, hx259_0, hx259_1, hx259_2, hx259_3, hx259_4⟩ := at_T73 HR0.out x8_1 p259 q259
       have hw259_4 := hx259_4
       have hw259_3 := hx259_3
       have hw259_2 := hx259_2
       have hw259_1 := hx259_1
       have hw259_0 := hx259_0
       obtain rfl : ad257 = ad259 := (by injection e259)
       replace hx259_0 := cb_ HB.out hx259_0
       replace hx259_1 := cb_ HB.out hx259_1
       replace hx259_2 := cb_ HB.out hx259_2
       replace hx259_3 := cb_ HB.out hx259_3
       replace hx259_4 := cb_ HB.out hx259_4
       replace p259 := eq_true p259
       replace q259 := eq_true q259
       refine start_ (n := 8) (S := fun w' => q1_ w' gb255 a1_0 a1_1 a1_2 a1_3 a1_4 (q2e_ w' (ad257.add ((x8_1).toNat * 5)) ((rd_T73 l0 x8_1).f0) ((rd_T73 l0 x8_1).f1) ((rd_T73 l0 x8_1).f2) ((rd_T73 l0 x8_1).f3) ((rd_T73 l0 x8_1).f4))) (ds := []) M0_23 (by kernel_rfl) rfl rfl (k1_ BK255.out ⟨(cb_ HB.out hw259_0), (cb_ HB.out hw259_1), (cb_ HB.out hw259_2), (cb_ HB.out hw259_3), (cb_ HB.out hw259_4)⟩) (fun hHeld => ?_); refine with_tabW spec_AddClaim.tab7 spec_AddClaim.bits7 (fun HT_ HW_ => ?_)
       generalize w16.drew = w17 at BK255 HB hx259_0 hx259_1 hx259_2 hx259_3 hx259_4 hHeld ⊢
       refine pu_ 0 (some 40) M0_24 HT_ ?_
       refine pu_ 1 (some 41) M0_25 HT_ ?_
       refine pu_ 2 (some 42) M0_26 HT_ ?_
       refine pu_ 3 (some 43) M0_27 HT_ ?_
       refine pu_ 5 (some 45) M0_28 HT_ ?_
       refine tk_ 4 (some 44) M0_29 HT_ HW_ hHeld ?_
       refine tk_ 6 (some 46) M0_30 HT_ HW_ hHeld ?_
       refine pu_ 7 (some 47) M0_31 HT_ ?_
       refine done_ (done_of HT_.out (by kernel_rfl)) ?_
       have H := HH_.out
       clear HH_
       by_cases c15 : ((rd_T73 l0 x8_1).f0) < a1_0
       ·
        rw [if_pos c15] at H
        have c15b0 : decide (((rd_T73 l0 x8_1).f0) < a1_0) = true := decide_eq_true c15
        (try rw [c15b0])
        (try rw [c15b0])
        clear c15
        have H' := Aside0.mk H
        clear H
        try go_wp2
        go_roundg k1
        case measure => have := HK1.out; omega
        case rel => exact ⟨(wrap64 (x8_1 + 1)), ((((rd_T73 l0 x8_1).f2) == a1_2)), (wrap64 (x8_1 + 1)), y71_, y71_, y71_, H', ⟨by have := HK1.out; omega⟩, ⟨bd_ BK255.out⟩, ⟨y67_⟩⟩
       ·
        rw [if_neg c15] at H
        have c15b0 : decide (((rd_T73 l0 x8_1).f0) < a1_0) = false := decide_eq_false c15
        (try rw [c15b0])
        (try rw [c15b0])
        clear c15
        have H' := Aside0.mk H
        clear H
        try go_wp2
        go_roundg k1
        case measure => have := HK1.out; omega
        case rel => exact ⟨(x6_1), ((((rd_T73 l0 x8_1).f2) == a1_2)), (wrap64 (x8_1 + 1)), y71_, y71_, y71_, H', ⟨by have := HK1.out; omega⟩, ⟨bd_ BK255.out⟩, ⟨y67_⟩⟩
      ·
       rw [if_neg c14] at H
       have c14b0 : (((rd_T73 l0 x8_1).f1) == a1_1) = false := beq_eq_false_iff_ne.mpr c14
       have c14b1 : (((rd_T73 l0 x8_1).f1) != a1_1) = true := bne_iff_ne.mpr c14
       have HH_ := Aside0.mk H
       clear H
       try go_wp2
       have n0_ := Aside0.mk (blk_drew BK255.out)
       have n1_ := Aside0.mk (below_drew1 HB.out)
       clear BK255
       clear HB
       have BK255 := n0_
       have HB := n1_
       clear n0_ n1_
       have p257 : 0 ≤ (x8_1 : Int) := of_decide_eq_true as_
       have q257 : x8_1 < (l0.length : Int) := of_decide_eq_true as_
       obtain ⟨ad257, e257, hx257_0, hx257_1, hx257_2, hx257_3, hx257_4⟩ := at_T73 HR0.out x8_1 p257 q257
       have hw257_4 := hx257_4
       have hw257_3 := hx257_3
       have hw257_2 := hx257_2
       have hw257_1 := hx257_1
       have hw257_0 := hx257_0
       cases e257
       replace hx257_0 := cb_ HB.out hx257_0
       replace hx257_1 := cb_ HB.out hx257_1
       replace hx257_2 := cb_ HB.out hx257_2
       replace hx257_3 := cb_ HB.out hx257_3
       replace hx257_4 := cb_ HB.out hx257_4
       replace p257 := eq_true p257
       replace q257 := eq_true q257
       refine start_ (n := 22) (S := fun w' => q1_ w' gb255 a1_0 a1_1 a1_2 a1_3 a1_4 (q2e_ w' (ad257.add ((x8_1).toNat * 5)) ((rd_T73 l0 x8_1).f0) ((rd_T73 l0 x8_1).f1) ((rd_T73 l0 x8_1).f2) ((rd_T73 l0 x8_1).f3) ((rd_T73 l0 x8_1).f4))) (ds := []) M0_0 (by kernel_rfl) rfl rfl (k1_ BK255.out ⟨(cb_ HB.out hw257_0), (cb_ HB.out hw257_1), (cb_ HB.out hw257_2), (cb_ HB.out hw257_3), (cb_ HB.out hw257_4)⟩) (fun hHeld => ?_); refine with_tabW spec_AddClaim.tab6 spec_AddClaim.bits6 (fun HT_ HW_ => ?_)
       generalize wr.drew = w21 at BK255 HB hx257_0 hx257_1 hx257_2 hx257_3 hx257_4 hHeld ⊢
       refine pu_ 0 (some 19) M0_1 HT_ ?_
       refine pu_ 1 (some 20) M0_2 HT_ ?_
       refine pu_ 2 (some 21) M0_3 HT_ ?_
       refine pu_ 3 (some 22) M0_4 HT_ ?_
       refine pu_ 4 (some 23) M0_5 HT_ ?_
       refine pu_ 5 (some 24) M0_6 HT_ ?_
       refine pu_ 7 (some 26) M0_32 HT_ ?_
       refine tk_ 6 (some 25) M0_8 HT_ HW_ hHeld ?_
       refine tk_ 8 (some 27) M0_9 HT_ HW_ hHeld ?_
       refine pu_ 9 (some 28) M0_10 HT_ ?_
       refine pu_ 10 (some 29) M0_11 HT_ ?_
       refine pn_ 11 (some 30) M0_12 HT_ ?_
       refine pn_ 12 (some 31) M0_13 HT_ ?_
       refine pn_ 13 (some 32) M0_14 HT_ ?_
       refine pn_ 14 (some 33) M0_15 HT_ ?_
       refine pn_ 15 (some 34) M0_16 HT_ ?_
       refine pn_ 16 (some 35) M0_17 HT_ ?_
       refine pn_ 17 (some 36) M0_18 HT_ ?_
       refine pn_ 18 (some 37) M0_19 HT_ ?_
       refine pu_ 19 (some 38) M0_20 HT_ ?_
       refine pu_ 20 (some 39) M0_21 HT_ ?_
       refine pu_ 21 (some 7) M0_22 HT_ ?_
       refine done_ (done_of HT_.out (by kernel_rfl)) ?_
       have H := HH_.out
       clear HH_
       have HH_ := Aside0.mk H
       clear H
       try go_wp2
       have n0_ := Aside0.mk (blk_drew BK255.out)
       have n1_ := Aside0.mk (below_drew1 HB.out)
       clear BK255
       clear HB
       have BK255 := n0_
       have HB := n1_
       clear n0_ n1_
       have p260 : 0 ≤ (x8_1 : Int) := of_decide_eq_true as_
       have q260 : x8_1 < (l0.length : Int) := of_decide_eq_true as_
       obtain ⟨ad260, e260, hx260_0, hx260_1, hx260_2, hx260_3, hx260_4⟩ := at_T73 HR0.out x8_1 p260 q260
       have hw260_4 := hx260_4
       have hw260_3 := hx260_3
       have hw260_2 := hx260_2
       have hw260_1 := hx260_1
       have hw260_0 := hx260_0
       obtain rfl : ad257 = ad260 := (by injection e260)
       replace hx260_0 := cb_ HB.out hx260_0
       replace hx260_1 := cb_ HB.out hx260_1
       replace hx260_2 := cb_ HB.out hx260_2
       replace hx260_3 := cb_ HB.out hx260_3
       replace hx260_4 := cb_ HB.out hx260_4
       replace p260 := eq_true p260
       replace q260 := eq_true q260
       refine start_ (n := 8) (S := fun w' => q1_ w' gb255 a1_0 a1_1 a1_2 a1_3 a1_4 (q2e_ w' (ad257.add ((x8_1).toNat * 5)) ((rd_T73 l0 x8_1).f0) ((rd_T73 l0 x8_1).f1) ((rd_T73 l0 x8_1).f2) ((rd_T73 l0 x8_1).f3) ((rd_T73 l0 x8_1).f4))) (ds := []) M0_23 (by kernel_rfl) rfl rfl (k1_ BK255.out ⟨(cb_ HB.out hw260_0), (cb_ HB.out hw260_1), (cb_ HB.out hw260_2), (cb_ HB.out hw260_3), (cb_ HB.out hw260_4)⟩) (fun hHeld => ?_); refine with_tabW spec_AddClaim.tab7 spec_AddClaim.bits7 (fun HT_ HW_ => ?_)
       generalize w21.drew = w22 at BK255 HB hx260_0 hx260_1 hx260_2 hx260_3 hx260_4 hHeld ⊢
       refine pu_ 0 (some 40) M0_24 HT_ ?_
       refine pu_ 1 (some 41) M0_25 HT_ ?_
       refine pu_ 2 (some 42) M0_26 HT_ ?_
       refine pu_ 3 (some 43) M0_27 HT_ ?_
       refine pu_ 5 (some 45) M0_28 HT_ ?_
       refine tk_ 4 (some 44) M0_29 HT_ HW_ hHeld ?_
       refine tk_ 6 (some 46) M0_30 HT_ HW_ hHeld ?_
       refine pu_ 7 (some 47) M0_31 HT_ ?_
       refine done_ (done_of HT_.out (by kernel_rfl)) ?_
       have H := HH_.out
       clear HH_
       by_cases c20 : ((rd_T73 l0 x8_1).f0) < a1_0
       ·
        rw [if_pos c20] at H
        have c20b0 : decide (((rd_T73 l0 x8_1).f0) < a1_0) = true := decide_eq_true c20
        (try rw [c20b0])
        (try rw [c20b0])
        clear c20
        have H' := Aside0.mk H
        clear H
        try go_wp2
        go_roundg k1
        case measure => have := HK1.out; omega
        case rel => exact ⟨(wrap64 (x8_1 + 1)), (false), (wrap64 (x8_1 + 1)), y71_, y71_, y71_, H', ⟨by have := HK1.out; omega⟩, ⟨bd_ BK255.out⟩, ⟨y67_⟩⟩
       ·
        rw [if_neg c20] at H
        have c20b0 : decide (((rd_T73 l0 x8_1).f0) < a1_0) = false := decide_eq_false c20
        (try rw [c20b0])
        (try rw [c20b0])
        clear c20
        have H' := Aside0.mk H
        clear H
        try go_wp2
        go_roundg k1
        case measure => have := HK1.out; omega
        case rel => exact ⟨(x6_1), (false), (wrap64 (x8_1 + 1)), y71_, y71_, y71_, H', ⟨by have := HK1.out; omega⟩, ⟨bd_ BK255.out⟩, ⟨y67_⟩⟩
     ·
      rw [if_neg c13] at H
      exact absurd H (by simp)
   ·
    rw [if_neg c5] at H
    have c5b0 : decide (x8_1 < (l0.length : Int)) = false := decide_eq_false c5
    clear c5
    obtain ⟨y261, hy261⟩ : ∃ y_ : List (S73), y_ = (([] : List (S73))) := ⟨_, rfl⟩
    replace H : (if 0 ≤ x6_1 then (if x6_1 ≤ (l0.length : Int) then ((some (l0.take (x6_1 : Int).toNat : List (S73))).bind fun y264 => (if y261.length + y264.length < 3518437208883 then ((some (y261 ++ y264 : List (S73))).bind fun y268 => ((some (([(⟨a1_0, a1_1, a1_2, a1_3, a1_4⟩ : S73)] : List (S73)) : List (S73))).bind fun y271 => (if y268.length + y271.length < 3518437208883 then ((some (y268 ++ y271 : List (S73))).bind fun y274 => ((some (l0.drop (x6_1 : Int).toNat : List (S73))).bind fun y277 => (if y274.length + y277.length < 3518437208883 then ((some (y274 ++ y277 : List (S73))).bind fun y281 => (if x7_1 = true then ((some (([] : List (S73)) : List (S73))).bind fun y284 => (if y284.length + l0.length < 3518437208883 then (some ((y284 ++ l0), false)) else (none))) else ((spec_AreClaims.f y281).bind fun t290 => (if t290 = true then (some (y281, true)) else ((some (([] : List (S73)) : List (S73))).bind fun y291 => (if y291.length + l0.length < 3518437208883 then (some ((y291 ++ l0), false)) else (none))))))) else (none)))) else (none)))) else (none))) else (none)) else (none)) = some (r1, r2) := by first | (rw [hy261]; with_reducible exact H) | (have H2_ := (Option.bind_some _ _).symm.trans H; rw [hy261]; with_reducible exact H2_) | (have H2_ := (Option.bind_some _ _).symm.trans H; with_reducible exact H2_) | with_reducible exact H | (rw [hy261]; exact H) | exact H
    have Ny261 := Aside0.mk hy261
    clear hy261
    by_cases c25 : 0 ≤ x6_1
    ·
     rw [if_pos c25] at H
     have c25b0 := eq_true c25
     have c25b1 : decide (0 ≤ x6_1) = true := decide_eq_true c25
     clear c25
     by_cases c26 : x6_1 ≤ (l0.length : Int)
     ·
      rw [if_pos c26] at H
      have c26b0 := eq_true c26
      have c26b1 : decide (x6_1 ≤ (l0.length : Int)) = true := decide_eq_true c26
      clear c26
      obtain ⟨y264, hy264⟩ : ∃ y_ : List (S73), y_ = (l0.take (x6_1 : Int).toNat) := ⟨_, rfl⟩
      replace H : (if y261.length + y264.length < 3518437208883 then ((some (y261 ++ y264 : List (S73))).bind fun y268 => ((some (([(⟨a1_0, a1_1, a1_2, a1_3, a1_4⟩ : S73)] : List (S73)) : List (S73))).bind fun y271 => (if y268.length + y271.length < 3518437208883 then ((some (y268 ++ y271 : List (S73))).bind fun y274 => ((some (l0.drop (x6_1 : Int).toNat : List (S73))).bind fun y277 => (if y274.length + y277.length < 3518437208883 then ((some (y274 ++ y277 : List (S73))).bind fun y281 => (if x7_1 = true then ((some (([] : List (S73)) : List (S73))).bind fun y284 => (if y284.length + l0.length < 3518437208883 then (some ((y284 ++ l0), false)) else (none))) else ((spec_AreClaims.f y281).bind fun t290 => (if t290 = true then (some (y281, true)) else ((some (([] : List (S73)) : List (S73))).bind fun y291 => (if y291.length + l0.length < 3518437208883 then (some ((y291 ++ l0), false)) else (none))))))) else (none)))) else (none)))) else (none)) = some (r1, r2) := by first | (rw [hy264]; with_reducible exact H) | (have H2_ := (Option.bind_some _ _).symm.trans H; rw [hy264]; with_reducible exact H2_) | (have H2_ := (Option.bind_some _ _).symm.trans H; with_reducible exact H2_) | with_reducible exact H | (rw [hy264]; exact H) | exact H
      have Ny264 := Aside0.mk hy264
      clear hy264
      by_cases c27 : y261.length + y264.length < 3518437208883
      ·
       rw [if_pos c27] at H
       have LMc27 := Aside0.mk c27
       clear c27
       obtain ⟨y268, hy268⟩ : ∃ y_ : List (S73), y_ = (y261 ++ y264) := ⟨_, rfl⟩
       replace H : ((some (([(⟨a1_0, a1_1, a1_2, a1_3, a1_4⟩ : S73)] : List (S73)) : List (S73))).bind fun y271 => (if y268.length + y271.length < 3518437208883 then ((some (y268 ++ y271 : List (S73))).bind fun y274 => ((some (l0.drop (x6_1 : Int).toNat : List (S73))).bind fun y277 => (if y274.length + y277.length < 3518437208883 then ((some (y274 ++ y277 : List (S73))).bind fun y281 => (if x7_1 = true then ((some (([] : List (S73)) : List (S73))).bind fun y284 => (if y284.length + l0.length < 3518437208883 then (some ((y284 ++ l0), false)) else (none))) else ((spec_AreClaims.f y281).bind fun t290 => (if t290 = true then (some (y281, true)) else ((some (([] : List (S73)) : List (S73))).bind fun y291 => (if y291.length + l0.length < 3518437208883 then (some ((y291 ++ l0), false)) else (none))))))) else (none)))) else (none))) = some (r1, r2) := by first | (rw [hy268]; with_reducible exact H) | (have H2_ := (Option.bind_some _ _).symm.trans H; rw [hy268]; with_reducible exact H2_) | (have H2_ := (Option.bind_some _ _).symm.trans H; with_reducible exact H2_) | with_reducible exact H | (rw [hy268]; exact H) | exact H
       have Ny268 := Aside0.mk hy268
       clear hy268
       obtain ⟨y271, hy271⟩ : ∃ y_ : List (S73), y_ = (([(⟨a1_0, a1_1, a1_2, a1_3, a1_4⟩ : S73)] : List (S73))) := ⟨_, rfl⟩
       replace H : (if y268.length + y271.length < 3518437208883 then ((some (y268 ++ y271 : List (S73))).bind fun y274 => ((some (l0.drop (x6_1 : Int).toNat : List (S73))).bind fun y277 => (if y274.length + y277.length < 3518437208883 then ((some (y274 ++ y277 : List (S73))).bind fun y281 => (if x7_1 = true then ((some (([] : List (S73)) : List (S73))).bind fun y284 => (if y284.length + l0.length < 3518437208883 then (some ((y284 ++ l0), false)) else (none))) else ((spec_AreClaims.f y281).bind fun t290 => (if t290 = true then (some (y281, true)) else ((some (([] : List (S73)) : List (S73))).bind fun y291 => (if y291.length + l0.length < 3518437208883 then (some ((y291 ++ l0), false)) else (none))))))) else (none)))) else (none)) = some (r1, r2) := by first | (rw [hy271]; with_reducible exact H) | (have H2_ := (Option.bind_some _ _).symm.trans H; rw [hy271]; with_reducible exact H2_) | (have H2_ := (Option.bind_some _ _).symm.trans H; with_reducible exact H2_) | with_reducible exact H | (rw [hy271]; exact H) | exact H
       have Ny271 := Aside0.mk hy271
       clear hy271
       by_cases c28 : y268.length + y271.length < 3518437208883
       ·
        rw [if_pos c28] at H
        have LMc28 := Aside0.mk c28
        clear c28
        obtain ⟨y274, hy274⟩ : ∃ y_ : List (S73), y_ = (y268 ++ y271) := ⟨_, rfl⟩
        replace H : ((some (l0.drop (x6_1 : Int).toNat : List (S73))).bind fun y277 => (if y274.length + y277.length < 3518437208883 then ((some (y274 ++ y277 : List (S73))).bind fun y281 => (if x7_1 = true then ((some (([] : List (S73)) : List (S73))).bind fun y284 => (if y284.length + l0.length < 3518437208883 then (some ((y284 ++ l0), false)) else (none))) else ((spec_AreClaims.f y281).bind fun t290 => (if t290 = true then (some (y281, true)) else ((some (([] : List (S73)) : List (S73))).bind fun y291 => (if y291.length + l0.length < 3518437208883 then (some ((y291 ++ l0), false)) else (none))))))) else (none))) = some (r1, r2) := by first | (rw [hy274]; with_reducible exact H) | (have H2_ := (Option.bind_some _ _).symm.trans H; rw [hy274]; with_reducible exact H2_) | (have H2_ := (Option.bind_some _ _).symm.trans H; with_reducible exact H2_) | with_reducible exact H | (rw [hy274]; exact H) | exact H
        have Ny274 := Aside0.mk hy274
        clear hy274
        have c29b0 := eq_true (of_decide_eq_true as_ : 0 ≤ x6_1)
        have c30b0 := eq_true (of_decide_eq_true as_ : x6_1 ≤ (l0.length : Int))
        obtain ⟨y277, hy277⟩ : ∃ y_ : List (S73), y_ = (l0.drop (x6_1 : Int).toNat) := ⟨_, rfl⟩
        replace H : (if y274.length + y277.length < 3518437208883 then ((some (y274 ++ y277 : List (S73))).bind fun y281 => (if x7_1 = true then ((some (([] : List (S73)) : List (S73))).bind fun y284 => (if y284.length + l0.length < 3518437208883 then (some ((y284 ++ l0), false)) else (none))) else ((spec_AreClaims.f y281).bind fun t290 => (if t290 = true then (some (y281, true)) else ((some (([] : List (S73)) : List (S73))).bind fun y291 => (if y291.length + l0.length < 3518437208883 then (some ((y291 ++ l0), false)) else (none))))))) else (none)) = some (r1, r2) := by first | (rw [hy277]; with_reducible exact H) | (have H2_ := (Option.bind_some _ _).symm.trans H; rw [hy277]; with_reducible exact H2_) | (have H2_ := (Option.bind_some _ _).symm.trans H; with_reducible exact H2_) | with_reducible exact H | (rw [hy277]; exact H) | exact H
        have Ny277 := Aside0.mk hy277
        clear hy277
        by_cases c31 : y274.length + y277.length < 3518437208883
        ·
         rw [if_pos c31] at H
         have LMc31 := Aside0.mk c31
         clear c31
         obtain ⟨y281, hy281⟩ : ∃ y_ : List (S73), y_ = (y274 ++ y277) := ⟨_, rfl⟩
         replace H : (if x7_1 = true then ((some (([] : List (S73)) : List (S73))).bind fun y284 => (if y284.length + l0.length < 3518437208883 then (some ((y284 ++ l0), false)) else (none))) else ((spec_AreClaims.f y281).bind fun t290 => (if t290 = true then (some (y281, true)) else ((some (([] : List (S73)) : List (S73))).bind fun y291 => (if y291.length + l0.length < 3518437208883 then (some ((y291 ++ l0), false)) else (none)))))) = some (r1, r2) := by first | (rw [hy281]; with_reducible exact H) | (have H2_ := (Option.bind_some _ _).symm.trans H; rw [hy281]; with_reducible exact H2_) | (have H2_ := (Option.bind_some _ _).symm.trans H; with_reducible exact H2_) | with_reducible exact H | (rw [hy281]; exact H) | exact H
         have Ny281 := Aside0.mk hy281
         clear hy281
         have HH_ := Aside0.mk H
         clear H
         try go_wp2
         have n0_ := Aside0.mk (blk_drew BK255.out)
         have n1_ := Aside0.mk (below_drew1 HB.out)
         clear BK255
         clear HB
         have BK255 := n0_
         have HB := n1_
         clear n0_ n1_
         have q35 : (x6_1 : Int) ≤ ((l0.length : Int) : Int) := of_decide_eq_true as_
         obtain ⟨i035, hi035, _, hsz35, _⟩ := info_parts info73
         have hroom35 : l0.length ≤ c0 := HC0.out
         have hC35 : Kd.C k73 _ A0 l0.length l0 := HR0.out
         have hcut35 := cut_to (P := Tryd.prog) 25 73 .i64 Tryd.underlying25 hi035 A0 l0.length c0 x6_1 (of_decide_eq_true as_) q35 hroom35
         have hr35 := Kd.C_take (m := (x6_1 : Int).toNat) hC35 (by omega)
         have hy35 : y264.length = (x6_1 : Int).toNat := (by rw [Ny264.out, List.length_take]; omega)
         rw [← Ny264.out] at hr35
         rw [← hy35] at hcut35
         have HR267 := Aside0.mk hr35
         have HC267 := Aside0.mk (show y264.length ≤ c0 from by omega)
         clear hr35 hC35 hroom35 hi035 hsz35
         have KY35 := Aside0.mk hy35
         clear hy35
         replace q35 := eq_true q35
         have q36 : (x6_1 : Int) ≤ ((l0.length : Int) : Int) := of_decide_eq_true as_
         obtain ⟨i036, hi036, _, hsz36, _⟩ := info_parts info73
         have hroom36 : l0.length ≤ c0 := HC0.out
         have hC36 : Kd.C k73 _ A0 l0.length l0 := HR0.out
         have q036 : (0 : Int) ≤ (x6_1 : Int) := of_decide_eq_true as_
         have hcut36 := cut_from (P := Tryd.prog) 25 73 .i64 Tryd.underlying25 hi036 5 hsz36 A0 l0.length c0 x6_1 q036 q36
         have hr36 := Kd.C_drop (m := (x6_1 : Int).toNat) (c := c0) hC36 (by omega) hroom36
         obtain ⟨A36, hA36⟩ : ∃ A1, A1 = (if c0 = (x6_1 : Int).toNat then A0 else (A0 : Option Addr).map (·.add ((x6_1 : Int).toNat * 5))) := ⟨_, rfl⟩
         obtain ⟨c36, hc36⟩ : ∃ c1, c1 = c0 - (x6_1 : Int).toNat := ⟨_, rfl⟩
         have hy36 : y277.length = l0.length - (x6_1 : Int).toNat := (by rw [Ny277.out, List.length_drop] <;> omega)
         rw [show (l0).drop (x6_1 : Int).toNat = y277 from Ny277.out.symm] at hr36
         replace hr36 : Kd.C k73 _ A36 y277.length y277 := (by rw [hA36]; exact hr36)
         rw [← hy36, ← hA36, ← hc36] at hcut36
         have HR280 := Aside0.mk hr36
         have HC280 := Aside0.mk (show y277.length ≤ c36 from by rw [hy36, hc36]; exact Nat.sub_le_sub_right hroom36 _)
         clear hr36 hC36 hroom36 hi036 hsz36 hc36
         have KY36 := Aside0.mk hy36
         have KA36 := Aside0.mk hA36
         clear hy36 hA36
         replace q36 := eq_true q36
         refine start_ (n := 13) (S := fun w' => q1e_ w' gb255 a1_0 a1_1 a1_2 a1_3 a1_4) (ds := []) M0_34 (by kernel_rfl) rfl rfl (k1e_ BK255.out) (fun hHeld => ?_); refine with_tabW spec_AddClaim.tab9 spec_AddClaim.bits9 (fun HT_ HW_ => ?_)
         generalize wr.drew = w34 at BK255 HB HR267 HR280 hHeld ⊢
         refine pu_ 1 (some 51) M0_35 HT_ ?_
         refine pu_ 2 (some 52) M0_36 HT_ ?_
         refine pu_ 3 (some 53) M0_37 HT_ ?_
         refine pu_ 8 (some 58) M0_38 HT_ ?_
         refine pu_ 9 (some 59) M0_39 HT_ ?_
         refine pu_ 10 (some 60) M0_40 HT_ ?_
         refine tk_ 5 (some 55) M0_41 HT_ HW_ hHeld ?_
         refine join_ (σ := Value × Value × Value) 3 M0_42 (fun s_ => [(50, s_.1), (54, s_.2.1), (56, s_.2.2)]) (fun s_ w' => (q1e_ w' gb255 a1_0 a1_1 a1_2 a1_3 a1_4) ∧ (Kd.R k73 73 w' w.heap.size (fun k_ => some k_ ≠ (s_.2.2 : Value).ownBlock ∧ k_ ≠ gb255) s_.2.1 y268) ∧ (Kd.R k73 73 w' w.heap.size (fun k_ => some k_ ≠ (s_.2.1 : Value).ownBlock ∧ k_ ≠ gb255) s_.2.2 y271) ∧ (w'.heap[gb255]? = some (c60_ a1_0 a1_1 a1_2 a1_3 a1_4)) ∧ (Below w.heap.size w w')) ?_ ?_
         rotate_left
         ·
          intro hCont
          refine two_ (i := 0) (j := 6) (Ni := some 50) (Nj := some 56) M0_43 M0_44 rfl rfl rfl rfl (two_of HT_.out (by kernel_rfl)) (by decide) (by decide) (fun K hK => ?_) (fun K hK => ?_)
          ·
           skip
           refine Kd.R_lit_step k73 _ 73 ?hg (N := 50) ?hd (xs := ([] : List (S73))) (inner := []) (ok := fun _ => True) (okp := fun _ => True) ?hr ?hp (fun _ hk => hk) trivial (Below.refl _ _) (Nat.le_refl _) (by simp) ?_; (case hd => rfl); (case hg => rfl); (case hr => first | (go_simp; done) | (go_simp; rfl)); (case hp => exact (Reps.none _ _))
           intro v262 w37 ho38 hb hg_ hnew_
           clear hg_ hnew_
           (first | rw [← Ny261.out] at ho38 | (simp only [Int.reduceToNat] at ho38; rw [← Ny261.out] at ho38))
           have HO263 := Aside0.mk (Kd.R_lower (Kd.R_newB ho38 (g := gb255) (o := c60_ a1_0 a1_1 a1_2 a1_3 a1_4) (bd_ BK255.out)) (below_size y63_))
           have n1_ := Aside0.mk (blk_below (bd_ BK255.out) hb)
           have n2_ := Aside0.mk (below_step y63_ hb)
           clear BK255
           clear HB
           have BK255 := n1_
           have HB := n2_
           clear n1_ n2_
           clear hb ho38
           refine hK.out _ _ (k1e_ BK255.out) (fun hHeld => ?_)
           clear hK K
           refine norm_ (a' := ?_) ?_ ?_
           rotate_left
           ·
            show Act.put _ (some 50) _ = _
            simp only [Act.put, P0_1, P0_2, P0_3, i64_w, i32_w]
            rfl
           refine two_ (i := 4) (j := 6) (Ni := some 54) (Nj := some 56) M0_45 M0_46 rfl rfl rfl rfl (two_of HT_.out (by kernel_rfl)) (by decide) (by decide) (fun K hK => ?_) (fun K hK => ?_)
           ·
            skip
            refine Kd.R_append_rows_step k73 (w0 := w) w.heap.size (by rfl) (.tmp 50) (.tmp 53) 25 73 (.agg #[(.int .i64 0), (.int .i64 0), (.int .i64 0), (.int .i64 0), (.int .i64 0)]) 40 rfl Tryd.underlying25 info73 rfl (by decide) (by omega) v262 y261 y264 _ _ _ (fun k_ => k_ ≠ gb255) (fun _ => False) rfl rfl ?aO ?aR (fun _ _ h => h) (fun _ h => h.elim) ?aF ?aB ?aS ?aL ?_
            (case aR => repeat (first | exact (Kd.C_below HR267.out HB.out) | (with_reducible refine Kd.C_alloc ?_ _) | (with_reducible refine Kd.C_drewN ?_ _) | (with_reducible refine Kd.C_drew ?_)))
            (case aB => exact y63_)
            (case aF => exact (fun k_ hk => Kd.freshB (g := gb255) (o := c60_ a1_0 a1_1 a1_2 a1_3 a1_4) (bd_ BK255.out) k_ hk))
            (case aO => exact y79_)
            (case aS => exact (below_size y63_))
            (case aL => have := LMc27.out; omega)
            intro v269 w39 ho hb hg hat
            rw [← Ny268.out] at ho
            have n0_ := Aside0.mk (blk_grown (g := gb255) (o := c60_ a1_0 a1_1 a1_2 a1_3 a1_4) (bd_ BK255.out) hg (Kd.R_away HO263.out (fun _ hk => hk.2)))
            have n1_ := Aside0.mk (hb)
            have HO270 := Aside0.mk (ho)
            clear BK255
            clear HB
            clear HO263
            have BK255 := n0_
            have HB := n1_
            clear n0_ n1_
            clear ho hb hg hat
            refine hK.out _ _ (k1e_ BK255.out) (fun hHeld => ?_)
            clear hK K
            refine norm_ (a' := ?_) ?_ ?_
            rotate_left
            ·
             show Act.put _ (some 54) _ = _
             simp only [Act.put, P0_1, P0_2, P0_3, i64_w, i32_w]
             rfl
            refine one_ (i := 6) (N := some 56) M0_42 rfl rfl (one_of HT_.out (by kernel_rfl)) (by decide) (fun K hK => ?_)
            refine Kd.R_lit_step k73 _ 73 ?hg (N := 56) ?hd (xs := ([(⟨a1_0, a1_1, a1_2, a1_3, a1_4⟩ : S73)] : List (S73))) (inner := [.int .i64 a1_0, .int .i64 a1_1, .int .i64 a1_2, .int .i64 a1_3, .int .i64 a1_4]) (ok := fun _ => True) (okp := fun _ => True) ?hr ?hp (fun _ hk => hk) trivial (Below.refl _ _) (Nat.le_refl _) (by simp) ?_; (case hd => rfl); (case hg => rfl); (case hr => first | (go_simp; done) | (go_simp; rfl)); (case hp => exact (Reps.c5 (show Kd.M k73 _ _ _ (⟨a1_0, a1_1, a1_2, a1_3, a1_4⟩ : S73) [.int .i64 a1_0, .int .i64 a1_1, .int .i64 a1_2, .int .i64 a1_3, .int .i64 a1_4] from (k73_mkM _ _ _ (⟨a1_0, a1_1, a1_2, a1_3, a1_4⟩ : S73) )) (Reps.none _ _)))
            intro v272 w40 ho41 hb hg_ hnew_
            clear hg_ hnew_
            (first | rw [← Ny271.out] at ho41 | (simp only [Int.reduceToNat] at ho41; rw [← Ny271.out] at ho41))
            have n0_ := Aside0.mk (Kd.R_elder' (rd_ HO270.out) (Kd.R_base ho41) hb)
            have HO273 := Aside0.mk (Kd.R_lower (Kd.R_newB (Kd.R_new' ho41 (Kd.R_lt (rd_ HO270.out))) (g := gb255) (o := c60_ a1_0 a1_1 a1_2 a1_3 a1_4) (bd_ BK255.out)) (below_size y63_))
            have n2_ := Aside0.mk (blk_below (bd_ BK255.out) hb)
            have n3_ := Aside0.mk (below_step y63_ hb)
            clear HO270
            clear BK255
            clear HB
            have HO270 := n0_
            have BK255 := n2_
            have HB := n3_
            clear n0_ n2_ n3_
            clear hb ho41
            refine hK.out _ _ (k1e_ BK255.out) (fun hHeld => ?_)
            clear hK K
            refine norm_ (a' := ?_) ?_ ?_
            rotate_left
            ·
             show Act.put _ (some 56) _ = _
             simp only [Act.put, P0_1, P0_2, P0_3, i64_w, i32_w]
             rfl
            exact norm_ y72_ (hCont (v262, v269, v272) _ ⟨hHeld, y78_, y73_, bd_ BK255.out, y63_⟩)
           ·
            skip
            refine Kd.R_lit_step k73 _ 73 ?hg (N := 56) ?hd (xs := ([(⟨a1_0, a1_1, a1_2, a1_3, a1_4⟩ : S73)] : List (S73))) (inner := [.int .i64 a1_0, .int .i64 a1_1, .int .i64 a1_2, .int .i64 a1_3, .int .i64 a1_4]) (ok := fun _ => True) (okp := fun _ => True) ?hr ?hp (fun _ hk => hk) trivial (Below.refl _ _) (Nat.le_refl _) (by simp) ?_; (case hd => rfl); (case hg => rfl); (case hr => first | (go_simp; done) | (go_simp; rfl)); (case hp => exact (Reps.c5 (show Kd.M k73 _ _ _ (⟨a1_0, a1_1, a1_2, a1_3, a1_4⟩ : S73) [.int .i64 a1_0, .int .i64 a1_1, .int .i64 a1_2, .int .i64 a1_3, .int .i64 a1_4] from (k73_mkM _ _ _ (⟨a1_0, a1_1, a1_2, a1_3, a1_4⟩ : S73) )) (Reps.none _ _)))
            intro v272 w39 ho40 hb hg_ hnew_
            clear hg_ hnew_
            (first | rw [← Ny271.out] at ho40 | (simp only [Int.reduceToNat] at ho40; rw [← Ny271.out] at ho40))
            have n0_ := Aside0.mk (Kd.R_elder' (rd_ HO263.out) (Kd.R_base ho40) hb)
            have HO273 := Aside0.mk (Kd.R_lower (Kd.R_newB (Kd.R_new' ho40 (Kd.R_lt (rd_ HO263.out))) (g := gb255) (o := c60_ a1_0 a1_1 a1_2 a1_3 a1_4) (bd_ BK255.out)) (below_size y63_))
            have n2_ := Aside0.mk (blk_below (bd_ BK255.out) hb)
            have n3_ := Aside0.mk (below_step y63_ hb)
            clear HO263
            clear BK255
            clear HB
            have HO263 := n0_
            have BK255 := n2_
            have HB := n3_
            clear n0_ n2_ n3_
            clear hb ho40
            refine hK.out _ _ (k1e_ BK255.out) (fun hHeld => ?_)
            clear hK K
            refine norm_ (a' := ?_) ?_ ?_
            rotate_left
            ·
             show Act.put _ (some 56) _ = _
             simp only [Act.put, P0_1, P0_2, P0_3, i64_w, i32_w]
             rfl
            refine one_ (i := 4) (N := some 54) M0_42 rfl rfl (one_of HT_.out (by kernel_rfl)) (by decide) (fun K hK => ?_)
            refine Kd.R_append_rows_step k73 (w0 := w) w.heap.size (by rfl) (.tmp 50) (.tmp 53) 25 73 (.agg #[(.int .i64 0), (.int .i64 0), (.int .i64 0), (.int .i64 0), (.int .i64 0)]) 40 rfl Tryd.underlying25 info73 rfl (by decide) (by omega) v262 y261 y264 _ _ _ (fun k_ => some k_ ≠ (v272 : Value).ownBlock ∧ k_ ≠ gb255) (fun _ => False) rfl rfl ?aO ?aR (fun _ _ h => h) (fun _ h => h.elim) ?aF ?aB ?aS ?aL ?_
            (case aR => repeat (first | exact (Kd.C_below HR267.out HB.out) | (with_reducible refine Kd.C_alloc ?_ _) | (with_reducible refine Kd.C_drewN ?_ _) | (with_reducible refine Kd.C_drew ?_)))
            (case aB => exact y63_)
            (case aF => exact (fun k_ hk => ⟨Kd.fresh' (Kd.R_lt (rd_ HO273.out)) k_ hk, Kd.freshB (g := gb255) (o := c60_ a1_0 a1_1 a1_2 a1_3 a1_4) (bd_ BK255.out) k_ hk⟩))
            (case aO => exact y75_)
            (case aS => exact (below_size y63_))
            (case aL => have := LMc27.out; omega)
            intro v269 w41 ho hb hg hat
            rw [← Ny268.out] at ho
            have n0_ := Aside0.mk (blk_grown (g := gb255) (o := c60_ a1_0 a1_1 a1_2 a1_3 a1_4) (bd_ BK255.out) hg (Kd.R_away HO263.out (fun _ hk => hk.1.2)))
            have n1_ := Aside0.mk (Kd.R_after (ok := (fun k_ => k_ ≠ gb255)) y76_ hg hat)
            have n2_ := Aside0.mk (hb)
            have HO270 := Aside0.mk (ho)
            clear BK255
            clear HO273
            clear HB
            clear HO263
            have BK255 := n0_
            have HO273 := n1_
            have HB := n2_
            clear n0_ n1_ n2_
            clear ho hb hg hat
            refine hK.out _ _ (k1e_ BK255.out) (fun hHeld => ?_)
            clear hK K
            refine norm_ (a' := ?_) ?_ ?_
            rotate_left
            ·
             show Act.put _ (some 54) _ = _
             simp only [Act.put, P0_1, P0_2, P0_3, i64_w, i32_w]
             rfl
            exact norm_ y72_ (hCont (v262, v269, v272) _ ⟨hHeld, rd_ HO270.out, y69_, bd_ BK255.out, y63_⟩)
          ·
           skip
           refine Kd.R_lit_step k73 _ 73 ?hg (N := 56) ?hd (xs := ([(⟨a1_0, a1_1, a1_2, a1_3, a1_4⟩ : S73)] : List (S73))) (inner := [.int .i64 a1_0, .int .i64 a1_1, .int .i64 a1_2, .int .i64 a1_3, .int .i64 a1_4]) (ok := fun _ => True) (okp := fun _ => True) ?hr ?hp (fun _ hk => hk) trivial (Below.refl _ _) (Nat.le_refl _) (by simp) ?_; (case hd => rfl); (case hg => rfl); (case hr => first | (go_simp; done) | (go_simp; rfl)); (case hp => exact (Reps.c5 (show Kd.M k73 _ _ _ (⟨a1_0, a1_1, a1_2, a1_3, a1_4⟩ : S73) [.int .i64 a1_0, .int .i64 a1_1, .int .i64 a1_2, .int .i64 a1_3, .int .i64 a1_4] from (k73_mkM _ _ _ (⟨a1_0, a1_1, a1_2, a1_3, a1_4⟩ : S73) )) (Reps.none _ _)))
           intro v272 w37 ho38 hb hg_ hnew_
           clear hg_ hnew_
           (first | rw [← Ny271.out] at ho38 | (simp only [Int.reduceToNat] at ho38; rw [← Ny271.out] at ho38))
           have HO273 := Aside0.mk (Kd.R_lower (Kd.R_newB ho38 (g := gb255) (o := c60_ a1_0 a1_1 a1_2 a1_3 a1_4) (bd_ BK255.out)) (below_size y63_))
           have n1_ := Aside0.mk (blk_below (bd_ BK255.out) hb)
           have n2_ := Aside0.mk (below_step y63_ hb)
           clear BK255
           clear HB
           have BK255 := n1_
           have HB := n2_
           clear n1_ n2_
           clear hb ho38
           refine hK.out _ _ (k1e_ BK255.out) (fun hHeld => ?_)
           clear hK K
           refine norm_ (a' := ?_) ?_ ?_
           rotate_left
           ·
            show Act.put _ (some 56) _ = _
            simp only [Act.put, P0_1, P0_2, P0_3, i64_w, i32_w]
            rfl
           refine one_ (i := 0) (N := some 50) M0_46 rfl rfl (one_of HT_.out (by kernel_rfl)) (by decide) (fun K hK => ?_)
           refine Kd.R_lit_step k73 _ 73 ?hg (N := 50) ?hd (xs := ([] : List (S73))) (inner := []) (ok := fun _ => True) (okp := fun _ => True) ?hr ?hp (fun _ hk => hk) trivial (Below.refl _ _) (Nat.le_refl _) (by simp) ?_; (case hd => rfl); (case hg => rfl); (case hr => first | (go_simp; done) | (go_simp; rfl)); (case hp => exact (Reps.none _ _))
           intro v262 w39 ho40 hb hg_ hnew_
           clear hg_ hnew_
           (first | rw [← Ny261.out] at ho40 | (simp only [Int.reduceToNat] at ho40; rw [← Ny261.out] at ho40))
           have n0_ := Aside0.mk (Kd.R_elder' (rd_ HO273.out) (Kd.R_base ho40) hb)
           have HO263 := Aside0.mk (Kd.R_lower (Kd.R_newB (Kd.R_new' ho40 (Kd.R_lt (rd_ HO273.out))) (g := gb255) (o := c60_ a1_0 a1_1 a1_2 a1_3 a1_4) (bd_ BK255.out)) (below_size y63_))
           have n2_ := Aside0.mk (blk_below (bd_ BK255.out) hb)
           have n3_ := Aside0.mk (below_step y63_ hb)
           clear HO273
           clear BK255
           clear HB
           have HO273 := n0_
           have BK255 := n2_
           have HB := n3_
           clear n0_ n2_ n3_
           clear hb ho40
           refine hK.out _ _ (k1e_ BK255.out) (fun hHeld => ?_)
           clear hK K
           refine norm_ (a' := ?_) ?_ ?_
           rotate_left
           ·
            show Act.put _ (some 50) _ = _
            simp only [Act.put, P0_1, P0_2, P0_3, i64_w, i32_w]
            rfl
           refine one_ (i := 4) (N := some 54) M0_42 rfl rfl (one_of HT_.out (by kernel_rfl)) (by decide) (fun K hK => ?_)
           refine Kd.R_append_rows_step k73 (w0 := w) w.heap.size (by rfl) (.tmp 50) (.tmp 53) 25 73 (.agg #[(.int .i64 0), (.int .i64 0), (.int .i64 0), (.int .i64 0), (.int .i64 0)]) 40 rfl Tryd.underlying25 info73 rfl (by decide) (by omega) v262 y261 y264 _ _ _ (fun k_ => some k_ ≠ (v272 : Value).ownBlock ∧ k_ ≠ gb255) (fun _ => False) rfl rfl ?aO ?aR (fun _ _ h => h) (fun _ h => h.elim) ?aF ?aB ?aS ?aL ?_
           (case aR => repeat (first | exact (Kd.C_below HR267.out HB.out) | (with_reducible refine Kd.C_alloc ?_ _) | (with_reducible refine Kd.C_drewN ?_ _) | (with_reducible refine Kd.C_drew ?_)))
           (case aB => exact y63_)
           (case aF => exact (fun k_ hk => ⟨Kd.fresh' (Kd.R_lt (rd_ HO273.out)) k_ hk, Kd.freshB (g := gb255) (o := c60_ a1_0 a1_1 a1_2 a1_3 a1_4) (bd_ BK255.out) k_ hk⟩))
           (case aO => exact y77_)
           (case aS => exact (below_size y63_))
           (case aL => have := LMc27.out; omega)
           intro v269 w41 ho hb hg hat
           rw [← Ny268.out] at ho
           have n0_ := Aside0.mk (blk_grown (g := gb255) (o := c60_ a1_0 a1_1 a1_2 a1_3 a1_4) (bd_ BK255.out) hg (Kd.R_away HO263.out (fun _ hk => hk.2)))
           have n1_ := Aside0.mk (Kd.R_after (ok := (fun k_ => k_ ≠ gb255)) y73_ hg hat)
           have n2_ := Aside0.mk (hb)
           have HO270 := Aside0.mk (ho)
           clear BK255
           clear HO273
           clear HB
           clear HO263
           have BK255 := n0_
           have HO273 := n1_
           have HB := n2_
           clear n0_ n1_ n2_
           clear ho hb hg hat
           refine hK.out _ _ (k1e_ BK255.out) (fun hHeld => ?_)
           clear hK K
           refine norm_ (a' := ?_) ?_ ?_
           rotate_left
           ·
            show Act.put _ (some 54) _ = _
            simp only [Act.put, P0_1, P0_2, P0_3, i64_w, i32_w]
            rfl
           exact norm_ y72_ (hCont (v262, v269, v272) _ ⟨hHeld, rd_ HO270.out, y69_, bd_ BK255.out, y63_⟩)
         rintro ⟨v262, v269, v272⟩ w42 ⟨hS_, h0_, h1_, h2_, h3_⟩
         have HO270 : Aside0 (Kd.R k73 73 w42 w.heap.size (fun k_ => some k_ ≠ (v272 : Value).ownBlock ∧ k_ ≠ gb255) v269 y268) := ⟨h0_⟩
         have HO273 : Aside0 (Kd.R k73 73 w42 w.heap.size (fun k_ => some k_ ≠ (v269 : Value).ownBlock ∧ k_ ≠ gb255) v272 y271) := ⟨h1_⟩
         have n2_ : Aside0 (w42.heap[gb255]? = some (c60_ a1_0 a1_1 a1_2 a1_3 a1_4)) := ⟨h2_⟩
         have n3_ : Aside0 (Below w.heap.size w w42) := ⟨h3_⟩
         clear BK255
         clear HB
         clear h0_ h1_ h2_ h3_
         have BK255 := n2_
         have HB := n3_
         clear n2_ n3_
         have hHeld : q1e_ w42 gb255 a1_0 a1_1 a1_2 a1_3 a1_4 := hS_
         obtain ⟨Ao44, co44, eo44⟩ := Kd.R_slice HO273.out
         (first | subst eo44 | (injection eo44 with f1_ f2_ f3_; have f4_ := f1_.symm; have f5_ := f3_.symm; clear f1_ f2_ f3_; subst f4_; subst f5_))
         refine norm_ (a' := ?_) ?_ ?_
         rotate_left
         ·
          simp only [putAll, Act.put, List.setIfInBounds_toArray, List.set_cons_zero, List.set_cons_succ]
          rfl
         refine one_ (i := 7) (N := some 57) M0_47 rfl rfl (one_of HT_.out (by kernel_rfl)) (by decide) (fun K hK => ?_)
         refine Kd.R_append_rows_step k73 (w0 := w) w.heap.size (by rfl) (.tmp 54) (.tmp 56) 25 73 (.agg #[(.int .i64 0), (.int .i64 0), (.int .i64 0), (.int .i64 0), (.int .i64 0)]) 40 rfl Tryd.underlying25 info73 rfl (by decide) (by omega) v269 y268 y271 _ _ _ (fun k_ => some k_ ≠ (.slice Ao44 y271.length co44 : Value).ownBlock ∧ k_ ≠ gb255) (fun _ => False) rfl rfl ?aO ?aR (fun _ _ h => h) (fun _ h => h.elim) ?aF ?aB ?aS ?aL ?_
         (case aR => repeat (first | exact (Kd.R_reads' HO273.out).2.2 | (with_reducible refine Kd.C_alloc ?_ _) | (with_reducible refine Kd.C_drewN ?_ _) | (with_reducible refine Kd.C_drew ?_)))
         (case aB => exact y63_)
         (case aF => exact (fun k_ hk => ⟨Kd.fresh' (Kd.R_lt (rd_ HO273.out)) k_ hk, Kd.freshB (g := gb255) (o := c60_ a1_0 a1_1 a1_2 a1_3 a1_4) (bd_ BK255.out) k_ hk⟩))
         (case aO => exact rd_ HO270.out)
         (case aS => exact (below_size y63_))
         (case aL => have := LMc28.out; omega)
         intro v275 w43 ho hb hg hat
         rw [← Ny274.out] at ho
         have n0_ := Aside0.mk (blk_grown (g := gb255) (o := c60_ a1_0 a1_1 a1_2 a1_3 a1_4) (bd_ BK255.out) hg (Kd.R_away HO270.out (fun _ hk => hk.2)))
         have n1_ := Aside0.mk (Kd.R_after (ok := (fun k_ => k_ ≠ gb255)) y69_ hg hat)
         have n2_ := Aside0.mk (hb)
         have HO276 := Aside0.mk (ho)
         clear BK255
         clear HO273
         clear HB
         clear HO270
         have BK255 := n0_
         have HO273 := n1_
         have HB := n2_
         clear n0_ n1_ n2_
         clear ho hb hg hat
         refine hK.out _ _ (k1e_ BK255.out) (fun hHeld => ?_)
         clear hK K
         refine norm_ (a' := ?_) ?_ ?_
         rotate_left
         ·
          show Act.put _ (some 57) _ = _
          simp only [Act.put, P0_1, P0_2, P0_3, i64_w, i32_w]
          rfl
         refine one_ (i := 11) (N := some 61) M0_48 rfl rfl (one_of HT_.out (by kernel_rfl)) (by decide) (fun K hK => ?_)
         refine Kd.R_append_rows_step k73 (w0 := w) w.heap.size (by rfl) (.tmp 57) (.tmp 60) 25 73 (.agg #[(.int .i64 0), (.int .i64 0), (.int .i64 0), (.int .i64 0), (.int .i64 0)]) 40 rfl Tryd.underlying25 info73 rfl (by decide) (by omega) v275 y274 y277 _ _ _ (fun k_ => some k_ ≠ (.slice Ao44 y271.length co44 : Value).ownBlock ∧ k_ ≠ gb255) (fun _ => False) rfl rfl ?aO ?aR (fun _ _ h => h) (fun _ h => h.elim) ?aF ?aB ?aS ?aL ?_
         (case aR => repeat (first | exact (Kd.C_below HR280.out HB.out) | (with_reducible refine Kd.C_alloc ?_ _) | (with_reducible refine Kd.C_drewN ?_ _) | (with_reducible refine Kd.C_drew ?_)))
         (case aB => exact y63_)
         (case aF => exact (fun k_ hk => ⟨Kd.fresh' (Kd.R_lt (rd_ HO273.out)) k_ hk, Kd.freshB (g := gb255) (o := c60_ a1_0 a1_1 a1_2 a1_3 a1_4) (bd_ BK255.out) k_ hk⟩))
         (case aO => exact rd_ HO276.out)
         (case aS => exact (below_size y63_))
         (case aL => have := LMc31.out; omega)
         intro v282 w45 ho hb hg hat
         rw [← Ny281.out] at ho
         have n0_ := Aside0.mk (blk_grown (g := gb255) (o := c60_ a1_0 a1_1 a1_2 a1_3 a1_4) (bd_ BK255.out) hg (Kd.R_away HO276.out (fun _ hk => hk.2)))
         have n1_ := Aside0.mk (Kd.R_after (ok := (fun k_ => k_ ≠ gb255)) (rd_ HO273.out) hg hat)
         have n2_ := Aside0.mk (hb)
         have HO283 := Aside0.mk (ho)
         clear BK255
         clear HO273
         clear HB
         clear HO276
         have BK255 := n0_
         have HO273 := n1_
         have HB := n2_
         clear n0_ n1_ n2_
         clear ho hb hg hat
         refine hK.out _ _ (k1e_ BK255.out) (fun hHeld => ?_)
         clear hK K
         refine norm_ (a' := ?_) ?_ ?_
         rotate_left
         ·
          show Act.put _ (some 61) _ = _
          simp only [Act.put, P0_1, P0_2, P0_3, i64_w, i32_w]
          rfl
         refine pu_ 12 (some 9) M0_49 HT_ ?_
         refine done_ (done_of HT_.out (by kernel_rfl)) ?_
         have H := HH_.out
         clear HH_
         by_cases c32 : x7_1 = true
         ·
          subst c32
          have H1 : ((some (([] : List (S73)) : List (S73))).bind fun y284 => (if y284.length + l0.length < 3518437208883 then (some ((y284 ++ l0), false)) else (none))) = some (r1, r2) := by rw [if_pos rfl] at H; exact H
          clear H
          have H := H1
          clear H1
          obtain ⟨y284, hy284⟩ : ∃ y_ : List (S73), y_ = (([] : List (S73))) := ⟨_, rfl⟩
          replace H : (if y284.length + l0.length < 3518437208883 then (some ((y284 ++ l0), false)) else (none)) = some (r1, r2) := by first | (rw [hy284]; with_reducible exact H) | (have H2_ := (Option.bind_some _ _).symm.trans H; rw [hy284]; with_reducible exact H2_) | (have H2_ := (Option.bind_some _ _).symm.trans H; with_reducible exact H2_) | with_reducible exact H | (rw [hy284]; exact H) | exact H
          have Ny284 := Aside0.mk hy284
          clear hy284
          by_cases c33 : y284.length + l0.length < 3518437208883
          ·
           rw [if_pos c33] at H
           have LMc33 := Aside0.mk c33
           clear c33
           obtain ⟨y287, hy287⟩ : ∃ y_ : List (S73), y_ = (y284 ++ l0) := ⟨_, rfl⟩
           replace H : (some (y287, false)) = some (r1, r2) := by first | (rw [hy287]; with_reducible exact H) | (have H2_ := (Option.bind_some _ _).symm.trans H; rw [hy287]; with_reducible exact H2_) | (have H2_ := (Option.bind_some _ _).symm.trans H; with_reducible exact H2_) | with_reducible exact H | (rw [hy287]; exact H) | exact H
           have Ny287 := Aside0.mk hy287
           clear hy287
           simp only [Option.some.injEq, Prod.mk.injEq] at H
           obtain ⟨rfl, rfl⟩ := H
           try go_wp2_with (first | ((with_reducible refine gate_dst (N := 68) rfl ?_); refine Kd.R_lit k73 _ 73 ?hg (N := 68) ?hd (xs := ([] : List (S73))) (inner := []) (ok := fun _ => True) (okp := fun _ => True) ?hr ?hp (fun _ hk => hk) trivial (Below.refl _ _) (Nat.le_refl _) (by simp) ?_; (case hd => rfl); (case hg => rfl); (case hr => first | (go_simp; done) | (go_simp; rfl)); (case hp => exact (Reps.none _ _)); intro v285 w46 ho47 hb hg_ hnew_; clear hg_ hnew_; (first | rw [← Ny284.out] at ho47 | (simp only [Int.reduceToNat] at ho47; rw [← Ny284.out] at ho47)); have n0_ := Aside0.mk (Kd.R_elder' (rd_ HO273.out) (Kd.R_base ho47) hb); have n1_ := Aside0.mk (Kd.R_elder' (rd_ HO283.out) (Kd.R_base ho47) hb); have HO286 := Aside0.mk (Kd.R_lower (Kd.R_newB (Kd.R_new' (Kd.R_new' ho47 (Kd.R_lt (rd_ HO273.out))) (Kd.R_lt (rd_ HO283.out))) (g := gb255) (o := c60_ a1_0 a1_1 a1_2 a1_3 a1_4) (bd_ BK255.out)) (below_size y63_)); have n3_ := Aside0.mk (blk_below (bd_ BK255.out) hb); have n4_ := Aside0.mk (below_step y63_ hb); clear HO273; clear HO283; clear BK255; clear HB; have HO273 := n0_; have HO283 := n1_; have BK255 := n3_; have HB := n4_; clear n0_ n1_ n3_ n4_; clear hb ho47) | ((with_reducible refine gate_builtin (b := .append) (xs := #[.tmp 68, .tmp 69]) rfl ?_); at_builtin; refine Kd.R_append_rows k73 (w0 := w) w.heap.size rfl (.tmp 68) (.tmp 69) 25 73 (.agg #[(.int .i64 0), (.int .i64 0), (.int .i64 0), (.int .i64 0), (.int .i64 0)]) 40 rfl Tryd.underlying25 info73 rfl (by decide) (by omega) v285 y284 l0 _ _ _ (fun k_ => some k_ ≠ (.slice Ao44 y271.length co44 : Value).ownBlock ∧ some k_ ≠ (v282 : Value).ownBlock ∧ k_ ≠ gb255) (fun _ => False) rfl rfl ?aO ?aR (fun _ _ h => h) (fun _ h => h.elim) ?aF ?aB ?aS ?aL ?_; (case aR => repeat (first | exact (Kd.C_below HR0.out HB.out) | (with_reducible refine Kd.C_alloc ?_ _) | (with_reducible refine Kd.C_drewN ?_ _) | (with_reducible refine Kd.C_drew ?_))); (case aB => exact y63_); (case aF => exact (fun k_ hk => ⟨Kd.fresh' (Kd.R_lt (rd_ HO273.out)) k_ hk, Kd.fresh' (Kd.R_lt (rd_ HO283.out)) k_ hk, Kd.freshB (g := gb255) (o := c60_ a1_0 a1_1 a1_2 a1_3 a1_4) (bd_ BK255.out) k_ hk⟩)); (case aO => exact (by (with_reducible repeat (first | apply Kd.R_alloc | apply Kd.R_drewN | apply Kd.R_drew)); exact Kd.R_mono HO286.out (fun _ hk => ⟨hk.1.1.2, ⟨hk.1.2, hk.2⟩⟩))); (case aS => exact (below_size y63_)); (case aL => have := LMc33.out; omega); intro v288 w48 ho hb hg hat; rw [← Ny287.out] at ho; have n0_ := Aside0.mk (blk_grown (g := gb255) (o := c60_ a1_0 a1_1 a1_2 a1_3 a1_4) (bd_ BK255.out) hg (Kd.R_away HO286.out (fun _ hk => hk.2))); have n1_ := Aside0.mk (Kd.R_after (ok := (fun k_ => some k_ ≠ (v282 : Value).ownBlock ∧ k_ ≠ gb255)) (by (with_reducible repeat (first | apply Kd.R_alloc | apply Kd.R_drewN | apply Kd.R_drew)); exact Kd.R_mono HO273.out (fun _ hk => ⟨⟨hk.1.2, hk.1.1⟩, hk.2⟩)) hg hat); have n2_ := Aside0.mk (Kd.R_after (ok := (fun k_ => some k_ ≠ (.slice Ao44 y271.length co44 : Value).ownBlock ∧ k_ ≠ gb255)) (rd_ HO283.out) hg hat); have n3_ := Aside0.mk (hb); have HO289 := Aside0.mk (ho); clear BK255; clear HO273; clear HO283; clear HB; clear HO286; have BK255 := n0_; have HO273 := n1_; have HO283 := n2_; have HB := n3_; clear n0_ n1_ n2_ n3_; clear ho hb hg hat))
           go_ret2
           exact ⟨_, by first | rfl | (simp [errW_none, errW_some] <;> rfl) | (simp [*, errW_none, errW_some] <;> rfl), by (with_reducible repeat (first | apply Kd.R_alloc | apply Kd.R_drewN | apply Kd.R_drew)); exact Kd.R_mono HO289.out (fun _ hk => trivial), y67_⟩
          ·
           rw [if_neg c33] at H
           exact absurd H (by simp)
         ·
          replace c32 := Bool.eq_false_iff.mpr c32
          subst c32
          have H1 : ((spec_AreClaims.f y281).bind fun t290 => (if t290 = true then (some (y281, true)) else ((some (([] : List (S73)) : List (S73))).bind fun y291 => (if y291.length + l0.length < 3518437208883 then (some ((y291 ++ l0), false)) else (none))))) = some (r1, r2) := by rw [if_neg (show ¬ (false = true) by decide)] at H; exact H
          clear H
          have H := H1
          clear H1
          replace H := Option.bind_eq_some_iff.mp H
          obtain ⟨t290, A490, H⟩ := H
          replace H : (if t290 = true then (some (y281, true)) else ((some (([] : List (S73)) : List (S73))).bind fun y291 => (if y291.length + l0.length < 3518437208883 then (some ((y291 ++ l0), false)) else (none)))) = some (r1, r2) := H
          have A49 := Aside0.mk A490
          clear A490
          by_cases c50 : t290 = true
          ·
           subst c50
           have H1 : (some (y281, true)) = some (r1, r2) := by rw [if_pos rfl] at H; exact H
           clear H
           have H := H1
           clear H1
           simp only [Option.some.injEq, Prod.mk.injEq] at H
           obtain ⟨rfl, rfl⟩ := H
           obtain ⟨Ao63, co63, eo63⟩ := Kd.R_slice HO283.out
           subst eo63
           try go_wp2_with (first | (go_at_call 84; (with_reducible refine (spec_AreClaims.calls _ _ y281 true _ ?side1 ?side2 A49.out).mono ?_); (case side1 => exact cd_ (Kd.R_reads' HO283.out).2.2); (case side2 => exact (Kd.R_reads' HO283.out).2.1); rintro e w64 ⟨rfl, hb⟩; have n0_ := Aside0.mk (Kd.R_below (rd_ HO273.out) hb); have n1_ := Aside0.mk (Kd.R_below (rd_ HO283.out) hb); have n2_ := Aside0.mk (blk_below (bd_ BK255.out) hb); have n3_ := Aside0.mk (below_step y63_ hb); clear HO273; clear HO283; clear BK255; clear HB; have HO273 := n0_; have HO283 := n1_; have BK255 := n2_; have HB := n3_; clear n0_ n1_ n2_ n3_; (try clear hb)))
           go_ret2
           exact ⟨_, by first | rfl | (simp [errW_none, errW_some] <;> rfl) | (simp [*, errW_none, errW_some] <;> rfl), by (with_reducible repeat (first | apply Kd.R_alloc | apply Kd.R_drewN | apply Kd.R_drew)); exact Kd.R_mono HO283.out (fun _ hk => trivial), y67_⟩
          ·
           replace c50 := Bool.eq_false_iff.mpr c50
           subst c50
           have H1 : ((some (([] : List (S73)) : List (S73))).bind fun y291 => (if y291.length + l0.length < 3518437208883 then (some ((y291 ++ l0), false)) else (none))) = some (r1, r2) := by rw [if_neg (show ¬ (false = true) by decide)] at H; exact H
           clear H
           have H := H1
           clear H1
           obtain ⟨y291, hy291⟩ : ∃ y_ : List (S73), y_ = (([] : List (S73))) := ⟨_, rfl⟩
           replace H : (if y291.length + l0.length < 3518437208883 then (some ((y291 ++ l0), false)) else (none)) = some (r1, r2) := by first | (rw [hy291]; with_reducible exact H) | (have H2_ := (Option.bind_some _ _).symm.trans H; rw [hy291]; with_reducible exact H2_) | (have H2_ := (Option.bind_some _ _).symm.trans H; with_reducible exact H2_) | with_reducible exact H | (rw [hy291]; exact H) | exact H
           have Ny291 := Aside0.mk hy291
           clear hy291
           by_cases c65 : y291.length + l0.length < 3518437208883
           ·
            rw [if_pos c65] at H
            have LMc65 := Aside0.mk c65
            clear c65
            obtain ⟨y294, hy294⟩ : ∃ y_ : List (S73), y_ = (y291 ++ l0) := ⟨_, rfl⟩
            replace H : (some (y294, false)) = some (r1, r2) := by first | (rw [hy294]; with_reducible exact H) | (have H2_ := (Option.bind_some _ _).symm.trans H; rw [hy294]; with_reducible exact H2_) | (have H2_ := (Option.bind_some _ _).symm.trans H; with_reducible exact H2_) | with_reducible exact H | (rw [hy294]; exact H) | exact H
            have Ny294 := Aside0.mk hy294
            clear hy294
            simp only [Option.some.injEq, Prod.mk.injEq] at H
            obtain ⟨rfl, rfl⟩ := H
            obtain ⟨Ao78, co78, eo78⟩ := Kd.R_slice HO283.out
            subst eo78
            try go_wp2_with (first | (go_at_call 84; (with_reducible refine (spec_AreClaims.calls _ _ y281 false _ ?side1 ?side2 A49.out).mono ?_); (case side1 => exact cd_ (Kd.R_reads' HO283.out).2.2); (case side2 => exact (Kd.R_reads' HO283.out).2.1); rintro e w79 ⟨rfl, hb⟩; have n0_ := Aside0.mk (Kd.R_below (rd_ HO273.out) hb); have n1_ := Aside0.mk (Kd.R_below (rd_ HO283.out) hb); have n2_ := Aside0.mk (blk_below (bd_ BK255.out) hb); have n3_ := Aside0.mk (below_step y63_ hb); clear HO273; clear HO283; clear BK255; clear HB; have HO273 := n0_; have HO283 := n1_; have BK255 := n2_; have HB := n3_; clear n0_ n1_ n2_ n3_; (try clear hb)) | ((with_reducible refine gate_dst (N := 68) rfl ?_); refine Kd.R_lit k73 _ 73 ?hg (N := 68) ?hd (xs := ([] : List (S73))) (inner := []) (ok := fun _ => True) (okp := fun _ => True) ?hr ?hp (fun _ hk => hk) trivial (Below.refl _ _) (Nat.le_refl _) (by simp) ?_; (case hd => rfl); (case hg => rfl); (case hr => first | (go_simp; done) | (go_simp; rfl)); (case hp => exact (Reps.none _ _)); intro v292 w80 ho81 hb hg_ hnew_; clear hg_ hnew_; (first | rw [← Ny291.out] at ho81 | (simp only [Int.reduceToNat] at ho81; rw [← Ny291.out] at ho81)); have n0_ := Aside0.mk (Kd.R_elder' (rd_ HO273.out) (Kd.R_base ho81) hb); have n1_ := Aside0.mk (Kd.R_elder' (rd_ HO283.out) (Kd.R_base ho81) hb); have HO293 := Aside0.mk (Kd.R_lower (Kd.R_newB (Kd.R_new' (Kd.R_new' ho81 (Kd.R_lt (rd_ HO273.out))) (Kd.R_lt (rd_ HO283.out))) (g := gb255) (o := c60_ a1_0 a1_1 a1_2 a1_3 a1_4) (bd_ BK255.out)) (below_size y63_)); have n3_ := Aside0.mk (blk_below (bd_ BK255.out) hb); have n4_ := Aside0.mk (below_step y63_ hb); clear HO273; clear HO283; clear BK255; clear HB; have HO273 := n0_; have HO283 := n1_; have BK255 := n3_; have HB := n4_; clear n0_ n1_ n3_ n4_; clear hb ho81) | ((with_reducible refine gate_builtin (b := .append) (xs := #[.tmp 68, .tmp 69]) rfl ?_); at_builtin; refine Kd.R_append_rows k73 (w0 := w) w.heap.size rfl (.tmp 68) (.tmp 69) 25 73 (.agg #[(.int .i64 0), (.int .i64 0), (.int .i64 0), (.int .i64 0), (.int .i64 0)]) 40 rfl Tryd.underlying25 info73 rfl (by decide) (by omega) v292 y291 l0 _ _ _ (fun k_ => some k_ ≠ (.slice Ao44 y271.length co44 : Value).ownBlock ∧ some k_ ≠ (.slice Ao78 y281.length co78 : Value).ownBlock ∧ k_ ≠ gb255) (fun _ => False) rfl rfl ?aO ?aR (fun _ _ h => h) (fun _ h => h.elim) ?aF ?aB ?aS ?aL ?_; (case aR => repeat (first | exact (Kd.C_below HR0.out HB.out) | (with_reducible refine Kd.C_alloc ?_ _) | (with_reducible refine Kd.C_drewN ?_ _) | (with_reducible refine Kd.C_drew ?_))); (case aB => exact y63_); (case aF => exact (fun k_ hk => ⟨Kd.fresh' (Kd.R_lt (rd_ HO273.out)) k_ hk, Kd.fresh' (Kd.R_lt (rd_ HO283.out)) k_ hk, Kd.freshB (g := gb255) (o := c60_ a1_0 a1_1 a1_2 a1_3 a1_4) (bd_ BK255.out) k_ hk⟩)); (case aO => exact (by (with_reducible repeat (first | apply Kd.R_alloc | apply Kd.R_drewN | apply Kd.R_drew)); exact Kd.R_mono HO293.out (fun _ hk => ⟨hk.1.1.2, ⟨hk.1.2, hk.2⟩⟩))); (case aS => exact (below_size y63_)); (case aL => have := LMc65.out; omega); intro v295 w82 ho hb hg hat; rw [← Ny294.out] at ho; have n0_ := Aside0.mk (blk_grown (g := gb255) (o := c60_ a1_0 a1_1 a1_2 a1_3 a1_4) (bd_ BK255.out) hg (Kd.R_away HO293.out (fun _ hk => hk.2))); have n1_ := Aside0.mk (Kd.R_after (ok := (fun k_ => some k_ ≠ (.slice Ao78 y281.length co78 : Value).ownBlock ∧ k_ ≠ gb255)) (by (with_reducible repeat (first | apply Kd.R_alloc | apply Kd.R_drewN | apply Kd.R_drew)); exact Kd.R_mono HO273.out (fun _ hk => ⟨⟨hk.1.2, hk.1.1⟩, hk.2⟩)) hg hat); have n2_ := Aside0.mk (Kd.R_after (ok := (fun k_ => some k_ ≠ (.slice Ao44 y271.length co44 : Value).ownBlock ∧ k_ ≠ gb255)) (rd_ HO283.out) hg hat); have n3_ := Aside0.mk (hb); have HO296 := Aside0.mk (ho); clear BK255; clear HO273; clear HO283; clear HB; clear HO293; have BK255 := n0_; have HO273 := n1_; have HO283 := n2_; have HB := n3_; clear n0_ n1_ n2_ n3_; clear ho hb hg hat))
            go_ret2
            exact ⟨_, by first | rfl | (simp [errW_none, errW_some] <;> rfl) | (simp [*, errW_none, errW_some] <;> rfl), by (with_reducible repeat (first | apply Kd.R_alloc | apply Kd.R_drewN | apply Kd.R_drew)); exact Kd.R_mono HO296.out (fun _ hk => trivial), y67_⟩
           ·
            rw [if_neg c65] at H
            exact absurd H (by simp)
        ·
         rw [if_neg c31] at H
         exact absurd H (by simp)
       ·
        rw [if_neg c28] at H
        exact absurd H (by simp)
      ·
       rw [if_neg c27] at H
       exact absurd H (by simp)
     ·
      rw [if_neg c26] at H
      exact absurd H (by simp)
    ·
     rw [if_neg c25] at H
     exact absurd H (by simp)

end Go.Proofs.YtnlgilmbmoiniaaDoor.PFnTasks
