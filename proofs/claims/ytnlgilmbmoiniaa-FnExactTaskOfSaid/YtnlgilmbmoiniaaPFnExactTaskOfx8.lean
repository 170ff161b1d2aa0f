-- Written for this claim by a program (a printer turned to this claim); Lean checks it.
import Derived.Test.YtnlgilmbmoiniaaPFnExactTaskOfx0
import Derived.Test.YtnlgilmbmoiniaaPFnExactTaskOfx6
import Derived.Test.YtnlgilmbmoiniaaPFnExactTaskOfx7
namespace Go.Proofs.Ytnlgilmbmoiniaa.PFnExactTaskOf
open Go.RowKit Go.Proofs.YtnlgilmbmoiniaaW.PrintWords Go.Proofs.YtnlgilmbmoiniaaW.PrintLast Go.Proofs.YtnlgilmbmoiniaaW.PrintMore
attribute [local go_sem] max2_int min2_int max_two min_two max_three min_three max_four min_four   -- for this text's walks alone
set_option linter.unusedVariables false
set_option linter.unusedSimpArgs false

/-! ### impl_TaskOf: function 31 -/
def impl_TaskOf.j0 : Nat → List (S69) → List Bool → Int → Bool → Int → Int → Int → Int → Int → Int → Int → Int → Option (Int × Int × Int)
 | 0, _, _, _, _, _, _, _, _, _, _, _, _ => none
 | k + 1, x1, x2, x3, x22, x213000, x213001, x213002, x213003, x213004, x213005, x213006, x213007 => if x22 = true then (some (0, 0, 0)) else ((impl_FateOf.f k x213000 x213001 x213002 x213003 x213004 x213005 x213006 x213007 x1 x3).bind fun t217 => (if t217 = 1 then ((impl_NextOpen.f k x2 (wrap64 (Int.tdiv x3 24))).bind fun t219 => (some (x213000, t217, t219))) else (if t217 = 0 then ((impl_LastDay.f k x2 x213000 x213001 x213002 x213003 x213004 x213005 x213006 x213007).bind fun t220 => (some (x213000, t217, t220))) else (some (x213000, t217, wrap64 (Int.tdiv x3 24))))))
def impl_TaskOf.f (k : Nat) (a0_0 : Int) (a0_1 : Int) (a0_2 : Int) (a0_3 : Int) (a0_4 : Int) (a0_5 : Int) (a0_6 : Int) (a0_7 : Int) (l1 : List (S69)) (l2 : List Bool) (a3 : Int) : Option (Int × Int × Int) := (impl_IsFind.f a0_0 a0_1 a0_2 a0_3 a0_4 a0_5 a0_6 a0_7).bind fun t214 => (if t214 = true then ((impl_IsCalendar.f k l2).bind fun t215 => (if t215 = true then ((impl_InRange.f a3 0 100000).bind fun t216 => (impl_TaskOf.j0 k l1 l2 a3 (!t216) a0_0 a0_1 a0_2 a0_3 a0_4 a0_5 a0_6 a0_7)) else (impl_TaskOf.j0 k l1 l2 a3 true a0_0 a0_1 a0_2 a0_3 a0_4 a0_5 a0_6 a0_7))) else (impl_TaskOf.j0 k l1 l2 a3 true a0_0 a0_1 a0_2 a0_3 a0_4 a0_5 a0_6 a0_7))
theorem impl_TaskOf.mono_l : ∀ k, (∀ y0 y1 y2 y3 y4 y5 y6 y7 y8 y9 y10 y11, LeO (impl_TaskOf.j0 k y0 y1 y2 y3 y4 y5 y6 y7 y8 y9 y10 y11) (impl_TaskOf.j0 (k + 1) y0 y1 y2 y3 y4 y5 y6 y7 y8 y9 y10 y11))
 | 0 => fun _ _ _ _ _ _ _ _ _ _ _ _ r h => by simp [impl_TaskOf.j0] at h
 | k + 1 => by
  have ih0 := impl_TaskOf.mono_l k
  ·
   intro y0 y1 y2 y3 y4 y5 y6 y7 y8 y9 y10 y11
   unfold impl_TaskOf.j0
   repeat' first
   | (with_reducible exact ih0 _ _ _ _ _ _ _ _ _ _ _ _)
   | (with_reducible exact impl_FateOf.mono _ _ _ _ _ _ _ _ _ _ _)
   | (with_reducible exact impl_IsCalendar.mono _ _)
   | (with_reducible exact impl_LastDay.mono _ _ _ _ _ _ _ _ _ _)
   | (with_reducible exact impl_NextOpen.mono _ _ _)
   | (with_reducible exact LeO.refl _)
   | (with_reducible exact LeO.none _)
   | (with_reducible refine LeO.ite ?_ ?_)
   | (with_reducible refine LeO.bind ?_ (fun _ => ?_))
   | exact ih0 _ _ _ _ _ _ _ _ _ _ _ _
   | exact impl_FateOf.mono _ _ _ _ _ _ _ _ _ _ _
   | exact impl_IsCalendar.mono _ _
   | exact impl_LastDay.mono _ _ _ _ _ _ _ _ _ _
   | exact impl_NextOpen.mono _ _ _
   | exact LeO.none _
   | refine LeO.ite ?_ ?_
   | refine LeO.bind ?_ (fun _ => ?_)
theorem impl_TaskOf.mono : ∀ a0 a1 a2 a3 a4 a5 a6 a7 a8 a9 a10 k, LeO (impl_TaskOf.f k a0 a1 a2 a3 a4 a5 a6 a7 a8 a9 a10) (impl_TaskOf.f (k + 1) a0 a1 a2 a3 a4 a5 a6 a7 a8 a9 a10) := by
 intro a0 a1 a2 a3 a4 a5 a6 a7 a8 a9 a10 k
 have ih0 := impl_TaskOf.mono_l k
 unfold impl_TaskOf.f
 repeat' first
   | (with_reducible exact ih0 _ _ _ _ _ _ _ _ _ _ _ _)
   | (with_reducible exact impl_FateOf.mono _ _ _ _ _ _ _ _ _ _ _)
   | (with_reducible exact impl_IsCalendar.mono _ _)
   | (with_reducible exact impl_LastDay.mono _ _ _ _ _ _ _ _ _ _)
   | (with_reducible exact impl_NextOpen.mono _ _ _)
   | (with_reducible exact LeO.refl _)
   | (with_reducible exact LeO.none _)
   | (with_reducible refine LeO.ite ?_ ?_)
   | (with_reducible refine LeO.bind ?_ (fun _ => ?_))
   | exact ih0 _ _ _ _ _ _ _ _ _ _ _ _
   | exact impl_FateOf.mono _ _ _ _ _ _ _ _ _ _ _
   | exact impl_IsCalendar.mono _ _
   | exact impl_LastDay.mono _ _ _ _ _ _ _ _ _ _
   | exact impl_NextOpen.mono _ _ _
   | exact LeO.none _
   | refine LeO.ite ?_ ?_
   | refine LeO.bind ?_ (fun _ => ?_)
def impl_TaskOf.T3 : Bool × List (List Nat × List Nat) := (true, [([], []), ([0], [0]), ([1], [1]), ([], []), ([], []), ([], []), ([3, 4, 5], [3, 4, 5]), ([], []), ([7], [7]), ([2, 6, 8], [2, 6, 8]), ([], []), ([10, 9, 6, 0, 1, 2, 3, 4, 5, 6, 7, 8, 9, 10], [9, 10])])
def impl_TaskOf.B3 : List Nat := [0, 1, 3, 0, 0, 0, 56, 0, 128, 511, 0, 2047]
theorem impl_TaskOf.tab3 : rtab .any (opsOf Try.f31 3) = impl_TaskOf.T3 := by kernel_rfl
theorem impl_TaskOf.bits3 : waitsOk impl_TaskOf.T3.2 impl_TaskOf.B3 = true := by kernel_rfl
abbrev M2_0 : Array Bool := #[false, false, false, false, false, false, false, false, false, false, false, false]
abbrev M2_1 : Array Bool := #[true, false, false, false, false, false, false, false, false, false, false, false]
abbrev M2_2 : Array Bool := #[true, true, false, false, false, false, false, false, false, false, false, false]
abbrev M2_3 : Array Bool := #[true, true, false, false, true, false, false, false, false, false, false, false]
abbrev M2_4 : Array Bool := #[true, true, false, false, true, true, false, false, false, false, false, false]
abbrev M2_5 : Array Bool := #[true, true, false, false, true, true, false, true, false, false, false, false]
abbrev M2_6 : Array Bool := #[true, true, false, false, true, true, false, true, true, false, false, false]
abbrev M2_7 : Array Bool := #[true, true, true, false, true, true, false, true, true, false, false, false]
abbrev M2_8 : Array Bool := #[true, true, true, true, true, true, false, true, true, false, false, false]
abbrev M2_9 : Array Bool := #[true, true, true, true, true, true, true, true, true, true, true, false]
abbrev M2_10 : Array Bool := #[true, true, true, true, true, true, true, true, true, false, false, false]
abbrev M2_11 : Array Bool := #[true, true, true, true, true, true, false, true, true, false, true, false]
abbrev M2_12 : Array Bool := #[true, true, true, true, true, true, true, true, true, true, false, false]
abbrev M2_13 : Array Bool := #[true, true, true, true, true, true, true, true, true, false, true, false]
abbrev M2_14 : Array Bool := #[true, true, true, true, true, true, true, true, true, true, true, true]
theorem P2_1 {α : Type} (l : List α) (i : Nat) (a : α) : l.toArray.setIfInBounds i a = (l.set i a).toArray := List.setIfInBounds_toArray l i a
theorem P2_2 {α : Type} (x : α) (l : List α) (a : α) : (x :: l).set 0 a = a :: l := List.set_cons_zero
theorem P2_3 {α : Type} (x : α) (l : List α) (n : Nat) (a : α) : (x :: l).set (n + 1) a = x :: l.set n a := List.set_cons_succ
theorem y117_ {P : Prop} (h : P := by repeat (first | (with_reducible first | exact HB.out | apply below_alloc | apply pw_below_drewN | apply below_drew1 | refine below_set ?_ GE212.out | refine below_set ?_ GE213.out) | exact HB.out)) : P := h
theorem y118_ {P : Prop} (h : P := by (with_reducible repeat (first | refine blk_drewN ?_ _ | refine blk_drew ?_ | refine blk_alloc ?_ _)); exact BK212.out) : P := h
theorem y119_ {P : Prop} (h : P := by (with_reducible repeat (first | refine blk_drewN ?_ _ | refine blk_drew ?_ | refine blk_alloc ?_ _)); exact BK213.out) : P := h
theorem y120_ {P : Prop} (h : P := by repeat (first | (with_reducible first | exact HB.out | apply below_alloc | apply pw_below_drewN | apply below_drew1 | refine below_set ?_ GE212.out | refine below_set ?_ GE213.out | refine below_set ?_ GE218.out) | exact HB.out)) : P := h
theorem y121_ {P : Prop} (h : P := by (try simp only [List.map_toArray, List.map_cons, List.map_nil]); first | done | rfl | (simp only [List.length_drop, List.length_take]; rfl)) : P := h
theorem y122_ {P : Prop} (h : P := by rw [hg]; exact Nat.ne_of_lt (blk_lt (g := gb212) (o := .cells #[.int .i64 a0_0, .int .i64 a0_1, .int .i64 a0_2, .int .i64 a0_3, .int .i64 a0_4, .int .i64 a0_5, .int .i64 a0_6, .int .i64 a0_7] 58 (0, 0)) y118_)) : P := h
theorem y123_ {P : Prop} (h : P := by rw [hg]; exact Nat.ne_of_gt (blk_lt (g := gb212) (o := .cells #[.int .i64 a0_0, .int .i64 a0_1, .int .i64 a0_2, .int .i64 a0_3, .int .i64 a0_4, .int .i64 a0_5, .int .i64 a0_6, .int .i64 a0_7] 58 (0, 0)) y118_)) : P := h
theorem y124_ {P : Prop} (h : P := by (with_reducible repeat (first | refine blk_drewN ?_ _ | refine blk_drew ?_ | refine blk_alloc ?_ _)); exact BK218.out) : P := h
theorem y125_ {P : Prop} (h : P := by rw [hg]; exact Nat.ne_of_lt (blk_lt (g := gb213) (o := .cells #[.int .i64 0, .int .i64 0, .int .i64 0] 54 (0, 0)) y119_)) : P := h
theorem y126_ {P : Prop} (h : P := by rw [hg]; exact Nat.ne_of_gt (blk_lt (g := gb213) (o := .cells #[.int .i64 0, .int .i64 0, .int .i64 0] 54 (0, 0)) y119_)) : P := h
theorem y127_ {P : Prop} (h : P := by repeat (first | (with_reducible first | exact HB.out | apply below_alloc | apply pw_below_drewN | apply below_drew1 | refine below_set ?_ GE212.out | refine below_set ?_ GE213.out) | exact HB.out)) : P := h
theorem y128_ {P : Prop} (h : P := by simp only [putAll, Act.put, List.setIfInBounds_toArray, List.set_cons_zero, List.set_cons_succ]) : P := h
theorem y129_ {P : Prop} (h : P := by repeat (first | (with_reducible first | exact HB.out | apply below_alloc | apply pw_below_drewN | apply below_drew1 | refine below_set ?_ GE212.out | refine below_set ?_ GE213.out | refine below_set ?_ GE218.out) | exact HB.out)) : P := h
theorem y130_ {P : Prop} (h : P := by rw [hg]; exact (below_size y117_)) : P := h
theorem y131_ {P : Prop} (h : P := by repeat (first | (with_reducible first | exact HB.out | apply below_alloc | apply pw_below_drewN | apply below_drew1 | refine below_set ?_ GE212.out) | exact HB.out)) : P := h
theorem y132_ {P : Prop} (h : P := by repeat (first | (with_reducible first | exact HB.out | apply below_alloc | apply pw_below_drewN | apply below_drew1) | exact HB.out)) : P := h
set_option maxHeartbeats 8000000 in
set_option maxRecDepth 100000 in
theorem impl_TaskOf.calls (k : Nat) (a0_0 : Int) (a0_1 : Int) (a0_2 : Int) (a0_3 : Int) (a0_4 : Int) (a0_5 : Int) (a0_6 : Int) (a0_7 : Int) (A1 : Option Addr) (c1 : Nat) (l1 : List (S69)) (A2 : Option Addr) (c2 : Nat) (l2 : List Bool) (a3 : Int) (r1 : Int) (r2 : Int) (r3 : Int) (w : World) (hr1 : Kd.C k69 w A1 l1.length l1) (hc1 : l1.length ≤ c1) (hr2 : Kd.C Kd.bool w A2 l2.length l2) (hc2 : l2.length ≤ c2) (h : impl_TaskOf.f k a0_0 a0_1 a0_2 a0_3 a0_4 a0_5 a0_6 a0_7 l1 l2 a3 = some (r1, r2, r3)) :
  Calls Try.prog 31 #[.agg #[.int .i64 a0_0, .int .i64 a0_1, .int .i64 a0_2, .int .i64 a0_3, .int .i64 a0_4, .int .i64 a0_5, .int .i64 a0_6, .int .i64 a0_7], .slice A1 l1.length c1, .slice A2 l2.length c2, .int .i64 a3] w fun e w' => e = .returned (.agg #[.int .i64 r1, .int .i64 r2, .int .i64 r3]) ∧ Below w.heap.size w w' := by
 have hu58 := Try.underlying58
 have hu54 := Try.underlying54
 have HR1 := Aside0.mk hr1
 have HC1 := Aside0.mk hc1
 clear hr1 hc1
 have HR2 := Aside0.mk hr2
 have HC2 := Aside0.mk hc2
 clear hr2 hc2
 have HB := Aside0.mk (Below.refl w.heap.size w)
 have H : ((impl_IsFind.f a0_0 a0_1 a0_2 a0_3 a0_4 a0_5 a0_6 a0_7).bind fun t214 => (if t214 = true then ((impl_IsCalendar.f k l2).bind fun t215 => (if t215 = true then ((impl_InRange.f a3 0 100000).bind fun t216 => (impl_TaskOf.j0 k l1 l2 a3 (!t216) a0_0 a0_1 a0_2 a0_3 a0_4 a0_5 a0_6 a0_7)) else (impl_TaskOf.j0 k l1 l2 a3 true a0_0 a0_1 a0_2 a0_3 a0_4 a0_5 a0_6 a0_7))) else (impl_TaskOf.j0 k l1 l2 a3 true a0_0 a0_1 a0_2 a0_3 a0_4 a0_5 a0_6 a0_7))) = some (r1, r2, r3) := h
 clear h
 have HC5 := Aside0.mk H
 clear H
 go_enter Try.func31, Try.ntmps31
 go_upto_region 1 with (first | ((with_reducible refine gate_dst (N := 4) rfl ?_); refine box_event ?hg (N := 4) ?hd (cs := #[.int .i64 a0_0, .int .i64 a0_1, .int .i64 a0_2, .int .i64 a0_3, .int .i64 a0_4, .int .i64 a0_5, .int .i64 a0_6, .int .i64 a0_7]) (t := 58) ?hr ?_; (case hd => rfl); (case hg => rfl); (case hr => first | (go_simp; done) | (go_simp; rfl)); intro gb212 hg w6 hbox hb; have n0_ := Aside0.mk (below_step y132_ hb); have n1_ := Aside0.mk (hbox); have n2_ := Aside0.mk ((by rw [hg]; exact (below_size y132_) : w.heap.size ≤ gb212)); have n3_ := Aside0.mk ((by rw [hg]; exact (below_size y132_) : w.heap.size ≤ gb212)); clear HB; have HB := n0_; have BK212 := n1_; have GW212 := n2_; have GE212 := n3_; clear n0_ n1_ n2_ n3_; clear hb hbox hg) | ((with_reducible refine gate_dst (N := 8) rfl ?_); refine box_event ?hg (N := 8) ?hd (cs := #[.int .i64 0, .int .i64 0, .int .i64 0]) (t := 54) ?hr ?_; (case hd => rfl); (case hg => rfl); (case hr => first | (go_simp; done) | (go_simp; rfl)); intro gb213 hg w7 hbox hb; have n0_ := Aside0.mk (blk_below (g := gb212) (o := .cells #[.int .i64 a0_0, .int .i64 a0_1, .int .i64 a0_2, .int .i64 a0_3, .int .i64 a0_4, .int .i64 a0_5, .int .i64 a0_6, .int .i64 a0_7] 58 (0, 0)) y118_ hb); have n1_ := Aside0.mk (below_step y131_ hb); have n2_ := Aside0.mk (hbox); have n3_ := Aside0.mk ((by rw [hg]; exact (below_size y131_) : w.heap.size ≤ gb213)); have n4_ := Aside0.mk ((by rw [hg]; exact (below_size y131_) : w.heap.size ≤ gb213)); have n5_ := Aside0.mk ((y122_ : gb212 ≠ gb213)); have n6_ := Aside0.mk ((y123_ : gb213 ≠ gb212)); clear BK212; clear HB; have BK212 := n0_; have HB := n1_; have BK213 := n2_; have GW213 := n3_; have GE213 := n4_; have NB212_213 := n5_; have NB213_212 := n6_; clear n0_ n1_ n2_ n3_ n4_ n5_ n6_; clear hb hbox hg))
 (try simp only [Act.put, List.setIfInBounds_toArray, List.set_cons_zero, List.set_cons_succ])
 go_cut [22] (fun v22 wc => ∃ (kq : Nat) (x22_4 : Bool), v22 = .bool x22_4 ∧ Aside0 (impl_TaskOf.j0 kq l1 l2 a3 x22_4 a0_0 a0_1 a0_2 a0_3 a0_4 a0_5 a0_6 a0_7 = some (r1, r2, r3)) ∧ Aside0 (kq ≤ k) ∧ Aside0 (wc.heap[gb212]? = some (.cells #[.int .i64 a0_0, .int .i64 a0_1, .int .i64 a0_2, .int .i64 a0_3, .int .i64 a0_4, .int .i64 a0_5, .int .i64 a0_6, .int .i64 a0_7] 58 (0, 0))) ∧ Aside0 (wc.heap[gb213]? = some (.cells #[.int .i64 0, .int .i64 0, .int .i64 0] 54 (0, 0))) ∧ Aside0 (Below w.heap.size w wc))
 case first =>
  have H := HC5.out
  clear HC5
  replace H := Option.bind_eq_some_iff.mp H
  obtain ⟨t214, A80, H⟩ := H
  replace H : (if t214 = true then ((impl_IsCalendar.f k l2).bind fun t215 => (if t215 = true then ((impl_InRange.f a3 0 100000).bind fun t216 => (impl_TaskOf.j0 k l1 l2 a3 (!t216) a0_0 a0_1 a0_2 a0_3 a0_4 a0_5 a0_6 a0_7)) else (impl_TaskOf.j0 k l1 l2 a3 true a0_0 a0_1 a0_2 a0_3 a0_4 a0_5 a0_6 a0_7))) else (impl_TaskOf.j0 k l1 l2 a3 true a0_0 a0_1 a0_2 a0_3 a0_4 a0_5 a0_6 a0_7)) = some (r1, r2, r3) := H
  have A8 := Aside0.mk A80
  clear A80
  by_cases c9 : t214 = true
  ·
   subst c9
   have H1 : ((impl_IsCalendar.f k l2).bind fun t215 => (if t215 = true then ((impl_InRange.f a3 0 100000).bind fun t216 => (impl_TaskOf.j0 k l1 l2 a3 (!t216) a0_0 a0_1 a0_2 a0_3 a0_4 a0_5 a0_6 a0_7)) else (impl_TaskOf.j0 k l1 l2 a3 true a0_0 a0_1 a0_2 a0_3 a0_4 a0_5 a0_6 a0_7))) = some (r1, r2, r3) := by rw [if_pos rfl] at H; exact H
   clear H
   have H := H1
   clear H1
   replace H := Option.bind_eq_some_iff.mp H
   obtain ⟨t215, A100, H⟩ := H
   replace H : (if t215 = true then ((impl_InRange.f a3 0 100000).bind fun t216 => (impl_TaskOf.j0 k l1 l2 a3 (!t216) a0_0 a0_1 a0_2 a0_3 a0_4 a0_5 a0_6 a0_7)) else (impl_TaskOf.j0 k l1 l2 a3 true a0_0 a0_1 a0_2 a0_3 a0_4 a0_5 a0_6 a0_7)) = some (r1, r2, r3) := H
   have A10 := Aside0.mk A100
   clear A100
   by_cases c11 : t215 = true
   ·
    subst c11
    have H1 : ((impl_InRange.f a3 0 100000).bind fun t216 => (impl_TaskOf.j0 k l1 l2 a3 (!t216) a0_0 a0_1 a0_2 a0_3 a0_4 a0_5 a0_6 a0_7)) = some (r1, r2, r3) := by rw [if_pos rfl] at H; exact H
    clear H
    have H := H1
    clear H1
    replace H := Option.bind_eq_some_iff.mp H
    obtain ⟨t216, A120, H⟩ := H
    replace H : (impl_TaskOf.j0 k l1 l2 a3 (!t216) a0_0 a0_1 a0_2 a0_3 a0_4 a0_5 a0_6 a0_7) = some (r1, r2, r3) := H
    have A12 := Aside0.mk A120
    clear A120
    have H' := Aside0.mk H
    clear H
    have hnb13 := NB212_213.out
    have hnc13 := NB213_212.out
    have hcz14_0 : w7.cell? ⟨gb212, 0, none⟩ = some (.int .i64 a0_0) := (blk_cell BK212.out 0).trans rfl
    have hcz14_1 : w7.cell? ⟨gb212, 1, none⟩ = some (.int .i64 a0_1) := (blk_cell BK212.out 1).trans rfl
    have hcz14_2 : w7.cell? ⟨gb212, 2, none⟩ = some (.int .i64 a0_2) := (blk_cell BK212.out 2).trans rfl
    have hcz14_3 : w7.cell? ⟨gb212, 3, none⟩ = some (.int .i64 a0_3) := (blk_cell BK212.out 3).trans rfl
    have hcz14_4 : w7.cell? ⟨gb212, 4, none⟩ = some (.int .i64 a0_4) := (blk_cell BK212.out 4).trans rfl
    have hcz14_5 : w7.cell? ⟨gb212, 5, none⟩ = some (.int .i64 a0_5) := (blk_cell BK212.out 5).trans rfl
    have hcz14_6 : w7.cell? ⟨gb212, 6, none⟩ = some (.int .i64 a0_6) := (blk_cell BK212.out 6).trans rfl
    have hcz14_7 : w7.cell? ⟨gb212, 7, none⟩ = some (.int .i64 a0_7) := (blk_cell BK212.out 7).trans rfl
    have hfz14_0 := blk_frozen BK212.out 0
    have hfz14_1 := blk_frozen BK212.out 1
    have hfz14_2 := blk_frozen BK212.out 2
    have hfz14_3 := blk_frozen BK212.out 3
    have hfz14_4 := blk_frozen BK212.out 4
    have hfz14_5 := blk_frozen BK212.out 5
    have hfz14_6 := blk_frozen BK212.out 6
    have hfz14_7 := blk_frozen BK212.out 7
    go_wp2_with (first | ((with_reducible refine gate_callee (f := 54) rfl ?_); refine goesL_ (some 11) rfl rfl Try.func54 (by kernel_rfl) rfl #[.agg #[.int .i64 a0_0, .int .i64 a0_1, .int .i64 a0_2, .int .i64 a0_3, .int .i64 a0_4, .int .i64 a0_5, .int .i64 a0_6, .int .i64 a0_7]] rfl y121_ ?_; (with_reducible refine (impl_IsFind.calls a0_0 a0_1 a0_2 a0_3 a0_4 a0_5 a0_6 a0_7 true _ A8.out).mono ?_); rintro e w15 ⟨rfl, hb⟩; refine ⟨_, rfl, ?_⟩; have n0_ := Aside0.mk (blk_below (g := gb212) (o := .cells #[.int .i64 a0_0, .int .i64 a0_1, .int .i64 a0_2, .int .i64 a0_3, .int .i64 a0_4, .int .i64 a0_5, .int .i64 a0_6, .int .i64 a0_7] 58 (0, 0)) y118_ hb); have n1_ := Aside0.mk (blk_below (g := gb213) (o := .cells #[.int .i64 0, .int .i64 0, .int .i64 0] 54 (0, 0)) y119_ hb); have n2_ := Aside0.mk (below_step y117_ hb); clear BK212; clear BK213; clear HB; have BK212 := n0_; have BK213 := n1_; have HB := n2_; clear n0_ n1_ n2_; (try clear hb); (try clear hb2); (try clear hk); (try clear hi)) | (go_at_call 55; (with_reducible refine (impl_IsCalendar.calls k _ _ l2 true _ ?side1 ?side2 A10.out).mono ?_); (case side1 => repeat (first | exact (Kd.C_below HR2.out HB.out) | (with_reducible refine Kd.C_alloc ?_ _) | (with_reducible refine Kd.C_drewN ?_ _) | (with_reducible refine Kd.C_drew ?_))); (case side2 => exact HC2.out); rintro e w' ⟨rfl, ⟨nd, rfl⟩⟩) | (go_at_call 48; (with_reducible refine (impl_InRange.calls a3 0 100000 t216 _ A12.out).mono ?_); rintro e w' ⟨rfl, ⟨nd, rfl⟩⟩))
    go_meet
    case rel => exact ⟨_, (!t216), (by first | rfl | (simp; done) | (simp [*]; done)), H', ⟨by first | omega | exact Nat.le_refl _⟩, ⟨by (with_reducible repeat (first | refine blk_drewN ?_ _ | refine blk_drew ?_ | refine blk_alloc ?_ _)); exact BK212.out⟩, ⟨by (with_reducible repeat (first | refine blk_drewN ?_ _ | refine blk_drew ?_ | refine blk_alloc ?_ _)); exact BK213.out⟩, ⟨y127_⟩⟩
   ·
    replace c11 := Bool.eq_false_iff.mpr c11
    subst c11
    have H1 : (impl_TaskOf.j0 k l1 l2 a3 true a0_0 a0_1 a0_2 a0_3 a0_4 a0_5 a0_6 a0_7) = some (r1, r2, r3) := by rw [if_neg (show ¬ (false = true) by decide)] at H; exact H
    clear H
    have H := H1
    clear H1
    have H' := Aside0.mk H
    clear H
    have hnb16 := NB212_213.out
    have hnc16 := NB213_212.out
    have hcz17_0 : w7.cell? ⟨gb212, 0, none⟩ = some (.int .i64 a0_0) := (blk_cell BK212.out 0).trans rfl
    have hcz17_1 : w7.cell? ⟨gb212, 1, none⟩ = some (.int .i64 a0_1) := (blk_cell BK212.out 1).trans rfl
    have hcz17_2 : w7.cell? ⟨gb212, 2, none⟩ = some (.int .i64 a0_2) := (blk_cell BK212.out 2).trans rfl
    have hcz17_3 : w7.cell? ⟨gb212, 3, none⟩ = some (.int .i64 a0_3) := (blk_cell BK212.out 3).trans rfl
    have hcz17_4 : w7.cell? ⟨gb212, 4, none⟩ = some (.int .i64 a0_4) := (blk_cell BK212.out 4).trans rfl
    have hcz17_5 : w7.cell? ⟨gb212, 5, none⟩ = some (.int .i64 a0_5) := (blk_cell BK212.out 5).trans rfl
    have hcz17_6 : w7.cell? ⟨gb212, 6, none⟩ = some (.int .i64 a0_6) := (blk_cell BK212.out 6).trans rfl
    have hcz17_7 : w7.cell? ⟨gb212, 7, none⟩ = some (.int .i64 a0_7) := (blk_cell BK212.out 7).trans rfl
    have hfz17_0 := blk_frozen BK212.out 0
    have hfz17_1 := blk_frozen BK212.out 1
    have hfz17_2 := blk_frozen BK212.out 2
    have hfz17_3 := blk_frozen BK212.out 3
    have hfz17_4 := blk_frozen BK212.out 4
    have hfz17_5 := blk_frozen BK212.out 5
    have hfz17_6 := blk_frozen BK212.out 6
    have hfz17_7 := blk_frozen BK212.out 7
    go_wp2_with (first | ((with_reducible refine gate_callee (f := 54) rfl ?_); refine goesL_ (some 11) rfl rfl Try.func54 (by kernel_rfl) rfl #[.agg #[.int .i64 a0_0, .int .i64 a0_1, .int .i64 a0_2, .int .i64 a0_3, .int .i64 a0_4, .int .i64 a0_5, .int .i64 a0_6, .int .i64 a0_7]] rfl y121_ ?_; (with_reducible refine (impl_IsFind.calls a0_0 a0_1 a0_2 a0_3 a0_4 a0_5 a0_6 a0_7 true _ A8.out).mono ?_); rintro e w18 ⟨rfl, hb⟩; refine ⟨_, rfl, ?_⟩; have n0_ := Aside0.mk (blk_below (g := gb212) (o := .cells #[.int .i64 a0_0, .int .i64 a0_1, .int .i64 a0_2, .int .i64 a0_3, .int .i64 a0_4, .int .i64 a0_5, .int .i64 a0_6, .int .i64 a0_7] 58 (0, 0)) y118_ hb); have n1_ := Aside0.mk (blk_below (g := gb213) (o := .cells #[.int .i64 0, .int .i64 0, .int .i64 0] 54 (0, 0)) y119_ hb); have n2_ := Aside0.mk (below_step y117_ hb); clear BK212; clear BK213; clear HB; have BK212 := n0_; have BK213 := n1_; have HB := n2_; clear n0_ n1_ n2_; (try clear hb); (try clear hb2); (try clear hk); (try clear hi)) | (go_at_call 55; (with_reducible refine (impl_IsCalendar.calls k _ _ l2 false _ ?side1 ?side2 A10.out).mono ?_); (case side1 => repeat (first | exact (Kd.C_below HR2.out HB.out) | (with_reducible refine Kd.C_alloc ?_ _) | (with_reducible refine Kd.C_drewN ?_ _) | (with_reducible refine Kd.C_drew ?_))); (case side2 => exact HC2.out); rintro e w' ⟨rfl, ⟨nd, rfl⟩⟩))
    go_meet
    case rel => exact ⟨_, (true), (by first | rfl | (simp; done) | (simp [*]; done)), H', ⟨by first | omega | exact Nat.le_refl _⟩, ⟨by (with_reducible repeat (first | refine blk_drewN ?_ _ | refine blk_drew ?_ | refine blk_alloc ?_ _)); exact BK212.out⟩, ⟨by (with_reducible repeat (first | refine blk_drewN ?_ _ | refine blk_drew ?_ | refine blk_alloc ?_ _)); exact BK213.out⟩, ⟨y127_⟩⟩
  ·
   replace c9 := Bool.eq_false_iff.mpr c9
   subst c9
   have H1 : (impl_TaskOf.j0 k l1 l2 a3 true a0_0 a0_1 a0_2 a0_3 a0_4 a0_5 a0_6 a0_7) = some (r1, r2, r3) := by rw [if_neg (show ¬ (false = true) by decide)] at H; exact H
   clear H
   have H := H1
   clear H1
   have H' := Aside0.mk H
   clear H
   have hnb19 := NB212_213.out
   have hnc19 := NB213_212.out
   have hcz20_0 : w7.cell? ⟨gb212, 0, none⟩ = some (.int .i64 a0_0) := (blk_cell BK212.out 0).trans rfl
   have hcz20_1 : w7.cell? ⟨gb212, 1, none⟩ = some (.int .i64 a0_1) := (blk_cell BK212.out 1).trans rfl
   have hcz20_2 : w7.cell? ⟨gb212, 2, none⟩ = some (.int .i64 a0_2) := (blk_cell BK212.out 2).trans rfl
   have hcz20_3 : w7.cell? ⟨gb212, 3, none⟩ = some (.int .i64 a0_3) := (blk_cell BK212.out 3).trans rfl
   have hcz20_4 : w7.cell? ⟨gb212, 4, none⟩ = some (.int .i64 a0_4) := (blk_cell BK212.out 4).trans rfl
   have hcz20_5 : w7.cell? ⟨gb212, 5, none⟩ = some (.int .i64 a0_5) := (blk_cell BK212.out 5).trans rfl
   have hcz20_6 : w7.cell? ⟨gb212, 6, none⟩ = some (.int .i64 a0_6) := (blk_cell BK212.out 6).trans rfl
   have hcz20_7 : w7.cell? ⟨gb212, 7, none⟩ = some (.int .i64 a0_7) := (blk_cell BK212.out 7).trans rfl
   have hfz20_0 := blk_frozen BK212.out 0
   have hfz20_1 := blk_frozen BK212.out 1
   have hfz20_2 := blk_frozen BK212.out 2
   have hfz20_3 := blk_frozen BK212.out 3
   have hfz20_4 := blk_frozen BK212.out 4
   have hfz20_5 := blk_frozen BK212.out 5
   have hfz20_6 := blk_frozen BK212.out 6
   have hfz20_7 := blk_frozen BK212.out 7
   go_wp2_with (first | ((with_reducible refine gate_callee (f := 54) rfl ?_); refine goesL_ (some 11) rfl rfl Try.func54 (by kernel_rfl) rfl #[.agg #[.int .i64 a0_0, .int .i64 a0_1, .int .i64 a0_2, .int .i64 a0_3, .int .i64 a0_4, .int .i64 a0_5, .int .i64 a0_6, .int .i64 a0_7]] rfl y121_ ?_; (with_reducible refine (impl_IsFind.calls a0_0 a0_1 a0_2 a0_3 a0_4 a0_5 a0_6 a0_7 false _ A8.out).mono ?_); rintro e w21 ⟨rfl, hb⟩; refine ⟨_, rfl, ?_⟩; have n0_ := Aside0.mk (blk_below (g := gb212) (o := .cells #[.int .i64 a0_0, .int .i64 a0_1, .int .i64 a0_2, .int .i64 a0_3, .int .i64 a0_4, .int .i64 a0_5, .int .i64 a0_6, .int .i64 a0_7] 58 (0, 0)) y118_ hb); have n1_ := Aside0.mk (blk_below (g := gb213) (o := .cells #[.int .i64 0, .int .i64 0, .int .i64 0] 54 (0, 0)) y119_ hb); have n2_ := Aside0.mk (below_step y117_ hb); clear BK212; clear BK213; clear HB; have BK212 := n0_; have BK213 := n1_; have HB := n2_; clear n0_ n1_ n2_; (try clear hb); (try clear hb2); (try clear hk); (try clear hi)))
   go_meet
   case rel => exact ⟨_, (true), (by first | rfl | (simp; done) | (simp [*]; done)), H', ⟨by first | omega | exact Nat.le_refl _⟩, ⟨by (with_reducible repeat (first | refine blk_drewN ?_ _ | refine blk_drew ?_ | refine blk_alloc ?_ _)); exact BK212.out⟩, ⟨by (with_reducible repeat (first | refine blk_drewN ?_ _ | refine blk_drew ?_ | refine blk_alloc ?_ _)); exact BK213.out⟩, ⟨y127_⟩⟩
 case rest =>
  clear HC5
  try clear c1
  try clear c2
  try clear p2
  try clear c3
  try clear c5
  try clear c9
  try clear c11
  try clear c13
  try clear c16
  try clear c19
  try clear hcz14_0
  try clear hcz14_1
  try clear hcz14_2
  try clear hcz14_3
  try clear hcz14_4
  try clear hcz14_5
  try clear hcz14_6
  try clear hcz14_7
  try clear hcz17_0
  try clear hcz17_1
  try clear hcz17_2
  try clear hcz17_3
  try clear hcz17_4
  try clear hcz17_5
  try clear hcz17_6
  try clear hcz17_7
  try clear hcz20_0
  try clear hcz20_1
  try clear hcz20_2
  try clear hcz20_3
  try clear hcz20_4
  try clear hcz20_5
  try clear hcz20_6
  try clear hcz20_7
  try clear hfz14_0
  try clear hfz14_1
  try clear hfz14_2
  try clear hfz14_3
  try clear hfz14_4
  try clear hfz14_5
  try clear hfz14_6
  try clear hfz14_7
  try clear hfz17_0
  try clear hfz17_1
  try clear hfz17_2
  try clear hfz17_3
  try clear hfz17_4
  try clear hfz17_5
  try clear hfz17_6
  try clear hfz17_7
  try clear hfz20_0
  try clear hfz20_1
  try clear hfz20_2
  try clear hfz20_3
  try clear hfz20_4
  try clear hfz20_5
  try clear hfz20_6
  try clear hfz20_7
  obtain ⟨kq, x22_4, rfl, HA, HJ4, BK212, BK213, HB⟩ := hcut
  cases kq with
  | zero => exact absurd HA.out (by simp [impl_TaskOf.j0])
  | succ kj4 =>
   have H := HA.out
   clear HA
   simp only [impl_TaskOf.j0] at H
   by_cases c22 : x22_4 = true
   ·
    subst c22
    have H1 : (some (0, 0, 0)) = some (r1, r2, r3) := by rw [if_pos rfl] at H; exact H
    clear H
    have H := H1
    clear H1
    simp only [Option.some.injEq, Prod.mk.injEq] at H
    obtain ⟨rfl, rfl, rfl⟩ := H
    have hnb23 := NB213_212.out
    have hnc23 := NB212_213.out
    have hcz24_0 : wc.cell? ⟨gb213, 0, none⟩ = some (.int .i64 0) := (blk_cell BK213.out 0).trans rfl
    have hcz24_1 : wc.cell? ⟨gb213, 1, none⟩ = some (.int .i64 0) := (blk_cell BK213.out 1).trans rfl
    have hcz24_2 : wc.cell? ⟨gb213, 2, none⟩ = some (.int .i64 0) := (blk_cell BK213.out 2).trans rfl
    have hfz24_0 := blk_frozen BK213.out 0
    have hfz24_1 := blk_frozen BK213.out 1
    have hfz24_2 := blk_frozen BK213.out 2
    go_wp2
    refine bodyPost_ret (results_cell_row rfl _ _ gb213 54 #[.int .i64 0, .int .i64 0, .int .i64 0] (0, 0) _ rfl (by (with_reducible repeat (first | refine blk_drewN ?_ _ | refine blk_drew ?_ | refine blk_alloc ?_ _)); refine blk_put (cs := #[.int .i64 0, .int .i64 0, .int .i64 0]) ?_ 2 _ rfl; (with_reducible repeat (first | refine blk_drewN ?_ _ | refine blk_drew ?_ | refine blk_alloc ?_ _)); refine blk_put (cs := #[.int .i64 0, .int .i64 0, .int .i64 0]) ?_ 1 _ rfl; (with_reducible repeat (first | refine blk_drewN ?_ _ | refine blk_drew ?_ | refine blk_alloc ?_ _)); refine blk_put (cs := #[.int .i64 0, .int .i64 0, .int .i64 0]) ?_ 0 _ rfl; (with_reducible repeat (first | refine blk_drewN ?_ _ | refine blk_drew ?_ | refine blk_alloc ?_ _)); exact BK213.out) Try.underlying54 rfl (by kernel_rfl)) rfl ?_
    exact ⟨by first | rfl | (simp [errW_none, errW_some] <;> rfl) | (simp [*, errW_none, errW_some] <;> rfl), y127_⟩
   ·
    replace c22 := Bool.eq_false_iff.mpr c22
    subst c22
    have H1 : ((impl_FateOf.f kj4 a0_0 a0_1 a0_2 a0_3 a0_4 a0_5 a0_6 a0_7 l1 a3).bind fun t217 => (if t217 = 1 then ((impl_NextOpen.f kj4 l2 (wrap64 (Int.tdiv a3 24))).bind fun t219 => (some (a0_0, t217, t219))) else (if t217 = 0 then ((impl_LastDay.f kj4 l2 a0_0 a0_1 a0_2 a0_3 a0_4 a0_5 a0_6 a0_7).bind fun t220 => (some (a0_0, t217, t220))) else (some (a0_0, t217, wrap64 (Int.tdiv a3 24)))))) = some (r1, r2, r3) := by rw [if_neg (show ¬ (false = true) by decide)] at H; exact H
    clear H
    have H := H1
    clear H1
    replace H := Option.bind_eq_some_iff.mp H
    obtain ⟨t217, A250, H⟩ := H
    replace H : (if t217 = 1 then ((impl_NextOpen.f kj4 l2 (wrap64 (Int.tdiv a3 24))).bind fun t219 => (some (a0_0, t217, t219))) else (if t217 = 0 then ((impl_LastDay.f kj4 l2 a0_0 a0_1 a0_2 a0_3 a0_4 a0_5 a0_6 a0_7).bind fun t220 => (some (a0_0, t217, t220))) else (some (a0_0, t217, wrap64 (Int.tdiv a3 24))))) = some (r1, r2, r3) := H
    have A25 := Aside0.mk A250
    clear A250
    by_cases c26 : t217 = 1
    ·
     rw [if_pos c26] at H
     have c26b0 : (t217 == 1) = true := beq_iff_eq.mpr c26
     have c26b1 : (t217 != 1) = false := bne_eq_false_iff_eq.mpr c26
     clear c26
     replace H := Option.bind_eq_some_iff.mp H
     obtain ⟨t219, A270, H⟩ := H
     replace H : (some (a0_0, t217, t219)) = some (r1, r2, r3) := H
     have A27 := Aside0.mk A270
     clear A270
     simp only [Option.some.injEq, Prod.mk.injEq] at H
     obtain ⟨rfl, rfl, rfl⟩ := H
     try go_wp2
     have n0_ := Aside0.mk (blk_drew BK212.out)
     have n1_ := Aside0.mk (blk_drew BK213.out)
     have n2_ := Aside0.mk (below_drew1 HB.out)
     clear BK212
     clear BK213
     clear HB
     have BK212 := n0_
     have BK213 := n1_
     have HB := n2_
     clear n0_ n1_ n2_
     refine start_ (n := 12) (S := fun w' => w'.cell? ⟨gb212, 0, none⟩ = some (.int .i64 a0_0) ∧ w'.cell? ⟨gb212, 1, none⟩ = some (.int .i64 a0_1) ∧ w'.cell? ⟨gb212, 2, none⟩ = some (.int .i64 a0_2) ∧ w'.cell? ⟨gb212, 3, none⟩ = some (.int .i64 a0_3) ∧ w'.cell? ⟨gb212, 4, none⟩ = some (.int .i64 a0_4) ∧ w'.cell? ⟨gb212, 5, none⟩ = some (.int .i64 a0_5) ∧ w'.cell? ⟨gb212, 6, none⟩ = some (.int .i64 a0_6) ∧ w'.cell? ⟨gb212, 7, none⟩ = some (.int .i64 a0_7)) (ds := []) M2_0 (by kernel_rfl) rfl rfl ⟨(blk_cell BK212.out 0).trans rfl, (blk_cell BK212.out 1).trans rfl, (blk_cell BK212.out 2).trans rfl, (blk_cell BK212.out 3).trans rfl, (blk_cell BK212.out 4).trans rfl, (blk_cell BK212.out 5).trans rfl, (blk_cell BK212.out 6).trans rfl, (blk_cell BK212.out 7).trans rfl⟩ (fun hHeld => ?_); refine with_tabW impl_TaskOf.tab3 impl_TaskOf.bits3 (fun HT_ HW_ => ?_)
     generalize wc.drew = w28 at BK212 BK213 HB hHeld ⊢
     refine pure_ (i := 0) (N := some 24) (v := ?_) (a' := ?_) M2_1 rfl rfl (any_of HT_.out (by kernel_rfl)) (fun _ _ _ h => h) (Or.inl ⟨by rfl, ?_⟩) ?_ ?_
     rotate_left; · intro w'; go_simp; with_reducible rfl
     rotate_left; · simp only [Act.put, P2_1, P2_2, P2_3, i64_w, i32_w]; rfl
     refine pure_ (i := 1) (N := some 25) (v := ?_) (a' := ?_) M2_2 rfl rfl (any_of HT_.out (by kernel_rfl)) (fun _ _ _ h => h) (Or.inl ⟨by rfl, ?_⟩) ?_ ?_
     rotate_left; · intro w'; go_simp; with_reducible rfl
     rotate_left; · simp only [Act.put, P2_1, P2_2, P2_3, i64_w, i32_w]; rfl
     refine pure_ (i := 4) (N := some 28) (v := ?_) (a' := ?_) M2_3 rfl rfl (any_of HT_.out (by kernel_rfl)) (fun _ _ _ h => h) (Or.inl ⟨by rfl, ?_⟩) ?_ ?_
     rotate_left; · intro w'; go_simp; with_reducible rfl
     rotate_left; · simp only [Act.put, P2_1, P2_2, P2_3, i64_w, i32_w]; rfl
     refine pure_ (i := 5) (N := some 29) (v := ?_) (a' := ?_) M2_4 rfl rfl (any_of HT_.out (by kernel_rfl)) (fun _ _ _ h => h) (Or.inl ⟨by rfl, ?_⟩) ?_ ?_
     rotate_left; · intro w'; go_simp; with_reducible rfl
     rotate_left; · simp only [Act.put, P2_1, P2_2, P2_3, i64_w, i32_w]; rfl
     refine pure_ (i := 7) (N := some 31) (v := ?_) (a' := ?_) M2_5 rfl rfl (any_of HT_.out (by kernel_rfl)) (fun _ _ _ h => h) (Or.inl ⟨by rfl, ?_⟩) ?_ ?_
     rotate_left; · intro w'; go_simp; with_reducible rfl
     rotate_left; · simp only [Act.put, P2_1, P2_2, P2_3, i64_w, i32_w]; rfl
     refine pure_ (i := 8) (N := some 32) (v := ?_) (a' := ?_) M2_6 rfl rfl (any_of HT_.out (by kernel_rfl)) (fun _ _ _ h => h) (Or.inl ⟨by rfl, ?_⟩) ?_ ?_
     rotate_left; · intro w'; go_simp; with_reducible rfl
     rotate_left; · simp only [Act.put, P2_1, P2_2, P2_3, i64_w, i32_w]; rfl
     refine take_ (i := 2) (N := some 26) (v := ?_) (a' := ?_) M2_7 rfl rfl (take_ofW HT_.out HW_.out (by kernel_rfl)) (fun _ _ _ h => h) (Or.inl ⟨by rfl, ?_⟩) hHeld ?_ ?_
     rotate_left; · rintro w' ⟨s0, s1, s2, s3, s4, s5, s6, s7⟩; go_simp; with_reducible rfl
     rotate_left; · simp only [Act.put, P2_1, P2_2, P2_3, i64_w, i32_w]; rfl
     refine take_ (i := 3) (N := some 27) (v := ?_) (a' := ?_) M2_8 rfl rfl (take_ofW HT_.out HW_.out (by kernel_rfl)) (fun _ _ _ h => h) (Or.inl ⟨by rfl, ?_⟩) hHeld ?_ ?_
     rotate_left; · rintro w' ⟨s0, s1, s2, s3, s4, s5, s6, s7⟩; go_simp; with_reducible rfl
     rotate_left; · simp only [Act.put, P2_1, P2_2, P2_3, i64_w, i32_w]; rfl
     refine join_ (σ := Nat) 1 M2_9 (fun s_ => [(30, .int .i64 t217), (9, .pointer (some ⟨s_, 0, none⟩)), (33, .agg #[.int .i64 a0_0, .int .i64 t217, .int .i64 (wrap64 (Int.tdiv a3 24))])]) (fun s_ w' => (w'.cell? ⟨gb212, 0, none⟩ = some (.int .i64 a0_0) ∧ w'.cell? ⟨gb212, 1, none⟩ = some (.int .i64 a0_1) ∧ w'.cell? ⟨gb212, 2, none⟩ = some (.int .i64 a0_2) ∧ w'.cell? ⟨gb212, 3, none⟩ = some (.int .i64 a0_3) ∧ w'.cell? ⟨gb212, 4, none⟩ = some (.int .i64 a0_4) ∧ w'.cell? ⟨gb212, 5, none⟩ = some (.int .i64 a0_5) ∧ w'.cell? ⟨gb212, 6, none⟩ = some (.int .i64 a0_6) ∧ w'.cell? ⟨gb212, 7, none⟩ = some (.int .i64 a0_7)) ∧ (w'.heap[gb212]? = some (.cells #[.int .i64 a0_0, .int .i64 a0_1, .int .i64 a0_2, .int .i64 a0_3, .int .i64 a0_4, .int .i64 a0_5, .int .i64 a0_6, .int .i64 a0_7] 58 (0, 0))) ∧ (w'.heap[gb213]? = some (.cells #[.int .i64 0, .int .i64 0, .int .i64 0] 54 (0, 0))) ∧ (w'.heap[s_]? = some (.cells #[.int .i64 0, .int .i64 0, .int .i64 0] 54 (0, 0))) ∧ (w.heap.size ≤ s_) ∧ (w.heap.size ≤ s_) ∧ (gb212 ≠ s_) ∧ (s_ ≠ gb212) ∧ (gb213 ≠ s_) ∧ (s_ ≠ gb213) ∧ (Below w.heap.size w w')) ?_ ?_
     rotate_left
     ·
      intro hCont
      refine two_ (i := 6) (j := 10) (Ni := some 30) (Nj := some 9) M2_10 M2_11 rfl rfl rfl rfl (two_of HT_.out (by kernel_rfl)) (by decide) (by decide) (fun K hK => ?_) (fun K hK => ?_)
      ·
       skip
       refine goes_ Try.func56 (by kernel_rfl) rfl #[.agg #[.int .i64 a0_0, .int .i64 a0_1, .int .i64 a0_2, .int .i64 a0_3, .int .i64 a0_4, .int .i64 a0_5, .int .i64 a0_6, .int .i64 a0_7], .slice A1 l1.length c1, .int .i64 a3] (by rfl) rfl rfl y121_ ?_
       with_reducible refine (impl_FateOf.calls kj4 a0_0 a0_1 a0_2 a0_3 a0_4 a0_5 a0_6 a0_7 _ _ l1 a3 t217 _ ?side1 ?side2 A25.out).mono ?_
       (case side1 => repeat (first | exact (Kd.C_below HR1.out HB.out) | (with_reducible refine Kd.C_alloc ?_ _) | (with_reducible refine Kd.C_drewN ?_ _) | (with_reducible refine Kd.C_drew ?_)))
       (case side2 => exact HC1.out)
       rintro e w29 ⟨rfl, hb⟩
       refine ⟨_, rfl, ?_⟩
       have n0_ := Aside0.mk (blk_below (g := gb212) (o := .cells #[.int .i64 a0_0, .int .i64 a0_1, .int .i64 a0_2, .int .i64 a0_3, .int .i64 a0_4, .int .i64 a0_5, .int .i64 a0_6, .int .i64 a0_7] 58 (0, 0)) y118_ hb)
       have n1_ := Aside0.mk (blk_below (g := gb213) (o := .cells #[.int .i64 0, .int .i64 0, .int .i64 0] 54 (0, 0)) y119_ hb)
       have n2_ := Aside0.mk (below_step y117_ hb)
       clear BK212
       clear BK213
       clear HB
       have BK212 := n0_
       have BK213 := n1_
       have HB := n2_
       clear n0_ n1_ n2_
       (try clear hb)
       (try clear hb2)
       (try clear hk)
       (try clear hi)
       refine hK.out _ _ ⟨(blk_cell BK212.out 0).trans rfl, (blk_cell BK212.out 1).trans rfl, (blk_cell BK212.out 2).trans rfl, (blk_cell BK212.out 3).trans rfl, (blk_cell BK212.out 4).trans rfl, (blk_cell BK212.out 5).trans rfl, (blk_cell BK212.out 6).trans rfl, (blk_cell BK212.out 7).trans rfl⟩ (fun hHeld => ?_)
       clear hK K
       refine norm_ (a' := ?_) ?_ ?_
       rotate_left
       ·
        show Act.put _ (some 30) _ = _
        simp only [Act.put, P2_1, P2_2, P2_3, i64_w, i32_w]
        rfl
       refine pure_ (i := 9) (N := some 33) (v := ?_) (a' := ?_) M2_12 rfl rfl (any_of HT_.out (by kernel_rfl)) (fun _ _ _ h => h) (Or.inl ⟨by rfl, ?_⟩) ?_ ?_
       rotate_left; · intro w'; go_simp; with_reducible rfl
       rotate_left; · simp only [Act.put, P2_1, P2_2, P2_3, i64_w, i32_w]; rfl
       refine one_ (i := 10) (N := some 9) M2_9 rfl rfl (one_of HT_.out (by kernel_rfl)) (by decide) (fun K hK => ?_)
       refine box_step ?hg (N := 9) ?hd (cs := #[.int .i64 0, .int .i64 0, .int .i64 0]) (t := 54) ?hr ?_; (case hd => rfl); (case hg => rfl); (case hr => first | (go_simp; done) | (go_simp; rfl))
       intro gb218 hg w30 hbox hb
       have n0_ := Aside0.mk (blk_below (g := gb212) (o := .cells #[.int .i64 a0_0, .int .i64 a0_1, .int .i64 a0_2, .int .i64 a0_3, .int .i64 a0_4, .int .i64 a0_5, .int .i64 a0_6, .int .i64 a0_7] 58 (0, 0)) y118_ hb)
       have n1_ := Aside0.mk (blk_below (g := gb213) (o := .cells #[.int .i64 0, .int .i64 0, .int .i64 0] 54 (0, 0)) y119_ hb)
       have n2_ := Aside0.mk (below_step y117_ hb)
       have n3_ := Aside0.mk (hbox)
       have n4_ := Aside0.mk ((y130_ : w.heap.size ≤ gb218))
       have n5_ := Aside0.mk ((y130_ : w.heap.size ≤ gb218))
       have n6_ := Aside0.mk ((y122_ : gb212 ≠ gb218))
       have n7_ := Aside0.mk ((y123_ : gb218 ≠ gb212))
       have n8_ := Aside0.mk ((y125_ : gb213 ≠ gb218))
       have n9_ := Aside0.mk ((y126_ : gb218 ≠ gb213))
       clear BK212
       clear BK213
       clear HB
       have BK212 := n0_
       have BK213 := n1_
       have HB := n2_
       have BK218 := n3_
       have GW218 := n4_
       have GE218 := n5_
       have NB212_218 := n6_
       have NB218_212 := n7_
       have NB213_218 := n8_
       have NB218_213 := n9_
       clear n0_ n1_ n2_ n3_ n4_ n5_ n6_ n7_ n8_ n9_
       clear hb hbox hg
       refine hK.out _ _ ⟨(blk_cell BK212.out 0).trans rfl, (blk_cell BK212.out 1).trans rfl, (blk_cell BK212.out 2).trans rfl, (blk_cell BK212.out 3).trans rfl, (blk_cell BK212.out 4).trans rfl, (blk_cell BK212.out 5).trans rfl, (blk_cell BK212.out 6).trans rfl, (blk_cell BK212.out 7).trans rfl⟩ (fun hHeld => ?_)
       clear hK K
       refine norm_ (a' := ?_) ?_ ?_
       rotate_left
       ·
        show Act.put _ (some 9) _ = _
        simp only [Act.put, P2_1, P2_2, P2_3, i64_w, i32_w]
        rfl
       exact norm_ y128_ (hCont (gb218) _ ⟨hHeld, y118_, y119_, y124_, GW218.out, GE218.out, NB212_218.out, NB218_212.out, NB213_218.out, NB218_213.out, y120_⟩)
      ·
       skip
       refine box_step ?hg (N := 9) ?hd (cs := #[.int .i64 0, .int .i64 0, .int .i64 0]) (t := 54) ?hr ?_; (case hd => rfl); (case hg => rfl); (case hr => first | (go_simp; done) | (go_simp; rfl))
       intro gb218 hg w29 hbox hb
       have n0_ := Aside0.mk (blk_below (g := gb212) (o := .cells #[.int .i64 a0_0, .int .i64 a0_1, .int .i64 a0_2, .int .i64 a0_3, .int .i64 a0_4, .int .i64 a0_5, .int .i64 a0_6, .int .i64 a0_7] 58 (0, 0)) y118_ hb)
       have n1_ := Aside0.mk (blk_below (g := gb213) (o := .cells #[.int .i64 0, .int .i64 0, .int .i64 0] 54 (0, 0)) y119_ hb)
       have n2_ := Aside0.mk (below_step y117_ hb)
       have n3_ := Aside0.mk (hbox)
       have n4_ := Aside0.mk ((y130_ : w.heap.size ≤ gb218))
       have n5_ := Aside0.mk ((y130_ : w.heap.size ≤ gb218))
       have n6_ := Aside0.mk ((y122_ : gb212 ≠ gb218))
       have n7_ := Aside0.mk ((y123_ : gb218 ≠ gb212))
       have n8_ := Aside0.mk ((y125_ : gb213 ≠ gb218))
       have n9_ := Aside0.mk ((y126_ : gb218 ≠ gb213))
       clear BK212
       clear BK213
       clear HB
       have BK212 := n0_
       have BK213 := n1_
       have HB := n2_
       have BK218 := n3_
       have GW218 := n4_
       have GE218 := n5_
       have NB212_218 := n6_
       have NB218_212 := n7_
       have NB213_218 := n8_
       have NB218_213 := n9_
       clear n0_ n1_ n2_ n3_ n4_ n5_ n6_ n7_ n8_ n9_
       clear hb hbox hg
       refine hK.out _ _ ⟨(blk_cell BK212.out 0).trans rfl, (blk_cell BK212.out 1).trans rfl, (blk_cell BK212.out 2).trans rfl, (blk_cell BK212.out 3).trans rfl, (blk_cell BK212.out 4).trans rfl, (blk_cell BK212.out 5).trans rfl, (blk_cell BK212.out 6).trans rfl, (blk_cell BK212.out 7).trans rfl⟩ (fun hHeld => ?_)
       clear hK K
       refine norm_ (a' := ?_) ?_ ?_
       rotate_left
       ·
        show Act.put _ (some 9) _ = _
        simp only [Act.put, P2_1, P2_2, P2_3, i64_w, i32_w]
        rfl
       refine one_ (i := 6) (N := some 30) M2_13 rfl rfl (one_of HT_.out (by kernel_rfl)) (by decide) (fun K hK => ?_)
       refine goes_ Try.func56 (by kernel_rfl) rfl #[.agg #[.int .i64 a0_0, .int .i64 a0_1, .int .i64 a0_2, .int .i64 a0_3, .int .i64 a0_4, .int .i64 a0_5, .int .i64 a0_6, .int .i64 a0_7], .slice A1 l1.length c1, .int .i64 a3] (by rfl) rfl rfl y121_ ?_
       with_reducible refine (impl_FateOf.calls kj4 a0_0 a0_1 a0_2 a0_3 a0_4 a0_5 a0_6 a0_7 _ _ l1 a3 t217 _ ?side1 ?side2 A25.out).mono ?_
       (case side1 => repeat (first | exact (Kd.C_below HR1.out HB.out) | (with_reducible refine Kd.C_alloc ?_ _) | (with_reducible refine Kd.C_drewN ?_ _) | (with_reducible refine Kd.C_drew ?_)))
       (case side2 => exact HC1.out)
       rintro e w30 ⟨rfl, hb⟩
       refine ⟨_, rfl, ?_⟩
       have n0_ := Aside0.mk (blk_below (g := gb212) (o := .cells #[.int .i64 a0_0, .int .i64 a0_1, .int .i64 a0_2, .int .i64 a0_3, .int .i64 a0_4, .int .i64 a0_5, .int .i64 a0_6, .int .i64 a0_7] 58 (0, 0)) y118_ hb)
       have n1_ := Aside0.mk (blk_below (g := gb213) (o := .cells #[.int .i64 0, .int .i64 0, .int .i64 0] 54 (0, 0)) y119_ hb)
       have n2_ := Aside0.mk (blk_below (g := gb218) (o := .cells #[.int .i64 0, .int .i64 0, .int .i64 0] 54 (0, 0)) y124_ hb)
       have n3_ := Aside0.mk (below_step y120_ hb)
       clear BK212
       clear BK213
       clear BK218
       clear HB
       have BK212 := n0_
       have BK213 := n1_
       have BK218 := n2_
       have HB := n3_
       clear n0_ n1_ n2_ n3_
       (try clear hb)
       (try clear hb2)
       (try clear hk)
       (try clear hi)
       refine hK.out _ _ ⟨(blk_cell BK212.out 0).trans rfl, (blk_cell BK212.out 1).trans rfl, (blk_cell BK212.out 2).trans rfl, (blk_cell BK212.out 3).trans rfl, (blk_cell BK212.out 4).trans rfl, (blk_cell BK212.out 5).trans rfl, (blk_cell BK212.out 6).trans rfl, (blk_cell BK212.out 7).trans rfl⟩ (fun hHeld => ?_)
       clear hK K
       refine norm_ (a' := ?_) ?_ ?_
       rotate_left
       ·
        show Act.put _ (some 30) _ = _
        simp only [Act.put, P2_1, P2_2, P2_3, i64_w, i32_w]
        rfl
       refine pure_ (i := 9) (N := some 33) (v := ?_) (a' := ?_) M2_9 rfl rfl (any_of HT_.out (by kernel_rfl)) (fun _ _ _ h => h) (Or.inl ⟨by rfl, ?_⟩) ?_ ?_
       rotate_left; · intro w'; go_simp; with_reducible rfl
       rotate_left; · simp only [Act.put, P2_1, P2_2, P2_3, i64_w, i32_w]; rfl
       exact norm_ y128_ (hCont (gb218) _ ⟨hHeld, y118_, y119_, y124_, GW218.out, GE218.out, NB212_218.out, NB218_212.out, NB213_218.out, NB218_213.out, y120_⟩)
     rintro gb218 w31 ⟨hS_, h0_, h1_, h2_, h3_, h4_, h5_, h6_, h7_, h8_, h9_⟩
     have n0_ : Aside0 (w31.heap[gb212]? = some (.cells #[.int .i64 a0_0, .int .i64 a0_1, .int .i64 a0_2, .int .i64 a0_3, .int .i64 a0_4, .int .i64 a0_5, .int .i64 a0_6, .int .i64 a0_7] 58 (0, 0))) := ⟨h0_⟩
     have n1_ : Aside0 (w31.heap[gb213]? = some (.cells #[.int .i64 0, .int .i64 0, .int .i64 0] 54 (0, 0))) := ⟨h1_⟩
     have n2_ : Aside0 (w31.heap[gb218]? = some (.cells #[.int .i64 0, .int .i64 0, .int .i64 0] 54 (0, 0))) := ⟨h2_⟩
     have n3_ : Aside0 (w.heap.size ≤ gb218) := ⟨h3_⟩
     have n4_ : Aside0 (w.heap.size ≤ gb218) := ⟨h4_⟩
     have n5_ : Aside0 (gb212 ≠ gb218) := ⟨h5_⟩
     have n6_ : Aside0 (gb218 ≠ gb212) := ⟨h6_⟩
     have n7_ : Aside0 (gb213 ≠ gb218) := ⟨h7_⟩
     have n8_ : Aside0 (gb218 ≠ gb213) := ⟨h8_⟩
     have n9_ : Aside0 (Below w.heap.size w w31) := ⟨h9_⟩
     clear BK212
     clear BK213
     clear HB
     clear h0_ h1_ h2_ h3_ h4_ h5_ h6_ h7_ h8_ h9_
     have BK212 := n0_
     have BK213 := n1_
     have BK218 := n2_
     have GW218 := n3_
     have GE218 := n4_
     have NB212_218 := n5_
     have NB218_212 := n6_
     have NB213_218 := n7_
     have NB218_213 := n8_
     have HB := n9_
     clear n0_ n1_ n2_ n3_ n4_ n5_ n6_ n7_ n8_ n9_
     have hHeld : w31.cell? ⟨gb212, 0, none⟩ = some (.int .i64 a0_0) ∧ w31.cell? ⟨gb212, 1, none⟩ = some (.int .i64 a0_1) ∧ w31.cell? ⟨gb212, 2, none⟩ = some (.int .i64 a0_2) ∧ w31.cell? ⟨gb212, 3, none⟩ = some (.int .i64 a0_3) ∧ w31.cell? ⟨gb212, 4, none⟩ = some (.int .i64 a0_4) ∧ w31.cell? ⟨gb212, 5, none⟩ = some (.int .i64 a0_5) ∧ w31.cell? ⟨gb212, 6, none⟩ = some (.int .i64 a0_6) ∧ w31.cell? ⟨gb212, 7, none⟩ = some (.int .i64 a0_7) := hS_
     refine norm_ (a' := ?_) ?_ ?_
     rotate_left
     ·
      simp only [putAll, Act.put, List.setIfInBounds_toArray, List.set_cons_zero, List.set_cons_succ]
      rfl
     refine one_ (i := 11) (N := none) M2_14 rfl rfl (one_of HT_.out (by kernel_rfl)) (by decide) (fun K hK => ?_)
     have hs32 : w31.cell? ⟨gb218, 0, none⟩ = some (.int .i64 0) := (blk_cell BK218.out 0).trans rfl
     have hfs32 := blk_frozen BK218.out 0
     have hns32_0 := NB212_218.out
     have hns32_1 := NB213_218.out
     have hms32_0 := NB218_212.out
     have hms32_1 := NB218_213.out
     have hs33 : w31.cell? ⟨gb218, 1, none⟩ = some (.int .i64 0) := (blk_cell BK218.out 1).trans rfl
     have hfs33 := blk_frozen BK218.out 1
     have hns33_0 := NB212_218.out
     have hns33_1 := NB213_218.out
     have hms33_0 := NB218_212.out
     have hms33_1 := NB218_213.out
     have hs34 : w31.cell? ⟨gb218, 2, none⟩ = some (.int .i64 0) := (blk_cell BK218.out 2).trans rfl
     have hfs34 := blk_frozen BK218.out 2
     have hns34_0 := NB212_218.out
     have hns34_1 := NB213_218.out
     have hms34_0 := NB218_212.out
     have hms34_1 := NB218_213.out
     refine skip_ (w1 := ?_) (by rfl) rfl ?_ ?_
     rotate_left
     ·
      go_simp
      rfl
     refine hK.out _ _ ⟨((cell_far (p := ⟨gb218, _, none⟩) NB212_218.out _).trans (((cell_far (p := ⟨gb218, _, none⟩) NB212_218.out _).trans (((cell_far (p := ⟨gb218, _, none⟩) NB212_218.out _).trans (hHeld.1)))))), ((cell_far (p := ⟨gb218, _, none⟩) NB212_218.out _).trans (((cell_far (p := ⟨gb218, _, none⟩) NB212_218.out _).trans (((cell_far (p := ⟨gb218, _, none⟩) NB212_218.out _).trans (hHeld.2.1)))))), ((cell_far (p := ⟨gb218, _, none⟩) NB212_218.out _).trans (((cell_far (p := ⟨gb218, _, none⟩) NB212_218.out _).trans (((cell_far (p := ⟨gb218, _, none⟩) NB212_218.out _).trans (hHeld.2.2.1)))))), ((cell_far (p := ⟨gb218, _, none⟩) NB212_218.out _).trans (((cell_far (p := ⟨gb218, _, none⟩) NB212_218.out _).trans (((cell_far (p := ⟨gb218, _, none⟩) NB212_218.out _).trans (hHeld.2.2.2.1)))))), ((cell_far (p := ⟨gb218, _, none⟩) NB212_218.out _).trans (((cell_far (p := ⟨gb218, _, none⟩) NB212_218.out _).trans (((cell_far (p := ⟨gb218, _, none⟩) NB212_218.out _).trans (hHeld.2.2.2.2.1)))))), ((cell_far (p := ⟨gb218, _, none⟩) NB212_218.out _).trans (((cell_far (p := ⟨gb218, _, none⟩) NB212_218.out _).trans (((cell_far (p := ⟨gb218, _, none⟩) NB212_218.out _).trans (hHeld.2.2.2.2.2.1)))))), ((cell_far (p := ⟨gb218, _, none⟩) NB212_218.out _).trans (((cell_far (p := ⟨gb218, _, none⟩) NB212_218.out _).trans (((cell_far (p := ⟨gb218, _, none⟩) NB212_218.out _).trans (hHeld.2.2.2.2.2.2.1)))))), ((cell_far (p := ⟨gb218, _, none⟩) NB212_218.out _).trans (((cell_far (p := ⟨gb218, _, none⟩) NB212_218.out _).trans (((cell_far (p := ⟨gb218, _, none⟩) NB212_218.out _).trans (hHeld.2.2.2.2.2.2.2))))))⟩ (fun hHeld => ?_)
     clear hK K
     refine done_ (done_of HT_.out (by kernel_rfl)) ?_
     have hnb35 := NB218_212.out
     have hnc35 := NB212_218.out
     have hnb36 := NB218_213.out
     have hnc36 := NB213_218.out
     have hcz37_0 : w31.cell? ⟨gb218, 0, none⟩ = some (.int .i64 0) := (blk_cell BK218.out 0).trans rfl
     have hcz37_1 : w31.cell? ⟨gb218, 1, none⟩ = some (.int .i64 0) := (blk_cell BK218.out 1).trans rfl
     have hcz37_2 : w31.cell? ⟨gb218, 2, none⟩ = some (.int .i64 0) := (blk_cell BK218.out 2).trans rfl
     have hfz37_0 := blk_frozen BK218.out 0
     have hfz37_1 := blk_frozen BK218.out 1
     have hfz37_2 := blk_frozen BK218.out 2
     have hq2p : (((w31.setCell ⟨gb218, 0, none⟩ (.int .i64 a0_0)).setCell ⟨gb218, 1, none⟩ (.int .i64 t217)).setCell ⟨gb218, 2, none⟩ (.int .i64 (wrap64 (Int.tdiv a3 24)))).cell? ⟨gb218, 2, none⟩ = some (.int .i64 (wrap64 (Int.tdiv a3 24))) := by first | (simp [*]; done) | (go_simp; done) | (go_simp; rfl)
     try go_wp2_with (first | ((with_reducible refine gate_callee (f := 57) rfl ?_); refine goesL_ (some 41) rfl rfl Try.func57 (by kernel_rfl) rfl #[.slice A2 l2.length c2, .int .i64 (wrap64 (Int.tdiv a3 24))] rfl y121_ ?_; (with_reducible refine (impl_NextOpen.calls kj4 _ _ l2 (wrap64 (Int.tdiv a3 24)) t219 _ ?side1 ?side2 A27.out).mono ?_); (case side1 => exact Kd.C_below HR2.out y120_); (case side2 => exact HC2.out); rintro e w' ⟨rfl, ⟨nd, rfl⟩⟩; refine ⟨_, rfl, ?_⟩; have hnb38 := NB213_212.out; have hnc38 := NB212_213.out; have hcz39_0 : w31.cell? ⟨gb213, 0, none⟩ = some (.int .i64 0) := (blk_cell BK213.out 0).trans rfl; have hcz39_1 : w31.cell? ⟨gb213, 1, none⟩ = some (.int .i64 0) := (blk_cell BK213.out 1).trans rfl; have hcz39_2 : w31.cell? ⟨gb213, 2, none⟩ = some (.int .i64 0) := (blk_cell BK213.out 2).trans rfl; have hfz39_0 := blk_frozen BK213.out 0; have hfz39_1 := blk_frozen BK213.out 1; have hfz39_2 := blk_frozen BK213.out 2))
     refine bodyPost_ret (results_cell_row rfl _ _ gb213 54 #[.int .i64 a0_0, .int .i64 t217, .int .i64 t219] (0, 0) _ rfl (by (with_reducible repeat (first | refine blk_drewN ?_ _ | refine blk_drew ?_ | refine blk_alloc ?_ _)); refine blk_put (cs := #[.int .i64 a0_0, .int .i64 t217, .int .i64 0]) ?_ 2 _ rfl; (with_reducible repeat (first | refine blk_drewN ?_ _ | refine blk_drew ?_ | refine blk_alloc ?_ _)); refine blk_put (cs := #[.int .i64 a0_0, .int .i64 0, .int .i64 0]) ?_ 1 _ rfl; (with_reducible repeat (first | refine blk_drewN ?_ _ | refine blk_drew ?_ | refine blk_alloc ?_ _)); refine blk_put (cs := #[.int .i64 0, .int .i64 0, .int .i64 0]) ?_ 0 _ rfl; (with_reducible repeat (first | refine blk_drewN ?_ _ | refine blk_drew ?_ | refine blk_alloc ?_ _)); refine blk_far ?_ NB213_218.out _; (with_reducible repeat (first | refine blk_drewN ?_ _ | refine blk_drew ?_ | refine blk_alloc ?_ _)); refine blk_far ?_ NB213_218.out _; (with_reducible repeat (first | refine blk_drewN ?_ _ | refine blk_drew ?_ | refine blk_alloc ?_ _)); refine blk_far ?_ NB213_218.out _; (with_reducible repeat (first | refine blk_drewN ?_ _ | refine blk_drew ?_ | refine blk_alloc ?_ _)); refine blk_far ?_ NB213_218.out _; (with_reducible repeat (first | refine blk_drewN ?_ _ | refine blk_drew ?_ | refine blk_alloc ?_ _)); exact BK213.out) Try.underlying54 rfl (by kernel_rfl)) rfl ?_
     exact ⟨by first | rfl | (simp [errW_none, errW_some] <;> rfl) | (simp [*, errW_none, errW_some] <;> rfl), y129_⟩
    ·
     rw [if_neg c26] at H
     have c26b0 : (t217 == 1) = false := beq_eq_false_iff_ne.mpr c26
     have c26b1 : (t217 != 1) = true := bne_iff_ne.mpr c26
     by_cases c40 : t217 = 0
     ·
      rw [if_pos c40] at H
      have c40b0 : (t217 == 0) = true := beq_iff_eq.mpr c40
      have c40b1 : (t217 != 0) = false := bne_eq_false_iff_eq.mpr c40
      clear c40
      replace H := Option.bind_eq_some_iff.mp H
      obtain ⟨t220, A410, H⟩ := H
      replace H : (some (a0_0, t217, t220)) = some (r1, r2, r3) := H
      have A41 := Aside0.mk A410
      clear A410
      simp only [Option.some.injEq, Prod.mk.injEq] at H
      obtain ⟨rfl, rfl, rfl⟩ := H
      try go_wp2
      have n0_ := Aside0.mk (blk_drew BK212.out)
      have n1_ := Aside0.mk (blk_drew BK213.out)
      have n2_ := Aside0.mk (below_drew1 HB.out)
      clear BK212
      clear BK213
      clear HB
      have BK212 := n0_
      have BK213 := n1_
      have HB := n2_
      clear n0_ n1_ n2_
      refine start_ (n := 12) (S := fun w' => w'.cell? ⟨gb212, 0, none⟩ = some (.int .i64 a0_0) ∧ w'.cell? ⟨gb212, 1, none⟩ = some (.int .i64 a0_1) ∧ w'.cell? ⟨gb212, 2, none⟩ = some (.int .i64 a0_2) ∧ w'.cell? ⟨gb212, 3, none⟩ = some (.int .i64 a0_3) ∧ w'.cell? ⟨gb212, 4, none⟩ = some (.int .i64 a0_4) ∧ w'.cell? ⟨gb212, 5, none⟩ = some (.int .i64 a0_5) ∧ w'.cell? ⟨gb212, 6, none⟩ = some (.int .i64 a0_6) ∧ w'.cell? ⟨gb212, 7, none⟩ = some (.int .i64 a0_7)) (ds := []) M2_0 (by kernel_rfl) rfl rfl ⟨(blk_cell BK212.out 0).trans rfl, (blk_cell BK212.out 1).trans rfl, (blk_cell BK212.out 2).trans rfl, (blk_cell BK212.out 3).trans rfl, (blk_cell BK212.out 4).trans rfl, (blk_cell BK212.out 5).trans rfl, (blk_cell BK212.out 6).trans rfl, (blk_cell BK212.out 7).trans rfl⟩ (fun hHeld => ?_); refine with_tabW impl_TaskOf.tab3 impl_TaskOf.bits3 (fun HT_ HW_ => ?_)
      generalize wc.drew = w42 at BK212 BK213 HB hHeld ⊢
      refine pure_ (i := 0) (N := some 24) (v := ?_) (a' := ?_) M2_1 rfl rfl (any_of HT_.out (by kernel_rfl)) (fun _ _ _ h => h) (Or.inl ⟨by rfl, ?_⟩) ?_ ?_
      rotate_left; · intro w'; go_simp; with_reducible rfl
      rotate_left; · simp only [Act.put, P2_1, P2_2, P2_3, i64_w, i32_w]; rfl
      refine pure_ (i := 1) (N := some 25) (v := ?_) (a' := ?_) M2_2 rfl rfl (any_of HT_.out (by kernel_rfl)) (fun _ _ _ h => h) (Or.inl ⟨by rfl, ?_⟩) ?_ ?_
      rotate_left; · intro w'; go_simp; with_reducible rfl
      rotate_left; · simp only [Act.put, P2_1, P2_2, P2_3, i64_w, i32_w]; rfl
      refine pure_ (i := 4) (N := some 28) (v := ?_) (a' := ?_) M2_3 rfl rfl (any_of HT_.out (by kernel_rfl)) (fun _ _ _ h => h) (Or.inl ⟨by rfl, ?_⟩) ?_ ?_
      rotate_left; · intro w'; go_simp; with_reducible rfl
      rotate_left; · simp only [Act.put, P2_1, P2_2, P2_3, i64_w, i32_w]; rfl
      refine pure_ (i := 5) (N := some 29) (v := ?_) (a' := ?_) M2_4 rfl rfl (any_of HT_.out (by kernel_rfl)) (fun _ _ _ h => h) (Or.inl ⟨by rfl, ?_⟩) ?_ ?_
      rotate_left; · intro w'; go_simp; with_reducible rfl
      rotate_left; · simp only [Act.put, P2_1, P2_2, P2_3, i64_w, i32_w]; rfl
      refine pure_ (i := 7) (N := some 31) (v := ?_) (a' := ?_) M2_5 rfl rfl (any_of HT_.out (by kernel_rfl)) (fun _ _ _ h => h) (Or.inl ⟨by rfl, ?_⟩) ?_ ?_
      rotate_left; · intro w'; go_simp; with_reducible rfl
      rotate_left; · simp only [Act.put, P2_1, P2_2, P2_3, i64_w, i32_w]; rfl
      refine pure_ (i := 8) (N := some 32) (v := ?_) (a' := ?_) M2_6 rfl rfl (any_of HT_.out (by kernel_rfl)) (fun _ _ _ h => h) (Or.inl ⟨by rfl, ?_⟩) ?_ ?_
      rotate_left; · intro w'; go_simp; with_reducible rfl
      rotate_left; · simp only [Act.put, P2_1, P2_2, P2_3, i64_w, i32_w]; rfl
      refine take_ (i := 2) (N := some 26) (v := ?_) (a' := ?_) M2_7 rfl rfl (take_ofW HT_.out HW_.out (by kernel_rfl)) (fun _ _ _ h => h) (Or.inl ⟨by rfl, ?_⟩) hHeld ?_ ?_
      rotate_left; · rintro w' ⟨s0, s1, s2, s3, s4, s5, s6, s7⟩; go_simp; with_reducible rfl
      rotate_left; · simp only [Act.put, P2_1, P2_2, P2_3, i64_w, i32_w]; rfl
      refine take_ (i := 3) (N := some 27) (v := ?_) (a' := ?_) M2_8 rfl rfl (take_ofW HT_.out HW_.out (by kernel_rfl)) (fun _ _ _ h => h) (Or.inl ⟨by rfl, ?_⟩) hHeld ?_ ?_
      rotate_left; · rintro w' ⟨s0, s1, s2, s3, s4, s5, s6, s7⟩; go_simp; with_reducible rfl
      rotate_left; · simp only [Act.put, P2_1, P2_2, P2_3, i64_w, i32_w]; rfl
      refine join_ (σ := Nat) 1 M2_9 (fun s_ => [(30, .int .i64 t217), (9, .pointer (some ⟨s_, 0, none⟩)), (33, .agg #[.int .i64 a0_0, .int .i64 t217, .int .i64 (wrap64 (Int.tdiv a3 24))])]) (fun s_ w' => (w'.cell? ⟨gb212, 0, none⟩ = some (.int .i64 a0_0) ∧ w'.cell? ⟨gb212, 1, none⟩ = some (.int .i64 a0_1) ∧ w'.cell? ⟨gb212, 2, none⟩ = some (.int .i64 a0_2) ∧ w'.cell? ⟨gb212, 3, none⟩ = some (.int .i64 a0_3) ∧ w'.cell? ⟨gb212, 4, none⟩ = some (.int .i64 a0_4) ∧ w'.cell? ⟨gb212, 5, none⟩ = some (.int .i64 a0_5) ∧ w'.cell? ⟨gb212, 6, none⟩ = some (.int .i64 a0_6) ∧ w'.cell? ⟨gb212, 7, none⟩ = some (.int .i64 a0_7)) ∧ (w'.heap[gb212]? = some (.cells #[.int .i64 a0_0, .int .i64 a0_1, .int .i64 a0_2, .int .i64 a0_3, .int .i64 a0_4, .int .i64 a0_5, .int .i64 a0_6, .int .i64 a0_7] 58 (0, 0))) ∧ (w'.heap[gb213]? = some (.cells #[.int .i64 0, .int .i64 0, .int .i64 0] 54 (0, 0))) ∧ (w'.heap[s_]? = some (.cells #[.int .i64 0, .int .i64 0, .int .i64 0] 54 (0, 0))) ∧ (w.heap.size ≤ s_) ∧ (w.heap.size ≤ s_) ∧ (gb212 ≠ s_) ∧ (s_ ≠ gb212) ∧ (gb213 ≠ s_) ∧ (s_ ≠ gb213) ∧ (Below w.heap.size w w')) ?_ ?_
      rotate_left
      ·
       intro hCont
       refine two_ (i := 6) (j := 10) (Ni := some 30) (Nj := some 9) M2_10 M2_11 rfl rfl rfl rfl (two_of HT_.out (by kernel_rfl)) (by decide) (by decide) (fun K hK => ?_) (fun K hK => ?_)
       ·
        skip
        refine goes_ Try.func56 (by kernel_rfl) rfl #[.agg #[.int .i64 a0_0, .int .i64 a0_1, .int .i64 a0_2, .int .i64 a0_3, .int .i64 a0_4, .int .i64 a0_5, .int .i64 a0_6, .int .i64 a0_7], .slice A1 l1.length c1, .int .i64 a3] (by rfl) rfl rfl y121_ ?_
        with_reducible refine (impl_FateOf.calls kj4 a0_0 a0_1 a0_2 a0_3 a0_4 a0_5 a0_6 a0_7 _ _ l1 a3 t217 _ ?side1 ?side2 A25.out).mono ?_
        (case side1 => repeat (first | exact (Kd.C_below HR1.out HB.out) | (with_reducible refine Kd.C_alloc ?_ _) | (with_reducible refine Kd.C_drewN ?_ _) | (with_reducible refine Kd.C_drew ?_)))
        (case side2 => exact HC1.out)
        rintro e w43 ⟨rfl, hb⟩
        refine ⟨_, rfl, ?_⟩
        have n0_ := Aside0.mk (blk_below (g := gb212) (o := .cells #[.int .i64 a0_0, .int .i64 a0_1, .int .i64 a0_2, .int .i64 a0_3, .int .i64 a0_4, .int .i64 a0_5, .int .i64 a0_6, .int .i64 a0_7] 58 (0, 0)) y118_ hb)
        have n1_ := Aside0.mk (blk_below (g := gb213) (o := .cells #[.int .i64 0, .int .i64 0, .int .i64 0] 54 (0, 0)) y119_ hb)
        have n2_ := Aside0.mk (below_step y117_ hb)
        clear BK212
        clear BK213
        clear HB
        have BK212 := n0_
        have BK213 := n1_
        have HB := n2_
        clear n0_ n1_ n2_
        (try clear hb)
        (try clear hb2)
        (try clear hk)
        (try clear hi)
        refine hK.out _ _ ⟨(blk_cell BK212.out 0).trans rfl, (blk_cell BK212.out 1).trans rfl, (blk_cell BK212.out 2).trans rfl, (blk_cell BK212.out 3).trans rfl, (blk_cell BK212.out 4).trans rfl, (blk_cell BK212.out 5).trans rfl, (blk_cell BK212.out 6).trans rfl, (blk_cell BK212.out 7).trans rfl⟩ (fun hHeld => ?_)
        clear hK K
        refine norm_ (a' := ?_) ?_ ?_
        rotate_left
        ·
         show Act.put _ (some 30) _ = _
         simp only [Act.put, P2_1, P2_2, P2_3, i64_w, i32_w]
         rfl
        refine pure_ (i := 9) (N := some 33) (v := ?_) (a' := ?_) M2_12 rfl rfl (any_of HT_.out (by kernel_rfl)) (fun _ _ _ h => h) (Or.inl ⟨by rfl, ?_⟩) ?_ ?_
        rotate_left; · intro w'; go_simp; with_reducible rfl
        rotate_left; · simp only [Act.put, P2_1, P2_2, P2_3, i64_w, i32_w]; rfl
        refine one_ (i := 10) (N := some 9) M2_9 rfl rfl (one_of HT_.out (by kernel_rfl)) (by decide) (fun K hK => ?_)
        refine box_step ?hg (N := 9) ?hd (cs := #[.int .i64 0, .int .i64 0, .int .i64 0]) (t := 54) ?hr ?_; (case hd => rfl); (case hg => rfl); (case hr => first | (go_simp; done) | (go_simp; rfl))
        intro gb218 hg w44 hbox hb
        have n0_ := Aside0.mk (blk_below (g := gb212) (o := .cells #[.int .i64 a0_0, .int .i64 a0_1, .int .i64 a0_2, .int .i64 a0_3, .int .i64 a0_4, .int .i64 a0_5, .int .i64 a0_6, .int .i64 a0_7] 58 (0, 0)) y118_ hb)
        have n1_ := Aside0.mk (blk_below (g := gb213) (o := .cells #[.int .i64 0, .int .i64 0, .int .i64 0] 54 (0, 0)) y119_ hb)
        have n2_ := Aside0.mk (below_step y117_ hb)
        have n3_ := Aside0.mk (hbox)
        have n4_ := Aside0.mk ((y130_ : w.heap.size ≤ gb218))
        have n5_ := Aside0.mk ((y130_ : w.heap.size ≤ gb218))
        have n6_ := Aside0.mk ((y122_ : gb212 ≠ gb218))
        have n7_ := Aside0.mk ((y123_ : gb218 ≠ gb212))
        have n8_ := Aside0.mk ((y125_ : gb213 ≠ gb218))
        have n9_ := Aside0.mk ((y126_ : gb218 ≠ gb213))
        clear BK212
        clear BK213
        clear HB
        have BK212 := n0_
        have BK213 := n1_
        have HB := n2_
        have BK218 := n3_
        have GW218 := n4_
        have GE218 := n5_
        have NB212_218 := n6_
        have NB218_212 := n7_
        have NB213_218 := n8_
        have NB218_213 := n9_
        clear n0_ n1_ n2_ n3_ n4_ n5_ n6_ n7_ n8_ n9_
        clear hb hbox hg
        refine hK.out _ _ ⟨(blk_cell BK212.out 0).trans rfl, (blk_cell BK212.out 1).trans rfl, (blk_cell BK212.out 2).trans rfl, (blk_cell BK212.out 3).trans rfl, (blk_cell BK212.out 4).trans rfl, (blk_cell BK212.out 5).trans rfl, (blk_cell BK212.out 6).trans rfl, (blk_cell BK212.out 7).trans rfl⟩ (fun hHeld => ?_)
        clear hK K
        refine norm_ (a' := ?_) ?_ ?_
        rotate_left
        ·
         show Act.put _ (some 9) _ = _
         simp only [Act.put, P2_1, P2_2, P2_3, i64_w, i32_w]
         rfl
        exact norm_ y128_ (hCont (gb218) _ ⟨hHeld, y118_, y119_, y124_, GW218.out, GE218.out, NB212_218.out, NB218_212.out, NB213_218.out, NB218_213.out, y120_⟩)
       ·
        skip
        refine box_step ?hg (N := 9) ?hd (cs := #[.int .i64 0, .int .i64 0, .int .i64 0]) (t := 54) ?hr ?_; (case hd => rfl); (case hg => rfl); (case hr => first | (go_simp; done) | (go_simp; rfl))
        intro gb218 hg w43 hbox hb
        have n0_ := Aside0.mk (blk_below (g := gb212) (o := .cells #[.int .i64 a0_0, .int .i64 a0_1, .int .i64 a0_2, .int .i64 a0_3, .int .i64 a0_4, .int .i64 a0_5, .int .i64 a0_6, .int .i64 a0_7] 58 (0, 0)) y118_ hb)
        have n1_ := Aside0.mk (blk_below (g := gb213) (o := .cells #[.int .i64 0, .int .i64 0, .int .i64 0] 54 (0, 0)) y119_ hb)
        have n2_ := Aside0.mk (below_step y117_ hb)
        have n3_ := Aside0.mk (hbox)
        have n4_ := Aside0.mk ((y130_ : w.heap.size ≤ gb218))
        have n5_ := Aside0.mk ((y130_ : w.heap.size ≤ gb218))
        have n6_ := Aside0.mk ((y122_ : gb212 ≠ gb218))
        have n7_ := Aside0.mk ((y123_ : gb218 ≠ gb212))
        have n8_ := Aside0.mk ((y125_ : gb213 ≠ gb218))
        have n9_ := Aside0.mk ((y126_ : gb218 ≠ gb213))
        clear BK212
        clear BK213
        clear HB
        have BK212 := n0_
        have BK213 := n1_
        have HB := n2_
        have BK218 := n3_
        have GW218 := n4_
        have GE218 := n5_
        have NB212_218 := n6_
        have NB218_212 := n7_
        have NB213_218 := n8_
        have NB218_213 := n9_
        clear n0_ n1_ n2_ n3_ n4_ n5_ n6_ n7_ n8_ n9_
        clear hb hbox hg
        refine hK.out _ _ ⟨(blk_cell BK212.out 0).trans rfl, (blk_cell BK212.out 1).trans rfl, (blk_cell BK212.out 2).trans rfl, (blk_cell BK212.out 3).trans rfl, (blk_cell BK212.out 4).trans rfl, (blk_cell BK212.out 5).trans rfl, (blk_cell BK212.out 6).trans rfl, (blk_cell BK212.out 7).trans rfl⟩ (fun hHeld => ?_)
        clear hK K
        refine norm_ (a' := ?_) ?_ ?_
        rotate_left
        ·
         show Act.put _ (some 9) _ = _
         simp only [Act.put, P2_1, P2_2, P2_3, i64_w, i32_w]
         rfl
        refine one_ (i := 6) (N := some 30) M2_13 rfl rfl (one_of HT_.out (by kernel_rfl)) (by decide) (fun K hK => ?_)
        refine goes_ Try.func56 (by kernel_rfl) rfl #[.agg #[.int .i64 a0_0, .int .i64 a0_1, .int .i64 a0_2, .int .i64 a0_3, .int .i64 a0_4, .int .i64 a0_5, .int .i64 a0_6, .int .i64 a0_7], .slice A1 l1.length c1, .int .i64 a3] (by rfl) rfl rfl y121_ ?_
        with_reducible refine (impl_FateOf.calls kj4 a0_0 a0_1 a0_2 a0_3 a0_4 a0_5 a0_6 a0_7 _ _ l1 a3 t217 _ ?side1 ?side2 A25.out).mono ?_
        (case side1 => repeat (first | exact (Kd.C_below HR1.out HB.out) | (with_reducible refine Kd.C_alloc ?_ _) | (with_reducible refine Kd.C_drewN ?_ _) | (with_reducible refine Kd.C_drew ?_)))
        (case side2 => exact HC1.out)
        rintro e w44 ⟨rfl, hb⟩
        refine ⟨_, rfl, ?_⟩
        have n0_ := Aside0.mk (blk_below (g := gb212) (o := .cells #[.int .i64 a0_0, .int .i64 a0_1, .int .i64 a0_2, .int .i64 a0_3, .int .i64 a0_4, .int .i64 a0_5, .int .i64 a0_6, .int .i64 a0_7] 58 (0, 0)) y118_ hb)
        have n1_ := Aside0.mk (blk_below (g := gb213) (o := .cells #[.int .i64 0, .int .i64 0, .int .i64 0] 54 (0, 0)) y119_ hb)
        have n2_ := Aside0.mk (blk_below (g := gb218) (o := .cells #[.int .i64 0, .int .i64 0, .int .i64 0] 54 (0, 0)) y124_ hb)
        have n3_ := Aside0.mk (below_step y120_ hb)
        clear BK212
        clear BK213
        clear BK218
        clear HB
        have BK212 := n0_
        have BK213 := n1_
        have BK218 := n2_
        have HB := n3_
        clear n0_ n1_ n2_ n3_
        (try clear hb)
        (try clear hb2)
        (try clear hk)
        (try clear hi)
        refine hK.out _ _ ⟨(blk_cell BK212.out 0).trans rfl, (blk_cell BK212.out 1).trans rfl, (blk_cell BK212.out 2).trans rfl, (blk_cell BK212.out 3).trans rfl, (blk_cell BK212.out 4).trans rfl, (blk_cell BK212.out 5).trans rfl, (blk_cell BK212.out 6).trans rfl, (blk_cell BK212.out 7).trans rfl⟩ (fun hHeld => ?_)
        clear hK K
        refine norm_ (a' := ?_) ?_ ?_
        rotate_left
        ·
         show Act.put _ (some 30) _ = _
         simp only [Act.put, P2_1, P2_2, P2_3, i64_w, i32_w]
         rfl
        refine pure_ (i := 9) (N := some 33) (v := ?_) (a' := ?_) M2_9 rfl rfl (any_of HT_.out (by kernel_rfl)) (fun _ _ _ h => h) (Or.inl ⟨by rfl, ?_⟩) ?_ ?_
        rotate_left; · intro w'; go_simp; with_reducible rfl
        rotate_left; · simp only [Act.put, P2_1, P2_2, P2_3, i64_w, i32_w]; rfl
        exact norm_ y128_ (hCont (gb218) _ ⟨hHeld, y118_, y119_, y124_, GW218.out, GE218.out, NB212_218.out, NB218_212.out, NB213_218.out, NB218_213.out, y120_⟩)
      rintro gb218 w45 ⟨hS_, h0_, h1_, h2_, h3_, h4_, h5_, h6_, h7_, h8_, h9_⟩
      have n0_ : Aside0 (w45.heap[gb212]? = some (.cells #[.int .i64 a0_0, .int .i64 a0_1, .int .i64 a0_2, .int .i64 a0_3, .int .i64 a0_4, .int .i64 a0_5, .int .i64 a0_6, .int .i64 a0_7] 58 (0, 0))) := ⟨h0_⟩
      have n1_ : Aside0 (w45.heap[gb213]? = some (.cells #[.int .i64 0, .int .i64 0, .int .i64 0] 54 (0, 0))) := ⟨h1_⟩
      have n2_ : Aside0 (w45.heap[gb218]? = some (.cells #[.int .i64 0, .int .i64 0, .int .i64 0] 54 (0, 0))) := ⟨h2_⟩
      have n3_ : Aside0 (w.heap.size ≤ gb218) := ⟨h3_⟩
      have n4_ : Aside0 (w.heap.size ≤ gb218) := ⟨h4_⟩
      have n5_ : Aside0 (gb212 ≠ gb218) := ⟨h5_⟩
      have n6_ : Aside0 (gb218 ≠ gb212) := ⟨h6_⟩
      have n7_ : Aside0 (gb213 ≠ gb218) := ⟨h7_⟩
      have n8_ : Aside0 (gb218 ≠ gb213) := ⟨h8_⟩
      have n9_ : Aside0 (Below w.heap.size w w45) := ⟨h9_⟩
      clear BK212
      clear BK213
      clear HB
      clear h0_ h1_ h2_ h3_ h4_ h5_ h6_ h7_ h8_ h9_
      have BK212 := n0_
      have BK213 := n1_
      have BK218 := n2_
      have GW218 := n3_
      have GE218 := n4_
      have NB212_218 := n5_
      have NB218_212 := n6_
      have NB213_218 := n7_
      have NB218_213 := n8_
      have HB := n9_
      clear n0_ n1_ n2_ n3_ n4_ n5_ n6_ n7_ n8_ n9_
      have hHeld : w45.cell? ⟨gb212, 0, none⟩ = some (.int .i64 a0_0) ∧ w45.cell? ⟨gb212, 1, none⟩ = some (.int .i64 a0_1) ∧ w45.cell? ⟨gb212, 2, none⟩ = some (.int .i64 a0_2) ∧ w45.cell? ⟨gb212, 3, none⟩ = some (.int .i64 a0_3) ∧ w45.cell? ⟨gb212, 4, none⟩ = some (.int .i64 a0_4) ∧ w45.cell? ⟨gb212, 5, none⟩ = some (.int .i64 a0_5) ∧ w45.cell? ⟨gb212, 6, none⟩ = some (.int .i64 a0_6) ∧ w45.cell? ⟨gb212, 7, none⟩ = some (.int .i64 a0_7) := hS_
      refine norm_ (a' := ?_) ?_ ?_
      rotate_left
      ·
       simp only [putAll, Act.put, List.setIfInBounds_toArray, List.set_cons_zero, List.set_cons_succ]
       rfl
      refine one_ (i := 11) (N := none) M2_14 rfl rfl (one_of HT_.out (by kernel_rfl)) (by decide) (fun K hK => ?_)
      have hs46 : w45.cell? ⟨gb218, 0, none⟩ = some (.int .i64 0) := (blk_cell BK218.out 0).trans rfl
      have hfs46 := blk_frozen BK218.out 0
      have hns46_0 := NB212_218.out
      have hns46_1 := NB213_218.out
      have hms46_0 := NB218_212.out
      have hms46_1 := NB218_213.out
      have hs47 : w45.cell? ⟨gb218, 1, none⟩ = some (.int .i64 0) := (blk_cell BK218.out 1).trans rfl
      have hfs47 := blk_frozen BK218.out 1
      have hns47_0 := NB212_218.out
      have hns47_1 := NB213_218.out
      have hms47_0 := NB218_212.out
      have hms47_1 := NB218_213.out
      have hs48 : w45.cell? ⟨gb218, 2, none⟩ = some (.int .i64 0) := (blk_cell BK218.out 2).trans rfl
      have hfs48 := blk_frozen BK218.out 2
      have hns48_0 := NB212_218.out
      have hns48_1 := NB213_218.out
      have hms48_0 := NB218_212.out
      have hms48_1 := NB218_213.out
      refine skip_ (w1 := ?_) (by rfl) rfl ?_ ?_
      rotate_left
      ·
       go_simp
       rfl
      refine hK.out _ _ ⟨((cell_far (p := ⟨gb218, _, none⟩) NB212_218.out _).trans (((cell_far (p := ⟨gb218, _, none⟩) NB212_218.out _).trans (((cell_far (p := ⟨gb218, _, none⟩) NB212_218.out _).trans (hHeld.1)))))), ((cell_far (p := ⟨gb218, _, none⟩) NB212_218.out _).trans (((cell_far (p := ⟨gb218, _, none⟩) NB212_218.out _).trans (((cell_far (p := ⟨gb218, _, none⟩) NB212_218.out _).trans (hHeld.2.1)))))), ((cell_far (p := ⟨gb218, _, none⟩) NB212_218.out _).trans (((cell_far (p := ⟨gb218, _, none⟩) NB212_218.out _).trans (((cell_far (p := ⟨gb218, _, none⟩) NB212_218.out _).trans (hHeld.2.2.1)))))), ((cell_far (p := ⟨gb218, _, none⟩) NB212_218.out _).trans (((cell_far (p := ⟨gb218, _, none⟩) NB212_218.out _).trans (((cell_far (p := ⟨gb218, _, none⟩) NB212_218.out _).trans (hHeld.2.2.2.1)))))), ((cell_far (p := ⟨gb218, _, none⟩) NB212_218.out _).trans (((cell_far (p := ⟨gb218, _, none⟩) NB212_218.out _).trans (((cell_far (p := ⟨gb218, _, none⟩) NB212_218.out _).trans (hHeld.2.2.2.2.1)))))), ((cell_far (p := ⟨gb218, _, none⟩) NB212_218.out _).trans (((cell_far (p := ⟨gb218, _, none⟩) NB212_218.out _).trans (((cell_far (p := ⟨gb218, _, none⟩) NB212_218.out _).trans (hHeld.2.2.2.2.2.1)))))), ((cell_far (p := ⟨gb218, _, none⟩) NB212_218.out _).trans (((cell_far (p := ⟨gb218, _, none⟩) NB212_218.out _).trans (((cell_far (p := ⟨gb218, _, none⟩) NB212_218.out _).trans (hHeld.2.2.2.2.2.2.1)))))), ((cell_far (p := ⟨gb218, _, none⟩) NB212_218.out _).trans (((cell_far (p := ⟨gb218, _, none⟩) NB212_218.out _).trans (((cell_far (p := ⟨gb218, _, none⟩) NB212_218.out _).trans (hHeld.2.2.2.2.2.2.2))))))⟩ (fun hHeld => ?_)
      clear hK K
      refine done_ (done_of HT_.out (by kernel_rfl)) ?_
      have hnb49 := NB218_212.out
      have hnc49 := NB212_218.out
      have hnb50 := NB218_213.out
      have hnc50 := NB213_218.out
      have hcz51_0 : w45.cell? ⟨gb218, 0, none⟩ = some (.int .i64 0) := (blk_cell BK218.out 0).trans rfl
      have hcz51_1 : w45.cell? ⟨gb218, 1, none⟩ = some (.int .i64 0) := (blk_cell BK218.out 1).trans rfl
      have hcz51_2 : w45.cell? ⟨gb218, 2, none⟩ = some (.int .i64 0) := (blk_cell BK218.out 2).trans rfl
      have hfz51_0 := blk_frozen BK218.out 0
      have hfz51_1 := blk_frozen BK218.out 1
      have hfz51_2 := blk_frozen BK218.out 2
      have hnb52 := NB212_213.out
      have hnc52 := NB213_212.out
      have hcz53_0 : w45.cell? ⟨gb212, 0, none⟩ = some (.int .i64 a0_0) := (blk_cell BK212.out 0).trans rfl
      have hcz53_1 : w45.cell? ⟨gb212, 1, none⟩ = some (.int .i64 a0_1) := (blk_cell BK212.out 1).trans rfl
      have hcz53_2 : w45.cell? ⟨gb212, 2, none⟩ = some (.int .i64 a0_2) := (blk_cell BK212.out 2).trans rfl
      have hcz53_3 : w45.cell? ⟨gb212, 3, none⟩ = some (.int .i64 a0_3) := (blk_cell BK212.out 3).trans rfl
      have hcz53_4 : w45.cell? ⟨gb212, 4, none⟩ = some (.int .i64 a0_4) := (blk_cell BK212.out 4).trans rfl
      have hcz53_5 : w45.cell? ⟨gb212, 5, none⟩ = some (.int .i64 a0_5) := (blk_cell BK212.out 5).trans rfl
      have hcz53_6 : w45.cell? ⟨gb212, 6, none⟩ = some (.int .i64 a0_6) := (blk_cell BK212.out 6).trans rfl
      have hcz53_7 : w45.cell? ⟨gb212, 7, none⟩ = some (.int .i64 a0_7) := (blk_cell BK212.out 7).trans rfl
      have hfz53_0 := blk_frozen BK212.out 0
      have hfz53_1 := blk_frozen BK212.out 1
      have hfz53_2 := blk_frozen BK212.out 2
      have hfz53_3 := blk_frozen BK212.out 3
      have hfz53_4 := blk_frozen BK212.out 4
      have hfz53_5 := blk_frozen BK212.out 5
      have hfz53_6 := blk_frozen BK212.out 6
      have hfz53_7 := blk_frozen BK212.out 7
      try go_wp2_with (first | ((with_reducible refine gate_callee (f := 58) rfl ?_); refine goesL_ (some 47) rfl rfl Try.func58 (by kernel_rfl) rfl #[.slice A2 l2.length c2, .agg #[.int .i64 a0_0, .int .i64 a0_1, .int .i64 a0_2, .int .i64 a0_3, .int .i64 a0_4, .int .i64 a0_5, .int .i64 a0_6, .int .i64 a0_7]] rfl y121_ ?_; (with_reducible refine (impl_LastDay.calls kj4 _ _ l2 a0_0 a0_1 a0_2 a0_3 a0_4 a0_5 a0_6 a0_7 t220 _ ?side1 ?side2 A41.out).mono ?_); (case side1 => exact Kd.C_below HR2.out y120_); (case side2 => exact HC2.out); rintro e w54 ⟨rfl, hb⟩; refine ⟨_, rfl, ?_⟩; have n0_ := Aside0.mk (blk_below (g := gb212) (o := .cells #[.int .i64 a0_0, .int .i64 a0_1, .int .i64 a0_2, .int .i64 a0_3, .int .i64 a0_4, .int .i64 a0_5, .int .i64 a0_6, .int .i64 a0_7] 58 (0, 0)) (by (with_reducible repeat (first | refine blk_drewN ?_ _ | refine blk_drew ?_ | refine blk_alloc ?_ _)); refine blk_far ?_ NB212_218.out _; (with_reducible repeat (first | refine blk_drewN ?_ _ | refine blk_drew ?_ | refine blk_alloc ?_ _)); refine blk_far ?_ NB212_218.out _; (with_reducible repeat (first | refine blk_drewN ?_ _ | refine blk_drew ?_ | refine blk_alloc ?_ _)); refine blk_far ?_ NB212_218.out _; (with_reducible repeat (first | refine blk_drewN ?_ _ | refine blk_drew ?_ | refine blk_alloc ?_ _)); exact BK212.out) hb); have n1_ := Aside0.mk (blk_below (g := gb213) (o := .cells #[.int .i64 0, .int .i64 0, .int .i64 0] 54 (0, 0)) (by (with_reducible repeat (first | refine blk_drewN ?_ _ | refine blk_drew ?_ | refine blk_alloc ?_ _)); refine blk_far ?_ NB213_218.out _; (with_reducible repeat (first | refine blk_drewN ?_ _ | refine blk_drew ?_ | refine blk_alloc ?_ _)); refine blk_far ?_ NB213_218.out _; (with_reducible repeat (first | refine blk_drewN ?_ _ | refine blk_drew ?_ | refine blk_alloc ?_ _)); refine blk_far ?_ NB213_218.out _; (with_reducible repeat (first | refine blk_drewN ?_ _ | refine blk_drew ?_ | refine blk_alloc ?_ _)); exact BK213.out) hb); have n2_ := Aside0.mk (blk_below (g := gb218) (o := .cells #[.int .i64 a0_0, .int .i64 t217, .int .i64 (wrap64 (Int.tdiv a3 24))] 54 (0, 0)) (by (with_reducible repeat (first | refine blk_drewN ?_ _ | refine blk_drew ?_ | refine blk_alloc ?_ _)); refine blk_put (cs := #[.int .i64 a0_0, .int .i64 t217, .int .i64 0]) ?_ 2 _ rfl; (with_reducible repeat (first | refine blk_drewN ?_ _ | refine blk_drew ?_ | refine blk_alloc ?_ _)); refine blk_put (cs := #[.int .i64 a0_0, .int .i64 0, .int .i64 0]) ?_ 1 _ rfl; (with_reducible repeat (first | refine blk_drewN ?_ _ | refine blk_drew ?_ | refine blk_alloc ?_ _)); refine blk_put (cs := #[.int .i64 0, .int .i64 0, .int .i64 0]) ?_ 0 _ rfl; (with_reducible repeat (first | refine blk_drewN ?_ _ | refine blk_drew ?_ | refine blk_alloc ?_ _)); exact BK218.out) hb); have n3_ := Aside0.mk (below_step y120_ hb); clear BK212; clear BK213; clear BK218; clear HB; have BK212 := n0_; have BK213 := n1_; have BK218 := n2_; have HB := n3_; clear n0_ n1_ n2_ n3_; (try clear hb); (try clear hb2); (try clear hk); (try clear hi); have hcz55_0 : w54.cell? ⟨gb218, 0, none⟩ = some (.int .i64 a0_0) := (blk_cell BK218.out 0).trans rfl; have hcz55_1 : w54.cell? ⟨gb218, 1, none⟩ = some (.int .i64 t217) := (blk_cell BK218.out 1).trans rfl; have hcz55_2 : w54.cell? ⟨gb218, 2, none⟩ = some (.int .i64 (wrap64 (Int.tdiv a3 24))) := (blk_cell BK218.out 2).trans rfl; have hfz55_0 := blk_frozen BK218.out 0; have hfz55_1 := blk_frozen BK218.out 1; have hfz55_2 := blk_frozen BK218.out 2; have hcz56_0 : w54.cell? ⟨gb213, 0, none⟩ = some (.int .i64 0) := (blk_cell BK213.out 0).trans rfl; have hcz56_1 : w54.cell? ⟨gb213, 1, none⟩ = some (.int .i64 0) := (blk_cell BK213.out 1).trans rfl; have hcz56_2 : w54.cell? ⟨gb213, 2, none⟩ = some (.int .i64 0) := (blk_cell BK213.out 2).trans rfl; have hfz56_0 := blk_frozen BK213.out 0; have hfz56_1 := blk_frozen BK213.out 1; have hfz56_2 := blk_frozen BK213.out 2))
      refine bodyPost_ret (results_cell_row rfl _ _ gb213 54 #[.int .i64 a0_0, .int .i64 t217, .int .i64 t220] (0, 0) _ rfl (by (with_reducible repeat (first | refine blk_drewN ?_ _ | refine blk_drew ?_ | refine blk_alloc ?_ _)); refine blk_put (cs := #[.int .i64 a0_0, .int .i64 t217, .int .i64 0]) ?_ 2 _ rfl; (with_reducible repeat (first | refine blk_drewN ?_ _ | refine blk_drew ?_ | refine blk_alloc ?_ _)); refine blk_put (cs := #[.int .i64 a0_0, .int .i64 0, .int .i64 0]) ?_ 1 _ rfl; (with_reducible repeat (first | refine blk_drewN ?_ _ | refine blk_drew ?_ | refine blk_alloc ?_ _)); refine blk_put (cs := #[.int .i64 0, .int .i64 0, .int .i64 0]) ?_ 0 _ rfl; (with_reducible repeat (first | refine blk_drewN ?_ _ | refine blk_drew ?_ | refine blk_alloc ?_ _)); refine blk_far ?_ NB213_218.out _; (with_reducible repeat (first | refine blk_drewN ?_ _ | refine blk_drew ?_ | refine blk_alloc ?_ _)); exact BK213.out) Try.underlying54 rfl (by kernel_rfl)) rfl ?_
      exact ⟨by first | rfl | (simp [errW_none, errW_some] <;> rfl) | (simp [*, errW_none, errW_some] <;> rfl), y129_⟩
     ·
      rw [if_neg c40] at H
      have c40b0 : (t217 == 0) = false := beq_eq_false_iff_ne.mpr c40
      have c40b1 : (t217 != 0) = true := bne_iff_ne.mpr c40
      simp only [Option.some.injEq, Prod.mk.injEq] at H
      obtain ⟨rfl, rfl, rfl⟩ := H
      try go_wp2
      have n0_ := Aside0.mk (blk_drew BK212.out)
      have n1_ := Aside0.mk (blk_drew BK213.out)
      have n2_ := Aside0.mk (below_drew1 HB.out)
      clear BK212
      clear BK213
      clear HB
      have BK212 := n0_
      have BK213 := n1_
      have HB := n2_
      clear n0_ n1_ n2_
      refine start_ (n := 12) (S := fun w' => w'.cell? ⟨gb212, 0, none⟩ = some (.int .i64 a0_0) ∧ w'.cell? ⟨gb212, 1, none⟩ = some (.int .i64 a0_1) ∧ w'.cell? ⟨gb212, 2, none⟩ = some (.int .i64 a0_2) ∧ w'.cell? ⟨gb212, 3, none⟩ = some (.int .i64 a0_3) ∧ w'.cell? ⟨gb212, 4, none⟩ = some (.int .i64 a0_4) ∧ w'.cell? ⟨gb212, 5, none⟩ = some (.int .i64 a0_5) ∧ w'.cell? ⟨gb212, 6, none⟩ = some (.int .i64 a0_6) ∧ w'.cell? ⟨gb212, 7, none⟩ = some (.int .i64 a0_7)) (ds := []) M2_0 (by kernel_rfl) rfl rfl ⟨(blk_cell BK212.out 0).trans rfl, (blk_cell BK212.out 1).trans rfl, (blk_cell BK212.out 2).trans rfl, (blk_cell BK212.out 3).trans rfl, (blk_cell BK212.out 4).trans rfl, (blk_cell BK212.out 5).trans rfl, (blk_cell BK212.out 6).trans rfl, (blk_cell BK212.out 7).trans rfl⟩ (fun hHeld => ?_); refine with_tabW impl_TaskOf.tab3 impl_TaskOf.bits3 (fun HT_ HW_ => ?_)
      generalize wc.drew = w57 at BK212 BK213 HB hHeld ⊢
      refine pure_ (i := 0) (N := some 24) (v := ?_) (a' := ?_) M2_1 rfl rfl (any_of HT_.out (by kernel_rfl)) (fun _ _ _ h => h) (Or.inl ⟨by rfl, ?_⟩) ?_ ?_
      rotate_left; · intro w'; go_simp; with_reducible rfl
      rotate_left; · simp only [Act.put, P2_1, P2_2, P2_3, i64_w, i32_w]; rfl
      refine pure_ (i := 1) (N := some 25) (v := ?_) (a' := ?_) M2_2 rfl rfl (any_of HT_.out (by kernel_rfl)) (fun _ _ _ h => h) (Or.inl ⟨by rfl, ?_⟩) ?_ ?_
      rotate_left; · intro w'; go_simp; with_reducible rfl
      rotate_left; · simp only [Act.put, P2_1, P2_2, P2_3, i64_w, i32_w]; rfl
      refine pure_ (i := 4) (N := some 28) (v := ?_) (a' := ?_) M2_3 rfl rfl (any_of HT_.out (by kernel_rfl)) (fun _ _ _ h => h) (Or.inl ⟨by rfl, ?_⟩) ?_ ?_
      rotate_left; · intro w'; go_simp; with_reducible rfl
      rotate_left; · simp only [Act.put, P2_1, P2_2, P2_3, i64_w, i32_w]; rfl
      refine pure_ (i := 5) (N := some 29) (v := ?_) (a' := ?_) M2_4 rfl rfl (any_of HT_.out (by kernel_rfl)) (fun _ _ _ h => h) (Or.inl ⟨by rfl, ?_⟩) ?_ ?_
      rotate_left; · intro w'; go_simp; with_reducible rfl
      rotate_left; · simp only [Act.put, P2_1, P2_2, P2_3, i64_w, i32_w]; rfl
      refine pure_ (i := 7) (N := some 31) (v := ?_) (a' := ?_) M2_5 rfl rfl (any_of HT_.out (by kernel_rfl)) (fun _ _ _ h => h) (Or.inl ⟨by rfl, ?_⟩) ?_ ?_
      rotate_left; · intro w'; go_simp; with_reducible rfl
      rotate_left; · simp only [Act.put, P2_1, P2_2, P2_3, i64_w, i32_w]; rfl
      refine pure_ (i := 8) (N := some 32) (v := ?_) (a' := ?_) M2_6 rfl rfl (any_of HT_.out (by kernel_rfl)) (fun _ _ _ h => h) (Or.inl ⟨by rfl, ?_⟩) ?_ ?_
      rotate_left; · intro w'; go_simp; with_reducible rfl
      rotate_left; · simp only [Act.put, P2_1, P2_2, P2_3, i64_w, i32_w]; rfl
      refine take_ (i := 2) (N := some 26) (v := ?_) (a' := ?_) M2_7 rfl rfl (take_ofW HT_.out HW_.out (by kernel_rfl)) (fun _ _ _ h => h) (Or.inl ⟨by rfl, ?_⟩) hHeld ?_ ?_
      rotate_left; · rintro w' ⟨s0, s1, s2, s3, s4, s5, s6, s7⟩; go_simp; with_reducible rfl
      rotate_left; · simp only [Act.put, P2_1, P2_2, P2_3, i64_w, i32_w]; rfl
      refine take_ (i := 3) (N := some 27) (v := ?_) (a' := ?_) M2_8 rfl rfl (take_ofW HT_.out HW_.out (by kernel_rfl)) (fun _ _ _ h => h) (Or.inl ⟨by rfl, ?_⟩) hHeld ?_ ?_
      rotate_left; · rintro w' ⟨s0, s1, s2, s3, s4, s5, s6, s7⟩; go_simp; with_reducible rfl
      rotate_left; · simp only [Act.put, P2_1, P2_2, P2_3, i64_w, i32_w]; rfl
      refine join_ (σ := Nat) 1 M2_9 (fun s_ => [(30, .int .i64 t217), (9, .pointer (some ⟨s_, 0, none⟩)), (33, .agg #[.int .i64 a0_0, .int .i64 t217, .int .i64 (wrap64 (Int.tdiv a3 24))])]) (fun s_ w' => (w'.cell? ⟨gb212, 0, none⟩ = some (.int .i64 a0_0) ∧ w'.cell? ⟨gb212, 1, none⟩ = some (.int .i64 a0_1) ∧ w'.cell? ⟨gb212, 2, none⟩ = some (.int .i64 a0_2) ∧ w'.cell? ⟨gb212, 3, none⟩ = some (.int .i64 a0_3) ∧ w'.cell? ⟨gb212, 4, none⟩ = some (.int .i64 a0_4) ∧ w'.cell? ⟨gb212, 5, none⟩ = some (.int .i64 a0_5) ∧ w'.cell? ⟨gb212, 6, none⟩ = some (.int .i64 a0_6) ∧ w'.cell? ⟨gb212, 7, none⟩ = some (.int .i64 a0_7)) ∧ (w'.heap[gb212]? = some (.cells #[.int .i64 a0_0, .int .i64 a0_1, .int .i64 a0_2, .int .i64 a0_3, .int .i64 a0_4, .int .i64 a0_5, .int .i64 a0_6, .int .i64 a0_7] 58 (0, 0))) ∧ (w'.heap[gb213]? = some (.cells #[.int .i64 0, .int .i64 0, .int .i64 0] 54 (0, 0))) ∧ (w'.heap[s_]? = some (.cells #[.int .i64 0, .int .i64 0, .int .i64 0] 54 (0, 0))) ∧ (w.heap.size ≤ s_) ∧ (w.heap.size ≤ s_) ∧ (gb212 ≠ s_) ∧ (s_ ≠ gb212) ∧ (gb213 ≠ s_) ∧ (s_ ≠ gb213) ∧ (Below w.heap.size w w')) ?_ ?_
      rotate_left
      ·
       intro hCont
       refine two_ (i := 6) (j := 10) (Ni := some 30) (Nj := some 9) M2_10 M2_11 rfl rfl rfl rfl (two_of HT_.out (by kernel_rfl)) (by decide) (by decide) (fun K hK => ?_) (fun K hK => ?_)
       ·
        skip
        refine goes_ Try.func56 (by kernel_rfl) rfl #[.agg #[.int .i64 a0_0, .int .i64 a0_1, .int .i64 a0_2, .int .i64 a0_3, .int .i64 a0_4, .int .i64 a0_5, .int .i64 a0_6, .int .i64 a0_7], .slice A1 l1.length c1, .int .i64 a3] (by rfl) rfl rfl y121_ ?_
        with_reducible refine (impl_FateOf.calls kj4 a0_0 a0_1 a0_2 a0_3 a0_4 a0_5 a0_6 a0_7 _ _ l1 a3 t217 _ ?side1 ?side2 A25.out).mono ?_
        (case side1 => repeat (first | exact (Kd.C_below HR1.out HB.out) | (with_reducible refine Kd.C_alloc ?_ _) | (with_reducible refine Kd.C_drewN ?_ _) | (with_reducible refine Kd.C_drew ?_)))
        (case side2 => exact HC1.out)
        rintro e w58 ⟨rfl, hb⟩
        refine ⟨_, rfl, ?_⟩
        have n0_ := Aside0.mk (blk_below (g := gb212) (o := .cells #[.int .i64 a0_0, .int .i64 a0_1, .int .i64 a0_2, .int .i64 a0_3, .int .i64 a0_4, .int .i64 a0_5, .int .i64 a0_6, .int .i64 a0_7] 58 (0, 0)) y118_ hb)
        have n1_ := Aside0.mk (blk_below (g := gb213) (o := .cells #[.int .i64 0, .int .i64 0, .int .i64 0] 54 (0, 0)) y119_ hb)
        have n2_ := Aside0.mk (below_step y117_ hb)
        clear BK212
        clear BK213
        clear HB
        have BK212 := n0_
        have BK213 := n1_
        have HB := n2_
        clear n0_ n1_ n2_
        (try clear hb)
        (try clear hb2)
        (try clear hk)
        (try clear hi)
        refine hK.out _ _ ⟨(blk_cell BK212.out 0).trans rfl, (blk_cell BK212.out 1).trans rfl, (blk_cell BK212.out 2).trans rfl, (blk_cell BK212.out 3).trans rfl, (blk_cell BK212.out 4).trans rfl, (blk_cell BK212.out 5).trans rfl, (blk_cell BK212.out 6).trans rfl, (blk_cell BK212.out 7).trans rfl⟩ (fun hHeld => ?_)
        clear hK K
        refine norm_ (a' := ?_) ?_ ?_
        rotate_left
        ·
         show Act.put _ (some 30) _ = _
         simp only [Act.put, P2_1, P2_2, P2_3, i64_w, i32_w]
         rfl
        refine pure_ (i := 9) (N := some 33) (v := ?_) (a' := ?_) M2_12 rfl rfl (any_of HT_.out (by kernel_rfl)) (fun _ _ _ h => h) (Or.inl ⟨by rfl, ?_⟩) ?_ ?_
        rotate_left; · intro w'; go_simp; with_reducible rfl
        rotate_left; · simp only [Act.put, P2_1, P2_2, P2_3, i64_w, i32_w]; rfl
        refine one_ (i := 10) (N := some 9) M2_9 rfl rfl (one_of HT_.out (by kernel_rfl)) (by decide) (fun K hK => ?_)
        refine box_step ?hg (N := 9) ?hd (cs := #[.int .i64 0, .int .i64 0, .int .i64 0]) (t := 54) ?hr ?_; (case hd => rfl); (case hg => rfl); (case hr => first | (go_simp; done) | (go_simp; rfl))
        intro gb218 hg w59 hbox hb
        have n0_ := Aside0.mk (blk_below (g := gb212) (o := .cells #[.int .i64 a0_0, .int .i64 a0_1, .int .i64 a0_2, .int .i64 a0_3, .int .i64 a0_4, .int .i64 a0_5, .int .i64 a0_6, .int .i64 a0_7] 58 (0, 0)) y118_ hb)
        have n1_ := Aside0.mk (blk_below (g := gb213) (o := .cells #[.int .i64 0, .int .i64 0, .int .i64 0] 54 (0, 0)) y119_ hb)
        have n2_ := Aside0.mk (below_step y117_ hb)
        have n3_ := Aside0.mk (hbox)
        have n4_ := Aside0.mk ((y130_ : w.heap.size ≤ gb218))
        have n5_ := Aside0.mk ((y130_ : w.heap.size ≤ gb218))
        have n6_ := Aside0.mk ((y122_ : gb212 ≠ gb218))
        have n7_ := Aside0.mk ((y123_ : gb218 ≠ gb212))
        have n8_ := Aside0.mk ((y125_ : gb213 ≠ gb218))
        have n9_ := Aside0.mk ((y126_ : gb218 ≠ gb213))
        clear BK212
        clear BK213
        clear HB
        have BK212 := n0_
        have BK213 := n1_
        have HB := n2_
        have BK218 := n3_
        have GW218 := n4_
        have GE218 := n5_
        have NB212_218 := n6_
        have NB218_212 := n7_
        have NB213_218 := n8_
        have NB218_213 := n9_
        clear n0_ n1_ n2_ n3_ n4_ n5_ n6_ n7_ n8_ n9_
        clear hb hbox hg
        refine hK.out _ _ ⟨(blk_cell BK212.out 0).trans rfl, (blk_cell BK212.out 1).trans rfl, (blk_cell BK212.out 2).trans rfl, (blk_cell BK212.out 3).trans rfl, (blk_cell BK212.out 4).trans rfl, (blk_cell BK212.out 5).trans rfl, (blk_cell BK212.out 6).trans rfl, (blk_cell BK212.out 7).trans rfl⟩ (fun hHeld => ?_)
        clear hK K
        refine norm_ (a' := ?_) ?_ ?_
        rotate_left
        ·
         show Act.put _ (some 9) _ = _
         simp only [Act.put, P2_1, P2_2, P2_3, i64_w, i32_w]
         rfl
        exact norm_ y128_ (hCont (gb218) _ ⟨hHeld, y118_, y119_, y124_, GW218.out, GE218.out, NB212_218.out, NB218_212.out, NB213_218.out, NB218_213.out, y120_⟩)
       ·
        skip
        refine box_step ?hg (N := 9) ?hd (cs := #[.int .i64 0, .int .i64 0, .int .i64 0]) (t := 54) ?hr ?_; (case hd => rfl); (case hg => rfl); (case hr => first | (go_simp; done) | (go_simp; rfl))
        intro gb218 hg w58 hbox hb
        have n0_ := Aside0.mk (blk_below (g := gb212) (o := .cells #[.int .i64 a0_0, .int .i64 a0_1, .int .i64 a0_2, .int .i64 a0_3, .int .i64 a0_4, .int .i64 a0_5, .int .i64 a0_6, .int .i64 a0_7] 58 (0, 0)) y118_ hb)
        have n1_ := Aside0.mk (blk_below (g := gb213) (o := .cells #[.int .i64 0, .int .i64 0, .int .i64 0] 54 (0, 0)) y119_ hb)
        have n2_ := Aside0.mk (below_step y117_ hb)
        have n3_ := Aside0.mk (hbox)
        have n4_ := Aside0.mk ((y130_ : w.heap.size ≤ gb218))
        have n5_ := Aside0.mk ((y130_ : w.heap.size ≤ gb218))
        have n6_ := Aside0.mk ((y122_ : gb212 ≠ gb218))
        have n7_ := Aside0.mk ((y123_ : gb218 ≠ gb212))
        have n8_ := Aside0.mk ((y125_ : gb213 ≠ gb218))
        have n9_ := Aside0.mk ((y126_ : gb218 ≠ gb213))
        clear BK212
        clear BK213
        clear HB
        have BK212 := n0_
        have BK213 := n1_
        have HB := n2_
        have BK218 := n3_
        have GW218 := n4_
        have GE218 := n5_
        have NB212_218 := n6_
        have NB218_212 := n7_
        have NB213_218 := n8_
        have NB218_213 := n9_
        clear n0_ n1_ n2_ n3_ n4_ n5_ n6_ n7_ n8_ n9_
        clear hb hbox hg
        refine hK.out _ _ ⟨(blk_cell BK212.out 0).trans rfl, (blk_cell BK212.out 1).trans rfl, (blk_cell BK212.out 2).trans rfl, (blk_cell BK212.out 3).trans rfl, (blk_cell BK212.out 4).trans rfl, (blk_cell BK212.out 5).trans rfl, (blk_cell BK212.out 6).trans rfl, (blk_cell BK212.out 7).trans rfl⟩ (fun hHeld => ?_)
        clear hK K
        refine norm_ (a' := ?_) ?_ ?_
        rotate_left
        ·
         show Act.put _ (some 9) _ = _
         simp only [Act.put, P2_1, P2_2, P2_3, i64_w, i32_w]
         rfl
        refine one_ (i := 6) (N := some 30) M2_13 rfl rfl (one_of HT_.out (by kernel_rfl)) (by decide) (fun K hK => ?_)
        refine goes_ Try.func56 (by kernel_rfl) rfl #[.agg #[.int .i64 a0_0, .int .i64 a0_1, .int .i64 a0_2, .int .i64 a0_3, .int .i64 a0_4, .int .i64 a0_5, .int .i64 a0_6, .int .i64 a0_7], .slice A1 l1.length c1, .int .i64 a3] (by rfl) rfl rfl y121_ ?_
        with_reducible refine (impl_FateOf.calls kj4 a0_0 a0_1 a0_2 a0_3 a0_4 a0_5 a0_6 a0_7 _ _ l1 a3 t217 _ ?side1 ?side2 A25.out).mono ?_
        (case side1 => repeat (first | exact (Kd.C_below HR1.out HB.out) | (with_reducible refine Kd.C_alloc ?_ _) | (with_reducible refine Kd.C_drewN ?_ _) | (with_reducible refine Kd.C_drew ?_)))
        (case side2 => exact HC1.out)
        rintro e w59 ⟨rfl, hb⟩
        refine ⟨_, rfl, ?_⟩
        have n0_ := Aside0.mk (blk_below (g := gb212) (o := .cells #[.int .i64 a0_0, .int .i64 a0_1, .int .i64 a0_2, .int .i64 a0_3, .int .i64 a0_4, .int .i64 a0_5, .int .i64 a0_6, .int .i64 a0_7] 58 (0, 0)) y118_ hb)
        have n1_ := Aside0.mk (blk_below (g := gb213) (o := .cells #[.int .i64 0, .int .i64 0, .int .i64 0] 54 (0, 0)) y119_ hb)
        have n2_ := Aside0.mk (blk_below (g := gb218) (o := .cells #[.int .i64 0, .int .i64 0, .int .i64 0] 54 (0, 0)) y124_ hb)
        have n3_ := Aside0.mk (below_step y120_ hb)
        clear BK212
        clear BK213
        clear BK218
        clear HB
        have BK212 := n0_
        have BK213 := n1_
        have BK218 := n2_
        have HB := n3_
        clear n0_ n1_ n2_ n3_
        (try clear hb)
        (try clear hb2)
        (try clear hk)
        (try clear hi)
        refine hK.out _ _ ⟨(blk_cell BK212.out 0).trans rfl, (blk_cell BK212.out 1).trans rfl, (blk_cell BK212.out 2).trans rfl, (blk_cell BK212.out 3).trans rfl, (blk_cell BK212.out 4).trans rfl, (blk_cell BK212.out 5).trans rfl, (blk_cell BK212.out 6).trans rfl, (blk_cell BK212.out 7).trans rfl⟩ (fun hHeld => ?_)
        clear hK K
        refine norm_ (a' := ?_) ?_ ?_
        rotate_left
        ·
         show Act.put _ (some 30) _ = _
         simp only [Act.put, P2_1, P2_2, P2_3, i64_w, i32_w]
         rfl
        refine pure_ (i := 9) (N := some 33) (v := ?_) (a' := ?_) M2_9 rfl rfl (any_of HT_.out (by kernel_rfl)) (fun _ _ _ h => h) (Or.inl ⟨by rfl, ?_⟩) ?_ ?_
        rotate_left; · intro w'; go_simp; with_reducible rfl
        rotate_left; · simp only [Act.put, P2_1, P2_2, P2_3, i64_w, i32_w]; rfl
        exact norm_ y128_ (hCont (gb218) _ ⟨hHeld, y118_, y119_, y124_, GW218.out, GE218.out, NB212_218.out, NB218_212.out, NB213_218.out, NB218_213.out, y120_⟩)
      rintro gb218 w60 ⟨hS_, h0_, h1_, h2_, h3_, h4_, h5_, h6_, h7_, h8_, h9_⟩
      have n0_ : Aside0 (w60.heap[gb212]? = some (.cells #[.int .i64 a0_0, .int .i64 a0_1, .int .i64 a0_2, .int .i64 a0_3, .int .i64 a0_4, .int .i64 a0_5, .int .i64 a0_6, .int .i64 a0_7] 58 (0, 0))) := ⟨h0_⟩
      have n1_ : Aside0 (w60.heap[gb213]? = some (.cells #[.int .i64 0, .int .i64 0, .int .i64 0] 54 (0, 0))) := ⟨h1_⟩
      have n2_ : Aside0 (w60.heap[gb218]? = some (.cells #[.int .i64 0, .int .i64 0, .int .i64 0] 54 (0, 0))) := ⟨h2_⟩
      have n3_ : Aside0 (w.heap.size ≤ gb218) := ⟨h3_⟩
      have n4_ : Aside0 (w.heap.size ≤ gb218) := ⟨h4_⟩
      have n5_ : Aside0 (gb212 ≠ gb218) := ⟨h5_⟩
      have n6_ : Aside0 (gb218 ≠ gb212) := ⟨h6_⟩
      have n7_ : Aside0 (gb213 ≠ gb218) := ⟨h7_⟩
      have n8_ : Aside0 (gb218 ≠ gb213) := ⟨h8_⟩
      have n9_ : Aside0 (Below w.heap.size w w60) := ⟨h9_⟩
      clear BK212
      clear BK213
      clear HB
      clear h0_ h1_ h2_ h3_ h4_ h5_ h6_ h7_ h8_ h9_
      have BK212 := n0_
      have BK213 := n1_
      have BK218 := n2_
      have GW218 := n3_
      have GE218 := n4_
      have NB212_218 := n5_
      have NB218_212 := n6_
      have NB213_218 := n7_
      have NB218_213 := n8_
      have HB := n9_
      clear n0_ n1_ n2_ n3_ n4_ n5_ n6_ n7_ n8_ n9_
      have hHeld : w60.cell? ⟨gb212, 0, none⟩ = some (.int .i64 a0_0) ∧ w60.cell? ⟨gb212, 1, none⟩ = some (.int .i64 a0_1) ∧ w60.cell? ⟨gb212, 2, none⟩ = some (.int .i64 a0_2) ∧ w60.cell? ⟨gb212, 3, none⟩ = some (.int .i64 a0_3) ∧ w60.cell? ⟨gb212, 4, none⟩ = some (.int .i64 a0_4) ∧ w60.cell? ⟨gb212, 5, none⟩ = some (.int .i64 a0_5) ∧ w60.cell? ⟨gb212, 6, none⟩ = some (.int .i64 a0_6) ∧ w60.cell? ⟨gb212, 7, none⟩ = some (.int .i64 a0_7) := hS_
      refine norm_ (a' := ?_) ?_ ?_
      rotate_left
      ·
       simp only [putAll, Act.put, List.setIfInBounds_toArray, List.set_cons_zero, List.set_cons_succ]
       rfl
      refine one_ (i := 11) (N := none) M2_14 rfl rfl (one_of HT_.out (by kernel_rfl)) (by decide) (fun K hK => ?_)
      have hs61 : w60.cell? ⟨gb218, 0, none⟩ = some (.int .i64 0) := (blk_cell BK218.out 0).trans rfl
      have hfs61 := blk_frozen BK218.out 0
      have hns61_0 := NB212_218.out
      have hns61_1 := NB213_218.out
      have hms61_0 := NB218_212.out
      have hms61_1 := NB218_213.out
      have hs62 : w60.cell? ⟨gb218, 1, none⟩ = some (.int .i64 0) := (blk_cell BK218.out 1).trans rfl
      have hfs62 := blk_frozen BK218.out 1
      have hns62_0 := NB212_218.out
      have hns62_1 := NB213_218.out
      have hms62_0 := NB218_212.out
      have hms62_1 := NB218_213.out
      have hs63 : w60.cell? ⟨gb218, 2, none⟩ = some (.int .i64 0) := (blk_cell BK218.out 2).trans rfl
      have hfs63 := blk_frozen BK218.out 2
      have hns63_0 := NB212_218.out
      have hns63_1 := NB213_218.out
      have hms63_0 := NB218_212.out
      have hms63_1 := NB218_213.out
      refine skip_ (w1 := ?_) (by rfl) rfl ?_ ?_
      rotate_left
      ·
       go_simp
       rfl
      refine hK.out _ _ ⟨((cell_far (p := ⟨gb218, _, none⟩) NB212_218.out _).trans (((cell_far (p := ⟨gb218, _, none⟩) NB212_218.out _).trans (((cell_far (p := ⟨gb218, _, none⟩) NB212_218.out _).trans (hHeld.1)))))), ((cell_far (p := ⟨gb218, _, none⟩) NB212_218.out _).trans (((cell_far (p := ⟨gb218, _, none⟩) NB212_218.out _).trans (((cell_far (p := ⟨gb218, _, none⟩) NB212_218.out _).trans (hHeld.2.1)))))), ((cell_far (p := ⟨gb218, _, none⟩) NB212_218.out _).trans (((cell_far (p := ⟨gb218, _, none⟩) NB212_218.out _).trans (((cell_far (p := ⟨gb218, _, none⟩) NB212_218.out _).trans (hHeld.2.2.1)))))), ((cell_far (p := ⟨gb218, _, none⟩) NB212_218.out _).trans (((cell_far (p := ⟨gb218, _, none⟩) NB212_218.out _).trans (((cell_far (p := ⟨gb218, _, none⟩) NB212_218.out _).trans (hHeld.2.2.2.1)))))), ((cell_far (p := ⟨gb218, _, none⟩) NB212_218.out _).trans (((cell_far (p := ⟨gb218, _, none⟩) NB212_218.out _).trans (((cell_far (p := ⟨gb218, _, none⟩) NB212_218.out _).trans (hHeld.2.2.2.2.1)))))), ((cell_far (p := ⟨gb218, _, none⟩) NB212_218.out _).trans (((cell_far (p := ⟨gb218, _, none⟩) NB212_218.out _).trans (((cell_far (p := ⟨gb218, _, none⟩) NB212_218.out _).trans (hHeld.2.2.2.2.2.1)))))), ((cell_far (p := ⟨gb218, _, none⟩) NB212_218.out _).trans (((cell_far (p := ⟨gb218, _, none⟩) NB212_218.out _).trans (((cell_far (p := ⟨gb218, _, none⟩) NB212_218.out _).trans (hHeld.2.2.2.2.2.2.1)))))), ((cell_far (p := ⟨gb218, _, none⟩) NB212_218.out _).trans (((cell_far (p := ⟨gb218, _, none⟩) NB212_218.out _).trans (((cell_far (p := ⟨gb218, _, none⟩) NB212_218.out _).trans (hHeld.2.2.2.2.2.2.2))))))⟩ (fun hHeld => ?_)
      clear hK K
      refine done_ (done_of HT_.out (by kernel_rfl)) ?_
      have hnb64 := NB218_212.out
      have hnc64 := NB212_218.out
      have hnb65 := NB218_213.out
      have hnc65 := NB213_218.out
      have hcz66_0 : w60.cell? ⟨gb218, 0, none⟩ = some (.int .i64 0) := (blk_cell BK218.out 0).trans rfl
      have hcz66_1 : w60.cell? ⟨gb218, 1, none⟩ = some (.int .i64 0) := (blk_cell BK218.out 1).trans rfl
      have hcz66_2 : w60.cell? ⟨gb218, 2, none⟩ = some (.int .i64 0) := (blk_cell BK218.out 2).trans rfl
      have hfz66_0 := blk_frozen BK218.out 0
      have hfz66_1 := blk_frozen BK218.out 1
      have hfz66_2 := blk_frozen BK218.out 2
      have hnb67 := NB213_212.out
      have hnc67 := NB212_213.out
      have hcz68_0 : w60.cell? ⟨gb213, 0, none⟩ = some (.int .i64 0) := (blk_cell BK213.out 0).trans rfl
      have hcz68_1 : w60.cell? ⟨gb213, 1, none⟩ = some (.int .i64 0) := (blk_cell BK213.out 1).trans rfl
      have hcz68_2 : w60.cell? ⟨gb213, 2, none⟩ = some (.int .i64 0) := (blk_cell BK213.out 2).trans rfl
      have hfz68_0 := blk_frozen BK213.out 0
      have hfz68_1 := blk_frozen BK213.out 1
      have hfz68_2 := blk_frozen BK213.out 2
      try go_wp2
      refine bodyPost_ret (results_cell_row rfl _ _ gb213 54 #[.int .i64 a0_0, .int .i64 t217, .int .i64 (wrap64 (Int.tdiv a3 24))] (0, 0) _ rfl (by (with_reducible repeat (first | refine blk_drewN ?_ _ | refine blk_drew ?_ | refine blk_alloc ?_ _)); refine blk_put (cs := #[.int .i64 a0_0, .int .i64 t217, .int .i64 0]) ?_ 2 _ rfl; (with_reducible repeat (first | refine blk_drewN ?_ _ | refine blk_drew ?_ | refine blk_alloc ?_ _)); refine blk_put (cs := #[.int .i64 a0_0, .int .i64 0, .int .i64 0]) ?_ 1 _ rfl; (with_reducible repeat (first | refine blk_drewN ?_ _ | refine blk_drew ?_ | refine blk_alloc ?_ _)); refine blk_put (cs := #[.int .i64 0, .int .i64 0, .int .i64 0]) ?_ 0 _ rfl; (with_reducible repeat (first | refine blk_drewN ?_ _ | refine blk_drew ?_ | refine blk_alloc ?_ _)); refine blk_far ?_ NB213_218.out _; (with_reducible repeat (first | refine blk_drewN ?_ _ | refine blk_drew ?_ | refine blk_alloc ?_ _)); refine blk_far ?_ NB213_218.out _; (with_reducible repeat (first | refine blk_drewN ?_ _ | refine blk_drew ?_ | refine blk_alloc ?_ _)); refine blk_far ?_ NB213_218.out _; (with_reducible repeat (first | refine blk_drewN ?_ _ | refine blk_drew ?_ | refine blk_alloc ?_ _)); exact BK213.out) Try.underlying54 rfl (by kernel_rfl)) rfl ?_
      exact ⟨by first | rfl | (simp [errW_none, errW_some] <;> rfl) | (simp [*, errW_none, errW_some] <;> rfl), y129_⟩

end Go.Proofs.Ytnlgilmbmoiniaa.PFnExactTaskOf
