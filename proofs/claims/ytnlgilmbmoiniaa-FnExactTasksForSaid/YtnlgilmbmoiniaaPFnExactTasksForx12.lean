-- Written for this claim by a program (a printer turned to this claim); Lean checks it.
import Derived.Test.YtnlgilmbmoiniaaPFnExactTasksForx0
import Derived.Test.YtnlgilmbmoiniaaPFnExactTasksForx9
import Derived.Test.YtnlgilmbmoiniaaPFnExactTasksForx10
import Derived.Test.YtnlgilmbmoiniaaPFnExactTasksForx11
namespace Go.Proofs.Ytnlgilmbmoiniaa.PFnExactTasksFor
open Go.RowKit Go.Proofs.YtnlgilmbmoiniaaW.PrintWords Go.Proofs.YtnlgilmbmoiniaaW.PrintLast Go.Proofs.YtnlgilmbmoiniaaW.PrintMore
attribute [local go_sem] max2_int min2_int max_two min_two max_three min_three max_four min_four   -- for this text's walks alone
set_option linter.unusedVariables false
set_option linter.unusedSimpArgs false

/-! ### impl_TaskOf: function 31 -/
def impl_TaskOf.j0 : Nat → List (S69) → List Bool → Int → Bool → Int → Int → Int → Int → Int → Int → Int → Int → Option (Int × Int × Int)
 | 0, _, _, _, _, _, _, _, _, _, _, _, _ => none
 | k + 1, x1, x2, x3, x22, x290000, x290001, x290002, x290003, x290004, x290005, x290006, x290007 => if x22 = true then (some (0, 0, 0)) else ((impl_FateOf.f k x290000 x290001 x290002 x290003 x290004 x290005 x290006 x290007 x1 x3).bind fun t294 => (if t294 = 1 then ((impl_NextOpen.f k x2 (wrap64 (Int.tdiv x3 24))).bind fun t296 => (some (x290000, t294, t296))) else (if t294 = 0 then ((impl_LastDay.f k x2 x290000 x290001 x290002 x290003 x290004 x290005 x290006 x290007).bind fun t297 => (some (x290000, t294, t297))) else (some (x290000, t294, wrap64 (Int.tdiv x3 24))))))
def impl_TaskOf.f (k : Nat) (a0_0 : Int) (a0_1 : Int) (a0_2 : Int) (a0_3 : Int) (a0_4 : Int) (a0_5 : Int) (a0_6 : Int) (a0_7 : Int) (l1 : List (S69)) (l2 : List Bool) (a3 : Int) : Option (Int × Int × Int) := (impl_IsFind.f a0_0 a0_1 a0_2 a0_3 a0_4 a0_5 a0_6 a0_7).bind fun t291 => (if t291 = true then ((impl_IsCalendar.f k l2).bind fun t292 => (if t292 = true then ((impl_InRange.f a3 0 100000).bind fun t293 => (impl_TaskOf.j0 k l1 l2 a3 (!t293) a0_0 a0_1 a0_2 a0_3 a0_4 a0_5 a0_6 a0_7)) else (impl_TaskOf.j0 k l1 l2 a3 true a0_0 a0_1 a0_2 a0_3 a0_4 a0_5 a0_6 a0_7))) else (impl_TaskOf.j0 k l1 l2 a3 true a0_0 a0_1 a0_2 a0_3 a0_4 a0_5 a0_6 a0_7))
theorem impl_TaskOf.mono_l : ∀ k, (∀ y0 y1 y2 y3 y4 y5 y6 y7 y8 y9 y10 y11, LeO (impl_TaskOf.j0 k y0 y1 y2 y3 y4 y5 y6 y7 y8 y9 y10 y11) (impl_TaskOf.j0 (k + 1) y0 y1 y2 y3 y4 y5 y6 y7 y8 y9 y10 y11))
 | 0 => fun _ _ _ _ _ _ _ _ _ _ _ _ r h => by simp [impl_TaskOf.j0] at h
 | k + 1 => by
  have ih0 := impl_TaskOf.mono_l k
  ·
   intro y0 y1 y2 y3 y4 y5 y6 y7 y8 y9 y10 y11
   unfold impl_TaskOf.j0
   have jh0 := @impl_FateOf.mono
   have jh1 := @impl_IsCalendar.mono
   have jh2 := @impl_LastDay.mono
   have jh3 := @impl_NextOpen.mono
   exact mo_
theorem impl_TaskOf.mono : ∀ a0 a1 a2 a3 a4 a5 a6 a7 a8 a9 a10 k, LeO (impl_TaskOf.f k a0 a1 a2 a3 a4 a5 a6 a7 a8 a9 a10) (impl_TaskOf.f (k + 1) a0 a1 a2 a3 a4 a5 a6 a7 a8 a9 a10) := by
 intro a0 a1 a2 a3 a4 a5 a6 a7 a8 a9 a10 k
 have ih0 := impl_TaskOf.mono_l k
 unfold impl_TaskOf.f
 have jh0 := @impl_FateOf.mono
 have jh1 := @impl_IsCalendar.mono
 have jh2 := @impl_LastDay.mono
 have jh3 := @impl_NextOpen.mono
 exact mo_
def impl_TaskOf.T3 : Bool × List (List Nat × List Nat) := (true, [([], []), ([0], [0]), ([1], [1]), ([], []), ([], []), ([], []), ([3, 4, 5], [3, 4, 5]), ([], []), ([7], [7]), ([2, 6, 8], [2, 6, 8]), ([], []), ([10, 9, 6, 0, 1, 2, 3, 4, 5, 6, 7, 8, 9, 10], [9, 10])])
def impl_TaskOf.B3 : List Nat := [0, 1, 3, 0, 0, 0, 56, 0, 128, 511, 0, 2047]
theorem impl_TaskOf.tab3 : rtab .any (opsOf Try.f31 3) = impl_TaskOf.T3 := by kernel_rfl
theorem impl_TaskOf.bits3 : waitsOk impl_TaskOf.T3.2 impl_TaskOf.B3 = true := by kernel_rfl
abbrev M4_0 := bm_ 12 0
abbrev M4_1 := bm_ 12 1
abbrev M4_2 := bm_ 12 3
abbrev M4_3 := bm_ 12 19
abbrev M4_4 := bm_ 12 51
abbrev M4_5 := bm_ 12 179
abbrev M4_6 := bm_ 12 435
abbrev M4_7 := bm_ 12 439
abbrev M4_8 := bm_ 12 447
abbrev M4_9 := bm_ 12 2047
abbrev M4_10 := bm_ 12 511
abbrev M4_11 := bm_ 12 1471
abbrev M4_12 := bm_ 12 1023
abbrev M4_13 := bm_ 12 1535
abbrev M4_14 := bm_ 12 4095
theorem P4_1 {α : Type} (l : List α) (i : Nat) (a : α) : l.toArray.setIfInBounds i a = (l.set i a).toArray := List.setIfInBounds_toArray l i a
theorem P4_2 {α : Type} (x : α) (l : List α) (a : α) : (x :: l).set 0 a = a :: l := List.set_cons_zero
theorem P4_3 {α : Type} (x : α) (l : List α) (n : Nat) (a : α) : (x :: l).set (n + 1) a = x :: l.set n a := List.set_cons_succ
abbrev c196_ (i0 : Int) (i1 : Int) (i2 : Int) (i3 : Int) (i4 : Int) (i5 : Int) (i6 : Int) (i7 : Int) : Obj := .cells #[.int .i64 i0, .int .i64 i1, .int .i64 i2, .int .i64 i3, .int .i64 i4, .int .i64 i5, .int .i64 i6, .int .i64 i7] 58 (0, 0)
theorem e197_ {w : World} {g : Nat} {t : TypeId} {i0 : Int} {i1 : Int} {i2 : Int} {i3 : Int} {i4 : Int} {i5 : Int} {i6 : Int} {i7 : Int} (h : w.heap[g]? = some (.cells #[.int .i64 i0, .int .i64 i1, .int .i64 i2, .int .i64 i3, .int .i64 i4, .int .i64 i5, .int .i64 i6, .int .i64 i7] t (0, 0))) : w.cell? ⟨g, 0, none⟩ = some (.int .i64 i0) ∧ w.cell? ⟨g, 1, none⟩ = some (.int .i64 i1) ∧ w.cell? ⟨g, 2, none⟩ = some (.int .i64 i2) ∧ w.cell? ⟨g, 3, none⟩ = some (.int .i64 i3) ∧ w.cell? ⟨g, 4, none⟩ = some (.int .i64 i4) ∧ w.cell? ⟨g, 5, none⟩ = some (.int .i64 i5) ∧ w.cell? ⟨g, 6, none⟩ = some (.int .i64 i6) ∧ w.cell? ⟨g, 7, none⟩ = some (.int .i64 i7) := ⟨(blk_cell h 0).trans rfl, (blk_cell h 1).trans rfl, (blk_cell h 2).trans rfl, (blk_cell h 3).trans rfl, (blk_cell h 4).trans rfl, (blk_cell h 5).trans rfl, (blk_cell h 6).trans rfl, (blk_cell h 7).trans rfl⟩
theorem e198_ {w : World} {g : Nat} {t : TypeId} {i0 : Int} {i1 : Int} {i2 : Int} (h : w.heap[g]? = some (.cells #[.int .i64 i0, .int .i64 i1, .int .i64 i2] t (0, 0))) : w.cell? ⟨g, 0, none⟩ = some (.int .i64 i0) ∧ w.cell? ⟨g, 1, none⟩ = some (.int .i64 i1) ∧ w.cell? ⟨g, 2, none⟩ = some (.int .i64 i2) := ⟨(blk_cell h 0).trans rfl, (blk_cell h 1).trans rfl, (blk_cell h 2).trans rfl⟩
theorem z199_ {w : World} {g : Nat} {t : TypeId} {cs : Array Value} (h : w.heap[g]? = some (.cells cs t (0, 0))) : w.frozen? ⟨g, 0, none⟩ = false ∧ w.frozen? ⟨g, 1, none⟩ = false ∧ w.frozen? ⟨g, 2, none⟩ = false ∧ w.frozen? ⟨g, 3, none⟩ = false ∧ w.frozen? ⟨g, 4, none⟩ = false ∧ w.frozen? ⟨g, 5, none⟩ = false ∧ w.frozen? ⟨g, 6, none⟩ = false ∧ w.frozen? ⟨g, 7, none⟩ = false := ⟨blk_frozen h 0, blk_frozen h 1, blk_frozen h 2, blk_frozen h 3, blk_frozen h 4, blk_frozen h 5, blk_frozen h 6, blk_frozen h 7⟩
theorem z200_ {w : World} {g : Nat} {t : TypeId} {cs : Array Value} (h : w.heap[g]? = some (.cells cs t (0, 0))) : w.frozen? ⟨g, 0, none⟩ = false ∧ w.frozen? ⟨g, 1, none⟩ = false ∧ w.frozen? ⟨g, 2, none⟩ = false := ⟨blk_frozen h 0, blk_frozen h 1, blk_frozen h 2⟩
theorem f201_ {W : World} {g : Nat} {a : Addr} {o0 o1 o2 : Nat} {u0 u1 u2 : Value} {v : Option Value} (e : W.cell? a = v) (h : a.block ≠ g) : World.cell? (World.setCell (World.setCell (World.setCell W ⟨g, o0, none⟩ u0) ⟨g, o1, none⟩ u1) ⟨g, o2, none⟩ u2) a = v := ((cell_far (p := ⟨g, o2, none⟩) h u2).trans ((cell_far (p := ⟨g, o1, none⟩) h u1).trans ((cell_far (p := ⟨g, o0, none⟩) h u0).trans e)))
theorem y202_ {P : Prop} (h : P := by repeat (first | (with_reducible first | exact HB.out | apply below_alloc | apply pw_below_drewN | apply below_drew1 | refine below_set ?_ GE289.out | refine below_set ?_ GE290.out) | exact HB.out)) : P := h
theorem y205_ {P : Prop} (h : P := by repeat (first | (with_reducible first | exact HB.out | apply below_alloc | apply pw_below_drewN | apply below_drew1 | refine below_set ?_ GE289.out | refine below_set ?_ GE290.out | refine below_set ?_ GE295.out) | exact HB.out)) : P := h
theorem y208_ {P : Prop} (h : P := by rw [hg]; exact Nat.ne_of_lt (blk_lt (bd_ BK289.out))) : P := h
theorem y209_ {P : Prop} (h : P := by rw [hg]; exact Nat.ne_of_gt (blk_lt (bd_ BK289.out))) : P := h
theorem y210_ {P : Prop} (h : P := by rw [hg]; exact Nat.ne_of_lt (blk_lt (bd_ BK290.out))) : P := h
theorem y211_ {P : Prop} (h : P := by rw [hg]; exact Nat.ne_of_gt (blk_lt (bd_ BK290.out))) : P := h
theorem y212_ {P : Prop} (h : P := by repeat (first | (with_reducible first | exact HB.out | apply below_alloc | apply pw_below_drewN | apply below_drew1 | refine below_set ?_ GE289.out | refine below_set ?_ GE290.out) | exact HB.out)) : P := h
theorem y213_ {P : Prop} (h : P := by simp only [putAll, Act.put, List.setIfInBounds_toArray, List.set_cons_zero, List.set_cons_succ]) : P := h
theorem y214_ {P : Prop} (h : P := by repeat (first | (with_reducible first | exact HB.out | apply below_alloc | apply pw_below_drewN | apply below_drew1 | refine below_set ?_ GE289.out | refine below_set ?_ GE290.out | refine below_set ?_ GE295.out) | exact HB.out)) : P := h
theorem y215_ {P : Prop} (h : P := by rw [hg]; exact (below_size y202_)) : P := h
theorem y216_ {P : Prop} (h : P := by repeat (first | (with_reducible first | exact HB.out | apply below_alloc | apply pw_below_drewN | apply below_drew1 | refine below_set ?_ GE289.out) | exact HB.out)) : P := h
set_option maxHeartbeats 8000000 in
set_option maxRecDepth 100000 in
theorem impl_TaskOf.calls (k : Nat) (a0_0 : Int) (a0_1 : Int) (a0_2 : Int) (a0_3 : Int) (a0_4 : Int) (a0_5 : Int) (a0_6 : Int) (a0_7 : Int) (A1 : Option Addr) (c1 : Nat) (l1 : List (S69)) (A2 : Option Addr) (c2 : Nat) (l2 : List Bool) (a3 : Int) (r1 : Int) (r2 : Int) (r3 : Int) (w : World) (hr1 : Kd.C k69 w A1 l1.length l1) (hc1 : l1.length ≤ c1) (hr2 : Kd.C Kd.bool w A2 l2.length l2) (hc2 : l2.length ≤ c2) (h : impl_TaskOf.f k a0_0 a0_1 a0_2 a0_3 a0_4 a0_5 a0_6 a0_7 l1 l2 a3 = some (r1, r2, r3)) :
  Calls Try.prog 31 #[.agg #[.int .i64 a0_0, .int .i64 a0_1, .int .i64 a0_2, .int .i64 a0_3, .int .i64 a0_4, .int .i64 a0_5, .int .i64 a0_6, .int .i64 a0_7], .slice A1 l1.length c1, .slice A2 l2.length c2, .int .i64 a3] w fun e w' => e = .returned (.agg #[.int .i64 r1, .int .i64 r2, .int .i64 r3]) ∧ Below w.heap.size w w' := by
 have hu58 := Try.underlying58
 have hu54 := Try.underlying54
 have HR1 := Aside0.mk hr1
 have HC1 := Aside0.mk hc1
 clear hr1 hc1
 have HR2 := Aside0.mk hr2
 have HC2 := Aside0.mk hc2
 clear hr2 hc2
 have HB := Aside0.mk (Below.refl w.heap.size w)
 have H : ((impl_IsFind.f a0_0 a0_1 a0_2 a0_3 a0_4 a0_5 a0_6 a0_7).bind fun t291 => (if t291 = true then ((impl_IsCalendar.f k l2).bind fun t292 => (if t292 = true then ((impl_InRange.f a3 0 100000).bind fun t293 => (impl_TaskOf.j0 k l1 l2 a3 (!t293) a0_0 a0_1 a0_2 a0_3 a0_4 a0_5 a0_6 a0_7)) else (impl_TaskOf.j0 k l1 l2 a3 true a0_0 a0_1 a0_2 a0_3 a0_4 a0_5 a0_6 a0_7))) else (impl_TaskOf.j0 k l1 l2 a3 true a0_0 a0_1 a0_2 a0_3 a0_4 a0_5 a0_6 a0_7))) = some (r1, r2, r3) := h
 clear h
 have HC5 := Aside0.mk H
 clear H
 go_enter Try.func31, Try.ntmps31
 go_upto_region 1 with (first | (refine bx_ 4 #[.int .i64 a0_0, .int .i64 a0_1, .int .i64 a0_2, .int .i64 a0_3, .int .i64 a0_4, .int .i64 a0_5, .int .i64 a0_6, .int .i64 a0_7] 58 ?_; intro gb289 hg w6 hbox hb; have n0_ := Aside0.mk (below_step (hd_ HB.out) hb); have BK289 := Aside0.mk (hbox); have GW289 := Aside0.mk ((by rw [hg]; exact (below_size (hd_ HB.out)) : w.heap.size ≤ gb289)); have GE289 := GW289; clear HB; have HB := n0_; clear n0_; clear hb hbox hg) | (refine bx_ 8 #[.int .i64 0, .int .i64 0, .int .i64 0] 54 ?_; intro gb290 hg w7 hbox hb; have n0_ := Aside0.mk (blk_below (bd_ BK289.out) hb); have n1_ := Aside0.mk (below_step y216_ hb); have BK290 := Aside0.mk (hbox); have GW290 := Aside0.mk ((by rw [hg]; exact (below_size y216_) : w.heap.size ≤ gb290)); have GE290 := GW290; have NB289_290 := Aside0.mk ((y208_ : gb289 ≠ gb290)); have NB290_289 := Aside0.mk ((y209_ : gb290 ≠ gb289)); clear BK289; clear HB; have BK289 := n0_; have HB := n1_; clear n0_ n1_; clear hb hbox hg))
 (try simp only [Act.put, List.setIfInBounds_toArray, List.set_cons_zero, List.set_cons_succ])
 go_cut [22] (fun v22 wc => ∃ (kq : Nat) (x22_4 : Bool), v22 = .bool x22_4 ∧ Aside0 (impl_TaskOf.j0 kq l1 l2 a3 x22_4 a0_0 a0_1 a0_2 a0_3 a0_4 a0_5 a0_6 a0_7 = some (r1, r2, r3)) ∧ Aside0 (kq ≤ k) ∧ Aside0 (wc.heap[gb289]? = some (c196_ a0_0 a0_1 a0_2 a0_3 a0_4 a0_5 a0_6 a0_7)) ∧ Aside0 (wc.heap[gb290]? = some (.cells #[.int .i64 0, .int .i64 0, .int .i64 0] 54 (0, 0))) ∧ Aside0 (Below w.heap.size w wc))
 case first =>
  have H := HC5.out
  clear HC5
  replace H := Option.bind_eq_some_iff.mp H
  obtain ⟨t291, A80, H⟩ := H
  replace H : (if t291 = true then ((impl_IsCalendar.f k l2).bind fun t292 => (if t292 = true then ((impl_InRange.f a3 0 100000).bind fun t293 => (impl_TaskOf.j0 k l1 l2 a3 (!t293) a0_0 a0_1 a0_2 a0_3 a0_4 a0_5 a0_6 a0_7)) else (impl_TaskOf.j0 k l1 l2 a3 true a0_0 a0_1 a0_2 a0_3 a0_4 a0_5 a0_6 a0_7))) else (impl_TaskOf.j0 k l1 l2 a3 true a0_0 a0_1 a0_2 a0_3 a0_4 a0_5 a0_6 a0_7)) = some (r1, r2, r3) := H
  have A8 := Aside0.mk A80
  clear A80
  by_cases c9 : t291 = true
  ·
   subst c9
   have H1 : ((impl_IsCalendar.f k l2).bind fun t292 => (if t292 = true then ((impl_InRange.f a3 0 100000).bind fun t293 => (impl_TaskOf.j0 k l1 l2 a3 (!t293) a0_0 a0_1 a0_2 a0_3 a0_4 a0_5 a0_6 a0_7)) else (impl_TaskOf.j0 k l1 l2 a3 true a0_0 a0_1 a0_2 a0_3 a0_4 a0_5 a0_6 a0_7))) = some (r1, r2, r3) := by rw [if_pos rfl] at H; exact H
   clear H
   have H := H1
   clear H1
   replace H := Option.bind_eq_some_iff.mp H
   obtain ⟨t292, A100, H⟩ := H
   replace H : (if t292 = true then ((impl_InRange.f a3 0 100000).bind fun t293 => (impl_TaskOf.j0 k l1 l2 a3 (!t293) a0_0 a0_1 a0_2 a0_3 a0_4 a0_5 a0_6 a0_7)) else (impl_TaskOf.j0 k l1 l2 a3 true a0_0 a0_1 a0_2 a0_3 a0_4 a0_5 a0_6 a0_7)) = some (r1, r2, r3) := H
   have A10 := Aside0.mk A100
   clear A100
   by_cases c11 : t292 = true
   ·
    subst c11
    have H1 : ((impl_InRange.f a3 0 100000).bind fun t293 => (impl_TaskOf.j0 k l1 l2 a3 (!t293) a0_0 a0_1 a0_2 a0_3 a0_4 a0_5 a0_6 a0_7)) = some (r1, r2, r3) := by rw [if_pos rfl] at H; exact H
    clear H
    have H := H1
    clear H1
    replace H := Option.bind_eq_some_iff.mp H
    obtain ⟨t293, A120, H⟩ := H
    replace H : (impl_TaskOf.j0 k l1 l2 a3 (!t293) a0_0 a0_1 a0_2 a0_3 a0_4 a0_5 a0_6 a0_7) = some (r1, r2, r3) := H
    have A12 := Aside0.mk A120
    clear A120
    have H' := Aside0.mk H
    clear H
    have hnb13 := NB289_290.out
    have hnc13 := NB290_289.out
    obtain ⟨hcz14_0, hcz14_1, hcz14_2, hcz14_3, hcz14_4, hcz14_5, hcz14_6, hcz14_7⟩ := e197_ BK289.out
    obtain ⟨hfz14_0, hfz14_1, hfz14_2, hfz14_3, hfz14_4, hfz14_5, hfz14_6, hfz14_7⟩ := z199_ BK289.out
    go_wp2_with (first | ((with_reducible refine gate_callee (f := 54) rfl ?_); refine goesL_ (some 11) rfl rfl Try.func54 (by kernel_rfl) rfl #[.agg #[.int .i64 a0_0, .int .i64 a0_1, .int .i64 a0_2, .int .i64 a0_3, .int .i64 a0_4, .int .i64 a0_5, .int .i64 a0_6, .int .i64 a0_7]] rfl ma_ ?_; (with_reducible refine (impl_IsFind.calls a0_0 a0_1 a0_2 a0_3 a0_4 a0_5 a0_6 a0_7 true _ A8.out).mono ?_); rintro e w15 ⟨rfl, hb⟩; refine ⟨_, rfl, ?_⟩; have n0_ := Aside0.mk (blk_below (bd_ BK289.out) hb); have n1_ := Aside0.mk (blk_below (bd_ BK290.out) hb); have n2_ := Aside0.mk (below_step y202_ hb); clear BK289; clear BK290; clear HB; have BK289 := n0_; have BK290 := n1_; have HB := n2_; clear n0_ n1_ n2_; (try clear hb)) | (go_at_call 55; (with_reducible refine (impl_IsCalendar.calls k _ _ l2 true _ ?side1 ?side2 A10.out).mono ?_); (case side1 => exact cd_ (Kd.C_below HR2.out HB.out)); (case side2 => exact HC2.out); rintro e w' ⟨rfl, ⟨nd, rfl⟩⟩) | (go_at_call 48; (with_reducible refine (impl_InRange.calls a3 0 100000 t293 _ A12.out).mono ?_); rintro e w' ⟨rfl, ⟨nd, rfl⟩⟩))
    go_meet
    case rel => exact ⟨_, (!t293), rs_, H', ⟨by first | omega | exact Nat.le_refl _⟩, ⟨bd_ BK289.out⟩, ⟨bd_ BK290.out⟩, ⟨y212_⟩⟩
   ·
    replace c11 := Bool.eq_false_iff.mpr c11
    subst c11
    have H1 : (impl_TaskOf.j0 k l1 l2 a3 true a0_0 a0_1 a0_2 a0_3 a0_4 a0_5 a0_6 a0_7) = some (r1, r2, r3) := by rw [if_neg (show ¬ (false = true) by decide)] at H; exact H
    clear H
    have H := H1
    clear H1
    have H' := Aside0.mk H
    clear H
    have hnb16 := NB289_290.out
    have hnc16 := NB290_289.out
    obtain ⟨hcz17_0, hcz17_1, hcz17_2, hcz17_3, hcz17_4, hcz17_5, hcz17_6, hcz17_7⟩ := e197_ BK289.out
    obtain ⟨hfz17_0, hfz17_1, hfz17_2, hfz17_3, hfz17_4, hfz17_5, hfz17_6, hfz17_7⟩ := z199_ BK289.out
    go_wp2_with (first | ((with_reducible refine gate_callee (f := 54) rfl ?_); refine goesL_ (some 11) rfl rfl Try.func54 (by kernel_rfl) rfl #[.agg #[.int .i64 a0_0, .int .i64 a0_1, .int .i64 a0_2, .int .i64 a0_3, .int .i64 a0_4, .int .i64 a0_5, .int .i64 a0_6, .int .i64 a0_7]] rfl ma_ ?_; (with_reducible refine (impl_IsFind.calls a0_0 a0_1 a0_2 a0_3 a0_4 a0_5 a0_6 a0_7 true _ A8.out).mono ?_); rintro e w18 ⟨rfl, hb⟩; refine ⟨_, rfl, ?_⟩; have n0_ := Aside0.mk (blk_below (bd_ BK289.out) hb); have n1_ := Aside0.mk (blk_below (bd_ BK290.out) hb); have n2_ := Aside0.mk (below_step y202_ hb); clear BK289; clear BK290; clear HB; have BK289 := n0_; have BK290 := n1_; have HB := n2_; clear n0_ n1_ n2_; (try clear hb)) | (go_at_call 55; (with_reducible refine (impl_IsCalendar.calls k _ _ l2 false _ ?side1 ?side2 A10.out).mono ?_); (case side1 => exact cd_ (Kd.C_below HR2.out HB.out)); (case side2 => exact HC2.out); rintro e w' ⟨rfl, ⟨nd, rfl⟩⟩))
    go_meet
    case rel => exact ⟨_, (true), rs_, H', ⟨by first | omega | exact Nat.le_refl _⟩, ⟨bd_ BK289.out⟩, ⟨bd_ BK290.out⟩, ⟨y212_⟩⟩
  ·
   replace c9 := Bool.eq_false_iff.mpr c9
   subst c9
   have H1 : (impl_TaskOf.j0 k l1 l2 a3 true a0_0 a0_1 a0_2 a0_3 a0_4 a0_5 a0_6 a0_7) = some (r1, r2, r3) := by rw [if_neg (show ¬ (false = true) by decide)] at H; exact H
   clear H
   have H := H1
   clear H1
   have H' := Aside0.mk H
   clear H
   have hnb19 := NB289_290.out
   have hnc19 := NB290_289.out
   obtain ⟨hcz20_0, hcz20_1, hcz20_2, hcz20_3, hcz20_4, hcz20_5, hcz20_6, hcz20_7⟩ := e197_ BK289.out
   obtain ⟨hfz20_0, hfz20_1, hfz20_2, hfz20_3, hfz20_4, hfz20_5, hfz20_6, hfz20_7⟩ := z199_ BK289.out
   go_wp2_with (first | ((with_reducible refine gate_callee (f := 54) rfl ?_); refine goesL_ (some 11) rfl rfl Try.func54 (by kernel_rfl) rfl #[.agg #[.int .i64 a0_0, .int .i64 a0_1, .int .i64 a0_2, .int .i64 a0_3, .int .i64 a0_4, .int .i64 a0_5, .int .i64 a0_6, .int .i64 a0_7]] rfl ma_ ?_; (with_reducible refine (impl_IsFind.calls a0_0 a0_1 a0_2 a0_3 a0_4 a0_5 a0_6 a0_7 false _ A8.out).mono ?_); rintro e w21 ⟨rfl, hb⟩; refine ⟨_, rfl, ?_⟩; have n0_ := Aside0.mk (blk_below (bd_ BK289.out) hb); have n1_ := Aside0.mk (blk_below (bd_ BK290.out) hb); have n2_ := Aside0.mk (below_step y202_ hb); clear BK289; clear BK290; clear HB; have BK289 := n0_; have BK290 := n1_; have HB := n2_; clear n0_ n1_ n2_; (try clear hb)))
   go_meet
   case rel => exact ⟨_, (true), rs_, H', ⟨by first | omega | exact Nat.le_refl _⟩, ⟨bd_ BK289.out⟩, ⟨bd_ BK290.out⟩, ⟨y212_⟩⟩
 case rest =>
  clear HC5
  try clear c1
  try clear c2
  try clear p2
  try clear c3
  try clear c5
  try clear c9
  try clear c11
  try clear c13
  try clear c16
  try clear c19
  obtain ⟨kq, x22_4, rfl, HA, HJ4, BK289, BK290, HB⟩ := hcut
  cases kq with
  | zero => exact absurd HA.out (by simp [impl_TaskOf.j0])
  | succ kj4 =>
   have H := HA.out
   clear HA
   simp only [impl_TaskOf.j0] at H
   by_cases c22 : x22_4 = true
   ·
    subst c22
    have H1 : (some (0, 0, 0)) = some (r1, r2, r3) := by rw [if_pos rfl] at H; exact H
    clear H
    have H := H1
    clear H1
    simp only [Option.some.injEq, Prod.mk.injEq] at H
    obtain ⟨rfl, rfl, rfl⟩ := H
    have hnb23 := NB290_289.out
    have hnc23 := NB289_290.out
    obtain ⟨hcz24_0, hcz24_1, hcz24_2⟩ := e198_ BK290.out
    obtain ⟨hfz24_0, hfz24_1, hfz24_2⟩ := z200_ BK290.out
    go_wp2
    refine bodyPost_ret (results_cell_row rfl _ _ gb290 54 #[.int .i64 0, .int .i64 0, .int .i64 0] (0, 0) _ rfl (by (with_reducible repeat (first | refine blk_drewN ?_ _ | refine blk_drew ?_ | refine blk_alloc ?_ _)); refine blk_put (cs := #[.int .i64 0, .int .i64 0, .int .i64 0]) ?_ 2 _ rfl; (with_reducible repeat (first | refine blk_drewN ?_ _ | refine blk_drew ?_ | refine blk_alloc ?_ _)); refine blk_put (cs := #[.int .i64 0, .int .i64 0, .int .i64 0]) ?_ 1 _ rfl; (with_reducible repeat (first | refine blk_drewN ?_ _ | refine blk_drew ?_ | refine blk_alloc ?_ _)); refine blk_put (cs := #[.int .i64 0, .int .i64 0, .int .i64 0]) ?_ 0 _ rfl; (with_reducible repeat (first | refine blk_drewN ?_ _ | refine blk_drew ?_ | refine blk_alloc ?_ _)); exact BK290.out) Try.underlying54 rfl (by kernel_rfl)) rfl ?_
    exact ⟨rt_, y212_⟩
   ·
    replace c22 := Bool.eq_false_iff.mpr c22
    subst c22
    have H1 : ((impl_FateOf.f kj4 a0_0 a0_1 a0_2 a0_3 a0_4 a0_5 a0_6 a0_7 l1 a3).bind fun t294 => (if t294 = 1 then ((impl_NextOpen.f kj4 l2 (wrap64 (Int.tdiv a3 24))).bind fun t296 => (some (a0_0, t294, t296))) else (if t294 = 0 then ((impl_LastDay.f kj4 l2 a0_0 a0_1 a0_2 a0_3 a0_4 a0_5 a0_6 a0_7).bind fun t297 => (some (a0_0, t294, t297))) else (some (a0_0, t294, wrap64 (Int.tdiv a3 24)))))) = some (r1, r2, r3) := by rw [if_neg (show ¬ (false = true) by decide)] at H; exact H
    clear H
    have H := H1
    clear H1
    replace H := Option.bind_eq_some_iff.mp H
    obtain ⟨t294, A250, H⟩ := H
    replace H : (if t294 = 1 then ((impl_NextOpen.f kj4 l2 (wrap64 (Int.tdiv a3 24))).bind fun t296 => (some (a0_0, t294, t296))) else (if t294 = 0 then ((impl_LastDay.f kj4 l2 a0_0 a0_1 a0_2 a0_3 a0_4 a0_5 a0_6 a0_7).bind fun t297 => (some (a0_0, t294, t297))) else (some (a0_0, t294, wrap64 (Int.tdiv a3 24))))) = some (r1, r2, r3) := H
    have A25 := Aside0.mk A250
    clear A250
    by_cases c26 : t294 = 1
    ·
     rw [if_pos c26] at H
     have c26b0 : (t294 == 1) = true := beq_iff_eq.mpr c26
     have c26b1 : (t294 != 1) = false := bne_eq_false_iff_eq.mpr c26
     clear c26
     replace H := Option.bind_eq_some_iff.mp H
     obtain ⟨t296, A270, H⟩ := H
     replace H : (some (a0_0, t294, t296)) = some (r1, r2, r3) := H
     have A27 := Aside0.mk A270
     clear A270
     simp only [Option.some.injEq, Prod.mk.injEq] at H
     obtain ⟨rfl, rfl, rfl⟩ := H
     try go_wp2
     have n0_ := Aside0.mk (blk_drew BK289.out)
     have n1_ := Aside0.mk (blk_drew BK290.out)
     have n2_ := Aside0.mk (below_drew1 HB.out)
     clear BK289
     clear BK290
     clear HB
     have BK289 := n0_
     have BK290 := n1_
     have HB := n2_
     clear n0_ n1_ n2_
     refine start_ (n := 12) (S := fun w' => q2e_ w' gb289 a0_0 a0_1 a0_2 a0_3 a0_4 a0_5 a0_6 a0_7) (ds := []) M4_0 (by kernel_rfl) rfl rfl (k2e_ BK289.out) (fun hHeld => ?_); refine with_tabW impl_TaskOf.tab3 impl_TaskOf.bits3 (fun HT_ HW_ => ?_)
     generalize wc.drew = w28 at BK289 BK290 HB hHeld ⊢
     refine pu_ 0 (some 24) M4_1 HT_ ?_
     refine pu_ 1 (some 25) M4_2 HT_ ?_
     refine pu_ 4 (some 28) M4_3 HT_ ?_
     refine pu_ 5 (some 29) M4_4 HT_ ?_
     refine pu_ 7 (some 31) M4_5 HT_ ?_
     refine pu_ 8 (some 32) M4_6 HT_ ?_
     refine tk_ 2 (some 26) M4_7 HT_ HW_ hHeld ?_
     refine tk_ 3 (some 27) M4_8 HT_ HW_ hHeld ?_
     refine join_ (σ := Nat) 1 M4_9 (fun s_ => [(30, .int .i64 t294), (9, .pointer (some ⟨s_, 0, none⟩)), (33, .agg #[.int .i64 a0_0, .int .i64 t294, .int .i64 (wrap64 (Int.tdiv a3 24))])]) (fun s_ w' => (q2e_ w' gb289 a0_0 a0_1 a0_2 a0_3 a0_4 a0_5 a0_6 a0_7) ∧ (w'.heap[gb289]? = some (c196_ a0_0 a0_1 a0_2 a0_3 a0_4 a0_5 a0_6 a0_7)) ∧ (w'.heap[gb290]? = some (.cells #[.int .i64 0, .int .i64 0, .int .i64 0] 54 (0, 0))) ∧ (w'.heap[s_]? = some (.cells #[.int .i64 0, .int .i64 0, .int .i64 0] 54 (0, 0))) ∧ (w.heap.size ≤ s_) ∧ (w.heap.size ≤ s_) ∧ (gb289 ≠ s_) ∧ (s_ ≠ gb289) ∧ (gb290 ≠ s_) ∧ (s_ ≠ gb290) ∧ (Below w.heap.size w w')) ?_ ?_
     rotate_left
     ·
      intro hCont
      refine two_ (i := 6) (j := 10) (Ni := some 30) (Nj := some 9) M4_10 M4_11 rfl rfl rfl rfl (two_of HT_.out (by kernel_rfl)) (by decide) (by decide) (fun K hK => ?_) (fun K hK => ?_)
      ·
       skip
       refine goes_ Try.func56 (by kernel_rfl) rfl #[.agg #[.int .i64 a0_0, .int .i64 a0_1, .int .i64 a0_2, .int .i64 a0_3, .int .i64 a0_4, .int .i64 a0_5, .int .i64 a0_6, .int .i64 a0_7], .slice A1 l1.length c1, .int .i64 a3] (by rfl) rfl rfl ma_ ?_
       with_reducible refine (impl_FateOf.calls kj4 a0_0 a0_1 a0_2 a0_3 a0_4 a0_5 a0_6 a0_7 _ _ l1 a3 t294 _ ?side1 ?side2 A25.out).mono ?_
       (case side1 => exact cd_ (Kd.C_below HR1.out HB.out))
       (case side2 => exact HC1.out)
       rintro e w29 ⟨rfl, hb⟩
       refine ⟨_, rfl, ?_⟩
       have n0_ := Aside0.mk (blk_below (bd_ BK289.out) hb)
       have n1_ := Aside0.mk (blk_below (bd_ BK290.out) hb)
       have n2_ := Aside0.mk (below_step y202_ hb)
       clear BK289
       clear BK290
       clear HB
       have BK289 := n0_
       have BK290 := n1_
       have HB := n2_
       clear n0_ n1_ n2_
       (try clear hb)
       (try clear hb2)
       (try clear hk)
       (try clear hi)
       refine hK.out _ _ (k2e_ BK289.out) (fun hHeld => ?_)
       clear hK K
       refine norm_ (a' := ?_) ?_ ?_
       rotate_left
       ·
        show Act.put _ (some 30) _ = _
        simp only [Act.put, P4_1, P4_2, P4_3, i64_w, i32_w]
        rfl
       refine pu_ 9 (some 33) M4_12 HT_ ?_
       refine one_ (i := 10) (N := some 9) M4_9 rfl rfl (one_of HT_.out (by kernel_rfl)) (by decide) (fun K hK => ?_)
       refine box_step ?hg (N := 9) ?hd (cs := #[.int .i64 0, .int .i64 0, .int .i64 0]) (t := 54) ?hr ?_; (case hd => rfl); (case hg => rfl); (case hr => first | (go_simp; done) | (go_simp; rfl))
       intro gb295 hg w30 hbox hb
       have n0_ := Aside0.mk (blk_below (bd_ BK289.out) hb)
       have n1_ := Aside0.mk (blk_below (bd_ BK290.out) hb)
       have n2_ := Aside0.mk (below_step y202_ hb)
       have BK295 := Aside0.mk (hbox)
       have GW295 := Aside0.mk ((y215_ : w.heap.size ≤ gb295))
       have GE295 := Aside0.mk ((y215_ : w.heap.size ≤ gb295))
       have NB289_295 := Aside0.mk ((y208_ : gb289 ≠ gb295))
       have NB295_289 := Aside0.mk ((y209_ : gb295 ≠ gb289))
       have NB290_295 := Aside0.mk ((y210_ : gb290 ≠ gb295))
       have NB295_290 := Aside0.mk ((y211_ : gb295 ≠ gb290))
       clear BK289
       clear BK290
       clear HB
       have BK289 := n0_
       have BK290 := n1_
       have HB := n2_
       clear n0_ n1_ n2_
       clear hb hbox hg
       refine hK.out _ _ (k2e_ BK289.out) (fun hHeld => ?_)
       clear hK K
       refine norm_ (a' := ?_) ?_ ?_
       rotate_left
       ·
        show Act.put _ (some 9) _ = _
        simp only [Act.put, P4_1, P4_2, P4_3, i64_w, i32_w]
        rfl
       exact norm_ y213_ (hCont (gb295) _ ⟨hHeld, bd_ BK289.out, bd_ BK290.out, bd_ BK295.out, GW295.out, GE295.out, NB289_295.out, NB295_289.out, NB290_295.out, NB295_290.out, y205_⟩)
      ·
       skip
       refine box_step ?hg (N := 9) ?hd (cs := #[.int .i64 0, .int .i64 0, .int .i64 0]) (t := 54) ?hr ?_; (case hd => rfl); (case hg => rfl); (case hr => first | (go_simp; done) | (go_simp; rfl))
       intro gb295 hg w29 hbox hb
       have n0_ := Aside0.mk (blk_below (bd_ BK289.out) hb)
       have n1_ := Aside0.mk (blk_below (bd_ BK290.out) hb)
       have n2_ := Aside0.mk (below_step y202_ hb)
       have BK295 := Aside0.mk (hbox)
       have GW295 := Aside0.mk ((y215_ : w.heap.size ≤ gb295))
       have GE295 := Aside0.mk ((y215_ : w.heap.size ≤ gb295))
       have NB289_295 := Aside0.mk ((y208_ : gb289 ≠ gb295))
       have NB295_289 := Aside0.mk ((y209_ : gb295 ≠ gb289))
       have NB290_295 := Aside0.mk ((y210_ : gb290 ≠ gb295))
       have NB295_290 := Aside0.mk ((y211_ : gb295 ≠ gb290))
       clear BK289
       clear BK290
       clear HB
       have BK289 := n0_
       have BK290 := n1_
       have HB := n2_
       clear n0_ n1_ n2_
       clear hb hbox hg
       refine hK.out _ _ (k2e_ BK289.out) (fun hHeld => ?_)
       clear hK K
       refine norm_ (a' := ?_) ?_ ?_
       rotate_left
       ·
        show Act.put _ (some 9) _ = _
        simp only [Act.put, P4_1, P4_2, P4_3, i64_w, i32_w]
        rfl
       refine one_ (i := 6) (N := some 30) M4_13 rfl rfl (one_of HT_.out (by kernel_rfl)) (by decide) (fun K hK => ?_)
       refine goes_ Try.func56 (by kernel_rfl) rfl #[.agg #[.int .i64 a0_0, .int .i64 a0_1, .int .i64 a0_2, .int .i64 a0_3, .int .i64 a0_4, .int .i64 a0_5, .int .i64 a0_6, .int .i64 a0_7], .slice A1 l1.length c1, .int .i64 a3] (by rfl) rfl rfl ma_ ?_
       with_reducible refine (impl_FateOf.calls kj4 a0_0 a0_1 a0_2 a0_3 a0_4 a0_5 a0_6 a0_7 _ _ l1 a3 t294 _ ?side1 ?side2 A25.out).mono ?_
       (case side1 => exact cd_ (Kd.C_below HR1.out HB.out))
       (case side2 => exact HC1.out)
       rintro e w30 ⟨rfl, hb⟩
       refine ⟨_, rfl, ?_⟩
       have n0_ := Aside0.mk (blk_below (bd_ BK289.out) hb)
       have n1_ := Aside0.mk (blk_below (bd_ BK290.out) hb)
       have n2_ := Aside0.mk (blk_below (bd_ BK295.out) hb)
       have n3_ := Aside0.mk (below_step y205_ hb)
       clear BK289
       clear BK290
       clear BK295
       clear HB
       have BK289 := n0_
       have BK290 := n1_
       have BK295 := n2_
       have HB := n3_
       clear n0_ n1_ n2_ n3_
       (try clear hb)
       (try clear hb2)
       (try clear hk)
       (try clear hi)
       refine hK.out _ _ (k2e_ BK289.out) (fun hHeld => ?_)
       clear hK K
       refine norm_ (a' := ?_) ?_ ?_
       rotate_left
       ·
        show Act.put _ (some 30) _ = _
        simp only [Act.put, P4_1, P4_2, P4_3, i64_w, i32_w]
        rfl
       refine pu_ 9 (some 33) M4_9 HT_ ?_
       exact norm_ y213_ (hCont (gb295) _ ⟨hHeld, bd_ BK289.out, bd_ BK290.out, bd_ BK295.out, GW295.out, GE295.out, NB289_295.out, NB295_289.out, NB290_295.out, NB295_290.out, y205_⟩)
     rintro gb295 w31 ⟨hS_, h0_, h1_, h2_, h3_, h4_, h5_, h6_, h7_, h8_, h9_⟩
     have n0_ : Aside0 (w31.heap[gb289]? = some (c196_ a0_0 a0_1 a0_2 a0_3 a0_4 a0_5 a0_6 a0_7)) := ⟨h0_⟩
     have n1_ : Aside0 (w31.heap[gb290]? = some (.cells #[.int .i64 0, .int .i64 0, .int .i64 0] 54 (0, 0))) := ⟨h1_⟩
     have BK295 : Aside0 (w31.heap[gb295]? = some (.cells #[.int .i64 0, .int .i64 0, .int .i64 0] 54 (0, 0))) := ⟨h2_⟩
     have GW295 : Aside0 (w.heap.size ≤ gb295) := ⟨h3_⟩
     have GE295 : Aside0 (w.heap.size ≤ gb295) := ⟨h4_⟩
     have NB289_295 : Aside0 (gb289 ≠ gb295) := ⟨h5_⟩
     have NB295_289 : Aside0 (gb295 ≠ gb289) := ⟨h6_⟩
     have NB290_295 : Aside0 (gb290 ≠ gb295) := ⟨h7_⟩
     have NB295_290 : Aside0 (gb295 ≠ gb290) := ⟨h8_⟩
     have n9_ : Aside0 (Below w.heap.size w w31) := ⟨h9_⟩
     clear BK289
     clear BK290
     clear HB
     clear h0_ h1_ h2_ h3_ h4_ h5_ h6_ h7_ h8_ h9_
     have BK289 := n0_
     have BK290 := n1_
     have HB := n9_
     clear n0_ n1_ n9_
     have hHeld : q2e_ w31 gb289 a0_0 a0_1 a0_2 a0_3 a0_4 a0_5 a0_6 a0_7 := hS_
     refine norm_ (a' := ?_) ?_ ?_
     rotate_left
     ·
      simp only [putAll, Act.put, List.setIfInBounds_toArray, List.set_cons_zero, List.set_cons_succ]
      rfl
     refine one_ (i := 11) (N := none) M4_14 rfl rfl (one_of HT_.out (by kernel_rfl)) (by decide) (fun K hK => ?_)
     have hs32 : w31.cell? ⟨gb295, 0, none⟩ = some (.int .i64 0) := (blk_cell BK295.out 0).trans rfl
     have hfs32 := blk_frozen BK295.out 0
     have hns32_0 := NB289_295.out
     have hns32_1 := NB290_295.out
     have hms32_0 := NB295_289.out
     have hms32_1 := NB295_290.out
     have hs33 : w31.cell? ⟨gb295, 1, none⟩ = some (.int .i64 0) := (blk_cell BK295.out 1).trans rfl
     have hfs33 := blk_frozen BK295.out 1
     have hns33_0 := NB289_295.out
     have hns33_1 := NB290_295.out
     have hms33_0 := NB295_289.out
     have hms33_1 := NB295_290.out
     have hs34 : w31.cell? ⟨gb295, 2, none⟩ = some (.int .i64 0) := (blk_cell BK295.out 2).trans rfl
     have hfs34 := blk_frozen BK295.out 2
     have hns34_0 := NB289_295.out
     have hns34_1 := NB290_295.out
     have hms34_0 := NB295_289.out
     have hms34_1 := NB295_290.out
     refine skip_ (w1 := ?_) (by rfl) rfl ?_ ?_
     rotate_left
     ·
      go_simp
      rfl
     refine hK.out _ _ ⟨(f201_ hHeld.1 NB289_295.out), (f201_ hHeld.2.1 NB289_295.out), (f201_ hHeld.2.2.1 NB289_295.out), (f201_ hHeld.2.2.2.1 NB289_295.out), (f201_ hHeld.2.2.2.2.1 NB289_295.out), (f201_ hHeld.2.2.2.2.2.1 NB289_295.out), (f201_ hHeld.2.2.2.2.2.2.1 NB289_295.out), (f201_ hHeld.2.2.2.2.2.2.2 NB289_295.out)⟩ (fun hHeld => ?_)
     clear hK K
     refine done_ (done_of HT_.out (by kernel_rfl)) ?_
     have hnb35 := NB295_289.out
     have hnc35 := NB289_295.out
     have hnb36 := NB295_290.out
     have hnc36 := NB290_295.out
     obtain ⟨hcz37_0, hcz37_1, hcz37_2⟩ := e198_ BK295.out
     obtain ⟨hfz37_0, hfz37_1, hfz37_2⟩ := z200_ BK295.out
     have hq2p : (((w31.setCell ⟨gb295, 0, none⟩ (.int .i64 a0_0)).setCell ⟨gb295, 1, none⟩ (.int .i64 t294)).setCell ⟨gb295, 2, none⟩ (.int .i64 (wrap64 (Int.tdiv a3 24)))).cell? ⟨gb295, 2, none⟩ = some (.int .i64 (wrap64 (Int.tdiv a3 24))) := by first | (simp [*]; done) | (go_simp; done) | (go_simp; rfl)
     try go_wp2_with (first | ((with_reducible refine gate_callee (f := 57) rfl ?_); refine goesL_ (some 41) rfl rfl Try.func57 (by kernel_rfl) rfl #[.slice A2 l2.length c2, .int .i64 (wrap64 (Int.tdiv a3 24))] rfl ma_ ?_; (with_reducible refine (impl_NextOpen.calls kj4 _ _ l2 (wrap64 (Int.tdiv a3 24)) t296 _ ?side1 ?side2 A27.out).mono ?_); (case side1 => exact Kd.C_below HR2.out y205_); (case side2 => exact HC2.out); rintro e w' ⟨rfl, ⟨nd, rfl⟩⟩; refine ⟨_, rfl, ?_⟩; have hnb38 := NB290_289.out; have hnc38 := NB289_290.out; obtain ⟨hcz39_0, hcz39_1, hcz39_2⟩ := e198_ BK290.out; obtain ⟨hfz39_0, hfz39_1, hfz39_2⟩ := z200_ BK290.out))
     refine bodyPost_ret (results_cell_row rfl _ _ gb290 54 #[.int .i64 a0_0, .int .i64 t294, .int .i64 t296] (0, 0) _ rfl (by (with_reducible repeat (first | refine blk_drewN ?_ _ | refine blk_drew ?_ | refine blk_alloc ?_ _)); refine blk_put (cs := #[.int .i64 a0_0, .int .i64 t294, .int .i64 0]) ?_ 2 _ rfl; (with_reducible repeat (first | refine blk_drewN ?_ _ | refine blk_drew ?_ | refine blk_alloc ?_ _)); refine blk_put (cs := #[.int .i64 a0_0, .int .i64 0, .int .i64 0]) ?_ 1 _ rfl; (with_reducible repeat (first | refine blk_drewN ?_ _ | refine blk_drew ?_ | refine blk_alloc ?_ _)); refine blk_put (cs := #[.int .i64 0, .int .i64 0, .int .i64 0]) ?_ 0 _ rfl; (with_reducible repeat (first | refine blk_drewN ?_ _ | refine blk_drew ?_ | refine blk_alloc ?_ _)); refine blk_far ?_ NB290_295.out _; (with_reducible repeat (first | refine blk_drewN ?_ _ | refine blk_drew ?_ | refine blk_alloc ?_ _)); refine blk_far ?_ NB290_295.out _; (with_reducible repeat (first | refine blk_drewN ?_ _ | refine blk_drew ?_ | refine blk_alloc ?_ _)); refine blk_far ?_ NB290_295.out _; (with_reducible repeat (first | refine blk_drewN ?_ _ | refine blk_drew ?_ | refine blk_alloc ?_ _)); refine blk_far ?_ NB290_295.out _; (with_reducible repeat (first | refine blk_drewN ?_ _ | refine blk_drew ?_ | refine blk_alloc ?_ _)); exact BK290.out) Try.underlying54 rfl (by kernel_rfl)) rfl ?_
     exact ⟨rt_, y214_⟩
    ·
     rw [if_neg c26] at H
     have c26b0 : (t294 == 1) = false := beq_eq_false_iff_ne.mpr c26
     have c26b1 : (t294 != 1) = true := bne_iff_ne.mpr c26
     by_cases c40 : t294 = 0
     ·
      rw [if_pos c40] at H
      have c40b0 : (t294 == 0) = true := beq_iff_eq.mpr c40
      have c40b1 : (t294 != 0) = false := bne_eq_false_iff_eq.mpr c40
      clear c40
      replace H := Option.bind_eq_some_iff.mp H
      obtain ⟨t297, A410, H⟩ := H
      replace H : (some (a0_0, t294, t297)) = some (r1, r2, r3) := H
      have A41 := Aside0.mk A410
      clear A410
      simp only [Option.some.injEq, Prod.mk.injEq] at H
      obtain ⟨rfl, rfl, rfl⟩ := H
      try go_wp2
      have n0_ := Aside0.mk (blk_drew BK289.out)
      have n1_ := Aside0.mk (blk_drew BK290.out)
      have n2_ := Aside0.mk (below_drew1 HB.out)
      clear BK289
      clear BK290
      clear HB
      have BK289 := n0_
      have BK290 := n1_
      have HB := n2_
      clear n0_ n1_ n2_
      refine start_ (n := 12) (S := fun w' => q2e_ w' gb289 a0_0 a0_1 a0_2 a0_3 a0_4 a0_5 a0_6 a0_7) (ds := []) M4_0 (by kernel_rfl) rfl rfl (k2e_ BK289.out) (fun hHeld => ?_); refine with_tabW impl_TaskOf.tab3 impl_TaskOf.bits3 (fun HT_ HW_ => ?_)
      generalize wc.drew = w42 at BK289 BK290 HB hHeld ⊢
      refine pu_ 0 (some 24) M4_1 HT_ ?_
      refine pu_ 1 (some 25) M4_2 HT_ ?_
      refine pu_ 4 (some 28) M4_3 HT_ ?_
      refine pu_ 5 (some 29) M4_4 HT_ ?_
      refine pu_ 7 (some 31) M4_5 HT_ ?_
      refine pu_ 8 (some 32) M4_6 HT_ ?_
      refine tk_ 2 (some 26) M4_7 HT_ HW_ hHeld ?_
      refine tk_ 3 (some 27) M4_8 HT_ HW_ hHeld ?_
      refine join_ (σ := Nat) 1 M4_9 (fun s_ => [(30, .int .i64 t294), (9, .pointer (some ⟨s_, 0, none⟩)), (33, .agg #[.int .i64 a0_0, .int .i64 t294, .int .i64 (wrap64 (Int.tdiv a3 24))])]) (fun s_ w' => (q2e_ w' gb289 a0_0 a0_1 a0_2 a0_3 a0_4 a0_5 a0_6 a0_7) ∧ (w'.heap[gb289]? = some (c196_ a0_0 a0_1 a0_2 a0_3 a0_4 a0_5 a0_6 a0_7)) ∧ (w'.heap[gb290]? = some (.cells #[.int .i64 0, .int .i64 0, .int .i64 0] 54 (0, 0))) ∧ (w'.heap[s_]? = some (.cells #[.int .i64 0, .int .i64 0, .int .i64 0] 54 (0, 0))) ∧ (w.heap.size ≤ s_) ∧ (w.heap.size ≤ s_) ∧ (gb289 ≠ s_) ∧ (s_ ≠ gb289) ∧ (gb290 ≠ s_) ∧ (s_ ≠ gb290) ∧ (Below w.heap.size w w')) ?_ ?_
      rotate_left
      ·
       intro hCont
       refine two_ (i := 6) (j := 10) (Ni := some 30) (Nj := some 9) M4_10 M4_11 rfl rfl rfl rfl (two_of HT_.out (by kernel_rfl)) (by decide) (by decide) (fun K hK => ?_) (fun K hK => ?_)
       ·
        skip
        refine goes_ Try.func56 (by kernel_rfl) rfl #[.agg #[.int .i64 a0_0, .int .i64 a0_1, .int .i64 a0_2, .int .i64 a0_3, .int .i64 a0_4, .int .i64 a0_5, .int .i64 a0_6, .int .i64 a0_7], .slice A1 l1.length c1, .int .i64 a3] (by rfl) rfl rfl ma_ ?_
        with_reducible refine (impl_FateOf.calls kj4 a0_0 a0_1 a0_2 a0_3 a0_4 a0_5 a0_6 a0_7 _ _ l1 a3 t294 _ ?side1 ?side2 A25.out).mono ?_
        (case side1 => exact cd_ (Kd.C_below HR1.out HB.out))
        (case side2 => exact HC1.out)
        rintro e w43 ⟨rfl, hb⟩
        refine ⟨_, rfl, ?_⟩
        have n0_ := Aside0.mk (blk_below (bd_ BK289.out) hb)
        have n1_ := Aside0.mk (blk_below (bd_ BK290.out) hb)
        have n2_ := Aside0.mk (below_step y202_ hb)
        clear BK289
        clear BK290
        clear HB
        have BK289 := n0_
        have BK290 := n1_
        have HB := n2_
        clear n0_ n1_ n2_
        (try clear hb)
        (try clear hb2)
        (try clear hk)
        (try clear hi)
        refine hK.out _ _ (k2e_ BK289.out) (fun hHeld => ?_)
        clear hK K
        refine norm_ (a' := ?_) ?_ ?_
        rotate_left
        ·
         show Act.put _ (some 30) _ = _
         simp only [Act.put, P4_1, P4_2, P4_3, i64_w, i32_w]
         rfl
        refine pu_ 9 (some 33) M4_12 HT_ ?_
        refine one_ (i := 10) (N := some 9) M4_9 rfl rfl (one_of HT_.out (by kernel_rfl)) (by decide) (fun K hK => ?_)
        refine box_step ?hg (N := 9) ?hd (cs := #[.int .i64 0, .int .i64 0, .int .i64 0]) (t := 54) ?hr ?_; (case hd => rfl); (case hg => rfl); (case hr => first | (go_simp; done) | (go_simp; rfl))
        intro gb295 hg w44 hbox hb
        have n0_ := Aside0.mk (blk_below (bd_ BK289.out) hb)
        have n1_ := Aside0.mk (blk_below (bd_ BK290.out) hb)
        have n2_ := Aside0.mk (below_step y202_ hb)
        have BK295 := Aside0.mk (hbox)
        have GW295 := Aside0.mk ((y215_ : w.heap.size ≤ gb295))
        have GE295 := Aside0.mk ((y215_ : w.heap.size ≤ gb295))
        have NB289_295 := Aside0.mk ((y208_ : gb289 ≠ gb295))
        have NB295_289 := Aside0.mk ((y209_ : gb295 ≠ gb289))
        have NB290_295 := Aside0.mk ((y210_ : gb290 ≠ gb295))
        have NB295_290 := Aside0.mk ((y211_ : gb295 ≠ gb290))
        clear BK289
        clear BK290
        clear HB
        have BK289 := n0_
        have BK290 := n1_
        have HB := n2_
        clear n0_ n1_ n2_
        clear hb hbox hg
        refine hK.out _ _ (k2e_ BK289.out) (fun hHeld => ?_)
        clear hK K
        refine norm_ (a' := ?_) ?_ ?_
        rotate_left
        ·
         show Act.put _ (some 9) _ = _
         simp only [Act.put, P4_1, P4_2, P4_3, i64_w, i32_w]
         rfl
        exact norm_ y213_ (hCont (gb295) _ ⟨hHeld, bd_ BK289.out, bd_ BK290.out, bd_ BK295.out, GW295.out, GE295.out, NB289_295.out, NB295_289.out, NB290_295.out, NB295_290.out, y205_⟩)
       ·
        skip
        refine box_step ?hg (N := 9) ?hd (cs := #[.int .i64 0, .int .i64 0, .int .i64 0]) (t := 54) ?hr ?_; (case hd => rfl); (case hg => rfl); (case hr => first | (go_simp; done) | (go_simp; rfl))
        intro gb295 hg w43 hbox hb
        have n0_ := Aside0.mk (blk_below (bd_ BK289.out) hb)
        have n1_ := Aside0.mk (blk_below (bd_ BK290.out) hb)
        have n2_ := Aside0.mk (below_step y202_ hb)
        have BK295 := Aside0.mk (hbox)
        have GW295 := Aside0.mk ((y215_ : w.heap.size ≤ gb295))
        have GE295 := Aside0.mk ((y215_ : w.heap.size ≤ gb295))
        have NB289_295 := Aside0.mk ((y208_ : gb289 ≠ gb295))
        have NB295_289 := Aside0.mk ((y209_ : gb295 ≠ gb289))
        have NB290_295 := Aside0.mk ((y210_ : gb290 ≠ gb295))
        have NB295_290 := Aside0.mk ((y211_ : gb295 ≠ gb290))
        clear BK289
        clear BK290
        clear HB
        have BK289 := n0_
        have BK290 := n1_
        have HB := n2_
        clear n0_ n1_ n2_
        clear hb hbox hg
        refine hK.out _ _ (k2e_ BK289.out) (fun hHeld => ?_)
        clear hK K
        refine norm_ (a' := ?_) ?_ ?_
        rotate_left
        ·
         show Act.put _ (some 9) _ = _
         simp only [Act.put, P4_1, P4_2, P4_3, i64_w, i32_w]
         rfl
        refine one_ (i := 6) (N := some 30) M4_13 rfl rfl (one_of HT_.out (by kernel_rfl)) (by decide) (fun K hK => ?_)
        refine goes_ Try.func56 (by kernel_rfl) rfl #[.agg #[.int .i64 a0_0, .int .i64 a0_1, .int .i64 a0_2, .int .i64 a0_3, .int .i64 a0_4, .int .i64 a0_5, .int .i64 a0_6, .int .i64 a0_7], .slice A1 l1.length c1, .int .i64 a3] (by rfl) rfl rfl ma_ ?_
        with_reducible refine (impl_FateOf.calls kj4 a0_0 a0_1 a0_2 a0_3 a0_4 a0_5 a0_6 a0_7 _ _ l1 a3 t294 _ ?side1 ?side2 A25.out).mono ?_
        (case side1 => exact cd_ (Kd.C_below HR1.out HB.out))
        (case side2 => exact HC1.out)
        rintro e w44 ⟨rfl, hb⟩
        refine ⟨_, rfl, ?_⟩
        have n0_ := Aside0.mk (blk_below (bd_ BK289.out) hb)
        have n1_ := Aside0.mk (blk_below (bd_ BK290.out) hb)
        have n2_ := Aside0.mk (blk_below (bd_ BK295.out) hb)
        have n3_ := Aside0.mk (below_step y205_ hb)
        clear BK289
        clear BK290
        clear BK295
        clear HB
        have BK289 := n0_
        have BK290 := n1_
        have BK295 := n2_
        have HB := n3_
        clear n0_ n1_ n2_ n3_
        (try clear hb)
        (try clear hb2)
        (try clear hk)
        (try clear hi)
        refine hK.out _ _ (k2e_ BK289.out) (fun hHeld => ?_)
        clear hK K
        refine norm_ (a' := ?_) ?_ ?_
        rotate_left
        ·
         show Act.put _ (some 30) _ = _
         simp only [Act.put, P4_1, P4_2, P4_3, i64_w, i32_w]
         rfl
        refine pu_ 9 (some 33) M4_9 HT_ ?_
        exact norm_ y213_ (hCont (gb295) _ ⟨hHeld, bd_ BK289.out, bd_ BK290.out, bd_ BK295.out, GW295.out, GE295.out, NB289_295.out, NB295_289.out, NB290_295.out, NB295_290.out, y205_⟩)
      rintro gb295 w45 ⟨hS_, h0_, h1_, h2_, h3_, h4_, h5_, h6_, h7_, h8_, h9_⟩
      have n0_ : Aside0 (w45.heap[gb289]? = some (c196_ a0_0 a0_1 a0_2 a0_3 a0_4 a0_5 a0_6 a0_7)) := ⟨h0_⟩
      have n1_ : Aside0 (w45.heap[gb290]? = some (.cells #[.int .i64 0, .int .i64 0, .int .i64 0] 54 (0, 0))) := ⟨h1_⟩
      have BK295 : Aside0 (w45.heap[gb295]? = some (.cells #[.int .i64 0, .int .i64 0, .int .i64 0] 54 (0, 0))) := ⟨h2_⟩
      have GW295 : Aside0 (w.heap.size ≤ gb295) := ⟨h3_⟩
      have GE295 : Aside0 (w.heap.size ≤ gb295) := ⟨h4_⟩
      have NB289_295 : Aside0 (gb289 ≠ gb295) := ⟨h5_⟩
      have NB295_289 : Aside0 (gb295 ≠ gb289) := ⟨h6_⟩
      have NB290_295 : Aside0 (gb290 ≠ gb295) := ⟨h7_⟩
      have NB295_290 : Aside0 (gb295 ≠ gb290) := ⟨h8_⟩
      have n9_ : Aside0 (Below w.heap.size w w45) := ⟨h9_⟩
      clear BK289
      clear BK290
      clear HB
      clear h0_ h1_ h2_ h3_ h4_ h5_ h6_ h7_ h8_ h9_
      have BK289 := n0_
      have BK290 := n1_
      have HB := n9_
      clear n0_ n1_ n9_
      have hHeld : q2e_ w45 gb289 a0_0 a0_1 a0_2 a0_3 a0_4 a0_5 a0_6 a0_7 := hS_
      refine norm_ (a' := ?_) ?_ ?_
      rotate_left
      ·
       simp only [putAll, Act.put, List.setIfInBounds_toArray, List.set_cons_zero, List.set_cons_succ]
       rfl
      refine one_ (i := 11) (N := none) M4_14 rfl rfl (one_of HT_.out (by kernel_rfl)) (by decide) (fun K hK => ?_)
      have hs46 : w45.cell? ⟨gb295, 0, none⟩ = some (.int .i64 0) := (blk_cell BK295.out 0).trans rfl
      have hfs46 := blk_frozen BK295.out 0
      have hns46_0 := NB289_295.out
      have hns46_1 := NB290_295.out
      have hms46_0 := NB295_289.out
      have hms46_1 := NB295_290.out
      have hs47 : w45.cell? ⟨gb295, 1, none⟩ = some (.int .i64 0) := (blk_cell BK295.out 1).trans rfl
      have hfs47 := blk_frozen BK295.out 1
      have hns47_0 := NB289_295.out
      have hns47_1 := NB290_295.out
      have hms47_0 := NB295_289.out
      have hms47_1 := NB295_290.out
      have hs48 : w45.cell? ⟨gb295, 2, none⟩ = some (.int .i64 0) := (blk_cell BK295.out 2).trans rfl
      have hfs48 := blk_frozen BK295.out 2
      have hns48_0 := NB289_295.out
      have hns48_1 := NB290_295.out
      have hms48_0 := NB295_289.out
      have hms48_1 := NB295_290.out
      refine skip_ (w1 := ?_) (by rfl) rfl ?_ ?_
      rotate_left
      ·
       go_simp
       rfl
      refine hK.out _ _ ⟨(f201_ hHeld.1 NB289_295.out), (f201_ hHeld.2.1 NB289_295.out), (f201_ hHeld.2.2.1 NB289_295.out), (f201_ hHeld.2.2.2.1 NB289_295.out), (f201_ hHeld.2.2.2.2.1 NB289_295.out), (f201_ hHeld.2.2.2.2.2.1 NB289_295.out), (f201_ hHeld.2.2.2.2.2.2.1 NB289_295.out), (f201_ hHeld.2.2.2.2.2.2.2 NB289_295.out)⟩ (fun hHeld => ?_)
      clear hK K
      refine done_ (done_of HT_.out (by kernel_rfl)) ?_
      have hnb49 := NB295_289.out
      have hnc49 := NB289_295.out
      have hnb50 := NB295_290.out
      have hnc50 := NB290_295.out
      obtain ⟨hcz51_0, hcz51_1, hcz51_2⟩ := e198_ BK295.out
      obtain ⟨hfz51_0, hfz51_1, hfz51_2⟩ := z200_ BK295.out
      have hnb52 := NB289_290.out
      have hnc52 := NB290_289.out
      obtain ⟨hcz53_0, hcz53_1, hcz53_2, hcz53_3, hcz53_4, hcz53_5, hcz53_6, hcz53_7⟩ := e197_ BK289.out
      obtain ⟨hfz53_0, hfz53_1, hfz53_2, hfz53_3, hfz53_4, hfz53_5, hfz53_6, hfz53_7⟩ := z199_ BK289.out
      try go_wp2_with (first | ((with_reducible refine gate_callee (f := 58) rfl ?_); refine goesL_ (some 47) rfl rfl Try.func58 (by kernel_rfl) rfl #[.slice A2 l2.length c2, .agg #[.int .i64 a0_0, .int .i64 a0_1, .int .i64 a0_2, .int .i64 a0_3, .int .i64 a0_4, .int .i64 a0_5, .int .i64 a0_6, .int .i64 a0_7]] rfl ma_ ?_; (with_reducible refine (impl_LastDay.calls kj4 _ _ l2 a0_0 a0_1 a0_2 a0_3 a0_4 a0_5 a0_6 a0_7 t297 _ ?side1 ?side2 A41.out).mono ?_); (case side1 => exact Kd.C_below HR2.out y205_); (case side2 => exact HC2.out); rintro e w54 ⟨rfl, hb⟩; refine ⟨_, rfl, ?_⟩; have n0_ := Aside0.mk (blk_below (g := gb289) (o := c196_ a0_0 a0_1 a0_2 a0_3 a0_4 a0_5 a0_6 a0_7) (by (with_reducible repeat (first | refine blk_drewN ?_ _ | refine blk_drew ?_ | refine blk_alloc ?_ _)); refine blk_far ?_ NB289_295.out _; (with_reducible repeat (first | refine blk_drewN ?_ _ | refine blk_drew ?_ | refine blk_alloc ?_ _)); refine blk_far ?_ NB289_295.out _; (with_reducible repeat (first | refine blk_drewN ?_ _ | refine blk_drew ?_ | refine blk_alloc ?_ _)); refine blk_far ?_ NB289_295.out _; (with_reducible repeat (first | refine blk_drewN ?_ _ | refine blk_drew ?_ | refine blk_alloc ?_ _)); exact BK289.out) hb); have n1_ := Aside0.mk (blk_below (g := gb290) (o := .cells #[.int .i64 0, .int .i64 0, .int .i64 0] 54 (0, 0)) (by (with_reducible repeat (first | refine blk_drewN ?_ _ | refine blk_drew ?_ | refine blk_alloc ?_ _)); refine blk_far ?_ NB290_295.out _; (with_reducible repeat (first | refine blk_drewN ?_ _ | refine blk_drew ?_ | refine blk_alloc ?_ _)); refine blk_far ?_ NB290_295.out _; (with_reducible repeat (first | refine blk_drewN ?_ _ | refine blk_drew ?_ | refine blk_alloc ?_ _)); refine blk_far ?_ NB290_295.out _; (with_reducible repeat (first | refine blk_drewN ?_ _ | refine blk_drew ?_ | refine blk_alloc ?_ _)); exact BK290.out) hb); have n2_ := Aside0.mk (blk_below (g := gb295) (o := .cells #[.int .i64 a0_0, .int .i64 t294, .int .i64 (wrap64 (Int.tdiv a3 24))] 54 (0, 0)) (by (with_reducible repeat (first | refine blk_drewN ?_ _ | refine blk_drew ?_ | refine blk_alloc ?_ _)); refine blk_put (cs := #[.int .i64 a0_0, .int .i64 t294, .int .i64 0]) ?_ 2 _ rfl; (with_reducible repeat (first | refine blk_drewN ?_ _ | refine blk_drew ?_ | refine blk_alloc ?_ _)); refine blk_put (cs := #[.int .i64 a0_0, .int .i64 0, .int .i64 0]) ?_ 1 _ rfl; (with_reducible repeat (first | refine blk_drewN ?_ _ | refine blk_drew ?_ | refine blk_alloc ?_ _)); refine blk_put (cs := #[.int .i64 0, .int .i64 0, .int .i64 0]) ?_ 0 _ rfl; (with_reducible repeat (first | refine blk_drewN ?_ _ | refine blk_drew ?_ | refine blk_alloc ?_ _)); exact BK295.out) hb); have n3_ := Aside0.mk (below_step y205_ hb); clear BK289; clear BK290; clear BK295; clear HB; have BK289 := n0_; have BK290 := n1_; have BK295 := n2_; have HB := n3_; clear n0_ n1_ n2_ n3_; (try clear hb); have hcz55_0 : w54.cell? ⟨gb295, 0, none⟩ = some (.int .i64 a0_0) := (blk_cell BK295.out 0).trans rfl; have hcz55_1 : w54.cell? ⟨gb295, 1, none⟩ = some (.int .i64 t294) := (blk_cell BK295.out 1).trans rfl; have hcz55_2 : w54.cell? ⟨gb295, 2, none⟩ = some (.int .i64 (wrap64 (Int.tdiv a3 24))) := (blk_cell BK295.out 2).trans rfl; obtain ⟨hfz55_0, hfz55_1, hfz55_2⟩ := z200_ BK295.out; obtain ⟨hcz56_0, hcz56_1, hcz56_2⟩ := e198_ BK290.out; obtain ⟨hfz56_0, hfz56_1, hfz56_2⟩ := z200_ BK290.out))
      refine bodyPost_ret (results_cell_row rfl _ _ gb290 54 #[.int .i64 a0_0, .int .i64 t294, .int .i64 t297] (0, 0) _ rfl (by (with_reducible repeat (first | refine blk_drewN ?_ _ | refine blk_drew ?_ | refine blk_alloc ?_ _)); refine blk_put (cs := #[.int .i64 a0_0, .int .i64 t294, .int .i64 0]) ?_ 2 _ rfl; (with_reducible repeat (first | refine blk_drewN ?_ _ | refine blk_drew ?_ | refine blk_alloc ?_ _)); refine blk_put (cs := #[.int .i64 a0_0, .int .i64 0, .int .i64 0]) ?_ 1 _ rfl; (with_reducible repeat (first | refine blk_drewN ?_ _ | refine blk_drew ?_ | refine blk_alloc ?_ _)); refine blk_put (cs := #[.int .i64 0, .int .i64 0, .int .i64 0]) ?_ 0 _ rfl; (with_reducible repeat (first | refine blk_drewN ?_ _ | refine blk_drew ?_ | refine blk_alloc ?_ _)); refine blk_far ?_ NB290_295.out _; (with_reducible repeat (first | refine blk_drewN ?_ _ | refine blk_drew ?_ | refine blk_alloc ?_ _)); exact BK290.out) Try.underlying54 rfl (by kernel_rfl)) rfl ?_
      exact ⟨rt_, y214_⟩
     ·
      rw [if_neg c40] at H
      have c40b0 : (t294 == 0) = false := beq_eq_false_iff_ne.mpr c40
      have c40b1 : (t294 != 0) = true := bne_iff_ne.mpr c40
      simp only [Option.some.injEq, Prod.mk.injEq] at H
      obtain ⟨rfl, rfl, rfl⟩ := H
      try go_wp2
      have n0_ := Aside0.mk (blk_drew BK289.out)
      have n1_ := Aside0.mk (blk_drew BK290.out)
      have n2_ := Aside0.mk (below_drew1 HB.out)
      clear BK289
      clear BK290
      clear HB
      have BK289 := n0_
      have BK290 := n1_
      have HB := n2_
      clear n0_ n1_ n2_
      refine start_ (n := 12) (S := fun w' => q2e_ w' gb289 a0_0 a0_1 a0_2 a0_3 a0_4 a0_5 a0_6 a0_7) (ds := []) M4_0 (by kernel_rfl) rfl rfl (k2e_ BK289.out) (fun hHeld => ?_); refine with_tabW impl_TaskOf.tab3 impl_TaskOf.bits3 (fun HT_ HW_ => ?_)
      generalize wc.drew = w57 at BK289 BK290 HB hHeld ⊢
      refine pu_ 0 (some 24) M4_1 HT_ ?_
      refine pu_ 1 (some 25) M4_2 HT_ ?_
      refine pu_ 4 (some 28) M4_3 HT_ ?_
      refine pu_ 5 (some 29) M4_4 HT_ ?_
      refine pu_ 7 (some 31) M4_5 HT_ ?_
      refine pu_ 8 (some 32) M4_6 HT_ ?_
      refine tk_ 2 (some 26) M4_7 HT_ HW_ hHeld ?_
      refine tk_ 3 (some 27) M4_8 HT_ HW_ hHeld ?_
      refine join_ (σ := Nat) 1 M4_9 (fun s_ => [(30, .int .i64 t294), (9, .pointer (some ⟨s_, 0, none⟩)), (33, .agg #[.int .i64 a0_0, .int .i64 t294, .int .i64 (wrap64 (Int.tdiv a3 24))])]) (fun s_ w' => (q2e_ w' gb289 a0_0 a0_1 a0_2 a0_3 a0_4 a0_5 a0_6 a0_7) ∧ (w'.heap[gb289]? = some (c196_ a0_0 a0_1 a0_2 a0_3 a0_4 a0_5 a0_6 a0_7)) ∧ (w'.heap[gb290]? = some (.cells #[.int .i64 0, .int .i64 0, .int .i64 0] 54 (0, 0))) ∧ (w'.heap[s_]? = some (.cells #[.int .i64 0, .int .i64 0, .int .i64 0] 54 (0, 0))) ∧ (w.heap.size ≤ s_) ∧ (w.heap.size ≤ s_) ∧ (gb289 ≠ s_) ∧ (s_ ≠ gb289) ∧ (gb290 ≠ s_) ∧ (s_ ≠ gb290) ∧ (Below w.heap.size w w')) ?_ ?_
      rotate_left
      ·
       intro hCont
       refine two_ (i := 6) (j := 10) (Ni := some 30) (Nj := some 9) M4_10 M4_11 rfl rfl rfl rfl (two_of HT_.out (by kernel_rfl)) (by decide) (by decide) (fun K hK => ?_) (fun K hK => ?_)
       ·
        skip
        refine goes_ Try.func56 (by kernel_rfl) rfl #[.agg #[.int .i64 a0_0, .int .i64 a0_1, .int .i64 a0_2, .int .i64 a0_3, .int .i64 a0_4, .int .i64 a0_5, .int .i64 a0_6, .int .i64 a0_7], .slice A1 l1.length c1, .int .i64 a3] (by rfl) rfl rfl ma_ ?_
        with_reducible refine (impl_FateOf.calls kj4 a0_0 a0_1 a0_2 a0_3 a0_4 a0_5 a0_6 a0_7 _ _ l1 a3 t294 _ ?side1 ?side2 A25.out).mono ?_
        (case side1 => exact cd_ (Kd.C_below HR1.out HB.out))
        (case side2 => exact HC1.out)
        rintro e w58 ⟨rfl, hb⟩
        refine ⟨_, rfl, ?_⟩
        have n0_ := Aside0.mk (blk_below (bd_ BK289.out) hb)
        have n1_ := Aside0.mk (blk_below (bd_ BK290.out) hb)
        have n2_ := Aside0.mk (below_step y202_ hb)
        clear BK289
        clear BK290
        clear HB
        have BK289 := n0_
        have BK290 := n1_
        have HB := n2_
        clear n0_ n1_ n2_
        (try clear hb)
        (try clear hb2)
        (try clear hk)
        (try clear hi)
        refine hK.out _ _ (k2e_ BK289.out) (fun hHeld => ?_)
        clear hK K
        refine norm_ (a' := ?_) ?_ ?_
        rotate_left
        ·
         show Act.put _ (some 30) _ = _
         simp only [Act.put, P4_1, P4_2, P4_3, i64_w, i32_w]
         rfl
        refine pu_ 9 (some 33) M4_12 HT_ ?_
        refine one_ (i := 10) (N := some 9) M4_9 rfl rfl (one_of HT_.out (by kernel_rfl)) (by decide) (fun K hK => ?_)
        refine box_step ?hg (N := 9) ?hd (cs := #[.int .i64 0, .int .i64 0, .int .i64 0]) (t := 54) ?hr ?_; (case hd => rfl); (case hg => rfl); (case hr => first | (go_simp; done) | (go_simp; rfl))
        intro gb295 hg w59 hbox hb
        have n0_ := Aside0.mk (blk_below (bd_ BK289.out) hb)
        have n1_ := Aside0.mk (blk_below (bd_ BK290.out) hb)
        have n2_ := Aside0.mk (below_step y202_ hb)
        have BK295 := Aside0.mk (hbox)
        have GW295 := Aside0.mk ((y215_ : w.heap.size ≤ gb295))
        have GE295 := Aside0.mk ((y215_ : w.heap.size ≤ gb295))
        have NB289_295 := Aside0.mk ((y208_ : gb289 ≠ gb295))
        have NB295_289 := Aside0.mk ((y209_ : gb295 ≠ gb289))
        have NB290_295 := Aside0.mk ((y210_ : gb290 ≠ gb295))
        have NB295_290 := Aside0.mk ((y211_ : gb295 ≠ gb290))
        clear BK289
        clear BK290
        clear HB
        have BK289 := n0_
        have BK290 := n1_
        have HB := n2_
        clear n0_ n1_ n2_
        clear hb hbox hg
        refine hK.out _ _ (k2e_ BK289.out) (fun hHeld => ?_)
        clear hK K
        refine norm_ (a' := ?_) ?_ ?_
        rotate_left
        ·
         show Act.put _ (some 9) _ = _
         simp only [Act.put, P4_1, P4_2, P4_3, i64_w, i32_w]
         rfl
        exact norm_ y213_ (hCont (gb295) _ ⟨hHeld, bd_ BK289.out, bd_ BK290.out, bd_ BK295.out, GW295.out, GE295.out, NB289_295.out, NB295_289.out, NB290_295.out, NB295_290.out, y205_⟩)
       ·
        skip
        refine box_step ?hg (N := 9) ?hd (cs := #[.int .i64 0, .int .i64 0, .int .i64 0]) (t := 54) ?hr ?_; (case hd => rfl); (case hg => rfl); (case hr => first | (go_simp; done) | (go_simp; rfl))
        intro gb295 hg w58 hbox hb
        have n0_ := Aside0.mk (blk_below (bd_ BK289.out) hb)
        have n1_ := Aside0.mk (blk_below (bd_ BK290.out) hb)
        have n2_ := Aside0.mk (below_step y202_ hb)
        have BK295 := Aside0.mk (hbox)
        have GW295 := Aside0.mk ((y215_ : w.heap.size ≤ gb295))
        have GE295 := Aside0.mk ((y215_ : w.heap.size ≤ gb295))
        have NB289_295 := Aside0.mk ((y208_ : gb289 ≠ gb295))
        have NB295_289 := Aside0.mk ((y209_ : gb295 ≠ gb289))
        have NB290_295 := Aside0.mk ((y210_ : gb290 ≠ gb295))
        have NB295_290 := Aside0.mk ((y211_ : gb295 ≠ gb290))
        clear BK289
        clear BK290
        clear HB
        have BK289 := n0_
        have BK290 := n1_
        have HB := n2_
        clear n0_ n1_ n2_
        clear hb hbox hg
        refine hK.out _ _ (k2e_ BK289.out) (fun hHeld => ?_)
        clear hK K
        refine norm_ (a' := ?_) ?_ ?_
        rotate_left
        ·
         show Act.put _ (some 9) _ = _
         simp only [Act.put, P4_1, P4_2, P4_3, i64_w, i32_w]
         rfl
        refine one_ (i := 6) (N := some 30) M4_13 rfl rfl (one_of HT_.out (by kernel_rfl)) (by decide) (fun K hK => ?_)
        refine goes_ Try.func56 (by kernel_rfl) rfl #[.agg #[.int .i64 a0_0, .int .i64 a0_1, .int .i64 a0_2, .int .i64 a0_3, .int .i64 a0_4, .int .i64 a0_5, .int .i64 a0_6, .int .i64 a0_7], .slice A1 l1.length c1, .int .i64 a3] (by rfl) rfl rfl ma_ ?_
        with_reducible refine (impl_FateOf.calls kj4 a0_0 a0_1 a0_2 a0_3 a0_4 a0_5 a0_6 a0_7 _ _ l1 a3 t294 _ ?side1 ?side2 A25.out).mono ?_
        (case side1 => exact cd_ (Kd.C_below HR1.out HB.out))
        (case side2 => exact HC1.out)
        rintro e w59 ⟨rfl, hb⟩
        refine ⟨_, rfl, ?_⟩
        have n0_ := Aside0.mk (blk_below (bd_ BK289.out) hb)
        have n1_ := Aside0.mk (blk_below (bd_ BK290.out) hb)
        have n2_ := Aside0.mk (blk_below (bd_ BK295.out) hb)
        have n3_ := Aside0.mk (below_step y205_ hb)
        clear BK289
        clear BK290
        clear BK295
        clear HB
        have BK289 := n0_
        have BK290 := n1_
        have BK295 := n2_
        have HB := n3_
        clear n0_ n1_ n2_ n3_
        (try clear hb)
        (try clear hb2)
        (try clear hk)
        (try clear hi)
        refine hK.out _ _ (k2e_ BK289.out) (fun hHeld => ?_)
        clear hK K
        refine norm_ (a' := ?_) ?_ ?_
        rotate_left
        ·
         show Act.put _ (some 30) _ = _
         simp only [Act.put, P4_1, P4_2, P4_3, i64_w, i32_w]
         rfl
        refine pu_ 9 (some 33) M4_9 HT_ ?_
        exact norm_ y213_ (hCont (gb295) _ ⟨hHeld, bd_ BK289.out, bd_ BK290.out, bd_ BK295.out, GW295.out, GE295.out, NB289_295.out, NB295_289.out, NB290_295.out, NB295_290.out, y205_⟩)
      rintro gb295 w60 ⟨hS_, h0_, h1_, h2_, h3_, h4_, h5_, h6_, h7_, h8_, h9_⟩
      have n0_ : Aside0 (w60.heap[gb289]? = some (c196_ a0_0 a0_1 a0_2 a0_3 a0_4 a0_5 a0_6 a0_7)) := ⟨h0_⟩
      have n1_ : Aside0 (w60.heap[gb290]? = some (.cells #[.int .i64 0, .int .i64 0, .int .i64 0] 54 (0, 0))) := ⟨h1_⟩
      have BK295 : Aside0 (w60.heap[gb295]? = some (.cells #[.int .i64 0, .int .i64 0, .int .i64 0] 54 (0, 0))) := ⟨h2_⟩
      have GW295 : Aside0 (w.heap.size ≤ gb295) := ⟨h3_⟩
      have GE295 : Aside0 (w.heap.size ≤ gb295) := ⟨h4_⟩
      have NB289_295 : Aside0 (gb289 ≠ gb295) := ⟨h5_⟩
      have NB295_289 : Aside0 (gb295 ≠ gb289) := ⟨h6_⟩
      have NB290_295 : Aside0 (gb290 ≠ gb295) := ⟨h7_⟩
      have NB295_290 : Aside0 (gb295 ≠ gb290) := ⟨h8_⟩
      have n9_ : Aside0 (Below w.heap.size w w60) := ⟨h9_⟩
      clear BK289
      clear BK290
      clear HB
      clear h0_ h1_ h2_ h3_ h4_ h5_ h6_ h7_ h8_ h9_
      have BK289 := n0_
      have BK290 := n1_
      have HB := n9_
      clear n0_ n1_ n9_
      have hHeld : q2e_ w60 gb289 a0_0 a0_1 a0_2 a0_3 a0_4 a0_5 a0_6 a0_7 := hS_
      refine norm_ (a' := ?_) ?_ ?_
      rotate_left
      ·
       simp only [putAll, Act.put, List.setIfInBounds_toArray, List.set_cons_zero, List.set_cons_succ]
       rfl
      refine one_ (i := 11) (N := none) M4_14 rfl rfl (one_of HT_.out (by kernel_rfl)) (by decide) (fun K hK => ?_)
      have hs61 : w60.cell? ⟨gb295, 0, none⟩ = some (.int .i64 0) := (blk_cell BK295.out 0).trans rfl
      have hfs61 := blk_frozen BK295.out 0
      have hns61_0 := NB289_295.out
      have hns61_1 := NB290_295.out
      have hms61_0 := NB295_289.out
      have hms61_1 := NB295_290.out
      have hs62 : w60.cell? ⟨gb295, 1, none⟩ = some (.int .i64 0) := (blk_cell BK295.out 1).trans rfl
      have hfs62 := blk_frozen BK295.out 1
      have hns62_0 := NB289_295.out
      have hns62_1 := NB290_295.out
      have hms62_0 := NB295_289.out
      have hms62_1 := NB295_290.out
      have hs63 : w60.cell? ⟨gb295, 2, none⟩ = some (.int .i64 0) := (blk_cell BK295.out 2).trans rfl
      have hfs63 := blk_frozen BK295.out 2
      have hns63_0 := NB289_295.out
      have hns63_1 := NB290_295.out
      have hms63_0 := NB295_289.out
      have hms63_1 := NB295_290.out
      refine skip_ (w1 := ?_) (by rfl) rfl ?_ ?_
      rotate_left
      ·
       go_simp
       rfl
      refine hK.out _ _ ⟨(f201_ hHeld.1 NB289_295.out), (f201_ hHeld.2.1 NB289_295.out), (f201_ hHeld.2.2.1 NB289_295.out), (f201_ hHeld.2.2.2.1 NB289_295.out), (f201_ hHeld.2.2.2.2.1 NB289_295.out), (f201_ hHeld.2.2.2.2.2.1 NB289_295.out), (f201_ hHeld.2.2.2.2.2.2.1 NB289_295.out), (f201_ hHeld.2.2.2.2.2.2.2 NB289_295.out)⟩ (fun hHeld => ?_)
      clear hK K
      refine done_ (done_of HT_.out (by kernel_rfl)) ?_
      have hnb64 := NB295_289.out
      have hnc64 := NB289_295.out
      have hnb65 := NB295_290.out
      have hnc65 := NB290_295.out
      obtain ⟨hcz66_0, hcz66_1, hcz66_2⟩ := e198_ BK295.out
      obtain ⟨hfz66_0, hfz66_1, hfz66_2⟩ := z200_ BK295.out
      have hnb67 := NB290_289.out
      have hnc67 := NB289_290.out
      obtain ⟨hcz68_0, hcz68_1, hcz68_2⟩ := e198_ BK290.out
      obtain ⟨hfz68_0, hfz68_1, hfz68_2⟩ := z200_ BK290.out
      try go_wp2
      refine bodyPost_ret (results_cell_row rfl _ _ gb290 54 #[.int .i64 a0_0, .int .i64 t294, .int .i64 (wrap64 (Int.tdiv a3 24))] (0, 0) _ rfl (by (with_reducible repeat (first | refine blk_drewN ?_ _ | refine blk_drew ?_ | refine blk_alloc ?_ _)); refine blk_put (cs := #[.int .i64 a0_0, .int .i64 t294, .int .i64 0]) ?_ 2 _ rfl; (with_reducible repeat (first | refine blk_drewN ?_ _ | refine blk_drew ?_ | refine blk_alloc ?_ _)); refine blk_put (cs := #[.int .i64 a0_0, .int .i64 0, .int .i64 0]) ?_ 1 _ rfl; (with_reducible repeat (first | refine blk_drewN ?_ _ | refine blk_drew ?_ | refine blk_alloc ?_ _)); refine blk_put (cs := #[.int .i64 0, .int .i64 0, .int .i64 0]) ?_ 0 _ rfl; (with_reducible repeat (first | refine blk_drewN ?_ _ | refine blk_drew ?_ | refine blk_alloc ?_ _)); refine blk_far ?_ NB290_295.out _; (with_reducible repeat (first | refine blk_drewN ?_ _ | refine blk_drew ?_ | refine blk_alloc ?_ _)); refine blk_far ?_ NB290_295.out _; (with_reducible repeat (first | refine blk_drewN ?_ _ | refine blk_drew ?_ | refine blk_alloc ?_ _)); refine blk_far ?_ NB290_295.out _; (with_reducible repeat (first | refine blk_drewN ?_ _ | refine blk_drew ?_ | refine blk_alloc ?_ _)); exact BK290.out) Try.underlying54 rfl (by kernel_rfl)) rfl ?_
      exact ⟨rt_, y214_⟩

end Go.Proofs.Ytnlgilmbmoiniaa.PFnExactTasksFor
