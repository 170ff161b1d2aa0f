-- Written for this claim by a program (a printer turned to this claim); Lean checks it.
import Derived.Test.YtnlgilmbmoiniaaDoorPFnTasksx0
import Derived.Test.YtnlgilmbmoiniaaDoorPFnTasksx7
import Derived.Test.YtnlgilmbmoiniaaDoorPFnTasksx8
import Derived.Test.YtnlgilmbmoiniaaDoorPFnTasksx9
namespace Go.Proofs.YtnlgilmbmoiniaaDoor.PFnTasks
open Go.RowKit Go.Proofs.YtnlgilmbmoiniaaDoorW.PrintWords Go.Proofs.YtnlgilmbmoiniaaDoorW.PrintLast Go.Proofs.YtnlgilmbmoiniaaDoorW.PrintMore
attribute [local go_sem] max2_int min2_int max_two min_two max_three min_three max_four min_four   -- for this text's walks alone
set_option linter.unusedVariables false
set_option linter.unusedSimpArgs false

/-! ### impl_TaskOf: function 9 -/
def impl_TaskOf.j0 : Nat → List (S73) → List Bool → Int → Bool → Int → Int → Int → Int → Int → Int → Int → Int → Option (Int × Int × Int)
 | 0, _, _, _, _, _, _, _, _, _, _, _, _ => none
 | k + 1, x1, x2, x3, x22, x521000, x521001, x521002, x521003, x521004, x521005, x521006, x521007 => if x22 = true then (some (0, 0, 0)) else ((impl_FateOf.f k x521000 x521001 x521002 x521003 x521004 x521005 x521006 x521007 x1 x3).bind fun t525 => (if t525 = 1 then ((impl_NextOpen.f k x2 (wrap64 (Int.tdiv x3 24))).bind fun t527 => (some (x521000, t525, t527))) else (if t525 = 0 then ((impl_LastDay.f k x2 x521000 x521001 x521002 x521003 x521004 x521005 x521006 x521007).bind fun t528 => (some (x521000, t525, t528))) else (some (x521000, t525, wrap64 (Int.tdiv x3 24))))))
def impl_TaskOf.f (k : Nat) (a0_0 : Int) (a0_1 : Int) (a0_2 : Int) (a0_3 : Int) (a0_4 : Int) (a0_5 : Int) (a0_6 : Int) (a0_7 : Int) (l1 : List (S73)) (l2 : List Bool) (a3 : Int) : Option (Int × Int × Int) := (impl_IsFind.f a0_0 a0_1 a0_2 a0_3 a0_4 a0_5 a0_6 a0_7).bind fun t522 => (if t522 = true then ((impl_IsCalendar.f k l2).bind fun t523 => (if t523 = true then ((impl_InRange.f a3 0 100000).bind fun t524 => (impl_TaskOf.j0 k l1 l2 a3 (!t524) a0_0 a0_1 a0_2 a0_3 a0_4 a0_5 a0_6 a0_7)) else (impl_TaskOf.j0 k l1 l2 a3 true a0_0 a0_1 a0_2 a0_3 a0_4 a0_5 a0_6 a0_7))) else (impl_TaskOf.j0 k l1 l2 a3 true a0_0 a0_1 a0_2 a0_3 a0_4 a0_5 a0_6 a0_7))
theorem impl_TaskOf.mono_l : ∀ k, (∀ y0 y1 y2 y3 y4 y5 y6 y7 y8 y9 y10 y11, LeO (impl_TaskOf.j0 k y0 y1 y2 y3 y4 y5 y6 y7 y8 y9 y10 y11) (impl_TaskOf.j0 (k + 1) y0 y1 y2 y3 y4 y5 y6 y7 y8 y9 y10 y11))
 | 0 => fun _ _ _ _ _ _ _ _ _ _ _ _ r h => by simp [impl_TaskOf.j0] at h
 | k + 1 => by
  have ih0 := impl_TaskOf.mono_l k
  ·
   intro y0 y1 y2 y3 y4 y5 y6 y7 y8 y9 y10 y11
   unfold impl_TaskOf.j0
   have jh0 := @impl_FateOf.mono
   have jh1 := @impl_IsCalendar.mono
   have jh2 := @impl_LastDay.mono
   have jh3 := @impl_NextOpen.mono
   exact mo_
theorem impl_TaskOf.mono : ∀ a0 a1 a2 a3 a4 a5 a6 a7 a8 a9 a10 k, LeO (impl_TaskOf.f k a0 a1 a2 a3 a4 a5 a6 a7 a8 a9 a10) (impl_TaskOf.f (k + 1) a0 a1 a2 a3 a4 a5 a6 a7 a8 a9 a10) := by
 intro a0 a1 a2 a3 a4 a5 a6 a7 a8 a9 a10 k
 have ih0 := impl_TaskOf.mono_l k
 unfold impl_TaskOf.f
 have jh0 := @impl_FateOf.mono
 have jh1 := @impl_IsCalendar.mono
 have jh2 := @impl_LastDay.mono
 have jh3 := @impl_NextOpen.mono
 exact mo_
def impl_TaskOf.T3 : Bool × List (List Nat × List Nat) := (true, [([], []), ([0], [0]), ([1], [1]), ([], []), ([], []), ([], []), ([3, 4, 5], [3, 4, 5]), ([], []), ([7], [7]), ([2, 6, 8], [2, 6, 8]), ([], []), ([10, 9, 6, 0, 1, 2, 3, 4, 5, 6, 7, 8, 9, 10], [9, 10])])
def impl_TaskOf.B3 : List Nat := [0, 1, 3, 0, 0, 0, 56, 0, 128, 511, 0, 2047]
theorem impl_TaskOf.tab3 : rtab .any (opsOf Tryd.f9 3) = impl_TaskOf.T3 := by kernel_rfl
theorem impl_TaskOf.bits3 : waitsOk impl_TaskOf.T3.2 impl_TaskOf.B3 = true := by kernel_rfl
abbrev M1_0 := bm_ 12 0
abbrev M1_1 := bm_ 12 1
abbrev M1_2 := bm_ 12 3
abbrev M1_3 := bm_ 12 19
abbrev M1_4 := bm_ 12 51
abbrev M1_5 := bm_ 12 179
abbrev M1_6 := bm_ 12 435
abbrev M1_7 := bm_ 12 439
abbrev M1_8 := bm_ 12 447
abbrev M1_9 := bm_ 12 2047
abbrev M1_10 := bm_ 12 511
abbrev M1_11 := bm_ 12 1471
abbrev M1_12 := bm_ 12 1023
abbrev M1_13 := bm_ 12 1535
abbrev M1_14 := bm_ 12 4095
theorem P1_1 {α : Type} (l : List α) (i : Nat) (a : α) : l.toArray.setIfInBounds i a = (l.set i a).toArray := List.setIfInBounds_toArray l i a
theorem P1_2 {α : Type} (x : α) (l : List α) (a : α) : (x :: l).set 0 a = a :: l := List.set_cons_zero
theorem P1_3 {α : Type} (x : α) (l : List α) (n : Nat) (a : α) : (x :: l).set (n + 1) a = x :: l.set n a := List.set_cons_succ
abbrev c159_ (i0 : Int) (i1 : Int) (i2 : Int) (i3 : Int) (i4 : Int) (i5 : Int) (i6 : Int) (i7 : Int) : Obj := .cells #[.int .i64 i0, .int .i64 i1, .int .i64 i2, .int .i64 i3, .int .i64 i4, .int .i64 i5, .int .i64 i6, .int .i64 i7] 38 (0, 0)
theorem e160_ {w : World} {g : Nat} {t : TypeId} {i0 : Int} {i1 : Int} {i2 : Int} {i3 : Int} {i4 : Int} {i5 : Int} {i6 : Int} {i7 : Int} (h : w.heap[g]? = some (.cells #[.int .i64 i0, .int .i64 i1, .int .i64 i2, .int .i64 i3, .int .i64 i4, .int .i64 i5, .int .i64 i6, .int .i64 i7] t (0, 0))) : w.cell? ⟨g, 0, none⟩ = some (.int .i64 i0) ∧ w.cell? ⟨g, 1, none⟩ = some (.int .i64 i1) ∧ w.cell? ⟨g, 2, none⟩ = some (.int .i64 i2) ∧ w.cell? ⟨g, 3, none⟩ = some (.int .i64 i3) ∧ w.cell? ⟨g, 4, none⟩ = some (.int .i64 i4) ∧ w.cell? ⟨g, 5, none⟩ = some (.int .i64 i5) ∧ w.cell? ⟨g, 6, none⟩ = some (.int .i64 i6) ∧ w.cell? ⟨g, 7, none⟩ = some (.int .i64 i7) := ⟨(blk_cell h 0).trans rfl, (blk_cell h 1).trans rfl, (blk_cell h 2).trans rfl, (blk_cell h 3).trans rfl, (blk_cell h 4).trans rfl, (blk_cell h 5).trans rfl, (blk_cell h 6).trans rfl, (blk_cell h 7).trans rfl⟩
theorem e161_ {w : World} {g : Nat} {t : TypeId} {i0 : Int} {i1 : Int} {i2 : Int} (h : w.heap[g]? = some (.cells #[.int .i64 i0, .int .i64 i1, .int .i64 i2] t (0, 0))) : w.cell? ⟨g, 0, none⟩ = some (.int .i64 i0) ∧ w.cell? ⟨g, 1, none⟩ = some (.int .i64 i1) ∧ w.cell? ⟨g, 2, none⟩ = some (.int .i64 i2) := ⟨(blk_cell h 0).trans rfl, (blk_cell h 1).trans rfl, (blk_cell h 2).trans rfl⟩
theorem z162_ {w : World} {g : Nat} {t : TypeId} {cs : Array Value} (h : w.heap[g]? = some (.cells cs t (0, 0))) : w.frozen? ⟨g, 0, none⟩ = false ∧ w.frozen? ⟨g, 1, none⟩ = false ∧ w.frozen? ⟨g, 2, none⟩ = false ∧ w.frozen? ⟨g, 3, none⟩ = false ∧ w.frozen? ⟨g, 4, none⟩ = false ∧ w.frozen? ⟨g, 5, none⟩ = false ∧ w.frozen? ⟨g, 6, none⟩ = false ∧ w.frozen? ⟨g, 7, none⟩ = false := ⟨blk_frozen h 0, blk_frozen h 1, blk_frozen h 2, blk_frozen h 3, blk_frozen h 4, blk_frozen h 5, blk_frozen h 6, blk_frozen h 7⟩
theorem z163_ {w : World} {g : Nat} {t : TypeId} {cs : Array Value} (h : w.heap[g]? = some (.cells cs t (0, 0))) : w.frozen? ⟨g, 0, none⟩ = false ∧ w.frozen? ⟨g, 1, none⟩ = false ∧ w.frozen? ⟨g, 2, none⟩ = false := ⟨blk_frozen h 0, blk_frozen h 1, blk_frozen h 2⟩
theorem f164_ {W : World} {g : Nat} {a : Addr} {o0 o1 o2 : Nat} {u0 u1 u2 : Value} {v : Option Value} (e : W.cell? a = v) (h : a.block ≠ g) : World.cell? (World.setCell (World.setCell (World.setCell W ⟨g, o0, none⟩ u0) ⟨g, o1, none⟩ u1) ⟨g, o2, none⟩ u2) a = v := ((cell_far (p := ⟨g, o2, none⟩) h u2).trans ((cell_far (p := ⟨g, o1, none⟩) h u1).trans ((cell_far (p := ⟨g, o0, none⟩) h u0).trans e)))
theorem y165_ {P : Prop} (h : P := by repeat (first | (with_reducible first | exact HB.out | apply below_alloc | apply pw_below_drewN | apply below_drew1 | refine below_set ?_ GE520.out | refine below_set ?_ GE521.out) | exact HB.out)) : P := h
theorem y168_ {P : Prop} (h : P := by repeat (first | (with_reducible first | exact HB.out | apply below_alloc | apply pw_below_drewN | apply below_drew1 | refine below_set ?_ GE520.out | refine below_set ?_ GE521.out | refine below_set ?_ GE526.out) | exact HB.out)) : P := h
theorem y171_ {P : Prop} (h : P := by rw [hg]; exact Nat.ne_of_lt (blk_lt (bd_ BK520.out))) : P := h
theorem y172_ {P : Prop} (h : P := by rw [hg]; exact Nat.ne_of_gt (blk_lt (bd_ BK520.out))) : P := h
theorem y173_ {P : Prop} (h : P := by rw [hg]; exact Nat.ne_of_lt (blk_lt (bd_ BK521.out))) : P := h
theorem y174_ {P : Prop} (h : P := by rw [hg]; exact Nat.ne_of_gt (blk_lt (bd_ BK521.out))) : P := h
theorem y175_ {P : Prop} (h : P := by repeat (first | (with_reducible first | exact HB.out | apply below_alloc | apply pw_below_drewN | apply below_drew1 | refine below_set ?_ GE520.out | refine below_set ?_ GE521.out) | exact HB.out)) : P := h
theorem y176_ {P : Prop} (h : P := by simp only [putAll, Act.put, List.setIfInBounds_toArray, List.set_cons_zero, List.set_cons_succ]) : P := h
theorem y177_ {P : Prop} (h : P := by repeat (first | (with_reducible first | exact HB.out | apply below_alloc | apply pw_below_drewN | apply below_drew1 | refine below_set ?_ GE520.out | refine below_set ?_ GE521.out | refine below_set ?_ GE526.out) | exact HB.out)) : P := h
theorem y178_ {P : Prop} (h : P := by rw [hg]; exact (below_size y165_)) : P := h
theorem y179_ {P : Prop} (h : P := by repeat (first | (with_reducible first | exact HB.out | apply below_alloc | apply pw_below_drewN | apply below_drew1 | refine below_set ?_ GE520.out) | exact HB.out)) : P := h
set_option maxHeartbeats 8000000 in
set_option maxRecDepth 100000 in
theorem impl_TaskOf.calls (k : Nat) (a0_0 : Int) (a0_1 : Int) (a0_2 : Int) (a0_3 : Int) (a0_4 : Int) (a0_5 : Int) (a0_6 : Int) (a0_7 : Int) (A1 : Option Addr) (c1 : Nat) (l1 : List (S73)) (A2 : Option Addr) (c2 : Nat) (l2 : List Bool) (a3 : Int) (r1 : Int) (r2 : Int) (r3 : Int) (w : World) (hr1 : Kd.C k73 w A1 l1.length l1) (hc1 : l1.length ≤ c1) (hr2 : Kd.C Kd.bool w A2 l2.length l2) (hc2 : l2.length ≤ c2) (h : impl_TaskOf.f k a0_0 a0_1 a0_2 a0_3 a0_4 a0_5 a0_6 a0_7 l1 l2 a3 = some (r1, r2, r3)) :
  Calls Tryd.prog 9 #[.agg #[.int .i64 a0_0, .int .i64 a0_1, .int .i64 a0_2, .int .i64 a0_3, .int .i64 a0_4, .int .i64 a0_5, .int .i64 a0_6, .int .i64 a0_7], .slice A1 l1.length c1, .slice A2 l2.length c2, .int .i64 a3] w fun e w' => e = .returned (.agg #[.int .i64 r1, .int .i64 r2, .int .i64 r3]) ∧ Below w.heap.size w w' := by
 have hu38 := Tryd.underlying38
 have hu33 := Tryd.underlying33
 have HR1 := Aside0.mk hr1
 have HC1 := Aside0.mk hc1
 clear hr1 hc1
 have HR2 := Aside0.mk hr2
 have HC2 := Aside0.mk hc2
 clear hr2 hc2
 have HB := Aside0.mk (Below.refl w.heap.size w)
 have H : ((impl_IsFind.f a0_0 a0_1 a0_2 a0_3 a0_4 a0_5 a0_6 a0_7).bind fun t522 => (if t522 = true then ((impl_IsCalendar.f k l2).bind fun t523 => (if t523 = true then ((impl_InRange.f a3 0 100000).bind fun t524 => (impl_TaskOf.j0 k l1 l2 a3 (!t524) a0_0 a0_1 a0_2 a0_3 a0_4 a0_5 a0_6 a0_7)) else (impl_TaskOf.j0 k l1 l2 a3 true a0_0 a0_1 a0_2 a0_3 a0_4 a0_5 a0_6 a0_7))) else (impl_TaskOf.j0 k l1 l2 a3 true a0_0 a0_1 a0_2 a0_3 a0_4 a0_5 a0_6 a0_7))) = some (r1, r2, r3) := h
 clear h
 have HC5 := Aside0.mk H
 clear H
 go_enter Tryd.func9, Tryd.ntmps9
 go_upto_region 1 with (first | ((with_reducible refine gate_dst (N := 4) rfl ?_); refine bx_ 4 #[.int .i64 a0_0, .int .i64 a0_1, .int .i64 a0_2, .int .i64 a0_3, .int .i64 a0_4, .int .i64 a0_5, .int .i64 a0_6, .int .i64 a0_7] 38 ?_; intro gb520 hg w6 hbox hb; have n0_ := Aside0.mk (below_step (hd_ HB.out) hb); have BK520 := Aside0.mk (hbox); have GW520 := Aside0.mk ((by rw [hg]; exact (below_size (hd_ HB.out)) : w.heap.size ≤ gb520)); have GE520 := GW520; clear HB; have HB := n0_; clear n0_; clear hb hbox hg) | ((with_reducible refine gate_dst (N := 8) rfl ?_); refine bx_ 8 #[.int .i64 0, .int .i64 0, .int .i64 0] 33 ?_; intro gb521 hg w7 hbox hb; have n0_ := Aside0.mk (blk_below (bd_ BK520.out) hb); have n1_ := Aside0.mk (below_step y179_ hb); have BK521 := Aside0.mk (hbox); have GW521 := Aside0.mk ((by rw [hg]; exact (below_size y179_) : w.heap.size ≤ gb521)); have GE521 := GW521; have NB520_521 := Aside0.mk ((y171_ : gb520 ≠ gb521)); have NB521_520 := Aside0.mk ((y172_ : gb521 ≠ gb520)); clear BK520; clear HB; have BK520 := n0_; have HB := n1_; clear n0_ n1_; clear hb hbox hg))
 (try simp only [Act.put, List.setIfInBounds_toArray, List.set_cons_zero, List.set_cons_succ])
 go_cut [22] (fun v22 wc => ∃ (kq : Nat) (x22_4 : Bool), v22 = .bool x22_4 ∧ Aside0 (impl_TaskOf.j0 kq l1 l2 a3 x22_4 a0_0 a0_1 a0_2 a0_3 a0_4 a0_5 a0_6 a0_7 = some (r1, r2, r3)) ∧ Aside0 (kq ≤ k) ∧ Aside0 (wc.heap[gb520]? = some (c159_ a0_0 a0_1 a0_2 a0_3 a0_4 a0_5 a0_6 a0_7)) ∧ Aside0 (wc.heap[gb521]? = some (.cells #[.int .i64 0, .int .i64 0, .int .i64 0] 33 (0, 0))) ∧ Aside0 (Below w.heap.size w wc))
 case first =>
  have H := HC5.out
  clear HC5
  replace H := Option.bind_eq_some_iff.mp H
  obtain ⟨t522, A80, H⟩ := H
  replace H : (if t522 = true then ((impl_IsCalendar.f k l2).bind fun t523 => (if t523 = true then ((impl_InRange.f a3 0 100000).bind fun t524 => (impl_TaskOf.j0 k l1 l2 a3 (!t524) a0_0 a0_1 a0_2 a0_3 a0_4 a0_5 a0_6 a0_7)) else (impl_TaskOf.j0 k l1 l2 a3 true a0_0 a0_1 a0_2 a0_3 a0_4 a0_5 a0_6 a0_7))) else (impl_TaskOf.j0 k l1 l2 a3 true a0_0 a0_1 a0_2 a0_3 a0_4 a0_5 a0_6 a0_7)) = some (r1, r2, r3) := H
  have A8 := Aside0.mk A80
  clear A80
  by_cases c9 : t522 = true
  ·
   subst c9
   have H1 : ((impl_IsCalendar.f k l2).bind fun t523 => (if t523 = true then ((impl_InRange.f a3 0 100000).bind fun t524 => (impl_TaskOf.j0 k l1 l2 a3 (!t524) a0_0 a0_1 a0_2 a0_3 a0_4 a0_5 a0_6 a0_7)) else (impl_TaskOf.j0 k l1 l2 a3 true a0_0 a0_1 a0_2 a0_3 a0_4 a0_5 a0_6 a0_7))) = some (r1, r2, r3) := by rw [if_pos rfl] at H; exact H
   clear H
   have H := H1
   clear H1
   replace H := Option.bind_eq_some_iff.mp H
   obtain ⟨t523, A100, H⟩ := H
   replace H : (if t523 = true then ((impl_InRange.f a3 0 100000).bind fun t524 => (impl_TaskOf.j0 k l1 l2 a3 (!t524) a0_0 a0_1 a0_2 a0_3 a0_4 a0_5 a0_6 a0_7)) else (impl_TaskOf.j0 k l1 l2 a3 true a0_0 a0_1 a0_2 a0_3 a0_4 a0_5 a0_6 a0_7)) = some (r1, r2, r3) := H
   have A10 := Aside0.mk A100
   clear A100
   by_cases c11 : t523 = true
   ·
    subst c11
    have H1 : ((impl_InRange.f a3 0 100000).bind fun t524 => (impl_TaskOf.j0 k l1 l2 a3 (!t524) a0_0 a0_1 a0_2 a0_3 a0_4 a0_5 a0_6 a0_7)) = some (r1, r2, r3) := by rw [if_pos rfl] at H; exact H
    clear H
    have H := H1
    clear H1
    replace H := Option.bind_eq_some_iff.mp H
    obtain ⟨t524, A120, H⟩ := H
    replace H : (impl_TaskOf.j0 k l1 l2 a3 (!t524) a0_0 a0_1 a0_2 a0_3 a0_4 a0_5 a0_6 a0_7) = some (r1, r2, r3) := H
    have A12 := Aside0.mk A120
    clear A120
    have H' := Aside0.mk H
    clear H
    have hnb13 := NB520_521.out
    have hnc13 := NB521_520.out
    obtain ⟨hcz14_0, hcz14_1, hcz14_2, hcz14_3, hcz14_4, hcz14_5, hcz14_6, hcz14_7⟩ := e160_ BK520.out
    obtain ⟨hfz14_0, hfz14_1, hfz14_2, hfz14_3, hfz14_4, hfz14_5, hfz14_6, hfz14_7⟩ := z162_ BK520.out
    go_wp2_with (first | ((with_reducible refine gate_callee (f := 27) rfl ?_); refine goesL_ (some 11) rfl rfl Tryd.func27 (by kernel_rfl) rfl #[.agg #[.int .i64 a0_0, .int .i64 a0_1, .int .i64 a0_2, .int .i64 a0_3, .int .i64 a0_4, .int .i64 a0_5, .int .i64 a0_6, .int .i64 a0_7]] rfl ma_ ?_; (with_reducible refine (impl_IsFind.calls a0_0 a0_1 a0_2 a0_3 a0_4 a0_5 a0_6 a0_7 true _ A8.out).mono ?_); rintro e w15 ⟨rfl, hb⟩; refine ⟨_, rfl, ?_⟩; have n0_ := Aside0.mk (blk_below (bd_ BK520.out) hb); have n1_ := Aside0.mk (blk_below (bd_ BK521.out) hb); have n2_ := Aside0.mk (below_step y165_ hb); clear BK520; clear BK521; clear HB; have BK520 := n0_; have BK521 := n1_; have HB := n2_; clear n0_ n1_ n2_; (try clear hb)) | (go_at_call 28; (with_reducible refine (impl_IsCalendar.calls k _ _ l2 true _ ?side1 ?side2 A10.out).mono ?_); (case side1 => exact cd_ (Kd.C_below HR2.out HB.out)); (case side2 => exact HC2.out); rintro e w' ⟨rfl, ⟨nd, rfl⟩⟩) | (go_at_call 29; (with_reducible refine (impl_InRange.calls a3 0 100000 t524 _ A12.out).mono ?_); rintro e w' ⟨rfl, ⟨nd, rfl⟩⟩))
    go_meet
    case rel => exact ⟨_, (!t524), rs_, H', ⟨by first | omega | exact Nat.le_refl _⟩, ⟨bd_ BK520.out⟩, ⟨bd_ BK521.out⟩, ⟨y175_⟩⟩
   ·
    replace c11 := Bool.eq_false_iff.mpr c11
    subst c11
    have H1 : (impl_TaskOf.j0 k l1 l2 a3 true a0_0 a0_1 a0_2 a0_3 a0_4 a0_5 a0_6 a0_7) = some (r1, r2, r3) := by rw [if_neg (show ¬ (false = true) by decide)] at H; exact H
    clear H
    have H := H1
    clear H1
    have H' := Aside0.mk H
    clear H
    have hnb16 := NB520_521.out
    have hnc16 := NB521_520.out
    obtain ⟨hcz17_0, hcz17_1, hcz17_2, hcz17_3, hcz17_4, hcz17_5, hcz17_6, hcz17_7⟩ := e160_ BK520.out
    obtain ⟨hfz17_0, hfz17_1, hfz17_2, hfz17_3, hfz17_4, hfz17_5, hfz17_6, hfz17_7⟩ := z162_ BK520.out
    go_wp2_with (first | ((with_reducible refine gate_callee (f := 27) rfl ?_); refine goesL_ (some 11) rfl rfl Tryd.func27 (by kernel_rfl) rfl #[.agg #[.int .i64 a0_0, .int .i64 a0_1, .int .i64 a0_2, .int .i64 a0_3, .int .i64 a0_4, .int .i64 a0_5, .int .i64 a0_6, .int .i64 a0_7]] rfl ma_ ?_; (with_reducible refine (impl_IsFind.calls a0_0 a0_1 a0_2 a0_3 a0_4 a0_5 a0_6 a0_7 true _ A8.out).mono ?_); rintro e w18 ⟨rfl, hb⟩; refine ⟨_, rfl, ?_⟩; have n0_ := Aside0.mk (blk_below (bd_ BK520.out) hb); have n1_ := Aside0.mk (blk_below (bd_ BK521.out) hb); have n2_ := Aside0.mk (below_step y165_ hb); clear BK520; clear BK521; clear HB; have BK520 := n0_; have BK521 := n1_; have HB := n2_; clear n0_ n1_ n2_; (try clear hb)) | (go_at_call 28; (with_reducible refine (impl_IsCalendar.calls k _ _ l2 false _ ?side1 ?side2 A10.out).mono ?_); (case side1 => exact cd_ (Kd.C_below HR2.out HB.out)); (case side2 => exact HC2.out); rintro e w' ⟨rfl, ⟨nd, rfl⟩⟩))
    go_meet
    case rel => exact ⟨_, (true), rs_, H', ⟨by first | omega | exact Nat.le_refl _⟩, ⟨bd_ BK520.out⟩, ⟨bd_ BK521.out⟩, ⟨y175_⟩⟩
  ·
   replace c9 := Bool.eq_false_iff.mpr c9
   subst c9
   have H1 : (impl_TaskOf.j0 k l1 l2 a3 true a0_0 a0_1 a0_2 a0_3 a0_4 a0_5 a0_6 a0_7) = some (r1, r2, r3) := by rw [if_neg (show ¬ (false = true) by decide)] at H; exact H
   clear H
   have H := H1
   clear H1
   have H' := Aside0.mk H
   clear H
   have hnb19 := NB520_521.out
   have hnc19 := NB521_520.out
   obtain ⟨hcz20_0, hcz20_1, hcz20_2, hcz20_3, hcz20_4, hcz20_5, hcz20_6, hcz20_7⟩ := e160_ BK520.out
   obtain ⟨hfz20_0, hfz20_1, hfz20_2, hfz20_3, hfz20_4, hfz20_5, hfz20_6, hfz20_7⟩ := z162_ BK520.out
   go_wp2_with (first | ((with_reducible refine gate_callee (f := 27) rfl ?_); refine goesL_ (some 11) rfl rfl Tryd.func27 (by kernel_rfl) rfl #[.agg #[.int .i64 a0_0, .int .i64 a0_1, .int .i64 a0_2, .int .i64 a0_3, .int .i64 a0_4, .int .i64 a0_5, .int .i64 a0_6, .int .i64 a0_7]] rfl ma_ ?_; (with_reducible refine (impl_IsFind.calls a0_0 a0_1 a0_2 a0_3 a0_4 a0_5 a0_6 a0_7 false _ A8.out).mono ?_); rintro e w21 ⟨rfl, hb⟩; refine ⟨_, rfl, ?_⟩; have n0_ := Aside0.mk (blk_below (bd_ BK520.out) hb); have n1_ := Aside0.mk (blk_below (bd_ BK521.out) hb); have n2_ := Aside0.mk (below_step y165_ hb); clear BK520; clear BK521; clear HB; have BK520 := n0_; have BK521 := n1_; have HB := n2_; clear n0_ n1_ n2_; (try clear hb)))
   go_meet
   case rel => exact ⟨_, (true), rs_, H', ⟨by first | omega | exact Nat.le_refl _⟩, ⟨bd_ BK520.out⟩, ⟨bd_ BK521.out⟩, ⟨y175_⟩⟩
 case rest =>
  clear HC5
  try clear c1
  try clear c2
  try clear p2
  try clear c9
  try clear c11
  try clear c13
  try clear c16
  try clear c19
  obtain ⟨kq, x22_4, rfl, HA, HJ4, BK520, BK521, HB⟩ := hcut
  cases kq with
  | zero => exact absurd HA.out (by simp [impl_TaskOf.j0])
  | succ kj4 =>
   have H := HA.out
   clear HA
   simp only [impl_TaskOf.j0] at H
   by_cases c22 : x22_4 = true
   ·
    subst c22
    have H1 : (some (0, 0, 0)) = some (r1, r2, r3) := by rw [if_pos rfl] at H; exact H
    clear H
    have H := H1
    clear H1
    simp only [Option.some.injEq, Prod.mk.injEq] at H
    obtain ⟨rfl, rfl, rfl⟩ := H
    have hnb23 := NB521_520.out
    have hnc23 := NB520_521.out
    obtain ⟨hcz24_0, hcz24_1, hcz24_2⟩ := e161_ BK521.out
    obtain ⟨hfz24_0, hfz24_1, hfz24_2⟩ := z163_ BK521.out
    go_wp2
    refine bodyPost_ret (results_cell_row rfl _ _ gb521 33 #[.int .i64 0, .int .i64 0, .int .i64 0] (0, 0) _ rfl (by (with_reducible repeat (first | refine blk_drewN ?_ _ | refine blk_drew ?_ | refine blk_alloc ?_ _)); refine blk_put (cs := #[.int .i64 0, .int .i64 0, .int .i64 0]) ?_ 2 _ rfl; (with_reducible repeat (first | refine blk_drewN ?_ _ | refine blk_drew ?_ | refine blk_alloc ?_ _)); refine blk_put (cs := #[.int .i64 0, .int .i64 0, .int .i64 0]) ?_ 1 _ rfl; (with_reducible repeat (first | refine blk_drewN ?_ _ | refine blk_drew ?_ | refine blk_alloc ?_ _)); refine blk_put (cs := #[.int .i64 0, .int .i64 0, .int .i64 0]) ?_ 0 _ rfl; (with_reducible repeat (first | refine blk_drewN ?_ _ | refine blk_drew ?_ | refine blk_alloc ?_ _)); exact BK521.out) Tryd.underlying33 rfl (by kernel_rfl)) rfl ?_
    exact ⟨rt_, y175_⟩
   ·
    replace c22 := Bool.eq_false_iff.mpr c22
    subst c22
    have H1 : ((impl_FateOf.f kj4 a0_0 a0_1 a0_2 a0_3 a0_4 a0_5 a0_6 a0_7 l1 a3).bind fun t525 => (if t525 = 1 then ((impl_NextOpen.f kj4 l2 (wrap64 (Int.tdiv a3 24))).bind fun t527 => (some (a0_0, t525, t527))) else (if t525 = 0 then ((impl_LastDay.f kj4 l2 a0_0 a0_1 a0_2 a0_3 a0_4 a0_5 a0_6 a0_7).bind fun t528 => (some (a0_0, t525, t528))) else (some (a0_0, t525, wrap64 (Int.tdiv a3 24)))))) = some (r1, r2, r3) := by rw [if_neg (show ¬ (false = true) by decide)] at H; exact H
    clear H
    have H := H1
    clear H1
    replace H := Option.bind_eq_some_iff.mp H
    obtain ⟨t525, A250, H⟩ := H
    replace H : (if t525 = 1 then ((impl_NextOpen.f kj4 l2 (wrap64 (Int.tdiv a3 24))).bind fun t527 => (some (a0_0, t525, t527))) else (if t525 = 0 then ((impl_LastDay.f kj4 l2 a0_0 a0_1 a0_2 a0_3 a0_4 a0_5 a0_6 a0_7).bind fun t528 => (some (a0_0, t525, t528))) else (some (a0_0, t525, wrap64 (Int.tdiv a3 24))))) = some (r1, r2, r3) := H
    have A25 := Aside0.mk A250
    clear A250
    have HH_ := Aside0.mk H
    clear H
    try go_wp2
    have n0_ := Aside0.mk (blk_drew BK520.out)
    have n1_ := Aside0.mk (blk_drew BK521.out)
    have n2_ := Aside0.mk (below_drew1 HB.out)
    clear BK520
    clear BK521
    clear HB
    have BK520 := n0_
    have BK521 := n1_
    have HB := n2_
    clear n0_ n1_ n2_
    refine start_ (n := 12) (S := fun w' => q3e_ w' gb520 a0_0 a0_1 a0_2 a0_3 a0_4 a0_5 a0_6 a0_7) (ds := []) M1_0 (by kernel_rfl) rfl rfl (k3e_ BK520.out) (fun hHeld => ?_); refine with_tabW impl_TaskOf.tab3 impl_TaskOf.bits3 (fun HT_ HW_ => ?_)
    generalize wc.drew = w28 at BK520 BK521 HB hHeld ⊢
    refine pu_ 0 (some 24) M1_1 HT_ ?_
    refine pu_ 1 (some 25) M1_2 HT_ ?_
    refine pu_ 4 (some 28) M1_3 HT_ ?_
    refine pu_ 5 (some 29) M1_4 HT_ ?_
    refine pu_ 7 (some 31) M1_5 HT_ ?_
    refine pu_ 8 (some 32) M1_6 HT_ ?_
    refine tk_ 2 (some 26) M1_7 HT_ HW_ hHeld ?_
    refine tk_ 3 (some 27) M1_8 HT_ HW_ hHeld ?_
    refine join_ (σ := Nat) 1 M1_9 (fun s_ => [(30, .int .i64 t525), (9, .pointer (some ⟨s_, 0, none⟩)), (33, .agg #[.int .i64 a0_0, .int .i64 t525, .int .i64 (wrap64 (Int.tdiv a3 24))])]) (fun s_ w' => (q3e_ w' gb520 a0_0 a0_1 a0_2 a0_3 a0_4 a0_5 a0_6 a0_7) ∧ (w'.heap[gb520]? = some (c159_ a0_0 a0_1 a0_2 a0_3 a0_4 a0_5 a0_6 a0_7)) ∧ (w'.heap[gb521]? = some (.cells #[.int .i64 0, .int .i64 0, .int .i64 0] 33 (0, 0))) ∧ (w'.heap[s_]? = some (.cells #[.int .i64 0, .int .i64 0, .int .i64 0] 33 (0, 0))) ∧ (w.heap.size ≤ s_) ∧ (w.heap.size ≤ s_) ∧ (gb520 ≠ s_) ∧ (s_ ≠ gb520) ∧ (gb521 ≠ s_) ∧ (s_ ≠ gb521) ∧ (Below w.heap.size w w')) ?_ ?_
    rotate_left
    ·
     intro hCont
     refine two_ (i := 6) (j := 10) (Ni := some 30) (Nj := some 9) M1_10 M1_11 rfl rfl rfl rfl (two_of HT_.out (by kernel_rfl)) (by decide) (by decide) (fun K hK => ?_) (fun K hK => ?_)
     ·
      skip
      refine goes_ Tryd.func30 (by kernel_rfl) rfl #[.agg #[.int .i64 a0_0, .int .i64 a0_1, .int .i64 a0_2, .int .i64 a0_3, .int .i64 a0_4, .int .i64 a0_5, .int .i64 a0_6, .int .i64 a0_7], .slice A1 l1.length c1, .int .i64 a3] (by rfl) rfl rfl ma_ ?_
      with_reducible refine (impl_FateOf.calls kj4 a0_0 a0_1 a0_2 a0_3 a0_4 a0_5 a0_6 a0_7 _ _ l1 a3 t525 _ ?side1 ?side2 A25.out).mono ?_
      (case side1 => exact cd_ (Kd.C_below HR1.out HB.out))
      (case side2 => exact HC1.out)
      rintro e w29 ⟨rfl, hb⟩
      refine ⟨_, rfl, ?_⟩
      have n0_ := Aside0.mk (blk_below (bd_ BK520.out) hb)
      have n1_ := Aside0.mk (blk_below (bd_ BK521.out) hb)
      have n2_ := Aside0.mk (below_step y165_ hb)
      clear BK520
      clear BK521
      clear HB
      have BK520 := n0_
      have BK521 := n1_
      have HB := n2_
      clear n0_ n1_ n2_
      (try clear hb)
      (try clear hb2)
      (try clear hk)
      (try clear hi)
      refine hK.out _ _ (k3e_ BK520.out) (fun hHeld => ?_)
      clear hK K
      refine norm_ (a' := ?_) ?_ ?_
      rotate_left
      ·
       show Act.put _ (some 30) _ = _
       simp only [Act.put, P1_1, P1_2, P1_3, i64_w, i32_w]
       rfl
      refine pu_ 9 (some 33) M1_12 HT_ ?_
      refine one_ (i := 10) (N := some 9) M1_9 rfl rfl (one_of HT_.out (by kernel_rfl)) (by decide) (fun K hK => ?_)
      refine box_step ?hg (N := 9) ?hd (cs := #[.int .i64 0, .int .i64 0, .int .i64 0]) (t := 33) ?hr ?_; (case hd => rfl); (case hg => rfl); (case hr => first | (go_simp; done) | (go_simp; rfl))
      intro gb526 hg w30 hbox hb
      have n0_ := Aside0.mk (blk_below (bd_ BK520.out) hb)
      have n1_ := Aside0.mk (blk_below (bd_ BK521.out) hb)
      have n2_ := Aside0.mk (below_step y165_ hb)
      have BK526 := Aside0.mk (hbox)
      have GW526 := Aside0.mk ((y178_ : w.heap.size ≤ gb526))
      have GE526 := Aside0.mk ((y178_ : w.heap.size ≤ gb526))
      have NB520_526 := Aside0.mk ((y171_ : gb520 ≠ gb526))
      have NB526_520 := Aside0.mk ((y172_ : gb526 ≠ gb520))
      have NB521_526 := Aside0.mk ((y173_ : gb521 ≠ gb526))
      have NB526_521 := Aside0.mk ((y174_ : gb526 ≠ gb521))
      clear BK520
      clear BK521
      clear HB
      have BK520 := n0_
      have BK521 := n1_
      have HB := n2_
      clear n0_ n1_ n2_
      clear hb hbox hg
      refine hK.out _ _ (k3e_ BK520.out) (fun hHeld => ?_)
      clear hK K
      refine norm_ (a' := ?_) ?_ ?_
      rotate_left
      ·
       show Act.put _ (some 9) _ = _
       simp only [Act.put, P1_1, P1_2, P1_3, i64_w, i32_w]
       rfl
      exact norm_ y176_ (hCont (gb526) _ ⟨hHeld, bd_ BK520.out, bd_ BK521.out, bd_ BK526.out, GW526.out, GE526.out, NB520_526.out, NB526_520.out, NB521_526.out, NB526_521.out, y168_⟩)
     ·
      skip
      refine box_step ?hg (N := 9) ?hd (cs := #[.int .i64 0, .int .i64 0, .int .i64 0]) (t := 33) ?hr ?_; (case hd => rfl); (case hg => rfl); (case hr => first | (go_simp; done) | (go_simp; rfl))
      intro gb526 hg w29 hbox hb
      have n0_ := Aside0.mk (blk_below (bd_ BK520.out) hb)
      have n1_ := Aside0.mk (blk_below (bd_ BK521.out) hb)
      have n2_ := Aside0.mk (below_step y165_ hb)
      have BK526 := Aside0.mk (hbox)
      have GW526 := Aside0.mk ((y178_ : w.heap.size ≤ gb526))
      have GE526 := Aside0.mk ((y178_ : w.heap.size ≤ gb526))
      have NB520_526 := Aside0.mk ((y171_ : gb520 ≠ gb526))
      have NB526_520 := Aside0.mk ((y172_ : gb526 ≠ gb520))
      have NB521_526 := Aside0.mk ((y173_ : gb521 ≠ gb526))
      have NB526_521 := Aside0.mk ((y174_ : gb526 ≠ gb521))
      clear BK520
      clear BK521
      clear HB
      have BK520 := n0_
      have BK521 := n1_
      have HB := n2_
      clear n0_ n1_ n2_
      clear hb hbox hg
      refine hK.out _ _ (k3e_ BK520.out) (fun hHeld => ?_)
      clear hK K
      refine norm_ (a' := ?_) ?_ ?_
      rotate_left
      ·
       show Act.put _ (some 9) _ = _
       simp only [Act.put, P1_1, P1_2, P1_3, i64_w, i32_w]
       rfl
      refine one_ (i := 6) (N := some 30) M1_13 rfl rfl (one_of HT_.out (by kernel_rfl)) (by decide) (fun K hK => ?_)
      refine goes_ Tryd.func30 (by kernel_rfl) rfl #[.agg #[.int .i64 a0_0, .int .i64 a0_1, .int .i64 a0_2, .int .i64 a0_3, .int .i64 a0_4, .int .i64 a0_5, .int .i64 a0_6, .int .i64 a0_7], .slice A1 l1.length c1, .int .i64 a3] (by rfl) rfl rfl ma_ ?_
      with_reducible refine (impl_FateOf.calls kj4 a0_0 a0_1 a0_2 a0_3 a0_4 a0_5 a0_6 a0_7 _ _ l1 a3 t525 _ ?side1 ?side2 A25.out).mono ?_
      (case side1 => exact cd_ (Kd.C_below HR1.out HB.out))
      (case side2 => exact HC1.out)
      rintro e w30 ⟨rfl, hb⟩
      refine ⟨_, rfl, ?_⟩
      have n0_ := Aside0.mk (blk_below (bd_ BK520.out) hb)
      have n1_ := Aside0.mk (blk_below (bd_ BK521.out) hb)
      have n2_ := Aside0.mk (blk_below (bd_ BK526.out) hb)
      have n3_ := Aside0.mk (below_step y168_ hb)
      clear BK520
      clear BK521
      clear BK526
      clear HB
      have BK520 := n0_
      have BK521 := n1_
      have BK526 := n2_
      have HB := n3_
      clear n0_ n1_ n2_ n3_
      (try clear hb)
      (try clear hb2)
      (try clear hk)
      (try clear hi)
      refine hK.out _ _ (k3e_ BK520.out) (fun hHeld => ?_)
      clear hK K
      refine norm_ (a' := ?_) ?_ ?_
      rotate_left
      ·
       show Act.put _ (some 30) _ = _
       simp only [Act.put, P1_1, P1_2, P1_3, i64_w, i32_w]
       rfl
      refine pu_ 9 (some 33) M1_9 HT_ ?_
      exact norm_ y176_ (hCont (gb526) _ ⟨hHeld, bd_ BK520.out, bd_ BK521.out, bd_ BK526.out, GW526.out, GE526.out, NB520_526.out, NB526_520.out, NB521_526.out, NB526_521.out, y168_⟩)
    rintro gb526 w31 ⟨hS_, h0_, h1_, h2_, h3_, h4_, h5_, h6_, h7_, h8_, h9_⟩
    have n0_ : Aside0 (w31.heap[gb520]? = some (c159_ a0_0 a0_1 a0_2 a0_3 a0_4 a0_5 a0_6 a0_7)) := ⟨h0_⟩
    have n1_ : Aside0 (w31.heap[gb521]? = some (.cells #[.int .i64 0, .int .i64 0, .int .i64 0] 33 (0, 0))) := ⟨h1_⟩
    have BK526 : Aside0 (w31.heap[gb526]? = some (.cells #[.int .i64 0, .int .i64 0, .int .i64 0] 33 (0, 0))) := ⟨h2_⟩
    have GW526 : Aside0 (w.heap.size ≤ gb526) := ⟨h3_⟩
    have GE526 : Aside0 (w.heap.size ≤ gb526) := ⟨h4_⟩
    have NB520_526 : Aside0 (gb520 ≠ gb526) := ⟨h5_⟩
    have NB526_520 : Aside0 (gb526 ≠ gb520) := ⟨h6_⟩
    have NB521_526 : Aside0 (gb521 ≠ gb526) := ⟨h7_⟩
    have NB526_521 : Aside0 (gb526 ≠ gb521) := ⟨h8_⟩
    have n9_ : Aside0 (Below w.heap.size w w31) := ⟨h9_⟩
    clear BK520
    clear BK521
    clear HB
    clear h0_ h1_ h2_ h3_ h4_ h5_ h6_ h7_ h8_ h9_
    have BK520 := n0_
    have BK521 := n1_
    have HB := n9_
    clear n0_ n1_ n9_
    have hHeld : q3e_ w31 gb520 a0_0 a0_1 a0_2 a0_3 a0_4 a0_5 a0_6 a0_7 := hS_
    refine norm_ (a' := ?_) ?_ ?_
    rotate_left
    ·
     simp only [putAll, Act.put, List.setIfInBounds_toArray, List.set_cons_zero, List.set_cons_succ]
     rfl
    refine one_ (i := 11) (N := none) M1_14 rfl rfl (one_of HT_.out (by kernel_rfl)) (by decide) (fun K hK => ?_)
    have hs32 : w31.cell? ⟨gb526, 0, none⟩ = some (.int .i64 0) := (blk_cell BK526.out 0).trans rfl
    have hfs32 := blk_frozen BK526.out 0
    have hns32_0 := NB520_526.out
    have hns32_1 := NB521_526.out
    have hms32_0 := NB526_520.out
    have hms32_1 := NB526_521.out
    have hs33 : w31.cell? ⟨gb526, 1, none⟩ = some (.int .i64 0) := (blk_cell BK526.out 1).trans rfl
    have hfs33 := blk_frozen BK526.out 1
    have hns33_0 := NB520_526.out
    have hns33_1 := NB521_526.out
    have hms33_0 := NB526_520.out
    have hms33_1 := NB526_521.out
    have hs34 : w31.cell? ⟨gb526, 2, none⟩ = some (.int .i64 0) := (blk_cell BK526.out 2).trans rfl
    have hfs34 := blk_frozen BK526.out 2
    have hns34_0 := NB520_526.out
    have hns34_1 := NB521_526.out
    have hms34_0 := NB526_520.out
    have hms34_1 := NB526_521.out
    refine skip_ (w1 := ?_) (by rfl) rfl ?_ ?_
    rotate_left
    ·
     go_simp
     rfl
    refine hK.out _ _ ⟨(f164_ hHeld.1 NB520_526.out), (f164_ hHeld.2.1 NB520_526.out), (f164_ hHeld.2.2.1 NB520_526.out), (f164_ hHeld.2.2.2.1 NB520_526.out), (f164_ hHeld.2.2.2.2.1 NB520_526.out), (f164_ hHeld.2.2.2.2.2.1 NB520_526.out), (f164_ hHeld.2.2.2.2.2.2.1 NB520_526.out), (f164_ hHeld.2.2.2.2.2.2.2 NB520_526.out)⟩ (fun hHeld => ?_)
    clear hK K
    refine done_ (done_of HT_.out (by kernel_rfl)) ?_
    have H := HH_.out
    clear HH_
    by_cases c26 : t525 = 1
    ·
     rw [if_pos c26] at H
     have c26b0 : (t525 == 1) = true := beq_iff_eq.mpr c26
     (try rw [c26b0])
     have c26b1 : (t525 != 1) = false := bne_eq_false_iff_eq.mpr c26
     (try rw [c26b1])
     clear c26
     replace H := Option.bind_eq_some_iff.mp H
     obtain ⟨t527, A270, H⟩ := H
     replace H : (some (a0_0, t525, t527)) = some (r1, r2, r3) := H
     have A27 := Aside0.mk A270
     clear A270
     simp only [Option.some.injEq, Prod.mk.injEq] at H
     obtain ⟨rfl, rfl, rfl⟩ := H
     have hnb35 := NB526_520.out
     have hnc35 := NB520_526.out
     have hnb36 := NB526_521.out
     have hnc36 := NB521_526.out
     obtain ⟨hcz37_0, hcz37_1, hcz37_2⟩ := e161_ BK526.out
     obtain ⟨hfz37_0, hfz37_1, hfz37_2⟩ := z163_ BK526.out
     have hq2p : (((w31.setCell ⟨gb526, 0, none⟩ (.int .i64 a0_0)).setCell ⟨gb526, 1, none⟩ (.int .i64 t525)).setCell ⟨gb526, 2, none⟩ (.int .i64 (wrap64 (Int.tdiv a3 24)))).cell? ⟨gb526, 2, none⟩ = some (.int .i64 (wrap64 (Int.tdiv a3 24))) := by first | (simp [*]; done) | (go_simp; done) | (go_simp; rfl)
     try go_wp2_with (first | ((with_reducible refine gate_callee (f := 31) rfl ?_); refine goesL_ (some 41) rfl rfl Tryd.func31 (by kernel_rfl) rfl #[.slice A2 l2.length c2, .int .i64 (wrap64 (Int.tdiv a3 24))] rfl ma_ ?_; (with_reducible refine (impl_NextOpen.calls kj4 _ _ l2 (wrap64 (Int.tdiv a3 24)) t527 _ ?side1 ?side2 A27.out).mono ?_); (case side1 => exact Kd.C_below HR2.out y168_); (case side2 => exact HC2.out); rintro e w' ⟨rfl, ⟨nd, rfl⟩⟩; refine ⟨_, rfl, ?_⟩; have hnb38 := NB521_520.out; have hnc38 := NB520_521.out; obtain ⟨hcz39_0, hcz39_1, hcz39_2⟩ := e161_ BK521.out; obtain ⟨hfz39_0, hfz39_1, hfz39_2⟩ := z163_ BK521.out))
     refine bodyPost_ret (results_cell_row rfl _ _ gb521 33 #[.int .i64 a0_0, .int .i64 t525, .int .i64 t527] (0, 0) _ rfl (by (with_reducible repeat (first | refine blk_drewN ?_ _ | refine blk_drew ?_ | refine blk_alloc ?_ _)); refine blk_put (cs := #[.int .i64 a0_0, .int .i64 t525, .int .i64 0]) ?_ 2 _ rfl; (with_reducible repeat (first | refine blk_drewN ?_ _ | refine blk_drew ?_ | refine blk_alloc ?_ _)); refine blk_put (cs := #[.int .i64 a0_0, .int .i64 0, .int .i64 0]) ?_ 1 _ rfl; (with_reducible repeat (first | refine blk_drewN ?_ _ | refine blk_drew ?_ | refine blk_alloc ?_ _)); refine blk_put (cs := #[.int .i64 0, .int .i64 0, .int .i64 0]) ?_ 0 _ rfl; (with_reducible repeat (first | refine blk_drewN ?_ _ | refine blk_drew ?_ | refine blk_alloc ?_ _)); refine blk_far ?_ NB521_526.out _; (with_reducible repeat (first | refine blk_drewN ?_ _ | refine blk_drew ?_ | refine blk_alloc ?_ _)); refine blk_far ?_ NB521_526.out _; (with_reducible repeat (first | refine blk_drewN ?_ _ | refine blk_drew ?_ | refine blk_alloc ?_ _)); refine blk_far ?_ NB521_526.out _; (with_reducible repeat (first | refine blk_drewN ?_ _ | refine blk_drew ?_ | refine blk_alloc ?_ _)); refine blk_far ?_ NB521_526.out _; (with_reducible repeat (first | refine blk_drewN ?_ _ | refine blk_drew ?_ | refine blk_alloc ?_ _)); exact BK521.out) Tryd.underlying33 rfl (by kernel_rfl)) rfl ?_
     exact ⟨rt_, y177_⟩
    ·
     rw [if_neg c26] at H
     have c26b0 : (t525 == 1) = false := beq_eq_false_iff_ne.mpr c26
     (try rw [c26b0])
     have c26b1 : (t525 != 1) = true := bne_iff_ne.mpr c26
     (try rw [c26b1])
     by_cases c40 : t525 = 0
     ·
      rw [if_pos c40] at H
      have c40b0 : (t525 == 0) = true := beq_iff_eq.mpr c40
      (try rw [c40b0])
      have c40b1 : (t525 != 0) = false := bne_eq_false_iff_eq.mpr c40
      (try rw [c40b1])
      clear c40
      replace H := Option.bind_eq_some_iff.mp H
      obtain ⟨t528, A410, H⟩ := H
      replace H : (some (a0_0, t525, t528)) = some (r1, r2, r3) := H
      have A41 := Aside0.mk A410
      clear A410
      simp only [Option.some.injEq, Prod.mk.injEq] at H
      obtain ⟨rfl, rfl, rfl⟩ := H
      have hnb49 := NB526_520.out
      have hnc49 := NB520_526.out
      have hnb50 := NB526_521.out
      have hnc50 := NB521_526.out
      obtain ⟨hcz51_0, hcz51_1, hcz51_2⟩ := e161_ BK526.out
      obtain ⟨hfz51_0, hfz51_1, hfz51_2⟩ := z163_ BK526.out
      have hnb52 := NB520_521.out
      have hnc52 := NB521_520.out
      obtain ⟨hcz53_0, hcz53_1, hcz53_2, hcz53_3, hcz53_4, hcz53_5, hcz53_6, hcz53_7⟩ := e160_ BK520.out
      obtain ⟨hfz53_0, hfz53_1, hfz53_2, hfz53_3, hfz53_4, hfz53_5, hfz53_6, hfz53_7⟩ := z162_ BK520.out
      try go_wp2_with (first | ((with_reducible refine gate_callee (f := 32) rfl ?_); refine goesL_ (some 47) rfl rfl Tryd.func32 (by kernel_rfl) rfl #[.slice A2 l2.length c2, .agg #[.int .i64 a0_0, .int .i64 a0_1, .int .i64 a0_2, .int .i64 a0_3, .int .i64 a0_4, .int .i64 a0_5, .int .i64 a0_6, .int .i64 a0_7]] rfl ma_ ?_; (with_reducible refine (impl_LastDay.calls kj4 _ _ l2 a0_0 a0_1 a0_2 a0_3 a0_4 a0_5 a0_6 a0_7 t528 _ ?side1 ?side2 A41.out).mono ?_); (case side1 => exact Kd.C_below HR2.out y168_); (case side2 => exact HC2.out); rintro e w54 ⟨rfl, hb⟩; refine ⟨_, rfl, ?_⟩; have n0_ := Aside0.mk (blk_below (g := gb520) (o := c159_ a0_0 a0_1 a0_2 a0_3 a0_4 a0_5 a0_6 a0_7) (by (with_reducible repeat (first | refine blk_drewN ?_ _ | refine blk_drew ?_ | refine blk_alloc ?_ _)); refine blk_far ?_ NB520_526.out _; (with_reducible repeat (first | refine blk_drewN ?_ _ | refine blk_drew ?_ | refine blk_alloc ?_ _)); refine blk_far ?_ NB520_526.out _; (with_reducible repeat (first | refine blk_drewN ?_ _ | refine blk_drew ?_ | refine blk_alloc ?_ _)); refine blk_far ?_ NB520_526.out _; (with_reducible repeat (first | refine blk_drewN ?_ _ | refine blk_drew ?_ | refine blk_alloc ?_ _)); exact BK520.out) hb); have n1_ := Aside0.mk (blk_below (g := gb521) (o := .cells #[.int .i64 0, .int .i64 0, .int .i64 0] 33 (0, 0)) (by (with_reducible repeat (first | refine blk_drewN ?_ _ | refine blk_drew ?_ | refine blk_alloc ?_ _)); refine blk_far ?_ NB521_526.out _; (with_reducible repeat (first | refine blk_drewN ?_ _ | refine blk_drew ?_ | refine blk_alloc ?_ _)); refine blk_far ?_ NB521_526.out _; (with_reducible repeat (first | refine blk_drewN ?_ _ | refine blk_drew ?_ | refine blk_alloc ?_ _)); refine blk_far ?_ NB521_526.out _; (with_reducible repeat (first | refine blk_drewN ?_ _ | refine blk_drew ?_ | refine blk_alloc ?_ _)); exact BK521.out) hb); have n2_ := Aside0.mk (blk_below (g := gb526) (o := .cells #[.int .i64 a0_0, .int .i64 t525, .int .i64 (wrap64 (Int.tdiv a3 24))] 33 (0, 0)) (by (with_reducible repeat (first | refine blk_drewN ?_ _ | refine blk_drew ?_ | refine blk_alloc ?_ _)); refine blk_put (cs := #[.int .i64 a0_0, .int .i64 t525, .int .i64 0]) ?_ 2 _ rfl; (with_reducible repeat (first | refine blk_drewN ?_ _ | refine blk_drew ?_ | refine blk_alloc ?_ _)); refine blk_put (cs := #[.int .i64 a0_0, .int .i64 0, .int .i64 0]) ?_ 1 _ rfl; (with_reducible repeat (first | refine blk_drewN ?_ _ | refine blk_drew ?_ | refine blk_alloc ?_ _)); refine blk_put (cs := #[.int .i64 0, .int .i64 0, .int .i64 0]) ?_ 0 _ rfl; (with_reducible repeat (first | refine blk_drewN ?_ _ | refine blk_drew ?_ | refine blk_alloc ?_ _)); exact BK526.out) hb); have n3_ := Aside0.mk (below_step y168_ hb); clear BK520; clear BK521; clear BK526; clear HB; have BK520 := n0_; have BK521 := n1_; have BK526 := n2_; have HB := n3_; clear n0_ n1_ n2_ n3_; (try clear hb); have hcz55_0 : w54.cell? ⟨gb526, 0, none⟩ = some (.int .i64 a0_0) := (blk_cell BK526.out 0).trans rfl; have hcz55_1 : w54.cell? ⟨gb526, 1, none⟩ = some (.int .i64 t525) := (blk_cell BK526.out 1).trans rfl; have hcz55_2 : w54.cell? ⟨gb526, 2, none⟩ = some (.int .i64 (wrap64 (Int.tdiv a3 24))) := (blk_cell BK526.out 2).trans rfl; obtain ⟨hfz55_0, hfz55_1, hfz55_2⟩ := z163_ BK526.out; obtain ⟨hcz56_0, hcz56_1, hcz56_2⟩ := e161_ BK521.out; obtain ⟨hfz56_0, hfz56_1, hfz56_2⟩ := z163_ BK521.out))
      refine bodyPost_ret (results_cell_row rfl _ _ gb521 33 #[.int .i64 a0_0, .int .i64 t525, .int .i64 t528] (0, 0) _ rfl (by (with_reducible repeat (first | refine blk_drewN ?_ _ | refine blk_drew ?_ | refine blk_alloc ?_ _)); refine blk_put (cs := #[.int .i64 a0_0, .int .i64 t525, .int .i64 0]) ?_ 2 _ rfl; (with_reducible repeat (first | refine blk_drewN ?_ _ | refine blk_drew ?_ | refine blk_alloc ?_ _)); refine blk_put (cs := #[.int .i64 a0_0, .int .i64 0, .int .i64 0]) ?_ 1 _ rfl; (with_reducible repeat (first | refine blk_drewN ?_ _ | refine blk_drew ?_ | refine blk_alloc ?_ _)); refine blk_put (cs := #[.int .i64 0, .int .i64 0, .int .i64 0]) ?_ 0 _ rfl; (with_reducible repeat (first | refine blk_drewN ?_ _ | refine blk_drew ?_ | refine blk_alloc ?_ _)); refine blk_far ?_ NB521_526.out _; (with_reducible repeat (first | refine blk_drewN ?_ _ | refine blk_drew ?_ | refine blk_alloc ?_ _)); exact BK521.out) Tryd.underlying33 rfl (by kernel_rfl)) rfl ?_
      exact ⟨rt_, y177_⟩
     ·
      rw [if_neg c40] at H
      have c40b0 : (t525 == 0) = false := beq_eq_false_iff_ne.mpr c40
      (try rw [c40b0])
      have c40b1 : (t525 != 0) = true := bne_iff_ne.mpr c40
      (try rw [c40b1])
      simp only [Option.some.injEq, Prod.mk.injEq] at H
      obtain ⟨rfl, rfl, rfl⟩ := H
      have hnb64 := NB526_520.out
      have hnc64 := NB520_526.out
      have hnb65 := NB526_521.out
      have hnc65 := NB521_526.out
      obtain ⟨hcz66_0, hcz66_1, hcz66_2⟩ := e161_ BK526.out
      obtain ⟨hfz66_0, hfz66_1, hfz66_2⟩ := z163_ BK526.out
      have hnb67 := NB521_520.out
      have hnc67 := NB520_521.out
      obtain ⟨hcz68_0, hcz68_1, hcz68_2⟩ := e161_ BK521.out
      obtain ⟨hfz68_0, hfz68_1, hfz68_2⟩ := z163_ BK521.out
      try go_wp2
      refine bodyPost_ret (results_cell_row rfl _ _ gb521 33 #[.int .i64 a0_0, .int .i64 t525, .int .i64 (wrap64 (Int.tdiv a3 24))] (0, 0) _ rfl (by (with_reducible repeat (first | refine blk_drewN ?_ _ | refine blk_drew ?_ | refine blk_alloc ?_ _)); refine blk_put (cs := #[.int .i64 a0_0, .int .i64 t525, .int .i64 0]) ?_ 2 _ rfl; (with_reducible repeat (first | refine blk_drewN ?_ _ | refine blk_drew ?_ | refine blk_alloc ?_ _)); refine blk_put (cs := #[.int .i64 a0_0, .int .i64 0, .int .i64 0]) ?_ 1 _ rfl; (with_reducible repeat (first | refine blk_drewN ?_ _ | refine blk_drew ?_ | refine blk_alloc ?_ _)); refine blk_put (cs := #[.int .i64 0, .int .i64 0, .int .i64 0]) ?_ 0 _ rfl; (with_reducible repeat (first | refine blk_drewN ?_ _ | refine blk_drew ?_ | refine blk_alloc ?_ _)); refine blk_far ?_ NB521_526.out _; (with_reducible repeat (first | refine blk_drewN ?_ _ | refine blk_drew ?_ | refine blk_alloc ?_ _)); refine blk_far ?_ NB521_526.out _; (with_reducible repeat (first | refine blk_drewN ?_ _ | refine blk_drew ?_ | refine blk_alloc ?_ _)); refine blk_far ?_ NB521_526.out _; (with_reducible repeat (first | refine blk_drewN ?_ _ | refine blk_drew ?_ | refine blk_alloc ?_ _)); exact BK521.out) Tryd.underlying33 rfl (by kernel_rfl)) rfl ?_
      exact ⟨rt_, y177_⟩

end Go.Proofs.YtnlgilmbmoiniaaDoor.PFnTasks
