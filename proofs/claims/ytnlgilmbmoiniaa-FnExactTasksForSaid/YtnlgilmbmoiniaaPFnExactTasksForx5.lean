-- Written for this claim by a program (a printer turned to this claim); Lean checks it.
import Derived.Test.YtnlgilmbmoiniaaPFnExactTasksForx0
import Derived.Test.YtnlgilmbmoiniaaPFnExactTasksForx2
import Derived.Test.YtnlgilmbmoiniaaPFnExactTasksForx4
namespace Go.Proofs.Ytnlgilmbmoiniaa.PFnExactTasksFor
open Go.RowKit Go.Proofs.YtnlgilmbmoiniaaW.PrintWords Go.Proofs.YtnlgilmbmoiniaaW.PrintLast Go.Proofs.YtnlgilmbmoiniaaW.PrintMore
attribute [local go_sem] max2_int min2_int max_two min_two max_three min_three max_four min_four   -- for this text's walks alone
set_option linter.unusedVariables false
set_option linter.unusedSimpArgs false

/-! ### spec_TaskOf: function 29 -/
def spec_TaskOf.j0 : Nat → List (S69) → List Bool → Int → Bool → Int → Int → Int → Int → Int → Int → Int → Int → Option (Int × Int × Int)
 | 0, _, _, _, _, _, _, _, _, _, _, _, _ => none
 | k + 1, x1, x2, x3, x22, x143000, x143001, x143002, x143003, x143004, x143005, x143006, x143007 => if x22 = true then (some (0, 0, 0)) else ((spec_FateOf.f k x143000 x143001 x143002 x143003 x143004 x143005 x143006 x143007 x1 x3).bind fun t147 => (if t147 = 1 then ((spec_NextOpen.f k x2 (wrap64 (Int.tdiv x3 24))).bind fun t149 => (some (x143000, t147, t149))) else (if t147 = 0 then ((spec_LastDay.f k x2 x143000 x143001 x143002 x143003 x143004 x143005 x143006 x143007).bind fun t150 => (some (x143000, t147, t150))) else (some (x143000, t147, wrap64 (Int.tdiv x3 24))))))
def spec_TaskOf.f (k : Nat) (a0_0 : Int) (a0_1 : Int) (a0_2 : Int) (a0_3 : Int) (a0_4 : Int) (a0_5 : Int) (a0_6 : Int) (a0_7 : Int) (l1 : List (S69)) (l2 : List Bool) (a3 : Int) : Option (Int × Int × Int) := (spec_IsFind.f a0_0 a0_1 a0_2 a0_3 a0_4 a0_5 a0_6 a0_7).bind fun t144 => (if t144 = true then ((spec_IsCalendar.f k l2).bind fun t145 => (if t145 = true then ((spec_l1In.f a3 0 100000).bind fun t146 => (spec_TaskOf.j0 k l1 l2 a3 (!t146) a0_0 a0_1 a0_2 a0_3 a0_4 a0_5 a0_6 a0_7)) else (spec_TaskOf.j0 k l1 l2 a3 true a0_0 a0_1 a0_2 a0_3 a0_4 a0_5 a0_6 a0_7))) else (spec_TaskOf.j0 k l1 l2 a3 true a0_0 a0_1 a0_2 a0_3 a0_4 a0_5 a0_6 a0_7))
theorem spec_TaskOf.mono_l : ∀ k, (∀ y0 y1 y2 y3 y4 y5 y6 y7 y8 y9 y10 y11, LeO (spec_TaskOf.j0 k y0 y1 y2 y3 y4 y5 y6 y7 y8 y9 y10 y11) (spec_TaskOf.j0 (k + 1) y0 y1 y2 y3 y4 y5 y6 y7 y8 y9 y10 y11))
 | 0 => fun _ _ _ _ _ _ _ _ _ _ _ _ r h => by simp [spec_TaskOf.j0] at h
 | k + 1 => by
  have ih0 := spec_TaskOf.mono_l k
  ·
   intro y0 y1 y2 y3 y4 y5 y6 y7 y8 y9 y10 y11
   unfold spec_TaskOf.j0
   have jh0 := @spec_FateOf.mono
   have jh1 := @spec_IsCalendar.mono
   have jh2 := @spec_LastDay.mono
   have jh3 := @spec_NextOpen.mono
   exact mo_
theorem spec_TaskOf.mono : ∀ a0 a1 a2 a3 a4 a5 a6 a7 a8 a9 a10 k, LeO (spec_TaskOf.f k a0 a1 a2 a3 a4 a5 a6 a7 a8 a9 a10) (spec_TaskOf.f (k + 1) a0 a1 a2 a3 a4 a5 a6 a7 a8 a9 a10) := by
 intro a0 a1 a2 a3 a4 a5 a6 a7 a8 a9 a10 k
 have ih0 := spec_TaskOf.mono_l k
 unfold spec_TaskOf.f
 have jh0 := @spec_FateOf.mono
 have jh1 := @spec_IsCalendar.mono
 have jh2 := @spec_LastDay.mono
 have jh3 := @spec_NextOpen.mono
 exact mo_
def spec_TaskOf.T3 : Bool × List (List Nat × List Nat) := (true, [([], []), ([0], [0]), ([1], [1]), ([], []), ([], []), ([], []), ([3, 4, 5], [3, 4, 5]), ([], []), ([7], [7]), ([2, 6, 8], [2, 6, 8]), ([], []), ([10, 9, 6, 0, 1, 2, 3, 4, 5, 6, 7, 8, 9, 10], [9, 10])])
def spec_TaskOf.B3 : List Nat := [0, 1, 3, 0, 0, 0, 56, 0, 128, 511, 0, 2047]
theorem spec_TaskOf.tab3 : rtab .any (opsOf Try.f29 3) = spec_TaskOf.T3 := by kernel_rfl
theorem spec_TaskOf.bits3 : waitsOk spec_TaskOf.T3.2 spec_TaskOf.B3 = true := by kernel_rfl
abbrev M1_0 := bm_ 12 0
abbrev M1_1 := bm_ 12 1
abbrev M1_2 := bm_ 12 3
abbrev M1_3 := bm_ 12 19
abbrev M1_4 := bm_ 12 51
abbrev M1_5 := bm_ 12 179
abbrev M1_6 := bm_ 12 435
abbrev M1_7 := bm_ 12 439
abbrev M1_8 := bm_ 12 447
abbrev M1_9 := bm_ 12 2047
abbrev M1_10 := bm_ 12 511
abbrev M1_11 := bm_ 12 1471
abbrev M1_12 := bm_ 12 1023
abbrev M1_13 := bm_ 12 1535
abbrev M1_14 := bm_ 12 4095
theorem P1_1 {α : Type} (l : List α) (i : Nat) (a : α) : l.toArray.setIfInBounds i a = (l.set i a).toArray := List.setIfInBounds_toArray l i a
theorem P1_2 {α : Type} (x : α) (l : List α) (a : α) : (x :: l).set 0 a = a :: l := List.set_cons_zero
theorem P1_3 {α : Type} (x : α) (l : List α) (n : Nat) (a : α) : (x :: l).set (n + 1) a = x :: l.set n a := List.set_cons_succ
abbrev c61_ (i0 : Int) (i1 : Int) (i2 : Int) (i3 : Int) (i4 : Int) (i5 : Int) (i6 : Int) (i7 : Int) : Obj := .cells #[.int .i64 i0, .int .i64 i1, .int .i64 i2, .int .i64 i3, .int .i64 i4, .int .i64 i5, .int .i64 i6, .int .i64 i7] 58 (0, 0)
theorem e62_ {w : World} {g : Nat} {t : TypeId} {i0 : Int} {i1 : Int} {i2 : Int} {i3 : Int} {i4 : Int} {i5 : Int} {i6 : Int} {i7 : Int} (h : w.heap[g]? = some (.cells #[.int .i64 i0, .int .i64 i1, .int .i64 i2, .int .i64 i3, .int .i64 i4, .int .i64 i5, .int .i64 i6, .int .i64 i7] t (0, 0))) : w.cell? ⟨g, 0, none⟩ = some (.int .i64 i0) ∧ w.cell? ⟨g, 1, none⟩ = some (.int .i64 i1) ∧ w.cell? ⟨g, 2, none⟩ = some (.int .i64 i2) ∧ w.cell? ⟨g, 3, none⟩ = some (.int .i64 i3) ∧ w.cell? ⟨g, 4, none⟩ = some (.int .i64 i4) ∧ w.cell? ⟨g, 5, none⟩ = some (.int .i64 i5) ∧ w.cell? ⟨g, 6, none⟩ = some (.int .i64 i6) ∧ w.cell? ⟨g, 7, none⟩ = some (.int .i64 i7) := ⟨(blk_cell h 0).trans rfl, (blk_cell h 1).trans rfl, (blk_cell h 2).trans rfl, (blk_cell h 3).trans rfl, (blk_cell h 4).trans rfl, (blk_cell h 5).trans rfl, (blk_cell h 6).trans rfl, (blk_cell h 7).trans rfl⟩
theorem e63_ {w : World} {g : Nat} {t : TypeId} {i0 : Int} {i1 : Int} {i2 : Int} (h : w.heap[g]? = some (.cells #[.int .i64 i0, .int .i64 i1, .int .i64 i2] t (0, 0))) : w.cell? ⟨g, 0, none⟩ = some (.int .i64 i0) ∧ w.cell? ⟨g, 1, none⟩ = some (.int .i64 i1) ∧ w.cell? ⟨g, 2, none⟩ = some (.int .i64 i2) := ⟨(blk_cell h 0).trans rfl, (blk_cell h 1).trans rfl, (blk_cell h 2).trans rfl⟩
theorem z64_ {w : World} {g : Nat} {t : TypeId} {cs : Array Value} (h : w.heap[g]? = some (.cells cs t (0, 0))) : w.frozen? ⟨g, 0, none⟩ = false ∧ w.frozen? ⟨g, 1, none⟩ = false ∧ w.frozen? ⟨g, 2, none⟩ = false ∧ w.frozen? ⟨g, 3, none⟩ = false ∧ w.frozen? ⟨g, 4, none⟩ = false ∧ w.frozen? ⟨g, 5, none⟩ = false ∧ w.frozen? ⟨g, 6, none⟩ = false ∧ w.frozen? ⟨g, 7, none⟩ = false := ⟨blk_frozen h 0, blk_frozen h 1, blk_frozen h 2, blk_frozen h 3, blk_frozen h 4, blk_frozen h 5, blk_frozen h 6, blk_frozen h 7⟩
theorem z65_ {w : World} {g : Nat} {t : TypeId} {cs : Array Value} (h : w.heap[g]? = some (.cells cs t (0, 0))) : w.frozen? ⟨g, 0, none⟩ = false ∧ w.frozen? ⟨g, 1, none⟩ = false ∧ w.frozen? ⟨g, 2, none⟩ = false := ⟨blk_frozen h 0, blk_frozen h 1, blk_frozen h 2⟩
theorem f66_ {W : World} {g : Nat} {a : Addr} {o0 o1 o2 : Nat} {u0 u1 u2 : Value} {v : Option Value} (e : W.cell? a = v) (h : a.block ≠ g) : World.cell? (World.setCell (World.setCell (World.setCell W ⟨g, o0, none⟩ u0) ⟨g, o1, none⟩ u1) ⟨g, o2, none⟩ u2) a = v := ((cell_far (p := ⟨g, o2, none⟩) h u2).trans ((cell_far (p := ⟨g, o1, none⟩) h u1).trans ((cell_far (p := ⟨g, o0, none⟩) h u0).trans e)))
theorem y67_ {P : Prop} (h : P := by repeat (first | (with_reducible first | exact HB.out | apply below_alloc | apply pw_below_drewN | apply below_drew1 | refine below_set ?_ GE142.out | refine below_set ?_ GE143.out) | exact HB.out)) : P := h
theorem y70_ {P : Prop} (h : P := by repeat (first | (with_reducible first | exact HB.out | apply below_alloc | apply pw_below_drewN | apply below_drew1 | refine below_set ?_ GE142.out | refine below_set ?_ GE143.out | refine below_set ?_ GE148.out) | exact HB.out)) : P := h
theorem y73_ {P : Prop} (h : P := by rw [hg]; exact Nat.ne_of_lt (blk_lt (bd_ BK142.out))) : P := h
theorem y74_ {P : Prop} (h : P := by rw [hg]; exact Nat.ne_of_gt (blk_lt (bd_ BK142.out))) : P := h
theorem y75_ {P : Prop} (h : P := by rw [hg]; exact Nat.ne_of_lt (blk_lt (bd_ BK143.out))) : P := h
theorem y76_ {P : Prop} (h : P := by rw [hg]; exact Nat.ne_of_gt (blk_lt (bd_ BK143.out))) : P := h
theorem y77_ {P : Prop} (h : P := by repeat (first | (with_reducible first | exact HB.out | apply below_alloc | apply pw_below_drewN | apply below_drew1 | refine below_set ?_ GE142.out | refine below_set ?_ GE143.out) | exact HB.out)) : P := h
theorem y78_ {P : Prop} (h : P := by simp only [putAll, Act.put, List.setIfInBounds_toArray, List.set_cons_zero, List.set_cons_succ]) : P := h
theorem y79_ {P : Prop} (h : P := by repeat (first | (with_reducible first | exact HB.out | apply below_alloc | apply pw_below_drewN | apply below_drew1 | refine below_set ?_ GE142.out | refine below_set ?_ GE143.out | refine below_set ?_ GE148.out) | exact HB.out)) : P := h
theorem y80_ {P : Prop} (h : P := by rw [hg]; exact (below_size y67_)) : P := h
theorem y81_ {P : Prop} (h : P := by repeat (first | (with_reducible first | exact HB.out | apply below_alloc | apply pw_below_drewN | apply below_drew1 | refine below_set ?_ GE142.out) | exact HB.out)) : P := h
set_option maxHeartbeats 8000000 in
set_option maxRecDepth 100000 in
theorem spec_TaskOf.calls (k : Nat) (a0_0 : Int) (a0_1 : Int) (a0_2 : Int) (a0_3 : Int) (a0_4 : Int) (a0_5 : Int) (a0_6 : Int) (a0_7 : Int) (A1 : Option Addr) (c1 : Nat) (l1 : List (S69)) (A2 : Option Addr) (c2 : Nat) (l2 : List Bool) (a3 : Int) (r1 : Int) (r2 : Int) (r3 : Int) (w : World) (hr1 : Kd.C k69 w A1 l1.length l1) (hc1 : l1.length ≤ c1) (hr2 : Kd.C Kd.bool w A2 l2.length l2) (hc2 : l2.length ≤ c2) (h : spec_TaskOf.f k a0_0 a0_1 a0_2 a0_3 a0_4 a0_5 a0_6 a0_7 l1 l2 a3 = some (r1, r2, r3)) :
  Calls Try.prog 29 #[.agg #[.int .i64 a0_0, .int .i64 a0_1, .int .i64 a0_2, .int .i64 a0_3, .int .i64 a0_4, .int .i64 a0_5, .int .i64 a0_6, .int .i64 a0_7], .slice A1 l1.length c1, .slice A2 l2.length c2, .int .i64 a3] w fun e w' => e = .returned (.agg #[.int .i64 r1, .int .i64 r2, .int .i64 r3]) ∧ Below w.heap.size w w' := by
 have hu58 := Try.underlying58
 have hu54 := Try.underlying54
 have HR1 := Aside0.mk hr1
 have HC1 := Aside0.mk hc1
 clear hr1 hc1
 have HR2 := Aside0.mk hr2
 have HC2 := Aside0.mk hc2
 clear hr2 hc2
 have HB := Aside0.mk (Below.refl w.heap.size w)
 have H : ((spec_IsFind.f a0_0 a0_1 a0_2 a0_3 a0_4 a0_5 a0_6 a0_7).bind fun t144 => (if t144 = true then ((spec_IsCalendar.f k l2).bind fun t145 => (if t145 = true then ((spec_l1In.f a3 0 100000).bind fun t146 => (spec_TaskOf.j0 k l1 l2 a3 (!t146) a0_0 a0_1 a0_2 a0_3 a0_4 a0_5 a0_6 a0_7)) else (spec_TaskOf.j0 k l1 l2 a3 true a0_0 a0_1 a0_2 a0_3 a0_4 a0_5 a0_6 a0_7))) else (spec_TaskOf.j0 k l1 l2 a3 true a0_0 a0_1 a0_2 a0_3 a0_4 a0_5 a0_6 a0_7))) = some (r1, r2, r3) := h
 clear h
 have HC5 := Aside0.mk H
 clear H
 go_enter Try.func29, Try.ntmps29
 go_upto_region 1 with (first | (refine bx_ 4 #[.int .i64 a0_0, .int .i64 a0_1, .int .i64 a0_2, .int .i64 a0_3, .int .i64 a0_4, .int .i64 a0_5, .int .i64 a0_6, .int .i64 a0_7] 58 ?_; intro gb142 hg w6 hbox hb; have n0_ := Aside0.mk (below_step (hd_ HB.out) hb); have BK142 := Aside0.mk (hbox); have GW142 := Aside0.mk ((by rw [hg]; exact (below_size (hd_ HB.out)) : w.heap.size ≤ gb142)); have GE142 := GW142; clear HB; have HB := n0_; clear n0_; clear hb hbox hg) | (refine bx_ 8 #[.int .i64 0, .int .i64 0, .int .i64 0] 54 ?_; intro gb143 hg w7 hbox hb; have n0_ := Aside0.mk (blk_below (bd_ BK142.out) hb); have n1_ := Aside0.mk (below_step y81_ hb); have BK143 := Aside0.mk (hbox); have GW143 := Aside0.mk ((by rw [hg]; exact (below_size y81_) : w.heap.size ≤ gb143)); have GE143 := GW143; have NB142_143 := Aside0.mk ((y73_ : gb142 ≠ gb143)); have NB143_142 := Aside0.mk ((y74_ : gb143 ≠ gb142)); clear BK142; clear HB; have BK142 := n0_; have HB := n1_; clear n0_ n1_; clear hb hbox hg))
 (try simp only [Act.put, List.setIfInBounds_toArray, List.set_cons_zero, List.set_cons_succ])
 go_cut [22] (fun v22 wc => ∃ (kq : Nat) (x22_4 : Bool), v22 = .bool x22_4 ∧ Aside0 (spec_TaskOf.j0 kq l1 l2 a3 x22_4 a0_0 a0_1 a0_2 a0_3 a0_4 a0_5 a0_6 a0_7 = some (r1, r2, r3)) ∧ Aside0 (kq ≤ k) ∧ Aside0 (wc.heap[gb142]? = some (c61_ a0_0 a0_1 a0_2 a0_3 a0_4 a0_5 a0_6 a0_7)) ∧ Aside0 (wc.heap[gb143]? = some (.cells #[.int .i64 0, .int .i64 0, .int .i64 0] 54 (0, 0))) ∧ Aside0 (Below w.heap.size w wc))
 case first =>
  have H := HC5.out
  clear HC5
  replace H := Option.bind_eq_some_iff.mp H
  obtain ⟨t144, A80, H⟩ := H
  replace H : (if t144 = true then ((spec_IsCalendar.f k l2).bind fun t145 => (if t145 = true then ((spec_l1In.f a3 0 100000).bind fun t146 => (spec_TaskOf.j0 k l1 l2 a3 (!t146) a0_0 a0_1 a0_2 a0_3 a0_4 a0_5 a0_6 a0_7)) else (spec_TaskOf.j0 k l1 l2 a3 true a0_0 a0_1 a0_2 a0_3 a0_4 a0_5 a0_6 a0_7))) else (spec_TaskOf.j0 k l1 l2 a3 true a0_0 a0_1 a0_2 a0_3 a0_4 a0_5 a0_6 a0_7)) = some (r1, r2, r3) := H
  have A8 := Aside0.mk A80
  clear A80
  by_cases c9 : t144 = true
  ·
   subst c9
   have H1 : ((spec_IsCalendar.f k l2).bind fun t145 => (if t145 = true then ((spec_l1In.f a3 0 100000).bind fun t146 => (spec_TaskOf.j0 k l1 l2 a3 (!t146) a0_0 a0_1 a0_2 a0_3 a0_4 a0_5 a0_6 a0_7)) else (spec_TaskOf.j0 k l1 l2 a3 true a0_0 a0_1 a0_2 a0_3 a0_4 a0_5 a0_6 a0_7))) = some (r1, r2, r3) := by rw [if_pos rfl] at H; exact H
   clear H
   have H := H1
   clear H1
   replace H := Option.bind_eq_some_iff.mp H
   obtain ⟨t145, A100, H⟩ := H
   replace H : (if t145 = true then ((spec_l1In.f a3 0 100000).bind fun t146 => (spec_TaskOf.j0 k l1 l2 a3 (!t146) a0_0 a0_1 a0_2 a0_3 a0_4 a0_5 a0_6 a0_7)) else (spec_TaskOf.j0 k l1 l2 a3 true a0_0 a0_1 a0_2 a0_3 a0_4 a0_5 a0_6 a0_7)) = some (r1, r2, r3) := H
   have A10 := Aside0.mk A100
   clear A100
   by_cases c11 : t145 = true
   ·
    subst c11
    have H1 : ((spec_l1In.f a3 0 100000).bind fun t146 => (spec_TaskOf.j0 k l1 l2 a3 (!t146) a0_0 a0_1 a0_2 a0_3 a0_4 a0_5 a0_6 a0_7)) = some (r1, r2, r3) := by rw [if_pos rfl] at H; exact H
    clear H
    have H := H1
    clear H1
    replace H := Option.bind_eq_some_iff.mp H
    obtain ⟨t146, A120, H⟩ := H
    replace H : (spec_TaskOf.j0 k l1 l2 a3 (!t146) a0_0 a0_1 a0_2 a0_3 a0_4 a0_5 a0_6 a0_7) = some (r1, r2, r3) := H
    have A12 := Aside0.mk A120
    clear A120
    have H' := Aside0.mk H
    clear H
    have hnb13 := NB142_143.out
    have hnc13 := NB143_142.out
    obtain ⟨hcz14_0, hcz14_1, hcz14_2, hcz14_3, hcz14_4, hcz14_5, hcz14_6, hcz14_7⟩ := e62_ BK142.out
    obtain ⟨hfz14_0, hfz14_1, hfz14_2, hfz14_3, hfz14_4, hfz14_5, hfz14_6, hfz14_7⟩ := z64_ BK142.out
    go_wp2_with (first | ((with_reducible refine gate_callee (f := 49) rfl ?_); refine goesL_ (some 11) rfl rfl Try.func49 (by kernel_rfl) rfl #[.agg #[.int .i64 a0_0, .int .i64 a0_1, .int .i64 a0_2, .int .i64 a0_3, .int .i64 a0_4, .int .i64 a0_5, .int .i64 a0_6, .int .i64 a0_7]] rfl ma_ ?_; (with_reducible refine (spec_IsFind.calls a0_0 a0_1 a0_2 a0_3 a0_4 a0_5 a0_6 a0_7 true _ A8.out).mono ?_); rintro e w15 ⟨rfl, hb⟩; refine ⟨_, rfl, ?_⟩; have n0_ := Aside0.mk (blk_below (bd_ BK142.out) hb); have n1_ := Aside0.mk (blk_below (bd_ BK143.out) hb); have n2_ := Aside0.mk (below_step y67_ hb); clear BK142; clear BK143; clear HB; have BK142 := n0_; have BK143 := n1_; have HB := n2_; clear n0_ n1_ n2_; (try clear hb)) | (go_at_call 36; (with_reducible refine (spec_IsCalendar.calls k _ _ l2 true _ ?side1 ?side2 A10.out).mono ?_); (case side1 => exact cd_ (Kd.C_below HR2.out HB.out)); (case side2 => exact HC2.out); rintro e w' ⟨rfl, ⟨nd, rfl⟩⟩) | (go_at_call 37; (with_reducible refine (spec_l1In.calls a3 0 100000 t146 _ A12.out).mono ?_); rintro e w' ⟨rfl, ⟨nd, rfl⟩⟩))
    go_meet
    case rel => exact ⟨_, (!t146), rs_, H', ⟨by first | omega | exact Nat.le_refl _⟩, ⟨bd_ BK142.out⟩, ⟨bd_ BK143.out⟩, ⟨y77_⟩⟩
   ·
    replace c11 := Bool.eq_false_iff.mpr c11
    subst c11
    have H1 : (spec_TaskOf.j0 k l1 l2 a3 true a0_0 a0_1 a0_2 a0_3 a0_4 a0_5 a0_6 a0_7) = some (r1, r2, r3) := by rw [if_neg (show ¬ (false = true) by decide)] at H; exact H
    clear H
    have H := H1
    clear H1
    have H' := Aside0.mk H
    clear H
    have hnb16 := NB142_143.out
    have hnc16 := NB143_142.out
    obtain ⟨hcz17_0, hcz17_1, hcz17_2, hcz17_3, hcz17_4, hcz17_5, hcz17_6, hcz17_7⟩ := e62_ BK142.out
    obtain ⟨hfz17_0, hfz17_1, hfz17_2, hfz17_3, hfz17_4, hfz17_5, hfz17_6, hfz17_7⟩ := z64_ BK142.out
    go_wp2_with (first | ((with_reducible refine gate_callee (f := 49) rfl ?_); refine goesL_ (some 11) rfl rfl Try.func49 (by kernel_rfl) rfl #[.agg #[.int .i64 a0_0, .int .i64 a0_1, .int .i64 a0_2, .int .i64 a0_3, .int .i64 a0_4, .int .i64 a0_5, .int .i64 a0_6, .int .i64 a0_7]] rfl ma_ ?_; (with_reducible refine (spec_IsFind.calls a0_0 a0_1 a0_2 a0_3 a0_4 a0_5 a0_6 a0_7 true _ A8.out).mono ?_); rintro e w18 ⟨rfl, hb⟩; refine ⟨_, rfl, ?_⟩; have n0_ := Aside0.mk (blk_below (bd_ BK142.out) hb); have n1_ := Aside0.mk (blk_below (bd_ BK143.out) hb); have n2_ := Aside0.mk (below_step y67_ hb); clear BK142; clear BK143; clear HB; have BK142 := n0_; have BK143 := n1_; have HB := n2_; clear n0_ n1_ n2_; (try clear hb)) | (go_at_call 36; (with_reducible refine (spec_IsCalendar.calls k _ _ l2 false _ ?side1 ?side2 A10.out).mono ?_); (case side1 => exact cd_ (Kd.C_below HR2.out HB.out)); (case side2 => exact HC2.out); rintro e w' ⟨rfl, ⟨nd, rfl⟩⟩))
    go_meet
    case rel => exact ⟨_, (true), rs_, H', ⟨by first | omega | exact Nat.le_refl _⟩, ⟨bd_ BK142.out⟩, ⟨bd_ BK143.out⟩, ⟨y77_⟩⟩
  ·
   replace c9 := Bool.eq_false_iff.mpr c9
   subst c9
   have H1 : (spec_TaskOf.j0 k l1 l2 a3 true a0_0 a0_1 a0_2 a0_3 a0_4 a0_5 a0_6 a0_7) = some (r1, r2, r3) := by rw [if_neg (show ¬ (false = true) by decide)] at H; exact H
   clear H
   have H := H1
   clear H1
   have H' := Aside0.mk H
   clear H
   have hnb19 := NB142_143.out
   have hnc19 := NB143_142.out
   obtain ⟨hcz20_0, hcz20_1, hcz20_2, hcz20_3, hcz20_4, hcz20_5, hcz20_6, hcz20_7⟩ := e62_ BK142.out
   obtain ⟨hfz20_0, hfz20_1, hfz20_2, hfz20_3, hfz20_4, hfz20_5, hfz20_6, hfz20_7⟩ := z64_ BK142.out
   go_wp2_with (first | ((with_reducible refine gate_callee (f := 49) rfl ?_); refine goesL_ (some 11) rfl rfl Try.func49 (by kernel_rfl) rfl #[.agg #[.int .i64 a0_0, .int .i64 a0_1, .int .i64 a0_2, .int .i64 a0_3, .int .i64 a0_4, .int .i64 a0_5, .int .i64 a0_6, .int .i64 a0_7]] rfl ma_ ?_; (with_reducible refine (spec_IsFind.calls a0_0 a0_1 a0_2 a0_3 a0_4 a0_5 a0_6 a0_7 false _ A8.out).mono ?_); rintro e w21 ⟨rfl, hb⟩; refine ⟨_, rfl, ?_⟩; have n0_ := Aside0.mk (blk_below (bd_ BK142.out) hb); have n1_ := Aside0.mk (blk_below (bd_ BK143.out) hb); have n2_ := Aside0.mk (below_step y67_ hb); clear BK142; clear BK143; clear HB; have BK142 := n0_; have BK143 := n1_; have HB := n2_; clear n0_ n1_ n2_; (try clear hb)))
   go_meet
   case rel => exact ⟨_, (true), rs_, H', ⟨by first | omega | exact Nat.le_refl _⟩, ⟨bd_ BK142.out⟩, ⟨bd_ BK143.out⟩, ⟨y77_⟩⟩
 case rest =>
  clear HC5
  try clear c1
  try clear c2
  try clear p2
  try clear c4
  try clear c9
  try clear c11
  try clear c13
  try clear c16
  try clear c19
  obtain ⟨kq, x22_4, rfl, HA, HJ4, BK142, BK143, HB⟩ := hcut
  cases kq with
  | zero => exact absurd HA.out (by simp [spec_TaskOf.j0])
  | succ kj4 =>
   have H := HA.out
   clear HA
   simp only [spec_TaskOf.j0] at H
   by_cases c22 : x22_4 = true
   ·
    subst c22
    have H1 : (some (0, 0, 0)) = some (r1, r2, r3) := by rw [if_pos rfl] at H; exact H
    clear H
    have H := H1
    clear H1
    simp only [Option.some.injEq, Prod.mk.injEq] at H
    obtain ⟨rfl, rfl, rfl⟩ := H
    have hnb23 := NB143_142.out
    have hnc23 := NB142_143.out
    obtain ⟨hcz24_0, hcz24_1, hcz24_2⟩ := e63_ BK143.out
    obtain ⟨hfz24_0, hfz24_1, hfz24_2⟩ := z65_ BK143.out
    go_wp2
    refine bodyPost_ret (results_cell_row rfl _ _ gb143 54 #[.int .i64 0, .int .i64 0, .int .i64 0] (0, 0) _ rfl (by (with_reducible repeat (first | refine blk_drewN ?_ _ | refine blk_drew ?_ | refine blk_alloc ?_ _)); refine blk_put (cs := #[.int .i64 0, .int .i64 0, .int .i64 0]) ?_ 2 _ rfl; (with_reducible repeat (first | refine blk_drewN ?_ _ | refine blk_drew ?_ | refine blk_alloc ?_ _)); refine blk_put (cs := #[.int .i64 0, .int .i64 0, .int .i64 0]) ?_ 1 _ rfl; (with_reducible repeat (first | refine blk_drewN ?_ _ | refine blk_drew ?_ | refine blk_alloc ?_ _)); refine blk_put (cs := #[.int .i64 0, .int .i64 0, .int .i64 0]) ?_ 0 _ rfl; (with_reducible repeat (first | refine blk_drewN ?_ _ | refine blk_drew ?_ | refine blk_alloc ?_ _)); exact BK143.out) Try.underlying54 rfl (by kernel_rfl)) rfl ?_
    exact ⟨rt_, y77_⟩
   ·
    replace c22 := Bool.eq_false_iff.mpr c22
    subst c22
    have H1 : ((spec_FateOf.f kj4 a0_0 a0_1 a0_2 a0_3 a0_4 a0_5 a0_6 a0_7 l1 a3).bind fun t147 => (if t147 = 1 then ((spec_NextOpen.f kj4 l2 (wrap64 (Int.tdiv a3 24))).bind fun t149 => (some (a0_0, t147, t149))) else (if t147 = 0 then ((spec_LastDay.f kj4 l2 a0_0 a0_1 a0_2 a0_3 a0_4 a0_5 a0_6 a0_7).bind fun t150 => (some (a0_0, t147, t150))) else (some (a0_0, t147, wrap64 (Int.tdiv a3 24)))))) = some (r1, r2, r3) := by rw [if_neg (show ¬ (false = true) by decide)] at H; exact H
    clear H
    have H := H1
    clear H1
    replace H := Option.bind_eq_some_iff.mp H
    obtain ⟨t147, A250, H⟩ := H
    replace H : (if t147 = 1 then ((spec_NextOpen.f kj4 l2 (wrap64 (Int.tdiv a3 24))).bind fun t149 => (some (a0_0, t147, t149))) else (if t147 = 0 then ((spec_LastDay.f kj4 l2 a0_0 a0_1 a0_2 a0_3 a0_4 a0_5 a0_6 a0_7).bind fun t150 => (some (a0_0, t147, t150))) else (some (a0_0, t147, wrap64 (Int.tdiv a3 24))))) = some (r1, r2, r3) := H
    have A25 := Aside0.mk A250
    clear A250
    by_cases c26 : t147 = 1
    ·
     rw [if_pos c26] at H
     have c26b0 : (t147 == 1) = true := beq_iff_eq.mpr c26
     have c26b1 : (t147 != 1) = false := bne_eq_false_iff_eq.mpr c26
     clear c26
     replace H := Option.bind_eq_some_iff.mp H
     obtain ⟨t149, A270, H⟩ := H
     replace H : (some (a0_0, t147, t149)) = some (r1, r2, r3) := H
     have A27 := Aside0.mk A270
     clear A270
     simp only [Option.some.injEq, Prod.mk.injEq] at H
     obtain ⟨rfl, rfl, rfl⟩ := H
     try go_wp2
     have n0_ := Aside0.mk (blk_drew BK142.out)
     have n1_ := Aside0.mk (blk_drew BK143.out)
     have n2_ := Aside0.mk (below_drew1 HB.out)
     clear BK142
     clear BK143
     clear HB
     have BK142 := n0_
     have BK143 := n1_
     have HB := n2_
     clear n0_ n1_ n2_
     refine start_ (n := 12) (S := fun w' => q2e_ w' gb142 a0_0 a0_1 a0_2 a0_3 a0_4 a0_5 a0_6 a0_7) (ds := []) M1_0 (by kernel_rfl) rfl rfl (k2e_ BK142.out) (fun hHeld => ?_); refine with_tabW spec_TaskOf.tab3 spec_TaskOf.bits3 (fun HT_ HW_ => ?_)
     generalize wc.drew = w28 at BK142 BK143 HB hHeld ⊢
     refine pu_ 0 (some 24) M1_1 HT_ ?_
     refine pu_ 1 (some 25) M1_2 HT_ ?_
     refine pu_ 4 (some 28) M1_3 HT_ ?_
     refine pu_ 5 (some 29) M1_4 HT_ ?_
     refine pu_ 7 (some 31) M1_5 HT_ ?_
     refine pu_ 8 (some 32) M1_6 HT_ ?_
     refine tk_ 2 (some 26) M1_7 HT_ HW_ hHeld ?_
     refine tk_ 3 (some 27) M1_8 HT_ HW_ hHeld ?_
     refine join_ (σ := Nat) 1 M1_9 (fun s_ => [(30, .int .i64 t147), (9, .pointer (some ⟨s_, 0, none⟩)), (33, .agg #[.int .i64 a0_0, .int .i64 t147, .int .i64 (wrap64 (Int.tdiv a3 24))])]) (fun s_ w' => (q2e_ w' gb142 a0_0 a0_1 a0_2 a0_3 a0_4 a0_5 a0_6 a0_7) ∧ (w'.heap[gb142]? = some (c61_ a0_0 a0_1 a0_2 a0_3 a0_4 a0_5 a0_6 a0_7)) ∧ (w'.heap[gb143]? = some (.cells #[.int .i64 0, .int .i64 0, .int .i64 0] 54 (0, 0))) ∧ (w'.heap[s_]? = some (.cells #[.int .i64 0, .int .i64 0, .int .i64 0] 54 (0, 0))) ∧ (w.heap.size ≤ s_) ∧ (w.heap.size ≤ s_) ∧ (gb142 ≠ s_) ∧ (s_ ≠ gb142) ∧ (gb143 ≠ s_) ∧ (s_ ≠ gb143) ∧ (Below w.heap.size w w')) ?_ ?_
     rotate_left
     ·
      intro hCont
      refine two_ (i := 6) (j := 10) (Ni := some 30) (Nj := some 9) M1_10 M1_11 rfl rfl rfl rfl (two_of HT_.out (by kernel_rfl)) (by decide) (by decide) (fun K hK => ?_) (fun K hK => ?_)
      ·
       skip
       refine goes_ Try.func50 (by kernel_rfl) rfl #[.agg #[.int .i64 a0_0, .int .i64 a0_1, .int .i64 a0_2, .int .i64 a0_3, .int .i64 a0_4, .int .i64 a0_5, .int .i64 a0_6, .int .i64 a0_7], .slice A1 l1.length c1, .int .i64 a3] (by rfl) rfl rfl ma_ ?_
       with_reducible refine (spec_FateOf.calls kj4 a0_0 a0_1 a0_2 a0_3 a0_4 a0_5 a0_6 a0_7 _ _ l1 a3 t147 _ ?side1 ?side2 A25.out).mono ?_
       (case side1 => exact cd_ (Kd.C_below HR1.out HB.out))
       (case side2 => exact HC1.out)
       rintro e w29 ⟨rfl, hb⟩
       refine ⟨_, rfl, ?_⟩
       have n0_ := Aside0.mk (blk_below (bd_ BK142.out) hb)
       have n1_ := Aside0.mk (blk_below (bd_ BK143.out) hb)
       have n2_ := Aside0.mk (below_step y67_ hb)
       clear BK142
       clear BK143
       clear HB
       have BK142 := n0_
       have BK143 := n1_
       have HB := n2_
       clear n0_ n1_ n2_
       (try clear hb)
       (try clear hb2)
       (try clear hk)
       (try clear hi)
       refine hK.out _ _ (k2e_ BK142.out) (fun hHeld => ?_)
       clear hK K
       refine norm_ (a' := ?_) ?_ ?_
       rotate_left
       ·
        show Act.put _ (some 30) _ = _
        simp only [Act.put, P1_1, P1_2, P1_3, i64_w, i32_w]
        rfl
       refine pu_ 9 (some 33) M1_12 HT_ ?_
       refine one_ (i := 10) (N := some 9) M1_9 rfl rfl (one_of HT_.out (by kernel_rfl)) (by decide) (fun K hK => ?_)
       refine box_step ?hg (N := 9) ?hd (cs := #[.int .i64 0, .int .i64 0, .int .i64 0]) (t := 54) ?hr ?_; (case hd => rfl); (case hg => rfl); (case hr => first | (go_simp; done) | (go_simp; rfl))
       intro gb148 hg w30 hbox hb
       have n0_ := Aside0.mk (blk_below (bd_ BK142.out) hb)
       have n1_ := Aside0.mk (blk_below (bd_ BK143.out) hb)
       have n2_ := Aside0.mk (below_step y67_ hb)
       have BK148 := Aside0.mk (hbox)
       have GW148 := Aside0.mk ((y80_ : w.heap.size ≤ gb148))
       have GE148 := Aside0.mk ((y80_ : w.heap.size ≤ gb148))
       have NB142_148 := Aside0.mk ((y73_ : gb142 ≠ gb148))
       have NB148_142 := Aside0.mk ((y74_ : gb148 ≠ gb142))
       have NB143_148 := Aside0.mk ((y75_ : gb143 ≠ gb148))
       have NB148_143 := Aside0.mk ((y76_ : gb148 ≠ gb143))
       clear BK142
       clear BK143
       clear HB
       have BK142 := n0_
       have BK143 := n1_
       have HB := n2_
       clear n0_ n1_ n2_
       clear hb hbox hg
       refine hK.out _ _ (k2e_ BK142.out) (fun hHeld => ?_)
       clear hK K
       refine norm_ (a' := ?_) ?_ ?_
       rotate_left
       ·
        show Act.put _ (some 9) _ = _
        simp only [Act.put, P1_1, P1_2, P1_3, i64_w, i32_w]
        rfl
       exact norm_ y78_ (hCont (gb148) _ ⟨hHeld, bd_ BK142.out, bd_ BK143.out, bd_ BK148.out, GW148.out, GE148.out, NB142_148.out, NB148_142.out, NB143_148.out, NB148_143.out, y70_⟩)
      ·
       skip
       refine box_step ?hg (N := 9) ?hd (cs := #[.int .i64 0, .int .i64 0, .int .i64 0]) (t := 54) ?hr ?_; (case hd => rfl); (case hg => rfl); (case hr => first | (go_simp; done) | (go_simp; rfl))
       intro gb148 hg w29 hbox hb
       have n0_ := Aside0.mk (blk_below (bd_ BK142.out) hb)
       have n1_ := Aside0.mk (blk_below (bd_ BK143.out) hb)
       have n2_ := Aside0.mk (below_step y67_ hb)
       have BK148 := Aside0.mk (hbox)
       have GW148 := Aside0.mk ((y80_ : w.heap.size ≤ gb148))
       have GE148 := Aside0.mk ((y80_ : w.heap.size ≤ gb148))
       have NB142_148 := Aside0.mk ((y73_ : gb142 ≠ gb148))
       have NB148_142 := Aside0.mk ((y74_ : gb148 ≠ gb142))
       have NB143_148 := Aside0.mk ((y75_ : gb143 ≠ gb148))
       have NB148_143 := Aside0.mk ((y76_ : gb148 ≠ gb143))
       clear BK142
       clear BK143
       clear HB
       have BK142 := n0_
       have BK143 := n1_
       have HB := n2_
       clear n0_ n1_ n2_
       clear hb hbox hg
       refine hK.out _ _ (k2e_ BK142.out) (fun hHeld => ?_)
       clear hK K
       refine norm_ (a' := ?_) ?_ ?_
       rotate_left
       ·
        show Act.put _ (some 9) _ = _
        simp only [Act.put, P1_1, P1_2, P1_3, i64_w, i32_w]
        rfl
       refine one_ (i := 6) (N := some 30) M1_13 rfl rfl (one_of HT_.out (by kernel_rfl)) (by decide) (fun K hK => ?_)
       refine goes_ Try.func50 (by kernel_rfl) rfl #[.agg #[.int .i64 a0_0, .int .i64 a0_1, .int .i64 a0_2, .int .i64 a0_3, .int .i64 a0_4, .int .i64 a0_5, .int .i64 a0_6, .int .i64 a0_7], .slice A1 l1.length c1, .int .i64 a3] (by rfl) rfl rfl ma_ ?_
       with_reducible refine (spec_FateOf.calls kj4 a0_0 a0_1 a0_2 a0_3 a0_4 a0_5 a0_6 a0_7 _ _ l1 a3 t147 _ ?side1 ?side2 A25.out).mono ?_
       (case side1 => exact cd_ (Kd.C_below HR1.out HB.out))
       (case side2 => exact HC1.out)
       rintro e w30 ⟨rfl, hb⟩
       refine ⟨_, rfl, ?_⟩
       have n0_ := Aside0.mk (blk_below (bd_ BK142.out) hb)
       have n1_ := Aside0.mk (blk_below (bd_ BK143.out) hb)
       have n2_ := Aside0.mk (blk_below (bd_ BK148.out) hb)
       have n3_ := Aside0.mk (below_step y70_ hb)
       clear BK142
       clear BK143
       clear BK148
       clear HB
       have BK142 := n0_
       have BK143 := n1_
       have BK148 := n2_
       have HB := n3_
       clear n0_ n1_ n2_ n3_
       (try clear hb)
       (try clear hb2)
       (try clear hk)
       (try clear hi)
       refine hK.out _ _ (k2e_ BK142.out) (fun hHeld => ?_)
       clear hK K
       refine norm_ (a' := ?_) ?_ ?_
       rotate_left
       ·
        show Act.put _ (some 30) _ = _
        simp only [Act.put, P1_1, P1_2, P1_3, i64_w, i32_w]
        rfl
       refine pu_ 9 (some 33) M1_9 HT_ ?_
       exact norm_ y78_ (hCont (gb148) _ ⟨hHeld, bd_ BK142.out, bd_ BK143.out, bd_ BK148.out, GW148.out, GE148.out, NB142_148.out, NB148_142.out, NB143_148.out, NB148_143.out, y70_⟩)
     rintro gb148 w31 ⟨hS_, h0_, h1_, h2_, h3_, h4_, h5_, h6_, h7_, h8_, h9_⟩
     have n0_ : Aside0 (w31.heap[gb142]? = some (c61_ a0_0 a0_1 a0_2 a0_3 a0_4 a0_5 a0_6 a0_7)) := ⟨h0_⟩
     have n1_ : Aside0 (w31.heap[gb143]? = some (.cells #[.int .i64 0, .int .i64 0, .int .i64 0] 54 (0, 0))) := ⟨h1_⟩
     have BK148 : Aside0 (w31.heap[gb148]? = some (.cells #[.int .i64 0, .int .i64 0, .int .i64 0] 54 (0, 0))) := ⟨h2_⟩
     have GW148 : Aside0 (w.heap.size ≤ gb148) := ⟨h3_⟩
     have GE148 : Aside0 (w.heap.size ≤ gb148) := ⟨h4_⟩
     have NB142_148 : Aside0 (gb142 ≠ gb148) := ⟨h5_⟩
     have NB148_142 : Aside0 (gb148 ≠ gb142) := ⟨h6_⟩
     have NB143_148 : Aside0 (gb143 ≠ gb148) := ⟨h7_⟩
     have NB148_143 : Aside0 (gb148 ≠ gb143) := ⟨h8_⟩
     have n9_ : Aside0 (Below w.heap.size w w31) := ⟨h9_⟩
     clear BK142
     clear BK143
     clear HB
     clear h0_ h1_ h2_ h3_ h4_ h5_ h6_ h7_ h8_ h9_
     have BK142 := n0_
     have BK143 := n1_
     have HB := n9_
     clear n0_ n1_ n9_
     have hHeld : q2e_ w31 gb142 a0_0 a0_1 a0_2 a0_3 a0_4 a0_5 a0_6 a0_7 := hS_
     refine norm_ (a' := ?_) ?_ ?_
     rotate_left
     ·
      simp only [putAll, Act.put, List.setIfInBounds_toArray, List.set_cons_zero, List.set_cons_succ]
      rfl
     refine one_ (i := 11) (N := none) M1_14 rfl rfl (one_of HT_.out (by kernel_rfl)) (by decide) (fun K hK => ?_)
     have hs32 : w31.cell? ⟨gb148, 0, none⟩ = some (.int .i64 0) := (blk_cell BK148.out 0).trans rfl
     have hfs32 := blk_frozen BK148.out 0
     have hns32_0 := NB142_148.out
     have hns32_1 := NB143_148.out
     have hms32_0 := NB148_142.out
     have hms32_1 := NB148_143.out
     have hs33 : w31.cell? ⟨gb148, 1, none⟩ = some (.int .i64 0) := (blk_cell BK148.out 1).trans rfl
     have hfs33 := blk_frozen BK148.out 1
     have hns33_0 := NB142_148.out
     have hns33_1 := NB143_148.out
     have hms33_0 := NB148_142.out
     have hms33_1 := NB148_143.out
     have hs34 : w31.cell? ⟨gb148, 2, none⟩ = some (.int .i64 0) := (blk_cell BK148.out 2).trans rfl
     have hfs34 := blk_frozen BK148.out 2
     have hns34_0 := NB142_148.out
     have hns34_1 := NB143_148.out
     have hms34_0 := NB148_142.out
     have hms34_1 := NB148_143.out
     refine skip_ (w1 := ?_) (by rfl) rfl ?_ ?_
     rotate_left
     ·
      go_simp
      rfl
     refine hK.out _ _ ⟨(f66_ hHeld.1 NB142_148.out), (f66_ hHeld.2.1 NB142_148.out), (f66_ hHeld.2.2.1 NB142_148.out), (f66_ hHeld.2.2.2.1 NB142_148.out), (f66_ hHeld.2.2.2.2.1 NB142_148.out), (f66_ hHeld.2.2.2.2.2.1 NB142_148.out), (f66_ hHeld.2.2.2.2.2.2.1 NB142_148.out), (f66_ hHeld.2.2.2.2.2.2.2 NB142_148.out)⟩ (fun hHeld => ?_)
     clear hK K
     refine done_ (done_of HT_.out (by kernel_rfl)) ?_
     have hnb35 := NB148_142.out
     have hnc35 := NB142_148.out
     have hnb36 := NB148_143.out
     have hnc36 := NB143_148.out
     obtain ⟨hcz37_0, hcz37_1, hcz37_2⟩ := e63_ BK148.out
     obtain ⟨hfz37_0, hfz37_1, hfz37_2⟩ := z65_ BK148.out
     have hq2p : (((w31.setCell ⟨gb148, 0, none⟩ (.int .i64 a0_0)).setCell ⟨gb148, 1, none⟩ (.int .i64 t147)).setCell ⟨gb148, 2, none⟩ (.int .i64 (wrap64 (Int.tdiv a3 24)))).cell? ⟨gb148, 2, none⟩ = some (.int .i64 (wrap64 (Int.tdiv a3 24))) := by first | (simp [*]; done) | (go_simp; done) | (go_simp; rfl)
     try go_wp2_with (first | ((with_reducible refine gate_callee (f := 51) rfl ?_); refine goesL_ (some 41) rfl rfl Try.func51 (by kernel_rfl) rfl #[.slice A2 l2.length c2, .int .i64 (wrap64 (Int.tdiv a3 24))] rfl ma_ ?_; (with_reducible refine (spec_NextOpen.calls kj4 _ _ l2 (wrap64 (Int.tdiv a3 24)) t149 _ ?side1 ?side2 A27.out).mono ?_); (case side1 => exact Kd.C_below HR2.out y70_); (case side2 => exact HC2.out); rintro e w' ⟨rfl, ⟨nd, rfl⟩⟩; refine ⟨_, rfl, ?_⟩; have hnb38 := NB143_142.out; have hnc38 := NB142_143.out; obtain ⟨hcz39_0, hcz39_1, hcz39_2⟩ := e63_ BK143.out; obtain ⟨hfz39_0, hfz39_1, hfz39_2⟩ := z65_ BK143.out))
     refine bodyPost_ret (results_cell_row rfl _ _ gb143 54 #[.int .i64 a0_0, .int .i64 t147, .int .i64 t149] (0, 0) _ rfl (by (with_reducible repeat (first | refine blk_drewN ?_ _ | refine blk_drew ?_ | refine blk_alloc ?_ _)); refine blk_put (cs := #[.int .i64 a0_0, .int .i64 t147, .int .i64 0]) ?_ 2 _ rfl; (with_reducible repeat (first | refine blk_drewN ?_ _ | refine blk_drew ?_ | refine blk_alloc ?_ _)); refine blk_put (cs := #[.int .i64 a0_0, .int .i64 0, .int .i64 0]) ?_ 1 _ rfl; (with_reducible repeat (first | refine blk_drewN ?_ _ | refine blk_drew ?_ | refine blk_alloc ?_ _)); refine blk_put (cs := #[.int .i64 0, .int .i64 0, .int .i64 0]) ?_ 0 _ rfl; (with_reducible repeat (first | refine blk_drewN ?_ _ | refine blk_drew ?_ | refine blk_alloc ?_ _)); refine blk_far ?_ NB143_148.out _; (with_reducible repeat (first | refine blk_drewN ?_ _ | refine blk_drew ?_ | refine blk_alloc ?_ _)); refine blk_far ?_ NB143_148.out _; (with_reducible repeat (first | refine blk_drewN ?_ _ | refine blk_drew ?_ | refine blk_alloc ?_ _)); refine blk_far ?_ NB143_148.out _; (with_reducible repeat (first | refine blk_drewN ?_ _ | refine blk_drew ?_ | refine blk_alloc ?_ _)); refine blk_far ?_ NB143_148.out _; (with_reducible repeat (first | refine blk_drewN ?_ _ | refine blk_drew ?_ | refine blk_alloc ?_ _)); exact BK143.out) Try.underlying54 rfl (by kernel_rfl)) rfl ?_
     exact ⟨rt_, y79_⟩
    ·
     rw [if_neg c26] at H
     have c26b0 : (t147 == 1) = false := beq_eq_false_iff_ne.mpr c26
     have c26b1 : (t147 != 1) = true := bne_iff_ne.mpr c26
     by_cases c40 : t147 = 0
     ·
      rw [if_pos c40] at H
      have c40b0 : (t147 == 0) = true := beq_iff_eq.mpr c40
      have c40b1 : (t147 != 0) = false := bne_eq_false_iff_eq.mpr c40
      clear c40
      replace H := Option.bind_eq_some_iff.mp H
      obtain ⟨t150, A410, H⟩ := H
      replace H : (some (a0_0, t147, t150)) = some (r1, r2, r3) := H
      have A41 := Aside0.mk A410
      clear A410
      simp only [Option.some.injEq, Prod.mk.injEq] at H
      obtain ⟨rfl, rfl, rfl⟩ := H
      try go_wp2
      have n0_ := Aside0.mk (blk_drew BK142.out)
      have n1_ := Aside0.mk (blk_drew BK143.out)
      have n2_ := Aside0.mk (below_drew1 HB.out)
      clear BK142
      clear BK143
      clear HB
      have BK142 := n0_
      have BK143 := n1_
      have HB := n2_
      clear n0_ n1_ n2_
      refine start_ (n := 12) (S := fun w' => q2e_ w' gb142 a0_0 a0_1 a0_2 a0_3 a0_4 a0_5 a0_6 a0_7) (ds := []) M1_0 (by kernel_rfl) rfl rfl (k2e_ BK142.out) (fun hHeld => ?_); refine with_tabW spec_TaskOf.tab3 spec_TaskOf.bits3 (fun HT_ HW_ => ?_)
      generalize wc.drew = w42 at BK142 BK143 HB hHeld ⊢
      refine pu_ 0 (some 24) M1_1 HT_ ?_
      refine pu_ 1 (some 25) M1_2 HT_ ?_
      refine pu_ 4 (some 28) M1_3 HT_ ?_
      refine pu_ 5 (some 29) M1_4 HT_ ?_
      refine pu_ 7 (some 31) M1_5 HT_ ?_
      refine pu_ 8 (some 32) M1_6 HT_ ?_
      refine tk_ 2 (some 26) M1_7 HT_ HW_ hHeld ?_
      refine tk_ 3 (some 27) M1_8 HT_ HW_ hHeld ?_
      refine join_ (σ := Nat) 1 M1_9 (fun s_ => [(30, .int .i64 t147), (9, .pointer (some ⟨s_, 0, none⟩)), (33, .agg #[.int .i64 a0_0, .int .i64 t147, .int .i64 (wrap64 (Int.tdiv a3 24))])]) (fun s_ w' => (q2e_ w' gb142 a0_0 a0_1 a0_2 a0_3 a0_4 a0_5 a0_6 a0_7) ∧ (w'.heap[gb142]? = some (c61_ a0_0 a0_1 a0_2 a0_3 a0_4 a0_5 a0_6 a0_7)) ∧ (w'.heap[gb143]? = some (.cells #[.int .i64 0, .int .i64 0, .int .i64 0] 54 (0, 0))) ∧ (w'.heap[s_]? = some (.cells #[.int .i64 0, .int .i64 0, .int .i64 0] 54 (0, 0))) ∧ (w.heap.size ≤ s_) ∧ (w.heap.size ≤ s_) ∧ (gb142 ≠ s_) ∧ (s_ ≠ gb142) ∧ (gb143 ≠ s_) ∧ (s_ ≠ gb143) ∧ (Below w.heap.size w w')) ?_ ?_
      rotate_left
      ·
       intro hCont
       refine two_ (i := 6) (j := 10) (Ni := some 30) (Nj := some 9) M1_10 M1_11 rfl rfl rfl rfl (two_of HT_.out (by kernel_rfl)) (by decide) (by decide) (fun K hK => ?_) (fun K hK => ?_)
       ·
        skip
        refine goes_ Try.func50 (by kernel_rfl) rfl #[.agg #[.int .i64 a0_0, .int .i64 a0_1, .int .i64 a0_2, .int .i64 a0_3, .int .i64 a0_4, .int .i64 a0_5, .int .i64 a0_6, .int .i64 a0_7], .slice A1 l1.length c1, .int .i64 a3] (by rfl) rfl rfl ma_ ?_
        with_reducible refine (spec_FateOf.calls kj4 a0_0 a0_1 a0_2 a0_3 a0_4 a0_5 a0_6 a0_7 _ _ l1 a3 t147 _ ?side1 ?side2 A25.out).mono ?_
        (case side1 => exact cd_ (Kd.C_below HR1.out HB.out))
        (case side2 => exact HC1.out)
        rintro e w43 ⟨rfl, hb⟩
        refine ⟨_, rfl, ?_⟩
        have n0_ := Aside0.mk (blk_below (bd_ BK142.out) hb)
        have n1_ := Aside0.mk (blk_below (bd_ BK143.out) hb)
        have n2_ := Aside0.mk (below_step y67_ hb)
        clear BK142
        clear BK143
        clear HB
        have BK142 := n0_
        have BK143 := n1_
        have HB := n2_
        clear n0_ n1_ n2_
        (try clear hb)
        (try clear hb2)
        (try clear hk)
        (try clear hi)
        refine hK.out _ _ (k2e_ BK142.out) (fun hHeld => ?_)
        clear hK K
        refine norm_ (a' := ?_) ?_ ?_
        rotate_left
        ·
         show Act.put _ (some 30) _ = _
         simp only [Act.put, P1_1, P1_2, P1_3, i64_w, i32_w]
         rfl
        refine pu_ 9 (some 33) M1_12 HT_ ?_
        refine one_ (i := 10) (N := some 9) M1_9 rfl rfl (one_of HT_.out (by kernel_rfl)) (by decide) (fun K hK => ?_)
        refine box_step ?hg (N := 9) ?hd (cs := #[.int .i64 0, .int .i64 0, .int .i64 0]) (t := 54) ?hr ?_; (case hd => rfl); (case hg => rfl); (case hr => first | (go_simp; done) | (go_simp; rfl))
        intro gb148 hg w44 hbox hb
        have n0_ := Aside0.mk (blk_below (bd_ BK142.out) hb)
        have n1_ := Aside0.mk (blk_below (bd_ BK143.out) hb)
        have n2_ := Aside0.mk (below_step y67_ hb)
        have BK148 := Aside0.mk (hbox)
        have GW148 := Aside0.mk ((y80_ : w.heap.size ≤ gb148))
        have GE148 := Aside0.mk ((y80_ : w.heap.size ≤ gb148))
        have NB142_148 := Aside0.mk ((y73_ : gb142 ≠ gb148))
        have NB148_142 := Aside0.mk ((y74_ : gb148 ≠ gb142))
        have NB143_148 := Aside0.mk ((y75_ : gb143 ≠ gb148))
        have NB148_143 := Aside0.mk ((y76_ : gb148 ≠ gb143))
        clear BK142
        clear BK143
        clear HB
        have BK142 := n0_
        have BK143 := n1_
        have HB := n2_
        clear n0_ n1_ n2_
        clear hb hbox hg
        refine hK.out _ _ (k2e_ BK142.out) (fun hHeld => ?_)
        clear hK K
        refine norm_ (a' := ?_) ?_ ?_
        rotate_left
        ·
         show Act.put _ (some 9) _ = _
         simp only [Act.put, P1_1, P1_2, P1_3, i64_w, i32_w]
         rfl
        exact norm_ y78_ (hCont (gb148) _ ⟨hHeld, bd_ BK142.out, bd_ BK143.out, bd_ BK148.out, GW148.out, GE148.out, NB142_148.out, NB148_142.out, NB143_148.out, NB148_143.out, y70_⟩)
       ·
        skip
        refine box_step ?hg (N := 9) ?hd (cs := #[.int .i64 0, .int .i64 0, .int .i64 0]) (t := 54) ?hr ?_; (case hd => rfl); (case hg => rfl); (case hr => first | (go_simp; done) | (go_simp; rfl))
        intro gb148 hg w43 hbox hb
        have n0_ := Aside0.mk (blk_below (bd_ BK142.out) hb)
        have n1_ := Aside0.mk (blk_below (bd_ BK143.out) hb)
        have n2_ := Aside0.mk (below_step y67_ hb)
        have BK148 := Aside0.mk (hbox)
        have GW148 := Aside0.mk ((y80_ : w.heap.size ≤ gb148))
        have GE148 := Aside0.mk ((y80_ : w.heap.size ≤ gb148))
        have NB142_148 := Aside0.mk ((y73_ : gb142 ≠ gb148))
        have NB148_142 := Aside0.mk ((y74_ : gb148 ≠ gb142))
        have NB143_148 := Aside0.mk ((y75_ : gb143 ≠ gb148))
        have NB148_143 := Aside0.mk ((y76_ : gb148 ≠ gb143))
        clear BK142
        clear BK143
        clear HB
        have BK142 := n0_
        have BK143 := n1_
        have HB := n2_
        clear n0_ n1_ n2_
        clear hb hbox hg
        refine hK.out _ _ (k2e_ BK142.out) (fun hHeld => ?_)
        clear hK K
        refine norm_ (a' := ?_) ?_ ?_
        rotate_left
        ·
         show Act.put _ (some 9) _ = _
         simp only [Act.put, P1_1, P1_2, P1_3, i64_w, i32_w]
         rfl
        refine one_ (i := 6) (N := some 30) M1_13 rfl rfl (one_of HT_.out (by kernel_rfl)) (by decide) (fun K hK => ?_)
        refine goes_ Try.func50 (by kernel_rfl) rfl #[.agg #[.int .i64 a0_0, .int .i64 a0_1, .int .i64 a0_2, .int .i64 a0_3, .int .i64 a0_4, .int .i64 a0_5, .int .i64 a0_6, .int .i64 a0_7], .slice A1 l1.length c1, .int .i64 a3] (by rfl) rfl rfl ma_ ?_
        with_reducible refine (spec_FateOf.calls kj4 a0_0 a0_1 a0_2 a0_3 a0_4 a0_5 a0_6 a0_7 _ _ l1 a3 t147 _ ?side1 ?side2 A25.out).mono ?_
        (case side1 => exact cd_ (Kd.C_below HR1.out HB.out))
        (case side2 => exact HC1.out)
        rintro e w44 ⟨rfl, hb⟩
        refine ⟨_, rfl, ?_⟩
        have n0_ := Aside0.mk (blk_below (bd_ BK142.out) hb)
        have n1_ := Aside0.mk (blk_below (bd_ BK143.out) hb)
        have n2_ := Aside0.mk (blk_below (bd_ BK148.out) hb)
        have n3_ := Aside0.mk (below_step y70_ hb)
        clear BK142
        clear BK143
        clear BK148
        clear HB
        have BK142 := n0_
        have BK143 := n1_
        have BK148 := n2_
        have HB := n3_
        clear n0_ n1_ n2_ n3_
        (try clear hb)
        (try clear hb2)
        (try clear hk)
        (try clear hi)
        refine hK.out _ _ (k2e_ BK142.out) (fun hHeld => ?_)
        clear hK K
        refine norm_ (a' := ?_) ?_ ?_
        rotate_left
        ·
         show Act.put _ (some 30) _ = _
         simp only [Act.put, P1_1, P1_2, P1_3, i64_w, i32_w]
         rfl
        refine pu_ 9 (some 33) M1_9 HT_ ?_
        exact norm_ y78_ (hCont (gb148) _ ⟨hHeld, bd_ BK142.out, bd_ BK143.out, bd_ BK148.out, GW148.out, GE148.out, NB142_148.out, NB148_142.out, NB143_148.out, NB148_143.out, y70_⟩)
      rintro gb148 w45 ⟨hS_, h0_, h1_, h2_, h3_, h4_, h5_, h6_, h7_, h8_, h9_⟩
      have n0_ : Aside0 (w45.heap[gb142]? = some (c61_ a0_0 a0_1 a0_2 a0_3 a0_4 a0_5 a0_6 a0_7)) := ⟨h0_⟩
      have n1_ : Aside0 (w45.heap[gb143]? = some (.cells #[.int .i64 0, .int .i64 0, .int .i64 0] 54 (0, 0))) := ⟨h1_⟩
      have BK148 : Aside0 (w45.heap[gb148]? = some (.cells #[.int .i64 0, .int .i64 0, .int .i64 0] 54 (0, 0))) := ⟨h2_⟩
      have GW148 : Aside0 (w.heap.size ≤ gb148) := ⟨h3_⟩
      have GE148 : Aside0 (w.heap.size ≤ gb148) := ⟨h4_⟩
      have NB142_148 : Aside0 (gb142 ≠ gb148) := ⟨h5_⟩
      have NB148_142 : Aside0 (gb148 ≠ gb142) := ⟨h6_⟩
      have NB143_148 : Aside0 (gb143 ≠ gb148) := ⟨h7_⟩
      have NB148_143 : Aside0 (gb148 ≠ gb143) := ⟨h8_⟩
      have n9_ : Aside0 (Below w.heap.size w w45) := ⟨h9_⟩
      clear BK142
      clear BK143
      clear HB
      clear h0_ h1_ h2_ h3_ h4_ h5_ h6_ h7_ h8_ h9_
      have BK142 := n0_
      have BK143 := n1_
      have HB := n9_
      clear n0_ n1_ n9_
      have hHeld : q2e_ w45 gb142 a0_0 a0_1 a0_2 a0_3 a0_4 a0_5 a0_6 a0_7 := hS_
      refine norm_ (a' := ?_) ?_ ?_
      rotate_left
      ·
       simp only [putAll, Act.put, List.setIfInBounds_toArray, List.set_cons_zero, List.set_cons_succ]
       rfl
      refine one_ (i := 11) (N := none) M1_14 rfl rfl (one_of HT_.out (by kernel_rfl)) (by decide) (fun K hK => ?_)
      have hs46 : w45.cell? ⟨gb148, 0, none⟩ = some (.int .i64 0) := (blk_cell BK148.out 0).trans rfl
      have hfs46 := blk_frozen BK148.out 0
      have hns46_0 := NB142_148.out
      have hns46_1 := NB143_148.out
      have hms46_0 := NB148_142.out
      have hms46_1 := NB148_143.out
      have hs47 : w45.cell? ⟨gb148, 1, none⟩ = some (.int .i64 0) := (blk_cell BK148.out 1).trans rfl
      have hfs47 := blk_frozen BK148.out 1
      have hns47_0 := NB142_148.out
      have hns47_1 := NB143_148.out
      have hms47_0 := NB148_142.out
      have hms47_1 := NB148_143.out
      have hs48 : w45.cell? ⟨gb148, 2, none⟩ = some (.int .i64 0) := (blk_cell BK148.out 2).trans rfl
      have hfs48 := blk_frozen BK148.out 2
      have hns48_0 := NB142_148.out
      have hns48_1 := NB143_148.out
      have hms48_0 := NB148_142.out
      have hms48_1 := NB148_143.out
      refine skip_ (w1 := ?_) (by rfl) rfl ?_ ?_
      rotate_left
      ·
       go_simp
       rfl
      refine hK.out _ _ ⟨(f66_ hHeld.1 NB142_148.out), (f66_ hHeld.2.1 NB142_148.out), (f66_ hHeld.2.2.1 NB142_148.out), (f66_ hHeld.2.2.2.1 NB142_148.out), (f66_ hHeld.2.2.2.2.1 NB142_148.out), (f66_ hHeld.2.2.2.2.2.1 NB142_148.out), (f66_ hHeld.2.2.2.2.2.2.1 NB142_148.out), (f66_ hHeld.2.2.2.2.2.2.2 NB142_148.out)⟩ (fun hHeld => ?_)
      clear hK K
      refine done_ (done_of HT_.out (by kernel_rfl)) ?_
      have hnb49 := NB148_142.out
      have hnc49 := NB142_148.out
      have hnb50 := NB148_143.out
      have hnc50 := NB143_148.out
      obtain ⟨hcz51_0, hcz51_1, hcz51_2⟩ := e63_ BK148.out
      obtain ⟨hfz51_0, hfz51_1, hfz51_2⟩ := z65_ BK148.out
      have hnb52 := NB142_143.out
      have hnc52 := NB143_142.out
      obtain ⟨hcz53_0, hcz53_1, hcz53_2, hcz53_3, hcz53_4, hcz53_5, hcz53_6, hcz53_7⟩ := e62_ BK142.out
      obtain ⟨hfz53_0, hfz53_1, hfz53_2, hfz53_3, hfz53_4, hfz53_5, hfz53_6, hfz53_7⟩ := z64_ BK142.out
      try go_wp2_with (first | ((with_reducible refine gate_callee (f := 52) rfl ?_); refine goesL_ (some 47) rfl rfl Try.func52 (by kernel_rfl) rfl #[.slice A2 l2.length c2, .agg #[.int .i64 a0_0, .int .i64 a0_1, .int .i64 a0_2, .int .i64 a0_3, .int .i64 a0_4, .int .i64 a0_5, .int .i64 a0_6, .int .i64 a0_7]] rfl ma_ ?_; (with_reducible refine (spec_LastDay.calls kj4 _ _ l2 a0_0 a0_1 a0_2 a0_3 a0_4 a0_5 a0_6 a0_7 t150 _ ?side1 ?side2 A41.out).mono ?_); (case side1 => exact Kd.C_below HR2.out y70_); (case side2 => exact HC2.out); rintro e w54 ⟨rfl, hb⟩; refine ⟨_, rfl, ?_⟩; have n0_ := Aside0.mk (blk_below (g := gb142) (o := c61_ a0_0 a0_1 a0_2 a0_3 a0_4 a0_5 a0_6 a0_7) (by (with_reducible repeat (first | refine blk_drewN ?_ _ | refine blk_drew ?_ | refine blk_alloc ?_ _)); refine blk_far ?_ NB142_148.out _; (with_reducible repeat (first | refine blk_drewN ?_ _ | refine blk_drew ?_ | refine blk_alloc ?_ _)); refine blk_far ?_ NB142_148.out _; (with_reducible repeat (first | refine blk_drewN ?_ _ | refine blk_drew ?_ | refine blk_alloc ?_ _)); refine blk_far ?_ NB142_148.out _; (with_reducible repeat (first | refine blk_drewN ?_ _ | refine blk_drew ?_ | refine blk_alloc ?_ _)); exact BK142.out) hb); have n1_ := Aside0.mk (blk_below (g := gb143) (o := .cells #[.int .i64 0, .int .i64 0, .int .i64 0] 54 (0, 0)) (by (with_reducible repeat (first | refine blk_drewN ?_ _ | refine blk_drew ?_ | refine blk_alloc ?_ _)); refine blk_far ?_ NB143_148.out _; (with_reducible repeat (first | refine blk_drewN ?_ _ | refine blk_drew ?_ | refine blk_alloc ?_ _)); refine blk_far ?_ NB143_148.out _; (with_reducible repeat (first | refine blk_drewN ?_ _ | refine blk_drew ?_ | refine blk_alloc ?_ _)); refine blk_far ?_ NB143_148.out _; (with_reducible repeat (first | refine blk_drewN ?_ _ | refine blk_drew ?_ | refine blk_alloc ?_ _)); exact BK143.out) hb); have n2_ := Aside0.mk (blk_below (g := gb148) (o := .cells #[.int .i64 a0_0, .int .i64 t147, .int .i64 (wrap64 (Int.tdiv a3 24))] 54 (0, 0)) (by (with_reducible repeat (first | refine blk_drewN ?_ _ | refine blk_drew ?_ | refine blk_alloc ?_ _)); refine blk_put (cs := #[.int .i64 a0_0, .int .i64 t147, .int .i64 0]) ?_ 2 _ rfl; (with_reducible repeat (first | refine blk_drewN ?_ _ | refine blk_drew ?_ | refine blk_alloc ?_ _)); refine blk_put (cs := #[.int .i64 a0_0, .int .i64 0, .int .i64 0]) ?_ 1 _ rfl; (with_reducible repeat (first | refine blk_drewN ?_ _ | refine blk_drew ?_ | refine blk_alloc ?_ _)); refine blk_put (cs := #[.int .i64 0, .int .i64 0, .int .i64 0]) ?_ 0 _ rfl; (with_reducible repeat (first | refine blk_drewN ?_ _ | refine blk_drew ?_ | refine blk_alloc ?_ _)); exact BK148.out) hb); have n3_ := Aside0.mk (below_step y70_ hb); clear BK142; clear BK143; clear BK148; clear HB; have BK142 := n0_; have BK143 := n1_; have BK148 := n2_; have HB := n3_; clear n0_ n1_ n2_ n3_; (try clear hb); have hcz55_0 : w54.cell? ⟨gb148, 0, none⟩ = some (.int .i64 a0_0) := (blk_cell BK148.out 0).trans rfl; have hcz55_1 : w54.cell? ⟨gb148, 1, none⟩ = some (.int .i64 t147) := (blk_cell BK148.out 1).trans rfl; have hcz55_2 : w54.cell? ⟨gb148, 2, none⟩ = some (.int .i64 (wrap64 (Int.tdiv a3 24))) := (blk_cell BK148.out 2).trans rfl; obtain ⟨hfz55_0, hfz55_1, hfz55_2⟩ := z65_ BK148.out; obtain ⟨hcz56_0, hcz56_1, hcz56_2⟩ := e63_ BK143.out; obtain ⟨hfz56_0, hfz56_1, hfz56_2⟩ := z65_ BK143.out))
      refine bodyPost_ret (results_cell_row rfl _ _ gb143 54 #[.int .i64 a0_0, .int .i64 t147, .int .i64 t150] (0, 0) _ rfl (by (with_reducible repeat (first | refine blk_drewN ?_ _ | refine blk_drew ?_ | refine blk_alloc ?_ _)); refine blk_put (cs := #[.int .i64 a0_0, .int .i64 t147, .int .i64 0]) ?_ 2 _ rfl; (with_reducible repeat (first | refine blk_drewN ?_ _ | refine blk_drew ?_ | refine blk_alloc ?_ _)); refine blk_put (cs := #[.int .i64 a0_0, .int .i64 0, .int .i64 0]) ?_ 1 _ rfl; (with_reducible repeat (first | refine blk_drewN ?_ _ | refine blk_drew ?_ | refine blk_alloc ?_ _)); refine blk_put (cs := #[.int .i64 0, .int .i64 0, .int .i64 0]) ?_ 0 _ rfl; (with_reducible repeat (first | refine blk_drewN ?_ _ | refine blk_drew ?_ | refine blk_alloc ?_ _)); refine blk_far ?_ NB143_148.out _; (with_reducible repeat (first | refine blk_drewN ?_ _ | refine blk_drew ?_ | refine blk_alloc ?_ _)); exact BK143.out) Try.underlying54 rfl (by kernel_rfl)) rfl ?_
      exact ⟨rt_, y79_⟩
     ·
      rw [if_neg c40] at H
      have c40b0 : (t147 == 0) = false := beq_eq_false_iff_ne.mpr c40
      have c40b1 : (t147 != 0) = true := bne_iff_ne.mpr c40
      simp only [Option.some.injEq, Prod.mk.injEq] at H
      obtain ⟨rfl, rfl, rfl⟩ := H
      try go_wp2
      have n0_ := Aside0.mk (blk_drew BK142.out)
      have n1_ := Aside0.mk (blk_drew BK143.out)
      have n2_ := Aside0.mk (below_drew1 HB.out)
      clear BK142
      clear BK143
      clear HB
      have BK142 := n0_
      have BK143 := n1_
      have HB := n2_
      clear n0_ n1_ n2_
      refine start_ (n := 12) (S := fun w' => q2e_ w' gb142 a0_0 a0_1 a0_2 a0_3 a0_4 a0_5 a0_6 a0_7) (ds := []) M1_0 (by kernel_rfl) rfl rfl (k2e_ BK142.out) (fun hHeld => ?_); refine with_tabW spec_TaskOf.tab3 spec_TaskOf.bits3 (fun HT_ HW_ => ?_)
      generalize wc.drew = w57 at BK142 BK143 HB hHeld ⊢
      refine pu_ 0 (some 24) M1_1 HT_ ?_
      refine pu_ 1 (some 25) M1_2 HT_ ?_
      refine pu_ 4 (some 28) M1_3 HT_ ?_
      refine pu_ 5 (some 29) M1_4 HT_ ?_
      refine pu_ 7 (some 31) M1_5 HT_ ?_
      refine pu_ 8 (some 32) M1_6 HT_ ?_
      refine tk_ 2 (some 26) M1_7 HT_ HW_ hHeld ?_
      refine tk_ 3 (some 27) M1_8 HT_ HW_ hHeld ?_
      refine join_ (σ := Nat) 1 M1_9 (fun s_ => [(30, .int .i64 t147), (9, .pointer (some ⟨s_, 0, none⟩)), (33, .agg #[.int .i64 a0_0, .int .i64 t147, .int .i64 (wrap64 (Int.tdiv a3 24))])]) (fun s_ w' => (q2e_ w' gb142 a0_0 a0_1 a0_2 a0_3 a0_4 a0_5 a0_6 a0_7) ∧ (w'.heap[gb142]? = some (c61_ a0_0 a0_1 a0_2 a0_3 a0_4 a0_5 a0_6 a0_7)) ∧ (w'.heap[gb143]? = some (.cells #[.int .i64 0, .int .i64 0, .int .i64 0] 54 (0, 0))) ∧ (w'.heap[s_]? = some (.cells #[.int .i64 0, .int .i64 0, .int .i64 0] 54 (0, 0))) ∧ (w.heap.size ≤ s_) ∧ (w.heap.size ≤ s_) ∧ (gb142 ≠ s_) ∧ (s_ ≠ gb142) ∧ (gb143 ≠ s_) ∧ (s_ ≠ gb143) ∧ (Below w.heap.size w w')) ?_ ?_
      rotate_left
      ·
       intro hCont
       refine two_ (i := 6) (j := 10) (Ni := some 30) (Nj := some 9) M1_10 M1_11 rfl rfl rfl rfl (two_of HT_.out (by kernel_rfl)) (by decide) (by decide) (fun K hK => ?_) (fun K hK => ?_)
       ·
        skip
        refine goes_ Try.func50 (by kernel_rfl) rfl #[.agg #[.int .i64 a0_0, .int .i64 a0_1, .int .i64 a0_2, .int .i64 a0_3, .int .i64 a0_4, .int .i64 a0_5, .int .i64 a0_6, .int .i64 a0_7], .slice A1 l1.length c1, .int .i64 a3] (by rfl) rfl rfl ma_ ?_
        with_reducible refine (spec_FateOf.calls kj4 a0_0 a0_1 a0_2 a0_3 a0_4 a0_5 a0_6 a0_7 _ _ l1 a3 t147 _ ?side1 ?side2 A25.out).mono ?_
        (case side1 => exact cd_ (Kd.C_below HR1.out HB.out))
        (case side2 => exact HC1.out)
        rintro e w58 ⟨rfl, hb⟩
        refine ⟨_, rfl, ?_⟩
        have n0_ := Aside0.mk (blk_below (bd_ BK142.out) hb)
        have n1_ := Aside0.mk (blk_below (bd_ BK143.out) hb)
        have n2_ := Aside0.mk (below_step y67_ hb)
        clear BK142
        clear BK143
        clear HB
        have BK142 := n0_
        have BK143 := n1_
        have HB := n2_
        clear n0_ n1_ n2_
        (try clear hb)
        (try clear hb2)
        (try clear hk)
        (try clear hi)
        refine hK.out _ _ (k2e_ BK142.out) (fun hHeld => ?_)
        clear hK K
        refine norm_ (a' := ?_) ?_ ?_
        rotate_left
        ·
         show Act.put _ (some 30) _ = _
         simp only [Act.put, P1_1, P1_2, P1_3, i64_w, i32_w]
         rfl
        refine pu_ 9 (some 33) M1_12 HT_ ?_
        refine one_ (i := 10) (N := some 9) M1_9 rfl rfl (one_of HT_.out (by kernel_rfl)) (by decide) (fun K hK => ?_)
        refine box_step ?hg (N := 9) ?hd (cs := #[.int .i64 0, .int .i64 0, .int .i64 0]) (t := 54) ?hr ?_; (case hd => rfl); (case hg => rfl); (case hr => first | (go_simp; done) | (go_simp; rfl))
        intro gb148 hg w59 hbox hb
        have n0_ := Aside0.mk (blk_below (bd_ BK142.out) hb)
        have n1_ := Aside0.mk (blk_below (bd_ BK143.out) hb)
        have n2_ := Aside0.mk (below_step y67_ hb)
        have BK148 := Aside0.mk (hbox)
        have GW148 := Aside0.mk ((y80_ : w.heap.size ≤ gb148))
        have GE148 := Aside0.mk ((y80_ : w.heap.size ≤ gb148))
        have NB142_148 := Aside0.mk ((y73_ : gb142 ≠ gb148))
        have NB148_142 := Aside0.mk ((y74_ : gb148 ≠ gb142))
        have NB143_148 := Aside0.mk ((y75_ : gb143 ≠ gb148))
        have NB148_143 := Aside0.mk ((y76_ : gb148 ≠ gb143))
        clear BK142
        clear BK143
        clear HB
        have BK142 := n0_
        have BK143 := n1_
        have HB := n2_
        clear n0_ n1_ n2_
        clear hb hbox hg
        refine hK.out _ _ (k2e_ BK142.out) (fun hHeld => ?_)
        clear hK K
        refine norm_ (a' := ?_) ?_ ?_
        rotate_left
        ·
         show Act.put _ (some 9) _ = _
         simp only [Act.put, P1_1, P1_2, P1_3, i64_w, i32_w]
         rfl
        exact norm_ y78_ (hCont (gb148) _ ⟨hHeld, bd_ BK142.out, bd_ BK143.out, bd_ BK148.out, GW148.out, GE148.out, NB142_148.out, NB148_142.out, NB143_148.out, NB148_143.out, y70_⟩)
       ·
        skip
        refine box_step ?hg (N := 9) ?hd (cs := #[.int .i64 0, .int .i64 0, .int .i64 0]) (t := 54) ?hr ?_; (case hd => rfl); (case hg => rfl); (case hr => first | (go_simp; done) | (go_simp; rfl))
        intro gb148 hg w58 hbox hb
        have n0_ := Aside0.mk (blk_below (bd_ BK142.out) hb)
        have n1_ := Aside0.mk (blk_below (bd_ BK143.out) hb)
        have n2_ := Aside0.mk (below_step y67_ hb)
        have BK148 := Aside0.mk (hbox)
        have GW148 := Aside0.mk ((y80_ : w.heap.size ≤ gb148))
        have GE148 := Aside0.mk ((y80_ : w.heap.size ≤ gb148))
        have NB142_148 := Aside0.mk ((y73_ : gb142 ≠ gb148))
        have NB148_142 := Aside0.mk ((y74_ : gb148 ≠ gb142))
        have NB143_148 := Aside0.mk ((y75_ : gb143 ≠ gb148))
        have NB148_143 := Aside0.mk ((y76_ : gb148 ≠ gb143))
        clear BK142
        clear BK143
        clear HB
        have BK142 := n0_
        have BK143 := n1_
        have HB := n2_
        clear n0_ n1_ n2_
        clear hb hbox hg
        refine hK.out _ _ (k2e_ BK142.out) (fun hHeld => ?_)
        clear hK K
        refine norm_ (a' := ?_) ?_ ?_
        rotate_left
        ·
         show Act.put _ (some 9) _ = _
         simp only [Act.put, P1_1, P1_2, P1_3, i64_w, i32_w]
         rfl
        refine one_ (i := 6) (N := some 30) M1_13 rfl rfl (one_of HT_.out (by kernel_rfl)) (by decide) (fun K hK => ?_)
        refine goes_ Try.func50 (by kernel_rfl) rfl #[.agg #[.int .i64 a0_0, .int .i64 a0_1, .int .i64 a0_2, .int .i64 a0_3, .int .i64 a0_4, .int .i64 a0_5, .int .i64 a0_6, .int .i64 a0_7], .slice A1 l1.length c1, .int .i64 a3] (by rfl) rfl rfl ma_ ?_
        with_reducible refine (spec_FateOf.calls kj4 a0_0 a0_1 a0_2 a0_3 a0_4 a0_5 a0_6 a0_7 _ _ l1 a3 t147 _ ?side1 ?side2 A25.out).mono ?_
        (case side1 => exact cd_ (Kd.C_below HR1.out HB.out))
        (case side2 => exact HC1.out)
        rintro e w59 ⟨rfl, hb⟩
        refine ⟨_, rfl, ?_⟩
        have n0_ := Aside0.mk (blk_below (bd_ BK142.out) hb)
        have n1_ := Aside0.mk (blk_below (bd_ BK143.out) hb)
        have n2_ := Aside0.mk (blk_below (bd_ BK148.out) hb)
        have n3_ := Aside0.mk (below_step y70_ hb)
        clear BK142
        clear BK143
        clear BK148
        clear HB
        have BK142 := n0_
        have BK143 := n1_
        have BK148 := n2_
        have HB := n3_
        clear n0_ n1_ n2_ n3_
        (try clear hb)
        (try clear hb2)
        (try clear hk)
        (try clear hi)
        refine hK.out _ _ (k2e_ BK142.out) (fun hHeld => ?_)
        clear hK K
        refine norm_ (a' := ?_) ?_ ?_
        rotate_left
        ·
         show Act.put _ (some 30) _ = _
         simp only [Act.put, P1_1, P1_2, P1_3, i64_w, i32_w]
         rfl
        refine pu_ 9 (some 33) M1_9 HT_ ?_
        exact norm_ y78_ (hCont (gb148) _ ⟨hHeld, bd_ BK142.out, bd_ BK143.out, bd_ BK148.out, GW148.out, GE148.out, NB142_148.out, NB148_142.out, NB143_148.out, NB148_143.out, y70_⟩)
      rintro gb148 w60 ⟨hS_, h0_, h1_, h2_, h3_, h4_, h5_, h6_, h7_, h8_, h9_⟩
      have n0_ : Aside0 (w60.heap[gb142]? = some (c61_ a0_0 a0_1 a0_2 a0_3 a0_4 a0_5 a0_6 a0_7)) := ⟨h0_⟩
      have n1_ : Aside0 (w60.heap[gb143]? = some (.cells #[.int .i64 0, .int .i64 0, .int .i64 0] 54 (0, 0))) := ⟨h1_⟩
      have BK148 : Aside0 (w60.heap[gb148]? = some (.cells #[.int .i64 0, .int .i64 0, .int .i64 0] 54 (0, 0))) := ⟨h2_⟩
      have GW148 : Aside0 (w.heap.size ≤ gb148) := ⟨h3_⟩
      have GE148 : Aside0 (w.heap.size ≤ gb148) := ⟨h4_⟩
      have NB142_148 : Aside0 (gb142 ≠ gb148) := ⟨h5_⟩
      have NB148_142 : Aside0 (gb148 ≠ gb142) := ⟨h6_⟩
      have NB143_148 : Aside0 (gb143 ≠ gb148) := ⟨h7_⟩
      have NB148_143 : Aside0 (gb148 ≠ gb143) := ⟨h8_⟩
      have n9_ : Aside0 (Below w.heap.size w w60) := ⟨h9_⟩
      clear BK142
      clear BK143
      clear HB
      clear h0_ h1_ h2_ h3_ h4_ h5_ h6_ h7_ h8_ h9_
      have BK142 := n0_
      have BK143 := n1_
      have HB := n9_
      clear n0_ n1_ n9_
      have hHeld : q2e_ w60 gb142 a0_0 a0_1 a0_2 a0_3 a0_4 a0_5 a0_6 a0_7 := hS_
      refine norm_ (a' := ?_) ?_ ?_
      rotate_left
      ·
       simp only [putAll, Act.put, List.setIfInBounds_toArray, List.set_cons_zero, List.set_cons_succ]
       rfl
      refine one_ (i := 11) (N := none) M1_14 rfl rfl (one_of HT_.out (by kernel_rfl)) (by decide) (fun K hK => ?_)
      have hs61 : w60.cell? ⟨gb148, 0, none⟩ = some (.int .i64 0) := (blk_cell BK148.out 0).trans rfl
      have hfs61 := blk_frozen BK148.out 0
      have hns61_0 := NB142_148.out
      have hns61_1 := NB143_148.out
      have hms61_0 := NB148_142.out
      have hms61_1 := NB148_143.out
      have hs62 : w60.cell? ⟨gb148, 1, none⟩ = some (.int .i64 0) := (blk_cell BK148.out 1).trans rfl
      have hfs62 := blk_frozen BK148.out 1
      have hns62_0 := NB142_148.out
      have hns62_1 := NB143_148.out
      have hms62_0 := NB148_142.out
      have hms62_1 := NB148_143.out
      have hs63 : w60.cell? ⟨gb148, 2, none⟩ = some (.int .i64 0) := (blk_cell BK148.out 2).trans rfl
      have hfs63 := blk_frozen BK148.out 2
      have hns63_0 := NB142_148.out
      have hns63_1 := NB143_148.out
      have hms63_0 := NB148_142.out
      have hms63_1 := NB148_143.out
      refine skip_ (w1 := ?_) (by rfl) rfl ?_ ?_
      rotate_left
      ·
       go_simp
       rfl
      refine hK.out _ _ ⟨(f66_ hHeld.1 NB142_148.out), (f66_ hHeld.2.1 NB142_148.out), (f66_ hHeld.2.2.1 NB142_148.out), (f66_ hHeld.2.2.2.1 NB142_148.out), (f66_ hHeld.2.2.2.2.1 NB142_148.out), (f66_ hHeld.2.2.2.2.2.1 NB142_148.out), (f66_ hHeld.2.2.2.2.2.2.1 NB142_148.out), (f66_ hHeld.2.2.2.2.2.2.2 NB142_148.out)⟩ (fun hHeld => ?_)
      clear hK K
      refine done_ (done_of HT_.out (by kernel_rfl)) ?_
      have hnb64 := NB148_142.out
      have hnc64 := NB142_148.out
      have hnb65 := NB148_143.out
      have hnc65 := NB143_148.out
      obtain ⟨hcz66_0, hcz66_1, hcz66_2⟩ := e63_ BK148.out
      obtain ⟨hfz66_0, hfz66_1, hfz66_2⟩ := z65_ BK148.out
      have hnb67 := NB143_142.out
      have hnc67 := NB142_143.out
      obtain ⟨hcz68_0, hcz68_1, hcz68_2⟩ := e63_ BK143.out
      obtain ⟨hfz68_0, hfz68_1, hfz68_2⟩ := z65_ BK143.out
      try go_wp2
      refine bodyPost_ret (results_cell_row rfl _ _ gb143 54 #[.int .i64 a0_0, .int .i64 t147, .int .i64 (wrap64 (Int.tdiv a3 24))] (0, 0) _ rfl (by (with_reducible repeat (first | refine blk_drewN ?_ _ | refine blk_drew ?_ | refine blk_alloc ?_ _)); refine blk_put (cs := #[.int .i64 a0_0, .int .i64 t147, .int .i64 0]) ?_ 2 _ rfl; (with_reducible repeat (first | refine blk_drewN ?_ _ | refine blk_drew ?_ | refine blk_alloc ?_ _)); refine blk_put (cs := #[.int .i64 a0_0, .int .i64 0, .int .i64 0]) ?_ 1 _ rfl; (with_reducible repeat (first | refine blk_drewN ?_ _ | refine blk_drew ?_ | refine blk_alloc ?_ _)); refine blk_put (cs := #[.int .i64 0, .int .i64 0, .int .i64 0]) ?_ 0 _ rfl; (with_reducible repeat (first | refine blk_drewN ?_ _ | refine blk_drew ?_ | refine blk_alloc ?_ _)); refine blk_far ?_ NB143_148.out _; (with_reducible repeat (first | refine blk_drewN ?_ _ | refine blk_drew ?_ | refine blk_alloc ?_ _)); refine blk_far ?_ NB143_148.out _; (with_reducible repeat (first | refine blk_drewN ?_ _ | refine blk_drew ?_ | refine blk_alloc ?_ _)); refine blk_far ?_ NB143_148.out _; (with_reducible repeat (first | refine blk_drewN ?_ _ | refine blk_drew ?_ | refine blk_alloc ?_ _)); exact BK143.out) Try.underlying54 rfl (by kernel_rfl)) rfl ?_
      exact ⟨rt_, y79_⟩

end Go.Proofs.Ytnlgilmbmoiniaa.PFnExactTasksFor
