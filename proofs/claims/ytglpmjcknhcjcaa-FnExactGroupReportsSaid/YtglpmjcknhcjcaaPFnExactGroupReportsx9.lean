-- Written for this claim by a program (a printer turned to this claim); Lean checks it.
import Derived.Test.YtglpmjcknhcjcaaPFnExactGroupReportsx0
import Derived.Test.YtglpmjcknhcjcaaPFnExactGroupReportsx7
import Derived.Test.YtglpmjcknhcjcaaPFnExactGroupReportsx8
namespace Go.Proofs.Ytglpmjcknhcjcaa.PFnExactGroupReports
open Go.RowKit Go.Proofs.YtglpmjcknhcjcaaW.PrintWords Go.Proofs.YtglpmjcknhcjcaaW.PrintLast Go.Proofs.YtglpmjcknhcjcaaW.PrintMore
attribute [local go_sem] max2_int min2_int max_two min_two max_three min_three max_four min_four   -- for this text's walks alone
set_option linter.unusedVariables false
set_option linter.unusedSimpArgs false

/-! ### impl_Sharpen: function 51 -/
def impl_Sharpen.j0 : Nat → Bool → Int → Int → List Int → Int → Int → List Int → Int → Int → Int → Int → List Int → Int → Int → List Int → Int → Int → Option (Int × Int × List Int × Int × Int × List Int × Int × Int × Bool)
 | 0, _, _, _, _, _, _, _, _, _, _, _, _, _, _, _, _, _ => none
 | k + 1, x24, x278000, x278001, x278002, x278003, x278004, x278005, x278006, x278007, x279000, x279001, x279002, x279003, x279004, x279005, x279006, x279007 => if x24 = true then (some (0, 0, ([] : List Int), 0, 0, ([] : List Int), 0, 0, false)) else ((impl_both.f k x278002 x279002).bind fun bt283 => ((impl_both.f k x278005 x279005).bind fun bt287 => (if bt283.2 = true then (if bt287.2 = true then (if (mx x278003 x279003) > (mn x278004 x279004) then (some (0, 0, ([] : List Int), 0, 0, ([] : List Int), 0, 0, false)) else (some (x278000, x278001, bt283.1, mx x278003 x279003, mn x278004 x279004, bt287.1, mx x278006 x279006, mx (mx x278006 x279006) (mn x278007 x279007), true))) else (some (0, 0, ([] : List Int), 0, 0, ([] : List Int), 0, 0, false))) else (some (0, 0, ([] : List Int), 0, 0, ([] : List Int), 0, 0, false)))))
def impl_Sharpen.f (k : Nat) (a0_0 : Int) (a0_1 : Int) (l0_2 : List Int) (a0_3 : Int) (a0_4 : Int) (l0_5 : List Int) (a0_6 : Int) (a0_7 : Int) (a1_0 : Int) (a1_1 : Int) (l1_2 : List Int) (a1_3 : Int) (a1_4 : Int) (l1_5 : List Int) (a1_6 : Int) (a1_7 : Int) : Option (Int × Int × List Int × Int × Int × List Int × Int × Int × Bool) := (impl_IsReport.f k a0_0 a0_1 l0_2 a0_3 a0_4 l0_5 a0_6 a0_7).bind fun t280 => (if t280 = true then ((impl_IsReport.f k a1_0 a1_1 l1_2 a1_3 a1_4 l1_5 a1_6 a1_7).bind fun t281 => (if t281 = true then (impl_Sharpen.j0 k (a0_1 != a1_1) a0_0 a0_1 l0_2 a0_3 a0_4 l0_5 a0_6 a0_7 a1_0 a1_1 l1_2 a1_3 a1_4 l1_5 a1_6 a1_7) else (impl_Sharpen.j0 k true a0_0 a0_1 l0_2 a0_3 a0_4 l0_5 a0_6 a0_7 a1_0 a1_1 l1_2 a1_3 a1_4 l1_5 a1_6 a1_7))) else (impl_Sharpen.j0 k true a0_0 a0_1 l0_2 a0_3 a0_4 l0_5 a0_6 a0_7 a1_0 a1_1 l1_2 a1_3 a1_4 l1_5 a1_6 a1_7))
theorem impl_Sharpen.mono_l : ∀ k, (∀ y0 y1 y2 y3 y4 y5 y6 y7 y8 y9 y10 y11 y12 y13 y14 y15 y16, LeO (impl_Sharpen.j0 k y0 y1 y2 y3 y4 y5 y6 y7 y8 y9 y10 y11 y12 y13 y14 y15 y16) (impl_Sharpen.j0 (k + 1) y0 y1 y2 y3 y4 y5 y6 y7 y8 y9 y10 y11 y12 y13 y14 y15 y16))
 | 0 => fun _ _ _ _ _ _ _ _ _ _ _ _ _ _ _ _ _ r h => by simp [impl_Sharpen.j0] at h
 | k + 1 => by
  have ih0 := impl_Sharpen.mono_l k
  ·
   intro y0 y1 y2 y3 y4 y5 y6 y7 y8 y9 y10 y11 y12 y13 y14 y15 y16
   unfold impl_Sharpen.j0
   repeat' first
   | (with_reducible exact ih0 _ _ _ _ _ _ _ _ _ _ _ _ _ _ _ _ _)
   | (with_reducible exact impl_IsReport.mono _ _ _ _ _ _ _ _ _)
   | (with_reducible exact impl_both.mono _ _ _)
   | (with_reducible exact LeO.refl _)
   | (with_reducible exact LeO.none _)
   | (with_reducible refine LeO.ite ?_ ?_)
   | (with_reducible refine LeO.bind ?_ (fun _ => ?_))
   | exact ih0 _ _ _ _ _ _ _ _ _ _ _ _ _ _ _ _ _
   | exact impl_IsReport.mono _ _ _ _ _ _ _ _ _
   | exact impl_both.mono _ _ _
   | exact LeO.none _
   | refine LeO.ite ?_ ?_
   | refine LeO.bind ?_ (fun _ => ?_)
theorem impl_Sharpen.mono : ∀ a0 a1 a2 a3 a4 a5 a6 a7 a8 a9 a10 a11 a12 a13 a14 a15 k, LeO (impl_Sharpen.f k a0 a1 a2 a3 a4 a5 a6 a7 a8 a9 a10 a11 a12 a13 a14 a15) (impl_Sharpen.f (k + 1) a0 a1 a2 a3 a4 a5 a6 a7 a8 a9 a10 a11 a12 a13 a14 a15) := by
 intro a0 a1 a2 a3 a4 a5 a6 a7 a8 a9 a10 a11 a12 a13 a14 a15 k
 have ih0 := impl_Sharpen.mono_l k
 unfold impl_Sharpen.f
 repeat' first
   | (with_reducible exact ih0 _ _ _ _ _ _ _ _ _ _ _ _ _ _ _ _ _)
   | (with_reducible exact impl_IsReport.mono _ _ _ _ _ _ _ _ _)
   | (with_reducible exact impl_both.mono _ _ _)
   | (with_reducible exact LeO.refl _)
   | (with_reducible exact LeO.none _)
   | (with_reducible refine LeO.ite ?_ ?_)
   | (with_reducible refine LeO.bind ?_ (fun _ => ?_))
   | exact ih0 _ _ _ _ _ _ _ _ _ _ _ _ _ _ _ _ _
   | exact impl_IsReport.mono _ _ _ _ _ _ _ _ _
   | exact impl_both.mono _ _ _
   | exact LeO.none _
   | refine LeO.ite ?_ ?_
   | refine LeO.bind ?_ (fun _ => ?_)
def impl_Sharpen.T6 : Bool × List (List Nat × List Nat) := (true, [([], []), ([0], [0]), ([], []), ([2], [2]), ([1, 3], [1, 3]), ([], []), ([5], [5]), ([], []), ([7], [7]), ([6, 8], [6, 8]), ([0, 1, 2, 3, 4], []), ([10, 4, 0, 1, 2, 3, 4], [4, 10]), ([0, 1, 2, 3, 4, 5, 6, 7, 8, 9, 10, 11], []), ([12, 9, 11, 0, 1, 2, 3, 4, 5, 6, 7, 8, 9, 10, 11], [9, 12])])
def impl_Sharpen.B6 : List Nat := [0, 1, 0, 4, 15, 0, 32, 0, 128, 480, 31, 1055, 4095, 8191]
theorem impl_Sharpen.tab6 : rtab .any (opsOf Try.f51 6) = impl_Sharpen.T6 := by kernel_rfl
theorem impl_Sharpen.bits6 : waitsOk impl_Sharpen.T6.2 impl_Sharpen.B6 = true := by kernel_rfl
abbrev M4_0 : Array Bool := #[false, false, false, false, false, false, false, false, false, false, false, false, false, false]
abbrev M4_1 : Array Bool := #[true, false, false, false, false, false, false, false, false, false, false, false, false, false]
abbrev M4_2 : Array Bool := #[true, false, true, false, false, false, false, false, false, false, false, false, false, false]
abbrev M4_3 : Array Bool := #[true, false, true, false, false, true, false, false, false, false, false, false, false, false]
abbrev M4_4 : Array Bool := #[true, false, true, false, false, true, false, true, false, false, false, false, false, false]
abbrev M4_5 : Array Bool := #[true, true, true, false, false, true, false, true, false, false, false, false, false, false]
abbrev M4_6 : Array Bool := #[true, true, true, true, false, true, false, true, false, false, false, false, false, false]
abbrev M4_7 : Array Bool := #[true, true, true, true, true, true, false, true, false, false, false, false, false, false]
abbrev M4_8 : Array Bool := #[true, true, true, true, true, true, false, true, false, false, true, false, false, false]
abbrev M4_9 : Array Bool := #[true, true, true, true, true, true, true, true, false, false, true, false, false, false]
abbrev M4_10 : Array Bool := #[true, true, true, true, true, true, true, true, true, false, true, false, false, false]
abbrev M4_11 : Array Bool := #[true, true, true, true, true, true, true, true, true, true, true, false, false, false]
abbrev M4_12 : Array Bool := #[true, true, true, true, true, true, true, true, true, true, true, true, false, false]
abbrev M4_13 : Array Bool := #[true, true, true, true, true, true, true, true, true, true, true, true, true, false]
abbrev M4_14 : Array Bool := #[true, true, true, true, true, true, true, true, true, true, true, true, true, true]
theorem P4_1 {α : Type} (l : List α) (i : Nat) (a : α) : l.toArray.setIfInBounds i a = (l.set i a).toArray := List.setIfInBounds_toArray l i a
theorem P4_2 {α : Type} (x : α) (l : List α) (a : α) : (x :: l).set 0 a = a :: l := List.set_cons_zero
theorem P4_3 {α : Type} (x : α) (l : List α) (n : Nat) (a : α) : (x :: l).set (n + 1) a = x :: l.set n a := List.set_cons_succ
abbrev c154_ (i0 : Int) (i1 : Int) (A2 : Option Addr) (n2 c2 : Nat) (i3 : Int) (i4 : Int) (A5 : Option Addr) (n5 c5 : Nat) (i6 : Int) (i7 : Int) : Obj := .cells #[.int .i64 i0, .int .i64 i1, .slice A2 n2 c2, .int .i64 i3, .int .i64 i4, .slice A5 n5 c5, .int .i64 i6, .int .i64 i7] 41 (0, 0)
theorem e155_ {w : World} {g : Nat} {t : TypeId} {i0 : Int} {i1 : Int} {A2 : Option Addr} {n2 c2 : Nat} {i3 : Int} {i4 : Int} {A5 : Option Addr} {n5 c5 : Nat} {i6 : Int} {i7 : Int} (h : w.heap[g]? = some (.cells #[.int .i64 i0, .int .i64 i1, .slice A2 n2 c2, .int .i64 i3, .int .i64 i4, .slice A5 n5 c5, .int .i64 i6, .int .i64 i7] t (0, 0))) : w.cell? ⟨g, 0, none⟩ = some (.int .i64 i0) ∧ w.cell? ⟨g, 1, none⟩ = some (.int .i64 i1) ∧ w.cell? ⟨g, 2, none⟩ = some (.slice A2 n2 c2) ∧ w.cell? ⟨g, 3, none⟩ = some (.int .i64 i3) ∧ w.cell? ⟨g, 4, none⟩ = some (.int .i64 i4) ∧ w.cell? ⟨g, 5, none⟩ = some (.slice A5 n5 c5) ∧ w.cell? ⟨g, 6, none⟩ = some (.int .i64 i6) ∧ w.cell? ⟨g, 7, none⟩ = some (.int .i64 i7) := ⟨(blk_cell h 0).trans rfl, (blk_cell h 1).trans rfl, (blk_cell h 2).trans rfl, (blk_cell h 3).trans rfl, (blk_cell h 4).trans rfl, (blk_cell h 5).trans rfl, (blk_cell h 6).trans rfl, (blk_cell h 7).trans rfl⟩
theorem z156_ {w : World} {g : Nat} {t : TypeId} {cs : Array Value} (h : w.heap[g]? = some (.cells cs t (0, 0))) : w.frozen? ⟨g, 0, none⟩ = false ∧ w.frozen? ⟨g, 1, none⟩ = false ∧ w.frozen? ⟨g, 2, none⟩ = false ∧ w.frozen? ⟨g, 3, none⟩ = false ∧ w.frozen? ⟨g, 4, none⟩ = false ∧ w.frozen? ⟨g, 5, none⟩ = false ∧ w.frozen? ⟨g, 6, none⟩ = false ∧ w.frozen? ⟨g, 7, none⟩ = false := ⟨blk_frozen h 0, blk_frozen h 1, blk_frozen h 2, blk_frozen h 3, blk_frozen h 4, blk_frozen h 5, blk_frozen h 6, blk_frozen h 7⟩
theorem y157_ {P : Prop} (h : P := by repeat (first | (with_reducible first | exact HB.out | apply below_alloc | apply pw_below_drewN | apply below_drew1 | refine below_set ?_ GE277.out | refine below_set ?_ GE278.out | refine below_set ?_ GE279.out | refine below_set ?_ GE282.out) | exact HB.out)) : P := h
theorem y158_ {P : Prop} (h : P := by (with_reducible repeat (first | refine blk_drewN ?_ _ | refine blk_drew ?_ | refine blk_alloc ?_ _)); refine blk_put (cs := #[.int .i64 a0_0, .int .i64 a0_1, .slice A0_2 l0_2.length c0_2, .int .i64 a0_3, .int .i64 a0_4, .slice A0_5 l0_5.length c0_5, .int .i64 a0_6, .int .i64 0]) ?_ 7 _ rfl; (with_reducible repeat (first | refine blk_drewN ?_ _ | refine blk_drew ?_ | refine blk_alloc ?_ _)); refine blk_put (cs := #[.int .i64 a0_0, .int .i64 a0_1, .slice A0_2 l0_2.length c0_2, .int .i64 a0_3, .int .i64 a0_4, .slice A0_5 l0_5.length c0_5, .int .i64 0, .int .i64 0]) ?_ 6 _ rfl; (with_reducible repeat (first | refine blk_drewN ?_ _ | refine blk_drew ?_ | refine blk_alloc ?_ _)); refine blk_put (cs := #[.int .i64 a0_0, .int .i64 a0_1, .slice A0_2 l0_2.length c0_2, .int .i64 a0_3, .int .i64 a0_4, .slice none 0 0, .int .i64 0, .int .i64 0]) ?_ 5 _ rfl; (with_reducible repeat (first | refine blk_drewN ?_ _ | refine blk_drew ?_ | refine blk_alloc ?_ _)); refine blk_put (cs := #[.int .i64 a0_0, .int .i64 a0_1, .slice A0_2 l0_2.length c0_2, .int .i64 a0_3, .int .i64 0, .slice none 0 0, .int .i64 0, .int .i64 0]) ?_ 4 _ rfl; (with_reducible repeat (first | refine blk_drewN ?_ _ | refine blk_drew ?_ | refine blk_alloc ?_ _)); refine blk_put (cs := #[.int .i64 a0_0, .int .i64 a0_1, .slice A0_2 l0_2.length c0_2, .int .i64 0, .int .i64 0, .slice none 0 0, .int .i64 0, .int .i64 0]) ?_ 3 _ rfl; (with_reducible repeat (first | refine blk_drewN ?_ _ | refine blk_drew ?_ | refine blk_alloc ?_ _)); refine blk_put (cs := #[.int .i64 a0_0, .int .i64 a0_1, .slice none 0 0, .int .i64 0, .int .i64 0, .slice none 0 0, .int .i64 0, .int .i64 0]) ?_ 2 _ rfl; (with_reducible repeat (first | refine blk_drewN ?_ _ | refine blk_drew ?_ | refine blk_alloc ?_ _)); refine blk_put (cs := #[.int .i64 a0_0, .int .i64 0, .slice none 0 0, .int .i64 0, .int .i64 0, .slice none 0 0, .int .i64 0, .int .i64 0]) ?_ 1 _ rfl; (with_reducible repeat (first | refine blk_drewN ?_ _ | refine blk_drew ?_ | refine blk_alloc ?_ _)); refine blk_put (cs := #[.int .i64 0, .int .i64 0, .slice none 0 0, .int .i64 0, .int .i64 0, .slice none 0 0, .int .i64 0, .int .i64 0]) ?_ 0 _ rfl; (with_reducible repeat (first | refine blk_drewN ?_ _ | refine blk_drew ?_ | refine blk_alloc ?_ _)); exact BK282.out) : P := h
theorem y159_ {P : Prop} (h : P := by (with_reducible repeat (first | refine blk_drewN ?_ _ | refine blk_drew ?_ | refine blk_alloc ?_ _)); refine blk_put (cs := #[.int .i64 0, .int .i64 0, .slice none 0 0, .int .i64 0, .int .i64 0, .slice none 0 0, .int .i64 0, .int .i64 0]) ?_ 7 _ rfl; (with_reducible repeat (first | refine blk_drewN ?_ _ | refine blk_drew ?_ | refine blk_alloc ?_ _)); refine blk_put (cs := #[.int .i64 0, .int .i64 0, .slice none 0 0, .int .i64 0, .int .i64 0, .slice none 0 0, .int .i64 0, .int .i64 0]) ?_ 6 _ rfl; (with_reducible repeat (first | refine blk_drewN ?_ _ | refine blk_drew ?_ | refine blk_alloc ?_ _)); refine blk_put (cs := #[.int .i64 0, .int .i64 0, .slice none 0 0, .int .i64 0, .int .i64 0, .slice none 0 0, .int .i64 0, .int .i64 0]) ?_ 5 _ rfl; (with_reducible repeat (first | refine blk_drewN ?_ _ | refine blk_drew ?_ | refine blk_alloc ?_ _)); refine blk_put (cs := #[.int .i64 0, .int .i64 0, .slice none 0 0, .int .i64 0, .int .i64 0, .slice none 0 0, .int .i64 0, .int .i64 0]) ?_ 4 _ rfl; (with_reducible repeat (first | refine blk_drewN ?_ _ | refine blk_drew ?_ | refine blk_alloc ?_ _)); refine blk_put (cs := #[.int .i64 0, .int .i64 0, .slice none 0 0, .int .i64 0, .int .i64 0, .slice none 0 0, .int .i64 0, .int .i64 0]) ?_ 3 _ rfl; (with_reducible repeat (first | refine blk_drewN ?_ _ | refine blk_drew ?_ | refine blk_alloc ?_ _)); refine blk_put (cs := #[.int .i64 0, .int .i64 0, .slice none 0 0, .int .i64 0, .int .i64 0, .slice none 0 0, .int .i64 0, .int .i64 0]) ?_ 2 _ rfl; (with_reducible repeat (first | refine blk_drewN ?_ _ | refine blk_drew ?_ | refine blk_alloc ?_ _)); refine blk_put (cs := #[.int .i64 0, .int .i64 0, .slice none 0 0, .int .i64 0, .int .i64 0, .slice none 0 0, .int .i64 0, .int .i64 0]) ?_ 1 _ rfl; (with_reducible repeat (first | refine blk_drewN ?_ _ | refine blk_drew ?_ | refine blk_alloc ?_ _)); refine blk_put (cs := #[.int .i64 0, .int .i64 0, .slice none 0 0, .int .i64 0, .int .i64 0, .slice none 0 0, .int .i64 0, .int .i64 0]) ?_ 0 _ rfl; (with_reducible repeat (first | refine blk_drewN ?_ _ | refine blk_drew ?_ | refine blk_alloc ?_ _)); refine blk_far ?_ NB279_282.out _; (with_reducible repeat (first | refine blk_drewN ?_ _ | refine blk_drew ?_ | refine blk_alloc ?_ _)); refine blk_far ?_ NB279_282.out _; (with_reducible repeat (first | refine blk_drewN ?_ _ | refine blk_drew ?_ | refine blk_alloc ?_ _)); exact BK279.out) : P := h
theorem y160_ {P : Prop} (h : P := by repeat (first | (with_reducible first | exact HB.out | apply below_alloc | apply pw_below_drewN | apply below_drew1 | refine below_set ?_ GE277.out | refine below_set ?_ GE278.out | refine below_set ?_ GE279.out) | exact HB.out)) : P := h
theorem y161_ {P : Prop} (h : P := by (with_reducible repeat (first | refine blk_drewN ?_ _ | refine blk_drew ?_ | refine blk_alloc ?_ _)); refine blk_far ?_ NB277_282.out _; (with_reducible repeat (first | refine blk_drewN ?_ _ | refine blk_drew ?_ | refine blk_alloc ?_ _)); refine blk_far ?_ NB277_282.out _; (with_reducible repeat (first | refine blk_drewN ?_ _ | refine blk_drew ?_ | refine blk_alloc ?_ _)); refine blk_far ?_ NB277_282.out _; (with_reducible repeat (first | refine blk_drewN ?_ _ | refine blk_drew ?_ | refine blk_alloc ?_ _)); refine blk_far ?_ NB277_282.out _; (with_reducible repeat (first | refine blk_drewN ?_ _ | refine blk_drew ?_ | refine blk_alloc ?_ _)); refine blk_far ?_ NB277_282.out _; (with_reducible repeat (first | refine blk_drewN ?_ _ | refine blk_drew ?_ | refine blk_alloc ?_ _)); refine blk_far ?_ NB277_282.out _; (with_reducible repeat (first | refine blk_drewN ?_ _ | refine blk_drew ?_ | refine blk_alloc ?_ _)); refine blk_far ?_ NB277_282.out _; (with_reducible repeat (first | refine blk_drewN ?_ _ | refine blk_drew ?_ | refine blk_alloc ?_ _)); refine blk_far ?_ NB277_282.out _; (with_reducible repeat (first | refine blk_drewN ?_ _ | refine blk_drew ?_ | refine blk_alloc ?_ _)); exact BK277.out) : P := h
theorem y162_ {P : Prop} (h : P := by (with_reducible repeat (first | refine blk_drewN ?_ _ | refine blk_drew ?_ | refine blk_alloc ?_ _)); refine blk_far ?_ NB278_282.out _; (with_reducible repeat (first | refine blk_drewN ?_ _ | refine blk_drew ?_ | refine blk_alloc ?_ _)); refine blk_far ?_ NB278_282.out _; (with_reducible repeat (first | refine blk_drewN ?_ _ | refine blk_drew ?_ | refine blk_alloc ?_ _)); refine blk_far ?_ NB278_282.out _; (with_reducible repeat (first | refine blk_drewN ?_ _ | refine blk_drew ?_ | refine blk_alloc ?_ _)); refine blk_far ?_ NB278_282.out _; (with_reducible repeat (first | refine blk_drewN ?_ _ | refine blk_drew ?_ | refine blk_alloc ?_ _)); refine blk_far ?_ NB278_282.out _; (with_reducible repeat (first | refine blk_drewN ?_ _ | refine blk_drew ?_ | refine blk_alloc ?_ _)); refine blk_far ?_ NB278_282.out _; (with_reducible repeat (first | refine blk_drewN ?_ _ | refine blk_drew ?_ | refine blk_alloc ?_ _)); refine blk_far ?_ NB278_282.out _; (with_reducible repeat (first | refine blk_drewN ?_ _ | refine blk_drew ?_ | refine blk_alloc ?_ _)); refine blk_far ?_ NB278_282.out _; (with_reducible repeat (first | refine blk_drewN ?_ _ | refine blk_drew ?_ | refine blk_alloc ?_ _)); exact BK278.out) : P := h
theorem y163_ {P : Prop} (h : P := by (with_reducible repeat (first | refine blk_drewN ?_ _ | refine blk_drew ?_ | refine blk_alloc ?_ _)); refine blk_far ?_ NB279_282.out _; (with_reducible repeat (first | refine blk_drewN ?_ _ | refine blk_drew ?_ | refine blk_alloc ?_ _)); refine blk_far ?_ NB279_282.out _; (with_reducible repeat (first | refine blk_drewN ?_ _ | refine blk_drew ?_ | refine blk_alloc ?_ _)); refine blk_far ?_ NB279_282.out _; (with_reducible repeat (first | refine blk_drewN ?_ _ | refine blk_drew ?_ | refine blk_alloc ?_ _)); refine blk_far ?_ NB279_282.out _; (with_reducible repeat (first | refine blk_drewN ?_ _ | refine blk_drew ?_ | refine blk_alloc ?_ _)); refine blk_far ?_ NB279_282.out _; (with_reducible repeat (first | refine blk_drewN ?_ _ | refine blk_drew ?_ | refine blk_alloc ?_ _)); refine blk_far ?_ NB279_282.out _; (with_reducible repeat (first | refine blk_drewN ?_ _ | refine blk_drew ?_ | refine blk_alloc ?_ _)); refine blk_far ?_ NB279_282.out _; (with_reducible repeat (first | refine blk_drewN ?_ _ | refine blk_drew ?_ | refine blk_alloc ?_ _)); refine blk_far ?_ NB279_282.out _; (with_reducible repeat (first | refine blk_drewN ?_ _ | refine blk_drew ?_ | refine blk_alloc ?_ _)); exact BK279.out) : P := h
theorem y167_ {P : Prop} (h : P := by repeat (first | (with_reducible first | exact HB.out | apply below_alloc | apply pw_below_drewN | apply below_drew1 | refine below_set ?_ GE277.out | refine below_set ?_ GE278.out | refine below_set ?_ GE279.out | refine below_set ?_ GE282.out) | exact HB.out)) : P := h
theorem y169_ {P : Prop} (h : P := by (with_reducible repeat (first | refine blk_drewN ?_ _ | refine blk_drew ?_ | refine blk_alloc ?_ _)); refine blk_put (cs := #[.int .i64 a0_0, .int .i64 a0_1, .slice A0_2 l0_2.length c0_2, .int .i64 a0_3, .int .i64 a0_4, .slice A0_5 l0_5.length c0_5, .int .i64 a0_6, .int .i64 a0_7]) ?_ 2 _ rfl; (with_reducible repeat (first | refine blk_drewN ?_ _ | refine blk_drew ?_ | refine blk_alloc ?_ _)); exact BK282.out) : P := h
theorem y170_ {P : Prop} (h : P := by (with_reducible repeat (first | refine blk_drewN ?_ _ | refine blk_drew ?_ | refine blk_alloc ?_ _)); refine blk_far ?_ NB277_282.out _; (with_reducible repeat (first | refine blk_drewN ?_ _ | refine blk_drew ?_ | refine blk_alloc ?_ _)); exact BK277.out) : P := h
theorem y171_ {P : Prop} (h : P := by (with_reducible repeat (first | refine blk_drewN ?_ _ | refine blk_drew ?_ | refine blk_alloc ?_ _)); refine blk_far ?_ NB278_282.out _; (with_reducible repeat (first | refine blk_drewN ?_ _ | refine blk_drew ?_ | refine blk_alloc ?_ _)); exact BK278.out) : P := h
theorem y172_ {P : Prop} (h : P := by (with_reducible repeat (first | refine blk_drewN ?_ _ | refine blk_drew ?_ | refine blk_alloc ?_ _)); refine blk_far ?_ NB279_282.out _; (with_reducible repeat (first | refine blk_drewN ?_ _ | refine blk_drew ?_ | refine blk_alloc ?_ _)); exact BK279.out) : P := h
theorem y173_ {P : Prop} (h : P := by rw [hg]; exact Nat.ne_of_lt (blk_lt (bd_ BK277.out))) : P := h
theorem y174_ {P : Prop} (h : P := by rw [hg]; exact Nat.ne_of_gt (blk_lt (bd_ BK277.out))) : P := h
theorem y175_ {P : Prop} (h : P := by repeat (first | (with_reducible first | exact HB.out | apply below_alloc | apply pw_below_drewN | apply below_drew1 | refine below_set ?_ GE277.out | refine below_set ?_ GE278.out | refine below_set ?_ GE279.out) | exact HB.out)) : P := h
theorem y176_ {P : Prop} (h : P := by rw [hg]; exact Nat.ne_of_lt (blk_lt (bd_ BK278.out))) : P := h
theorem y177_ {P : Prop} (h : P := by rw [hg]; exact Nat.ne_of_gt (blk_lt (bd_ BK278.out))) : P := h
theorem y178_ {P : Prop} (h : P := by repeat (first | (with_reducible first | exact HB.out | apply below_alloc | apply pw_below_drewN | apply below_drew1 | refine below_set ?_ GE277.out | refine below_set ?_ GE278.out) | exact HB.out)) : P := h
theorem y179_ {P : Prop} (h : P := by repeat (first | (with_reducible first | exact HB.out | apply below_alloc | apply pw_below_drewN | apply below_drew1 | refine below_set ?_ GE277.out) | exact HB.out)) : P := h
theorem y180_ {P : Prop} (h : P := by rw [hg]; exact Nat.ne_of_lt (blk_lt (bd_ BK279.out))) : P := h
theorem y181_ {P : Prop} (h : P := by rw [hg]; exact Nat.ne_of_gt (blk_lt (bd_ BK279.out))) : P := h
theorem y183_ {P : Prop} (h : P := by (with_reducible repeat (first | apply Kd.R_alloc | apply Kd.R_drewN | apply Kd.R_drew)); exact (Kd.R_mono (Kd.R_far (p := ⟨gb282, 2, none⟩) (Kd.R_types HO286.out BK282.out (by decide)) (fun _ hk => hk.2) (.slice Ao109 t283.length co109)) (fun _ h_ => h_.1))) : P := h
theorem y184_ {P : Prop} (h : P := by (with_reducible repeat (first | apply Kd.R_alloc | apply Kd.R_drewN | apply Kd.R_drew)); exact (Kd.R_mono (Kd.R_far (p := ⟨gb282, 2, none⟩) (Kd.R_types HO286.out BK282.out (by decide)) (fun _ hk => hk.2) (.slice Ao133 t283.length co133)) (fun _ h_ => h_.1))) : P := h
theorem y185_ {P : Prop} (h : P := by (with_reducible repeat (first | apply Kd.R_alloc | apply Kd.R_drewN | apply Kd.R_drew)); exact (Kd.R_mono (Kd.R_far (p := ⟨gb282, 2, none⟩) (Kd.R_types HO286.out BK282.out (by decide)) (fun _ hk => hk.2) (.slice Ao54 t283.length co54)) (fun _ h_ => h_.1))) : P := h
theorem y186_ {P : Prop} (h : P := by (with_reducible repeat (first | apply Kd.R_alloc | apply Kd.R_drewN | apply Kd.R_drew)); exact (Kd.R_mono (Kd.R_far (p := ⟨gb282, 2, none⟩) (Kd.R_types HO286.out BK282.out (by decide)) (fun _ hk => hk.2) (.slice Ao82 t283.length co82)) (fun _ h_ => h_.1))) : P := h
theorem y187_ {P : Prop} (h : P := by rw [hg]; exact (below_size y160_)) : P := h
set_option maxHeartbeats 8000000 in
set_option maxRecDepth 100000 in
theorem impl_Sharpen.calls (k : Nat) (a0_0 : Int) (a0_1 : Int) (A0_2 : Option Addr) (c0_2 : Nat) (l0_2 : List Int) (a0_3 : Int) (a0_4 : Int) (A0_5 : Option Addr) (c0_5 : Nat) (l0_5 : List Int) (a0_6 : Int) (a0_7 : Int) (a1_0 : Int) (a1_1 : Int) (A1_2 : Option Addr) (c1_2 : Nat) (l1_2 : List Int) (a1_3 : Int) (a1_4 : Int) (A1_5 : Option Addr) (c1_5 : Nat) (l1_5 : List Int) (a1_6 : Int) (a1_7 : Int) (r1 : Int) (r2 : Int) (r3 : List Int) (r4 : Int) (r5 : Int) (r6 : List Int) (r7 : Int) (r8 : Int) (r9 : Bool) (w : World) (hr0_2 : Kd.C (Kd.int .i64) w A0_2 l0_2.length l0_2) (hc0_2 : l0_2.length ≤ c0_2) (hr0_5 : Kd.C (Kd.int .i64) w A0_5 l0_5.length l0_5) (hc0_5 : l0_5.length ≤ c0_5) (hr1_2 : Kd.C (Kd.int .i64) w A1_2 l1_2.length l1_2) (hc1_2 : l1_2.length ≤ c1_2) (hr1_5 : Kd.C (Kd.int .i64) w A1_5 l1_5.length l1_5) (hc1_5 : l1_5.length ≤ c1_5) (h : impl_Sharpen.f k a0_0 a0_1 l0_2 a0_3 a0_4 l0_5 a0_6 a0_7 a1_0 a1_1 l1_2 a1_3 a1_4 l1_5 a1_6 a1_7 = some (r1, r2, r3, r4, r5, r6, r7, r8, r9)) :
  Calls Try.prog 51 #[.agg #[.int .i64 a0_0, .int .i64 a0_1, .slice A0_2 l0_2.length c0_2, .int .i64 a0_3, .int .i64 a0_4, .slice A0_5 l0_5.length c0_5, .int .i64 a0_6, .int .i64 a0_7], .agg #[.int .i64 a1_0, .int .i64 a1_1, .slice A1_2 l1_2.length c1_2, .int .i64 a1_3, .int .i64 a1_4, .slice A1_5 l1_5.length c1_5, .int .i64 a1_6, .int .i64 a1_7]] w fun e w' => ∃ v2_ v5_ : Value, e = .returned (.tuple #[.agg #[.int .i64 r1, .int .i64 r2, v2_, .int .i64 r4, .int .i64 r5, v5_, .int .i64 r7, .int .i64 r8], .bool r9]) ∧ Kd.R (Kd.int .i64) 3 w' w.heap.size (fun k_ => some k_ ≠ (v5_ : Value).ownBlock) v2_ r3 ∧ Kd.R (Kd.int .i64) 3 w' w.heap.size (fun k_ => some k_ ≠ (v2_ : Value).ownBlock) v5_ r6 ∧ Below w.heap.size w w' := by
 have hu41 := Try.underlying41
 have hu39 := Try.underlying39
 have HR0_2 := Aside0.mk hr0_2
 have HC0_2 := Aside0.mk hc0_2
 clear hr0_2 hc0_2
 have HR0_5 := Aside0.mk hr0_5
 have HC0_5 := Aside0.mk hc0_5
 clear hr0_5 hc0_5
 have HR1_2 := Aside0.mk hr1_2
 have HC1_2 := Aside0.mk hc1_2
 clear hr1_2 hc1_2
 have HR1_5 := Aside0.mk hr1_5
 have HC1_5 := Aside0.mk hc1_5
 clear hr1_5 hc1_5
 have HB := Aside0.mk (Below.refl w.heap.size w)
 have H : ((impl_IsReport.f k a0_0 a0_1 l0_2 a0_3 a0_4 l0_5 a0_6 a0_7).bind fun t280 => (if t280 = true then ((impl_IsReport.f k a1_0 a1_1 l1_2 a1_3 a1_4 l1_5 a1_6 a1_7).bind fun t281 => (if t281 = true then (impl_Sharpen.j0 k (a0_1 != a1_1) a0_0 a0_1 l0_2 a0_3 a0_4 l0_5 a0_6 a0_7 a1_0 a1_1 l1_2 a1_3 a1_4 l1_5 a1_6 a1_7) else (impl_Sharpen.j0 k true a0_0 a0_1 l0_2 a0_3 a0_4 l0_5 a0_6 a0_7 a1_0 a1_1 l1_2 a1_3 a1_4 l1_5 a1_6 a1_7))) else (impl_Sharpen.j0 k true a0_0 a0_1 l0_2 a0_3 a0_4 l0_5 a0_6 a0_7 a1_0 a1_1 l1_2 a1_3 a1_4 l1_5 a1_6 a1_7))) = some (r1, r2, r3, r4, r5, r6, r7, r8, r9) := h
 clear h
 have HC3 := Aside0.mk H
 clear H
 go_enter Try.func51, Try.ntmps51
 go_upto_region 1 with (first | ((with_reducible refine gate_dst (N := 2) rfl ?_); refine box_event ?hg (N := 2) ?hd (cs := #[.int .i64 a0_0, .int .i64 a0_1, .slice A0_2 l0_2.length c0_2, .int .i64 a0_3, .int .i64 a0_4, .slice A0_5 l0_5.length c0_5, .int .i64 a0_6, .int .i64 a0_7]) (t := 41) ?hr ?_; (case hd => rfl); (case hg => rfl); (case hr => first | (go_simp; done) | (go_simp; rfl)); intro gb277 hg w4 hbox hb; have n0_ := Aside0.mk (below_step (hd_ HB.out) hb); have BK277 := Aside0.mk (hbox); have GW277 := Aside0.mk ((by rw [hg]; exact (below_size (hd_ HB.out)) : w.heap.size ≤ gb277)); have GE277 := Aside0.mk ((by rw [hg]; exact (below_size (hd_ HB.out)) : w.heap.size ≤ gb277)); clear HB; have HB := n0_; clear n0_; clear hb hbox hg) | ((with_reducible refine gate_dst (N := 3) rfl ?_); refine box_event ?hg (N := 3) ?hd (cs := #[.int .i64 a1_0, .int .i64 a1_1, .slice A1_2 l1_2.length c1_2, .int .i64 a1_3, .int .i64 a1_4, .slice A1_5 l1_5.length c1_5, .int .i64 a1_6, .int .i64 a1_7]) (t := 41) ?hr ?_; (case hd => rfl); (case hg => rfl); (case hr => first | (go_simp; done) | (go_simp; rfl)); intro gb278 hg w5 hbox hb; have n0_ := Aside0.mk (blk_below (bd_ BK277.out) hb); have n1_ := Aside0.mk (below_step y179_ hb); have BK278 := Aside0.mk (hbox); have GW278 := Aside0.mk ((by rw [hg]; exact (below_size y179_) : w.heap.size ≤ gb278)); have GE278 := Aside0.mk ((by rw [hg]; exact (below_size y179_) : w.heap.size ≤ gb278)); have NB277_278 := Aside0.mk ((y173_ : gb277 ≠ gb278)); have NB278_277 := Aside0.mk ((y174_ : gb278 ≠ gb277)); clear BK277; clear HB; have BK277 := n0_; have HB := n1_; clear n0_ n1_; clear hb hbox hg) | ((with_reducible refine gate_dst (N := 4) rfl ?_); refine box_event ?hg (N := 4) ?hd (cs := #[.int .i64 0, .int .i64 0, .slice none 0 0, .int .i64 0, .int .i64 0, .slice none 0 0, .int .i64 0, .int .i64 0]) (t := 41) ?hr ?_; (case hd => rfl); (case hg => rfl); (case hr => first | (go_simp; done) | (go_simp; rfl)); intro gb279 hg w6 hbox hb; have n0_ := Aside0.mk (blk_below (bd_ BK277.out) hb); have n1_ := Aside0.mk (blk_below (bd_ BK278.out) hb); have n2_ := Aside0.mk (below_step y178_ hb); have BK279 := Aside0.mk (hbox); have GW279 := Aside0.mk ((by rw [hg]; exact (below_size y178_) : w.heap.size ≤ gb279)); have GE279 := Aside0.mk ((by rw [hg]; exact (below_size y178_) : w.heap.size ≤ gb279)); have NB277_279 := Aside0.mk ((y173_ : gb277 ≠ gb279)); have NB279_277 := Aside0.mk ((y174_ : gb279 ≠ gb277)); have NB278_279 := Aside0.mk ((y176_ : gb278 ≠ gb279)); have NB279_278 := Aside0.mk ((y177_ : gb279 ≠ gb278)); clear BK277; clear BK278; clear HB; have BK277 := n0_; have BK278 := n1_; have HB := n2_; clear n0_ n1_ n2_; clear hb hbox hg))
 (try simp only [Act.put, List.setIfInBounds_toArray, List.set_cons_zero, List.set_cons_succ])
 go_cut [24] (fun v24 wc => ∃ (kq : Nat) (x24_2 : Bool), v24 = .bool x24_2 ∧ Aside0 (impl_Sharpen.j0 kq x24_2 a0_0 a0_1 l0_2 a0_3 a0_4 l0_5 a0_6 a0_7 a1_0 a1_1 l1_2 a1_3 a1_4 l1_5 a1_6 a1_7 = some (r1, r2, r3, r4, r5, r6, r7, r8, r9)) ∧ Aside0 (kq ≤ k) ∧ Aside0 (wc.heap[gb277]? = some (.cells #[.int .i64 a0_0, .int .i64 a0_1, (.slice A0_2 l0_2.length c0_2), .int .i64 a0_3, .int .i64 a0_4, (.slice A0_5 l0_5.length c0_5), .int .i64 a0_6, .int .i64 a0_7] 41 (0, 0))) ∧ Aside0 (wc.heap[gb278]? = some (.cells #[.int .i64 a1_0, .int .i64 a1_1, (.slice A1_2 l1_2.length c1_2), .int .i64 a1_3, .int .i64 a1_4, (.slice A1_5 l1_5.length c1_5), .int .i64 a1_6, .int .i64 a1_7] 41 (0, 0))) ∧ Aside0 (wc.heap[gb279]? = some (.cells #[.int .i64 0, .int .i64 0, (.slice none 0 0), .int .i64 0, .int .i64 0, (.slice none 0 0), .int .i64 0, .int .i64 0] 41 (0, 0))) ∧ Aside0 (Below w.heap.size w wc))
 case first =>
  have H := HC3.out
  clear HC3
  replace H := Option.bind_eq_some_iff.mp H
  obtain ⟨t280, A70, H⟩ := H
  replace H : (if t280 = true then ((impl_IsReport.f k a1_0 a1_1 l1_2 a1_3 a1_4 l1_5 a1_6 a1_7).bind fun t281 => (if t281 = true then (impl_Sharpen.j0 k (a0_1 != a1_1) a0_0 a0_1 l0_2 a0_3 a0_4 l0_5 a0_6 a0_7 a1_0 a1_1 l1_2 a1_3 a1_4 l1_5 a1_6 a1_7) else (impl_Sharpen.j0 k true a0_0 a0_1 l0_2 a0_3 a0_4 l0_5 a0_6 a0_7 a1_0 a1_1 l1_2 a1_3 a1_4 l1_5 a1_6 a1_7))) else (impl_Sharpen.j0 k true a0_0 a0_1 l0_2 a0_3 a0_4 l0_5 a0_6 a0_7 a1_0 a1_1 l1_2 a1_3 a1_4 l1_5 a1_6 a1_7)) = some (r1, r2, r3, r4, r5, r6, r7, r8, r9) := H
  have A7 := Aside0.mk A70
  clear A70
  by_cases c8 : t280 = true
  ·
   subst c8
   have H1 : ((impl_IsReport.f k a1_0 a1_1 l1_2 a1_3 a1_4 l1_5 a1_6 a1_7).bind fun t281 => (if t281 = true then (impl_Sharpen.j0 k (a0_1 != a1_1) a0_0 a0_1 l0_2 a0_3 a0_4 l0_5 a0_6 a0_7 a1_0 a1_1 l1_2 a1_3 a1_4 l1_5 a1_6 a1_7) else (impl_Sharpen.j0 k true a0_0 a0_1 l0_2 a0_3 a0_4 l0_5 a0_6 a0_7 a1_0 a1_1 l1_2 a1_3 a1_4 l1_5 a1_6 a1_7))) = some (r1, r2, r3, r4, r5, r6, r7, r8, r9) := by rw [if_pos rfl] at H; exact H
   clear H
   have H := H1
   clear H1
   replace H := Option.bind_eq_some_iff.mp H
   obtain ⟨t281, A90, H⟩ := H
   replace H : (if t281 = true then (impl_Sharpen.j0 k (a0_1 != a1_1) a0_0 a0_1 l0_2 a0_3 a0_4 l0_5 a0_6 a0_7 a1_0 a1_1 l1_2 a1_3 a1_4 l1_5 a1_6 a1_7) else (impl_Sharpen.j0 k true a0_0 a0_1 l0_2 a0_3 a0_4 l0_5 a0_6 a0_7 a1_0 a1_1 l1_2 a1_3 a1_4 l1_5 a1_6 a1_7)) = some (r1, r2, r3, r4, r5, r6, r7, r8, r9) := H
   have A9 := Aside0.mk A90
   clear A90
   by_cases c10 : t281 = true
   ·
    subst c10
    have H1 : (impl_Sharpen.j0 k (a0_1 != a1_1) a0_0 a0_1 l0_2 a0_3 a0_4 l0_5 a0_6 a0_7 a1_0 a1_1 l1_2 a1_3 a1_4 l1_5 a1_6 a1_7) = some (r1, r2, r3, r4, r5, r6, r7, r8, r9) := by rw [if_pos rfl] at H; exact H
    clear H
    have H := H1
    clear H1
    have H' := Aside0.mk H
    clear H
    have hnb11 := NB277_278.out
    have hnc11 := NB278_277.out
    have hnb12 := NB277_279.out
    have hnc12 := NB279_277.out
    obtain ⟨hcz13_0, hcz13_1, hcz13_2, hcz13_3, hcz13_4, hcz13_5, hcz13_6, hcz13_7⟩ := e155_ BK277.out
    obtain ⟨hfz13_0, hfz13_1, hfz13_2, hfz13_3, hfz13_4, hfz13_5, hfz13_6, hfz13_7⟩ := z156_ BK277.out
    go_wp2_with (first | ((with_reducible refine gate_callee (f := 80) rfl ?_); refine goesL_ (some 11) rfl rfl Try.func80 (by kernel_rfl) rfl #[.agg #[.int .i64 a0_0, .int .i64 a0_1, .slice A0_2 l0_2.length c0_2, .int .i64 a0_3, .int .i64 a0_4, .slice A0_5 l0_5.length c0_5, .int .i64 a0_6, .int .i64 a0_7]] rfl ma_ ?_; (with_reducible refine (impl_IsReport.calls k a0_0 a0_1 _ _ l0_2 a0_3 a0_4 _ _ l0_5 a0_6 a0_7 true _ ?side1 ?side2 ?side3 ?side4 A7.out).mono ?_); (case side1 => exact cd_ (Kd.C_below HR0_2.out HB.out)); (case side2 => exact HC0_2.out); (case side3 => exact cd_ (Kd.C_below HR0_5.out HB.out)); (case side4 => exact HC0_5.out); rintro e w14 ⟨rfl, hb⟩; refine ⟨_, rfl, ?_⟩; have n0_ := Aside0.mk (blk_below (bd_ BK277.out) hb); have n1_ := Aside0.mk (blk_below (bd_ BK278.out) hb); have n2_ := Aside0.mk (blk_below (bd_ BK279.out) hb); have n3_ := Aside0.mk (below_step y160_ hb); clear BK277; clear BK278; clear BK279; clear HB; have BK277 := n0_; have BK278 := n1_; have BK279 := n2_; have HB := n3_; clear n0_ n1_ n2_ n3_; (try clear hb); (try clear hb2); (try clear hk); (try clear hi); have hnb15 := NB278_279.out; have hnc15 := NB279_278.out; obtain ⟨hcz16_0, hcz16_1, hcz16_2, hcz16_3, hcz16_4, hcz16_5, hcz16_6, hcz16_7⟩ := e155_ BK278.out; obtain ⟨hfz16_0, hfz16_1, hfz16_2, hfz16_3, hfz16_4, hfz16_5, hfz16_6, hfz16_7⟩ := z156_ BK278.out) | (go_at_call 80; (with_reducible refine (impl_IsReport.calls k a1_0 a1_1 _ _ l1_2 a1_3 a1_4 _ _ l1_5 a1_6 a1_7 true _ ?side1 ?side2 ?side3 ?side4 A9.out).mono ?_); (case side1 => exact cd_ (Kd.C_below HR1_2.out HB.out)); (case side2 => exact HC1_2.out); (case side3 => exact cd_ (Kd.C_below HR1_5.out HB.out)); (case side4 => exact HC1_5.out); rintro e w17 ⟨rfl, hb⟩; have n0_ := Aside0.mk (blk_below (bd_ BK277.out) hb); have n1_ := Aside0.mk (blk_below (bd_ BK278.out) hb); have n2_ := Aside0.mk (blk_below (bd_ BK279.out) hb); have n3_ := Aside0.mk (below_step y160_ hb); clear BK277; clear BK278; clear BK279; clear HB; have BK277 := n0_; have BK278 := n1_; have BK279 := n2_; have HB := n3_; clear n0_ n1_ n2_ n3_; (try clear hb); (try clear hb2); (try clear hk); (try clear hi); obtain ⟨hcz18_0, hcz18_1, hcz18_2, hcz18_3, hcz18_4, hcz18_5, hcz18_6, hcz18_7⟩ := e155_ BK277.out; obtain ⟨hfz18_0, hfz18_1, hfz18_2, hfz18_3, hfz18_4, hfz18_5, hfz18_6, hfz18_7⟩ := z156_ BK277.out; obtain ⟨hcz19_0, hcz19_1, hcz19_2, hcz19_3, hcz19_4, hcz19_5, hcz19_6, hcz19_7⟩ := e155_ BK278.out; obtain ⟨hfz19_0, hfz19_1, hfz19_2, hfz19_3, hfz19_4, hfz19_5, hfz19_6, hfz19_7⟩ := z156_ BK278.out))
    go_meet
    case rel => exact ⟨_, ((a0_1 != a1_1)), (by first | rfl | (simp; done) | (simp [*]; done)), H', ⟨by first | omega | exact Nat.le_refl _⟩, ⟨bd_ BK277.out⟩, ⟨bd_ BK278.out⟩, ⟨bd_ BK279.out⟩, ⟨y175_⟩⟩
   ·
    replace c10 := Bool.eq_false_iff.mpr c10
    subst c10
    have H1 : (impl_Sharpen.j0 k true a0_0 a0_1 l0_2 a0_3 a0_4 l0_5 a0_6 a0_7 a1_0 a1_1 l1_2 a1_3 a1_4 l1_5 a1_6 a1_7) = some (r1, r2, r3, r4, r5, r6, r7, r8, r9) := by rw [if_neg (show ¬ (false = true) by decide)] at H; exact H
    clear H
    have H := H1
    clear H1
    have H' := Aside0.mk H
    clear H
    have hnb20 := NB277_278.out
    have hnc20 := NB278_277.out
    have hnb21 := NB277_279.out
    have hnc21 := NB279_277.out
    obtain ⟨hcz22_0, hcz22_1, hcz22_2, hcz22_3, hcz22_4, hcz22_5, hcz22_6, hcz22_7⟩ := e155_ BK277.out
    obtain ⟨hfz22_0, hfz22_1, hfz22_2, hfz22_3, hfz22_4, hfz22_5, hfz22_6, hfz22_7⟩ := z156_ BK277.out
    go_wp2_with (first | ((with_reducible refine gate_callee (f := 80) rfl ?_); refine goesL_ (some 11) rfl rfl Try.func80 (by kernel_rfl) rfl #[.agg #[.int .i64 a0_0, .int .i64 a0_1, .slice A0_2 l0_2.length c0_2, .int .i64 a0_3, .int .i64 a0_4, .slice A0_5 l0_5.length c0_5, .int .i64 a0_6, .int .i64 a0_7]] rfl ma_ ?_; (with_reducible refine (impl_IsReport.calls k a0_0 a0_1 _ _ l0_2 a0_3 a0_4 _ _ l0_5 a0_6 a0_7 true _ ?side1 ?side2 ?side3 ?side4 A7.out).mono ?_); (case side1 => exact cd_ (Kd.C_below HR0_2.out HB.out)); (case side2 => exact HC0_2.out); (case side3 => exact cd_ (Kd.C_below HR0_5.out HB.out)); (case side4 => exact HC0_5.out); rintro e w23 ⟨rfl, hb⟩; refine ⟨_, rfl, ?_⟩; have n0_ := Aside0.mk (blk_below (bd_ BK277.out) hb); have n1_ := Aside0.mk (blk_below (bd_ BK278.out) hb); have n2_ := Aside0.mk (blk_below (bd_ BK279.out) hb); have n3_ := Aside0.mk (below_step y160_ hb); clear BK277; clear BK278; clear BK279; clear HB; have BK277 := n0_; have BK278 := n1_; have BK279 := n2_; have HB := n3_; clear n0_ n1_ n2_ n3_; (try clear hb); (try clear hb2); (try clear hk); (try clear hi); have hnb24 := NB278_279.out; have hnc24 := NB279_278.out; obtain ⟨hcz25_0, hcz25_1, hcz25_2, hcz25_3, hcz25_4, hcz25_5, hcz25_6, hcz25_7⟩ := e155_ BK278.out; obtain ⟨hfz25_0, hfz25_1, hfz25_2, hfz25_3, hfz25_4, hfz25_5, hfz25_6, hfz25_7⟩ := z156_ BK278.out) | (go_at_call 80; (with_reducible refine (impl_IsReport.calls k a1_0 a1_1 _ _ l1_2 a1_3 a1_4 _ _ l1_5 a1_6 a1_7 false _ ?side1 ?side2 ?side3 ?side4 A9.out).mono ?_); (case side1 => exact cd_ (Kd.C_below HR1_2.out HB.out)); (case side2 => exact HC1_2.out); (case side3 => exact cd_ (Kd.C_below HR1_5.out HB.out)); (case side4 => exact HC1_5.out); rintro e w26 ⟨rfl, hb⟩; have n0_ := Aside0.mk (blk_below (bd_ BK277.out) hb); have n1_ := Aside0.mk (blk_below (bd_ BK278.out) hb); have n2_ := Aside0.mk (blk_below (bd_ BK279.out) hb); have n3_ := Aside0.mk (below_step y160_ hb); clear BK277; clear BK278; clear BK279; clear HB; have BK277 := n0_; have BK278 := n1_; have BK279 := n2_; have HB := n3_; clear n0_ n1_ n2_ n3_; (try clear hb); (try clear hb2); (try clear hk); (try clear hi)))
    go_meet
    case rel => exact ⟨_, (true), (by first | rfl | (simp; done) | (simp [*]; done)), H', ⟨by first | omega | exact Nat.le_refl _⟩, ⟨bd_ BK277.out⟩, ⟨bd_ BK278.out⟩, ⟨bd_ BK279.out⟩, ⟨y175_⟩⟩
  ·
   replace c8 := Bool.eq_false_iff.mpr c8
   subst c8
   have H1 : (impl_Sharpen.j0 k true a0_0 a0_1 l0_2 a0_3 a0_4 l0_5 a0_6 a0_7 a1_0 a1_1 l1_2 a1_3 a1_4 l1_5 a1_6 a1_7) = some (r1, r2, r3, r4, r5, r6, r7, r8, r9) := by rw [if_neg (show ¬ (false = true) by decide)] at H; exact H
   clear H
   have H := H1
   clear H1
   have H' := Aside0.mk H
   clear H
   have hnb27 := NB277_278.out
   have hnc27 := NB278_277.out
   have hnb28 := NB277_279.out
   have hnc28 := NB279_277.out
   obtain ⟨hcz29_0, hcz29_1, hcz29_2, hcz29_3, hcz29_4, hcz29_5, hcz29_6, hcz29_7⟩ := e155_ BK277.out
   obtain ⟨hfz29_0, hfz29_1, hfz29_2, hfz29_3, hfz29_4, hfz29_5, hfz29_6, hfz29_7⟩ := z156_ BK277.out
   go_wp2_with (first | ((with_reducible refine gate_callee (f := 80) rfl ?_); refine goesL_ (some 11) rfl rfl Try.func80 (by kernel_rfl) rfl #[.agg #[.int .i64 a0_0, .int .i64 a0_1, .slice A0_2 l0_2.length c0_2, .int .i64 a0_3, .int .i64 a0_4, .slice A0_5 l0_5.length c0_5, .int .i64 a0_6, .int .i64 a0_7]] rfl ma_ ?_; (with_reducible refine (impl_IsReport.calls k a0_0 a0_1 _ _ l0_2 a0_3 a0_4 _ _ l0_5 a0_6 a0_7 false _ ?side1 ?side2 ?side3 ?side4 A7.out).mono ?_); (case side1 => exact cd_ (Kd.C_below HR0_2.out HB.out)); (case side2 => exact HC0_2.out); (case side3 => exact cd_ (Kd.C_below HR0_5.out HB.out)); (case side4 => exact HC0_5.out); rintro e w30 ⟨rfl, hb⟩; refine ⟨_, rfl, ?_⟩; have n0_ := Aside0.mk (blk_below (bd_ BK277.out) hb); have n1_ := Aside0.mk (blk_below (bd_ BK278.out) hb); have n2_ := Aside0.mk (blk_below (bd_ BK279.out) hb); have n3_ := Aside0.mk (below_step y160_ hb); clear BK277; clear BK278; clear BK279; clear HB; have BK277 := n0_; have BK278 := n1_; have BK279 := n2_; have HB := n3_; clear n0_ n1_ n2_ n3_; (try clear hb); (try clear hb2); (try clear hk); (try clear hi)))
   go_meet
   case rel => exact ⟨_, (true), (by first | rfl | (simp; done) | (simp [*]; done)), H', ⟨by first | omega | exact Nat.le_refl _⟩, ⟨bd_ BK277.out⟩, ⟨bd_ BK278.out⟩, ⟨bd_ BK279.out⟩, ⟨y175_⟩⟩
 case rest =>
  clear HC3
  try clear c1
  try clear c2
  try clear p2
  try clear c5
  try clear c8
  try clear c10
  try clear c11
  try clear c12
  try clear c15
  try clear c20
  try clear c21
  try clear c24
  try clear c27
  try clear c28
  obtain ⟨kq, x24_2, rfl, HA, HJ2, BK277, BK278, BK279, HB⟩ := hcut
  cases kq with
  | zero => exact absurd HA.out (by simp [impl_Sharpen.j0])
  | succ kj2 =>
   have H := HA.out
   clear HA
   simp only [impl_Sharpen.j0] at H
   by_cases c31 : x24_2 = true
   ·
    subst c31
    have H1 : (some (0, 0, ([] : List Int), 0, 0, ([] : List Int), 0, 0, false)) = some (r1, r2, r3, r4, r5, r6, r7, r8, r9) := by rw [if_pos rfl] at H; exact H
    clear H
    have H := H1
    clear H1
    simp only [Option.some.injEq, Prod.mk.injEq] at H
    obtain ⟨rfl, rfl, rfl, rfl, rfl, rfl, rfl, rfl, rfl⟩ := H
    have hnb32 := NB279_277.out
    have hnc32 := NB277_279.out
    have hnb33 := NB279_278.out
    have hnc33 := NB278_279.out
    obtain ⟨hcz34_0, hcz34_1, hcz34_2, hcz34_3, hcz34_4, hcz34_5, hcz34_6, hcz34_7⟩ := e155_ BK279.out
    obtain ⟨hfz34_0, hfz34_1, hfz34_2, hfz34_3, hfz34_4, hfz34_5, hfz34_6, hfz34_7⟩ := z156_ BK279.out
    go_wp2
    refine bodyPost_ret (results_ct rfl _ _ gb279 41 #[.int .i64 0, .int .i64 0, .slice none 0 0, .int .i64 0, .int .i64 0, .slice none 0 0, .int .i64 0, .int .i64 0] (0, 0) _ rfl (by (with_reducible repeat (first | refine blk_drewN ?_ _ | refine blk_drew ?_ | refine blk_alloc ?_ _)); refine blk_put (cs := #[.int .i64 0, .int .i64 0, .slice none 0 0, .int .i64 0, .int .i64 0, .slice none 0 0, .int .i64 0, .int .i64 0]) ?_ 7 _ rfl; (with_reducible repeat (first | refine blk_drewN ?_ _ | refine blk_drew ?_ | refine blk_alloc ?_ _)); refine blk_put (cs := #[.int .i64 0, .int .i64 0, .slice none 0 0, .int .i64 0, .int .i64 0, .slice none 0 0, .int .i64 0, .int .i64 0]) ?_ 6 _ rfl; (with_reducible repeat (first | refine blk_drewN ?_ _ | refine blk_drew ?_ | refine blk_alloc ?_ _)); refine blk_put (cs := #[.int .i64 0, .int .i64 0, .slice none 0 0, .int .i64 0, .int .i64 0, .slice none 0 0, .int .i64 0, .int .i64 0]) ?_ 5 _ rfl; (with_reducible repeat (first | refine blk_drewN ?_ _ | refine blk_drew ?_ | refine blk_alloc ?_ _)); refine blk_put (cs := #[.int .i64 0, .int .i64 0, .slice none 0 0, .int .i64 0, .int .i64 0, .slice none 0 0, .int .i64 0, .int .i64 0]) ?_ 4 _ rfl; (with_reducible repeat (first | refine blk_drewN ?_ _ | refine blk_drew ?_ | refine blk_alloc ?_ _)); refine blk_put (cs := #[.int .i64 0, .int .i64 0, .slice none 0 0, .int .i64 0, .int .i64 0, .slice none 0 0, .int .i64 0, .int .i64 0]) ?_ 3 _ rfl; (with_reducible repeat (first | refine blk_drewN ?_ _ | refine blk_drew ?_ | refine blk_alloc ?_ _)); refine blk_put (cs := #[.int .i64 0, .int .i64 0, .slice none 0 0, .int .i64 0, .int .i64 0, .slice none 0 0, .int .i64 0, .int .i64 0]) ?_ 2 _ rfl; (with_reducible repeat (first | refine blk_drewN ?_ _ | refine blk_drew ?_ | refine blk_alloc ?_ _)); refine blk_put (cs := #[.int .i64 0, .int .i64 0, .slice none 0 0, .int .i64 0, .int .i64 0, .slice none 0 0, .int .i64 0, .int .i64 0]) ?_ 1 _ rfl; (with_reducible repeat (first | refine blk_drewN ?_ _ | refine blk_drew ?_ | refine blk_alloc ?_ _)); refine blk_put (cs := #[.int .i64 0, .int .i64 0, .slice none 0 0, .int .i64 0, .int .i64 0, .slice none 0 0, .int .i64 0, .int .i64 0]) ?_ 0 _ rfl; (with_reducible repeat (first | refine blk_drewN ?_ _ | refine blk_drew ?_ | refine blk_alloc ?_ _)); exact BK279.out) Try.underlying41 rfl (by kernel_rfl)) rfl ?_
    exact ⟨_, _, by first | rfl | (simp [errW_none, errW_some] <;> rfl) | (simp [*, errW_none, errW_some] <;> rfl), by first | exact Kd.R_nil _ _ _ _ _ | exact Kd.N_nil _ _ _ _ _ | exact Kd.V_nil _ _ _ _ _ | exact Kd.Q_nil _ _ _ _ _ | exact Kd.S_nil _ _ _ _ _, by first | exact Kd.R_nil _ _ _ _ _ | exact Kd.N_nil _ _ _ _ _ | exact Kd.V_nil _ _ _ _ _ | exact Kd.Q_nil _ _ _ _ _ | exact Kd.S_nil _ _ _ _ _, y175_⟩
   ·
    replace c31 := Bool.eq_false_iff.mpr c31
    subst c31
    have H1 : ((impl_both.f kj2 l0_2 l1_2).bind fun bt283 => ((impl_both.f kj2 l0_5 l1_5).bind fun bt287 => (if bt283.2 = true then (if bt287.2 = true then (if (mx a0_3 a1_3) > (mn a0_4 a1_4) then (some (0, 0, ([] : List Int), 0, 0, ([] : List Int), 0, 0, false)) else (some (a0_0, a0_1, bt283.1, mx a0_3 a1_3, mn a0_4 a1_4, bt287.1, mx a0_6 a1_6, mx (mx a0_6 a1_6) (mn a0_7 a1_7), true))) else (some (0, 0, ([] : List Int), 0, 0, ([] : List Int), 0, 0, false))) else (some (0, 0, ([] : List Int), 0, 0, ([] : List Int), 0, 0, false))))) = some (r1, r2, r3, r4, r5, r6, r7, r8, r9) := by rw [if_neg (show ¬ (false = true) by decide)] at H; exact H
    clear H
    have H := H1
    clear H1
    replace H := Option.bind_eq_some_iff.mp H
    obtain ⟨⟨t283, t284⟩, A350, H⟩ := H
    replace H : ((impl_both.f kj2 l0_5 l1_5).bind fun bt287 => (if t284 = true then (if bt287.2 = true then (if (mx a0_3 a1_3) > (mn a0_4 a1_4) then (some (0, 0, ([] : List Int), 0, 0, ([] : List Int), 0, 0, false)) else (some (a0_0, a0_1, t283, mx a0_3 a1_3, mn a0_4 a1_4, bt287.1, mx a0_6 a1_6, mx (mx a0_6 a1_6) (mn a0_7 a1_7), true))) else (some (0, 0, ([] : List Int), 0, 0, ([] : List Int), 0, 0, false))) else (some (0, 0, ([] : List Int), 0, 0, ([] : List Int), 0, 0, false)))) = some (r1, r2, r3, r4, r5, r6, r7, r8, r9) := H
    have A35 := Aside0.mk A350
    clear A350
    replace H := Option.bind_eq_some_iff.mp H
    obtain ⟨⟨t287, t288⟩, A360, H⟩ := H
    replace H : (if t284 = true then (if t288 = true then (if (mx a0_3 a1_3) > (mn a0_4 a1_4) then (some (0, 0, ([] : List Int), 0, 0, ([] : List Int), 0, 0, false)) else (some (a0_0, a0_1, t283, mx a0_3 a1_3, mn a0_4 a1_4, t287, mx a0_6 a1_6, mx (mx a0_6 a1_6) (mn a0_7 a1_7), true))) else (some (0, 0, ([] : List Int), 0, 0, ([] : List Int), 0, 0, false))) else (some (0, 0, ([] : List Int), 0, 0, ([] : List Int), 0, 0, false))) = some (r1, r2, r3, r4, r5, r6, r7, r8, r9) := H
    have A36 := Aside0.mk A360
    clear A360
    obtain ⟨ji37, hji37⟩ : ∃ j_ : Int, (mx a0_3 a1_3) = j_ := ⟨_, rfl⟩
    replace H : (if t284 = true then (if t288 = true then (if (ji37) > (mn a0_4 a1_4) then (some (0, 0, ([] : List Int), 0, 0, ([] : List Int), 0, 0, false)) else (some (a0_0, a0_1, t283, ji37, mn a0_4 a1_4, t287, mx a0_6 a1_6, mx (mx a0_6 a1_6) (mn a0_7 a1_7), true))) else (some (0, 0, ([] : List Int), 0, 0, ([] : List Int), 0, 0, false))) else (some (0, 0, ([] : List Int), 0, 0, ([] : List Int), 0, 0, false))) = some (r1, r2, r3, r4, r5, r6, r7, r8, r9) := by first | (rw [hji37] at H; exact H) | (simp only [hji37] at H ⊢; exact H)
    (try rw [hji37] at A35)
    (try rw [hji37] at A36)
    have hji37_ : (if a0_3 < a1_3 then a1_3 else a0_3) = ji37 := hji37
    obtain ⟨ji38, hji38⟩ : ∃ j_ : Int, (mn a0_4 a1_4) = j_ := ⟨_, rfl⟩
    replace H : (if t284 = true then (if t288 = true then (if (ji37) > (ji38) then (some (0, 0, ([] : List Int), 0, 0, ([] : List Int), 0, 0, false)) else (some (a0_0, a0_1, t283, ji37, ji38, t287, mx a0_6 a1_6, mx (mx a0_6 a1_6) (mn a0_7 a1_7), true))) else (some (0, 0, ([] : List Int), 0, 0, ([] : List Int), 0, 0, false))) else (some (0, 0, ([] : List Int), 0, 0, ([] : List Int), 0, 0, false))) = some (r1, r2, r3, r4, r5, r6, r7, r8, r9) := by first | (rw [hji38] at H; exact H) | (simp only [hji38] at H ⊢; exact H)
    (try rw [hji38] at A35)
    (try rw [hji38] at A36)
    have hji38_ : (if a1_4 < a0_4 then a1_4 else a0_4) = ji38 := hji38
    by_cases c39 : t284 = true
    ·
     subst c39
     have H1 : (if t288 = true then (if (ji37) > (ji38) then (some (0, 0, ([] : List Int), 0, 0, ([] : List Int), 0, 0, false)) else (some (a0_0, a0_1, t283, ji37, ji38, t287, mx a0_6 a1_6, mx (mx a0_6 a1_6) (mn a0_7 a1_7), true))) else (some (0, 0, ([] : List Int), 0, 0, ([] : List Int), 0, 0, false))) = some (r1, r2, r3, r4, r5, r6, r7, r8, r9) := by rw [if_pos rfl] at H; exact H
     clear H
     have H := H1
     clear H1
     by_cases c40 : t288 = true
     ·
      subst c40
      have H1 : (if (ji37) > (ji38) then (some (0, 0, ([] : List Int), 0, 0, ([] : List Int), 0, 0, false)) else (some (a0_0, a0_1, t283, ji37, ji38, t287, mx a0_6 a1_6, mx (mx a0_6 a1_6) (mn a0_7 a1_7), true))) = some (r1, r2, r3, r4, r5, r6, r7, r8, r9) := by rw [if_pos rfl] at H; exact H
      clear H
      have H := H1
      clear H1
      by_cases c41 : (ji37) > (ji38)
      ·
       rw [if_pos c41] at H
       have c41b0 : decide ((ji38) < (ji37)) = true := decide_eq_true c41
       clear c41
       simp only [Option.some.injEq, Prod.mk.injEq] at H
       obtain ⟨rfl, rfl, rfl, rfl, rfl, rfl, rfl, rfl, rfl⟩ := H
       have hnb42 := NB277_278.out
       have hnc42 := NB278_277.out
       have hnb43 := NB277_279.out
       have hnc43 := NB279_277.out
       obtain ⟨hcz44_0, hcz44_1, hcz44_2, hcz44_3, hcz44_4, hcz44_5, hcz44_6, hcz44_7⟩ := e155_ BK277.out
       obtain ⟨hfz44_0, hfz44_1, hfz44_2, hfz44_3, hfz44_4, hfz44_5, hfz44_6, hfz44_7⟩ := z156_ BK277.out
       try go_wp2_with (first | ((with_reducible refine gate_dst (N := 6) rfl ?_); refine box_event ?hg (N := 6) ?hd (cs := #[.int .i64 0, .int .i64 0, .slice none 0 0, .int .i64 0, .int .i64 0, .slice none 0 0, .int .i64 0, .int .i64 0]) (t := 41) ?hr ?_; (case hd => rfl); (case hg => rfl); (case hr => first | (go_simp; done) | (go_simp; rfl)); intro gb282 hg w45 hbox hb; have n0_ := Aside0.mk (blk_below (bd_ BK277.out) hb); have n1_ := Aside0.mk (blk_below (bd_ BK278.out) hb); have n2_ := Aside0.mk (blk_below (bd_ BK279.out) hb); have n3_ := Aside0.mk (below_step y160_ hb); have BK282 := Aside0.mk (hbox); have GW282 := Aside0.mk ((y187_ : w.heap.size ≤ gb282)); have GE282 := Aside0.mk ((y187_ : w.heap.size ≤ gb282)); have NB277_282 := Aside0.mk ((y173_ : gb277 ≠ gb282)); have NB282_277 := Aside0.mk ((y174_ : gb282 ≠ gb277)); have NB278_282 := Aside0.mk ((y176_ : gb278 ≠ gb282)); have NB282_278 := Aside0.mk ((y177_ : gb282 ≠ gb278)); have NB279_282 := Aside0.mk ((y180_ : gb279 ≠ gb282)); have NB282_279 := Aside0.mk ((y181_ : gb282 ≠ gb279)); clear BK277; clear BK278; clear BK279; clear HB; have BK277 := n0_; have BK278 := n1_; have BK279 := n2_; have HB := n3_; clear n0_ n1_ n2_ n3_; clear hb hbox hg; have hnb46 := NB282_277.out; have hnc46 := NB277_282.out; have hnb47 := NB282_278.out; have hnc47 := NB278_282.out; have hnb48 := NB282_279.out; have hnc48 := NB279_282.out; obtain ⟨hcz49_0, hcz49_1, hcz49_2, hcz49_3, hcz49_4, hcz49_5, hcz49_6, hcz49_7⟩ := e155_ BK282.out; obtain ⟨hfz49_0, hfz49_1, hfz49_2, hfz49_3, hfz49_4, hfz49_5, hfz49_6, hfz49_7⟩ := z156_ BK282.out; obtain ⟨hcz50_0, hcz50_1, hcz50_2, hcz50_3, hcz50_4, hcz50_5, hcz50_6, hcz50_7⟩ := e155_ BK277.out; obtain ⟨hfz50_0, hfz50_1, hfz50_2, hfz50_3, hfz50_4, hfz50_5, hfz50_6, hfz50_7⟩ := z156_ BK277.out; have hnb51 := NB278_279.out; have hnc51 := NB279_278.out; obtain ⟨hcz52_0, hcz52_1, hcz52_2, hcz52_3, hcz52_4, hcz52_5, hcz52_6, hcz52_7⟩ := e155_ BK278.out; obtain ⟨hfz52_0, hfz52_1, hfz52_2, hfz52_3, hfz52_4, hfz52_5, hfz52_6, hfz52_7⟩ := z156_ BK278.out) | ((with_reducible refine gate_callee (f := 81) rfl ?_); refine goesL_ (some 32) rfl rfl Try.func81 (by kernel_rfl) rfl #[.slice A0_2 l0_2.length c0_2, .slice A1_2 l1_2.length c1_2] rfl ma_ ?_; (with_reducible refine (impl_both.calls kj2 _ _ l0_2 _ _ l1_2 t283 true _ ?side1 ?side2 ?side3 ?side4 A35.out).mono ?_); (case side1 => exact Kd.C_below HR0_2.out y157_); (case side2 => exact HC0_2.out); (case side3 => exact Kd.C_below HR1_2.out y157_); (case side4 => exact HC1_2.out); rintro e w53 ⟨v285, rfl, ho0, hb⟩; refine ⟨_, rfl, ?_⟩; have HO286 := Aside0.mk (Kd.R_lower ho0 (below_size y157_)); have n1_ := Aside0.mk (blk_below (g := gb277) (o := c154_ a0_0 a0_1 A0_2 l0_2.length c0_2 a0_3 a0_4 A0_5 l0_5.length c0_5 a0_6 a0_7) y161_ hb); have n2_ := Aside0.mk (blk_below (g := gb278) (o := c154_ a1_0 a1_1 A1_2 l1_2.length c1_2 a1_3 a1_4 A1_5 l1_5.length c1_5 a1_6 a1_7) y162_ hb); have n3_ := Aside0.mk (blk_below (g := gb279) (o := c154_ 0 0 none 0 0 0 0 none 0 0 0 0) y163_ hb); have n4_ := Aside0.mk (blk_below (g := gb282) (o := c154_ a0_0 a0_1 A0_2 l0_2.length c0_2 a0_3 a0_4 A0_5 l0_5.length c0_5 a0_6 a0_7) y158_ hb); have n5_ := Aside0.mk (below_step y157_ hb); clear BK277; clear BK278; clear BK279; clear BK282; clear HB; have BK277 := n1_; have BK278 := n2_; have BK279 := n3_; have BK282 := n4_; have HB := n5_; clear n1_ n2_ n3_ n4_ n5_; (try clear hb); (try clear hb2); (try clear hk); (try clear hi); (try clear ho0); obtain ⟨Ao54, co54, eo54⟩ := Kd.R_slice HO286.out; subst eo54; obtain ⟨hcz55_0, hcz55_1, hcz55_2, hcz55_3, hcz55_4, hcz55_5, hcz55_6, hcz55_7⟩ := e155_ BK282.out; obtain ⟨hfz55_0, hfz55_1, hfz55_2, hfz55_3, hfz55_4, hfz55_5, hfz55_6, hfz55_7⟩ := z156_ BK282.out; obtain ⟨hcz56_0, hcz56_1, hcz56_2, hcz56_3, hcz56_4, hcz56_5, hcz56_6, hcz56_7⟩ := e155_ BK277.out; obtain ⟨hfz56_0, hfz56_1, hfz56_2, hfz56_3, hfz56_4, hfz56_5, hfz56_6, hfz56_7⟩ := z156_ BK277.out; obtain ⟨hcz57_0, hcz57_1, hcz57_2, hcz57_3, hcz57_4, hcz57_5, hcz57_6, hcz57_7⟩ := e155_ BK278.out; obtain ⟨hfz57_0, hfz57_1, hfz57_2, hfz57_3, hfz57_4, hfz57_5, hfz57_6, hfz57_7⟩ := z156_ BK278.out) | ((with_reducible refine gate_callee (f := 81) rfl ?_); refine goesL_ (some 41) rfl rfl Try.func81 (by kernel_rfl) rfl #[.slice A0_5 l0_5.length c0_5, .slice A1_5 l1_5.length c1_5] rfl ma_ ?_; (with_reducible refine (impl_both.calls kj2 _ _ l0_5 _ _ l1_5 t287 true _ ?side1 ?side2 ?side3 ?side4 A36.out).mono ?_); (case side1 => exact Kd.C_below HR0_5.out y157_); (case side2 => exact HC0_5.out); (case side3 => exact Kd.C_below HR1_5.out y157_); (case side4 => exact HC1_5.out); rintro e w58 ⟨v289, rfl, ho0, hb⟩; refine ⟨_, rfl, ?_⟩; have n0_ := Aside0.mk (Kd.R_elder' y185_ (Kd.R_base ho0) hb); have HO290 := Aside0.mk (Kd.R_lower (Kd.R_new' ho0 (Kd.R_lt y185_)) (below_size y157_)); have n2_ := Aside0.mk (blk_below (g := gb277) (o := c154_ a0_0 a0_1 A0_2 l0_2.length c0_2 a0_3 a0_4 A0_5 l0_5.length c0_5 a0_6 a0_7) y170_ hb); have n3_ := Aside0.mk (blk_below (g := gb278) (o := c154_ a1_0 a1_1 A1_2 l1_2.length c1_2 a1_3 a1_4 A1_5 l1_5.length c1_5 a1_6 a1_7) y171_ hb); have n4_ := Aside0.mk (blk_below (g := gb279) (o := c154_ 0 0 none 0 0 0 0 none 0 0 0 0) y172_ hb); have n5_ := Aside0.mk (blk_below (g := gb282) (o := .cells #[.int .i64 a0_0, .int .i64 a0_1, .slice Ao54 t283.length co54, .int .i64 a0_3, .int .i64 a0_4, .slice A0_5 l0_5.length c0_5, .int .i64 a0_6, .int .i64 a0_7] 41 (0, 0)) y169_ hb); have n6_ := Aside0.mk (below_step y157_ hb); clear HO286; clear BK277; clear BK278; clear BK279; clear BK282; clear HB; have HO286 := n0_; have BK277 := n2_; have BK278 := n3_; have BK279 := n4_; have BK282 := n5_; have HB := n6_; clear n0_ n2_ n3_ n4_ n5_ n6_; (try clear hb); (try clear hb2); (try clear hk); (try clear hi); (try clear ho0); obtain ⟨Ao59, co59, eo59⟩ := Kd.R_slice HO290.out; subst eo59; obtain ⟨hcz60_0, hcz60_1, hcz60_2, hcz60_3, hcz60_4, hcz60_5, hcz60_6, hcz60_7⟩ := e155_ BK282.out; obtain ⟨hfz60_0, hfz60_1, hfz60_2, hfz60_3, hfz60_4, hfz60_5, hfz60_6, hfz60_7⟩ := z156_ BK282.out))
       have n0_ : Aside0 (Kd.R (Kd.int .i64) 3 (w58.setCell ⟨gb282, 5, none⟩ (.slice Ao59 t287.length co59)) w.heap.size (fun k_ => some k_ ≠ (.slice Ao59 t287.length co59 : Value).ownBlock) (.slice Ao54 t283.length co54) t283) := ⟨by (with_reducible repeat (first | apply Kd.R_alloc | apply Kd.R_drewN | apply Kd.R_drew)); exact Kd.R_mono (Kd.R_far (p := ⟨gb282, 5, none⟩) (Kd.R_types HO286.out BK282.out (by decide)) (fun _ hk => hk.2) (.slice Ao59 t287.length co59)) (fun _ hk => hk.1.2)⟩
       have n1_ : Aside0 (Kd.R (Kd.int .i64) 3 (w58.setCell ⟨gb282, 5, none⟩ (.slice Ao59 t287.length co59)) w.heap.size (fun k_ => some k_ ≠ (.slice Ao54 t283.length co54 : Value).ownBlock) (.slice Ao59 t287.length co59) t287) := ⟨by (with_reducible repeat (first | apply Kd.R_alloc | apply Kd.R_drewN | apply Kd.R_drew)); exact Kd.R_mono (Kd.R_far (p := ⟨gb282, 5, none⟩) (Kd.R_types HO290.out BK282.out (by decide)) (fun _ hk => hk.2) (.slice Ao59 t287.length co59)) (fun _ hk => hk.1.2)⟩
       have n2_ : Aside0 ((w58.setCell ⟨gb282, 5, none⟩ (.slice Ao59 t287.length co59)).heap[gb277]? = some (c154_ a0_0 a0_1 A0_2 l0_2.length c0_2 a0_3 a0_4 A0_5 l0_5.length c0_5 a0_6 a0_7)) := ⟨by (with_reducible repeat (first | refine blk_drewN ?_ _ | refine blk_drew ?_ | refine blk_alloc ?_ _)); refine blk_far ?_ NB277_282.out _; (with_reducible repeat (first | refine blk_drewN ?_ _ | refine blk_drew ?_ | refine blk_alloc ?_ _)); exact BK277.out⟩
       have n3_ : Aside0 ((w58.setCell ⟨gb282, 5, none⟩ (.slice Ao59 t287.length co59)).heap[gb278]? = some (c154_ a1_0 a1_1 A1_2 l1_2.length c1_2 a1_3 a1_4 A1_5 l1_5.length c1_5 a1_6 a1_7)) := ⟨by (with_reducible repeat (first | refine blk_drewN ?_ _ | refine blk_drew ?_ | refine blk_alloc ?_ _)); refine blk_far ?_ NB278_282.out _; (with_reducible repeat (first | refine blk_drewN ?_ _ | refine blk_drew ?_ | refine blk_alloc ?_ _)); exact BK278.out⟩
       have n4_ : Aside0 ((w58.setCell ⟨gb282, 5, none⟩ (.slice Ao59 t287.length co59)).heap[gb279]? = some (c154_ 0 0 none 0 0 0 0 none 0 0 0 0)) := ⟨by (with_reducible repeat (first | refine blk_drewN ?_ _ | refine blk_drew ?_ | refine blk_alloc ?_ _)); refine blk_far ?_ NB279_282.out _; (with_reducible repeat (first | refine blk_drewN ?_ _ | refine blk_drew ?_ | refine blk_alloc ?_ _)); exact BK279.out⟩
       have n5_ : Aside0 ((w58.setCell ⟨gb282, 5, none⟩ (.slice Ao59 t287.length co59)).heap[gb282]? = some (.cells #[.int .i64 a0_0, .int .i64 a0_1, .slice Ao54 t283.length co54, .int .i64 a0_3, .int .i64 a0_4, .slice Ao59 t287.length co59, .int .i64 a0_6, .int .i64 a0_7] 41 (0, 0))) := ⟨by (with_reducible repeat (first | refine blk_drewN ?_ _ | refine blk_drew ?_ | refine blk_alloc ?_ _)); refine blk_put (cs := #[.int .i64 a0_0, .int .i64 a0_1, .slice Ao54 t283.length co54, .int .i64 a0_3, .int .i64 a0_4, .slice A0_5 l0_5.length c0_5, .int .i64 a0_6, .int .i64 a0_7]) ?_ 5 _ rfl; (with_reducible repeat (first | refine blk_drewN ?_ _ | refine blk_drew ?_ | refine blk_alloc ?_ _)); exact BK282.out⟩
       have n6_ : Aside0 (Below w.heap.size w (w58.setCell ⟨gb282, 5, none⟩ (.slice Ao59 t287.length co59))) := ⟨y167_⟩
       (try clear HO286)
       (try clear HO290)
       (try clear BK277)
       (try clear BK278)
       (try clear BK279)
       (try clear BK282)
       (try clear HB)
       generalize (w58.setCell ⟨gb282, 5, none⟩ (.slice Ao59 t287.length co59)) = w61 at n0_ n1_ n2_ n3_ n4_ n5_ n6_ ⊢
       have HO286 := n0_
       have HO290 := n1_
       have BK277 := n2_
       have BK278 := n3_
       have BK279 := n4_
       have BK282 := n5_
       have HB := n6_
       clear n0_ n1_ n2_ n3_ n4_ n5_ n6_
       have n0_ := Aside0.mk (Kd.R_drew HO286.out)
       have n1_ := Aside0.mk (Kd.R_drew HO290.out)
       have n2_ := Aside0.mk (blk_drew BK277.out)
       have n3_ := Aside0.mk (blk_drew BK278.out)
       have n4_ := Aside0.mk (blk_drew BK279.out)
       have n5_ := Aside0.mk (blk_drew BK282.out)
       have n6_ := Aside0.mk (below_drew1 HB.out)
       clear HO286
       clear HO290
       clear BK277
       clear BK278
       clear BK279
       clear BK282
       clear HB
       have HO286 := n0_
       have HO290 := n1_
       have BK277 := n2_
       have BK278 := n3_
       have BK279 := n4_
       have BK282 := n5_
       have HB := n6_
       clear n0_ n1_ n2_ n3_ n4_ n5_ n6_
       refine start_ (n := 14) (S := fun w' => q1_ w' gb277 a0_0 a0_1 A0_2 l0_2.length c0_2 a0_3 a0_4 A0_5 l0_5.length c0_5 a0_6 a0_7 (q1e_ w' gb278 a1_0 a1_1 A1_2 l1_2.length c1_2 a1_3 a1_4 A1_5 l1_5.length c1_5 a1_6 a1_7)) (ds := []) M4_0 (by kernel_rfl) rfl rfl (k1_ BK277.out (k1e_ BK278.out)) (fun hHeld => ?_); refine with_tabW impl_Sharpen.tab6 impl_Sharpen.bits6 (fun HT_ HW_ => ?_)
       generalize w61.drew = w62 at HO286 HO290 BK277 BK278 BK279 BK282 HB hHeld ⊢
       refine pu_ 0 (some 45) M4_1 HT_ ?_
       refine pu_ 2 (some 47) M4_2 HT_ ?_
       refine pu_ 5 (some 50) M4_3 HT_ ?_
       refine pu_ 7 (some 52) M4_4 HT_ ?_
       refine tk_ 1 (some 46) M4_5 HT_ HW_ hHeld ?_
       refine tk_ 3 (some 48) M4_6 HT_ HW_ hHeld ?_
       refine pu_ 4 (some 49) M4_7 HT_ ?_
       refine pu_ 10 (some 55) M4_8 HT_ ?_
       refine tk_ 6 (some 51) M4_9 HT_ HW_ hHeld ?_
       refine tk_ 8 (some 53) M4_10 HT_ HW_ hHeld ?_
       refine pu_ 9 (some 54) M4_11 HT_ ?_
       refine one_ (i := 11) (N := none) M4_12 rfl rfl (one_of HT_.out (by kernel_rfl)) (by decide) (fun K hK => ?_)
       have hs63 : w62.cell? ⟨gb282, 3, none⟩ = some (.int .i64 a0_3) := (blk_cell BK282.out 3).trans rfl
       have hfs63 := blk_frozen BK282.out 3
       have hns63_0 := NB277_282.out
       have hns63_1 := NB278_282.out
       have hns63_2 := NB279_282.out
       have hms63_0 := NB282_277.out
       have hms63_1 := NB282_278.out
       have hms63_2 := NB282_279.out
       refine skip_ (w1 := ?_) (by rfl) rfl ?_ ?_
       rotate_left
       ·
        go_simp
        rfl
       refine hK.out _ _ ⟨((cell_far (p := ⟨gb282, _, none⟩) NB277_282.out _).trans (hHeld.1)), ((cell_far (p := ⟨gb282, _, none⟩) NB277_282.out _).trans (hHeld.2.1)), ((cell_far (p := ⟨gb282, _, none⟩) NB277_282.out _).trans (hHeld.2.2.1)), ((cell_far (p := ⟨gb282, _, none⟩) NB277_282.out _).trans (hHeld.2.2.2.1)), ((cell_far (p := ⟨gb282, _, none⟩) NB277_282.out _).trans (hHeld.2.2.2.2.1)), ((cell_far (p := ⟨gb282, _, none⟩) NB277_282.out _).trans (hHeld.2.2.2.2.2.1)), ((cell_far (p := ⟨gb282, _, none⟩) NB277_282.out _).trans (hHeld.2.2.2.2.2.2.1)), ((cell_far (p := ⟨gb282, _, none⟩) NB277_282.out _).trans (hHeld.2.2.2.2.2.2.2.1)), ((cell_far (p := ⟨gb282, _, none⟩) NB278_282.out _).trans (hHeld.2.2.2.2.2.2.2.2.1)), ((cell_far (p := ⟨gb282, _, none⟩) NB278_282.out _).trans (hHeld.2.2.2.2.2.2.2.2.2.1)), ((cell_far (p := ⟨gb282, _, none⟩) NB278_282.out _).trans (hHeld.2.2.2.2.2.2.2.2.2.2.1)), ((cell_far (p := ⟨gb282, _, none⟩) NB278_282.out _).trans (hHeld.2.2.2.2.2.2.2.2.2.2.2.1)), ((cell_far (p := ⟨gb282, _, none⟩) NB278_282.out _).trans (hHeld.2.2.2.2.2.2.2.2.2.2.2.2.1)), ((cell_far (p := ⟨gb282, _, none⟩) NB278_282.out _).trans (hHeld.2.2.2.2.2.2.2.2.2.2.2.2.2.1)), ((cell_far (p := ⟨gb282, _, none⟩) NB278_282.out _).trans (hHeld.2.2.2.2.2.2.2.2.2.2.2.2.2.2.1)), ((cell_far (p := ⟨gb282, _, none⟩) NB278_282.out _).trans (hHeld.2.2.2.2.2.2.2.2.2.2.2.2.2.2.2))⟩ (fun hHeld => ?_)
       clear hK K
       refine pu_ 12 (some 56) M4_13 HT_ ?_
       refine one_ (i := 13) (N := none) M4_14 rfl rfl (one_of HT_.out (by kernel_rfl)) (by decide) (fun K hK => ?_)
       have hs64 : w62.cell? ⟨gb282, 4, none⟩ = some (.int .i64 a0_4) := (blk_cell BK282.out 4).trans rfl
       have hfs64 := blk_frozen BK282.out 4
       have hns64_0 := NB277_282.out
       have hns64_1 := NB278_282.out
       have hns64_2 := NB279_282.out
       have hms64_0 := NB282_277.out
       have hms64_1 := NB282_278.out
       have hms64_2 := NB282_279.out
       refine skip_ (w1 := ?_) (by rfl) rfl ?_ ?_
       rotate_left
       ·
        go_simp
        rfl
       refine hK.out _ _ ⟨((cell_far (p := ⟨gb282, _, none⟩) NB277_282.out _).trans (hHeld.1)), ((cell_far (p := ⟨gb282, _, none⟩) NB277_282.out _).trans (hHeld.2.1)), ((cell_far (p := ⟨gb282, _, none⟩) NB277_282.out _).trans (hHeld.2.2.1)), ((cell_far (p := ⟨gb282, _, none⟩) NB277_282.out _).trans (hHeld.2.2.2.1)), ((cell_far (p := ⟨gb282, _, none⟩) NB277_282.out _).trans (hHeld.2.2.2.2.1)), ((cell_far (p := ⟨gb282, _, none⟩) NB277_282.out _).trans (hHeld.2.2.2.2.2.1)), ((cell_far (p := ⟨gb282, _, none⟩) NB277_282.out _).trans (hHeld.2.2.2.2.2.2.1)), ((cell_far (p := ⟨gb282, _, none⟩) NB277_282.out _).trans (hHeld.2.2.2.2.2.2.2.1)), ((cell_far (p := ⟨gb282, _, none⟩) NB278_282.out _).trans (hHeld.2.2.2.2.2.2.2.2.1)), ((cell_far (p := ⟨gb282, _, none⟩) NB278_282.out _).trans (hHeld.2.2.2.2.2.2.2.2.2.1)), ((cell_far (p := ⟨gb282, _, none⟩) NB278_282.out _).trans (hHeld.2.2.2.2.2.2.2.2.2.2.1)), ((cell_far (p := ⟨gb282, _, none⟩) NB278_282.out _).trans (hHeld.2.2.2.2.2.2.2.2.2.2.2.1)), ((cell_far (p := ⟨gb282, _, none⟩) NB278_282.out _).trans (hHeld.2.2.2.2.2.2.2.2.2.2.2.2.1)), ((cell_far (p := ⟨gb282, _, none⟩) NB278_282.out _).trans (hHeld.2.2.2.2.2.2.2.2.2.2.2.2.2.1)), ((cell_far (p := ⟨gb282, _, none⟩) NB278_282.out _).trans (hHeld.2.2.2.2.2.2.2.2.2.2.2.2.2.2.1)), ((cell_far (p := ⟨gb282, _, none⟩) NB278_282.out _).trans (hHeld.2.2.2.2.2.2.2.2.2.2.2.2.2.2.2))⟩ (fun hHeld => ?_)
       clear hK K
       refine done_ (done_of HT_.out (by kernel_rfl)) ?_
       obtain ⟨hcz65_0, hcz65_1, hcz65_2, hcz65_3, hcz65_4, hcz65_5, hcz65_6, hcz65_7⟩ := e155_ BK282.out
       obtain ⟨hfz65_0, hfz65_1, hfz65_2, hfz65_3, hfz65_4, hfz65_5, hfz65_6, hfz65_7⟩ := z156_ BK282.out
       obtain ⟨hcz66_0, hcz66_1, hcz66_2, hcz66_3, hcz66_4, hcz66_5, hcz66_6, hcz66_7⟩ := e155_ BK279.out
       obtain ⟨hfz66_0, hfz66_1, hfz66_2, hfz66_3, hfz66_4, hfz66_5, hfz66_6, hfz66_7⟩ := z156_ BK279.out
       try go_wp2
       refine bodyPost_ret (results_ct rfl _ _ gb279 41 #[.int .i64 0, .int .i64 0, .slice none 0 0, .int .i64 0, .int .i64 0, .slice none 0 0, .int .i64 0, .int .i64 0] (0, 0) _ rfl y159_ Try.underlying41 rfl (by kernel_rfl)) rfl ?_
       exact ⟨_, _, by first | rfl | (simp [errW_none, errW_some] <;> rfl) | (simp only [← hji37, ← hji38]; first | rfl | (simp [errW_none, errW_some] <;> rfl)) | (simp [*, errW_none, errW_some] <;> rfl), by first | exact Kd.R_nil _ _ _ _ _ | exact Kd.N_nil _ _ _ _ _ | exact Kd.V_nil _ _ _ _ _ | exact Kd.Q_nil _ _ _ _ _ | exact Kd.S_nil _ _ _ _ _, by first | exact Kd.R_nil _ _ _ _ _ | exact Kd.N_nil _ _ _ _ _ | exact Kd.V_nil _ _ _ _ _ | exact Kd.Q_nil _ _ _ _ _ | exact Kd.S_nil _ _ _ _ _, y167_⟩
      ·
       rw [if_neg c41] at H
       have c41b0 : decide ((ji38) < (ji37)) = false := decide_eq_false c41
       clear c41
       obtain ⟨ji67, hji67⟩ : ∃ j_ : Int, (mx a0_6 a1_6) = j_ := ⟨_, rfl⟩
       replace H : (some (a0_0, a0_1, t283, ji37, ji38, t287, ji67, mx (ji67) (mn a0_7 a1_7), true)) = some (r1, r2, r3, r4, r5, r6, r7, r8, r9) := by first | (rw [hji67] at H; exact H) | (simp only [hji67] at H ⊢; exact H)
       (try rw [hji67] at A35)
       (try rw [hji67] at A36)
       have hji67_ : (if a0_6 < a1_6 then a1_6 else a0_6) = ji67 := hji67
       obtain ⟨ji68, hji68⟩ : ∃ j_ : Int, (mn a0_7 a1_7) = j_ := ⟨_, rfl⟩
       replace H : (some (a0_0, a0_1, t283, ji37, ji38, t287, ji67, mx (ji67) (ji68), true)) = some (r1, r2, r3, r4, r5, r6, r7, r8, r9) := by first | (rw [hji68] at H; exact H) | (simp only [hji68] at H ⊢; exact H)
       (try rw [hji68] at A35)
       (try rw [hji68] at A36)
       have hji68_ : (if a1_7 < a0_7 then a1_7 else a0_7) = ji68 := hji68
       obtain ⟨ji69, hji69⟩ : ∃ j_ : Int, (mx (ji67) (ji68)) = j_ := ⟨_, rfl⟩
       replace H : (some (a0_0, a0_1, t283, ji37, ji38, t287, ji67, ji69, true)) = some (r1, r2, r3, r4, r5, r6, r7, r8, r9) := by first | (rw [hji69] at H; exact H) | (simp only [hji69] at H ⊢; exact H)
       (try rw [hji69] at A35)
       (try rw [hji69] at A36)
       have hji69_ : (if (ji67) < (ji68) then (ji68) else (ji67)) = ji69 := hji69
       simp only [Option.some.injEq, Prod.mk.injEq] at H
       obtain ⟨rfl, rfl, rfl, rfl, rfl, rfl, rfl, rfl, rfl⟩ := H
       have hnb70 := NB277_278.out
       have hnc70 := NB278_277.out
       have hnb71 := NB277_279.out
       have hnc71 := NB279_277.out
       obtain ⟨hcz72_0, hcz72_1, hcz72_2, hcz72_3, hcz72_4, hcz72_5, hcz72_6, hcz72_7⟩ := e155_ BK277.out
       obtain ⟨hfz72_0, hfz72_1, hfz72_2, hfz72_3, hfz72_4, hfz72_5, hfz72_6, hfz72_7⟩ := z156_ BK277.out
       try go_wp2_with (first | ((with_reducible refine gate_dst (N := 6) rfl ?_); refine box_event ?hg (N := 6) ?hd (cs := #[.int .i64 0, .int .i64 0, .slice none 0 0, .int .i64 0, .int .i64 0, .slice none 0 0, .int .i64 0, .int .i64 0]) (t := 41) ?hr ?_; (case hd => rfl); (case hg => rfl); (case hr => first | (go_simp; done) | (go_simp; rfl)); intro gb282 hg w73 hbox hb; have n0_ := Aside0.mk (blk_below (bd_ BK277.out) hb); have n1_ := Aside0.mk (blk_below (bd_ BK278.out) hb); have n2_ := Aside0.mk (blk_below (bd_ BK279.out) hb); have n3_ := Aside0.mk (below_step y160_ hb); have BK282 := Aside0.mk (hbox); have GW282 := Aside0.mk ((y187_ : w.heap.size ≤ gb282)); have GE282 := Aside0.mk ((y187_ : w.heap.size ≤ gb282)); have NB277_282 := Aside0.mk ((y173_ : gb277 ≠ gb282)); have NB282_277 := Aside0.mk ((y174_ : gb282 ≠ gb277)); have NB278_282 := Aside0.mk ((y176_ : gb278 ≠ gb282)); have NB282_278 := Aside0.mk ((y177_ : gb282 ≠ gb278)); have NB279_282 := Aside0.mk ((y180_ : gb279 ≠ gb282)); have NB282_279 := Aside0.mk ((y181_ : gb282 ≠ gb279)); clear BK277; clear BK278; clear BK279; clear HB; have BK277 := n0_; have BK278 := n1_; have BK279 := n2_; have HB := n3_; clear n0_ n1_ n2_ n3_; clear hb hbox hg; have hnb74 := NB282_277.out; have hnc74 := NB277_282.out; have hnb75 := NB282_278.out; have hnc75 := NB278_282.out; have hnb76 := NB282_279.out; have hnc76 := NB279_282.out; obtain ⟨hcz77_0, hcz77_1, hcz77_2, hcz77_3, hcz77_4, hcz77_5, hcz77_6, hcz77_7⟩ := e155_ BK282.out; obtain ⟨hfz77_0, hfz77_1, hfz77_2, hfz77_3, hfz77_4, hfz77_5, hfz77_6, hfz77_7⟩ := z156_ BK282.out; obtain ⟨hcz78_0, hcz78_1, hcz78_2, hcz78_3, hcz78_4, hcz78_5, hcz78_6, hcz78_7⟩ := e155_ BK277.out; obtain ⟨hfz78_0, hfz78_1, hfz78_2, hfz78_3, hfz78_4, hfz78_5, hfz78_6, hfz78_7⟩ := z156_ BK277.out; have hnb79 := NB278_279.out; have hnc79 := NB279_278.out; obtain ⟨hcz80_0, hcz80_1, hcz80_2, hcz80_3, hcz80_4, hcz80_5, hcz80_6, hcz80_7⟩ := e155_ BK278.out; obtain ⟨hfz80_0, hfz80_1, hfz80_2, hfz80_3, hfz80_4, hfz80_5, hfz80_6, hfz80_7⟩ := z156_ BK278.out) | ((with_reducible refine gate_callee (f := 81) rfl ?_); refine goesL_ (some 32) rfl rfl Try.func81 (by kernel_rfl) rfl #[.slice A0_2 l0_2.length c0_2, .slice A1_2 l1_2.length c1_2] rfl ma_ ?_; (with_reducible refine (impl_both.calls kj2 _ _ l0_2 _ _ l1_2 t283 true _ ?side1 ?side2 ?side3 ?side4 A35.out).mono ?_); (case side1 => exact Kd.C_below HR0_2.out y157_); (case side2 => exact HC0_2.out); (case side3 => exact Kd.C_below HR1_2.out y157_); (case side4 => exact HC1_2.out); rintro e w81 ⟨v285, rfl, ho0, hb⟩; refine ⟨_, rfl, ?_⟩; have HO286 := Aside0.mk (Kd.R_lower ho0 (below_size y157_)); have n1_ := Aside0.mk (blk_below (g := gb277) (o := c154_ a0_0 a0_1 A0_2 l0_2.length c0_2 a0_3 a0_4 A0_5 l0_5.length c0_5 a0_6 a0_7) y161_ hb); have n2_ := Aside0.mk (blk_below (g := gb278) (o := c154_ a1_0 a1_1 A1_2 l1_2.length c1_2 a1_3 a1_4 A1_5 l1_5.length c1_5 a1_6 a1_7) y162_ hb); have n3_ := Aside0.mk (blk_below (g := gb279) (o := c154_ 0 0 none 0 0 0 0 none 0 0 0 0) y163_ hb); have n4_ := Aside0.mk (blk_below (g := gb282) (o := c154_ a0_0 a0_1 A0_2 l0_2.length c0_2 a0_3 a0_4 A0_5 l0_5.length c0_5 a0_6 a0_7) y158_ hb); have n5_ := Aside0.mk (below_step y157_ hb); clear BK277; clear BK278; clear BK279; clear BK282; clear HB; have BK277 := n1_; have BK278 := n2_; have BK279 := n3_; have BK282 := n4_; have HB := n5_; clear n1_ n2_ n3_ n4_ n5_; (try clear hb); (try clear hb2); (try clear hk); (try clear hi); (try clear ho0); obtain ⟨Ao82, co82, eo82⟩ := Kd.R_slice HO286.out; subst eo82; obtain ⟨hcz83_0, hcz83_1, hcz83_2, hcz83_3, hcz83_4, hcz83_5, hcz83_6, hcz83_7⟩ := e155_ BK282.out; obtain ⟨hfz83_0, hfz83_1, hfz83_2, hfz83_3, hfz83_4, hfz83_5, hfz83_6, hfz83_7⟩ := z156_ BK282.out; obtain ⟨hcz84_0, hcz84_1, hcz84_2, hcz84_3, hcz84_4, hcz84_5, hcz84_6, hcz84_7⟩ := e155_ BK277.out; obtain ⟨hfz84_0, hfz84_1, hfz84_2, hfz84_3, hfz84_4, hfz84_5, hfz84_6, hfz84_7⟩ := z156_ BK277.out; obtain ⟨hcz85_0, hcz85_1, hcz85_2, hcz85_3, hcz85_4, hcz85_5, hcz85_6, hcz85_7⟩ := e155_ BK278.out; obtain ⟨hfz85_0, hfz85_1, hfz85_2, hfz85_3, hfz85_4, hfz85_5, hfz85_6, hfz85_7⟩ := z156_ BK278.out) | ((with_reducible refine gate_callee (f := 81) rfl ?_); refine goesL_ (some 41) rfl rfl Try.func81 (by kernel_rfl) rfl #[.slice A0_5 l0_5.length c0_5, .slice A1_5 l1_5.length c1_5] rfl ma_ ?_; (with_reducible refine (impl_both.calls kj2 _ _ l0_5 _ _ l1_5 t287 true _ ?side1 ?side2 ?side3 ?side4 A36.out).mono ?_); (case side1 => exact Kd.C_below HR0_5.out y157_); (case side2 => exact HC0_5.out); (case side3 => exact Kd.C_below HR1_5.out y157_); (case side4 => exact HC1_5.out); rintro e w86 ⟨v289, rfl, ho0, hb⟩; refine ⟨_, rfl, ?_⟩; have n0_ := Aside0.mk (Kd.R_elder' y186_ (Kd.R_base ho0) hb); have HO290 := Aside0.mk (Kd.R_lower (Kd.R_new' ho0 (Kd.R_lt y186_)) (below_size y157_)); have n2_ := Aside0.mk (blk_below (g := gb277) (o := c154_ a0_0 a0_1 A0_2 l0_2.length c0_2 a0_3 a0_4 A0_5 l0_5.length c0_5 a0_6 a0_7) y170_ hb); have n3_ := Aside0.mk (blk_below (g := gb278) (o := c154_ a1_0 a1_1 A1_2 l1_2.length c1_2 a1_3 a1_4 A1_5 l1_5.length c1_5 a1_6 a1_7) y171_ hb); have n4_ := Aside0.mk (blk_below (g := gb279) (o := c154_ 0 0 none 0 0 0 0 none 0 0 0 0) y172_ hb); have n5_ := Aside0.mk (blk_below (g := gb282) (o := .cells #[.int .i64 a0_0, .int .i64 a0_1, .slice Ao82 t283.length co82, .int .i64 a0_3, .int .i64 a0_4, .slice A0_5 l0_5.length c0_5, .int .i64 a0_6, .int .i64 a0_7] 41 (0, 0)) y169_ hb); have n6_ := Aside0.mk (below_step y157_ hb); clear HO286; clear BK277; clear BK278; clear BK279; clear BK282; clear HB; have HO286 := n0_; have BK277 := n2_; have BK278 := n3_; have BK279 := n4_; have BK282 := n5_; have HB := n6_; clear n0_ n2_ n3_ n4_ n5_ n6_; (try clear hb); (try clear hb2); (try clear hk); (try clear hi); (try clear ho0); obtain ⟨Ao87, co87, eo87⟩ := Kd.R_slice HO290.out; subst eo87; obtain ⟨hcz88_0, hcz88_1, hcz88_2, hcz88_3, hcz88_4, hcz88_5, hcz88_6, hcz88_7⟩ := e155_ BK282.out; obtain ⟨hfz88_0, hfz88_1, hfz88_2, hfz88_3, hfz88_4, hfz88_5, hfz88_6, hfz88_7⟩ := z156_ BK282.out))
       have n0_ : Aside0 (Kd.R (Kd.int .i64) 3 (w86.setCell ⟨gb282, 5, none⟩ (.slice Ao87 t287.length co87)) w.heap.size (fun k_ => some k_ ≠ (.slice Ao87 t287.length co87 : Value).ownBlock) (.slice Ao82 t283.length co82) t283) := ⟨by (with_reducible repeat (first | apply Kd.R_alloc | apply Kd.R_drewN | apply Kd.R_drew)); exact Kd.R_mono (Kd.R_far (p := ⟨gb282, 5, none⟩) (Kd.R_types HO286.out BK282.out (by decide)) (fun _ hk => hk.2) (.slice Ao87 t287.length co87)) (fun _ hk => hk.1.2)⟩
       have n1_ : Aside0 (Kd.R (Kd.int .i64) 3 (w86.setCell ⟨gb282, 5, none⟩ (.slice Ao87 t287.length co87)) w.heap.size (fun k_ => some k_ ≠ (.slice Ao82 t283.length co82 : Value).ownBlock) (.slice Ao87 t287.length co87) t287) := ⟨by (with_reducible repeat (first | apply Kd.R_alloc | apply Kd.R_drewN | apply Kd.R_drew)); exact Kd.R_mono (Kd.R_far (p := ⟨gb282, 5, none⟩) (Kd.R_types HO290.out BK282.out (by decide)) (fun _ hk => hk.2) (.slice Ao87 t287.length co87)) (fun _ hk => hk.1.2)⟩
       have n2_ : Aside0 ((w86.setCell ⟨gb282, 5, none⟩ (.slice Ao87 t287.length co87)).heap[gb277]? = some (c154_ a0_0 a0_1 A0_2 l0_2.length c0_2 a0_3 a0_4 A0_5 l0_5.length c0_5 a0_6 a0_7)) := ⟨by (with_reducible repeat (first | refine blk_drewN ?_ _ | refine blk_drew ?_ | refine blk_alloc ?_ _)); refine blk_far ?_ NB277_282.out _; (with_reducible repeat (first | refine blk_drewN ?_ _ | refine blk_drew ?_ | refine blk_alloc ?_ _)); exact BK277.out⟩
       have n3_ : Aside0 ((w86.setCell ⟨gb282, 5, none⟩ (.slice Ao87 t287.length co87)).heap[gb278]? = some (c154_ a1_0 a1_1 A1_2 l1_2.length c1_2 a1_3 a1_4 A1_5 l1_5.length c1_5 a1_6 a1_7)) := ⟨by (with_reducible repeat (first | refine blk_drewN ?_ _ | refine blk_drew ?_ | refine blk_alloc ?_ _)); refine blk_far ?_ NB278_282.out _; (with_reducible repeat (first | refine blk_drewN ?_ _ | refine blk_drew ?_ | refine blk_alloc ?_ _)); exact BK278.out⟩
       have n4_ : Aside0 ((w86.setCell ⟨gb282, 5, none⟩ (.slice Ao87 t287.length co87)).heap[gb279]? = some (c154_ 0 0 none 0 0 0 0 none 0 0 0 0)) := ⟨by (with_reducible repeat (first | refine blk_drewN ?_ _ | refine blk_drew ?_ | refine blk_alloc ?_ _)); refine blk_far ?_ NB279_282.out _; (with_reducible repeat (first | refine blk_drewN ?_ _ | refine blk_drew ?_ | refine blk_alloc ?_ _)); exact BK279.out⟩
       have n5_ : Aside0 ((w86.setCell ⟨gb282, 5, none⟩ (.slice Ao87 t287.length co87)).heap[gb282]? = some (.cells #[.int .i64 a0_0, .int .i64 a0_1, .slice Ao82 t283.length co82, .int .i64 a0_3, .int .i64 a0_4, .slice Ao87 t287.length co87, .int .i64 a0_6, .int .i64 a0_7] 41 (0, 0))) := ⟨by (with_reducible repeat (first | refine blk_drewN ?_ _ | refine blk_drew ?_ | refine blk_alloc ?_ _)); refine blk_put (cs := #[.int .i64 a0_0, .int .i64 a0_1, .slice Ao82 t283.length co82, .int .i64 a0_3, .int .i64 a0_4, .slice A0_5 l0_5.length c0_5, .int .i64 a0_6, .int .i64 a0_7]) ?_ 5 _ rfl; (with_reducible repeat (first | refine blk_drewN ?_ _ | refine blk_drew ?_ | refine blk_alloc ?_ _)); exact BK282.out⟩
       have n6_ : Aside0 (Below w.heap.size w (w86.setCell ⟨gb282, 5, none⟩ (.slice Ao87 t287.length co87))) := ⟨y167_⟩
       (try clear HO286)
       (try clear HO290)
       (try clear BK277)
       (try clear BK278)
       (try clear BK279)
       (try clear BK282)
       (try clear HB)
       generalize (w86.setCell ⟨gb282, 5, none⟩ (.slice Ao87 t287.length co87)) = w89 at n0_ n1_ n2_ n3_ n4_ n5_ n6_ ⊢
       have HO286 := n0_
       have HO290 := n1_
       have BK277 := n2_
       have BK278 := n3_
       have BK279 := n4_
       have BK282 := n5_
       have HB := n6_
       clear n0_ n1_ n2_ n3_ n4_ n5_ n6_
       have n0_ := Aside0.mk (Kd.R_drew HO286.out)
       have n1_ := Aside0.mk (Kd.R_drew HO290.out)
       have n2_ := Aside0.mk (blk_drew BK277.out)
       have n3_ := Aside0.mk (blk_drew BK278.out)
       have n4_ := Aside0.mk (blk_drew BK279.out)
       have n5_ := Aside0.mk (blk_drew BK282.out)
       have n6_ := Aside0.mk (below_drew1 HB.out)
       clear HO286
       clear HO290
       clear BK277
       clear BK278
       clear BK279
       clear BK282
       clear HB
       have HO286 := n0_
       have HO290 := n1_
       have BK277 := n2_
       have BK278 := n3_
       have BK279 := n4_
       have BK282 := n5_
       have HB := n6_
       clear n0_ n1_ n2_ n3_ n4_ n5_ n6_
       refine start_ (n := 14) (S := fun w' => q1_ w' gb277 a0_0 a0_1 A0_2 l0_2.length c0_2 a0_3 a0_4 A0_5 l0_5.length c0_5 a0_6 a0_7 (q1e_ w' gb278 a1_0 a1_1 A1_2 l1_2.length c1_2 a1_3 a1_4 A1_5 l1_5.length c1_5 a1_6 a1_7)) (ds := []) M4_0 (by kernel_rfl) rfl rfl (k1_ BK277.out (k1e_ BK278.out)) (fun hHeld => ?_); refine with_tabW impl_Sharpen.tab6 impl_Sharpen.bits6 (fun HT_ HW_ => ?_)
       generalize w89.drew = w90 at HO286 HO290 BK277 BK278 BK279 BK282 HB hHeld ⊢
       refine pu_ 0 (some 45) M4_1 HT_ ?_
       refine pu_ 2 (some 47) M4_2 HT_ ?_
       refine pu_ 5 (some 50) M4_3 HT_ ?_
       refine pu_ 7 (some 52) M4_4 HT_ ?_
       refine tk_ 1 (some 46) M4_5 HT_ HW_ hHeld ?_
       refine tk_ 3 (some 48) M4_6 HT_ HW_ hHeld ?_
       refine pu_ 4 (some 49) M4_7 HT_ ?_
       refine pu_ 10 (some 55) M4_8 HT_ ?_
       refine tk_ 6 (some 51) M4_9 HT_ HW_ hHeld ?_
       refine tk_ 8 (some 53) M4_10 HT_ HW_ hHeld ?_
       refine pu_ 9 (some 54) M4_11 HT_ ?_
       refine one_ (i := 11) (N := none) M4_12 rfl rfl (one_of HT_.out (by kernel_rfl)) (by decide) (fun K hK => ?_)
       have hs91 : w90.cell? ⟨gb282, 3, none⟩ = some (.int .i64 a0_3) := (blk_cell BK282.out 3).trans rfl
       have hfs91 := blk_frozen BK282.out 3
       have hns91_0 := NB277_282.out
       have hns91_1 := NB278_282.out
       have hns91_2 := NB279_282.out
       have hms91_0 := NB282_277.out
       have hms91_1 := NB282_278.out
       have hms91_2 := NB282_279.out
       refine skip_ (w1 := ?_) (by rfl) rfl ?_ ?_
       rotate_left
       ·
        go_simp
        rfl
       refine hK.out _ _ ⟨((cell_far (p := ⟨gb282, _, none⟩) NB277_282.out _).trans (hHeld.1)), ((cell_far (p := ⟨gb282, _, none⟩) NB277_282.out _).trans (hHeld.2.1)), ((cell_far (p := ⟨gb282, _, none⟩) NB277_282.out _).trans (hHeld.2.2.1)), ((cell_far (p := ⟨gb282, _, none⟩) NB277_282.out _).trans (hHeld.2.2.2.1)), ((cell_far (p := ⟨gb282, _, none⟩) NB277_282.out _).trans (hHeld.2.2.2.2.1)), ((cell_far (p := ⟨gb282, _, none⟩) NB277_282.out _).trans (hHeld.2.2.2.2.2.1)), ((cell_far (p := ⟨gb282, _, none⟩) NB277_282.out _).trans (hHeld.2.2.2.2.2.2.1)), ((cell_far (p := ⟨gb282, _, none⟩) NB277_282.out _).trans (hHeld.2.2.2.2.2.2.2.1)), ((cell_far (p := ⟨gb282, _, none⟩) NB278_282.out _).trans (hHeld.2.2.2.2.2.2.2.2.1)), ((cell_far (p := ⟨gb282, _, none⟩) NB278_282.out _).trans (hHeld.2.2.2.2.2.2.2.2.2.1)), ((cell_far (p := ⟨gb282, _, none⟩) NB278_282.out _).trans (hHeld.2.2.2.2.2.2.2.2.2.2.1)), ((cell_far (p := ⟨gb282, _, none⟩) NB278_282.out _).trans (hHeld.2.2.2.2.2.2.2.2.2.2.2.1)), ((cell_far (p := ⟨gb282, _, none⟩) NB278_282.out _).trans (hHeld.2.2.2.2.2.2.2.2.2.2.2.2.1)), ((cell_far (p := ⟨gb282, _, none⟩) NB278_282.out _).trans (hHeld.2.2.2.2.2.2.2.2.2.2.2.2.2.1)), ((cell_far (p := ⟨gb282, _, none⟩) NB278_282.out _).trans (hHeld.2.2.2.2.2.2.2.2.2.2.2.2.2.2.1)), ((cell_far (p := ⟨gb282, _, none⟩) NB278_282.out _).trans (hHeld.2.2.2.2.2.2.2.2.2.2.2.2.2.2.2))⟩ (fun hHeld => ?_)
       clear hK K
       refine pu_ 12 (some 56) M4_13 HT_ ?_
       refine one_ (i := 13) (N := none) M4_14 rfl rfl (one_of HT_.out (by kernel_rfl)) (by decide) (fun K hK => ?_)
       have hs92 : w90.cell? ⟨gb282, 4, none⟩ = some (.int .i64 a0_4) := (blk_cell BK282.out 4).trans rfl
       have hfs92 := blk_frozen BK282.out 4
       have hns92_0 := NB277_282.out
       have hns92_1 := NB278_282.out
       have hns92_2 := NB279_282.out
       have hms92_0 := NB282_277.out
       have hms92_1 := NB282_278.out
       have hms92_2 := NB282_279.out
       refine skip_ (w1 := ?_) (by rfl) rfl ?_ ?_
       rotate_left
       ·
        go_simp
        rfl
       refine hK.out _ _ ⟨((cell_far (p := ⟨gb282, _, none⟩) NB277_282.out _).trans (hHeld.1)), ((cell_far (p := ⟨gb282, _, none⟩) NB277_282.out _).trans (hHeld.2.1)), ((cell_far (p := ⟨gb282, _, none⟩) NB277_282.out _).trans (hHeld.2.2.1)), ((cell_far (p := ⟨gb282, _, none⟩) NB277_282.out _).trans (hHeld.2.2.2.1)), ((cell_far (p := ⟨gb282, _, none⟩) NB277_282.out _).trans (hHeld.2.2.2.2.1)), ((cell_far (p := ⟨gb282, _, none⟩) NB277_282.out _).trans (hHeld.2.2.2.2.2.1)), ((cell_far (p := ⟨gb282, _, none⟩) NB277_282.out _).trans (hHeld.2.2.2.2.2.2.1)), ((cell_far (p := ⟨gb282, _, none⟩) NB277_282.out _).trans (hHeld.2.2.2.2.2.2.2.1)), ((cell_far (p := ⟨gb282, _, none⟩) NB278_282.out _).trans (hHeld.2.2.2.2.2.2.2.2.1)), ((cell_far (p := ⟨gb282, _, none⟩) NB278_282.out _).trans (hHeld.2.2.2.2.2.2.2.2.2.1)), ((cell_far (p := ⟨gb282, _, none⟩) NB278_282.out _).trans (hHeld.2.2.2.2.2.2.2.2.2.2.1)), ((cell_far (p := ⟨gb282, _, none⟩) NB278_282.out _).trans (hHeld.2.2.2.2.2.2.2.2.2.2.2.1)), ((cell_far (p := ⟨gb282, _, none⟩) NB278_282.out _).trans (hHeld.2.2.2.2.2.2.2.2.2.2.2.2.1)), ((cell_far (p := ⟨gb282, _, none⟩) NB278_282.out _).trans (hHeld.2.2.2.2.2.2.2.2.2.2.2.2.2.1)), ((cell_far (p := ⟨gb282, _, none⟩) NB278_282.out _).trans (hHeld.2.2.2.2.2.2.2.2.2.2.2.2.2.2.1)), ((cell_far (p := ⟨gb282, _, none⟩) NB278_282.out _).trans (hHeld.2.2.2.2.2.2.2.2.2.2.2.2.2.2.2))⟩ (fun hHeld => ?_)
       clear hK K
       refine done_ (done_of HT_.out (by kernel_rfl)) ?_
       obtain ⟨hcz93_0, hcz93_1, hcz93_2, hcz93_3, hcz93_4, hcz93_5, hcz93_6, hcz93_7⟩ := e155_ BK282.out
       obtain ⟨hfz93_0, hfz93_1, hfz93_2, hfz93_3, hfz93_4, hfz93_5, hfz93_6, hfz93_7⟩ := z156_ BK282.out
       obtain ⟨hcz94_0, hcz94_1, hcz94_2, hcz94_3, hcz94_4, hcz94_5, hcz94_6, hcz94_7⟩ := e155_ BK277.out
       obtain ⟨hfz94_0, hfz94_1, hfz94_2, hfz94_3, hfz94_4, hfz94_5, hfz94_6, hfz94_7⟩ := z156_ BK277.out
       obtain ⟨hcz95_0, hcz95_1, hcz95_2, hcz95_3, hcz95_4, hcz95_5, hcz95_6, hcz95_7⟩ := e155_ BK278.out
       obtain ⟨hfz95_0, hfz95_1, hfz95_2, hfz95_3, hfz95_4, hfz95_5, hfz95_6, hfz95_7⟩ := z156_ BK278.out
       obtain ⟨hcz96_0, hcz96_1, hcz96_2, hcz96_3, hcz96_4, hcz96_5, hcz96_6, hcz96_7⟩ := e155_ BK279.out
       obtain ⟨hfz96_0, hfz96_1, hfz96_2, hfz96_3, hfz96_4, hfz96_5, hfz96_6, hfz96_7⟩ := z156_ BK279.out
       try go_wp2
       refine bodyPost_ret (results_ct rfl _ _ gb279 41 #[.int .i64 a0_0, .int .i64 a0_1, .slice Ao82 t283.length co82, .int .i64 ji37, .int .i64 ji38, .slice Ao87 t287.length co87, .int .i64 ji67, .int .i64 ji69] (0, 0) _ rfl (by (with_reducible repeat (first | refine blk_drewN ?_ _ | refine blk_drew ?_ | refine blk_alloc ?_ _)); refine blk_put (cs := #[.int .i64 a0_0, .int .i64 a0_1, .slice Ao82 t283.length co82, .int .i64 ji37, .int .i64 ji38, .slice Ao87 t287.length co87, .int .i64 ji67, .int .i64 0]) ?_ 7 _ rfl; (with_reducible repeat (first | refine blk_drewN ?_ _ | refine blk_drew ?_ | refine blk_alloc ?_ _)); refine blk_put (cs := #[.int .i64 a0_0, .int .i64 a0_1, .slice Ao82 t283.length co82, .int .i64 ji37, .int .i64 ji38, .slice Ao87 t287.length co87, .int .i64 0, .int .i64 0]) ?_ 6 _ rfl; (with_reducible repeat (first | refine blk_drewN ?_ _ | refine blk_drew ?_ | refine blk_alloc ?_ _)); refine blk_put (cs := #[.int .i64 a0_0, .int .i64 a0_1, .slice Ao82 t283.length co82, .int .i64 ji37, .int .i64 ji38, .slice none 0 0, .int .i64 0, .int .i64 0]) ?_ 5 _ rfl; (with_reducible repeat (first | refine blk_drewN ?_ _ | refine blk_drew ?_ | refine blk_alloc ?_ _)); refine blk_put (cs := #[.int .i64 a0_0, .int .i64 a0_1, .slice Ao82 t283.length co82, .int .i64 ji37, .int .i64 0, .slice none 0 0, .int .i64 0, .int .i64 0]) ?_ 4 _ rfl; (with_reducible repeat (first | refine blk_drewN ?_ _ | refine blk_drew ?_ | refine blk_alloc ?_ _)); refine blk_put (cs := #[.int .i64 a0_0, .int .i64 a0_1, .slice Ao82 t283.length co82, .int .i64 0, .int .i64 0, .slice none 0 0, .int .i64 0, .int .i64 0]) ?_ 3 _ rfl; (with_reducible repeat (first | refine blk_drewN ?_ _ | refine blk_drew ?_ | refine blk_alloc ?_ _)); refine blk_put (cs := #[.int .i64 a0_0, .int .i64 a0_1, .slice none 0 0, .int .i64 0, .int .i64 0, .slice none 0 0, .int .i64 0, .int .i64 0]) ?_ 2 _ rfl; (with_reducible repeat (first | refine blk_drewN ?_ _ | refine blk_drew ?_ | refine blk_alloc ?_ _)); refine blk_put (cs := #[.int .i64 a0_0, .int .i64 0, .slice none 0 0, .int .i64 0, .int .i64 0, .slice none 0 0, .int .i64 0, .int .i64 0]) ?_ 1 _ rfl; (with_reducible repeat (first | refine blk_drewN ?_ _ | refine blk_drew ?_ | refine blk_alloc ?_ _)); refine blk_put (cs := #[.int .i64 0, .int .i64 0, .slice none 0 0, .int .i64 0, .int .i64 0, .slice none 0 0, .int .i64 0, .int .i64 0]) ?_ 0 _ rfl; (with_reducible repeat (first | refine blk_drewN ?_ _ | refine blk_drew ?_ | refine blk_alloc ?_ _)); refine blk_far ?_ NB279_282.out _; (with_reducible repeat (first | refine blk_drewN ?_ _ | refine blk_drew ?_ | refine blk_alloc ?_ _)); refine blk_far ?_ NB279_282.out _; (with_reducible repeat (first | refine blk_drewN ?_ _ | refine blk_drew ?_ | refine blk_alloc ?_ _)); refine blk_far ?_ NB279_282.out _; (with_reducible repeat (first | refine blk_drewN ?_ _ | refine blk_drew ?_ | refine blk_alloc ?_ _)); refine blk_far ?_ NB279_282.out _; (with_reducible repeat (first | refine blk_drewN ?_ _ | refine blk_drew ?_ | refine blk_alloc ?_ _)); exact BK279.out) Try.underlying41 rfl (by kernel_rfl)) rfl ?_
       exact ⟨_, _, by first | rfl | (simp [errW_none, errW_some] <;> rfl) | (simp only [← hji37, ← hji38, ← hji67, ← hji68, ← hji69]; first | rfl | (simp [errW_none, errW_some] <;> rfl)) | (simp [*, errW_none, errW_some] <;> rfl), by (with_reducible repeat (first | apply Kd.R_alloc | apply Kd.R_drewN | apply Kd.R_drew)); exact Kd.R_mono (Kd.R_far (p := ⟨gb279, 7, none⟩) (Kd.R_far (p := ⟨gb279, 6, none⟩) (Kd.R_far (p := ⟨gb279, 5, none⟩) (Kd.R_far (p := ⟨gb279, 4, none⟩) (Kd.R_far (p := ⟨gb279, 3, none⟩) (Kd.R_far (p := ⟨gb279, 2, none⟩) (Kd.R_far (p := ⟨gb279, 1, none⟩) (Kd.R_far (p := ⟨gb279, 0, none⟩) (Kd.R_far (p := ⟨gb282, 7, none⟩) (Kd.R_far (p := ⟨gb282, 6, none⟩) (Kd.R_far (p := ⟨gb282, 4, none⟩) (Kd.R_far (p := ⟨gb282, 3, none⟩) (Kd.R_types (Kd.R_types HO286.out BK282.out (by decide)) BK279.out (by decide)) (fun _ hk => hk.1.2) (.int .i64 ji37)) (fun _ hk => hk.1.2) (.int .i64 ji38)) (fun _ hk => hk.1.2) (.int .i64 ji67)) (fun _ hk => hk.1.2) (.int .i64 ji69)) (fun _ hk => hk.2) (.int .i64 a0_0)) (fun _ hk => hk.2) (.int .i64 a0_1)) (fun _ hk => hk.2) (.slice Ao82 t283.length co82)) (fun _ hk => hk.2) (.int .i64 ji37)) (fun _ hk => hk.2) (.int .i64 ji38)) (fun _ hk => hk.2) (.slice Ao87 t287.length co87)) (fun _ hk => hk.2) (.int .i64 ji67)) (fun _ hk => hk.2) (.int .i64 ji69)) (fun _ hk => hk.1.1), by (with_reducible repeat (first | apply Kd.R_alloc | apply Kd.R_drewN | apply Kd.R_drew)); exact Kd.R_mono (Kd.R_far (p := ⟨gb279, 7, none⟩) (Kd.R_far (p := ⟨gb279, 6, none⟩) (Kd.R_far (p := ⟨gb279, 5, none⟩) (Kd.R_far (p := ⟨gb279, 4, none⟩) (Kd.R_far (p := ⟨gb279, 3, none⟩) (Kd.R_far (p := ⟨gb279, 2, none⟩) (Kd.R_far (p := ⟨gb279, 1, none⟩) (Kd.R_far (p := ⟨gb279, 0, none⟩) (Kd.R_far (p := ⟨gb282, 7, none⟩) (Kd.R_far (p := ⟨gb282, 6, none⟩) (Kd.R_far (p := ⟨gb282, 4, none⟩) (Kd.R_far (p := ⟨gb282, 3, none⟩) (Kd.R_types (Kd.R_types HO290.out BK282.out (by decide)) BK279.out (by decide)) (fun _ hk => hk.1.2) (.int .i64 ji37)) (fun _ hk => hk.1.2) (.int .i64 ji38)) (fun _ hk => hk.1.2) (.int .i64 ji67)) (fun _ hk => hk.1.2) (.int .i64 ji69)) (fun _ hk => hk.2) (.int .i64 a0_0)) (fun _ hk => hk.2) (.int .i64 a0_1)) (fun _ hk => hk.2) (.slice Ao82 t283.length co82)) (fun _ hk => hk.2) (.int .i64 ji37)) (fun _ hk => hk.2) (.int .i64 ji38)) (fun _ hk => hk.2) (.slice Ao87 t287.length co87)) (fun _ hk => hk.2) (.int .i64 ji67)) (fun _ hk => hk.2) (.int .i64 ji69)) (fun _ hk => hk.1.1), y167_⟩
     ·
      replace c40 := Bool.eq_false_iff.mpr c40
      subst c40
      have H1 : (some (0, 0, ([] : List Int), 0, 0, ([] : List Int), 0, 0, false)) = some (r1, r2, r3, r4, r5, r6, r7, r8, r9) := by rw [if_neg (show ¬ (false = true) by decide)] at H; exact H
      clear H
      have H := H1
      clear H1
      simp only [Option.some.injEq, Prod.mk.injEq] at H
      obtain ⟨rfl, rfl, rfl, rfl, rfl, rfl, rfl, rfl, rfl⟩ := H
      have hnb97 := NB277_278.out
      have hnc97 := NB278_277.out
      have hnb98 := NB277_279.out
      have hnc98 := NB279_277.out
      obtain ⟨hcz99_0, hcz99_1, hcz99_2, hcz99_3, hcz99_4, hcz99_5, hcz99_6, hcz99_7⟩ := e155_ BK277.out
      obtain ⟨hfz99_0, hfz99_1, hfz99_2, hfz99_3, hfz99_4, hfz99_5, hfz99_6, hfz99_7⟩ := z156_ BK277.out
      try go_wp2_with (first | ((with_reducible refine gate_dst (N := 6) rfl ?_); refine box_event ?hg (N := 6) ?hd (cs := #[.int .i64 0, .int .i64 0, .slice none 0 0, .int .i64 0, .int .i64 0, .slice none 0 0, .int .i64 0, .int .i64 0]) (t := 41) ?hr ?_; (case hd => rfl); (case hg => rfl); (case hr => first | (go_simp; done) | (go_simp; rfl)); intro gb282 hg w100 hbox hb; have n0_ := Aside0.mk (blk_below (bd_ BK277.out) hb); have n1_ := Aside0.mk (blk_below (bd_ BK278.out) hb); have n2_ := Aside0.mk (blk_below (bd_ BK279.out) hb); have n3_ := Aside0.mk (below_step y160_ hb); have BK282 := Aside0.mk (hbox); have GW282 := Aside0.mk ((y187_ : w.heap.size ≤ gb282)); have GE282 := Aside0.mk ((y187_ : w.heap.size ≤ gb282)); have NB277_282 := Aside0.mk ((y173_ : gb277 ≠ gb282)); have NB282_277 := Aside0.mk ((y174_ : gb282 ≠ gb277)); have NB278_282 := Aside0.mk ((y176_ : gb278 ≠ gb282)); have NB282_278 := Aside0.mk ((y177_ : gb282 ≠ gb278)); have NB279_282 := Aside0.mk ((y180_ : gb279 ≠ gb282)); have NB282_279 := Aside0.mk ((y181_ : gb282 ≠ gb279)); clear BK277; clear BK278; clear BK279; clear HB; have BK277 := n0_; have BK278 := n1_; have BK279 := n2_; have HB := n3_; clear n0_ n1_ n2_ n3_; clear hb hbox hg; have hnb101 := NB282_277.out; have hnc101 := NB277_282.out; have hnb102 := NB282_278.out; have hnc102 := NB278_282.out; have hnb103 := NB282_279.out; have hnc103 := NB279_282.out; obtain ⟨hcz104_0, hcz104_1, hcz104_2, hcz104_3, hcz104_4, hcz104_5, hcz104_6, hcz104_7⟩ := e155_ BK282.out; obtain ⟨hfz104_0, hfz104_1, hfz104_2, hfz104_3, hfz104_4, hfz104_5, hfz104_6, hfz104_7⟩ := z156_ BK282.out; obtain ⟨hcz105_0, hcz105_1, hcz105_2, hcz105_3, hcz105_4, hcz105_5, hcz105_6, hcz105_7⟩ := e155_ BK277.out; obtain ⟨hfz105_0, hfz105_1, hfz105_2, hfz105_3, hfz105_4, hfz105_5, hfz105_6, hfz105_7⟩ := z156_ BK277.out; have hnb106 := NB278_279.out; have hnc106 := NB279_278.out; obtain ⟨hcz107_0, hcz107_1, hcz107_2, hcz107_3, hcz107_4, hcz107_5, hcz107_6, hcz107_7⟩ := e155_ BK278.out; obtain ⟨hfz107_0, hfz107_1, hfz107_2, hfz107_3, hfz107_4, hfz107_5, hfz107_6, hfz107_7⟩ := z156_ BK278.out) | ((with_reducible refine gate_callee (f := 81) rfl ?_); refine goesL_ (some 32) rfl rfl Try.func81 (by kernel_rfl) rfl #[.slice A0_2 l0_2.length c0_2, .slice A1_2 l1_2.length c1_2] rfl ma_ ?_; (with_reducible refine (impl_both.calls kj2 _ _ l0_2 _ _ l1_2 t283 true _ ?side1 ?side2 ?side3 ?side4 A35.out).mono ?_); (case side1 => exact Kd.C_below HR0_2.out y157_); (case side2 => exact HC0_2.out); (case side3 => exact Kd.C_below HR1_2.out y157_); (case side4 => exact HC1_2.out); rintro e w108 ⟨v285, rfl, ho0, hb⟩; refine ⟨_, rfl, ?_⟩; have HO286 := Aside0.mk (Kd.R_lower ho0 (below_size y157_)); have n1_ := Aside0.mk (blk_below (g := gb277) (o := c154_ a0_0 a0_1 A0_2 l0_2.length c0_2 a0_3 a0_4 A0_5 l0_5.length c0_5 a0_6 a0_7) y161_ hb); have n2_ := Aside0.mk (blk_below (g := gb278) (o := c154_ a1_0 a1_1 A1_2 l1_2.length c1_2 a1_3 a1_4 A1_5 l1_5.length c1_5 a1_6 a1_7) y162_ hb); have n3_ := Aside0.mk (blk_below (g := gb279) (o := c154_ 0 0 none 0 0 0 0 none 0 0 0 0) y163_ hb); have n4_ := Aside0.mk (blk_below (g := gb282) (o := c154_ a0_0 a0_1 A0_2 l0_2.length c0_2 a0_3 a0_4 A0_5 l0_5.length c0_5 a0_6 a0_7) y158_ hb); have n5_ := Aside0.mk (below_step y157_ hb); clear BK277; clear BK278; clear BK279; clear BK282; clear HB; have BK277 := n1_; have BK278 := n2_; have BK279 := n3_; have BK282 := n4_; have HB := n5_; clear n1_ n2_ n3_ n4_ n5_; (try clear hb); (try clear hb2); (try clear hk); (try clear hi); (try clear ho0); obtain ⟨Ao109, co109, eo109⟩ := Kd.R_slice HO286.out; subst eo109; obtain ⟨hcz110_0, hcz110_1, hcz110_2, hcz110_3, hcz110_4, hcz110_5, hcz110_6, hcz110_7⟩ := e155_ BK282.out; obtain ⟨hfz110_0, hfz110_1, hfz110_2, hfz110_3, hfz110_4, hfz110_5, hfz110_6, hfz110_7⟩ := z156_ BK282.out; obtain ⟨hcz111_0, hcz111_1, hcz111_2, hcz111_3, hcz111_4, hcz111_5, hcz111_6, hcz111_7⟩ := e155_ BK277.out; obtain ⟨hfz111_0, hfz111_1, hfz111_2, hfz111_3, hfz111_4, hfz111_5, hfz111_6, hfz111_7⟩ := z156_ BK277.out; obtain ⟨hcz112_0, hcz112_1, hcz112_2, hcz112_3, hcz112_4, hcz112_5, hcz112_6, hcz112_7⟩ := e155_ BK278.out; obtain ⟨hfz112_0, hfz112_1, hfz112_2, hfz112_3, hfz112_4, hfz112_5, hfz112_6, hfz112_7⟩ := z156_ BK278.out) | ((with_reducible refine gate_callee (f := 81) rfl ?_); refine goesL_ (some 41) rfl rfl Try.func81 (by kernel_rfl) rfl #[.slice A0_5 l0_5.length c0_5, .slice A1_5 l1_5.length c1_5] rfl ma_ ?_; (with_reducible refine (impl_both.calls kj2 _ _ l0_5 _ _ l1_5 t287 false _ ?side1 ?side2 ?side3 ?side4 A36.out).mono ?_); (case side1 => exact Kd.C_below HR0_5.out y157_); (case side2 => exact HC0_5.out); (case side3 => exact Kd.C_below HR1_5.out y157_); (case side4 => exact HC1_5.out); rintro e w113 ⟨v289, rfl, ho0, hb⟩; refine ⟨_, rfl, ?_⟩; have n0_ := Aside0.mk (Kd.R_elder' y183_ (Kd.R_base ho0) hb); have HO290 := Aside0.mk (Kd.R_lower (Kd.R_new' ho0 (Kd.R_lt y183_)) (below_size y157_)); have n2_ := Aside0.mk (blk_below (g := gb277) (o := c154_ a0_0 a0_1 A0_2 l0_2.length c0_2 a0_3 a0_4 A0_5 l0_5.length c0_5 a0_6 a0_7) y170_ hb); have n3_ := Aside0.mk (blk_below (g := gb278) (o := c154_ a1_0 a1_1 A1_2 l1_2.length c1_2 a1_3 a1_4 A1_5 l1_5.length c1_5 a1_6 a1_7) y171_ hb); have n4_ := Aside0.mk (blk_below (g := gb279) (o := c154_ 0 0 none 0 0 0 0 none 0 0 0 0) y172_ hb); have n5_ := Aside0.mk (blk_below (g := gb282) (o := .cells #[.int .i64 a0_0, .int .i64 a0_1, .slice Ao109 t283.length co109, .int .i64 a0_3, .int .i64 a0_4, .slice A0_5 l0_5.length c0_5, .int .i64 a0_6, .int .i64 a0_7] 41 (0, 0)) y169_ hb); have n6_ := Aside0.mk (below_step y157_ hb); clear HO286; clear BK277; clear BK278; clear BK279; clear BK282; clear HB; have HO286 := n0_; have BK277 := n2_; have BK278 := n3_; have BK279 := n4_; have BK282 := n5_; have HB := n6_; clear n0_ n2_ n3_ n4_ n5_ n6_; (try clear hb); (try clear hb2); (try clear hk); (try clear hi); (try clear ho0); obtain ⟨Ao114, co114, eo114⟩ := Kd.R_slice HO290.out; subst eo114; obtain ⟨hcz115_0, hcz115_1, hcz115_2, hcz115_3, hcz115_4, hcz115_5, hcz115_6, hcz115_7⟩ := e155_ BK282.out; obtain ⟨hfz115_0, hfz115_1, hfz115_2, hfz115_3, hfz115_4, hfz115_5, hfz115_6, hfz115_7⟩ := z156_ BK282.out))
      have n0_ : Aside0 (Kd.R (Kd.int .i64) 3 (w113.setCell ⟨gb282, 5, none⟩ (.slice Ao114 t287.length co114)) w.heap.size (fun k_ => some k_ ≠ (.slice Ao114 t287.length co114 : Value).ownBlock) (.slice Ao109 t283.length co109) t283) := ⟨by (with_reducible repeat (first | apply Kd.R_alloc | apply Kd.R_drewN | apply Kd.R_drew)); exact Kd.R_mono (Kd.R_far (p := ⟨gb282, 5, none⟩) (Kd.R_types HO286.out BK282.out (by decide)) (fun _ hk => hk.2) (.slice Ao114 t287.length co114)) (fun _ hk => hk.1.2)⟩
      have n1_ : Aside0 (Kd.R (Kd.int .i64) 3 (w113.setCell ⟨gb282, 5, none⟩ (.slice Ao114 t287.length co114)) w.heap.size (fun k_ => some k_ ≠ (.slice Ao109 t283.length co109 : Value).ownBlock) (.slice Ao114 t287.length co114) t287) := ⟨by (with_reducible repeat (first | apply Kd.R_alloc | apply Kd.R_drewN | apply Kd.R_drew)); exact Kd.R_mono (Kd.R_far (p := ⟨gb282, 5, none⟩) (Kd.R_types HO290.out BK282.out (by decide)) (fun _ hk => hk.2) (.slice Ao114 t287.length co114)) (fun _ hk => hk.1.2)⟩
      have n2_ : Aside0 ((w113.setCell ⟨gb282, 5, none⟩ (.slice Ao114 t287.length co114)).heap[gb277]? = some (c154_ a0_0 a0_1 A0_2 l0_2.length c0_2 a0_3 a0_4 A0_5 l0_5.length c0_5 a0_6 a0_7)) := ⟨by (with_reducible repeat (first | refine blk_drewN ?_ _ | refine blk_drew ?_ | refine blk_alloc ?_ _)); refine blk_far ?_ NB277_282.out _; (with_reducible repeat (first | refine blk_drewN ?_ _ | refine blk_drew ?_ | refine blk_alloc ?_ _)); exact BK277.out⟩
      have n3_ : Aside0 ((w113.setCell ⟨gb282, 5, none⟩ (.slice Ao114 t287.length co114)).heap[gb278]? = some (c154_ a1_0 a1_1 A1_2 l1_2.length c1_2 a1_3 a1_4 A1_5 l1_5.length c1_5 a1_6 a1_7)) := ⟨by (with_reducible repeat (first | refine blk_drewN ?_ _ | refine blk_drew ?_ | refine blk_alloc ?_ _)); refine blk_far ?_ NB278_282.out _; (with_reducible repeat (first | refine blk_drewN ?_ _ | refine blk_drew ?_ | refine blk_alloc ?_ _)); exact BK278.out⟩
      have n4_ : Aside0 ((w113.setCell ⟨gb282, 5, none⟩ (.slice Ao114 t287.length co114)).heap[gb279]? = some (c154_ 0 0 none 0 0 0 0 none 0 0 0 0)) := ⟨by (with_reducible repeat (first | refine blk_drewN ?_ _ | refine blk_drew ?_ | refine blk_alloc ?_ _)); refine blk_far ?_ NB279_282.out _; (with_reducible repeat (first | refine blk_drewN ?_ _ | refine blk_drew ?_ | refine blk_alloc ?_ _)); exact BK279.out⟩
      have n5_ : Aside0 ((w113.setCell ⟨gb282, 5, none⟩ (.slice Ao114 t287.length co114)).heap[gb282]? = some (.cells #[.int .i64 a0_0, .int .i64 a0_1, .slice Ao109 t283.length co109, .int .i64 a0_3, .int .i64 a0_4, .slice Ao114 t287.length co114, .int .i64 a0_6, .int .i64 a0_7] 41 (0, 0))) := ⟨by (with_reducible repeat (first | refine blk_drewN ?_ _ | refine blk_drew ?_ | refine blk_alloc ?_ _)); refine blk_put (cs := #[.int .i64 a0_0, .int .i64 a0_1, .slice Ao109 t283.length co109, .int .i64 a0_3, .int .i64 a0_4, .slice A0_5 l0_5.length c0_5, .int .i64 a0_6, .int .i64 a0_7]) ?_ 5 _ rfl; (with_reducible repeat (first | refine blk_drewN ?_ _ | refine blk_drew ?_ | refine blk_alloc ?_ _)); exact BK282.out⟩
      have n6_ : Aside0 (Below w.heap.size w (w113.setCell ⟨gb282, 5, none⟩ (.slice Ao114 t287.length co114))) := ⟨y167_⟩
      (try clear HO286)
      (try clear HO290)
      (try clear BK277)
      (try clear BK278)
      (try clear BK279)
      (try clear BK282)
      (try clear HB)
      generalize (w113.setCell ⟨gb282, 5, none⟩ (.slice Ao114 t287.length co114)) = w116 at n0_ n1_ n2_ n3_ n4_ n5_ n6_ ⊢
      have HO286 := n0_
      have HO290 := n1_
      have BK277 := n2_
      have BK278 := n3_
      have BK279 := n4_
      have BK282 := n5_
      have HB := n6_
      clear n0_ n1_ n2_ n3_ n4_ n5_ n6_
      have n0_ := Aside0.mk (Kd.R_drew HO286.out)
      have n1_ := Aside0.mk (Kd.R_drew HO290.out)
      have n2_ := Aside0.mk (blk_drew BK277.out)
      have n3_ := Aside0.mk (blk_drew BK278.out)
      have n4_ := Aside0.mk (blk_drew BK279.out)
      have n5_ := Aside0.mk (blk_drew BK282.out)
      have n6_ := Aside0.mk (below_drew1 HB.out)
      clear HO286
      clear HO290
      clear BK277
      clear BK278
      clear BK279
      clear BK282
      clear HB
      have HO286 := n0_
      have HO290 := n1_
      have BK277 := n2_
      have BK278 := n3_
      have BK279 := n4_
      have BK282 := n5_
      have HB := n6_
      clear n0_ n1_ n2_ n3_ n4_ n5_ n6_
      refine start_ (n := 14) (S := fun w' => q1_ w' gb277 a0_0 a0_1 A0_2 l0_2.length c0_2 a0_3 a0_4 A0_5 l0_5.length c0_5 a0_6 a0_7 (q1e_ w' gb278 a1_0 a1_1 A1_2 l1_2.length c1_2 a1_3 a1_4 A1_5 l1_5.length c1_5 a1_6 a1_7)) (ds := []) M4_0 (by kernel_rfl) rfl rfl (k1_ BK277.out (k1e_ BK278.out)) (fun hHeld => ?_); refine with_tabW impl_Sharpen.tab6 impl_Sharpen.bits6 (fun HT_ HW_ => ?_)
      generalize w116.drew = w117 at HO286 HO290 BK277 BK278 BK279 BK282 HB hHeld ⊢
      refine pu_ 0 (some 45) M4_1 HT_ ?_
      refine pu_ 2 (some 47) M4_2 HT_ ?_
      refine pu_ 5 (some 50) M4_3 HT_ ?_
      refine pu_ 7 (some 52) M4_4 HT_ ?_
      refine tk_ 1 (some 46) M4_5 HT_ HW_ hHeld ?_
      refine tk_ 3 (some 48) M4_6 HT_ HW_ hHeld ?_
      refine pu_ 4 (some 49) M4_7 HT_ ?_
      refine pu_ 10 (some 55) M4_8 HT_ ?_
      refine tk_ 6 (some 51) M4_9 HT_ HW_ hHeld ?_
      refine tk_ 8 (some 53) M4_10 HT_ HW_ hHeld ?_
      refine pu_ 9 (some 54) M4_11 HT_ ?_
      refine one_ (i := 11) (N := none) M4_12 rfl rfl (one_of HT_.out (by kernel_rfl)) (by decide) (fun K hK => ?_)
      have hs118 : w117.cell? ⟨gb282, 3, none⟩ = some (.int .i64 a0_3) := (blk_cell BK282.out 3).trans rfl
      have hfs118 := blk_frozen BK282.out 3
      have hns118_0 := NB277_282.out
      have hns118_1 := NB278_282.out
      have hns118_2 := NB279_282.out
      have hms118_0 := NB282_277.out
      have hms118_1 := NB282_278.out
      have hms118_2 := NB282_279.out
      refine skip_ (w1 := ?_) (by rfl) rfl ?_ ?_
      rotate_left
      ·
       go_simp
       rfl
      refine hK.out _ _ ⟨((cell_far (p := ⟨gb282, _, none⟩) NB277_282.out _).trans (hHeld.1)), ((cell_far (p := ⟨gb282, _, none⟩) NB277_282.out _).trans (hHeld.2.1)), ((cell_far (p := ⟨gb282, _, none⟩) NB277_282.out _).trans (hHeld.2.2.1)), ((cell_far (p := ⟨gb282, _, none⟩) NB277_282.out _).trans (hHeld.2.2.2.1)), ((cell_far (p := ⟨gb282, _, none⟩) NB277_282.out _).trans (hHeld.2.2.2.2.1)), ((cell_far (p := ⟨gb282, _, none⟩) NB277_282.out _).trans (hHeld.2.2.2.2.2.1)), ((cell_far (p := ⟨gb282, _, none⟩) NB277_282.out _).trans (hHeld.2.2.2.2.2.2.1)), ((cell_far (p := ⟨gb282, _, none⟩) NB277_282.out _).trans (hHeld.2.2.2.2.2.2.2.1)), ((cell_far (p := ⟨gb282, _, none⟩) NB278_282.out _).trans (hHeld.2.2.2.2.2.2.2.2.1)), ((cell_far (p := ⟨gb282, _, none⟩) NB278_282.out _).trans (hHeld.2.2.2.2.2.2.2.2.2.1)), ((cell_far (p := ⟨gb282, _, none⟩) NB278_282.out _).trans (hHeld.2.2.2.2.2.2.2.2.2.2.1)), ((cell_far (p := ⟨gb282, _, none⟩) NB278_282.out _).trans (hHeld.2.2.2.2.2.2.2.2.2.2.2.1)), ((cell_far (p := ⟨gb282, _, none⟩) NB278_282.out _).trans (hHeld.2.2.2.2.2.2.2.2.2.2.2.2.1)), ((cell_far (p := ⟨gb282, _, none⟩) NB278_282.out _).trans (hHeld.2.2.2.2.2.2.2.2.2.2.2.2.2.1)), ((cell_far (p := ⟨gb282, _, none⟩) NB278_282.out _).trans (hHeld.2.2.2.2.2.2.2.2.2.2.2.2.2.2.1)), ((cell_far (p := ⟨gb282, _, none⟩) NB278_282.out _).trans (hHeld.2.2.2.2.2.2.2.2.2.2.2.2.2.2.2))⟩ (fun hHeld => ?_)
      clear hK K
      refine pu_ 12 (some 56) M4_13 HT_ ?_
      refine one_ (i := 13) (N := none) M4_14 rfl rfl (one_of HT_.out (by kernel_rfl)) (by decide) (fun K hK => ?_)
      have hs119 : w117.cell? ⟨gb282, 4, none⟩ = some (.int .i64 a0_4) := (blk_cell BK282.out 4).trans rfl
      have hfs119 := blk_frozen BK282.out 4
      have hns119_0 := NB277_282.out
      have hns119_1 := NB278_282.out
      have hns119_2 := NB279_282.out
      have hms119_0 := NB282_277.out
      have hms119_1 := NB282_278.out
      have hms119_2 := NB282_279.out
      refine skip_ (w1 := ?_) (by rfl) rfl ?_ ?_
      rotate_left
      ·
       go_simp
       rfl
      refine hK.out _ _ ⟨((cell_far (p := ⟨gb282, _, none⟩) NB277_282.out _).trans (hHeld.1)), ((cell_far (p := ⟨gb282, _, none⟩) NB277_282.out _).trans (hHeld.2.1)), ((cell_far (p := ⟨gb282, _, none⟩) NB277_282.out _).trans (hHeld.2.2.1)), ((cell_far (p := ⟨gb282, _, none⟩) NB277_282.out _).trans (hHeld.2.2.2.1)), ((cell_far (p := ⟨gb282, _, none⟩) NB277_282.out _).trans (hHeld.2.2.2.2.1)), ((cell_far (p := ⟨gb282, _, none⟩) NB277_282.out _).trans (hHeld.2.2.2.2.2.1)), ((cell_far (p := ⟨gb282, _, none⟩) NB277_282.out _).trans (hHeld.2.2.2.2.2.2.1)), ((cell_far (p := ⟨gb282, _, none⟩) NB277_282.out _).trans (hHeld.2.2.2.2.2.2.2.1)), ((cell_far (p := ⟨gb282, _, none⟩) NB278_282.out _).trans (hHeld.2.2.2.2.2.2.2.2.1)), ((cell_far (p := ⟨gb282, _, none⟩) NB278_282.out _).trans (hHeld.2.2.2.2.2.2.2.2.2.1)), ((cell_far (p := ⟨gb282, _, none⟩) NB278_282.out _).trans (hHeld.2.2.2.2.2.2.2.2.2.2.1)), ((cell_far (p := ⟨gb282, _, none⟩) NB278_282.out _).trans (hHeld.2.2.2.2.2.2.2.2.2.2.2.1)), ((cell_far (p := ⟨gb282, _, none⟩) NB278_282.out _).trans (hHeld.2.2.2.2.2.2.2.2.2.2.2.2.1)), ((cell_far (p := ⟨gb282, _, none⟩) NB278_282.out _).trans (hHeld.2.2.2.2.2.2.2.2.2.2.2.2.2.1)), ((cell_far (p := ⟨gb282, _, none⟩) NB278_282.out _).trans (hHeld.2.2.2.2.2.2.2.2.2.2.2.2.2.2.1)), ((cell_far (p := ⟨gb282, _, none⟩) NB278_282.out _).trans (hHeld.2.2.2.2.2.2.2.2.2.2.2.2.2.2.2))⟩ (fun hHeld => ?_)
      clear hK K
      refine done_ (done_of HT_.out (by kernel_rfl)) ?_
      obtain ⟨hcz120_0, hcz120_1, hcz120_2, hcz120_3, hcz120_4, hcz120_5, hcz120_6, hcz120_7⟩ := e155_ BK279.out
      obtain ⟨hfz120_0, hfz120_1, hfz120_2, hfz120_3, hfz120_4, hfz120_5, hfz120_6, hfz120_7⟩ := z156_ BK279.out
      try go_wp2
      refine bodyPost_ret (results_ct rfl _ _ gb279 41 #[.int .i64 0, .int .i64 0, .slice none 0 0, .int .i64 0, .int .i64 0, .slice none 0 0, .int .i64 0, .int .i64 0] (0, 0) _ rfl y159_ Try.underlying41 rfl (by kernel_rfl)) rfl ?_
      exact ⟨_, _, by first | rfl | (simp [errW_none, errW_some] <;> rfl) | (simp only [← hji37, ← hji38]; first | rfl | (simp [errW_none, errW_some] <;> rfl)) | (simp [*, errW_none, errW_some] <;> rfl), by first | exact Kd.R_nil _ _ _ _ _ | exact Kd.N_nil _ _ _ _ _ | exact Kd.V_nil _ _ _ _ _ | exact Kd.Q_nil _ _ _ _ _ | exact Kd.S_nil _ _ _ _ _, by first | exact Kd.R_nil _ _ _ _ _ | exact Kd.N_nil _ _ _ _ _ | exact Kd.V_nil _ _ _ _ _ | exact Kd.Q_nil _ _ _ _ _ | exact Kd.S_nil _ _ _ _ _, y167_⟩
    ·
     replace c39 := Bool.eq_false_iff.mpr c39
     subst c39
     have H1 : (some (0, 0, ([] : List Int), 0, 0, ([] : List Int), 0, 0, false)) = some (r1, r2, r3, r4, r5, r6, r7, r8, r9) := by rw [if_neg (show ¬ (false = true) by decide)] at H; exact H
     clear H
     have H := H1
     clear H1
     simp only [Option.some.injEq, Prod.mk.injEq] at H
     obtain ⟨rfl, rfl, rfl, rfl, rfl, rfl, rfl, rfl, rfl⟩ := H
     have hnb121 := NB277_278.out
     have hnc121 := NB278_277.out
     have hnb122 := NB277_279.out
     have hnc122 := NB279_277.out
     obtain ⟨hcz123_0, hcz123_1, hcz123_2, hcz123_3, hcz123_4, hcz123_5, hcz123_6, hcz123_7⟩ := e155_ BK277.out
     obtain ⟨hfz123_0, hfz123_1, hfz123_2, hfz123_3, hfz123_4, hfz123_5, hfz123_6, hfz123_7⟩ := z156_ BK277.out
     try go_wp2_with (first | ((with_reducible refine gate_dst (N := 6) rfl ?_); refine box_event ?hg (N := 6) ?hd (cs := #[.int .i64 0, .int .i64 0, .slice none 0 0, .int .i64 0, .int .i64 0, .slice none 0 0, .int .i64 0, .int .i64 0]) (t := 41) ?hr ?_; (case hd => rfl); (case hg => rfl); (case hr => first | (go_simp; done) | (go_simp; rfl)); intro gb282 hg w124 hbox hb; have n0_ := Aside0.mk (blk_below (bd_ BK277.out) hb); have n1_ := Aside0.mk (blk_below (bd_ BK278.out) hb); have n2_ := Aside0.mk (blk_below (bd_ BK279.out) hb); have n3_ := Aside0.mk (below_step y160_ hb); have BK282 := Aside0.mk (hbox); have GW282 := Aside0.mk ((y187_ : w.heap.size ≤ gb282)); have GE282 := Aside0.mk ((y187_ : w.heap.size ≤ gb282)); have NB277_282 := Aside0.mk ((y173_ : gb277 ≠ gb282)); have NB282_277 := Aside0.mk ((y174_ : gb282 ≠ gb277)); have NB278_282 := Aside0.mk ((y176_ : gb278 ≠ gb282)); have NB282_278 := Aside0.mk ((y177_ : gb282 ≠ gb278)); have NB279_282 := Aside0.mk ((y180_ : gb279 ≠ gb282)); have NB282_279 := Aside0.mk ((y181_ : gb282 ≠ gb279)); clear BK277; clear BK278; clear BK279; clear HB; have BK277 := n0_; have BK278 := n1_; have BK279 := n2_; have HB := n3_; clear n0_ n1_ n2_ n3_; clear hb hbox hg; have hnb125 := NB282_277.out; have hnc125 := NB277_282.out; have hnb126 := NB282_278.out; have hnc126 := NB278_282.out; have hnb127 := NB282_279.out; have hnc127 := NB279_282.out; obtain ⟨hcz128_0, hcz128_1, hcz128_2, hcz128_3, hcz128_4, hcz128_5, hcz128_6, hcz128_7⟩ := e155_ BK282.out; obtain ⟨hfz128_0, hfz128_1, hfz128_2, hfz128_3, hfz128_4, hfz128_5, hfz128_6, hfz128_7⟩ := z156_ BK282.out; obtain ⟨hcz129_0, hcz129_1, hcz129_2, hcz129_3, hcz129_4, hcz129_5, hcz129_6, hcz129_7⟩ := e155_ BK277.out; obtain ⟨hfz129_0, hfz129_1, hfz129_2, hfz129_3, hfz129_4, hfz129_5, hfz129_6, hfz129_7⟩ := z156_ BK277.out; have hnb130 := NB278_279.out; have hnc130 := NB279_278.out; obtain ⟨hcz131_0, hcz131_1, hcz131_2, hcz131_3, hcz131_4, hcz131_5, hcz131_6, hcz131_7⟩ := e155_ BK278.out; obtain ⟨hfz131_0, hfz131_1, hfz131_2, hfz131_3, hfz131_4, hfz131_5, hfz131_6, hfz131_7⟩ := z156_ BK278.out) | ((with_reducible refine gate_callee (f := 81) rfl ?_); refine goesL_ (some 32) rfl rfl Try.func81 (by kernel_rfl) rfl #[.slice A0_2 l0_2.length c0_2, .slice A1_2 l1_2.length c1_2] rfl ma_ ?_; (with_reducible refine (impl_both.calls kj2 _ _ l0_2 _ _ l1_2 t283 false _ ?side1 ?side2 ?side3 ?side4 A35.out).mono ?_); (case side1 => exact Kd.C_below HR0_2.out y157_); (case side2 => exact HC0_2.out); (case side3 => exact Kd.C_below HR1_2.out y157_); (case side4 => exact HC1_2.out); rintro e w132 ⟨v285, rfl, ho0, hb⟩; refine ⟨_, rfl, ?_⟩; have HO286 := Aside0.mk (Kd.R_lower ho0 (below_size y157_)); have n1_ := Aside0.mk (blk_below (g := gb277) (o := c154_ a0_0 a0_1 A0_2 l0_2.length c0_2 a0_3 a0_4 A0_5 l0_5.length c0_5 a0_6 a0_7) y161_ hb); have n2_ := Aside0.mk (blk_below (g := gb278) (o := c154_ a1_0 a1_1 A1_2 l1_2.length c1_2 a1_3 a1_4 A1_5 l1_5.length c1_5 a1_6 a1_7) y162_ hb); have n3_ := Aside0.mk (blk_below (g := gb279) (o := c154_ 0 0 none 0 0 0 0 none 0 0 0 0) y163_ hb); have n4_ := Aside0.mk (blk_below (g := gb282) (o := c154_ a0_0 a0_1 A0_2 l0_2.length c0_2 a0_3 a0_4 A0_5 l0_5.length c0_5 a0_6 a0_7) y158_ hb); have n5_ := Aside0.mk (below_step y157_ hb); clear BK277; clear BK278; clear BK279; clear BK282; clear HB; have BK277 := n1_; have BK278 := n2_; have BK279 := n3_; have BK282 := n4_; have HB := n5_; clear n1_ n2_ n3_ n4_ n5_; (try clear hb); (try clear hb2); (try clear hk); (try clear hi); (try clear ho0); obtain ⟨Ao133, co133, eo133⟩ := Kd.R_slice HO286.out; subst eo133; obtain ⟨hcz134_0, hcz134_1, hcz134_2, hcz134_3, hcz134_4, hcz134_5, hcz134_6, hcz134_7⟩ := e155_ BK282.out; obtain ⟨hfz134_0, hfz134_1, hfz134_2, hfz134_3, hfz134_4, hfz134_5, hfz134_6, hfz134_7⟩ := z156_ BK282.out; obtain ⟨hcz135_0, hcz135_1, hcz135_2, hcz135_3, hcz135_4, hcz135_5, hcz135_6, hcz135_7⟩ := e155_ BK277.out; obtain ⟨hfz135_0, hfz135_1, hfz135_2, hfz135_3, hfz135_4, hfz135_5, hfz135_6, hfz135_7⟩ := z156_ BK277.out; obtain ⟨hcz136_0, hcz136_1, hcz136_2, hcz136_3, hcz136_4, hcz136_5, hcz136_6, hcz136_7⟩ := e155_ BK278.out; obtain ⟨hfz136_0, hfz136_1, hfz136_2, hfz136_3, hfz136_4, hfz136_5, hfz136_6, hfz136_7⟩ := z156_ BK278.out) | ((with_reducible refine gate_callee (f := 81) rfl ?_); refine goesL_ (some 41) rfl rfl Try.func81 (by kernel_rfl) rfl #[.slice A0_5 l0_5.length c0_5, .slice A1_5 l1_5.length c1_5] rfl ma_ ?_; (with_reducible refine (impl_both.calls kj2 _ _ l0_5 _ _ l1_5 t287 t288 _ ?side1 ?side2 ?side3 ?side4 A36.out).mono ?_); (case side1 => exact Kd.C_below HR0_5.out y157_); (case side2 => exact HC0_5.out); (case side3 => exact Kd.C_below HR1_5.out y157_); (case side4 => exact HC1_5.out); rintro e w137 ⟨v289, rfl, ho0, hb⟩; refine ⟨_, rfl, ?_⟩; have n0_ := Aside0.mk (Kd.R_elder' y184_ (Kd.R_base ho0) hb); have HO290 := Aside0.mk (Kd.R_lower (Kd.R_new' ho0 (Kd.R_lt y184_)) (below_size y157_)); have n2_ := Aside0.mk (blk_below (g := gb277) (o := c154_ a0_0 a0_1 A0_2 l0_2.length c0_2 a0_3 a0_4 A0_5 l0_5.length c0_5 a0_6 a0_7) y170_ hb); have n3_ := Aside0.mk (blk_below (g := gb278) (o := c154_ a1_0 a1_1 A1_2 l1_2.length c1_2 a1_3 a1_4 A1_5 l1_5.length c1_5 a1_6 a1_7) y171_ hb); have n4_ := Aside0.mk (blk_below (g := gb279) (o := c154_ 0 0 none 0 0 0 0 none 0 0 0 0) y172_ hb); have n5_ := Aside0.mk (blk_below (g := gb282) (o := .cells #[.int .i64 a0_0, .int .i64 a0_1, .slice Ao133 t283.length co133, .int .i64 a0_3, .int .i64 a0_4, .slice A0_5 l0_5.length c0_5, .int .i64 a0_6, .int .i64 a0_7] 41 (0, 0)) y169_ hb); have n6_ := Aside0.mk (below_step y157_ hb); clear HO286; clear BK277; clear BK278; clear BK279; clear BK282; clear HB; have HO286 := n0_; have BK277 := n2_; have BK278 := n3_; have BK279 := n4_; have BK282 := n5_; have HB := n6_; clear n0_ n2_ n3_ n4_ n5_ n6_; (try clear hb); (try clear hb2); (try clear hk); (try clear hi); (try clear ho0); obtain ⟨Ao138, co138, eo138⟩ := Kd.R_slice HO290.out; subst eo138; obtain ⟨hcz139_0, hcz139_1, hcz139_2, hcz139_3, hcz139_4, hcz139_5, hcz139_6, hcz139_7⟩ := e155_ BK282.out; obtain ⟨hfz139_0, hfz139_1, hfz139_2, hfz139_3, hfz139_4, hfz139_5, hfz139_6, hfz139_7⟩ := z156_ BK282.out))
     have n0_ : Aside0 (Kd.R (Kd.int .i64) 3 (w137.setCell ⟨gb282, 5, none⟩ (.slice Ao138 t287.length co138)) w.heap.size (fun k_ => some k_ ≠ (.slice Ao138 t287.length co138 : Value).ownBlock) (.slice Ao133 t283.length co133) t283) := ⟨by (with_reducible repeat (first | apply Kd.R_alloc | apply Kd.R_drewN | apply Kd.R_drew)); exact Kd.R_mono (Kd.R_far (p := ⟨gb282, 5, none⟩) (Kd.R_types HO286.out BK282.out (by decide)) (fun _ hk => hk.2) (.slice Ao138 t287.length co138)) (fun _ hk => hk.1.2)⟩
     have n1_ : Aside0 (Kd.R (Kd.int .i64) 3 (w137.setCell ⟨gb282, 5, none⟩ (.slice Ao138 t287.length co138)) w.heap.size (fun k_ => some k_ ≠ (.slice Ao133 t283.length co133 : Value).ownBlock) (.slice Ao138 t287.length co138) t287) := ⟨by (with_reducible repeat (first | apply Kd.R_alloc | apply Kd.R_drewN | apply Kd.R_drew)); exact Kd.R_mono (Kd.R_far (p := ⟨gb282, 5, none⟩) (Kd.R_types HO290.out BK282.out (by decide)) (fun _ hk => hk.2) (.slice Ao138 t287.length co138)) (fun _ hk => hk.1.2)⟩
     have n2_ : Aside0 ((w137.setCell ⟨gb282, 5, none⟩ (.slice Ao138 t287.length co138)).heap[gb277]? = some (c154_ a0_0 a0_1 A0_2 l0_2.length c0_2 a0_3 a0_4 A0_5 l0_5.length c0_5 a0_6 a0_7)) := ⟨by (with_reducible repeat (first | refine blk_drewN ?_ _ | refine blk_drew ?_ | refine blk_alloc ?_ _)); refine blk_far ?_ NB277_282.out _; (with_reducible repeat (first | refine blk_drewN ?_ _ | refine blk_drew ?_ | refine blk_alloc ?_ _)); exact BK277.out⟩
     have n3_ : Aside0 ((w137.setCell ⟨gb282, 5, none⟩ (.slice Ao138 t287.length co138)).heap[gb278]? = some (c154_ a1_0 a1_1 A1_2 l1_2.length c1_2 a1_3 a1_4 A1_5 l1_5.length c1_5 a1_6 a1_7)) := ⟨by (with_reducible repeat (first | refine blk_drewN ?_ _ | refine blk_drew ?_ | refine blk_alloc ?_ _)); refine blk_far ?_ NB278_282.out _; (with_reducible repeat (first | refine blk_drewN ?_ _ | refine blk_drew ?_ | refine blk_alloc ?_ _)); exact BK278.out⟩
     have n4_ : Aside0 ((w137.setCell ⟨gb282, 5, none⟩ (.slice Ao138 t287.length co138)).heap[gb279]? = some (c154_ 0 0 none 0 0 0 0 none 0 0 0 0)) := ⟨by (with_reducible repeat (first | refine blk_drewN ?_ _ | refine blk_drew ?_ | refine blk_alloc ?_ _)); refine blk_far ?_ NB279_282.out _; (with_reducible repeat (first | refine blk_drewN ?_ _ | refine blk_drew ?_ | refine blk_alloc ?_ _)); exact BK279.out⟩
     have n5_ : Aside0 ((w137.setCell ⟨gb282, 5, none⟩ (.slice Ao138 t287.length co138)).heap[gb282]? = some (.cells #[.int .i64 a0_0, .int .i64 a0_1, .slice Ao133 t283.length co133, .int .i64 a0_3, .int .i64 a0_4, .slice Ao138 t287.length co138, .int .i64 a0_6, .int .i64 a0_7] 41 (0, 0))) := ⟨by (with_reducible repeat (first | refine blk_drewN ?_ _ | refine blk_drew ?_ | refine blk_alloc ?_ _)); refine blk_put (cs := #[.int .i64 a0_0, .int .i64 a0_1, .slice Ao133 t283.length co133, .int .i64 a0_3, .int .i64 a0_4, .slice A0_5 l0_5.length c0_5, .int .i64 a0_6, .int .i64 a0_7]) ?_ 5 _ rfl; (with_reducible repeat (first | refine blk_drewN ?_ _ | refine blk_drew ?_ | refine blk_alloc ?_ _)); exact BK282.out⟩
     have n6_ : Aside0 (Below w.heap.size w (w137.setCell ⟨gb282, 5, none⟩ (.slice Ao138 t287.length co138))) := ⟨y167_⟩
     (try clear HO286)
     (try clear HO290)
     (try clear BK277)
     (try clear BK278)
     (try clear BK279)
     (try clear BK282)
     (try clear HB)
     generalize (w137.setCell ⟨gb282, 5, none⟩ (.slice Ao138 t287.length co138)) = w140 at n0_ n1_ n2_ n3_ n4_ n5_ n6_ ⊢
     have HO286 := n0_
     have HO290 := n1_
     have BK277 := n2_
     have BK278 := n3_
     have BK279 := n4_
     have BK282 := n5_
     have HB := n6_
     clear n0_ n1_ n2_ n3_ n4_ n5_ n6_
     have n0_ := Aside0.mk (Kd.R_drew HO286.out)
     have n1_ := Aside0.mk (Kd.R_drew HO290.out)
     have n2_ := Aside0.mk (blk_drew BK277.out)
     have n3_ := Aside0.mk (blk_drew BK278.out)
     have n4_ := Aside0.mk (blk_drew BK279.out)
     have n5_ := Aside0.mk (blk_drew BK282.out)
     have n6_ := Aside0.mk (below_drew1 HB.out)
     clear HO286
     clear HO290
     clear BK277
     clear BK278
     clear BK279
     clear BK282
     clear HB
     have HO286 := n0_
     have HO290 := n1_
     have BK277 := n2_
     have BK278 := n3_
     have BK279 := n4_
     have BK282 := n5_
     have HB := n6_
     clear n0_ n1_ n2_ n3_ n4_ n5_ n6_
     refine start_ (n := 14) (S := fun w' => q1_ w' gb277 a0_0 a0_1 A0_2 l0_2.length c0_2 a0_3 a0_4 A0_5 l0_5.length c0_5 a0_6 a0_7 (q1e_ w' gb278 a1_0 a1_1 A1_2 l1_2.length c1_2 a1_3 a1_4 A1_5 l1_5.length c1_5 a1_6 a1_7)) (ds := []) M4_0 (by kernel_rfl) rfl rfl (k1_ BK277.out (k1e_ BK278.out)) (fun hHeld => ?_); refine with_tabW impl_Sharpen.tab6 impl_Sharpen.bits6 (fun HT_ HW_ => ?_)
     generalize w140.drew = w141 at HO286 HO290 BK277 BK278 BK279 BK282 HB hHeld ⊢
     refine pu_ 0 (some 45) M4_1 HT_ ?_
     refine pu_ 2 (some 47) M4_2 HT_ ?_
     refine pu_ 5 (some 50) M4_3 HT_ ?_
     refine pu_ 7 (some 52) M4_4 HT_ ?_
     refine tk_ 1 (some 46) M4_5 HT_ HW_ hHeld ?_
     refine tk_ 3 (some 48) M4_6 HT_ HW_ hHeld ?_
     refine pu_ 4 (some 49) M4_7 HT_ ?_
     refine pu_ 10 (some 55) M4_8 HT_ ?_
     refine tk_ 6 (some 51) M4_9 HT_ HW_ hHeld ?_
     refine tk_ 8 (some 53) M4_10 HT_ HW_ hHeld ?_
     refine pu_ 9 (some 54) M4_11 HT_ ?_
     refine one_ (i := 11) (N := none) M4_12 rfl rfl (one_of HT_.out (by kernel_rfl)) (by decide) (fun K hK => ?_)
     have hs142 : w141.cell? ⟨gb282, 3, none⟩ = some (.int .i64 a0_3) := (blk_cell BK282.out 3).trans rfl
     have hfs142 := blk_frozen BK282.out 3
     have hns142_0 := NB277_282.out
     have hns142_1 := NB278_282.out
     have hns142_2 := NB279_282.out
     have hms142_0 := NB282_277.out
     have hms142_1 := NB282_278.out
     have hms142_2 := NB282_279.out
     refine skip_ (w1 := ?_) (by rfl) rfl ?_ ?_
     rotate_left
     ·
      go_simp
      rfl
     refine hK.out _ _ ⟨((cell_far (p := ⟨gb282, _, none⟩) NB277_282.out _).trans (hHeld.1)), ((cell_far (p := ⟨gb282, _, none⟩) NB277_282.out _).trans (hHeld.2.1)), ((cell_far (p := ⟨gb282, _, none⟩) NB277_282.out _).trans (hHeld.2.2.1)), ((cell_far (p := ⟨gb282, _, none⟩) NB277_282.out _).trans (hHeld.2.2.2.1)), ((cell_far (p := ⟨gb282, _, none⟩) NB277_282.out _).trans (hHeld.2.2.2.2.1)), ((cell_far (p := ⟨gb282, _, none⟩) NB277_282.out _).trans (hHeld.2.2.2.2.2.1)), ((cell_far (p := ⟨gb282, _, none⟩) NB277_282.out _).trans (hHeld.2.2.2.2.2.2.1)), ((cell_far (p := ⟨gb282, _, none⟩) NB277_282.out _).trans (hHeld.2.2.2.2.2.2.2.1)), ((cell_far (p := ⟨gb282, _, none⟩) NB278_282.out _).trans (hHeld.2.2.2.2.2.2.2.2.1)), ((cell_far (p := ⟨gb282, _, none⟩) NB278_282.out _).trans (hHeld.2.2.2.2.2.2.2.2.2.1)), ((cell_far (p := ⟨gb282, _, none⟩) NB278_282.out _).trans (hHeld.2.2.2.2.2.2.2.2.2.2.1)), ((cell_far (p := ⟨gb282, _, none⟩) NB278_282.out _).trans (hHeld.2.2.2.2.2.2.2.2.2.2.2.1)), ((cell_far (p := ⟨gb282, _, none⟩) NB278_282.out _).trans (hHeld.2.2.2.2.2.2.2.2.2.2.2.2.1)), ((cell_far (p := ⟨gb282, _, none⟩) NB278_282.out _).trans (hHeld.2.2.2.2.2.2.2.2.2.2.2.2.2.1)), ((cell_far (p := ⟨gb282, _, none⟩) NB278_282.out _).trans (hHeld.2.2.2.2.2.2.2.2.2.2.2.2.2.2.1)), ((cell_far (p := ⟨gb282, _, none⟩) NB278_282.out _).trans (hHeld.2.2.2.2.2.2.2.2.2.2.2.2.2.2.2))⟩ (fun hHeld => ?_)
     clear hK K
     refine pu_ 12 (some 56) M4_13 HT_ ?_
     refine one_ (i := 13) (N := none) M4_14 rfl rfl (one_of HT_.out (by kernel_rfl)) (by decide) (fun K hK => ?_)
     have hs143 : w141.cell? ⟨gb282, 4, none⟩ = some (.int .i64 a0_4) := (blk_cell BK282.out 4).trans rfl
     have hfs143 := blk_frozen BK282.out 4
     have hns143_0 := NB277_282.out
     have hns143_1 := NB278_282.out
     have hns143_2 := NB279_282.out
     have hms143_0 := NB282_277.out
     have hms143_1 := NB282_278.out
     have hms143_2 := NB282_279.out
     refine skip_ (w1 := ?_) (by rfl) rfl ?_ ?_
     rotate_left
     ·
      go_simp
      rfl
     refine hK.out _ _ ⟨((cell_far (p := ⟨gb282, _, none⟩) NB277_282.out _).trans (hHeld.1)), ((cell_far (p := ⟨gb282, _, none⟩) NB277_282.out _).trans (hHeld.2.1)), ((cell_far (p := ⟨gb282, _, none⟩) NB277_282.out _).trans (hHeld.2.2.1)), ((cell_far (p := ⟨gb282, _, none⟩) NB277_282.out _).trans (hHeld.2.2.2.1)), ((cell_far (p := ⟨gb282, _, none⟩) NB277_282.out _).trans (hHeld.2.2.2.2.1)), ((cell_far (p := ⟨gb282, _, none⟩) NB277_282.out _).trans (hHeld.2.2.2.2.2.1)), ((cell_far (p := ⟨gb282, _, none⟩) NB277_282.out _).trans (hHeld.2.2.2.2.2.2.1)), ((cell_far (p := ⟨gb282, _, none⟩) NB277_282.out _).trans (hHeld.2.2.2.2.2.2.2.1)), ((cell_far (p := ⟨gb282, _, none⟩) NB278_282.out _).trans (hHeld.2.2.2.2.2.2.2.2.1)), ((cell_far (p := ⟨gb282, _, none⟩) NB278_282.out _).trans (hHeld.2.2.2.2.2.2.2.2.2.1)), ((cell_far (p := ⟨gb282, _, none⟩) NB278_282.out _).trans (hHeld.2.2.2.2.2.2.2.2.2.2.1)), ((cell_far (p := ⟨gb282, _, none⟩) NB278_282.out _).trans (hHeld.2.2.2.2.2.2.2.2.2.2.2.1)), ((cell_far (p := ⟨gb282, _, none⟩) NB278_282.out _).trans (hHeld.2.2.2.2.2.2.2.2.2.2.2.2.1)), ((cell_far (p := ⟨gb282, _, none⟩) NB278_282.out _).trans (hHeld.2.2.2.2.2.2.2.2.2.2.2.2.2.1)), ((cell_far (p := ⟨gb282, _, none⟩) NB278_282.out _).trans (hHeld.2.2.2.2.2.2.2.2.2.2.2.2.2.2.1)), ((cell_far (p := ⟨gb282, _, none⟩) NB278_282.out _).trans (hHeld.2.2.2.2.2.2.2.2.2.2.2.2.2.2.2))⟩ (fun hHeld => ?_)
     clear hK K
     refine done_ (done_of HT_.out (by kernel_rfl)) ?_
     obtain ⟨hcz144_0, hcz144_1, hcz144_2, hcz144_3, hcz144_4, hcz144_5, hcz144_6, hcz144_7⟩ := e155_ BK279.out
     obtain ⟨hfz144_0, hfz144_1, hfz144_2, hfz144_3, hfz144_4, hfz144_5, hfz144_6, hfz144_7⟩ := z156_ BK279.out
     try go_wp2
     refine bodyPost_ret (results_ct rfl _ _ gb279 41 #[.int .i64 0, .int .i64 0, .slice none 0 0, .int .i64 0, .int .i64 0, .slice none 0 0, .int .i64 0, .int .i64 0] (0, 0) _ rfl y159_ Try.underlying41 rfl (by kernel_rfl)) rfl ?_
     exact ⟨_, _, by first | rfl | (simp [errW_none, errW_some] <;> rfl) | (simp only [← hji37, ← hji38]; first | rfl | (simp [errW_none, errW_some] <;> rfl)) | (simp [*, errW_none, errW_some] <;> rfl), by first | exact Kd.R_nil _ _ _ _ _ | exact Kd.N_nil _ _ _ _ _ | exact Kd.V_nil _ _ _ _ _ | exact Kd.Q_nil _ _ _ _ _ | exact Kd.S_nil _ _ _ _ _, by first | exact Kd.R_nil _ _ _ _ _ | exact Kd.N_nil _ _ _ _ _ | exact Kd.V_nil _ _ _ _ _ | exact Kd.Q_nil _ _ _ _ _ | exact Kd.S_nil _ _ _ _ _, y167_⟩

end Go.Proofs.Ytglpmjcknhcjcaa.PFnExactGroupReports
