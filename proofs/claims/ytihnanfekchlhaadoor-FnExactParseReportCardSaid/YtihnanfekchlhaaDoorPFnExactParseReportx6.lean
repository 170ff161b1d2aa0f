-- Written for this claim by a program (a printer turned to this claim); Lean checks it.
import Derived.Test.YtihnanfekchlhaaDoorPFnExactParseReportx0
import Derived.Test.YtihnanfekchlhaaDoorPFnExactParseReportx4
import Derived.Test.YtihnanfekchlhaaDoorPFnExactParseReportx5
namespace Go.Proofs.YtihnanfekchlhaaDoor.PFnExactParseReport
open Go.RowKit Go.Proofs.YtihnanfekchlhaaDoorW.PrintWords Go.Proofs.YtihnanfekchlhaaDoorW.PrintLast Go.Proofs.YtihnanfekchlhaaDoorW.PrintMore
attribute [local go_sem] max2_int min2_int max_two min_two max_three min_three max_four min_four   -- for this text's walks alone
set_option linter.unusedVariables false
set_option linter.unusedSimpArgs false

/-! ### spec_ReportText: function 36 -/
def spec_ReportText.f (k : Nat) (a0_0 : Int) (a0_1 : Int) (l0_2 : List Int) (a0_3 : Int) (a0_4 : Int) (l0_5 : List Int) (a0_6 : Int) (a0_7 : Int) : Option (ByteArray) := (spec_IsReport.f k a0_0 a0_1 l0_2 a0_3 a0_4 l0_5 a0_6 a0_7).bind fun t258 => (if t258 = true then ((spec_FormatInt.f k a0_0).bind fun t259 => (if t259.size + 1 ≤ 9223372036854775807 then ((spec_KindText.f a0_1).bind fun t260 => (if (t259 ++ (⟨#[32]⟩ : ByteArray)).size + t260.size ≤ 9223372036854775807 then (if ((t259 ++ (⟨#[32]⟩ : ByteArray)) ++ t260).size + 1 ≤ 9223372036854775807 then ((spec_ListText.f k l0_2).bind fun t261 => (if (((t259 ++ (⟨#[32]⟩ : ByteArray)) ++ t260) ++ (⟨#[32]⟩ : ByteArray)).size + t261.size ≤ 9223372036854775807 then (if ((((t259 ++ (⟨#[32]⟩ : ByteArray)) ++ t260) ++ (⟨#[32]⟩ : ByteArray)) ++ t261).size + 1 ≤ 9223372036854775807 then ((spec_FormatInt.f k a0_3).bind fun t262 => (if (((((t259 ++ (⟨#[32]⟩ : ByteArray)) ++ t260) ++ (⟨#[32]⟩ : ByteArray)) ++ t261) ++ (⟨#[32]⟩ : ByteArray)).size + t262.size ≤ 9223372036854775807 then (if ((((((t259 ++ (⟨#[32]⟩ : ByteArray)) ++ t260) ++ (⟨#[32]⟩ : ByteArray)) ++ t261) ++ (⟨#[32]⟩ : ByteArray)) ++ t262).size + 1 ≤ 9223372036854775807 then ((spec_FormatInt.f k a0_4).bind fun t263 => (if (((((((t259 ++ (⟨#[32]⟩ : ByteArray)) ++ t260) ++ (⟨#[32]⟩ : ByteArray)) ++ t261) ++ (⟨#[32]⟩ : ByteArray)) ++ t262) ++ (⟨#[45]⟩ : ByteArray)).size + t263.size ≤ 9223372036854775807 then (if ((((((((t259 ++ (⟨#[32]⟩ : ByteArray)) ++ t260) ++ (⟨#[32]⟩ : ByteArray)) ++ t261) ++ (⟨#[32]⟩ : ByteArray)) ++ t262) ++ (⟨#[45]⟩ : ByteArray)) ++ t263).size + 1 ≤ 9223372036854775807 then ((spec_ListText.f k l0_5).bind fun t264 => (if (((((((((t259 ++ (⟨#[32]⟩ : ByteArray)) ++ t260) ++ (⟨#[32]⟩ : ByteArray)) ++ t261) ++ (⟨#[32]⟩ : ByteArray)) ++ t262) ++ (⟨#[45]⟩ : ByteArray)) ++ t263) ++ (⟨#[32]⟩ : ByteArray)).size + t264.size ≤ 9223372036854775807 then (if ((((((((((t259 ++ (⟨#[32]⟩ : ByteArray)) ++ t260) ++ (⟨#[32]⟩ : ByteArray)) ++ t261) ++ (⟨#[32]⟩ : ByteArray)) ++ t262) ++ (⟨#[45]⟩ : ByteArray)) ++ t263) ++ (⟨#[32]⟩ : ByteArray)) ++ t264).size + 1 ≤ 9223372036854775807 then ((spec_FormatInt.f k a0_6).bind fun t265 => (if (((((((((((t259 ++ (⟨#[32]⟩ : ByteArray)) ++ t260) ++ (⟨#[32]⟩ : ByteArray)) ++ t261) ++ (⟨#[32]⟩ : ByteArray)) ++ t262) ++ (⟨#[45]⟩ : ByteArray)) ++ t263) ++ (⟨#[32]⟩ : ByteArray)) ++ t264) ++ (⟨#[32]⟩ : ByteArray)).size + t265.size ≤ 9223372036854775807 then (if ((((((((((((t259 ++ (⟨#[32]⟩ : ByteArray)) ++ t260) ++ (⟨#[32]⟩ : ByteArray)) ++ t261) ++ (⟨#[32]⟩ : ByteArray)) ++ t262) ++ (⟨#[45]⟩ : ByteArray)) ++ t263) ++ (⟨#[32]⟩ : ByteArray)) ++ t264) ++ (⟨#[32]⟩ : ByteArray)) ++ t265).size + 1 ≤ 9223372036854775807 then ((spec_FormatInt.f k a0_7).bind fun t266 => (if (((((((((((((t259 ++ (⟨#[32]⟩ : ByteArray)) ++ t260) ++ (⟨#[32]⟩ : ByteArray)) ++ t261) ++ (⟨#[32]⟩ : ByteArray)) ++ t262) ++ (⟨#[45]⟩ : ByteArray)) ++ t263) ++ (⟨#[32]⟩ : ByteArray)) ++ t264) ++ (⟨#[32]⟩ : ByteArray)) ++ t265) ++ (⟨#[45]⟩ : ByteArray)).size + t266.size ≤ 9223372036854775807 then (some ((((((((((((((t259 ++ (⟨#[32]⟩ : ByteArray)) ++ t260) ++ (⟨#[32]⟩ : ByteArray)) ++ t261) ++ (⟨#[32]⟩ : ByteArray)) ++ t262) ++ (⟨#[45]⟩ : ByteArray)) ++ t263) ++ (⟨#[32]⟩ : ByteArray)) ++ t264) ++ (⟨#[32]⟩ : ByteArray)) ++ t265) ++ (⟨#[45]⟩ : ByteArray)) ++ t266)) else (none))) else (none)) else (none))) else (none)) else (none))) else (none)) else (none))) else (none)) else (none))) else (none)) else (none))) else (none)) else (none))) else (none))) else (some (⟨#[]⟩ : ByteArray)))
theorem spec_ReportText.mono : ∀ a0 a1 a2 a3 a4 a5 a6 a7 k, LeO (spec_ReportText.f k a0 a1 a2 a3 a4 a5 a6 a7) (spec_ReportText.f (k + 1) a0 a1 a2 a3 a4 a5 a6 a7) := by
 intro a0 a1 a2 a3 a4 a5 a6 a7 k
 unfold spec_ReportText.f
 repeat' first
   | (with_reducible exact spec_FormatInt.mono _ _)
   | (with_reducible exact spec_IsReport.mono _ _ _ _ _ _ _ _ _)
   | (with_reducible exact spec_ListText.mono _ _)
   | (with_reducible exact LeO.refl _)
   | (with_reducible exact LeO.none _)
   | (with_reducible refine LeO.ite ?_ ?_)
   | (with_reducible refine LeO.bind ?_ (fun _ => ?_))
   | exact spec_FormatInt.mono _ _
   | exact spec_IsReport.mono _ _ _ _ _ _ _ _ _
   | exact spec_ListText.mono _ _
   | exact LeO.none _
   | refine LeO.ite ?_ ?_
   | refine LeO.bind ?_ (fun _ => ?_)
def spec_ReportText.T3 : Bool × List (List Nat × List Nat) := (true, [([], []), ([0], [0]), ([1], [1]), ([2], [2]), ([], []), ([4], [4]), ([5, 2], [5]), ([3, 6], [3, 6]), ([7], [7]), ([], []), ([9], [9]), ([10, 6], [10]), ([8, 11], [8, 11]), ([12], [12]), ([], []), ([14], [14]), ([15, 11], [15]), ([13, 16], [13, 16]), ([17], [17]), ([], []), ([19], [19]), ([20, 16], [20]), ([18, 21], [18, 21]), ([22], [22]), ([], []), ([24], [24]), ([25, 21], [25]), ([23, 26], [23, 26]), ([27], [27]), ([], []), ([29], [29]), ([30], [30]), ([31, 26], [31]), ([28, 32], [28, 32]), ([33], [33]), ([], []), ([35], [35]), ([36], [36]), ([37, 32], [37]), ([34, 38], [34, 38]), ([39, 38, 0, 1, 2, 3, 4, 5, 6, 7, 8, 9, 10, 11, 12, 13, 14, 15, 16, 17, 18, 19, 20, 21, 22, 23, 24, 25, 26, 27, 28, 29, 30, 31, 32, 33, 34, 35, 36, 37, 38, 39], [39])])
def spec_ReportText.B3 : List Nat := [0, 1, 3, 7, 0, 16, 55, 127, 255, 0, 512, 1655, 4095, 8191, 0, 16384, 52855, 131071, 262143, 0, 524288, 1691255, 4194303, 8388607, 0, 16777216, 54120055, 134217727, 268435455, 0, 536870912, 1610612736, 3879325303, 8589934591, 17179869183, 0, 34359738368, 103079215104, 248692461175, 549755813887, 1099511627775]
theorem spec_ReportText.tab3 : rtab .any (opsOf Tryd.f36 3) = spec_ReportText.T3 := by kernel_rfl
theorem spec_ReportText.bits3 : waitsOk spec_ReportText.T3.2 spec_ReportText.B3 = true := by kernel_rfl
abbrev M1_0 : Array Bool := #[false, false, false, false, false, false, false, false, false, false, false, false, false, false, false, false, false, false, false, false, false, false, false, false, false, false, false, false, false, false, false, false, false, false, false, false, false, false, false, false, false]
abbrev M1_1 : Array Bool := #[true, false, false, false, false, false, false, false, false, false, false, false, false, false, false, false, false, false, false, false, false, false, false, false, false, false, false, false, false, false, false, false, false, false, false, false, false, false, false, false, false]
abbrev M1_2 : Array Bool := #[true, false, false, false, true, false, false, false, false, false, false, false, false, false, false, false, false, false, false, false, false, false, false, false, false, false, false, false, false, false, false, false, false, false, false, false, false, false, false, false, false]
abbrev M1_3 : Array Bool := #[true, false, false, false, true, false, false, false, false, true, false, false, false, false, false, false, false, false, false, false, false, false, false, false, false, false, false, false, false, false, false, false, false, false, false, false, false, false, false, false, false]
abbrev M1_4 : Array Bool := #[true, false, false, false, true, false, false, false, false, true, false, false, false, false, true, false, false, false, false, false, false, false, false, false, false, false, false, false, false, false, false, false, false, false, false, false, false, false, false, false, false]
abbrev M1_5 : Array Bool := #[true, false, false, false, true, false, false, false, false, true, false, false, false, false, true, false, false, false, false, true, false, false, false, false, false, false, false, false, false, false, false, false, false, false, false, false, false, false, false, false, false]
abbrev M1_6 : Array Bool := #[true, false, false, false, true, false, false, false, false, true, false, false, false, false, true, false, false, false, false, true, false, false, false, false, true, false, false, false, false, false, false, false, false, false, false, false, false, false, false, false, false]
abbrev M1_7 : Array Bool := #[true, false, false, false, true, false, false, false, false, true, false, false, false, false, true, false, false, false, false, true, false, false, false, false, true, false, false, false, false, true, false, false, false, false, false, false, false, false, false, false, false]
abbrev M1_8 : Array Bool := #[true, false, false, false, true, false, false, false, false, true, false, false, false, false, true, false, false, false, false, true, false, false, false, false, true, false, false, false, false, true, true, false, false, false, false, false, false, false, false, false, false]
abbrev M1_9 : Array Bool := #[true, false, false, false, true, false, false, false, false, true, false, false, false, false, true, false, false, false, false, true, false, false, false, false, true, false, false, false, false, true, true, false, false, false, false, true, false, false, false, false, false]
abbrev M1_10 : Array Bool := #[true, false, false, false, true, false, false, false, false, true, false, false, false, false, true, false, false, false, false, true, false, false, false, false, true, false, false, false, false, true, true, false, false, false, false, true, true, false, false, false, false]
abbrev M1_11 : Array Bool := #[true, true, false, false, true, false, false, false, false, true, false, false, false, false, true, false, false, false, false, true, false, false, false, false, true, false, false, false, false, true, true, false, false, false, false, true, true, false, false, false, false]
abbrev M1_12 : Array Bool := #[true, true, false, false, true, true, false, false, false, true, false, false, false, false, true, false, false, false, false, true, false, false, false, false, true, false, false, false, false, true, true, false, false, false, false, true, true, false, false, false, false]
abbrev M1_13 : Array Bool := #[true, true, false, false, true, true, false, false, false, true, true, false, false, false, true, false, false, false, false, true, false, false, false, false, true, false, false, false, false, true, true, false, false, false, false, true, true, false, false, false, false]
abbrev M1_14 : Array Bool := #[true, true, false, false, true, true, false, false, false, true, true, false, false, false, true, true, false, false, false, true, false, false, false, false, true, false, false, false, false, true, true, false, false, false, false, true, true, false, false, false, false]
abbrev M1_15 : Array Bool := #[true, true, false, false, true, true, false, false, false, true, true, false, false, false, true, true, false, false, false, true, true, false, false, false, true, false, false, false, false, true, true, false, false, false, false, true, true, false, false, false, false]
abbrev M1_16 : Array Bool := #[true, true, false, false, true, true, false, false, false, true, true, false, false, false, true, true, false, false, false, true, true, false, false, false, true, true, false, false, false, true, true, false, false, false, false, true, true, false, false, false, false]
abbrev M1_17 : Array Bool := #[true, true, false, false, true, true, false, false, false, true, true, false, false, false, true, true, false, false, false, true, true, false, false, false, true, true, false, false, false, true, true, true, false, false, false, true, true, false, false, false, false]
abbrev M1_18 : Array Bool := #[true, true, false, false, true, true, false, false, false, true, true, false, false, false, true, true, false, false, false, true, true, false, false, false, true, true, false, false, false, true, true, true, false, false, false, true, true, true, false, false, false]
abbrev M1_19 : Array Bool := #[true, true, true, false, true, true, false, false, false, true, true, false, false, false, true, true, false, false, false, true, true, false, false, false, true, true, false, false, false, true, true, true, false, false, false, true, true, true, false, false, false]
abbrev M1_20 : Array Bool := #[true, true, true, true, true, true, false, false, false, true, true, false, false, false, true, true, false, false, false, true, true, false, false, false, true, true, false, false, false, true, true, true, false, false, false, true, true, true, false, false, false]
abbrev M1_21 : Array Bool := #[true, true, true, true, true, true, true, false, false, true, true, false, false, false, true, true, false, false, false, true, true, false, false, false, true, true, false, false, false, true, true, true, false, false, false, true, true, true, false, false, false]
abbrev M1_22 : Array Bool := #[true, true, true, true, true, true, true, true, false, true, true, false, false, false, true, true, false, false, false, true, true, false, false, false, true, true, false, false, false, true, true, true, false, false, false, true, true, true, false, false, false]
abbrev M1_23 : Array Bool := #[true, true, true, true, true, true, true, true, true, true, true, false, false, false, true, true, false, false, false, true, true, false, false, false, true, true, false, false, false, true, true, true, false, false, false, true, true, true, false, false, false]
abbrev M1_24 : Array Bool := #[true, true, true, true, true, true, true, true, true, true, true, true, false, false, true, true, false, false, false, true, true, false, false, false, true, true, false, false, false, true, true, true, false, false, false, true, true, true, false, false, false]
abbrev M1_25 : Array Bool := #[true, true, true, true, true, true, true, true, true, true, true, true, true, false, true, true, false, false, false, true, true, false, false, false, true, true, false, false, false, true, true, true, false, false, false, true, true, true, false, false, false]
abbrev M1_26 : Array Bool := #[true, true, true, true, true, true, true, true, true, true, true, true, true, true, true, true, false, false, false, true, true, false, false, false, true, true, false, false, false, true, true, true, false, false, false, true, true, true, false, false, false]
abbrev M1_27 : Array Bool := #[true, true, true, true, true, true, true, true, true, true, true, true, true, true, true, true, true, false, false, true, true, false, false, false, true, true, false, false, false, true, true, true, false, false, false, true, true, true, false, false, false]
abbrev M1_28 : Array Bool := #[true, true, true, true, true, true, true, true, true, true, true, true, true, true, true, true, true, true, false, true, true, false, false, false, true, true, false, false, false, true, true, true, false, false, false, true, true, true, false, false, false]
abbrev M1_29 : Array Bool := #[true, true, true, true, true, true, true, true, true, true, true, true, true, true, true, true, true, true, true, true, true, false, false, false, true, true, false, false, false, true, true, true, false, false, false, true, true, true, false, false, false]
abbrev M1_30 : Array Bool := #[true, true, true, true, true, true, true, true, true, true, true, true, true, true, true, true, true, true, true, true, true, true, false, false, true, true, false, false, false, true, true, true, false, false, false, true, true, true, false, false, false]
abbrev M1_31 : Array Bool := #[true, true, true, true, true, true, true, true, true, true, true, true, true, true, true, true, true, true, true, true, true, true, true, false, true, true, false, false, false, true, true, true, false, false, false, true, true, true, false, false, false]
abbrev M1_32 : Array Bool := #[true, true, true, true, true, true, true, true, true, true, true, true, true, true, true, true, true, true, true, true, true, true, true, true, true, true, false, false, false, true, true, true, false, false, false, true, true, true, false, false, false]
abbrev M1_33 : Array Bool := #[true, true, true, true, true, true, true, true, true, true, true, true, true, true, true, true, true, true, true, true, true, true, true, true, true, true, true, false, false, true, true, true, false, false, false, true, true, true, false, false, false]
abbrev M1_34 : Array Bool := #[true, true, true, true, true, true, true, true, true, true, true, true, true, true, true, true, true, true, true, true, true, true, true, true, true, true, true, true, false, true, true, true, false, false, false, true, true, true, false, false, false]
abbrev M1_35 : Array Bool := #[true, true, true, true, true, true, true, true, true, true, true, true, true, true, true, true, true, true, true, true, true, true, true, true, true, true, true, true, true, true, true, true, false, false, false, true, true, true, false, false, false]
abbrev M1_36 : Array Bool := #[true, true, true, true, true, true, true, true, true, true, true, true, true, true, true, true, true, true, true, true, true, true, true, true, true, true, true, true, true, true, true, true, true, false, false, true, true, true, false, false, false]
abbrev M1_37 : Array Bool := #[true, true, true, true, true, true, true, true, true, true, true, true, true, true, true, true, true, true, true, true, true, true, true, true, true, true, true, true, true, true, true, true, true, true, false, true, true, true, false, false, false]
abbrev M1_38 : Array Bool := #[true, true, true, true, true, true, true, true, true, true, true, true, true, true, true, true, true, true, true, true, true, true, true, true, true, true, true, true, true, true, true, true, true, true, true, true, true, true, false, false, false]
abbrev M1_39 : Array Bool := #[true, true, true, true, true, true, true, true, true, true, true, true, true, true, true, true, true, true, true, true, true, true, true, true, true, true, true, true, true, true, true, true, true, true, true, true, true, true, true, false, false]
abbrev M1_40 : Array Bool := #[true, true, true, true, true, true, true, true, true, true, true, true, true, true, true, true, true, true, true, true, true, true, true, true, true, true, true, true, true, true, true, true, true, true, true, true, true, true, true, true, false]
abbrev M1_41 : Array Bool := #[true, true, true, true, true, true, true, true, true, true, true, true, true, true, true, true, true, true, true, true, true, true, true, true, true, true, true, true, true, true, true, true, true, true, true, true, true, true, true, true, true]
theorem P1_1 {α : Type} (l : List α) (i : Nat) (a : α) : l.toArray.setIfInBounds i a = (l.set i a).toArray := List.setIfInBounds_toArray l i a
theorem P1_2 {α : Type} (x : α) (l : List α) (a : α) : (x :: l).set 0 a = a :: l := List.set_cons_zero
theorem P1_3 {α : Type} (x : α) (l : List α) (n : Nat) (a : α) : (x :: l).set (n + 1) a = x :: l.set n a := List.set_cons_succ
theorem y82_ {P : Prop} (h : P := by repeat (first | (with_reducible first | exact HB.out | apply below_alloc | apply pw_below_drewN | apply below_drew1 | refine below_set ?_ GE257.out) | exact HB.out)) : P := h
theorem y83_ {P : Prop} (h : P := by (try simp only [List.map_toArray, List.map_cons, List.map_nil]); first | done | rfl | (simp only [List.length_drop, List.length_take]; rfl)) : P := h
theorem y84_ {P : Prop} (h : P := by (with_reducible repeat (first | refine blk_drewN ?_ _ | refine blk_drew ?_ | refine blk_alloc ?_ _)); exact BK257.out) : P := h
theorem y85_ {P : Prop} (h : P := by repeat (first | (with_reducible first | exact HB.out | apply below_alloc | apply pw_below_drewN | apply below_drew1) | exact HB.out)) : P := h
set_option maxHeartbeats 8000000 in
set_option maxRecDepth 100000 in
theorem spec_ReportText.calls (k : Nat) (a0_0 : Int) (a0_1 : Int) (A0_2 : Option Addr) (c0_2 : Nat) (l0_2 : List Int) (a0_3 : Int) (a0_4 : Int) (A0_5 : Option Addr) (c0_5 : Nat) (l0_5 : List Int) (a0_6 : Int) (a0_7 : Int) (r : ByteArray) (w : World) (hr0_2 : Kd.C (Kd.int .i64) w A0_2 l0_2.length l0_2) (hc0_2 : l0_2.length ≤ c0_2) (hr0_5 : Kd.C (Kd.int .i64) w A0_5 l0_5.length l0_5) (hc0_5 : l0_5.length ≤ c0_5) (h : spec_ReportText.f k a0_0 a0_1 l0_2 a0_3 a0_4 l0_5 a0_6 a0_7 = some r) :
  Calls Tryd.prog 36 #[.agg #[.int .i64 a0_0, .int .i64 a0_1, .slice A0_2 l0_2.length c0_2, .int .i64 a0_3, .int .i64 a0_4, .slice A0_5 l0_5.length c0_5, .int .i64 a0_6, .int .i64 a0_7]] w fun e w' => e = .returned (.string r) ∧ Below w.heap.size w w' := by
 have hu28 := Tryd.underlying28
 have HR0_2 := Aside0.mk hr0_2
 have HC0_2 := Aside0.mk hc0_2
 clear hr0_2 hc0_2
 have HR0_5 := Aside0.mk hr0_5
 have HC0_5 := Aside0.mk hc0_5
 clear hr0_5 hc0_5
 have HB := Aside0.mk (Below.refl w.heap.size w)
 have H : ((spec_IsReport.f k a0_0 a0_1 l0_2 a0_3 a0_4 l0_5 a0_6 a0_7).bind fun t258 => (if t258 = true then ((spec_FormatInt.f k a0_0).bind fun t259 => (if t259.size + 1 ≤ 9223372036854775807 then ((spec_KindText.f a0_1).bind fun t260 => (if (t259 ++ (⟨#[32]⟩ : ByteArray)).size + t260.size ≤ 9223372036854775807 then (if ((t259 ++ (⟨#[32]⟩ : ByteArray)) ++ t260).size + 1 ≤ 9223372036854775807 then ((spec_ListText.f k l0_2).bind fun t261 => (if (((t259 ++ (⟨#[32]⟩ : ByteArray)) ++ t260) ++ (⟨#[32]⟩ : ByteArray)).size + t261.size ≤ 9223372036854775807 then (if ((((t259 ++ (⟨#[32]⟩ : ByteArray)) ++ t260) ++ (⟨#[32]⟩ : ByteArray)) ++ t261).size + 1 ≤ 9223372036854775807 then ((spec_FormatInt.f k a0_3).bind fun t262 => (if (((((t259 ++ (⟨#[32]⟩ : ByteArray)) ++ t260) ++ (⟨#[32]⟩ : ByteArray)) ++ t261) ++ (⟨#[32]⟩ : ByteArray)).size + t262.size ≤ 9223372036854775807 then (if ((((((t259 ++ (⟨#[32]⟩ : ByteArray)) ++ t260) ++ (⟨#[32]⟩ : ByteArray)) ++ t261) ++ (⟨#[32]⟩ : ByteArray)) ++ t262).size + 1 ≤ 9223372036854775807 then ((spec_FormatInt.f k a0_4).bind fun t263 => (if (((((((t259 ++ (⟨#[32]⟩ : ByteArray)) ++ t260) ++ (⟨#[32]⟩ : ByteArray)) ++ t261) ++ (⟨#[32]⟩ : ByteArray)) ++ t262) ++ (⟨#[45]⟩ : ByteArray)).size + t263.size ≤ 9223372036854775807 then (if ((((((((t259 ++ (⟨#[32]⟩ : ByteArray)) ++ t260) ++ (⟨#[32]⟩ : ByteArray)) ++ t261) ++ (⟨#[32]⟩ : ByteArray)) ++ t262) ++ (⟨#[45]⟩ : ByteArray)) ++ t263).size + 1 ≤ 9223372036854775807 then ((spec_ListText.f k l0_5).bind fun t264 => (if (((((((((t259 ++ (⟨#[32]⟩ : ByteArray)) ++ t260) ++ (⟨#[32]⟩ : ByteArray)) ++ t261) ++ (⟨#[32]⟩ : ByteArray)) ++ t262) ++ (⟨#[45]⟩ : ByteArray)) ++ t263) ++ (⟨#[32]⟩ : ByteArray)).size + t264.size ≤ 9223372036854775807 then (if ((((((((((t259 ++ (⟨#[32]⟩ : ByteArray)) ++ t260) ++ (⟨#[32]⟩ : ByteArray)) ++ t261) ++ (⟨#[32]⟩ : ByteArray)) ++ t262) ++ (⟨#[45]⟩ : ByteArray)) ++ t263) ++ (⟨#[32]⟩ : ByteArray)) ++ t264).size + 1 ≤ 9223372036854775807 then ((spec_FormatInt.f k a0_6).bind fun t265 => (if (((((((((((t259 ++ (⟨#[32]⟩ : ByteArray)) ++ t260) ++ (⟨#[32]⟩ : ByteArray)) ++ t261) ++ (⟨#[32]⟩ : ByteArray)) ++ t262) ++ (⟨#[45]⟩ : ByteArray)) ++ t263) ++ (⟨#[32]⟩ : ByteArray)) ++ t264) ++ (⟨#[32]⟩ : ByteArray)).size + t265.size ≤ 9223372036854775807 then (if ((((((((((((t259 ++ (⟨#[32]⟩ : ByteArray)) ++ t260) ++ (⟨#[32]⟩ : ByteArray)) ++ t261) ++ (⟨#[32]⟩ : ByteArray)) ++ t262) ++ (⟨#[45]⟩ : ByteArray)) ++ t263) ++ (⟨#[32]⟩ : ByteArray)) ++ t264) ++ (⟨#[32]⟩ : ByteArray)) ++ t265).size + 1 ≤ 9223372036854775807 then ((spec_FormatInt.f k a0_7).bind fun t266 => (if (((((((((((((t259 ++ (⟨#[32]⟩ : ByteArray)) ++ t260) ++ (⟨#[32]⟩ : ByteArray)) ++ t261) ++ (⟨#[32]⟩ : ByteArray)) ++ t262) ++ (⟨#[45]⟩ : ByteArray)) ++ t263) ++ (⟨#[32]⟩ : ByteArray)) ++ t264) ++ (⟨#[32]⟩ : ByteArray)) ++ t265) ++ (⟨#[45]⟩ : ByteArray)).size + t266.size ≤ 9223372036854775807 then (some ((((((((((((((t259 ++ (⟨#[32]⟩ : ByteArray)) ++ t260) ++ (⟨#[32]⟩ : ByteArray)) ++ t261) ++ (⟨#[32]⟩ : ByteArray)) ++ t262) ++ (⟨#[45]⟩ : ByteArray)) ++ t263) ++ (⟨#[32]⟩ : ByteArray)) ++ t264) ++ (⟨#[32]⟩ : ByteArray)) ++ t265) ++ (⟨#[45]⟩ : ByteArray)) ++ t266)) else (none))) else (none)) else (none))) else (none)) else (none))) else (none)) else (none))) else (none)) else (none))) else (none)) else (none))) else (none)) else (none))) else (none))) else (some (⟨#[]⟩ : ByteArray)))) = some r := h
 clear h
 replace H := Option.bind_eq_some_iff.mp H
 obtain ⟨t258, A20, H⟩ := H
 replace H : (if t258 = true then ((spec_FormatInt.f k a0_0).bind fun t259 => (if t259.size + 1 ≤ 9223372036854775807 then ((spec_KindText.f a0_1).bind fun t260 => (if (t259 ++ (⟨#[32]⟩ : ByteArray)).size + t260.size ≤ 9223372036854775807 then (if ((t259 ++ (⟨#[32]⟩ : ByteArray)) ++ t260).size + 1 ≤ 9223372036854775807 then ((spec_ListText.f k l0_2).bind fun t261 => (if (((t259 ++ (⟨#[32]⟩ : ByteArray)) ++ t260) ++ (⟨#[32]⟩ : ByteArray)).size + t261.size ≤ 9223372036854775807 then (if ((((t259 ++ (⟨#[32]⟩ : ByteArray)) ++ t260) ++ (⟨#[32]⟩ : ByteArray)) ++ t261).size + 1 ≤ 9223372036854775807 then ((spec_FormatInt.f k a0_3).bind fun t262 => (if (((((t259 ++ (⟨#[32]⟩ : ByteArray)) ++ t260) ++ (⟨#[32]⟩ : ByteArray)) ++ t261) ++ (⟨#[32]⟩ : ByteArray)).size + t262.size ≤ 9223372036854775807 then (if ((((((t259 ++ (⟨#[32]⟩ : ByteArray)) ++ t260) ++ (⟨#[32]⟩ : ByteArray)) ++ t261) ++ (⟨#[32]⟩ : ByteArray)) ++ t262).size + 1 ≤ 9223372036854775807 then ((spec_FormatInt.f k a0_4).bind fun t263 => (if (((((((t259 ++ (⟨#[32]⟩ : ByteArray)) ++ t260) ++ (⟨#[32]⟩ : ByteArray)) ++ t261) ++ (⟨#[32]⟩ : ByteArray)) ++ t262) ++ (⟨#[45]⟩ : ByteArray)).size + t263.size ≤ 9223372036854775807 then (if ((((((((t259 ++ (⟨#[32]⟩ : ByteArray)) ++ t260) ++ (⟨#[32]⟩ : ByteArray)) ++ t261) ++ (⟨#[32]⟩ : ByteArray)) ++ t262) ++ (⟨#[45]⟩ : ByteArray)) ++ t263).size + 1 ≤ 9223372036854775807 then ((spec_ListText.f k l0_5).bind fun t264 => (if (((((((((t259 ++ (⟨#[32]⟩ : ByteArray)) ++ t260) ++ (⟨#[32]⟩ : ByteArray)) ++ t261) ++ (⟨#[32]⟩ : ByteArray)) ++ t262) ++ (⟨#[45]⟩ : ByteArray)) ++ t263) ++ (⟨#[32]⟩ : ByteArray)).size + t264.size ≤ 9223372036854775807 then (if ((((((((((t259 ++ (⟨#[32]⟩ : ByteArray)) ++ t260) ++ (⟨#[32]⟩ : ByteArray)) ++ t261) ++ (⟨#[32]⟩ : ByteArray)) ++ t262) ++ (⟨#[45]⟩ : ByteArray)) ++ t263) ++ (⟨#[32]⟩ : ByteArray)) ++ t264).size + 1 ≤ 9223372036854775807 then ((spec_FormatInt.f k a0_6).bind fun t265 => (if (((((((((((t259 ++ (⟨#[32]⟩ : ByteArray)) ++ t260) ++ (⟨#[32]⟩ : ByteArray)) ++ t261) ++ (⟨#[32]⟩ : ByteArray)) ++ t262) ++ (⟨#[45]⟩ : ByteArray)) ++ t263) ++ (⟨#[32]⟩ : ByteArray)) ++ t264) ++ (⟨#[32]⟩ : ByteArray)).size + t265.size ≤ 9223372036854775807 then (if ((((((((((((t259 ++ (⟨#[32]⟩ : ByteArray)) ++ t260) ++ (⟨#[32]⟩ : ByteArray)) ++ t261) ++ (⟨#[32]⟩ : ByteArray)) ++ t262) ++ (⟨#[45]⟩ : ByteArray)) ++ t263) ++ (⟨#[32]⟩ : ByteArray)) ++ t264) ++ (⟨#[32]⟩ : ByteArray)) ++ t265).size + 1 ≤ 9223372036854775807 then ((spec_FormatInt.f k a0_7).bind fun t266 => (if (((((((((((((t259 ++ (⟨#[32]⟩ : ByteArray)) ++ t260) ++ (⟨#[32]⟩ : ByteArray)) ++ t261) ++ (⟨#[32]⟩ : ByteArray)) ++ t262) ++ (⟨#[45]⟩ : ByteArray)) ++ t263) ++ (⟨#[32]⟩ : ByteArray)) ++ t264) ++ (⟨#[32]⟩ : ByteArray)) ++ t265) ++ (⟨#[45]⟩ : ByteArray)).size + t266.size ≤ 9223372036854775807 then (some ((((((((((((((t259 ++ (⟨#[32]⟩ : ByteArray)) ++ t260) ++ (⟨#[32]⟩ : ByteArray)) ++ t261) ++ (⟨#[32]⟩ : ByteArray)) ++ t262) ++ (⟨#[45]⟩ : ByteArray)) ++ t263) ++ (⟨#[32]⟩ : ByteArray)) ++ t264) ++ (⟨#[32]⟩ : ByteArray)) ++ t265) ++ (⟨#[45]⟩ : ByteArray)) ++ t266)) else (none))) else (none)) else (none))) else (none)) else (none))) else (none)) else (none))) else (none)) else (none))) else (none)) else (none))) else (none)) else (none))) else (none))) else (some (⟨#[]⟩ : ByteArray))) = some r := H
 have A2 := Aside0.mk A20
 clear A20
 by_cases c3 : t258 = true
 ·
  subst c3
  have H1 : ((spec_FormatInt.f k a0_0).bind fun t259 => (if t259.size + 1 ≤ 9223372036854775807 then ((spec_KindText.f a0_1).bind fun t260 => (if (t259 ++ (⟨#[32]⟩ : ByteArray)).size + t260.size ≤ 9223372036854775807 then (if ((t259 ++ (⟨#[32]⟩ : ByteArray)) ++ t260).size + 1 ≤ 9223372036854775807 then ((spec_ListText.f k l0_2).bind fun t261 => (if (((t259 ++ (⟨#[32]⟩ : ByteArray)) ++ t260) ++ (⟨#[32]⟩ : ByteArray)).size + t261.size ≤ 9223372036854775807 then (if ((((t259 ++ (⟨#[32]⟩ : ByteArray)) ++ t260) ++ (⟨#[32]⟩ : ByteArray)) ++ t261).size + 1 ≤ 9223372036854775807 then ((spec_FormatInt.f k a0_3).bind fun t262 => (if (((((t259 ++ (⟨#[32]⟩ : ByteArray)) ++ t260) ++ (⟨#[32]⟩ : ByteArray)) ++ t261) ++ (⟨#[32]⟩ : ByteArray)).size + t262.size ≤ 9223372036854775807 then (if ((((((t259 ++ (⟨#[32]⟩ : ByteArray)) ++ t260) ++ (⟨#[32]⟩ : ByteArray)) ++ t261) ++ (⟨#[32]⟩ : ByteArray)) ++ t262).size + 1 ≤ 9223372036854775807 then ((spec_FormatInt.f k a0_4).bind fun t263 => (if (((((((t259 ++ (⟨#[32]⟩ : ByteArray)) ++ t260) ++ (⟨#[32]⟩ : ByteArray)) ++ t261) ++ (⟨#[32]⟩ : ByteArray)) ++ t262) ++ (⟨#[45]⟩ : ByteArray)).size + t263.size ≤ 9223372036854775807 then (if ((((((((t259 ++ (⟨#[32]⟩ : ByteArray)) ++ t260) ++ (⟨#[32]⟩ : ByteArray)) ++ t261) ++ (⟨#[32]⟩ : ByteArray)) ++ t262) ++ (⟨#[45]⟩ : ByteArray)) ++ t263).size + 1 ≤ 9223372036854775807 then ((spec_ListText.f k l0_5).bind fun t264 => (if (((((((((t259 ++ (⟨#[32]⟩ : ByteArray)) ++ t260) ++ (⟨#[32]⟩ : ByteArray)) ++ t261) ++ (⟨#[32]⟩ : ByteArray)) ++ t262) ++ (⟨#[45]⟩ : ByteArray)) ++ t263) ++ (⟨#[32]⟩ : ByteArray)).size + t264.size ≤ 9223372036854775807 then (if ((((((((((t259 ++ (⟨#[32]⟩ : ByteArray)) ++ t260) ++ (⟨#[32]⟩ : ByteArray)) ++ t261) ++ (⟨#[32]⟩ : ByteArray)) ++ t262) ++ (⟨#[45]⟩ : ByteArray)) ++ t263) ++ (⟨#[32]⟩ : ByteArray)) ++ t264).size + 1 ≤ 9223372036854775807 then ((spec_FormatInt.f k a0_6).bind fun t265 => (if (((((((((((t259 ++ (⟨#[32]⟩ : ByteArray)) ++ t260) ++ (⟨#[32]⟩ : ByteArray)) ++ t261) ++ (⟨#[32]⟩ : ByteArray)) ++ t262) ++ (⟨#[45]⟩ : ByteArray)) ++ t263) ++ (⟨#[32]⟩ : ByteArray)) ++ t264) ++ (⟨#[32]⟩ : ByteArray)).size + t265.size ≤ 9223372036854775807 then (if ((((((((((((t259 ++ (⟨#[32]⟩ : ByteArray)) ++ t260) ++ (⟨#[32]⟩ : ByteArray)) ++ t261) ++ (⟨#[32]⟩ : ByteArray)) ++ t262) ++ (⟨#[45]⟩ : ByteArray)) ++ t263) ++ (⟨#[32]⟩ : ByteArray)) ++ t264) ++ (⟨#[32]⟩ : ByteArray)) ++ t265).size + 1 ≤ 9223372036854775807 then ((spec_FormatInt.f k a0_7).bind fun t266 => (if (((((((((((((t259 ++ (⟨#[32]⟩ : ByteArray)) ++ t260) ++ (⟨#[32]⟩ : ByteArray)) ++ t261) ++ (⟨#[32]⟩ : ByteArray)) ++ t262) ++ (⟨#[45]⟩ : ByteArray)) ++ t263) ++ (⟨#[32]⟩ : ByteArray)) ++ t264) ++ (⟨#[32]⟩ : ByteArray)) ++ t265) ++ (⟨#[45]⟩ : ByteArray)).size + t266.size ≤ 9223372036854775807 then (some ((((((((((((((t259 ++ (⟨#[32]⟩ : ByteArray)) ++ t260) ++ (⟨#[32]⟩ : ByteArray)) ++ t261) ++ (⟨#[32]⟩ : ByteArray)) ++ t262) ++ (⟨#[45]⟩ : ByteArray)) ++ t263) ++ (⟨#[32]⟩ : ByteArray)) ++ t264) ++ (⟨#[32]⟩ : ByteArray)) ++ t265) ++ (⟨#[45]⟩ : ByteArray)) ++ t266)) else (none))) else (none)) else (none))) else (none)) else (none))) else (none)) else (none))) else (none)) else (none))) else (none)) else (none))) else (none)) else (none))) else (none))) = some r := by rw [if_pos rfl] at H; exact H
  clear H
  have H := H1
  clear H1
  replace H := Option.bind_eq_some_iff.mp H
  obtain ⟨t259, A40, H⟩ := H
  replace H : (if t259.size + 1 ≤ 9223372036854775807 then ((spec_KindText.f a0_1).bind fun t260 => (if (t259 ++ (⟨#[32]⟩ : ByteArray)).size + t260.size ≤ 9223372036854775807 then (if ((t259 ++ (⟨#[32]⟩ : ByteArray)) ++ t260).size + 1 ≤ 9223372036854775807 then ((spec_ListText.f k l0_2).bind fun t261 => (if (((t259 ++ (⟨#[32]⟩ : ByteArray)) ++ t260) ++ (⟨#[32]⟩ : ByteArray)).size + t261.size ≤ 9223372036854775807 then (if ((((t259 ++ (⟨#[32]⟩ : ByteArray)) ++ t260) ++ (⟨#[32]⟩ : ByteArray)) ++ t261).size + 1 ≤ 9223372036854775807 then ((spec_FormatInt.f k a0_3).bind fun t262 => (if (((((t259 ++ (⟨#[32]⟩ : ByteArray)) ++ t260) ++ (⟨#[32]⟩ : ByteArray)) ++ t261) ++ (⟨#[32]⟩ : ByteArray)).size + t262.size ≤ 9223372036854775807 then (if ((((((t259 ++ (⟨#[32]⟩ : ByteArray)) ++ t260) ++ (⟨#[32]⟩ : ByteArray)) ++ t261) ++ (⟨#[32]⟩ : ByteArray)) ++ t262).size + 1 ≤ 9223372036854775807 then ((spec_FormatInt.f k a0_4).bind fun t263 => (if (((((((t259 ++ (⟨#[32]⟩ : ByteArray)) ++ t260) ++ (⟨#[32]⟩ : ByteArray)) ++ t261) ++ (⟨#[32]⟩ : ByteArray)) ++ t262) ++ (⟨#[45]⟩ : ByteArray)).size + t263.size ≤ 9223372036854775807 then (if ((((((((t259 ++ (⟨#[32]⟩ : ByteArray)) ++ t260) ++ (⟨#[32]⟩ : ByteArray)) ++ t261) ++ (⟨#[32]⟩ : ByteArray)) ++ t262) ++ (⟨#[45]⟩ : ByteArray)) ++ t263).size + 1 ≤ 9223372036854775807 then ((spec_ListText.f k l0_5).bind fun t264 => (if (((((((((t259 ++ (⟨#[32]⟩ : ByteArray)) ++ t260) ++ (⟨#[32]⟩ : ByteArray)) ++ t261) ++ (⟨#[32]⟩ : ByteArray)) ++ t262) ++ (⟨#[45]⟩ : ByteArray)) ++ t263) ++ (⟨#[32]⟩ : ByteArray)).size + t264.size ≤ 9223372036854775807 then (if ((((((((((t259 ++ (⟨#[32]⟩ : ByteArray)) ++ t260) ++ (⟨#[32]⟩ : ByteArray)) ++ t261) ++ (⟨#[32]⟩ : ByteArray)) ++ t262) ++ (⟨#[45]⟩ : ByteArray)) ++ t263) ++ (⟨#[32]⟩ : ByteArray)) ++ t264).size + 1 ≤ 9223372036854775807 then ((spec_FormatInt.f k a0_6).bind fun t265 => (if (((((((((((t259 ++ (⟨#[32]⟩ : ByteArray)) ++ t260) ++ (⟨#[32]⟩ : ByteArray)) ++ t261) ++ (⟨#[32]⟩ : ByteArray)) ++ t262) ++ (⟨#[45]⟩ : ByteArray)) ++ t263) ++ (⟨#[32]⟩ : ByteArray)) ++ t264) ++ (⟨#[32]⟩ : ByteArray)).size + t265.size ≤ 9223372036854775807 then (if ((((((((((((t259 ++ (⟨#[32]⟩ : ByteArray)) ++ t260) ++ (⟨#[32]⟩ : ByteArray)) ++ t261) ++ (⟨#[32]⟩ : ByteArray)) ++ t262) ++ (⟨#[45]⟩ : ByteArray)) ++ t263) ++ (⟨#[32]⟩ : ByteArray)) ++ t264) ++ (⟨#[32]⟩ : ByteArray)) ++ t265).size + 1 ≤ 9223372036854775807 then ((spec_FormatInt.f k a0_7).bind fun t266 => (if (((((((((((((t259 ++ (⟨#[32]⟩ : ByteArray)) ++ t260) ++ (⟨#[32]⟩ : ByteArray)) ++ t261) ++ (⟨#[32]⟩ : ByteArray)) ++ t262) ++ (⟨#[45]⟩ : ByteArray)) ++ t263) ++ (⟨#[32]⟩ : ByteArray)) ++ t264) ++ (⟨#[32]⟩ : ByteArray)) ++ t265) ++ (⟨#[45]⟩ : ByteArray)).size + t266.size ≤ 9223372036854775807 then (some ((((((((((((((t259 ++ (⟨#[32]⟩ : ByteArray)) ++ t260) ++ (⟨#[32]⟩ : ByteArray)) ++ t261) ++ (⟨#[32]⟩ : ByteArray)) ++ t262) ++ (⟨#[45]⟩ : ByteArray)) ++ t263) ++ (⟨#[32]⟩ : ByteArray)) ++ t264) ++ (⟨#[32]⟩ : ByteArray)) ++ t265) ++ (⟨#[45]⟩ : ByteArray)) ++ t266)) else (none))) else (none)) else (none))) else (none)) else (none))) else (none)) else (none))) else (none)) else (none))) else (none)) else (none))) else (none)) else (none))) else (none)) = some r := H
  have A4 := Aside0.mk A40
  clear A40
  by_cases c5 : t259.size + 1 ≤ 9223372036854775807
  ·
   rw [if_pos c5] at H
   have c5b0 := eq_true c5
   have c5b1 : decide (t259.size + 1 ≤ 9223372036854775807) = true := decide_eq_true c5
   try have c5b2 : (9223372036854775807 < t259.size + 1) = False := eq_false (Nat.not_lt.2 c5)
   replace H := Option.bind_eq_some_iff.mp H
   obtain ⟨t260, A60, H⟩ := H
   replace H : (if (t259 ++ (⟨#[32]⟩ : ByteArray)).size + t260.size ≤ 9223372036854775807 then (if ((t259 ++ (⟨#[32]⟩ : ByteArray)) ++ t260).size + 1 ≤ 9223372036854775807 then ((spec_ListText.f k l0_2).bind fun t261 => (if (((t259 ++ (⟨#[32]⟩ : ByteArray)) ++ t260) ++ (⟨#[32]⟩ : ByteArray)).size + t261.size ≤ 9223372036854775807 then (if ((((t259 ++ (⟨#[32]⟩ : ByteArray)) ++ t260) ++ (⟨#[32]⟩ : ByteArray)) ++ t261).size + 1 ≤ 9223372036854775807 then ((spec_FormatInt.f k a0_3).bind fun t262 => (if (((((t259 ++ (⟨#[32]⟩ : ByteArray)) ++ t260) ++ (⟨#[32]⟩ : ByteArray)) ++ t261) ++ (⟨#[32]⟩ : ByteArray)).size + t262.size ≤ 9223372036854775807 then (if ((((((t259 ++ (⟨#[32]⟩ : ByteArray)) ++ t260) ++ (⟨#[32]⟩ : ByteArray)) ++ t261) ++ (⟨#[32]⟩ : ByteArray)) ++ t262).size + 1 ≤ 9223372036854775807 then ((spec_FormatInt.f k a0_4).bind fun t263 => (if (((((((t259 ++ (⟨#[32]⟩ : ByteArray)) ++ t260) ++ (⟨#[32]⟩ : ByteArray)) ++ t261) ++ (⟨#[32]⟩ : ByteArray)) ++ t262) ++ (⟨#[45]⟩ : ByteArray)).size + t263.size ≤ 9223372036854775807 then (if ((((((((t259 ++ (⟨#[32]⟩ : ByteArray)) ++ t260) ++ (⟨#[32]⟩ : ByteArray)) ++ t261) ++ (⟨#[32]⟩ : ByteArray)) ++ t262) ++ (⟨#[45]⟩ : ByteArray)) ++ t263).size + 1 ≤ 9223372036854775807 then ((spec_ListText.f k l0_5).bind fun t264 => (if (((((((((t259 ++ (⟨#[32]⟩ : ByteArray)) ++ t260) ++ (⟨#[32]⟩ : ByteArray)) ++ t261) ++ (⟨#[32]⟩ : ByteArray)) ++ t262) ++ (⟨#[45]⟩ : ByteArray)) ++ t263) ++ (⟨#[32]⟩ : ByteArray)).size + t264.size ≤ 9223372036854775807 then (if ((((((((((t259 ++ (⟨#[32]⟩ : ByteArray)) ++ t260) ++ (⟨#[32]⟩ : ByteArray)) ++ t261) ++ (⟨#[32]⟩ : ByteArray)) ++ t262) ++ (⟨#[45]⟩ : ByteArray)) ++ t263) ++ (⟨#[32]⟩ : ByteArray)) ++ t264).size + 1 ≤ 9223372036854775807 then ((spec_FormatInt.f k a0_6).bind fun t265 => (if (((((((((((t259 ++ (⟨#[32]⟩ : ByteArray)) ++ t260) ++ (⟨#[32]⟩ : ByteArray)) ++ t261) ++ (⟨#[32]⟩ : ByteArray)) ++ t262) ++ (⟨#[45]⟩ : ByteArray)) ++ t263) ++ (⟨#[32]⟩ : ByteArray)) ++ t264) ++ (⟨#[32]⟩ : ByteArray)).size + t265.size ≤ 9223372036854775807 then (if ((((((((((((t259 ++ (⟨#[32]⟩ : ByteArray)) ++ t260) ++ (⟨#[32]⟩ : ByteArray)) ++ t261) ++ (⟨#[32]⟩ : ByteArray)) ++ t262) ++ (⟨#[45]⟩ : ByteArray)) ++ t263) ++ (⟨#[32]⟩ : ByteArray)) ++ t264) ++ (⟨#[32]⟩ : ByteArray)) ++ t265).size + 1 ≤ 9223372036854775807 then ((spec_FormatInt.f k a0_7).bind fun t266 => (if (((((((((((((t259 ++ (⟨#[32]⟩ : ByteArray)) ++ t260) ++ (⟨#[32]⟩ : ByteArray)) ++ t261) ++ (⟨#[32]⟩ : ByteArray)) ++ t262) ++ (⟨#[45]⟩ : ByteArray)) ++ t263) ++ (⟨#[32]⟩ : ByteArray)) ++ t264) ++ (⟨#[32]⟩ : ByteArray)) ++ t265) ++ (⟨#[45]⟩ : ByteArray)).size + t266.size ≤ 9223372036854775807 then (some ((((((((((((((t259 ++ (⟨#[32]⟩ : ByteArray)) ++ t260) ++ (⟨#[32]⟩ : ByteArray)) ++ t261) ++ (⟨#[32]⟩ : ByteArray)) ++ t262) ++ (⟨#[45]⟩ : ByteArray)) ++ t263) ++ (⟨#[32]⟩ : ByteArray)) ++ t264) ++ (⟨#[32]⟩ : ByteArray)) ++ t265) ++ (⟨#[45]⟩ : ByteArray)) ++ t266)) else (none))) else (none)) else (none))) else (none)) else (none))) else (none)) else (none))) else (none)) else (none))) else (none)) else (none))) else (none)) else (none)) = some r := H
   have A6 := Aside0.mk A60
   clear A60
   by_cases c7 : (t259 ++ (⟨#[32]⟩ : ByteArray)).size + t260.size ≤ 9223372036854775807
   ·
    rw [if_pos c7] at H
    have c7b0 := eq_true c7
    have c7b1 : decide ((t259 ++ (⟨#[32]⟩ : ByteArray)).size + t260.size ≤ 9223372036854775807) = true := decide_eq_true c7
    try have c7b2 : (9223372036854775807 < (t259 ++ (⟨#[32]⟩ : ByteArray)).size + t260.size) = False := eq_false (Nat.not_lt.2 c7)
    try have c7b3 : (9223372036854775807 < t259.size + 1 + t260.size) = False := eq_false (Nat.not_lt.2 (by have h_ := c7; simp only [ByteArray.size_append] at h_; exact h_))
    by_cases c8 : ((t259 ++ (⟨#[32]⟩ : ByteArray)) ++ t260).size + 1 ≤ 9223372036854775807
    ·
     rw [if_pos c8] at H
     have c8b0 := eq_true c8
     have c8b1 : decide (((t259 ++ (⟨#[32]⟩ : ByteArray)) ++ t260).size + 1 ≤ 9223372036854775807) = true := decide_eq_true c8
     try have c8b2 : (9223372036854775807 < ((t259 ++ (⟨#[32]⟩ : ByteArray)) ++ t260).size + 1) = False := eq_false (Nat.not_lt.2 c8)
     try have c8b3 : (9223372036854775807 < t259.size + 1 + t260.size + 1) = False := eq_false (Nat.not_lt.2 (by have h_ := c8; simp only [ByteArray.size_append] at h_; exact h_))
     replace H := Option.bind_eq_some_iff.mp H
     obtain ⟨t261, A90, H⟩ := H
     replace H : (if (((t259 ++ (⟨#[32]⟩ : ByteArray)) ++ t260) ++ (⟨#[32]⟩ : ByteArray)).size + t261.size ≤ 9223372036854775807 then (if ((((t259 ++ (⟨#[32]⟩ : ByteArray)) ++ t260) ++ (⟨#[32]⟩ : ByteArray)) ++ t261).size + 1 ≤ 9223372036854775807 then ((spec_FormatInt.f k a0_3).bind fun t262 => (if (((((t259 ++ (⟨#[32]⟩ : ByteArray)) ++ t260) ++ (⟨#[32]⟩ : ByteArray)) ++ t261) ++ (⟨#[32]⟩ : ByteArray)).size + t262.size ≤ 9223372036854775807 then (if ((((((t259 ++ (⟨#[32]⟩ : ByteArray)) ++ t260) ++ (⟨#[32]⟩ : ByteArray)) ++ t261) ++ (⟨#[32]⟩ : ByteArray)) ++ t262).size + 1 ≤ 9223372036854775807 then ((spec_FormatInt.f k a0_4).bind fun t263 => (if (((((((t259 ++ (⟨#[32]⟩ : ByteArray)) ++ t260) ++ (⟨#[32]⟩ : ByteArray)) ++ t261) ++ (⟨#[32]⟩ : ByteArray)) ++ t262) ++ (⟨#[45]⟩ : ByteArray)).size + t263.size ≤ 9223372036854775807 then (if ((((((((t259 ++ (⟨#[32]⟩ : ByteArray)) ++ t260) ++ (⟨#[32]⟩ : ByteArray)) ++ t261) ++ (⟨#[32]⟩ : ByteArray)) ++ t262) ++ (⟨#[45]⟩ : ByteArray)) ++ t263).size + 1 ≤ 9223372036854775807 then ((spec_ListText.f k l0_5).bind fun t264 => (if (((((((((t259 ++ (⟨#[32]⟩ : ByteArray)) ++ t260) ++ (⟨#[32]⟩ : ByteArray)) ++ t261) ++ (⟨#[32]⟩ : ByteArray)) ++ t262) ++ (⟨#[45]⟩ : ByteArray)) ++ t263) ++ (⟨#[32]⟩ : ByteArray)).size + t264.size ≤ 9223372036854775807 then (if ((((((((((t259 ++ (⟨#[32]⟩ : ByteArray)) ++ t260) ++ (⟨#[32]⟩ : ByteArray)) ++ t261) ++ (⟨#[32]⟩ : ByteArray)) ++ t262) ++ (⟨#[45]⟩ : ByteArray)) ++ t263) ++ (⟨#[32]⟩ : ByteArray)) ++ t264).size + 1 ≤ 9223372036854775807 then ((spec_FormatInt.f k a0_6).bind fun t265 => (if (((((((((((t259 ++ (⟨#[32]⟩ : ByteArray)) ++ t260) ++ (⟨#[32]⟩ : ByteArray)) ++ t261) ++ (⟨#[32]⟩ : ByteArray)) ++ t262) ++ (⟨#[45]⟩ : ByteArray)) ++ t263) ++ (⟨#[32]⟩ : ByteArray)) ++ t264) ++ (⟨#[32]⟩ : ByteArray)).size + t265.size ≤ 9223372036854775807 then (if ((((((((((((t259 ++ (⟨#[32]⟩ : ByteArray)) ++ t260) ++ (⟨#[32]⟩ : ByteArray)) ++ t261) ++ (⟨#[32]⟩ : ByteArray)) ++ t262) ++ (⟨#[45]⟩ : ByteArray)) ++ t263) ++ (⟨#[32]⟩ : ByteArray)) ++ t264) ++ (⟨#[32]⟩ : ByteArray)) ++ t265).size + 1 ≤ 9223372036854775807 then ((spec_FormatInt.f k a0_7).bind fun t266 => (if (((((((((((((t259 ++ (⟨#[32]⟩ : ByteArray)) ++ t260) ++ (⟨#[32]⟩ : ByteArray)) ++ t261) ++ (⟨#[32]⟩ : ByteArray)) ++ t262) ++ (⟨#[45]⟩ : ByteArray)) ++ t263) ++ (⟨#[32]⟩ : ByteArray)) ++ t264) ++ (⟨#[32]⟩ : ByteArray)) ++ t265) ++ (⟨#[45]⟩ : ByteArray)).size + t266.size ≤ 9223372036854775807 then (some ((((((((((((((t259 ++ (⟨#[32]⟩ : ByteArray)) ++ t260) ++ (⟨#[32]⟩ : ByteArray)) ++ t261) ++ (⟨#[32]⟩ : ByteArray)) ++ t262) ++ (⟨#[45]⟩ : ByteArray)) ++ t263) ++ (⟨#[32]⟩ : ByteArray)) ++ t264) ++ (⟨#[32]⟩ : ByteArray)) ++ t265) ++ (⟨#[45]⟩ : ByteArray)) ++ t266)) else (none))) else (none)) else (none))) else (none)) else (none))) else (none)) else (none))) else (none)) else (none))) else (none)) else (none)) = some r := H
     have A9 := Aside0.mk A90
     clear A90
     by_cases c10 : (((t259 ++ (⟨#[32]⟩ : ByteArray)) ++ t260) ++ (⟨#[32]⟩ : ByteArray)).size + t261.size ≤ 9223372036854775807
     ·
      rw [if_pos c10] at H
      have c10b0 := eq_true c10
      have c10b1 : decide ((((t259 ++ (⟨#[32]⟩ : ByteArray)) ++ t260) ++ (⟨#[32]⟩ : ByteArray)).size + t261.size ≤ 9223372036854775807) = true := decide_eq_true c10
      try have c10b2 : (9223372036854775807 < (((t259 ++ (⟨#[32]⟩ : ByteArray)) ++ t260) ++ (⟨#[32]⟩ : ByteArray)).size + t261.size) = False := eq_false (Nat.not_lt.2 c10)
      try have c10b3 : (9223372036854775807 < t259.size + 1 + t260.size + 1 + t261.size) = False := eq_false (Nat.not_lt.2 (by have h_ := c10; simp only [ByteArray.size_append] at h_; exact h_))
      by_cases c11 : ((((t259 ++ (⟨#[32]⟩ : ByteArray)) ++ t260) ++ (⟨#[32]⟩ : ByteArray)) ++ t261).size + 1 ≤ 9223372036854775807
      ·
       rw [if_pos c11] at H
       have c11b0 := eq_true c11
       have c11b1 : decide (((((t259 ++ (⟨#[32]⟩ : ByteArray)) ++ t260) ++ (⟨#[32]⟩ : ByteArray)) ++ t261).size + 1 ≤ 9223372036854775807) = true := decide_eq_true c11
       try have c11b2 : (9223372036854775807 < ((((t259 ++ (⟨#[32]⟩ : ByteArray)) ++ t260) ++ (⟨#[32]⟩ : ByteArray)) ++ t261).size + 1) = False := eq_false (Nat.not_lt.2 c11)
       try have c11b3 : (9223372036854775807 < t259.size + 1 + t260.size + 1 + t261.size + 1) = False := eq_false (Nat.not_lt.2 (by have h_ := c11; simp only [ByteArray.size_append] at h_; exact h_))
       replace H := Option.bind_eq_some_iff.mp H
       obtain ⟨t262, A120, H⟩ := H
       replace H : (if (((((t259 ++ (⟨#[32]⟩ : ByteArray)) ++ t260) ++ (⟨#[32]⟩ : ByteArray)) ++ t261) ++ (⟨#[32]⟩ : ByteArray)).size + t262.size ≤ 9223372036854775807 then (if ((((((t259 ++ (⟨#[32]⟩ : ByteArray)) ++ t260) ++ (⟨#[32]⟩ : ByteArray)) ++ t261) ++ (⟨#[32]⟩ : ByteArray)) ++ t262).size + 1 ≤ 9223372036854775807 then ((spec_FormatInt.f k a0_4).bind fun t263 => (if (((((((t259 ++ (⟨#[32]⟩ : ByteArray)) ++ t260) ++ (⟨#[32]⟩ : ByteArray)) ++ t261) ++ (⟨#[32]⟩ : ByteArray)) ++ t262) ++ (⟨#[45]⟩ : ByteArray)).size + t263.size ≤ 9223372036854775807 then (if ((((((((t259 ++ (⟨#[32]⟩ : ByteArray)) ++ t260) ++ (⟨#[32]⟩ : ByteArray)) ++ t261) ++ (⟨#[32]⟩ : ByteArray)) ++ t262) ++ (⟨#[45]⟩ : ByteArray)) ++ t263).size + 1 ≤ 9223372036854775807 then ((spec_ListText.f k l0_5).bind fun t264 => (if (((((((((t259 ++ (⟨#[32]⟩ : ByteArray)) ++ t260) ++ (⟨#[32]⟩ : ByteArray)) ++ t261) ++ (⟨#[32]⟩ : ByteArray)) ++ t262) ++ (⟨#[45]⟩ : ByteArray)) ++ t263) ++ (⟨#[32]⟩ : ByteArray)).size + t264.size ≤ 9223372036854775807 then (if ((((((((((t259 ++ (⟨#[32]⟩ : ByteArray)) ++ t260) ++ (⟨#[32]⟩ : ByteArray)) ++ t261) ++ (⟨#[32]⟩ : ByteArray)) ++ t262) ++ (⟨#[45]⟩ : ByteArray)) ++ t263) ++ (⟨#[32]⟩ : ByteArray)) ++ t264).size + 1 ≤ 9223372036854775807 then ((spec_FormatInt.f k a0_6).bind fun t265 => (if (((((((((((t259 ++ (⟨#[32]⟩ : ByteArray)) ++ t260) ++ (⟨#[32]⟩ : ByteArray)) ++ t261) ++ (⟨#[32]⟩ : ByteArray)) ++ t262) ++ (⟨#[45]⟩ : ByteArray)) ++ t263) ++ (⟨#[32]⟩ : ByteArray)) ++ t264) ++ (⟨#[32]⟩ : ByteArray)).size + t265.size ≤ 9223372036854775807 then (if ((((((((((((t259 ++ (⟨#[32]⟩ : ByteArray)) ++ t260) ++ (⟨#[32]⟩ : ByteArray)) ++ t261) ++ (⟨#[32]⟩ : ByteArray)) ++ t262) ++ (⟨#[45]⟩ : ByteArray)) ++ t263) ++ (⟨#[32]⟩ : ByteArray)) ++ t264) ++ (⟨#[32]⟩ : ByteArray)) ++ t265).size + 1 ≤ 9223372036854775807 then ((spec_FormatInt.f k a0_7).bind fun t266 => (if (((((((((((((t259 ++ (⟨#[32]⟩ : ByteArray)) ++ t260) ++ (⟨#[32]⟩ : ByteArray)) ++ t261) ++ (⟨#[32]⟩ : ByteArray)) ++ t262) ++ (⟨#[45]⟩ : ByteArray)) ++ t263) ++ (⟨#[32]⟩ : ByteArray)) ++ t264) ++ (⟨#[32]⟩ : ByteArray)) ++ t265) ++ (⟨#[45]⟩ : ByteArray)).size + t266.size ≤ 9223372036854775807 then (some ((((((((((((((t259 ++ (⟨#[32]⟩ : ByteArray)) ++ t260) ++ (⟨#[32]⟩ : ByteArray)) ++ t261) ++ (⟨#[32]⟩ : ByteArray)) ++ t262) ++ (⟨#[45]⟩ : ByteArray)) ++ t263) ++ (⟨#[32]⟩ : ByteArray)) ++ t264) ++ (⟨#[32]⟩ : ByteArray)) ++ t265) ++ (⟨#[45]⟩ : ByteArray)) ++ t266)) else (none))) else (none)) else (none))) else (none)) else (none))) else (none)) else (none))) else (none)) else (none)) = some r := H
       have A12 := Aside0.mk A120
       clear A120
       by_cases c13 : (((((t259 ++ (⟨#[32]⟩ : ByteArray)) ++ t260) ++ (⟨#[32]⟩ : ByteArray)) ++ t261) ++ (⟨#[32]⟩ : ByteArray)).size + t262.size ≤ 9223372036854775807
       ·
        rw [if_pos c13] at H
        have c13b0 := eq_true c13
        have c13b1 : decide ((((((t259 ++ (⟨#[32]⟩ : ByteArray)) ++ t260) ++ (⟨#[32]⟩ : ByteArray)) ++ t261) ++ (⟨#[32]⟩ : ByteArray)).size + t262.size ≤ 9223372036854775807) = true := decide_eq_true c13
        try have c13b2 : (9223372036854775807 < (((((t259 ++ (⟨#[32]⟩ : ByteArray)) ++ t260) ++ (⟨#[32]⟩ : ByteArray)) ++ t261) ++ (⟨#[32]⟩ : ByteArray)).size + t262.size) = False := eq_false (Nat.not_lt.2 c13)
        try have c13b3 : (9223372036854775807 < t259.size + 1 + t260.size + 1 + t261.size + 1 + t262.size) = False := eq_false (Nat.not_lt.2 (by have h_ := c13; simp only [ByteArray.size_append] at h_; exact h_))
        by_cases c14 : ((((((t259 ++ (⟨#[32]⟩ : ByteArray)) ++ t260) ++ (⟨#[32]⟩ : ByteArray)) ++ t261) ++ (⟨#[32]⟩ : ByteArray)) ++ t262).size + 1 ≤ 9223372036854775807
        ·
         rw [if_pos c14] at H
         have c14b0 := eq_true c14
         have c14b1 : decide (((((((t259 ++ (⟨#[32]⟩ : ByteArray)) ++ t260) ++ (⟨#[32]⟩ : ByteArray)) ++ t261) ++ (⟨#[32]⟩ : ByteArray)) ++ t262).size + 1 ≤ 9223372036854775807) = true := decide_eq_true c14
         try have c14b2 : (9223372036854775807 < ((((((t259 ++ (⟨#[32]⟩ : ByteArray)) ++ t260) ++ (⟨#[32]⟩ : ByteArray)) ++ t261) ++ (⟨#[32]⟩ : ByteArray)) ++ t262).size + 1) = False := eq_false (Nat.not_lt.2 c14)
         try have c14b3 : (9223372036854775807 < t259.size + 1 + t260.size + 1 + t261.size + 1 + t262.size + 1) = False := eq_false (Nat.not_lt.2 (by have h_ := c14; simp only [ByteArray.size_append] at h_; exact h_))
         replace H := Option.bind_eq_some_iff.mp H
         obtain ⟨t263, A150, H⟩ := H
         replace H : (if (((((((t259 ++ (⟨#[32]⟩ : ByteArray)) ++ t260) ++ (⟨#[32]⟩ : ByteArray)) ++ t261) ++ (⟨#[32]⟩ : ByteArray)) ++ t262) ++ (⟨#[45]⟩ : ByteArray)).size + t263.size ≤ 9223372036854775807 then (if ((((((((t259 ++ (⟨#[32]⟩ : ByteArray)) ++ t260) ++ (⟨#[32]⟩ : ByteArray)) ++ t261) ++ (⟨#[32]⟩ : ByteArray)) ++ t262) ++ (⟨#[45]⟩ : ByteArray)) ++ t263).size + 1 ≤ 9223372036854775807 then ((spec_ListText.f k l0_5).bind fun t264 => (if (((((((((t259 ++ (⟨#[32]⟩ : ByteArray)) ++ t260) ++ (⟨#[32]⟩ : ByteArray)) ++ t261) ++ (⟨#[32]⟩ : ByteArray)) ++ t262) ++ (⟨#[45]⟩ : ByteArray)) ++ t263) ++ (⟨#[32]⟩ : ByteArray)).size + t264.size ≤ 9223372036854775807 then (if ((((((((((t259 ++ (⟨#[32]⟩ : ByteArray)) ++ t260) ++ (⟨#[32]⟩ : ByteArray)) ++ t261) ++ (⟨#[32]⟩ : ByteArray)) ++ t262) ++ (⟨#[45]⟩ : ByteArray)) ++ t263) ++ (⟨#[32]⟩ : ByteArray)) ++ t264).size + 1 ≤ 9223372036854775807 then ((spec_FormatInt.f k a0_6).bind fun t265 => (if (((((((((((t259 ++ (⟨#[32]⟩ : ByteArray)) ++ t260) ++ (⟨#[32]⟩ : ByteArray)) ++ t261) ++ (⟨#[32]⟩ : ByteArray)) ++ t262) ++ (⟨#[45]⟩ : ByteArray)) ++ t263) ++ (⟨#[32]⟩ : ByteArray)) ++ t264) ++ (⟨#[32]⟩ : ByteArray)).size + t265.size ≤ 9223372036854775807 then (if ((((((((((((t259 ++ (⟨#[32]⟩ : ByteArray)) ++ t260) ++ (⟨#[32]⟩ : ByteArray)) ++ t261) ++ (⟨#[32]⟩ : ByteArray)) ++ t262) ++ (⟨#[45]⟩ : ByteArray)) ++ t263) ++ (⟨#[32]⟩ : ByteArray)) ++ t264) ++ (⟨#[32]⟩ : ByteArray)) ++ t265).size + 1 ≤ 9223372036854775807 then ((spec_FormatInt.f k a0_7).bind fun t266 => (if (((((((((((((t259 ++ (⟨#[32]⟩ : ByteArray)) ++ t260) ++ (⟨#[32]⟩ : ByteArray)) ++ t261) ++ (⟨#[32]⟩ : ByteArray)) ++ t262) ++ (⟨#[45]⟩ : ByteArray)) ++ t263) ++ (⟨#[32]⟩ : ByteArray)) ++ t264) ++ (⟨#[32]⟩ : ByteArray)) ++ t265) ++ (⟨#[45]⟩ : ByteArray)).size + t266.size ≤ 9223372036854775807 then (some ((((((((((((((t259 ++ (⟨#[32]⟩ : ByteArray)) ++ t260) ++ (⟨#[32]⟩ : ByteArray)) ++ t261) ++ (⟨#[32]⟩ : ByteArray)) ++ t262) ++ (⟨#[45]⟩ : ByteArray)) ++ t263) ++ (⟨#[32]⟩ : ByteArray)) ++ t264) ++ (⟨#[32]⟩ : ByteArray)) ++ t265) ++ (⟨#[45]⟩ : ByteArray)) ++ t266)) else (none))) else (none)) else (none))) else (none)) else (none))) else (none)) else (none)) = some r := H
         have A15 := Aside0.mk A150
         clear A150
         by_cases c16 : (((((((t259 ++ (⟨#[32]⟩ : ByteArray)) ++ t260) ++ (⟨#[32]⟩ : ByteArray)) ++ t261) ++ (⟨#[32]⟩ : ByteArray)) ++ t262) ++ (⟨#[45]⟩ : ByteArray)).size + t263.size ≤ 9223372036854775807
         ·
          rw [if_pos c16] at H
          have c16b0 := eq_true c16
          have c16b1 : decide ((((((((t259 ++ (⟨#[32]⟩ : ByteArray)) ++ t260) ++ (⟨#[32]⟩ : ByteArray)) ++ t261) ++ (⟨#[32]⟩ : ByteArray)) ++ t262) ++ (⟨#[45]⟩ : ByteArray)).size + t263.size ≤ 9223372036854775807) = true := decide_eq_true c16
          try have c16b2 : (9223372036854775807 < (((((((t259 ++ (⟨#[32]⟩ : ByteArray)) ++ t260) ++ (⟨#[32]⟩ : ByteArray)) ++ t261) ++ (⟨#[32]⟩ : ByteArray)) ++ t262) ++ (⟨#[45]⟩ : ByteArray)).size + t263.size) = False := eq_false (Nat.not_lt.2 c16)
          try have c16b3 : (9223372036854775807 < t259.size + 1 + t260.size + 1 + t261.size + 1 + t262.size + 1 + t263.size) = False := eq_false (Nat.not_lt.2 (by have h_ := c16; simp only [ByteArray.size_append] at h_; exact h_))
          by_cases c17 : ((((((((t259 ++ (⟨#[32]⟩ : ByteArray)) ++ t260) ++ (⟨#[32]⟩ : ByteArray)) ++ t261) ++ (⟨#[32]⟩ : ByteArray)) ++ t262) ++ (⟨#[45]⟩ : ByteArray)) ++ t263).size + 1 ≤ 9223372036854775807
          ·
           rw [if_pos c17] at H
           have c17b0 := eq_true c17
           have c17b1 : decide (((((((((t259 ++ (⟨#[32]⟩ : ByteArray)) ++ t260) ++ (⟨#[32]⟩ : ByteArray)) ++ t261) ++ (⟨#[32]⟩ : ByteArray)) ++ t262) ++ (⟨#[45]⟩ : ByteArray)) ++ t263).size + 1 ≤ 9223372036854775807) = true := decide_eq_true c17
           try have c17b2 : (9223372036854775807 < ((((((((t259 ++ (⟨#[32]⟩ : ByteArray)) ++ t260) ++ (⟨#[32]⟩ : ByteArray)) ++ t261) ++ (⟨#[32]⟩ : ByteArray)) ++ t262) ++ (⟨#[45]⟩ : ByteArray)) ++ t263).size + 1) = False := eq_false (Nat.not_lt.2 c17)
           try have c17b3 : (9223372036854775807 < t259.size + 1 + t260.size + 1 + t261.size + 1 + t262.size + 1 + t263.size + 1) = False := eq_false (Nat.not_lt.2 (by have h_ := c17; simp only [ByteArray.size_append] at h_; exact h_))
           replace H := Option.bind_eq_some_iff.mp H
           obtain ⟨t264, A180, H⟩ := H
           replace H : (if (((((((((t259 ++ (⟨#[32]⟩ : ByteArray)) ++ t260) ++ (⟨#[32]⟩ : ByteArray)) ++ t261) ++ (⟨#[32]⟩ : ByteArray)) ++ t262) ++ (⟨#[45]⟩ : ByteArray)) ++ t263) ++ (⟨#[32]⟩ : ByteArray)).size + t264.size ≤ 9223372036854775807 then (if ((((((((((t259 ++ (⟨#[32]⟩ : ByteArray)) ++ t260) ++ (⟨#[32]⟩ : ByteArray)) ++ t261) ++ (⟨#[32]⟩ : ByteArray)) ++ t262) ++ (⟨#[45]⟩ : ByteArray)) ++ t263) ++ (⟨#[32]⟩ : ByteArray)) ++ t264).size + 1 ≤ 9223372036854775807 then ((spec_FormatInt.f k a0_6).bind fun t265 => (if (((((((((((t259 ++ (⟨#[32]⟩ : ByteArray)) ++ t260) ++ (⟨#[32]⟩ : ByteArray)) ++ t261) ++ (⟨#[32]⟩ : ByteArray)) ++ t262) ++ (⟨#[45]⟩ : ByteArray)) ++ t263) ++ (⟨#[32]⟩ : ByteArray)) ++ t264) ++ (⟨#[32]⟩ : ByteArray)).size + t265.size ≤ 9223372036854775807 then (if ((((((((((((t259 ++ (⟨#[32]⟩ : ByteArray)) ++ t260) ++ (⟨#[32]⟩ : ByteArray)) ++ t261) ++ (⟨#[32]⟩ : ByteArray)) ++ t262) ++ (⟨#[45]⟩ : ByteArray)) ++ t263) ++ (⟨#[32]⟩ : ByteArray)) ++ t264) ++ (⟨#[32]⟩ : ByteArray)) ++ t265).size + 1 ≤ 9223372036854775807 then ((spec_FormatInt.f k a0_7).bind fun t266 => (if (((((((((((((t259 ++ (⟨#[32]⟩ : ByteArray)) ++ t260) ++ (⟨#[32]⟩ : ByteArray)) ++ t261) ++ (⟨#[32]⟩ : ByteArray)) ++ t262) ++ (⟨#[45]⟩ : ByteArray)) ++ t263) ++ (⟨#[32]⟩ : ByteArray)) ++ t264) ++ (⟨#[32]⟩ : ByteArray)) ++ t265) ++ (⟨#[45]⟩ : ByteArray)).size + t266.size ≤ 9223372036854775807 then (some ((((((((((((((t259 ++ (⟨#[32]⟩ : ByteArray)) ++ t260) ++ (⟨#[32]⟩ : ByteArray)) ++ t261) ++ (⟨#[32]⟩ : ByteArray)) ++ t262) ++ (⟨#[45]⟩ : ByteArray)) ++ t263) ++ (⟨#[32]⟩ : ByteArray)) ++ t264) ++ (⟨#[32]⟩ : ByteArray)) ++ t265) ++ (⟨#[45]⟩ : ByteArray)) ++ t266)) else (none))) else (none)) else (none))) else (none)) else (none)) = some r := H
           have A18 := Aside0.mk A180
           clear A180
           by_cases c19 : (((((((((t259 ++ (⟨#[32]⟩ : ByteArray)) ++ t260) ++ (⟨#[32]⟩ : ByteArray)) ++ t261) ++ (⟨#[32]⟩ : ByteArray)) ++ t262) ++ (⟨#[45]⟩ : ByteArray)) ++ t263) ++ (⟨#[32]⟩ : ByteArray)).size + t264.size ≤ 9223372036854775807
           ·
            rw [if_pos c19] at H
            have c19b0 := eq_true c19
            have c19b1 : decide ((((((((((t259 ++ (⟨#[32]⟩ : ByteArray)) ++ t260) ++ (⟨#[32]⟩ : ByteArray)) ++ t261) ++ (⟨#[32]⟩ : ByteArray)) ++ t262) ++ (⟨#[45]⟩ : ByteArray)) ++ t263) ++ (⟨#[32]⟩ : ByteArray)).size + t264.size ≤ 9223372036854775807) = true := decide_eq_true c19
            try have c19b2 : (9223372036854775807 < (((((((((t259 ++ (⟨#[32]⟩ : ByteArray)) ++ t260) ++ (⟨#[32]⟩ : ByteArray)) ++ t261) ++ (⟨#[32]⟩ : ByteArray)) ++ t262) ++ (⟨#[45]⟩ : ByteArray)) ++ t263) ++ (⟨#[32]⟩ : ByteArray)).size + t264.size) = False := eq_false (Nat.not_lt.2 c19)
            try have c19b3 : (9223372036854775807 < t259.size + 1 + t260.size + 1 + t261.size + 1 + t262.size + 1 + t263.size + 1 + t264.size) = False := eq_false (Nat.not_lt.2 (by have h_ := c19; simp only [ByteArray.size_append] at h_; exact h_))
            by_cases c20 : ((((((((((t259 ++ (⟨#[32]⟩ : ByteArray)) ++ t260) ++ (⟨#[32]⟩ : ByteArray)) ++ t261) ++ (⟨#[32]⟩ : ByteArray)) ++ t262) ++ (⟨#[45]⟩ : ByteArray)) ++ t263) ++ (⟨#[32]⟩ : ByteArray)) ++ t264).size + 1 ≤ 9223372036854775807
            ·
             rw [if_pos c20] at H
             have c20b0 := eq_true c20
             have c20b1 : decide (((((((((((t259 ++ (⟨#[32]⟩ : ByteArray)) ++ t260) ++ (⟨#[32]⟩ : ByteArray)) ++ t261) ++ (⟨#[32]⟩ : ByteArray)) ++ t262) ++ (⟨#[45]⟩ : ByteArray)) ++ t263) ++ (⟨#[32]⟩ : ByteArray)) ++ t264).size + 1 ≤ 9223372036854775807) = true := decide_eq_true c20
             try have c20b2 : (9223372036854775807 < ((((((((((t259 ++ (⟨#[32]⟩ : ByteArray)) ++ t260) ++ (⟨#[32]⟩ : ByteArray)) ++ t261) ++ (⟨#[32]⟩ : ByteArray)) ++ t262) ++ (⟨#[45]⟩ : ByteArray)) ++ t263) ++ (⟨#[32]⟩ : ByteArray)) ++ t264).size + 1) = False := eq_false (Nat.not_lt.2 c20)
             try have c20b3 : (9223372036854775807 < t259.size + 1 + t260.size + 1 + t261.size + 1 + t262.size + 1 + t263.size + 1 + t264.size + 1) = False := eq_false (Nat.not_lt.2 (by have h_ := c20; simp only [ByteArray.size_append] at h_; exact h_))
             replace H := Option.bind_eq_some_iff.mp H
             obtain ⟨t265, A210, H⟩ := H
             replace H : (if (((((((((((t259 ++ (⟨#[32]⟩ : ByteArray)) ++ t260) ++ (⟨#[32]⟩ : ByteArray)) ++ t261) ++ (⟨#[32]⟩ : ByteArray)) ++ t262) ++ (⟨#[45]⟩ : ByteArray)) ++ t263) ++ (⟨#[32]⟩ : ByteArray)) ++ t264) ++ (⟨#[32]⟩ : ByteArray)).size + t265.size ≤ 9223372036854775807 then (if ((((((((((((t259 ++ (⟨#[32]⟩ : ByteArray)) ++ t260) ++ (⟨#[32]⟩ : ByteArray)) ++ t261) ++ (⟨#[32]⟩ : ByteArray)) ++ t262) ++ (⟨#[45]⟩ : ByteArray)) ++ t263) ++ (⟨#[32]⟩ : ByteArray)) ++ t264) ++ (⟨#[32]⟩ : ByteArray)) ++ t265).size + 1 ≤ 9223372036854775807 then ((spec_FormatInt.f k a0_7).bind fun t266 => (if (((((((((((((t259 ++ (⟨#[32]⟩ : ByteArray)) ++ t260) ++ (⟨#[32]⟩ : ByteArray)) ++ t261) ++ (⟨#[32]⟩ : ByteArray)) ++ t262) ++ (⟨#[45]⟩ : ByteArray)) ++ t263) ++ (⟨#[32]⟩ : ByteArray)) ++ t264) ++ (⟨#[32]⟩ : ByteArray)) ++ t265) ++ (⟨#[45]⟩ : ByteArray)).size + t266.size ≤ 9223372036854775807 then (some ((((((((((((((t259 ++ (⟨#[32]⟩ : ByteArray)) ++ t260) ++ (⟨#[32]⟩ : ByteArray)) ++ t261) ++ (⟨#[32]⟩ : ByteArray)) ++ t262) ++ (⟨#[45]⟩ : ByteArray)) ++ t263) ++ (⟨#[32]⟩ : ByteArray)) ++ t264) ++ (⟨#[32]⟩ : ByteArray)) ++ t265) ++ (⟨#[45]⟩ : ByteArray)) ++ t266)) else (none))) else (none)) else (none)) = some r := H
             have A21 := Aside0.mk A210
             clear A210
             by_cases c22 : (((((((((((t259 ++ (⟨#[32]⟩ : ByteArray)) ++ t260) ++ (⟨#[32]⟩ : ByteArray)) ++ t261) ++ (⟨#[32]⟩ : ByteArray)) ++ t262) ++ (⟨#[45]⟩ : ByteArray)) ++ t263) ++ (⟨#[32]⟩ : ByteArray)) ++ t264) ++ (⟨#[32]⟩ : ByteArray)).size + t265.size ≤ 9223372036854775807
             ·
              rw [if_pos c22] at H
              have c22b0 := eq_true c22
              have c22b1 : decide ((((((((((((t259 ++ (⟨#[32]⟩ : ByteArray)) ++ t260) ++ (⟨#[32]⟩ : ByteArray)) ++ t261) ++ (⟨#[32]⟩ : ByteArray)) ++ t262) ++ (⟨#[45]⟩ : ByteArray)) ++ t263) ++ (⟨#[32]⟩ : ByteArray)) ++ t264) ++ (⟨#[32]⟩ : ByteArray)).size + t265.size ≤ 9223372036854775807) = true := decide_eq_true c22
              try have c22b2 : (9223372036854775807 < (((((((((((t259 ++ (⟨#[32]⟩ : ByteArray)) ++ t260) ++ (⟨#[32]⟩ : ByteArray)) ++ t261) ++ (⟨#[32]⟩ : ByteArray)) ++ t262) ++ (⟨#[45]⟩ : ByteArray)) ++ t263) ++ (⟨#[32]⟩ : ByteArray)) ++ t264) ++ (⟨#[32]⟩ : ByteArray)).size + t265.size) = False := eq_false (Nat.not_lt.2 c22)
              try have c22b3 : (9223372036854775807 < t259.size + 1 + t260.size + 1 + t261.size + 1 + t262.size + 1 + t263.size + 1 + t264.size + 1 + t265.size) = False := eq_false (Nat.not_lt.2 (by have h_ := c22; simp only [ByteArray.size_append] at h_; exact h_))
              by_cases c23 : ((((((((((((t259 ++ (⟨#[32]⟩ : ByteArray)) ++ t260) ++ (⟨#[32]⟩ : ByteArray)) ++ t261) ++ (⟨#[32]⟩ : ByteArray)) ++ t262) ++ (⟨#[45]⟩ : ByteArray)) ++ t263) ++ (⟨#[32]⟩ : ByteArray)) ++ t264) ++ (⟨#[32]⟩ : ByteArray)) ++ t265).size + 1 ≤ 9223372036854775807
              ·
               rw [if_pos c23] at H
               have c23b0 := eq_true c23
               have c23b1 : decide (((((((((((((t259 ++ (⟨#[32]⟩ : ByteArray)) ++ t260) ++ (⟨#[32]⟩ : ByteArray)) ++ t261) ++ (⟨#[32]⟩ : ByteArray)) ++ t262) ++ (⟨#[45]⟩ : ByteArray)) ++ t263) ++ (⟨#[32]⟩ : ByteArray)) ++ t264) ++ (⟨#[32]⟩ : ByteArray)) ++ t265).size + 1 ≤ 9223372036854775807) = true := decide_eq_true c23
               try have c23b2 : (9223372036854775807 < ((((((((((((t259 ++ (⟨#[32]⟩ : ByteArray)) ++ t260) ++ (⟨#[32]⟩ : ByteArray)) ++ t261) ++ (⟨#[32]⟩ : ByteArray)) ++ t262) ++ (⟨#[45]⟩ : ByteArray)) ++ t263) ++ (⟨#[32]⟩ : ByteArray)) ++ t264) ++ (⟨#[32]⟩ : ByteArray)) ++ t265).size + 1) = False := eq_false (Nat.not_lt.2 c23)
               try have c23b3 : (9223372036854775807 < t259.size + 1 + t260.size + 1 + t261.size + 1 + t262.size + 1 + t263.size + 1 + t264.size + 1 + t265.size + 1) = False := eq_false (Nat.not_lt.2 (by have h_ := c23; simp only [ByteArray.size_append] at h_; exact h_))
               replace H := Option.bind_eq_some_iff.mp H
               obtain ⟨t266, A240, H⟩ := H
               replace H : (if (((((((((((((t259 ++ (⟨#[32]⟩ : ByteArray)) ++ t260) ++ (⟨#[32]⟩ : ByteArray)) ++ t261) ++ (⟨#[32]⟩ : ByteArray)) ++ t262) ++ (⟨#[45]⟩ : ByteArray)) ++ t263) ++ (⟨#[32]⟩ : ByteArray)) ++ t264) ++ (⟨#[32]⟩ : ByteArray)) ++ t265) ++ (⟨#[45]⟩ : ByteArray)).size + t266.size ≤ 9223372036854775807 then (some ((((((((((((((t259 ++ (⟨#[32]⟩ : ByteArray)) ++ t260) ++ (⟨#[32]⟩ : ByteArray)) ++ t261) ++ (⟨#[32]⟩ : ByteArray)) ++ t262) ++ (⟨#[45]⟩ : ByteArray)) ++ t263) ++ (⟨#[32]⟩ : ByteArray)) ++ t264) ++ (⟨#[32]⟩ : ByteArray)) ++ t265) ++ (⟨#[45]⟩ : ByteArray)) ++ t266)) else (none)) = some r := H
               have A24 := Aside0.mk A240
               clear A240
               by_cases c25 : (((((((((((((t259 ++ (⟨#[32]⟩ : ByteArray)) ++ t260) ++ (⟨#[32]⟩ : ByteArray)) ++ t261) ++ (⟨#[32]⟩ : ByteArray)) ++ t262) ++ (⟨#[45]⟩ : ByteArray)) ++ t263) ++ (⟨#[32]⟩ : ByteArray)) ++ t264) ++ (⟨#[32]⟩ : ByteArray)) ++ t265) ++ (⟨#[45]⟩ : ByteArray)).size + t266.size ≤ 9223372036854775807
               ·
                rw [if_pos c25] at H
                have c25b0 := eq_true c25
                have c25b1 : decide ((((((((((((((t259 ++ (⟨#[32]⟩ : ByteArray)) ++ t260) ++ (⟨#[32]⟩ : ByteArray)) ++ t261) ++ (⟨#[32]⟩ : ByteArray)) ++ t262) ++ (⟨#[45]⟩ : ByteArray)) ++ t263) ++ (⟨#[32]⟩ : ByteArray)) ++ t264) ++ (⟨#[32]⟩ : ByteArray)) ++ t265) ++ (⟨#[45]⟩ : ByteArray)).size + t266.size ≤ 9223372036854775807) = true := decide_eq_true c25
                try have c25b2 : (9223372036854775807 < (((((((((((((t259 ++ (⟨#[32]⟩ : ByteArray)) ++ t260) ++ (⟨#[32]⟩ : ByteArray)) ++ t261) ++ (⟨#[32]⟩ : ByteArray)) ++ t262) ++ (⟨#[45]⟩ : ByteArray)) ++ t263) ++ (⟨#[32]⟩ : ByteArray)) ++ t264) ++ (⟨#[32]⟩ : ByteArray)) ++ t265) ++ (⟨#[45]⟩ : ByteArray)).size + t266.size) = False := eq_false (Nat.not_lt.2 c25)
                try have c25b3 : (9223372036854775807 < t259.size + 1 + t260.size + 1 + t261.size + 1 + t262.size + 1 + t263.size + 1 + t264.size + 1 + t265.size + 1 + t266.size) = False := eq_false (Nat.not_lt.2 (by have h_ := c25; simp only [ByteArray.size_append] at h_; exact h_))
                obtain rfl := Option.some.inj H
                go_enter Tryd.func36, Tryd.ntmps36
                try go_wp2_with (first | ((with_reducible refine gate_dst (N := 1) rfl ?_); refine box_event ?hg (N := 1) ?hd (cs := #[.int .i64 a0_0, .int .i64 a0_1, .slice A0_2 l0_2.length c0_2, .int .i64 a0_3, .int .i64 a0_4, .slice A0_5 l0_5.length c0_5, .int .i64 a0_6, .int .i64 a0_7]) (t := 28) ?hr ?_; (case hd => rfl); (case hg => rfl); (case hr => first | (go_simp; done) | (go_simp; rfl)); intro gb257 hg w26 hbox hb; have n0_ := Aside0.mk (below_step y85_ hb); have n1_ := Aside0.mk (hbox); have n2_ := Aside0.mk ((by rw [hg]; exact (below_size y85_) : w.heap.size ≤ gb257)); have n3_ := Aside0.mk ((by rw [hg]; exact (below_size y85_) : w.heap.size ≤ gb257)); clear HB; have HB := n0_; have BK257 := n1_; have GW257 := n2_; have GE257 := n3_; clear n0_ n1_ n2_ n3_; clear hb hbox hg; have hcz27_0 : w26.cell? ⟨gb257, 0, none⟩ = some (.int .i64 a0_0) := (blk_cell BK257.out 0).trans rfl; have hcz27_1 : w26.cell? ⟨gb257, 1, none⟩ = some (.int .i64 a0_1) := (blk_cell BK257.out 1).trans rfl; have hcz27_2 : w26.cell? ⟨gb257, 2, none⟩ = some (.slice A0_2 l0_2.length c0_2) := (blk_cell BK257.out 2).trans rfl; have hcz27_3 : w26.cell? ⟨gb257, 3, none⟩ = some (.int .i64 a0_3) := (blk_cell BK257.out 3).trans rfl; have hcz27_4 : w26.cell? ⟨gb257, 4, none⟩ = some (.int .i64 a0_4) := (blk_cell BK257.out 4).trans rfl; have hcz27_5 : w26.cell? ⟨gb257, 5, none⟩ = some (.slice A0_5 l0_5.length c0_5) := (blk_cell BK257.out 5).trans rfl; have hcz27_6 : w26.cell? ⟨gb257, 6, none⟩ = some (.int .i64 a0_6) := (blk_cell BK257.out 6).trans rfl; have hcz27_7 : w26.cell? ⟨gb257, 7, none⟩ = some (.int .i64 a0_7) := (blk_cell BK257.out 7).trans rfl; have hfz27_0 := blk_frozen BK257.out 0; have hfz27_1 := blk_frozen BK257.out 1; have hfz27_2 := blk_frozen BK257.out 2; have hfz27_3 := blk_frozen BK257.out 3; have hfz27_4 := blk_frozen BK257.out 4; have hfz27_5 := blk_frozen BK257.out 5; have hfz27_6 := blk_frozen BK257.out 6; have hfz27_7 := blk_frozen BK257.out 7) | ((with_reducible refine gate_callee (f := 69) rfl ?_); refine goesL_ (some 4) rfl rfl Tryd.func69 (by kernel_rfl) rfl #[.agg #[.int .i64 a0_0, .int .i64 a0_1, .slice A0_2 l0_2.length c0_2, .int .i64 a0_3, .int .i64 a0_4, .slice A0_5 l0_5.length c0_5, .int .i64 a0_6, .int .i64 a0_7]] rfl y83_ ?_; (with_reducible refine (spec_IsReport.calls k a0_0 a0_1 _ _ l0_2 a0_3 a0_4 _ _ l0_5 a0_6 a0_7 true _ ?side1 ?side2 ?side3 ?side4 A2.out).mono ?_); (case side1 => repeat (first | exact (Kd.C_below HR0_2.out HB.out) | (with_reducible refine Kd.C_alloc ?_ _) | (with_reducible refine Kd.C_drewN ?_ _) | (with_reducible refine Kd.C_drew ?_))); (case side2 => exact HC0_2.out); (case side3 => repeat (first | exact (Kd.C_below HR0_5.out HB.out) | (with_reducible refine Kd.C_alloc ?_ _) | (with_reducible refine Kd.C_drewN ?_ _) | (with_reducible refine Kd.C_drew ?_))); (case side4 => exact HC0_5.out); rintro e w28 ⟨rfl, hb⟩; refine ⟨_, rfl, ?_⟩; have n0_ := Aside0.mk (blk_below (g := gb257) (o := .cells #[.int .i64 a0_0, .int .i64 a0_1, .slice A0_2 l0_2.length c0_2, .int .i64 a0_3, .int .i64 a0_4, .slice A0_5 l0_5.length c0_5, .int .i64 a0_6, .int .i64 a0_7] 28 (0, 0)) y84_ hb); have n1_ := Aside0.mk (below_step y82_ hb); clear BK257; clear HB; have BK257 := n0_; have HB := n1_; clear n0_ n1_; (try clear hb); (try clear hb2); (try clear hk); (try clear hi)))
                have n0_ := Aside0.mk (blk_drew BK257.out)
                have n1_ := Aside0.mk (below_drew1 HB.out)
                clear BK257
                clear HB
                have BK257 := n0_
                have HB := n1_
                clear n0_ n1_
                refine start_ (n := 41) (S := fun w' => w'.cell? ⟨gb257, 0, none⟩ = some (.int .i64 a0_0) ∧ w'.cell? ⟨gb257, 1, none⟩ = some (.int .i64 a0_1) ∧ w'.cell? ⟨gb257, 2, none⟩ = some (.slice A0_2 l0_2.length c0_2) ∧ w'.cell? ⟨gb257, 3, none⟩ = some (.int .i64 a0_3) ∧ w'.cell? ⟨gb257, 4, none⟩ = some (.int .i64 a0_4) ∧ w'.cell? ⟨gb257, 5, none⟩ = some (.slice A0_5 l0_5.length c0_5) ∧ w'.cell? ⟨gb257, 6, none⟩ = some (.int .i64 a0_6) ∧ w'.cell? ⟨gb257, 7, none⟩ = some (.int .i64 a0_7)) (ds := []) M1_0 (by kernel_rfl) rfl rfl ⟨(blk_cell BK257.out 0).trans rfl, (blk_cell BK257.out 1).trans rfl, (blk_cell BK257.out 2).trans rfl, (blk_cell BK257.out 3).trans rfl, (blk_cell BK257.out 4).trans rfl, (blk_cell BK257.out 5).trans rfl, (blk_cell BK257.out 6).trans rfl, (blk_cell BK257.out 7).trans rfl⟩ (fun hHeld => ?_); refine with_tabW spec_ReportText.tab3 spec_ReportText.bits3 (fun HT_ HW_ => ?_)
                generalize w28.drew = w29 at BK257 HB hHeld ⊢
                refine pure_ (i := 0) (N := some 6) (v := ?_) (a' := ?_) M1_1 rfl rfl (any_of HT_.out (by kernel_rfl)) (fun _ _ _ h => h) (Or.inl ⟨by rfl, ?_⟩) ?_ ?_
                rotate_left; · intro w'; go_simp; with_reducible rfl
                rotate_left; · simp only [Act.put, P1_1, P1_2, P1_3, i64_w, i32_w]; rfl
                refine pure_ (i := 4) (N := some 10) (v := ?_) (a' := ?_) M1_2 rfl rfl (any_of HT_.out (by kernel_rfl)) (fun _ _ _ h => h) (Or.inl ⟨by rfl, ?_⟩) ?_ ?_
                rotate_left; · intro w'; go_simp; with_reducible rfl
                rotate_left; · simp only [Act.put, P1_1, P1_2, P1_3, i64_w, i32_w]; rfl
                refine pure_ (i := 9) (N := some 15) (v := ?_) (a' := ?_) M1_3 rfl rfl (any_of HT_.out (by kernel_rfl)) (fun _ _ _ h => h) (Or.inl ⟨by rfl, ?_⟩) ?_ ?_
                rotate_left; · intro w'; go_simp; with_reducible rfl
                rotate_left; · simp only [Act.put, P1_1, P1_2, P1_3, i64_w, i32_w]; rfl
                refine pure_ (i := 14) (N := some 20) (v := ?_) (a' := ?_) M1_4 rfl rfl (any_of HT_.out (by kernel_rfl)) (fun _ _ _ h => h) (Or.inl ⟨by rfl, ?_⟩) ?_ ?_
                rotate_left; · intro w'; go_simp; with_reducible rfl
                rotate_left; · simp only [Act.put, P1_1, P1_2, P1_3, i64_w, i32_w]; rfl
                refine pure_ (i := 19) (N := some 25) (v := ?_) (a' := ?_) M1_5 rfl rfl (any_of HT_.out (by kernel_rfl)) (fun _ _ _ h => h) (Or.inl ⟨by rfl, ?_⟩) ?_ ?_
                rotate_left; · intro w'; go_simp; with_reducible rfl
                rotate_left; · simp only [Act.put, P1_1, P1_2, P1_3, i64_w, i32_w]; rfl
                refine pure_ (i := 24) (N := some 30) (v := ?_) (a' := ?_) M1_6 rfl rfl (any_of HT_.out (by kernel_rfl)) (fun _ _ _ h => h) (Or.inl ⟨by rfl, ?_⟩) ?_ ?_
                rotate_left; · intro w'; go_simp; with_reducible rfl
                rotate_left; · simp only [Act.put, P1_1, P1_2, P1_3, i64_w, i32_w]; rfl
                refine pure_ (i := 29) (N := some 35) (v := ?_) (a' := ?_) M1_7 rfl rfl (any_of HT_.out (by kernel_rfl)) (fun _ _ _ h => h) (Or.inl ⟨by rfl, ?_⟩) ?_ ?_
                rotate_left; · intro w'; go_simp; with_reducible rfl
                rotate_left; · simp only [Act.put, P1_1, P1_2, P1_3, i64_w, i32_w]; rfl
                refine pure_ (i := 30) (N := some 36) (v := ?_) (a' := ?_) M1_8 rfl rfl (any_of HT_.out (by kernel_rfl)) (fun _ _ _ h => h) (Or.inl ⟨by rfl, ?_⟩) ?_ ?_
                rotate_left; · intro w'; go_simp; with_reducible rfl
                rotate_left; · simp only [Act.put, P1_1, P1_2, P1_3, i64_w, i32_w]; rfl
                refine pure_ (i := 35) (N := some 41) (v := ?_) (a' := ?_) M1_9 rfl rfl (any_of HT_.out (by kernel_rfl)) (fun _ _ _ h => h) (Or.inl ⟨by rfl, ?_⟩) ?_ ?_
                rotate_left; · intro w'; go_simp; with_reducible rfl
                rotate_left; · simp only [Act.put, P1_1, P1_2, P1_3, i64_w, i32_w]; rfl
                refine pure_ (i := 36) (N := some 42) (v := ?_) (a' := ?_) M1_10 rfl rfl (any_of HT_.out (by kernel_rfl)) (fun _ _ _ h => h) (Or.inl ⟨by rfl, ?_⟩) ?_ ?_
                rotate_left; · intro w'; go_simp; with_reducible rfl
                rotate_left; · simp only [Act.put, P1_1, P1_2, P1_3, i64_w, i32_w]; rfl
                refine take_ (i := 1) (N := some 7) (v := ?_) (a' := ?_) M1_11 rfl rfl (take_ofW HT_.out HW_.out (by kernel_rfl)) (fun _ _ _ h => h) (Or.inl ⟨by rfl, ?_⟩) hHeld ?_ ?_
                rotate_left; · rintro w' ⟨s0, s1, s2, s3, s4, s5, s6, s7⟩; go_simp; with_reducible rfl
                rotate_left; · simp only [Act.put, P1_1, P1_2, P1_3, i64_w, i32_w]; rfl
                refine take_ (i := 5) (N := some 11) (v := ?_) (a' := ?_) M1_12 rfl rfl (take_ofW HT_.out HW_.out (by kernel_rfl)) (fun _ _ _ h => h) (Or.inl ⟨by rfl, ?_⟩) hHeld ?_ ?_
                rotate_left; · rintro w' ⟨s0, s1, s2, s3, s4, s5, s6, s7⟩; go_simp; with_reducible rfl
                rotate_left; · simp only [Act.put, P1_1, P1_2, P1_3, i64_w, i32_w]; rfl
                refine take_ (i := 10) (N := some 16) (v := ?_) (a' := ?_) M1_13 rfl rfl (take_ofW HT_.out HW_.out (by kernel_rfl)) (fun _ _ _ h => h) (Or.inl ⟨by rfl, ?_⟩) hHeld ?_ ?_
                rotate_left; · rintro w' ⟨s0, s1, s2, s3, s4, s5, s6, s7⟩; go_simp; with_reducible rfl
                rotate_left; · simp only [Act.put, P1_1, P1_2, P1_3, i64_w, i32_w]; rfl
                refine take_ (i := 15) (N := some 21) (v := ?_) (a' := ?_) M1_14 rfl rfl (take_ofW HT_.out HW_.out (by kernel_rfl)) (fun _ _ _ h => h) (Or.inl ⟨by rfl, ?_⟩) hHeld ?_ ?_
                rotate_left; · rintro w' ⟨s0, s1, s2, s3, s4, s5, s6, s7⟩; go_simp; with_reducible rfl
                rotate_left; · simp only [Act.put, P1_1, P1_2, P1_3, i64_w, i32_w]; rfl
                refine take_ (i := 20) (N := some 26) (v := ?_) (a' := ?_) M1_15 rfl rfl (take_ofW HT_.out HW_.out (by kernel_rfl)) (fun _ _ _ h => h) (Or.inl ⟨by rfl, ?_⟩) hHeld ?_ ?_
                rotate_left; · rintro w' ⟨s0, s1, s2, s3, s4, s5, s6, s7⟩; go_simp; with_reducible rfl
                rotate_left; · simp only [Act.put, P1_1, P1_2, P1_3, i64_w, i32_w]; rfl
                refine take_ (i := 25) (N := some 31) (v := ?_) (a' := ?_) M1_16 rfl rfl (take_ofW HT_.out HW_.out (by kernel_rfl)) (fun _ _ _ h => h) (Or.inl ⟨by rfl, ?_⟩) hHeld ?_ ?_
                rotate_left; · rintro w' ⟨s0, s1, s2, s3, s4, s5, s6, s7⟩; go_simp; with_reducible rfl
                rotate_left; · simp only [Act.put, P1_1, P1_2, P1_3, i64_w, i32_w]; rfl
                refine take_ (i := 31) (N := some 37) (v := ?_) (a' := ?_) M1_17 rfl rfl (take_ofW HT_.out HW_.out (by kernel_rfl)) (fun _ _ _ h => h) (Or.inl ⟨by rfl, ?_⟩) hHeld ?_ ?_
                rotate_left; · rintro w' ⟨s0, s1, s2, s3, s4, s5, s6, s7⟩; go_simp; with_reducible rfl
                rotate_left; · simp only [Act.put, P1_1, P1_2, P1_3, i64_w, i32_w]; rfl
                refine take_ (i := 37) (N := some 43) (v := ?_) (a' := ?_) M1_18 rfl rfl (take_ofW HT_.out HW_.out (by kernel_rfl)) (fun _ _ _ h => h) (Or.inl ⟨by rfl, ?_⟩) hHeld ?_ ?_
                rotate_left; · rintro w' ⟨s0, s1, s2, s3, s4, s5, s6, s7⟩; go_simp; with_reducible rfl
                rotate_left; · simp only [Act.put, P1_1, P1_2, P1_3, i64_w, i32_w]; rfl
                refine one_ (i := 2) (N := some 8) M1_19 rfl rfl (one_of HT_.out (by kernel_rfl)) (by decide) (fun K hK => ?_)
                refine goes_ Tryd.func64 (by kernel_rfl) rfl #[.int .i64 a0_0] (by rfl) rfl rfl y83_ ?_
                with_reducible refine (spec_FormatInt.calls k a0_0 t259 _ A4.out).mono ?_
                rintro e w30 ⟨rfl, hb⟩
                refine ⟨_, rfl, ?_⟩
                have n0_ := Aside0.mk (blk_below (g := gb257) (o := .cells #[.int .i64 a0_0, .int .i64 a0_1, .slice A0_2 l0_2.length c0_2, .int .i64 a0_3, .int .i64 a0_4, .slice A0_5 l0_5.length c0_5, .int .i64 a0_6, .int .i64 a0_7] 28 (0, 0)) y84_ hb)
                have n1_ := Aside0.mk (below_step y82_ hb)
                clear BK257
                clear HB
                have BK257 := n0_
                have HB := n1_
                clear n0_ n1_
                (try clear hb)
                (try clear hb2)
                (try clear hk)
                (try clear hi)
                refine hK.out _ _ ⟨(blk_cell BK257.out 0).trans rfl, (blk_cell BK257.out 1).trans rfl, (blk_cell BK257.out 2).trans rfl, (blk_cell BK257.out 3).trans rfl, (blk_cell BK257.out 4).trans rfl, (blk_cell BK257.out 5).trans rfl, (blk_cell BK257.out 6).trans rfl, (blk_cell BK257.out 7).trans rfl⟩ (fun hHeld => ?_)
                clear hK K
                refine norm_ (a' := ?_) ?_ ?_
                rotate_left
                ·
                 show Act.put _ (some 8) _ = _
                 simp only [Act.put, P1_1, P1_2, P1_3, i64_w, i32_w]
                 rfl
                refine pure_ (i := 3) (N := some 9) (v := ?_) (a' := ?_) M1_20 rfl rfl (any_of HT_.out (by kernel_rfl)) (fun _ _ _ h => h) (Or.inl ⟨by rfl, ?_⟩) ?_ ?_
                rotate_left; · intro w'; go_simp; with_reducible rfl
                rotate_left; · simp only [Act.put, P1_1, P1_2, P1_3, i64_w, i32_w]; rfl
                refine one_ (i := 6) (N := some 12) M1_21 rfl rfl (one_of HT_.out (by kernel_rfl)) (by decide) (fun K hK => ?_)
                refine goes_ Tryd.func57 (by kernel_rfl) rfl #[.int .i64 a0_1] (by rfl) rfl rfl y83_ ?_
                with_reducible refine (spec_KindText.calls a0_1 t260 _ A6.out).mono ?_
                rintro e w31 ⟨rfl, hb⟩
                refine ⟨_, rfl, ?_⟩
                have n0_ := Aside0.mk (blk_below (g := gb257) (o := .cells #[.int .i64 a0_0, .int .i64 a0_1, .slice A0_2 l0_2.length c0_2, .int .i64 a0_3, .int .i64 a0_4, .slice A0_5 l0_5.length c0_5, .int .i64 a0_6, .int .i64 a0_7] 28 (0, 0)) y84_ hb)
                have n1_ := Aside0.mk (below_step y82_ hb)
                clear BK257
                clear HB
                have BK257 := n0_
                have HB := n1_
                clear n0_ n1_
                (try clear hb)
                (try clear hb2)
                (try clear hk)
                (try clear hi)
                refine hK.out _ _ ⟨(blk_cell BK257.out 0).trans rfl, (blk_cell BK257.out 1).trans rfl, (blk_cell BK257.out 2).trans rfl, (blk_cell BK257.out 3).trans rfl, (blk_cell BK257.out 4).trans rfl, (blk_cell BK257.out 5).trans rfl, (blk_cell BK257.out 6).trans rfl, (blk_cell BK257.out 7).trans rfl⟩ (fun hHeld => ?_)
                clear hK K
                refine norm_ (a' := ?_) ?_ ?_
                rotate_left
                ·
                 show Act.put _ (some 12) _ = _
                 simp only [Act.put, P1_1, P1_2, P1_3, i64_w, i32_w]
                 rfl
                refine pure_ (i := 7) (N := some 13) (v := ?_) (a' := ?_) M1_22 rfl rfl (any_of HT_.out (by kernel_rfl)) (fun _ _ _ h => h) (Or.inl ⟨by rfl, ?_⟩) ?_ ?_
                rotate_left; · intro w'; go_simp; with_reducible rfl
                rotate_left; · simp only [Act.put, P1_1, P1_2, P1_3, i64_w, i32_w]; rfl
                refine pure_ (i := 8) (N := some 14) (v := ?_) (a' := ?_) M1_23 rfl rfl (any_of HT_.out (by kernel_rfl)) (fun _ _ _ h => h) (Or.inl ⟨by rfl, ?_⟩) ?_ ?_
                rotate_left; · intro w'; go_simp; with_reducible rfl
                rotate_left; · simp only [Act.put, P1_1, P1_2, P1_3, i64_w, i32_w]; rfl
                refine one_ (i := 11) (N := some 17) M1_24 rfl rfl (one_of HT_.out (by kernel_rfl)) (by decide) (fun K hK => ?_)
                refine goes_ Tryd.func29 (by kernel_rfl) rfl #[.slice A0_2 l0_2.length c0_2] (by rfl) rfl rfl y83_ ?_
                with_reducible refine (spec_ListText.calls k _ _ l0_2 t261 _ ?side1 ?side2 A9.out).mono ?_
                (case side1 => repeat (first | exact (Kd.C_below HR0_2.out HB.out) | (with_reducible refine Kd.C_alloc ?_ _) | (with_reducible refine Kd.C_drewN ?_ _) | (with_reducible refine Kd.C_drew ?_)))
                (case side2 => exact HC0_2.out)
                rintro e w32 ⟨rfl, hb⟩
                refine ⟨_, rfl, ?_⟩
                have n0_ := Aside0.mk (blk_below (g := gb257) (o := .cells #[.int .i64 a0_0, .int .i64 a0_1, .slice A0_2 l0_2.length c0_2, .int .i64 a0_3, .int .i64 a0_4, .slice A0_5 l0_5.length c0_5, .int .i64 a0_6, .int .i64 a0_7] 28 (0, 0)) y84_ hb)
                have n1_ := Aside0.mk (below_step y82_ hb)
                clear BK257
                clear HB
                have BK257 := n0_
                have HB := n1_
                clear n0_ n1_
                (try clear hb)
                (try clear hb2)
                (try clear hk)
                (try clear hi)
                refine hK.out _ _ ⟨(blk_cell BK257.out 0).trans rfl, (blk_cell BK257.out 1).trans rfl, (blk_cell BK257.out 2).trans rfl, (blk_cell BK257.out 3).trans rfl, (blk_cell BK257.out 4).trans rfl, (blk_cell BK257.out 5).trans rfl, (blk_cell BK257.out 6).trans rfl, (blk_cell BK257.out 7).trans rfl⟩ (fun hHeld => ?_)
                clear hK K
                refine norm_ (a' := ?_) ?_ ?_
                rotate_left
                ·
                 show Act.put _ (some 17) _ = _
                 simp only [Act.put, P1_1, P1_2, P1_3, i64_w, i32_w]
                 rfl
                refine pure_ (i := 12) (N := some 18) (v := ?_) (a' := ?_) M1_25 rfl rfl (any_of HT_.out (by kernel_rfl)) (fun _ _ _ h => h) (Or.inl ⟨by rfl, ?_⟩) ?_ ?_
                rotate_left; · intro w'; go_simp; with_reducible rfl
                rotate_left; · simp only [Act.put, P1_1, P1_2, P1_3, i64_w, i32_w]; rfl
                refine pure_ (i := 13) (N := some 19) (v := ?_) (a' := ?_) M1_26 rfl rfl (any_of HT_.out (by kernel_rfl)) (fun _ _ _ h => h) (Or.inl ⟨by rfl, ?_⟩) ?_ ?_
                rotate_left; · intro w'; go_simp; with_reducible rfl
                rotate_left; · simp only [Act.put, P1_1, P1_2, P1_3, i64_w, i32_w]; rfl
                refine one_ (i := 16) (N := some 22) M1_27 rfl rfl (one_of HT_.out (by kernel_rfl)) (by decide) (fun K hK => ?_)
                refine goes_ Tryd.func64 (by kernel_rfl) rfl #[.int .i64 a0_3] (by rfl) rfl rfl y83_ ?_
                with_reducible refine (spec_FormatInt.calls k a0_3 t262 _ A12.out).mono ?_
                rintro e w33 ⟨rfl, hb⟩
                refine ⟨_, rfl, ?_⟩
                have n0_ := Aside0.mk (blk_below (g := gb257) (o := .cells #[.int .i64 a0_0, .int .i64 a0_1, .slice A0_2 l0_2.length c0_2, .int .i64 a0_3, .int .i64 a0_4, .slice A0_5 l0_5.length c0_5, .int .i64 a0_6, .int .i64 a0_7] 28 (0, 0)) y84_ hb)
                have n1_ := Aside0.mk (below_step y82_ hb)
                clear BK257
                clear HB
                have BK257 := n0_
                have HB := n1_
                clear n0_ n1_
                (try clear hb)
                (try clear hb2)
                (try clear hk)
                (try clear hi)
                refine hK.out _ _ ⟨(blk_cell BK257.out 0).trans rfl, (blk_cell BK257.out 1).trans rfl, (blk_cell BK257.out 2).trans rfl, (blk_cell BK257.out 3).trans rfl, (blk_cell BK257.out 4).trans rfl, (blk_cell BK257.out 5).trans rfl, (blk_cell BK257.out 6).trans rfl, (blk_cell BK257.out 7).trans rfl⟩ (fun hHeld => ?_)
                clear hK K
                refine norm_ (a' := ?_) ?_ ?_
                rotate_left
                ·
                 show Act.put _ (some 22) _ = _
                 simp only [Act.put, P1_1, P1_2, P1_3, i64_w, i32_w]
                 rfl
                refine pure_ (i := 17) (N := some 23) (v := ?_) (a' := ?_) M1_28 rfl rfl (any_of HT_.out (by kernel_rfl)) (fun _ _ _ h => h) (Or.inl ⟨by rfl, ?_⟩) ?_ ?_
                rotate_left; · intro w'; go_simp; with_reducible rfl
                rotate_left; · simp only [Act.put, P1_1, P1_2, P1_3, i64_w, i32_w]; rfl
                refine pure_ (i := 18) (N := some 24) (v := ?_) (a' := ?_) M1_29 rfl rfl (any_of HT_.out (by kernel_rfl)) (fun _ _ _ h => h) (Or.inl ⟨by rfl, ?_⟩) ?_ ?_
                rotate_left; · intro w'; go_simp; with_reducible rfl
                rotate_left; · simp only [Act.put, P1_1, P1_2, P1_3, i64_w, i32_w]; rfl
                refine one_ (i := 21) (N := some 27) M1_30 rfl rfl (one_of HT_.out (by kernel_rfl)) (by decide) (fun K hK => ?_)
                refine goes_ Tryd.func64 (by kernel_rfl) rfl #[.int .i64 a0_4] (by rfl) rfl rfl y83_ ?_
                with_reducible refine (spec_FormatInt.calls k a0_4 t263 _ A15.out).mono ?_
                rintro e w34 ⟨rfl, hb⟩
                refine ⟨_, rfl, ?_⟩
                have n0_ := Aside0.mk (blk_below (g := gb257) (o := .cells #[.int .i64 a0_0, .int .i64 a0_1, .slice A0_2 l0_2.length c0_2, .int .i64 a0_3, .int .i64 a0_4, .slice A0_5 l0_5.length c0_5, .int .i64 a0_6, .int .i64 a0_7] 28 (0, 0)) y84_ hb)
                have n1_ := Aside0.mk (below_step y82_ hb)
                clear BK257
                clear HB
                have BK257 := n0_
                have HB := n1_
                clear n0_ n1_
                (try clear hb)
                (try clear hb2)
                (try clear hk)
                (try clear hi)
                refine hK.out _ _ ⟨(blk_cell BK257.out 0).trans rfl, (blk_cell BK257.out 1).trans rfl, (blk_cell BK257.out 2).trans rfl, (blk_cell BK257.out 3).trans rfl, (blk_cell BK257.out 4).trans rfl, (blk_cell BK257.out 5).trans rfl, (blk_cell BK257.out 6).trans rfl, (blk_cell BK257.out 7).trans rfl⟩ (fun hHeld => ?_)
                clear hK K
                refine norm_ (a' := ?_) ?_ ?_
                rotate_left
                ·
                 show Act.put _ (some 27) _ = _
                 simp only [Act.put, P1_1, P1_2, P1_3, i64_w, i32_w]
                 rfl
                refine pure_ (i := 22) (N := some 28) (v := ?_) (a' := ?_) M1_31 rfl rfl (any_of HT_.out (by kernel_rfl)) (fun _ _ _ h => h) (Or.inl ⟨by rfl, ?_⟩) ?_ ?_
                rotate_left; · intro w'; go_simp; with_reducible rfl
                rotate_left; · simp only [Act.put, P1_1, P1_2, P1_3, i64_w, i32_w]; rfl
                refine pure_ (i := 23) (N := some 29) (v := ?_) (a' := ?_) M1_32 rfl rfl (any_of HT_.out (by kernel_rfl)) (fun _ _ _ h => h) (Or.inl ⟨by rfl, ?_⟩) ?_ ?_
                rotate_left; · intro w'; go_simp; with_reducible rfl
                rotate_left; · simp only [Act.put, P1_1, P1_2, P1_3, i64_w, i32_w]; rfl
                refine one_ (i := 26) (N := some 32) M1_33 rfl rfl (one_of HT_.out (by kernel_rfl)) (by decide) (fun K hK => ?_)
                refine goes_ Tryd.func29 (by kernel_rfl) rfl #[.slice A0_5 l0_5.length c0_5] (by rfl) rfl rfl y83_ ?_
                with_reducible refine (spec_ListText.calls k _ _ l0_5 t264 _ ?side1 ?side2 A18.out).mono ?_
                (case side1 => repeat (first | exact (Kd.C_below HR0_5.out HB.out) | (with_reducible refine Kd.C_alloc ?_ _) | (with_reducible refine Kd.C_drewN ?_ _) | (with_reducible refine Kd.C_drew ?_)))
                (case side2 => exact HC0_5.out)
                rintro e w35 ⟨rfl, hb⟩
                refine ⟨_, rfl, ?_⟩
                have n0_ := Aside0.mk (blk_below (g := gb257) (o := .cells #[.int .i64 a0_0, .int .i64 a0_1, .slice A0_2 l0_2.length c0_2, .int .i64 a0_3, .int .i64 a0_4, .slice A0_5 l0_5.length c0_5, .int .i64 a0_6, .int .i64 a0_7] 28 (0, 0)) y84_ hb)
                have n1_ := Aside0.mk (below_step y82_ hb)
                clear BK257
                clear HB
                have BK257 := n0_
                have HB := n1_
                clear n0_ n1_
                (try clear hb)
                (try clear hb2)
                (try clear hk)
                (try clear hi)
                refine hK.out _ _ ⟨(blk_cell BK257.out 0).trans rfl, (blk_cell BK257.out 1).trans rfl, (blk_cell BK257.out 2).trans rfl, (blk_cell BK257.out 3).trans rfl, (blk_cell BK257.out 4).trans rfl, (blk_cell BK257.out 5).trans rfl, (blk_cell BK257.out 6).trans rfl, (blk_cell BK257.out 7).trans rfl⟩ (fun hHeld => ?_)
                clear hK K
                refine norm_ (a' := ?_) ?_ ?_
                rotate_left
                ·
                 show Act.put _ (some 32) _ = _
                 simp only [Act.put, P1_1, P1_2, P1_3, i64_w, i32_w]
                 rfl
                refine pure_ (i := 27) (N := some 33) (v := ?_) (a' := ?_) M1_34 rfl rfl (any_of HT_.out (by kernel_rfl)) (fun _ _ _ h => h) (Or.inl ⟨by rfl, ?_⟩) ?_ ?_
                rotate_left; · intro w'; go_simp; with_reducible rfl
                rotate_left; · simp only [Act.put, P1_1, P1_2, P1_3, i64_w, i32_w]; rfl
                refine pure_ (i := 28) (N := some 34) (v := ?_) (a' := ?_) M1_35 rfl rfl (any_of HT_.out (by kernel_rfl)) (fun _ _ _ h => h) (Or.inl ⟨by rfl, ?_⟩) ?_ ?_
                rotate_left; · intro w'; go_simp; with_reducible rfl
                rotate_left; · simp only [Act.put, P1_1, P1_2, P1_3, i64_w, i32_w]; rfl
                refine one_ (i := 32) (N := some 38) M1_36 rfl rfl (one_of HT_.out (by kernel_rfl)) (by decide) (fun K hK => ?_)
                refine goes_ Tryd.func64 (by kernel_rfl) rfl #[.int .i64 a0_6] (by rfl) rfl rfl y83_ ?_
                with_reducible refine (spec_FormatInt.calls k a0_6 t265 _ A21.out).mono ?_
                rintro e w36 ⟨rfl, hb⟩
                refine ⟨_, rfl, ?_⟩
                have n0_ := Aside0.mk (blk_below (g := gb257) (o := .cells #[.int .i64 a0_0, .int .i64 a0_1, .slice A0_2 l0_2.length c0_2, .int .i64 a0_3, .int .i64 a0_4, .slice A0_5 l0_5.length c0_5, .int .i64 a0_6, .int .i64 a0_7] 28 (0, 0)) y84_ hb)
                have n1_ := Aside0.mk (below_step y82_ hb)
                clear BK257
                clear HB
                have BK257 := n0_
                have HB := n1_
                clear n0_ n1_
                (try clear hb)
                (try clear hb2)
                (try clear hk)
                (try clear hi)
                refine hK.out _ _ ⟨(blk_cell BK257.out 0).trans rfl, (blk_cell BK257.out 1).trans rfl, (blk_cell BK257.out 2).trans rfl, (blk_cell BK257.out 3).trans rfl, (blk_cell BK257.out 4).trans rfl, (blk_cell BK257.out 5).trans rfl, (blk_cell BK257.out 6).trans rfl, (blk_cell BK257.out 7).trans rfl⟩ (fun hHeld => ?_)
                clear hK K
                refine norm_ (a' := ?_) ?_ ?_
                rotate_left
                ·
                 show Act.put _ (some 38) _ = _
                 simp only [Act.put, P1_1, P1_2, P1_3, i64_w, i32_w]
                 rfl
                refine pure_ (i := 33) (N := some 39) (v := ?_) (a' := ?_) M1_37 rfl rfl (any_of HT_.out (by kernel_rfl)) (fun _ _ _ h => h) (Or.inl ⟨by rfl, ?_⟩) ?_ ?_
                rotate_left; · intro w'; go_simp; with_reducible rfl
                rotate_left; · simp only [Act.put, P1_1, P1_2, P1_3, i64_w, i32_w]; rfl
                refine pure_ (i := 34) (N := some 40) (v := ?_) (a' := ?_) M1_38 rfl rfl (any_of HT_.out (by kernel_rfl)) (fun _ _ _ h => h) (Or.inl ⟨by rfl, ?_⟩) ?_ ?_
                rotate_left; · intro w'; go_simp; with_reducible rfl
                rotate_left; · simp only [Act.put, P1_1, P1_2, P1_3, i64_w, i32_w]; rfl
                refine one_ (i := 38) (N := some 44) M1_39 rfl rfl (one_of HT_.out (by kernel_rfl)) (by decide) (fun K hK => ?_)
                refine goes_ Tryd.func64 (by kernel_rfl) rfl #[.int .i64 a0_7] (by rfl) rfl rfl y83_ ?_
                with_reducible refine (spec_FormatInt.calls k a0_7 t266 _ A24.out).mono ?_
                rintro e w37 ⟨rfl, hb⟩
                refine ⟨_, rfl, ?_⟩
                have n0_ := Aside0.mk (blk_below (g := gb257) (o := .cells #[.int .i64 a0_0, .int .i64 a0_1, .slice A0_2 l0_2.length c0_2, .int .i64 a0_3, .int .i64 a0_4, .slice A0_5 l0_5.length c0_5, .int .i64 a0_6, .int .i64 a0_7] 28 (0, 0)) y84_ hb)
                have n1_ := Aside0.mk (below_step y82_ hb)
                clear BK257
                clear HB
                have BK257 := n0_
                have HB := n1_
                clear n0_ n1_
                (try clear hb)
                (try clear hb2)
                (try clear hk)
                (try clear hi)
                refine hK.out _ _ ⟨(blk_cell BK257.out 0).trans rfl, (blk_cell BK257.out 1).trans rfl, (blk_cell BK257.out 2).trans rfl, (blk_cell BK257.out 3).trans rfl, (blk_cell BK257.out 4).trans rfl, (blk_cell BK257.out 5).trans rfl, (blk_cell BK257.out 6).trans rfl, (blk_cell BK257.out 7).trans rfl⟩ (fun hHeld => ?_)
                clear hK K
                refine norm_ (a' := ?_) ?_ ?_
                rotate_left
                ·
                 show Act.put _ (some 44) _ = _
                 simp only [Act.put, P1_1, P1_2, P1_3, i64_w, i32_w]
                 rfl
                refine pure_ (i := 39) (N := some 45) (v := ?_) (a' := ?_) M1_40 rfl rfl (any_of HT_.out (by kernel_rfl)) (fun _ _ _ h => h) (Or.inl ⟨by rfl, ?_⟩) ?_ ?_
                rotate_left; · intro w'; go_simp; with_reducible rfl
                rotate_left; · simp only [Act.put, P1_1, P1_2, P1_3, i64_w, i32_w]; rfl
                refine pure_ (i := 40) (N := some 2) (v := ?_) (a' := ?_) M1_41 rfl rfl (any_of HT_.out (by kernel_rfl)) (fun _ _ _ h => h) (Or.inl ⟨by rfl, ?_⟩) ?_ ?_
                rotate_left; · intro w'; go_simp; with_reducible rfl
                rotate_left; · simp only [Act.put, P1_1, P1_2, P1_3, i64_w, i32_w]; rfl
                refine done_ (done_of HT_.out (by kernel_rfl)) ?_
                try go_wp2
                go_ret
                exact ⟨by first | rfl | (simp [errW_none, errW_some] <;> rfl) | (simp [*, errW_none, errW_some] <;> rfl), by repeat (first | (with_reducible first | exact HB.out | apply below_alloc | apply pw_below_drewN | apply below_drew1 | refine below_set ?_ GE257.out) | exact HB.out)⟩
               ·
                rw [if_neg c25] at H
                exact absurd H (by simp)
              ·
               rw [if_neg c23] at H
               exact absurd H (by simp)
             ·
              rw [if_neg c22] at H
              exact absurd H (by simp)
            ·
             rw [if_neg c20] at H
             exact absurd H (by simp)
           ·
            rw [if_neg c19] at H
            exact absurd H (by simp)
          ·
           rw [if_neg c17] at H
           exact absurd H (by simp)
         ·
          rw [if_neg c16] at H
          exact absurd H (by simp)
        ·
         rw [if_neg c14] at H
         exact absurd H (by simp)
       ·
        rw [if_neg c13] at H
        exact absurd H (by simp)
      ·
       rw [if_neg c11] at H
       exact absurd H (by simp)
     ·
      rw [if_neg c10] at H
      exact absurd H (by simp)
    ·
     rw [if_neg c8] at H
     exact absurd H (by simp)
   ·
    rw [if_neg c7] at H
    exact absurd H (by simp)
  ·
   rw [if_neg c5] at H
   exact absurd H (by simp)
 ·
  replace c3 := Bool.eq_false_iff.mpr c3
  subst c3
  have H1 : (some (⟨#[]⟩ : ByteArray)) = some r := by rw [if_neg (show ¬ (false = true) by decide)] at H; exact H
  clear H
  have H := H1
  clear H1
  obtain rfl := Option.some.inj H
  go_enter Tryd.func36, Tryd.ntmps36
  go_wp2_with (first | ((with_reducible refine gate_dst (N := 1) rfl ?_); refine box_event ?hg (N := 1) ?hd (cs := #[.int .i64 a0_0, .int .i64 a0_1, .slice A0_2 l0_2.length c0_2, .int .i64 a0_3, .int .i64 a0_4, .slice A0_5 l0_5.length c0_5, .int .i64 a0_6, .int .i64 a0_7]) (t := 28) ?hr ?_; (case hd => rfl); (case hg => rfl); (case hr => first | (go_simp; done) | (go_simp; rfl)); intro gb257 hg w38 hbox hb; have n0_ := Aside0.mk (below_step y85_ hb); have n1_ := Aside0.mk (hbox); have n2_ := Aside0.mk ((by rw [hg]; exact (below_size y85_) : w.heap.size ≤ gb257)); have n3_ := Aside0.mk ((by rw [hg]; exact (below_size y85_) : w.heap.size ≤ gb257)); clear HB; have HB := n0_; have BK257 := n1_; have GW257 := n2_; have GE257 := n3_; clear n0_ n1_ n2_ n3_; clear hb hbox hg; have hcz39_0 : w38.cell? ⟨gb257, 0, none⟩ = some (.int .i64 a0_0) := (blk_cell BK257.out 0).trans rfl; have hcz39_1 : w38.cell? ⟨gb257, 1, none⟩ = some (.int .i64 a0_1) := (blk_cell BK257.out 1).trans rfl; have hcz39_2 : w38.cell? ⟨gb257, 2, none⟩ = some (.slice A0_2 l0_2.length c0_2) := (blk_cell BK257.out 2).trans rfl; have hcz39_3 : w38.cell? ⟨gb257, 3, none⟩ = some (.int .i64 a0_3) := (blk_cell BK257.out 3).trans rfl; have hcz39_4 : w38.cell? ⟨gb257, 4, none⟩ = some (.int .i64 a0_4) := (blk_cell BK257.out 4).trans rfl; have hcz39_5 : w38.cell? ⟨gb257, 5, none⟩ = some (.slice A0_5 l0_5.length c0_5) := (blk_cell BK257.out 5).trans rfl; have hcz39_6 : w38.cell? ⟨gb257, 6, none⟩ = some (.int .i64 a0_6) := (blk_cell BK257.out 6).trans rfl; have hcz39_7 : w38.cell? ⟨gb257, 7, none⟩ = some (.int .i64 a0_7) := (blk_cell BK257.out 7).trans rfl; have hfz39_0 := blk_frozen BK257.out 0; have hfz39_1 := blk_frozen BK257.out 1; have hfz39_2 := blk_frozen BK257.out 2; have hfz39_3 := blk_frozen BK257.out 3; have hfz39_4 := blk_frozen BK257.out 4; have hfz39_5 := blk_frozen BK257.out 5; have hfz39_6 := blk_frozen BK257.out 6; have hfz39_7 := blk_frozen BK257.out 7) | ((with_reducible refine gate_callee (f := 69) rfl ?_); refine goesL_ (some 4) rfl rfl Tryd.func69 (by kernel_rfl) rfl #[.agg #[.int .i64 a0_0, .int .i64 a0_1, .slice A0_2 l0_2.length c0_2, .int .i64 a0_3, .int .i64 a0_4, .slice A0_5 l0_5.length c0_5, .int .i64 a0_6, .int .i64 a0_7]] rfl y83_ ?_; (with_reducible refine (spec_IsReport.calls k a0_0 a0_1 _ _ l0_2 a0_3 a0_4 _ _ l0_5 a0_6 a0_7 false _ ?side1 ?side2 ?side3 ?side4 A2.out).mono ?_); (case side1 => repeat (first | exact (Kd.C_below HR0_2.out HB.out) | (with_reducible refine Kd.C_alloc ?_ _) | (with_reducible refine Kd.C_drewN ?_ _) | (with_reducible refine Kd.C_drew ?_))); (case side2 => exact HC0_2.out); (case side3 => repeat (first | exact (Kd.C_below HR0_5.out HB.out) | (with_reducible refine Kd.C_alloc ?_ _) | (with_reducible refine Kd.C_drewN ?_ _) | (with_reducible refine Kd.C_drew ?_))); (case side4 => exact HC0_5.out); rintro e w40 ⟨rfl, hb⟩; refine ⟨_, rfl, ?_⟩; have n0_ := Aside0.mk (blk_below (g := gb257) (o := .cells #[.int .i64 a0_0, .int .i64 a0_1, .slice A0_2 l0_2.length c0_2, .int .i64 a0_3, .int .i64 a0_4, .slice A0_5 l0_5.length c0_5, .int .i64 a0_6, .int .i64 a0_7] 28 (0, 0)) y84_ hb); have n1_ := Aside0.mk (below_step y82_ hb); clear BK257; clear HB; have BK257 := n0_; have HB := n1_; clear n0_ n1_; (try clear hb); (try clear hb2); (try clear hk); (try clear hi)))
  go_ret
  exact ⟨by first | rfl | (simp [errW_none, errW_some] <;> rfl) | (simp [*, errW_none, errW_some] <;> rfl), by repeat (first | (with_reducible first | exact HB.out | apply below_alloc | apply pw_below_drewN | apply below_drew1 | refine below_set ?_ GE257.out) | exact HB.out)⟩

/-! ### spec_l27Two: function 72 -/
def spec_l27Two.f (k : Nat) (a0 : ByteArray) : Option (Int × Int × Bool) := (spec_l27Split.f k a0 45).bind fun t267 => (if (t267.length : Int) = 2 then (if 0 < (t267.length : Int) then ((spec_ParseInt.f k (rdOf ByteArray.empty t267 0)).bind fun bt271 => (if 1 < (t267.length : Int) then ((spec_ParseInt.f k (rdOf ByteArray.empty t267 1)).bind fun bt274 => (if bt271.2 = true then (some (bt271.1, bt274.1, bt274.2)) else (some (bt271.1, bt274.1, false)))) else (none))) else (none)) else (some (0, 0, false)))
theorem spec_l27Two.mono : ∀ a0 k, LeO (spec_l27Two.f k a0) (spec_l27Two.f (k + 1) a0) := by
  intro a0 k
  unfold spec_l27Two.f
  repeat' first
      | (with_reducible exact spec_ParseInt.mono _ _)
      | (with_reducible exact spec_l27Split.mono _ _ _)
      | (with_reducible exact LeO.refl _)
      | (with_reducible exact LeO.none _)
      | (with_reducible refine LeO.ite ?_ ?_)
      | (with_reducible refine LeO.bind ?_ (fun _ => ?_))
      | exact spec_ParseInt.mono _ _
      | exact spec_l27Split.mono _ _ _
      | exact LeO.none _
      | refine LeO.ite ?_ ?_
      | refine LeO.bind ?_ (fun _ => ?_)
theorem y86_ {P : Prop} (h : P := by repeat (first | (with_reducible first | exact HB.out | apply below_alloc | apply pw_below_drewN | apply below_drew1) | exact HB.out)) : P := h
theorem y87_ {P : Prop} (h : P := by (try simp only [List.map_toArray, List.map_cons, List.map_nil]); first | done | rfl | (simp only [List.length_drop, List.length_take]; rfl)) : P := h
theorem y88_ {P : Prop} (h : P := by (with_reducible repeat (first | apply Kd.R_alloc | apply Kd.R_drewN | apply Kd.R_drew)); exact HO269.out) : P := h
theorem y89_ {P : Prop} (h : P := by repeat (first | (with_reducible first | exact HB.out | apply below_alloc | apply pw_below_drewN | apply below_drew1) | exact HB.out)) : P := h
set_option maxHeartbeats 8000000 in
set_option maxRecDepth 100000 in
theorem spec_l27Two.calls (k : Nat) (a0 : ByteArray) (r1 : Int) (r2 : Int) (r3 : Bool) (w : World) (h : spec_l27Two.f k a0 = some (r1, r2, r3)) :
    Calls Tryd.prog 72 #[.string a0] w fun e w' => e = .returned (.tuple #[.int .i64 r1, .int .i64 r2, .bool r3]) ∧ Below w.heap.size w w' := by
  have HB := Aside0.mk (Below.refl w.heap.size w)
  have H : ((spec_l27Split.f k a0 45).bind fun t267 => (if (t267.length : Int) = 2 then (if 0 < (t267.length : Int) then ((spec_ParseInt.f k (rdOf ByteArray.empty t267 0)).bind fun bt271 => (if 1 < (t267.length : Int) then ((spec_ParseInt.f k (rdOf ByteArray.empty t267 1)).bind fun bt274 => (if bt271.2 = true then (some (bt271.1, bt274.1, bt274.2)) else (some (bt271.1, bt274.1, false)))) else (none))) else (none)) else (some (0, 0, false)))) = some (r1, r2, r3) := h
  clear h
  replace H := Option.bind_eq_some_iff.mp H
  obtain ⟨t267, A20, H⟩ := H
  replace H : (if (t267.length : Int) = 2 then (if 0 < (t267.length : Int) then ((spec_ParseInt.f k (rdOf ByteArray.empty t267 0)).bind fun bt271 => (if 1 < (t267.length : Int) then ((spec_ParseInt.f k (rdOf ByteArray.empty t267 1)).bind fun bt274 => (if bt271.2 = true then (some (bt271.1, bt274.1, bt274.2)) else (some (bt271.1, bt274.1, false)))) else (none))) else (none)) else (some (0, 0, false))) = some (r1, r2, r3) := H
  have A2 := Aside0.mk A20
  clear A20
  by_cases c3 : (t267.length : Int) = 2
  · rw [if_pos c3] at H
    have c3b0 : ((t267.length : Int) == 2) = true := beq_iff_eq.mpr c3
    have c3b1 : ((t267.length : Int) != 2) = false := bne_eq_false_iff_eq.mpr c3
    clear c3
    by_cases c4 : 0 < (t267.length : Int)
    · rw [if_pos c4] at H
      have c4b0 : decide (0 < (t267.length : Int)) = true := decide_eq_true c4
      have c4b1 : decide (0 < t267.length) = true := decide_eq_true (by omega)
      clear c4
      replace H := Option.bind_eq_some_iff.mp H
      obtain ⟨⟨t271, t272⟩, A50, H⟩ := H
      replace H : (if 1 < (t267.length : Int) then ((spec_ParseInt.f k (rdOf ByteArray.empty t267 1)).bind fun bt274 => (if t272 = true then (some (t271, bt274.1, bt274.2)) else (some (t271, bt274.1, false)))) else (none)) = some (r1, r2, r3) := H
      have A5 := Aside0.mk A50
      clear A50
      by_cases c6 : 1 < (t267.length : Int)
      · rw [if_pos c6] at H
        have c6b0 : decide (1 < (t267.length : Int)) = true := decide_eq_true c6
        have c6b1 : decide (1 < t267.length) = true := decide_eq_true (by omega)
        clear c6
        replace H := Option.bind_eq_some_iff.mp H
        obtain ⟨⟨t274, t275⟩, A70, H⟩ := H
        replace H : (if t272 = true then (some (t271, t274, t275)) else (some (t271, t274, false))) = some (r1, r2, r3) := H
        have A7 := Aside0.mk A70
        clear A70
        by_cases c8 : t272 = true
        · subst c8
          have H1 : (some (t271, t274, t275)) = some (r1, r2, r3) := by rw [if_pos rfl] at H; exact H
          clear H
          have H := H1
          clear H1
          simp only [Option.some.injEq, Prod.mk.injEq] at H
          obtain ⟨rfl, rfl, rfl⟩ := H
          go_enter Tryd.func72, Tryd.ntmps72
          go_wp2_with (first | ((with_reducible refine gate_callee (f := 66) rfl ?_); refine goesL_ (some 11) rfl rfl Tryd.func66 (by kernel_rfl) rfl #[.string a0, .int .u8 45] rfl y87_ ?_; (with_reducible refine (spec_l27Split.calls k a0 45 t267 _ A2.out).mono ?_); rintro e w9 ⟨v268, rfl, ho0, hb⟩; refine ⟨_, rfl, ?_⟩; have n0_ := Aside0.mk (Kd.R_lower ho0 (below_size y86_)); have n1_ := Aside0.mk (below_step y86_ hb); clear HB; have HO269 := n0_; have HB := n1_; clear n0_ n1_; (try clear hb); (try clear hb2); (try clear hk); (try clear hi); (try clear ho0); obtain ⟨Ao10, co10, eo10⟩ := Kd.R_slice HO269.out; subst eo10; have p270 : 0 ≤ (0 : Int) := (by omega); have q270 : 0 < (t267.length : Int) := of_decide_eq_true (by first | (with_reducible assumption) | assumption); obtain ⟨ad270, e270, hx270_0⟩ := Kd.at_string (Kd.R_reads' HO269.out).2.2 0 p270 q270; cases e270; have qi270 : (0 < t267.length) = True := eq_true (by omega); (try rw [show ((0 : Int)).toNat = 0 from rfl] at hx270_0); (try rw [Addr.add_zero'] at hx270_0); replace p270 := eq_true p270; replace q270 := eq_true q270) | ((with_reducible refine gate_callee (f := 67) rfl ?_); refine goesL_ (some 19) rfl rfl Tryd.func67 (by kernel_rfl) rfl #[.string (rdOf ByteArray.empty t267 0)] rfl y87_ ?_; (with_reducible refine (spec_ParseInt.calls k (rdOf ByteArray.empty t267 0) t271 true _ A5.out).mono ?_); rintro e w11 ⟨rfl, hb⟩; refine ⟨_, rfl, ?_⟩; have n0_ := Aside0.mk (Kd.R_below y88_ hb); have n1_ := Aside0.mk (below_step y86_ hb); clear HO269; clear HB; have HO269 := n0_; have HB := n1_; clear n0_ n1_; (try clear hb); (try clear hb2); (try clear hk); (try clear hi); have p273 : 0 ≤ (1 : Int) := (by omega); have q273 : 1 < (t267.length : Int) := of_decide_eq_true (by first | (with_reducible assumption) | assumption); obtain ⟨ad273, e273, hx273_0⟩ := Kd.at_string (Kd.R_reads' HO269.out).2.2 1 p273 q273; obtain rfl : ad270 = ad273 := (by injection e273); (try simp only [show (1 : Int).toNat = 1 from rfl, Nat.reduceMul, Nat.reduceEqDiff, Go.Addr.add, ↓reduceIte] at hx273_0); have qi273 : (1 < t267.length) = True := eq_true (by omega); (try rw [show ((1 : Int)).toNat = 1 from rfl] at hx273_0); replace p273 := eq_true p273; replace q273 := eq_true q273) | ((with_reducible refine gate_callee (f := 67) rfl ?_); refine goesL_ (some 26) rfl rfl Tryd.func67 (by kernel_rfl) rfl #[.string (rdOf ByteArray.empty t267 1)] rfl y87_ ?_; (with_reducible refine (spec_ParseInt.calls k (rdOf ByteArray.empty t267 1) t274 t275 _ A7.out).mono ?_); rintro e w12 ⟨rfl, hb⟩; refine ⟨_, rfl, ?_⟩; have n0_ := Aside0.mk (Kd.R_below y88_ hb); have n1_ := Aside0.mk (below_step y86_ hb); clear HO269; clear HB; have HO269 := n0_; have HB := n1_; clear n0_ n1_; (try clear hb); (try clear hb2); (try clear hk); (try clear hi)))
          go_ret3
          exact ⟨by first | rfl | (simp [errW_none, errW_some] <;> rfl) | (simp [*, errW_none, errW_some] <;> rfl), y89_⟩
        · replace c8 := Bool.eq_false_iff.mpr c8
          subst c8
          have H1 : (some (t271, t274, false)) = some (r1, r2, r3) := by rw [if_neg (show ¬ (false = true) by decide)] at H; exact H
          clear H
          have H := H1
          clear H1
          simp only [Option.some.injEq, Prod.mk.injEq] at H
          obtain ⟨rfl, rfl, rfl⟩ := H
          go_enter Tryd.func72, Tryd.ntmps72
          go_wp2_with (first | ((with_reducible refine gate_callee (f := 66) rfl ?_); refine goesL_ (some 11) rfl rfl Tryd.func66 (by kernel_rfl) rfl #[.string a0, .int .u8 45] rfl y87_ ?_; (with_reducible refine (spec_l27Split.calls k a0 45 t267 _ A2.out).mono ?_); rintro e w13 ⟨v268, rfl, ho0, hb⟩; refine ⟨_, rfl, ?_⟩; have n0_ := Aside0.mk (Kd.R_lower ho0 (below_size y86_)); have n1_ := Aside0.mk (below_step y86_ hb); clear HB; have HO269 := n0_; have HB := n1_; clear n0_ n1_; (try clear hb); (try clear hb2); (try clear hk); (try clear hi); (try clear ho0); obtain ⟨Ao14, co14, eo14⟩ := Kd.R_slice HO269.out; subst eo14; have p270 : 0 ≤ (0 : Int) := (by omega); have q270 : 0 < (t267.length : Int) := of_decide_eq_true (by first | (with_reducible assumption) | assumption); obtain ⟨ad270, e270, hx270_0⟩ := Kd.at_string (Kd.R_reads' HO269.out).2.2 0 p270 q270; cases e270; have qi270 : (0 < t267.length) = True := eq_true (by omega); (try rw [show ((0 : Int)).toNat = 0 from rfl] at hx270_0); (try rw [Addr.add_zero'] at hx270_0); replace p270 := eq_true p270; replace q270 := eq_true q270) | ((with_reducible refine gate_callee (f := 67) rfl ?_); refine goesL_ (some 19) rfl rfl Tryd.func67 (by kernel_rfl) rfl #[.string (rdOf ByteArray.empty t267 0)] rfl y87_ ?_; (with_reducible refine (spec_ParseInt.calls k (rdOf ByteArray.empty t267 0) t271 false _ A5.out).mono ?_); rintro e w15 ⟨rfl, hb⟩; refine ⟨_, rfl, ?_⟩; have n0_ := Aside0.mk (Kd.R_below y88_ hb); have n1_ := Aside0.mk (below_step y86_ hb); clear HO269; clear HB; have HO269 := n0_; have HB := n1_; clear n0_ n1_; (try clear hb); (try clear hb2); (try clear hk); (try clear hi); have p273 : 0 ≤ (1 : Int) := (by omega); have q273 : 1 < (t267.length : Int) := of_decide_eq_true (by first | (with_reducible assumption) | assumption); obtain ⟨ad273, e273, hx273_0⟩ := Kd.at_string (Kd.R_reads' HO269.out).2.2 1 p273 q273; obtain rfl : ad270 = ad273 := (by injection e273); (try simp only [show (1 : Int).toNat = 1 from rfl, Nat.reduceMul, Nat.reduceEqDiff, Go.Addr.add, ↓reduceIte] at hx273_0); have qi273 : (1 < t267.length) = True := eq_true (by omega); (try rw [show ((1 : Int)).toNat = 1 from rfl] at hx273_0); replace p273 := eq_true p273; replace q273 := eq_true q273) | ((with_reducible refine gate_callee (f := 67) rfl ?_); refine goesL_ (some 26) rfl rfl Tryd.func67 (by kernel_rfl) rfl #[.string (rdOf ByteArray.empty t267 1)] rfl y87_ ?_; (with_reducible refine (spec_ParseInt.calls k (rdOf ByteArray.empty t267 1) t274 t275 _ A7.out).mono ?_); rintro e w16 ⟨rfl, hb⟩; refine ⟨_, rfl, ?_⟩; have n0_ := Aside0.mk (Kd.R_below y88_ hb); have n1_ := Aside0.mk (below_step y86_ hb); clear HO269; clear HB; have HO269 := n0_; have HB := n1_; clear n0_ n1_; (try clear hb); (try clear hb2); (try clear hk); (try clear hi)))
          go_ret3
          exact ⟨by first | rfl | (simp [errW_none, errW_some] <;> rfl) | (simp [*, errW_none, errW_some] <;> rfl), y89_⟩
      · rw [if_neg c6] at H
        exact absurd H (by simp)
    · rw [if_neg c4] at H
      exact absurd H (by simp)
  · rw [if_neg c3] at H
    have c3b0 : ((t267.length : Int) == 2) = false := beq_eq_false_iff_ne.mpr c3
    have c3b1 : ((t267.length : Int) != 2) = true := bne_iff_ne.mpr c3
    simp only [Option.some.injEq, Prod.mk.injEq] at H
    obtain ⟨rfl, rfl, rfl⟩ := H
    go_enter Tryd.func72, Tryd.ntmps72
    go_wp2_with (first | ((with_reducible refine gate_callee (f := 66) rfl ?_); refine goesL_ (some 11) rfl rfl Tryd.func66 (by kernel_rfl) rfl #[.string a0, .int .u8 45] rfl y87_ ?_; (with_reducible refine (spec_l27Split.calls k a0 45 t267 _ A2.out).mono ?_); rintro e w17 ⟨v268, rfl, ho0, hb⟩; refine ⟨_, rfl, ?_⟩; have n0_ := Aside0.mk (Kd.R_lower ho0 (below_size y86_)); have n1_ := Aside0.mk (below_step y86_ hb); clear HB; have HO269 := n0_; have HB := n1_; clear n0_ n1_; (try clear hb); (try clear hb2); (try clear hk); (try clear hi); (try clear ho0); obtain ⟨Ao18, co18, eo18⟩ := Kd.R_slice HO269.out; subst eo18))
    go_ret3
    exact ⟨by first | rfl | (simp [errW_none, errW_some] <;> rfl) | (simp [*, errW_none, errW_some] <;> rfl), y89_⟩

/-! ### spec_KindOf: function 73 -/
def spec_KindOf.l0 : Nat → ByteArray → Int → Option (Int)
  | 0, _, _ => none
  | k + 1, x0, x3 => if x3 ≤ 8 then ((spec_KindText.f x3).bind fun t276 => (if t276.toList = x0.toList then (some x3) else (spec_KindOf.l0 k x0 (wrap64 (x3 + 1))))) else (some 0)
def spec_KindOf.f (k : Nat) (a0 : ByteArray) : Option (Int) := spec_KindOf.l0 k a0 1
theorem spec_KindOf.mono_l : ∀ k, (∀ y0 y1, LeO (spec_KindOf.l0 k y0 y1) (spec_KindOf.l0 (k + 1) y0 y1))
  | 0 => fun _ _ r h => by simp [spec_KindOf.l0] at h
  | k + 1 => by
    have ih0 := spec_KindOf.mono_l k
    · intro y0 y1
      unfold spec_KindOf.l0
      repeat' first
      | (with_reducible exact ih0 _ _)
      | (with_reducible exact LeO.refl _)
      | (with_reducible exact LeO.none _)
      | (with_reducible refine LeO.ite ?_ ?_)
      | (with_reducible refine LeO.bind ?_ (fun _ => ?_))
      | exact ih0 _ _
      | exact LeO.none _
      | refine LeO.ite ?_ ?_
      | refine LeO.bind ?_ (fun _ => ?_)
theorem spec_KindOf.mono : ∀ a0 k, LeO (spec_KindOf.f k a0) (spec_KindOf.f (k + 1) a0) := by
  intro a0 k
  have ih0 := spec_KindOf.mono_l k
  unfold spec_KindOf.f
  repeat' first
      | (with_reducible exact ih0 _ _)
      | (with_reducible exact LeO.refl _)
      | (with_reducible exact LeO.none _)
      | (with_reducible refine LeO.ite ?_ ?_)
      | (with_reducible refine LeO.bind ?_ (fun _ => ?_))
      | exact ih0 _ _
      | exact LeO.none _
      | refine LeO.ite ?_ ?_
      | refine LeO.bind ?_ (fun _ => ?_)
theorem y90_ {P : Prop} (h : P := by repeat (first | (with_reducible first | exact HB.out | apply below_alloc | apply pw_below_drewN | apply below_drew1) | exact HB.out)) : P := h
set_option maxHeartbeats 8000000 in
set_option maxRecDepth 100000 in
theorem spec_KindOf.calls (k : Nat) (a0 : ByteArray) (r : Int) (w : World) (h : spec_KindOf.f k a0 = some r) :
    Calls Tryd.prog 73 #[.string a0] w fun e w' => e = .returned (.int .i64 r) ∧ Below w.heap.size w w' := by
  have HB := Aside0.mk (Below.refl w.heap.size w)
  have H : (spec_KindOf.l0 k a0 1) = some r := h
  clear h
  have H' := Aside0.mk H
  clear H
  go_enter Tryd.func73, Tryd.ntmps73
  go_wp2
  go_loopg [3] k (fun kq v3 w' => ∃ (x3_1 : Int), v3 = .int .i64 x3_1 ∧ Aside0 (spec_KindOf.l0 kq a0 x3_1 = some r) ∧ Aside0 (kq ≤ k) ∧ Aside0 (Below w.heap.size w w'))
  case atStart => exact ⟨(1), (by first | rfl | (simp; done) | (simp [*]; done)), H', ⟨Nat.le_refl _⟩, ⟨y90_⟩⟩
  case round =>
    clear H'
    obtain ⟨x3_1, rfl, HA, HK1, HB⟩ := hrel
    cases gk with
    | zero => exact absurd HA.out (by simp [spec_KindOf.l0])
    | succ k1 =>
      have H := HA.out
      clear HA
      simp only [spec_KindOf.l0] at H
      by_cases c2 : x3_1 ≤ 8
      · rw [if_pos c2] at H
        have c2b0 : decide (x3_1 ≤ 8) = true := decide_eq_true c2
        clear c2
        replace H := Option.bind_eq_some_iff.mp H
        obtain ⟨t276, A30, H⟩ := H
        replace H : (if t276.toList = a0.toList then (some x3_1) else (spec_KindOf.l0 k1 a0 (wrap64 (x3_1 + 1)))) = some r := H
        have A3 := Aside0.mk A30
        clear A30
        by_cases c4 : t276.toList = a0.toList
        · rw [if_pos c4] at H
          have c4b0 : (t276.toList == a0.toList) = true := beq_iff_eq.mpr c4
          have c4b1 : (t276.toList != a0.toList) = false := bne_eq_false_iff_eq.mpr c4
          clear c4
          obtain rfl := Option.some.inj H
          go_wp2_with (first | ((with_reducible refine gate_callee (f := 57) rfl ?_); refine goesL_ (some 9) rfl rfl Tryd.func57 (by kernel_rfl) rfl #[.int .i64 x3_1] rfl (by (try simp only [List.map_toArray, List.map_cons, List.map_nil]); first | done | rfl | (simp only [List.length_drop, List.length_take]; rfl)) ?_; (with_reducible refine (spec_KindText.calls x3_1 t276 _ A3.out).mono ?_); rintro e w5 ⟨rfl, hb⟩; refine ⟨_, rfl, ?_⟩; have n0_ := Aside0.mk (below_step (y90_) hb); clear HB; have HB := n0_; clear n0_; (try clear hb); (try clear hb2); (try clear hk); (try clear hi)))
          go_ret
          exact ⟨by first | rfl | (simp [errW_none, errW_some] <;> rfl) | (simp [*, errW_none, errW_some] <;> rfl), y90_⟩
        · rw [if_neg c4] at H
          have c4b0 : (t276.toList == a0.toList) = false := beq_eq_false_iff_ne.mpr c4
          have c4b1 : (t276.toList != a0.toList) = true := bne_iff_ne.mpr c4
          have H' := Aside0.mk H
          clear H
          go_wp2_with (first | ((with_reducible refine gate_callee (f := 57) rfl ?_); refine goesL_ (some 9) rfl rfl Tryd.func57 (by kernel_rfl) rfl #[.int .i64 x3_1] rfl (by (try simp only [List.map_toArray, List.map_cons, List.map_nil]); first | done | rfl | (simp only [List.length_drop, List.length_take]; rfl)) ?_; (with_reducible refine (spec_KindText.calls x3_1 t276 _ A3.out).mono ?_); rintro e w6 ⟨rfl, hb⟩; refine ⟨_, rfl, ?_⟩; have n0_ := Aside0.mk (below_step (y90_) hb); clear HB; have HB := n0_; clear n0_; (try clear hb); (try clear hb2); (try clear hk); (try clear hi)))
          go_roundg k1
          case measure => have := HK1.out; omega
          case rel => exact ⟨(wrap64 (x3_1 + 1)), (by first | rfl | (simp; done) | (simp [*]; done)), H', ⟨by have := HK1.out; omega⟩, ⟨y90_⟩⟩
      · rw [if_neg c2] at H
        have c2b0 : decide (x3_1 ≤ 8) = false := decide_eq_false c2
        clear c2
        obtain rfl := Option.some.inj H
        go_wp2
        go_ret
        exact ⟨by first | rfl | (simp [errW_none, errW_some] <;> rfl) | (simp [*, errW_none, errW_some] <;> rfl), y90_⟩

end Go.Proofs.YtihnanfekchlhaaDoor.PFnExactParseReport
