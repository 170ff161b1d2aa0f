-- Written for this claim by a program (a printer turned to this claim); Lean checks it.
import Derived.Test.YtihnanfekchlhaaDoorPFnExactReportTextx0
import Derived.Test.YtihnanfekchlhaaDoorPFnExactReportTextx2
import Derived.Test.YtihnanfekchlhaaDoorPFnExactReportTextx3
namespace Go.Proofs.YtihnanfekchlhaaDoor.PFnExactReportText
open Go.RowKit Go.Proofs.YtihnanfekchlhaaDoorW.PrintWords Go.Proofs.YtihnanfekchlhaaDoorW.PrintLast Go.Proofs.YtihnanfekchlhaaDoorW.PrintMore
attribute [local go_sem] max2_int min2_int max_two min_two max_three min_three max_four min_four   -- for this text's walks alone
set_option linter.unusedVariables false
set_option linter.unusedSimpArgs false

/-! ### spec_ReportText: function 36 -/
def spec_ReportText.f (k : Nat) (a0_0 : Int) (a0_1 : Int) (l0_2 : List Int) (a0_3 : Int) (a0_4 : Int) (l0_5 : List Int) (a0_6 : Int) (a0_7 : Int) : Option (ByteArray) := (spec_IsReport.f k a0_0 a0_1 l0_2 a0_3 a0_4 l0_5 a0_6 a0_7).bind fun t169 => (if t169 = true then ((spec_FormatInt.f k a0_0).bind fun t170 => (if t170.size + 1 ≤ 9223372036854775807 then ((spec_KindText.f a0_1).bind fun t171 => (if (t170 ++ (⟨#[32]⟩ : ByteArray)).size + t171.size ≤ 9223372036854775807 then (if ((t170 ++ (⟨#[32]⟩ : ByteArray)) ++ t171).size + 1 ≤ 9223372036854775807 then ((spec_ListText.f k l0_2).bind fun t172 => (if (((t170 ++ (⟨#[32]⟩ : ByteArray)) ++ t171) ++ (⟨#[32]⟩ : ByteArray)).size + t172.size ≤ 9223372036854775807 then (if ((((t170 ++ (⟨#[32]⟩ : ByteArray)) ++ t171) ++ (⟨#[32]⟩ : ByteArray)) ++ t172).size + 1 ≤ 9223372036854775807 then ((spec_FormatInt.f k a0_3).bind fun t173 => (if (((((t170 ++ (⟨#[32]⟩ : ByteArray)) ++ t171) ++ (⟨#[32]⟩ : ByteArray)) ++ t172) ++ (⟨#[32]⟩ : ByteArray)).size + t173.size ≤ 9223372036854775807 then (if ((((((t170 ++ (⟨#[32]⟩ : ByteArray)) ++ t171) ++ (⟨#[32]⟩ : ByteArray)) ++ t172) ++ (⟨#[32]⟩ : ByteArray)) ++ t173).size + 1 ≤ 9223372036854775807 then ((spec_FormatInt.f k a0_4).bind fun t174 => (if (((((((t170 ++ (⟨#[32]⟩ : ByteArray)) ++ t171) ++ (⟨#[32]⟩ : ByteArray)) ++ t172) ++ (⟨#[32]⟩ : ByteArray)) ++ t173) ++ (⟨#[45]⟩ : ByteArray)).size + t174.size ≤ 9223372036854775807 then (if ((((((((t170 ++ (⟨#[32]⟩ : ByteArray)) ++ t171) ++ (⟨#[32]⟩ : ByteArray)) ++ t172) ++ (⟨#[32]⟩ : ByteArray)) ++ t173) ++ (⟨#[45]⟩ : ByteArray)) ++ t174).size + 1 ≤ 9223372036854775807 then ((spec_ListText.f k l0_5).bind fun t175 => (if (((((((((t170 ++ (⟨#[32]⟩ : ByteArray)) ++ t171) ++ (⟨#[32]⟩ : ByteArray)) ++ t172) ++ (⟨#[32]⟩ : ByteArray)) ++ t173) ++ (⟨#[45]⟩ : ByteArray)) ++ t174) ++ (⟨#[32]⟩ : ByteArray)).size + t175.size ≤ 9223372036854775807 then (if ((((((((((t170 ++ (⟨#[32]⟩ : ByteArray)) ++ t171) ++ (⟨#[32]⟩ : ByteArray)) ++ t172) ++ (⟨#[32]⟩ : ByteArray)) ++ t173) ++ (⟨#[45]⟩ : ByteArray)) ++ t174) ++ (⟨#[32]⟩ : ByteArray)) ++ t175).size + 1 ≤ 9223372036854775807 then ((spec_FormatInt.f k a0_6).bind fun t176 => (if (((((((((((t170 ++ (⟨#[32]⟩ : ByteArray)) ++ t171) ++ (⟨#[32]⟩ : ByteArray)) ++ t172) ++ (⟨#[32]⟩ : ByteArray)) ++ t173) ++ (⟨#[45]⟩ : ByteArray)) ++ t174) ++ (⟨#[32]⟩ : ByteArray)) ++ t175) ++ (⟨#[32]⟩ : ByteArray)).size + t176.size ≤ 9223372036854775807 then (if ((((((((((((t170 ++ (⟨#[32]⟩ : ByteArray)) ++ t171) ++ (⟨#[32]⟩ : ByteArray)) ++ t172) ++ (⟨#[32]⟩ : ByteArray)) ++ t173) ++ (⟨#[45]⟩ : ByteArray)) ++ t174) ++ (⟨#[32]⟩ : ByteArray)) ++ t175) ++ (⟨#[32]⟩ : ByteArray)) ++ t176).size + 1 ≤ 9223372036854775807 then ((spec_FormatInt.f k a0_7).bind fun t177 => (if (((((((((((((t170 ++ (⟨#[32]⟩ : ByteArray)) ++ t171) ++ (⟨#[32]⟩ : ByteArray)) ++ t172) ++ (⟨#[32]⟩ : ByteArray)) ++ t173) ++ (⟨#[45]⟩ : ByteArray)) ++ t174) ++ (⟨#[32]⟩ : ByteArray)) ++ t175) ++ (⟨#[32]⟩ : ByteArray)) ++ t176) ++ (⟨#[45]⟩ : ByteArray)).size + t177.size ≤ 9223372036854775807 then (some ((((((((((((((t170 ++ (⟨#[32]⟩ : ByteArray)) ++ t171) ++ (⟨#[32]⟩ : ByteArray)) ++ t172) ++ (⟨#[32]⟩ : ByteArray)) ++ t173) ++ (⟨#[45]⟩ : ByteArray)) ++ t174) ++ (⟨#[32]⟩ : ByteArray)) ++ t175) ++ (⟨#[32]⟩ : ByteArray)) ++ t176) ++ (⟨#[45]⟩ : ByteArray)) ++ t177)) else (none))) else (none)) else (none))) else (none)) else (none))) else (none)) else (none))) else (none)) else (none))) else (none)) else (none))) else (none)) else (none))) else (none))) else (some (⟨#[]⟩ : ByteArray)))
theorem spec_ReportText.mono : ∀ a0 a1 a2 a3 a4 a5 a6 a7 k, LeO (spec_ReportText.f k a0 a1 a2 a3 a4 a5 a6 a7) (spec_ReportText.f (k + 1) a0 a1 a2 a3 a4 a5 a6 a7) := by
 intro a0 a1 a2 a3 a4 a5 a6 a7 k
 unfold spec_ReportText.f
 repeat' first
   | (with_reducible exact spec_FormatInt.mono _ _)
   | (with_reducible exact spec_IsReport.mono _ _ _ _ _ _ _ _ _)
   | (with_reducible exact spec_ListText.mono _ _)
   | (with_reducible exact LeO.refl _)
   | (with_reducible exact LeO.none _)
   | (with_reducible refine LeO.ite ?_ ?_)
   | (with_reducible refine LeO.bind ?_ (fun _ => ?_))
   | exact spec_FormatInt.mono _ _
   | exact spec_IsReport.mono _ _ _ _ _ _ _ _ _
   | exact spec_ListText.mono _ _
   | exact LeO.none _
   | refine LeO.ite ?_ ?_
   | refine LeO.bind ?_ (fun _ => ?_)
def spec_ReportText.T3 : Bool × List (List Nat × List Nat) := (true, [([], []), ([0], [0]), ([1], [1]), ([2], [2]), ([], []), ([4], [4]), ([5, 2], [5]), ([3, 6], [3, 6]), ([7], [7]), ([], []), ([9], [9]), ([10, 6], [10]), ([8, 11], [8, 11]), ([12], [12]), ([], []), ([14], [14]), ([15, 11], [15]), ([13, 16], [13, 16]), ([17], [17]), ([], []), ([19], [19]), ([20, 16], [20]), ([18, 21], [18, 21]), ([22], [22]), ([], []), ([24], [24]), ([25, 21], [25]), ([23, 26], [23, 26]), ([27], [27]), ([], []), ([29], [29]), ([30], [30]), ([31, 26], [31]), ([28, 32], [28, 32]), ([33], [33]), ([], []), ([35], [35]), ([36], [36]), ([37, 32], [37]), ([34, 38], [34, 38]), ([39, 38, 0, 1, 2, 3, 4, 5, 6, 7, 8, 9, 10, 11, 12, 13, 14, 15, 16, 17, 18, 19, 20, 21, 22, 23, 24, 25, 26, 27, 28, 29, 30, 31, 32, 33, 34, 35, 36, 37, 38, 39], [39])])
def spec_ReportText.B3 : List Nat := [0, 1, 3, 7, 0, 16, 55, 127, 255, 0, 512, 1655, 4095, 8191, 0, 16384, 52855, 131071, 262143, 0, 524288, 1691255, 4194303, 8388607, 0, 16777216, 54120055, 134217727, 268435455, 0, 536870912, 1610612736, 3879325303, 8589934591, 17179869183, 0, 34359738368, 103079215104, 248692461175, 549755813887, 1099511627775]
theorem spec_ReportText.tab3 : rtab .any (opsOf Tryd.f36 3) = spec_ReportText.T3 := by kernel_rfl
theorem spec_ReportText.bits3 : waitsOk spec_ReportText.T3.2 spec_ReportText.B3 = true := by kernel_rfl
abbrev M1_0 : Array Bool := #[false, false, false, false, false, false, false, false, false, false, false, false, false, false, false, false, false, false, false, false, false, false, false, false, false, false, false, false, false, false, false, false, false, false, false, false, false, false, false, false, false]
abbrev M1_1 : Array Bool := #[true, false, false, false, false, false, false, false, false, false, false, false, false, false, false, false, false, false, false, false, false, false, false, false, false, false, false, false, false, false, false, false, false, false, false, false, false, false, false, false, false]
abbrev M1_2 : Array Bool := #[true, false, false, false, true, false, false, false, false, false, false, false, false, false, false, false, false, false, false, false, false, false, false, false, false, false, false, false, false, false, false, false, false, false, false, false, false, false, false, false, false]
abbrev M1_3 : Array Bool := #[true, false, false, false, true, false, false, false, false, true, false, false, false, false, false, false, false, false, false, false, false, false, false, false, false, false, false, false, false, false, false, false, false, false, false, false, false, false, false, false, false]
abbrev M1_4 : Array Bool := #[true, false, false, false, true, false, false, false, false, true, false, false, false, false, true, false, false, false, false, false, false, false, false, false, false, false, false, false, false, false, false, false, false, false, false, false, false, false, false, false, false]
abbrev M1_5 : Array Bool := #[true, false, false, false, true, false, false, false, false, true, false, false, false, false, true, false, false, false, false, true, false, false, false, false, false, false, false, false, false, false, false, false, false, false, false, false, false, false, false, false, false]
abbrev M1_6 : Array Bool := #[true, false, false, false, true, false, false, false, false, true, false, false, false, false, true, false, false, false, false, true, false, false, false, false, true, false, false, false, false, false, false, false, false, false, false, false, false, false, false, false, false]
abbrev M1_7 : Array Bool := #[true, false, false, false, true, false, false, false, false, true, false, false, false, false, true, false, false, false, false, true, false, false, false, false, true, false, false, false, false, true, false, false, false, false, false, false, false, false, false, false, false]
abbrev M1_8 : Array Bool := #[true, false, false, false, true, false, false, false, false, true, false, false, false, false, true, false, false, false, false, true, false, false, false, false, true, false, false, false, false, true, true, false, false, false, false, false, false, false, false, false, false]
abbrev M1_9 : Array Bool := #[true, false, false, false, true, false, false, false, false, true, false, false, false, false, true, false, false, false, false, true, false, false, false, false, true, false, false, false, false, true, true, false, false, false, false, true, false, false, false, false, false]
abbrev M1_10 : Array Bool := #[true, false, false, false, true, false, false, false, false, true, false, false, false, false, true, false, false, false, false, true, false, false, false, false, true, false, false, false, false, true, true, false, false, false, false, true, true, false, false, false, false]
abbrev M1_11 : Array Bool := #[true, true, false, false, true, false, false, false, false, true, false, false, false, false, true, false, false, false, false, true, false, false, false, false, true, false, false, false, false, true, true, false, false, false, false, true, true, false, false, false, false]
abbrev M1_12 : Array Bool := #[true, true, false, false, true, true, false, false, false, true, false, false, false, false, true, false, false, false, false, true, false, false, false, false, true, false, false, false, false, true, true, false, false, false, false, true, true, false, false, false, false]
abbrev M1_13 : Array Bool := #[true, true, false, false, true, true, false, false, false, true, true, false, false, false, true, false, false, false, false, true, false, false, false, false, true, false, false, false, false, true, true, false, false, false, false, true, true, false, false, false, false]
abbrev M1_14 : Array Bool := #[true, true, false, false, true, true, false, false, false, true, true, false, false, false, true, true, false, false, false, true, false, false, false, false, true, false, false, false, false, true, true, false, false, false, false, true, true, false, false, false, false]
abbrev M1_15 : Array Bool := #[true, true, false, false, true, true, false, false, false, true, true, false, false, false, true, true, false, false, false, true, true, false, false, false, true, false, false, false, false, true, true, false, false, false, false, true, true, false, false, false, false]
abbrev M1_16 : Array Bool := #[true, true, false, false, true, true, false, false, false, true, true, false, false, false, true, true, false, false, false, true, true, false, false, false, true, true, false, false, false, true, true, false, false, false, false, true, true, false, false, false, false]
abbrev M1_17 : Array Bool := #[true, true, false, false, true, true, false, false, false, true, true, false, false, false, true, true, false, false, false, true, true, false, false, false, true, true, false, false, false, true, true, true, false, false, false, true, true, false, false, false, false]
abbrev M1_18 : Array Bool := #[true, true, false, false, true, true, false, false, false, true, true, false, false, false, true, true, false, false, false, true, true, false, false, false, true, true, false, false, false, true, true, true, false, false, false, true, true, true, false, false, false]
abbrev M1_19 : Array Bool := #[true, true, true, false, true, true, false, false, false, true, true, false, false, false, true, true, false, false, false, true, true, false, false, false, true, true, false, false, false, true, true, true, false, false, false, true, true, true, false, false, false]
abbrev M1_20 : Array Bool := #[true, true, true, true, true, true, false, false, false, true, true, false, false, false, true, true, false, false, false, true, true, false, false, false, true, true, false, false, false, true, true, true, false, false, false, true, true, true, false, false, false]
abbrev M1_21 : Array Bool := #[true, true, true, true, true, true, true, false, false, true, true, false, false, false, true, true, false, false, false, true, true, false, false, false, true, true, false, false, false, true, true, true, false, false, false, true, true, true, false, false, false]
abbrev M1_22 : Array Bool := #[true, true, true, true, true, true, true, true, false, true, true, false, false, false, true, true, false, false, false, true, true, false, false, false, true, true, false, false, false, true, true, true, false, false, false, true, true, true, false, false, false]
abbrev M1_23 : Array Bool := #[true, true, true, true, true, true, true, true, true, true, true, false, false, false, true, true, false, false, false, true, true, false, false, false, true, true, false, false, false, true, true, true, false, false, false, true, true, true, false, false, false]
abbrev M1_24 : Array Bool := #[true, true, true, true, true, true, true, true, true, true, true, true, false, false, true, true, false, false, false, true, true, false, false, false, true, true, false, false, false, true, true, true, false, false, false, true, true, true, false, false, false]
abbrev M1_25 : Array Bool := #[true, true, true, true, true, true, true, true, true, true, true, true, true, false, true, true, false, false, false, true, true, false, false, false, true, true, false, false, false, true, true, true, false, false, false, true, true, true, false, false, false]
abbrev M1_26 : Array Bool := #[true, true, true, true, true, true, true, true, true, true, true, true, true, true, true, true, false, false, false, true, true, false, false, false, true, true, false, false, false, true, true, true, false, false, false, true, true, true, false, false, false]
abbrev M1_27 : Array Bool := #[true, true, true, true, true, true, true, true, true, true, true, true, true, true, true, true, true, false, false, true, true, false, false, false, true, true, false, false, false, true, true, true, false, false, false, true, true, true, false, false, false]
abbrev M1_28 : Array Bool := #[true, true, true, true, true, true, true, true, true, true, true, true, true, true, true, true, true, true, false, true, true, false, false, false, true, true, false, false, false, true, true, true, false, false, false, true, true, true, false, false, false]
abbrev M1_29 : Array Bool := #[true, true, true, true, true, true, true, true, true, true, true, true, true, true, true, true, true, true, true, true, true, false, false, false, true, true, false, false, false, true, true, true, false, false, false, true, true, true, false, false, false]
abbrev M1_30 : Array Bool := #[true, true, true, true, true, true, true, true, true, true, true, true, true, true, true, true, true, true, true, true, true, true, false, false, true, true, false, false, false, true, true, true, false, false, false, true, true, true, false, false, false]
abbrev M1_31 : Array Bool := #[true, true, true, true, true, true, true, true, true, true, true, true, true, true, true, true, true, true, true, true, true, true, true, false, true, true, false, false, false, true, true, true, false, false, false, true, true, true, false, false, false]
abbrev M1_32 : Array Bool := #[true, true, true, true, true, true, true, true, true, true, true, true, true, true, true, true, true, true, true, true, true, true, true, true, true, true, false, false, false, true, true, true, false, false, false, true, true, true, false, false, false]
abbrev M1_33 : Array Bool := #[true, true, true, true, true, true, true, true, true, true, true, true, true, true, true, true, true, true, true, true, true, true, true, true, true, true, true, false, false, true, true, true, false, false, false, true, true, true, false, false, false]
abbrev M1_34 : Array Bool := #[true, true, true, true, true, true, true, true, true, true, true, true, true, true, true, true, true, true, true, true, true, true, true, true, true, true, true, true, false, true, true, true, false, false, false, true, true, true, false, false, false]
abbrev M1_35 : Array Bool := #[true, true, true, true, true, true, true, true, true, true, true, true, true, true, true, true, true, true, true, true, true, true, true, true, true, true, true, true, true, true, true, true, false, false, false, true, true, true, false, false, false]
abbrev M1_36 : Array Bool := #[true, true, true, true, true, true, true, true, true, true, true, true, true, true, true, true, true, true, true, true, true, true, true, true, true, true, true, true, true, true, true, true, true, false, false, true, true, true, false, false, false]
abbrev M1_37 : Array Bool := #[true, true, true, true, true, true, true, true, true, true, true, true, true, true, true, true, true, true, true, true, true, true, true, true, true, true, true, true, true, true, true, true, true, true, false, true, true, true, false, false, false]
abbrev M1_38 : Array Bool := #[true, true, true, true, true, true, true, true, true, true, true, true, true, true, true, true, true, true, true, true, true, true, true, true, true, true, true, true, true, true, true, true, true, true, true, true, true, true, false, false, false]
abbrev M1_39 : Array Bool := #[true, true, true, true, true, true, true, true, true, true, true, true, true, true, true, true, true, true, true, true, true, true, true, true, true, true, true, true, true, true, true, true, true, true, true, true, true, true, true, false, false]
abbrev M1_40 : Array Bool := #[true, true, true, true, true, true, true, true, true, true, true, true, true, true, true, true, true, true, true, true, true, true, true, true, true, true, true, true, true, true, true, true, true, true, true, true, true, true, true, true, false]
abbrev M1_41 : Array Bool := #[true, true, true, true, true, true, true, true, true, true, true, true, true, true, true, true, true, true, true, true, true, true, true, true, true, true, true, true, true, true, true, true, true, true, true, true, true, true, true, true, true]
theorem P1_1 {α : Type} (l : List α) (i : Nat) (a : α) : l.toArray.setIfInBounds i a = (l.set i a).toArray := List.setIfInBounds_toArray l i a
theorem P1_2 {α : Type} (x : α) (l : List α) (a : α) : (x :: l).set 0 a = a :: l := List.set_cons_zero
theorem P1_3 {α : Type} (x : α) (l : List α) (n : Nat) (a : α) : (x :: l).set (n + 1) a = x :: l.set n a := List.set_cons_succ
set_option maxHeartbeats 8000000 in
set_option maxRecDepth 100000 in
theorem spec_ReportText.calls (k : Nat) (a0_0 : Int) (a0_1 : Int) (A0_2 : Option Addr) (c0_2 : Nat) (l0_2 : List Int) (a0_3 : Int) (a0_4 : Int) (A0_5 : Option Addr) (c0_5 : Nat) (l0_5 : List Int) (a0_6 : Int) (a0_7 : Int) (r : ByteArray) (w : World) (hr0_2 : Kd.C (Kd.int .i64) w A0_2 l0_2.length l0_2) (hc0_2 : l0_2.length ≤ c0_2) (hr0_5 : Kd.C (Kd.int .i64) w A0_5 l0_5.length l0_5) (hc0_5 : l0_5.length ≤ c0_5) (h : spec_ReportText.f k a0_0 a0_1 l0_2 a0_3 a0_4 l0_5 a0_6 a0_7 = some r) :
  Calls Tryd.prog 36 #[.agg #[.int .i64 a0_0, .int .i64 a0_1, .slice A0_2 l0_2.length c0_2, .int .i64 a0_3, .int .i64 a0_4, .slice A0_5 l0_5.length c0_5, .int .i64 a0_6, .int .i64 a0_7]] w fun e w' => e = .returned (.string r) ∧ Below w.heap.size w w' := by
 have hu28 := Tryd.underlying28
 have HR0_2 := Aside0.mk hr0_2
 have HC0_2 := Aside0.mk hc0_2
 clear hr0_2 hc0_2
 have HR0_5 := Aside0.mk hr0_5
 have HC0_5 := Aside0.mk hc0_5
 clear hr0_5 hc0_5
 have HB := Aside0.mk (Below.refl w.heap.size w)
 have H : ((spec_IsReport.f k a0_0 a0_1 l0_2 a0_3 a0_4 l0_5 a0_6 a0_7).bind fun t169 => (if t169 = true then ((spec_FormatInt.f k a0_0).bind fun t170 => (if t170.size + 1 ≤ 9223372036854775807 then ((spec_KindText.f a0_1).bind fun t171 => (if (t170 ++ (⟨#[32]⟩ : ByteArray)).size + t171.size ≤ 9223372036854775807 then (if ((t170 ++ (⟨#[32]⟩ : ByteArray)) ++ t171).size + 1 ≤ 9223372036854775807 then ((spec_ListText.f k l0_2).bind fun t172 => (if (((t170 ++ (⟨#[32]⟩ : ByteArray)) ++ t171) ++ (⟨#[32]⟩ : ByteArray)).size + t172.size ≤ 9223372036854775807 then (if ((((t170 ++ (⟨#[32]⟩ : ByteArray)) ++ t171) ++ (⟨#[32]⟩ : ByteArray)) ++ t172).size + 1 ≤ 9223372036854775807 then ((spec_FormatInt.f k a0_3).bind fun t173 => (if (((((t170 ++ (⟨#[32]⟩ : ByteArray)) ++ t171) ++ (⟨#[32]⟩ : ByteArray)) ++ t172) ++ (⟨#[32]⟩ : ByteArray)).size + t173.size ≤ 9223372036854775807 then (if ((((((t170 ++ (⟨#[32]⟩ : ByteArray)) ++ t171) ++ (⟨#[32]⟩ : ByteArray)) ++ t172) ++ (⟨#[32]⟩ : ByteArray)) ++ t173).size + 1 ≤ 9223372036854775807 then ((spec_FormatInt.f k a0_4).bind fun t174 => (if (((((((t170 ++ (⟨#[32]⟩ : ByteArray)) ++ t171) ++ (⟨#[32]⟩ : ByteArray)) ++ t172) ++ (⟨#[32]⟩ : ByteArray)) ++ t173) ++ (⟨#[45]⟩ : ByteArray)).size + t174.size ≤ 9223372036854775807 then (if ((((((((t170 ++ (⟨#[32]⟩ : ByteArray)) ++ t171) ++ (⟨#[32]⟩ : ByteArray)) ++ t172) ++ (⟨#[32]⟩ : ByteArray)) ++ t173) ++ (⟨#[45]⟩ : ByteArray)) ++ t174).size + 1 ≤ 9223372036854775807 then ((spec_ListText.f k l0_5).bind fun t175 => (if (((((((((t170 ++ (⟨#[32]⟩ : ByteArray)) ++ t171) ++ (⟨#[32]⟩ : ByteArray)) ++ t172) ++ (⟨#[32]⟩ : ByteArray)) ++ t173) ++ (⟨#[45]⟩ : ByteArray)) ++ t174) ++ (⟨#[32]⟩ : ByteArray)).size + t175.size ≤ 9223372036854775807 then (if ((((((((((t170 ++ (⟨#[32]⟩ : ByteArray)) ++ t171) ++ (⟨#[32]⟩ : ByteArray)) ++ t172) ++ (⟨#[32]⟩ : ByteArray)) ++ t173) ++ (⟨#[45]⟩ : ByteArray)) ++ t174) ++ (⟨#[32]⟩ : ByteArray)) ++ t175).size + 1 ≤ 9223372036854775807 then ((spec_FormatInt.f k a0_6).bind fun t176 => (if (((((((((((t170 ++ (⟨#[32]⟩ : ByteArray)) ++ t171) ++ (⟨#[32]⟩ : ByteArray)) ++ t172) ++ (⟨#[32]⟩ : ByteArray)) ++ t173) ++ (⟨#[45]⟩ : ByteArray)) ++ t174) ++ (⟨#[32]⟩ : ByteArray)) ++ t175) ++ (⟨#[32]⟩ : ByteArray)).size + t176.size ≤ 9223372036854775807 then (if ((((((((((((t170 ++ (⟨#[32]⟩ : ByteArray)) ++ t171) ++ (⟨#[32]⟩ : ByteArray)) ++ t172) ++ (⟨#[32]⟩ : ByteArray)) ++ t173) ++ (⟨#[45]⟩ : ByteArray)) ++ t174) ++ (⟨#[32]⟩ : ByteArray)) ++ t175) ++ (⟨#[32]⟩ : ByteArray)) ++ t176).size + 1 ≤ 9223372036854775807 then ((spec_FormatInt.f k a0_7).bind fun t177 => (if (((((((((((((t170 ++ (⟨#[32]⟩ : ByteArray)) ++ t171) ++ (⟨#[32]⟩ : ByteArray)) ++ t172) ++ (⟨#[32]⟩ : ByteArray)) ++ t173) ++ (⟨#[45]⟩ : ByteArray)) ++ t174) ++ (⟨#[32]⟩ : ByteArray)) ++ t175) ++ (⟨#[32]⟩ : ByteArray)) ++ t176) ++ (⟨#[45]⟩ : ByteArray)).size + t177.size ≤ 9223372036854775807 then (some ((((((((((((((t170 ++ (⟨#[32]⟩ : ByteArray)) ++ t171) ++ (⟨#[32]⟩ : ByteArray)) ++ t172) ++ (⟨#[32]⟩ : ByteArray)) ++ t173) ++ (⟨#[45]⟩ : ByteArray)) ++ t174) ++ (⟨#[32]⟩ : ByteArray)) ++ t175) ++ (⟨#[32]⟩ : ByteArray)) ++ t176) ++ (⟨#[45]⟩ : ByteArray)) ++ t177)) else (none))) else (none)) else (none))) else (none)) else (none))) else (none)) else (none))) else (none)) else (none))) else (none)) else (none))) else (none)) else (none))) else (none))) else (some (⟨#[]⟩ : ByteArray)))) = some r := h
 clear h
 replace H := Option.bind_eq_some_iff.mp H
 obtain ⟨t169, A20, H⟩ := H
 replace H : (if t169 = true then ((spec_FormatInt.f k a0_0).bind fun t170 => (if t170.size + 1 ≤ 9223372036854775807 then ((spec_KindText.f a0_1).bind fun t171 => (if (t170 ++ (⟨#[32]⟩ : ByteArray)).size + t171.size ≤ 9223372036854775807 then (if ((t170 ++ (⟨#[32]⟩ : ByteArray)) ++ t171).size + 1 ≤ 9223372036854775807 then ((spec_ListText.f k l0_2).bind fun t172 => (if (((t170 ++ (⟨#[32]⟩ : ByteArray)) ++ t171) ++ (⟨#[32]⟩ : ByteArray)).size + t172.size ≤ 9223372036854775807 then (if ((((t170 ++ (⟨#[32]⟩ : ByteArray)) ++ t171) ++ (⟨#[32]⟩ : ByteArray)) ++ t172).size + 1 ≤ 9223372036854775807 then ((spec_FormatInt.f k a0_3).bind fun t173 => (if (((((t170 ++ (⟨#[32]⟩ : ByteArray)) ++ t171) ++ (⟨#[32]⟩ : ByteArray)) ++ t172) ++ (⟨#[32]⟩ : ByteArray)).size + t173.size ≤ 9223372036854775807 then (if ((((((t170 ++ (⟨#[32]⟩ : ByteArray)) ++ t171) ++ (⟨#[32]⟩ : ByteArray)) ++ t172) ++ (⟨#[32]⟩ : ByteArray)) ++ t173).size + 1 ≤ 9223372036854775807 then ((spec_FormatInt.f k a0_4).bind fun t174 => (if (((((((t170 ++ (⟨#[32]⟩ : ByteArray)) ++ t171) ++ (⟨#[32]⟩ : ByteArray)) ++ t172) ++ (⟨#[32]⟩ : ByteArray)) ++ t173) ++ (⟨#[45]⟩ : ByteArray)).size + t174.size ≤ 9223372036854775807 then (if ((((((((t170 ++ (⟨#[32]⟩ : ByteArray)) ++ t171) ++ (⟨#[32]⟩ : ByteArray)) ++ t172) ++ (⟨#[32]⟩ : ByteArray)) ++ t173) ++ (⟨#[45]⟩ : ByteArray)) ++ t174).size + 1 ≤ 9223372036854775807 then ((spec_ListText.f k l0_5).bind fun t175 => (if (((((((((t170 ++ (⟨#[32]⟩ : ByteArray)) ++ t171) ++ (⟨#[32]⟩ : ByteArray)) ++ t172) ++ (⟨#[32]⟩ : ByteArray)) ++ t173) ++ (⟨#[45]⟩ : ByteArray)) ++ t174) ++ (⟨#[32]⟩ : ByteArray)).size + t175.size ≤ 9223372036854775807 then (if ((((((((((t170 ++ (⟨#[32]⟩ : ByteArray)) ++ t171) ++ (⟨#[32]⟩ : ByteArray)) ++ t172) ++ (⟨#[32]⟩ : ByteArray)) ++ t173) ++ (⟨#[45]⟩ : ByteArray)) ++ t174) ++ (⟨#[32]⟩ : ByteArray)) ++ t175).size + 1 ≤ 9223372036854775807 then ((spec_FormatInt.f k a0_6).bind fun t176 => (if (((((((((((t170 ++ (⟨#[32]⟩ : ByteArray)) ++ t171) ++ (⟨#[32]⟩ : ByteArray)) ++ t172) ++ (⟨#[32]⟩ : ByteArray)) ++ t173) ++ (⟨#[45]⟩ : ByteArray)) ++ t174) ++ (⟨#[32]⟩ : ByteArray)) ++ t175) ++ (⟨#[32]⟩ : ByteArray)).size + t176.size ≤ 9223372036854775807 then (if ((((((((((((t170 ++ (⟨#[32]⟩ : ByteArray)) ++ t171) ++ (⟨#[32]⟩ : ByteArray)) ++ t172) ++ (⟨#[32]⟩ : ByteArray)) ++ t173) ++ (⟨#[45]⟩ : ByteArray)) ++ t174) ++ (⟨#[32]⟩ : ByteArray)) ++ t175) ++ (⟨#[32]⟩ : ByteArray)) ++ t176).size + 1 ≤ 9223372036854775807 then ((spec_FormatInt.f k a0_7).bind fun t177 => (if (((((((((((((t170 ++ (⟨#[32]⟩ : ByteArray)) ++ t171) ++ (⟨#[32]⟩ : ByteArray)) ++ t172) ++ (⟨#[32]⟩ : ByteArray)) ++ t173) ++ (⟨#[45]⟩ : ByteArray)) ++ t174) ++ (⟨#[32]⟩ : ByteArray)) ++ t175) ++ (⟨#[32]⟩ : ByteArray)) ++ t176) ++ (⟨#[45]⟩ : ByteArray)).size + t177.size ≤ 9223372036854775807 then (some ((((((((((((((t170 ++ (⟨#[32]⟩ : ByteArray)) ++ t171) ++ (⟨#[32]⟩ : ByteArray)) ++ t172) ++ (⟨#[32]⟩ : ByteArray)) ++ t173) ++ (⟨#[45]⟩ : ByteArray)) ++ t174) ++ (⟨#[32]⟩ : ByteArray)) ++ t175) ++ (⟨#[32]⟩ : ByteArray)) ++ t176) ++ (⟨#[45]⟩ : ByteArray)) ++ t177)) else (none))) else (none)) else (none))) else (none)) else (none))) else (none)) else (none))) else (none)) else (none))) else (none)) else (none))) else (none)) else (none))) else (none))) else (some (⟨#[]⟩ : ByteArray))) = some r := H
 have A2 := Aside0.mk A20
 clear A20
 by_cases c3 : t169 = true
 ·
  subst c3
  have H1 : ((spec_FormatInt.f k a0_0).bind fun t170 => (if t170.size + 1 ≤ 9223372036854775807 then ((spec_KindText.f a0_1).bind fun t171 => (if (t170 ++ (⟨#[32]⟩ : ByteArray)).size + t171.size ≤ 9223372036854775807 then (if ((t170 ++ (⟨#[32]⟩ : ByteArray)) ++ t171).size + 1 ≤ 9223372036854775807 then ((spec_ListText.f k l0_2).bind fun t172 => (if (((t170 ++ (⟨#[32]⟩ : ByteArray)) ++ t171) ++ (⟨#[32]⟩ : ByteArray)).size + t172.size ≤ 9223372036854775807 then (if ((((t170 ++ (⟨#[32]⟩ : ByteArray)) ++ t171) ++ (⟨#[32]⟩ : ByteArray)) ++ t172).size + 1 ≤ 9223372036854775807 then ((spec_FormatInt.f k a0_3).bind fun t173 => (if (((((t170 ++ (⟨#[32]⟩ : ByteArray)) ++ t171) ++ (⟨#[32]⟩ : ByteArray)) ++ t172) ++ (⟨#[32]⟩ : ByteArray)).size + t173.size ≤ 9223372036854775807 then (if ((((((t170 ++ (⟨#[32]⟩ : ByteArray)) ++ t171) ++ (⟨#[32]⟩ : ByteArray)) ++ t172) ++ (⟨#[32]⟩ : ByteArray)) ++ t173).size + 1 ≤ 9223372036854775807 then ((spec_FormatInt.f k a0_4).bind fun t174 => (if (((((((t170 ++ (⟨#[32]⟩ : ByteArray)) ++ t171) ++ (⟨#[32]⟩ : ByteArray)) ++ t172) ++ (⟨#[32]⟩ : ByteArray)) ++ t173) ++ (⟨#[45]⟩ : ByteArray)).size + t174.size ≤ 9223372036854775807 then (if ((((((((t170 ++ (⟨#[32]⟩ : ByteArray)) ++ t171) ++ (⟨#[32]⟩ : ByteArray)) ++ t172) ++ (⟨#[32]⟩ : ByteArray)) ++ t173) ++ (⟨#[45]⟩ : ByteArray)) ++ t174).size + 1 ≤ 9223372036854775807 then ((spec_ListText.f k l0_5).bind fun t175 => (if (((((((((t170 ++ (⟨#[32]⟩ : ByteArray)) ++ t171) ++ (⟨#[32]⟩ : ByteArray)) ++ t172) ++ (⟨#[32]⟩ : ByteArray)) ++ t173) ++ (⟨#[45]⟩ : ByteArray)) ++ t174) ++ (⟨#[32]⟩ : ByteArray)).size + t175.size ≤ 9223372036854775807 then (if ((((((((((t170 ++ (⟨#[32]⟩ : ByteArray)) ++ t171) ++ (⟨#[32]⟩ : ByteArray)) ++ t172) ++ (⟨#[32]⟩ : ByteArray)) ++ t173) ++ (⟨#[45]⟩ : ByteArray)) ++ t174) ++ (⟨#[32]⟩ : ByteArray)) ++ t175).size + 1 ≤ 9223372036854775807 then ((spec_FormatInt.f k a0_6).bind fun t176 => (if (((((((((((t170 ++ (⟨#[32]⟩ : ByteArray)) ++ t171) ++ (⟨#[32]⟩ : ByteArray)) ++ t172) ++ (⟨#[32]⟩ : ByteArray)) ++ t173) ++ (⟨#[45]⟩ : ByteArray)) ++ t174) ++ (⟨#[32]⟩ : ByteArray)) ++ t175) ++ (⟨#[32]⟩ : ByteArray)).size + t176.size ≤ 9223372036854775807 then (if ((((((((((((t170 ++ (⟨#[32]⟩ : ByteArray)) ++ t171) ++ (⟨#[32]⟩ : ByteArray)) ++ t172) ++ (⟨#[32]⟩ : ByteArray)) ++ t173) ++ (⟨#[45]⟩ : ByteArray)) ++ t174) ++ (⟨#[32]⟩ : ByteArray)) ++ t175) ++ (⟨#[32]⟩ : ByteArray)) ++ t176).size + 1 ≤ 9223372036854775807 then ((spec_FormatInt.f k a0_7).bind fun t177 => (if (((((((((((((t170 ++ (⟨#[32]⟩ : ByteArray)) ++ t171) ++ (⟨#[32]⟩ : ByteArray)) ++ t172) ++ (⟨#[32]⟩ : ByteArray)) ++ t173) ++ (⟨#[45]⟩ : ByteArray)) ++ t174) ++ (⟨#[32]⟩ : ByteArray)) ++ t175) ++ (⟨#[32]⟩ : ByteArray)) ++ t176) ++ (⟨#[45]⟩ : ByteArray)).size + t177.size ≤ 9223372036854775807 then (some ((((((((((((((t170 ++ (⟨#[32]⟩ : ByteArray)) ++ t171) ++ (⟨#[32]⟩ : ByteArray)) ++ t172) ++ (⟨#[32]⟩ : ByteArray)) ++ t173) ++ (⟨#[45]⟩ : ByteArray)) ++ t174) ++ (⟨#[32]⟩ : ByteArray)) ++ t175) ++ (⟨#[32]⟩ : ByteArray)) ++ t176) ++ (⟨#[45]⟩ : ByteArray)) ++ t177)) else (none))) else (none)) else (none))) else (none)) else (none))) else (none)) else (none))) else (none)) else (none))) else (none)) else (none))) else (none)) else (none))) else (none))) = some r := by rw [if_pos rfl] at H; exact H
  clear H
  have H := H1
  clear H1
  replace H := Option.bind_eq_some_iff.mp H
  obtain ⟨t170, A40, H⟩ := H
  replace H : (if t170.size + 1 ≤ 9223372036854775807 then ((spec_KindText.f a0_1).bind fun t171 => (if (t170 ++ (⟨#[32]⟩ : ByteArray)).size + t171.size ≤ 9223372036854775807 then (if ((t170 ++ (⟨#[32]⟩ : ByteArray)) ++ t171).size + 1 ≤ 9223372036854775807 then ((spec_ListText.f k l0_2).bind fun t172 => (if (((t170 ++ (⟨#[32]⟩ : ByteArray)) ++ t171) ++ (⟨#[32]⟩ : ByteArray)).size + t172.size ≤ 9223372036854775807 then (if ((((t170 ++ (⟨#[32]⟩ : ByteArray)) ++ t171) ++ (⟨#[32]⟩ : ByteArray)) ++ t172).size + 1 ≤ 9223372036854775807 then ((spec_FormatInt.f k a0_3).bind fun t173 => (if (((((t170 ++ (⟨#[32]⟩ : ByteArray)) ++ t171) ++ (⟨#[32]⟩ : ByteArray)) ++ t172) ++ (⟨#[32]⟩ : ByteArray)).size + t173.size ≤ 9223372036854775807 then (if ((((((t170 ++ (⟨#[32]⟩ : ByteArray)) ++ t171) ++ (⟨#[32]⟩ : ByteArray)) ++ t172) ++ (⟨#[32]⟩ : ByteArray)) ++ t173).size + 1 ≤ 9223372036854775807 then ((spec_FormatInt.f k a0_4).bind fun t174 => (if (((((((t170 ++ (⟨#[32]⟩ : ByteArray)) ++ t171) ++ (⟨#[32]⟩ : ByteArray)) ++ t172) ++ (⟨#[32]⟩ : ByteArray)) ++ t173) ++ (⟨#[45]⟩ : ByteArray)).size + t174.size ≤ 9223372036854775807 then (if ((((((((t170 ++ (⟨#[32]⟩ : ByteArray)) ++ t171) ++ (⟨#[32]⟩ : ByteArray)) ++ t172) ++ (⟨#[32]⟩ : ByteArray)) ++ t173) ++ (⟨#[45]⟩ : ByteArray)) ++ t174).size + 1 ≤ 9223372036854775807 then ((spec_ListText.f k l0_5).bind fun t175 => (if (((((((((t170 ++ (⟨#[32]⟩ : ByteArray)) ++ t171) ++ (⟨#[32]⟩ : ByteArray)) ++ t172) ++ (⟨#[32]⟩ : ByteArray)) ++ t173) ++ (⟨#[45]⟩ : ByteArray)) ++ t174) ++ (⟨#[32]⟩ : ByteArray)).size + t175.size ≤ 9223372036854775807 then (if ((((((((((t170 ++ (⟨#[32]⟩ : ByteArray)) ++ t171) ++ (⟨#[32]⟩ : ByteArray)) ++ t172) ++ (⟨#[32]⟩ : ByteArray)) ++ t173) ++ (⟨#[45]⟩ : ByteArray)) ++ t174) ++ (⟨#[32]⟩ : ByteArray)) ++ t175).size + 1 ≤ 9223372036854775807 then ((spec_FormatInt.f k a0_6).bind fun t176 => (if (((((((((((t170 ++ (⟨#[32]⟩ : ByteArray)) ++ t171) ++ (⟨#[32]⟩ : ByteArray)) ++ t172) ++ (⟨#[32]⟩ : ByteArray)) ++ t173) ++ (⟨#[45]⟩ : ByteArray)) ++ t174) ++ (⟨#[32]⟩ : ByteArray)) ++ t175) ++ (⟨#[32]⟩ : ByteArray)).size + t176.size ≤ 9223372036854775807 then (if ((((((((((((t170 ++ (⟨#[32]⟩ : ByteArray)) ++ t171) ++ (⟨#[32]⟩ : ByteArray)) ++ t172) ++ (⟨#[32]⟩ : ByteArray)) ++ t173) ++ (⟨#[45]⟩ : ByteArray)) ++ t174) ++ (⟨#[32]⟩ : ByteArray)) ++ t175) ++ (⟨#[32]⟩ : ByteArray)) ++ t176).size + 1 ≤ 9223372036854775807 then ((spec_FormatInt.f k a0_7).bind fun t177 => (if (((((((((((((t170 ++ (⟨#[32]⟩ : ByteArray)) ++ t171) ++ (⟨#[32]⟩ : ByteArray)) ++ t172) ++ (⟨#[32]⟩ : ByteArray)) ++ t173) ++ (⟨#[45]⟩ : ByteArray)) ++ t174) ++ (⟨#[32]⟩ : ByteArray)) ++ t175) ++ (⟨#[32]⟩ : ByteArray)) ++ t176) ++ (⟨#[45]⟩ : ByteArray)).size + t177.size ≤ 9223372036854775807 then (some ((((((((((((((t170 ++ (⟨#[32]⟩ : ByteArray)) ++ t171) ++ (⟨#[32]⟩ : ByteArray)) ++ t172) ++ (⟨#[32]⟩ : ByteArray)) ++ t173) ++ (⟨#[45]⟩ : ByteArray)) ++ t174) ++ (⟨#[32]⟩ : ByteArray)) ++ t175) ++ (⟨#[32]⟩ : ByteArray)) ++ t176) ++ (⟨#[45]⟩ : ByteArray)) ++ t177)) else (none))) else (none)) else (none))) else (none)) else (none))) else (none)) else (none))) else (none)) else (none))) else (none)) else (none))) else (none)) else (none))) else (none)) = some r := H
  have A4 := Aside0.mk A40
  clear A40
  by_cases c5 : t170.size + 1 ≤ 9223372036854775807
  ·
   rw [if_pos c5] at H
   have c5b0 := eq_true c5
   have c5b1 : decide (t170.size + 1 ≤ 9223372036854775807) = true := decide_eq_true c5
   try have c5b2 : (9223372036854775807 < t170.size + 1) = False := eq_false (Nat.not_lt.2 c5)
   replace H := Option.bind_eq_some_iff.mp H
   obtain ⟨t171, A60, H⟩ := H
   replace H : (if (t170 ++ (⟨#[32]⟩ : ByteArray)).size + t171.size ≤ 9223372036854775807 then (if ((t170 ++ (⟨#[32]⟩ : ByteArray)) ++ t171).size + 1 ≤ 9223372036854775807 then ((spec_ListText.f k l0_2).bind fun t172 => (if (((t170 ++ (⟨#[32]⟩ : ByteArray)) ++ t171) ++ (⟨#[32]⟩ : ByteArray)).size + t172.size ≤ 9223372036854775807 then (if ((((t170 ++ (⟨#[32]⟩ : ByteArray)) ++ t171) ++ (⟨#[32]⟩ : ByteArray)) ++ t172).size + 1 ≤ 9223372036854775807 then ((spec_FormatInt.f k a0_3).bind fun t173 => (if (((((t170 ++ (⟨#[32]⟩ : ByteArray)) ++ t171) ++ (⟨#[32]⟩ : ByteArray)) ++ t172) ++ (⟨#[32]⟩ : ByteArray)).size + t173.size ≤ 9223372036854775807 then (if ((((((t170 ++ (⟨#[32]⟩ : ByteArray)) ++ t171) ++ (⟨#[32]⟩ : ByteArray)) ++ t172) ++ (⟨#[32]⟩ : ByteArray)) ++ t173).size + 1 ≤ 9223372036854775807 then ((spec_FormatInt.f k a0_4).bind fun t174 => (if (((((((t170 ++ (⟨#[32]⟩ : ByteArray)) ++ t171) ++ (⟨#[32]⟩ : ByteArray)) ++ t172) ++ (⟨#[32]⟩ : ByteArray)) ++ t173) ++ (⟨#[45]⟩ : ByteArray)).size + t174.size ≤ 9223372036854775807 then (if ((((((((t170 ++ (⟨#[32]⟩ : ByteArray)) ++ t171) ++ (⟨#[32]⟩ : ByteArray)) ++ t172) ++ (⟨#[32]⟩ : ByteArray)) ++ t173) ++ (⟨#[45]⟩ : ByteArray)) ++ t174).size + 1 ≤ 9223372036854775807 then ((spec_ListText.f k l0_5).bind fun t175 => (if (((((((((t170 ++ (⟨#[32]⟩ : ByteArray)) ++ t171) ++ (⟨#[32]⟩ : ByteArray)) ++ t172) ++ (⟨#[32]⟩ : ByteArray)) ++ t173) ++ (⟨#[45]⟩ : ByteArray)) ++ t174) ++ (⟨#[32]⟩ : ByteArray)).size + t175.size ≤ 9223372036854775807 then (if ((((((((((t170 ++ (⟨#[32]⟩ : ByteArray)) ++ t171) ++ (⟨#[32]⟩ : ByteArray)) ++ t172) ++ (⟨#[32]⟩ : ByteArray)) ++ t173) ++ (⟨#[45]⟩ : ByteArray)) ++ t174) ++ (⟨#[32]⟩ : ByteArray)) ++ t175).size + 1 ≤ 9223372036854775807 then ((spec_FormatInt.f k a0_6).bind fun t176 => (if (((((((((((t170 ++ (⟨#[32]⟩ : ByteArray)) ++ t171) ++ (⟨#[32]⟩ : ByteArray)) ++ t172) ++ (⟨#[32]⟩ : ByteArray)) ++ t173) ++ (⟨#[45]⟩ : ByteArray)) ++ t174) ++ (⟨#[32]⟩ : ByteArray)) ++ t175) ++ (⟨#[32]⟩ : ByteArray)).size + t176.size ≤ 9223372036854775807 then (if ((((((((((((t170 ++ (⟨#[32]⟩ : ByteArray)) ++ t171) ++ (⟨#[32]⟩ : ByteArray)) ++ t172) ++ (⟨#[32]⟩ : ByteArray)) ++ t173) ++ (⟨#[45]⟩ : ByteArray)) ++ t174) ++ (⟨#[32]⟩ : ByteArray)) ++ t175) ++ (⟨#[32]⟩ : ByteArray)) ++ t176).size + 1 ≤ 9223372036854775807 then ((spec_FormatInt.f k a0_7).bind fun t177 => (if (((((((((((((t170 ++ (⟨#[32]⟩ : ByteArray)) ++ t171) ++ (⟨#[32]⟩ : ByteArray)) ++ t172) ++ (⟨#[32]⟩ : ByteArray)) ++ t173) ++ (⟨#[45]⟩ : ByteArray)) ++ t174) ++ (⟨#[32]⟩ : ByteArray)) ++ t175) ++ (⟨#[32]⟩ : ByteArray)) ++ t176) ++ (⟨#[45]⟩ : ByteArray)).size + t177.size ≤ 9223372036854775807 then (some ((((((((((((((t170 ++ (⟨#[32]⟩ : ByteArray)) ++ t171) ++ (⟨#[32]⟩ : ByteArray)) ++ t172) ++ (⟨#[32]⟩ : ByteArray)) ++ t173) ++ (⟨#[45]⟩ : ByteArray)) ++ t174) ++ (⟨#[32]⟩ : ByteArray)) ++ t175) ++ (⟨#[32]⟩ : ByteArray)) ++ t176) ++ (⟨#[45]⟩ : ByteArray)) ++ t177)) else (none))) else (none)) else (none))) else (none)) else (none))) else (none)) else (none))) else (none)) else (none))) else (none)) else (none))) else (none)) else (none)) = some r := H
   have A6 := Aside0.mk A60
   clear A60
   by_cases c7 : (t170 ++ (⟨#[32]⟩ : ByteArray)).size + t171.size ≤ 9223372036854775807
   ·
    rw [if_pos c7] at H
    have c7b0 := eq_true c7
    have c7b1 : decide ((t170 ++ (⟨#[32]⟩ : ByteArray)).size + t171.size ≤ 9223372036854775807) = true := decide_eq_true c7
    try have c7b2 : (9223372036854775807 < (t170 ++ (⟨#[32]⟩ : ByteArray)).size + t171.size) = False := eq_false (Nat.not_lt.2 c7)
    try have c7b3 : (9223372036854775807 < t170.size + 1 + t171.size) = False := eq_false (Nat.not_lt.2 (by have h_ := c7; simp only [ByteArray.size_append] at h_; exact h_))
    by_cases c8 : ((t170 ++ (⟨#[32]⟩ : ByteArray)) ++ t171).size + 1 ≤ 9223372036854775807
    ·
     rw [if_pos c8] at H
     have c8b0 := eq_true c8
     have c8b1 : decide (((t170 ++ (⟨#[32]⟩ : ByteArray)) ++ t171).size + 1 ≤ 9223372036854775807) = true := decide_eq_true c8
     try have c8b2 : (9223372036854775807 < ((t170 ++ (⟨#[32]⟩ : ByteArray)) ++ t171).size + 1) = False := eq_false (Nat.not_lt.2 c8)
     try have c8b3 : (9223372036854775807 < t170.size + 1 + t171.size + 1) = False := eq_false (Nat.not_lt.2 (by have h_ := c8; simp only [ByteArray.size_append] at h_; exact h_))
     replace H := Option.bind_eq_some_iff.mp H
     obtain ⟨t172, A90, H⟩ := H
     replace H : (if (((t170 ++ (⟨#[32]⟩ : ByteArray)) ++ t171) ++ (⟨#[32]⟩ : ByteArray)).size + t172.size ≤ 9223372036854775807 then (if ((((t170 ++ (⟨#[32]⟩ : ByteArray)) ++ t171) ++ (⟨#[32]⟩ : ByteArray)) ++ t172).size + 1 ≤ 9223372036854775807 then ((spec_FormatInt.f k a0_3).bind fun t173 => (if (((((t170 ++ (⟨#[32]⟩ : ByteArray)) ++ t171) ++ (⟨#[32]⟩ : ByteArray)) ++ t172) ++ (⟨#[32]⟩ : ByteArray)).size + t173.size ≤ 9223372036854775807 then (if ((((((t170 ++ (⟨#[32]⟩ : ByteArray)) ++ t171) ++ (⟨#[32]⟩ : ByteArray)) ++ t172) ++ (⟨#[32]⟩ : ByteArray)) ++ t173).size + 1 ≤ 9223372036854775807 then ((spec_FormatInt.f k a0_4).bind fun t174 => (if (((((((t170 ++ (⟨#[32]⟩ : ByteArray)) ++ t171) ++ (⟨#[32]⟩ : ByteArray)) ++ t172) ++ (⟨#[32]⟩ : ByteArray)) ++ t173) ++ (⟨#[45]⟩ : ByteArray)).size + t174.size ≤ 9223372036854775807 then (if ((((((((t170 ++ (⟨#[32]⟩ : ByteArray)) ++ t171) ++ (⟨#[32]⟩ : ByteArray)) ++ t172) ++ (⟨#[32]⟩ : ByteArray)) ++ t173) ++ (⟨#[45]⟩ : ByteArray)) ++ t174).size + 1 ≤ 9223372036854775807 then ((spec_ListText.f k l0_5).bind fun t175 => (if (((((((((t170 ++ (⟨#[32]⟩ : ByteArray)) ++ t171) ++ (⟨#[32]⟩ : ByteArray)) ++ t172) ++ (⟨#[32]⟩ : ByteArray)) ++ t173) ++ (⟨#[45]⟩ : ByteArray)) ++ t174) ++ (⟨#[32]⟩ : ByteArray)).size + t175.size ≤ 9223372036854775807 then (if ((((((((((t170 ++ (⟨#[32]⟩ : ByteArray)) ++ t171) ++ (⟨#[32]⟩ : ByteArray)) ++ t172) ++ (⟨#[32]⟩ : ByteArray)) ++ t173) ++ (⟨#[45]⟩ : ByteArray)) ++ t174) ++ (⟨#[32]⟩ : ByteArray)) ++ t175).size + 1 ≤ 9223372036854775807 then ((spec_FormatInt.f k a0_6).bind fun t176 => (if (((((((((((t170 ++ (⟨#[32]⟩ : ByteArray)) ++ t171) ++ (⟨#[32]⟩ : ByteArray)) ++ t172) ++ (⟨#[32]⟩ : ByteArray)) ++ t173) ++ (⟨#[45]⟩ : ByteArray)) ++ t174) ++ (⟨#[32]⟩ : ByteArray)) ++ t175) ++ (⟨#[32]⟩ : ByteArray)).size + t176.size ≤ 9223372036854775807 then (if ((((((((((((t170 ++ (⟨#[32]⟩ : ByteArray)) ++ t171) ++ (⟨#[32]⟩ : ByteArray)) ++ t172) ++ (⟨#[32]⟩ : ByteArray)) ++ t173) ++ (⟨#[45]⟩ : ByteArray)) ++ t174) ++ (⟨#[32]⟩ : ByteArray)) ++ t175) ++ (⟨#[32]⟩ : ByteArray)) ++ t176).size + 1 ≤ 9223372036854775807 then ((spec_FormatInt.f k a0_7).bind fun t177 => (if (((((((((((((t170 ++ (⟨#[32]⟩ : ByteArray)) ++ t171) ++ (⟨#[32]⟩ : ByteArray)) ++ t172) ++ (⟨#[32]⟩ : ByteArray)) ++ t173) ++ (⟨#[45]⟩ : ByteArray)) ++ t174) ++ (⟨#[32]⟩ : ByteArray)) ++ t175) ++ (⟨#[32]⟩ : ByteArray)) ++ t176) ++ (⟨#[45]⟩ : ByteArray)).size + t177.size ≤ 9223372036854775807 then (some ((((((((((((((t170 ++ (⟨#[32]⟩ : ByteArray)) ++ t171) ++ (⟨#[32]⟩ : ByteArray)) ++ t172) ++ (⟨#[32]⟩ : ByteArray)) ++ t173) ++ (⟨#[45]⟩ : ByteArray)) ++ t174) ++ (⟨#[32]⟩ : ByteArray)) ++ t175) ++ (⟨#[32]⟩ : ByteArray)) ++ t176) ++ (⟨#[45]⟩ : ByteArray)) ++ t177)) else (none))) else (none)) else (none))) else (none)) else (none))) else (none)) else (none))) else (none)) else (none))) else (none)) else (none)) = some r := H
     have A9 := Aside0.mk A90
     clear A90
     by_cases c10 : (((t170 ++ (⟨#[32]⟩ : ByteArray)) ++ t171) ++ (⟨#[32]⟩ : ByteArray)).size + t172.size ≤ 9223372036854775807
     ·
      rw [if_pos c10] at H
      have c10b0 := eq_true c10
      have c10b1 : decide ((((t170 ++ (⟨#[32]⟩ : ByteArray)) ++ t171) ++ (⟨#[32]⟩ : ByteArray)).size + t172.size ≤ 9223372036854775807) = true := decide_eq_true c10
      try have c10b2 : (9223372036854775807 < (((t170 ++ (⟨#[32]⟩ : ByteArray)) ++ t171) ++ (⟨#[32]⟩ : ByteArray)).size + t172.size) = False := eq_false (Nat.not_lt.2 c10)
      try have c10b3 : (9223372036854775807 < t170.size + 1 + t171.size + 1 + t172.size) = False := eq_false (Nat.not_lt.2 (by have h_ := c10; simp only [ByteArray.size_append] at h_; exact h_))
      by_cases c11 : ((((t170 ++ (⟨#[32]⟩ : ByteArray)) ++ t171) ++ (⟨#[32]⟩ : ByteArray)) ++ t172).size + 1 ≤ 9223372036854775807
      ·
       rw [if_pos c11] at H
       have c11b0 := eq_true c11
       have c11b1 : decide (((((t170 ++ (⟨#[32]⟩ : ByteArray)) ++ t171) ++ (⟨#[32]⟩ : ByteArray)) ++ t172).size + 1 ≤ 9223372036854775807) = true := decide_eq_true c11
       try have c11b2 : (9223372036854775807 < ((((t170 ++ (⟨#[32]⟩ : ByteArray)) ++ t171) ++ (⟨#[32]⟩ : ByteArray)) ++ t172).size + 1) = False := eq_false (Nat.not_lt.2 c11)
       try have c11b3 : (9223372036854775807 < t170.size + 1 + t171.size + 1 + t172.size + 1) = False := eq_false (Nat.not_lt.2 (by have h_ := c11; simp only [ByteArray.size_append] at h_; exact h_))
       replace H := Option.bind_eq_some_iff.mp H
       obtain ⟨t173, A120, H⟩ := H
       replace H : (if (((((t170 ++ (⟨#[32]⟩ : ByteArray)) ++ t171) ++ (⟨#[32]⟩ : ByteArray)) ++ t172) ++ (⟨#[32]⟩ : ByteArray)).size + t173.size ≤ 9223372036854775807 then (if ((((((t170 ++ (⟨#[32]⟩ : ByteArray)) ++ t171) ++ (⟨#[32]⟩ : ByteArray)) ++ t172) ++ (⟨#[32]⟩ : ByteArray)) ++ t173).size + 1 ≤ 9223372036854775807 then ((spec_FormatInt.f k a0_4).bind fun t174 => (if (((((((t170 ++ (⟨#[32]⟩ : ByteArray)) ++ t171) ++ (⟨#[32]⟩ : ByteArray)) ++ t172) ++ (⟨#[32]⟩ : ByteArray)) ++ t173) ++ (⟨#[45]⟩ : ByteArray)).size + t174.size ≤ 9223372036854775807 then (if ((((((((t170 ++ (⟨#[32]⟩ : ByteArray)) ++ t171) ++ (⟨#[32]⟩ : ByteArray)) ++ t172) ++ (⟨#[32]⟩ : ByteArray)) ++ t173) ++ (⟨#[45]⟩ : ByteArray)) ++ t174).size + 1 ≤ 9223372036854775807 then ((spec_ListText.f k l0_5).bind fun t175 => (if (((((((((t170 ++ (⟨#[32]⟩ : ByteArray)) ++ t171) ++ (⟨#[32]⟩ : ByteArray)) ++ t172) ++ (⟨#[32]⟩ : ByteArray)) ++ t173) ++ (⟨#[45]⟩ : ByteArray)) ++ t174) ++ (⟨#[32]⟩ : ByteArray)).size + t175.size ≤ 9223372036854775807 then (if ((((((((((t170 ++ (⟨#[32]⟩ : ByteArray)) ++ t171) ++ (⟨#[32]⟩ : ByteArray)) ++ t172) ++ (⟨#[32]⟩ : ByteArray)) ++ t173) ++ (⟨#[45]⟩ : ByteArray)) ++ t174) ++ (⟨#[32]⟩ : ByteArray)) ++ t175).size + 1 ≤ 9223372036854775807 then ((spec_FormatInt.f k a0_6).bind fun t176 => (if (((((((((((t170 ++ (⟨#[32]⟩ : ByteArray)) ++ t171) ++ (⟨#[32]⟩ : ByteArray)) ++ t172) ++ (⟨#[32]⟩ : ByteArray)) ++ t173) ++ (⟨#[45]⟩ : ByteArray)) ++ t174) ++ (⟨#[32]⟩ : ByteArray)) ++ t175) ++ (⟨#[32]⟩ : ByteArray)).size + t176.size ≤ 9223372036854775807 then (if ((((((((((((t170 ++ (⟨#[32]⟩ : ByteArray)) ++ t171) ++ (⟨#[32]⟩ : ByteArray)) ++ t172) ++ (⟨#[32]⟩ : ByteArray)) ++ t173) ++ (⟨#[45]⟩ : ByteArray)) ++ t174) ++ (⟨#[32]⟩ : ByteArray)) ++ t175) ++ (⟨#[32]⟩ : ByteArray)) ++ t176).size + 1 ≤ 9223372036854775807 then ((spec_FormatInt.f k a0_7).bind fun t177 => (if (((((((((((((t170 ++ (⟨#[32]⟩ : ByteArray)) ++ t171) ++ (⟨#[32]⟩ : ByteArray)) ++ t172) ++ (⟨#[32]⟩ : ByteArray)) ++ t173) ++ (⟨#[45]⟩ : ByteArray)) ++ t174) ++ (⟨#[32]⟩ : ByteArray)) ++ t175) ++ (⟨#[32]⟩ : ByteArray)) ++ t176) ++ (⟨#[45]⟩ : ByteArray)).size + t177.size ≤ 9223372036854775807 then (some ((((((((((((((t170 ++ (⟨#[32]⟩ : ByteArray)) ++ t171) ++ (⟨#[32]⟩ : ByteArray)) ++ t172) ++ (⟨#[32]⟩ : ByteArray)) ++ t173) ++ (⟨#[45]⟩ : ByteArray)) ++ t174) ++ (⟨#[32]⟩ : ByteArray)) ++ t175) ++ (⟨#[32]⟩ : ByteArray)) ++ t176) ++ (⟨#[45]⟩ : ByteArray)) ++ t177)) else (none))) else (none)) else (none))) else (none)) else (none))) else (none)) else (none))) else (none)) else (none)) = some r := H
       have A12 := Aside0.mk A120
       clear A120
       by_cases c13 : (((((t170 ++ (⟨#[32]⟩ : ByteArray)) ++ t171) ++ (⟨#[32]⟩ : ByteArray)) ++ t172) ++ (⟨#[32]⟩ : ByteArray)).size + t173.size ≤ 9223372036854775807
       ·
        rw [if_pos c13] at H
        have c13b0 := eq_true c13
        have c13b1 : decide ((((((t170 ++ (⟨#[32]⟩ : ByteArray)) ++ t171) ++ (⟨#[32]⟩ : ByteArray)) ++ t172) ++ (⟨#[32]⟩ : ByteArray)).size + t173.size ≤ 9223372036854775807) = true := decide_eq_true c13
        try have c13b2 : (9223372036854775807 < (((((t170 ++ (⟨#[32]⟩ : ByteArray)) ++ t171) ++ (⟨#[32]⟩ : ByteArray)) ++ t172) ++ (⟨#[32]⟩ : ByteArray)).size + t173.size) = False := eq_false (Nat.not_lt.2 c13)
        try have c13b3 : (9223372036854775807 < t170.size + 1 + t171.size + 1 + t172.size + 1 + t173.size) = False := eq_false (Nat.not_lt.2 (by have h_ := c13; simp only [ByteArray.size_append] at h_; exact h_))
        by_cases c14 : ((((((t170 ++ (⟨#[32]⟩ : ByteArray)) ++ t171) ++ (⟨#[32]⟩ : ByteArray)) ++ t172) ++ (⟨#[32]⟩ : ByteArray)) ++ t173).size + 1 ≤ 9223372036854775807
        ·
         rw [if_pos c14] at H
         have c14b0 := eq_true c14
         have c14b1 : decide (((((((t170 ++ (⟨#[32]⟩ : ByteArray)) ++ t171) ++ (⟨#[32]⟩ : ByteArray)) ++ t172) ++ (⟨#[32]⟩ : ByteArray)) ++ t173).size + 1 ≤ 9223372036854775807) = true := decide_eq_true c14
         try have c14b2 : (9223372036854775807 < ((((((t170 ++ (⟨#[32]⟩ : ByteArray)) ++ t171) ++ (⟨#[32]⟩ : ByteArray)) ++ t172) ++ (⟨#[32]⟩ : ByteArray)) ++ t173).size + 1) = False := eq_false (Nat.not_lt.2 c14)
         try have c14b3 : (9223372036854775807 < t170.size + 1 + t171.size + 1 + t172.size + 1 + t173.size + 1) = False := eq_false (Nat.not_lt.2 (by have h_ := c14; simp only [ByteArray.size_append] at h_; exact h_))
         replace H := Option.bind_eq_some_iff.mp H
         obtain ⟨t174, A150, H⟩ := H
         replace H : (if (((((((t170 ++ (⟨#[32]⟩ : ByteArray)) ++ t171) ++ (⟨#[32]⟩ : ByteArray)) ++ t172) ++ (⟨#[32]⟩ : ByteArray)) ++ t173) ++ (⟨#[45]⟩ : ByteArray)).size + t174.size ≤ 9223372036854775807 then (if ((((((((t170 ++ (⟨#[32]⟩ : ByteArray)) ++ t171) ++ (⟨#[32]⟩ : ByteArray)) ++ t172) ++ (⟨#[32]⟩ : ByteArray)) ++ t173) ++ (⟨#[45]⟩ : ByteArray)) ++ t174).size + 1 ≤ 9223372036854775807 then ((spec_ListText.f k l0_5).bind fun t175 => (if (((((((((t170 ++ (⟨#[32]⟩ : ByteArray)) ++ t171) ++ (⟨#[32]⟩ : ByteArray)) ++ t172) ++ (⟨#[32]⟩ : ByteArray)) ++ t173) ++ (⟨#[45]⟩ : ByteArray)) ++ t174) ++ (⟨#[32]⟩ : ByteArray)).size + t175.size ≤ 9223372036854775807 then (if ((((((((((t170 ++ (⟨#[32]⟩ : ByteArray)) ++ t171) ++ (⟨#[32]⟩ : ByteArray)) ++ t172) ++ (⟨#[32]⟩ : ByteArray)) ++ t173) ++ (⟨#[45]⟩ : ByteArray)) ++ t174) ++ (⟨#[32]⟩ : ByteArray)) ++ t175).size + 1 ≤ 9223372036854775807 then ((spec_FormatInt.f k a0_6).bind fun t176 => (if (((((((((((t170 ++ (⟨#[32]⟩ : ByteArray)) ++ t171) ++ (⟨#[32]⟩ : ByteArray)) ++ t172) ++ (⟨#[32]⟩ : ByteArray)) ++ t173) ++ (⟨#[45]⟩ : ByteArray)) ++ t174) ++ (⟨#[32]⟩ : ByteArray)) ++ t175) ++ (⟨#[32]⟩ : ByteArray)).size + t176.size ≤ 9223372036854775807 then (if ((((((((((((t170 ++ (⟨#[32]⟩ : ByteArray)) ++ t171) ++ (⟨#[32]⟩ : ByteArray)) ++ t172) ++ (⟨#[32]⟩ : ByteArray)) ++ t173) ++ (⟨#[45]⟩ : ByteArray)) ++ t174) ++ (⟨#[32]⟩ : ByteArray)) ++ t175) ++ (⟨#[32]⟩ : ByteArray)) ++ t176).size + 1 ≤ 9223372036854775807 then ((spec_FormatInt.f k a0_7).bind fun t177 => (if (((((((((((((t170 ++ (⟨#[32]⟩ : ByteArray)) ++ t171) ++ (⟨#[32]⟩ : ByteArray)) ++ t172) ++ (⟨#[32]⟩ : ByteArray)) ++ t173) ++ (⟨#[45]⟩ : ByteArray)) ++ t174) ++ (⟨#[32]⟩ : ByteArray)) ++ t175) ++ (⟨#[32]⟩ : ByteArray)) ++ t176) ++ (⟨#[45]⟩ : ByteArray)).size + t177.size ≤ 9223372036854775807 then (some ((((((((((((((t170 ++ (⟨#[32]⟩ : ByteArray)) ++ t171) ++ (⟨#[32]⟩ : ByteArray)) ++ t172) ++ (⟨#[32]⟩ : ByteArray)) ++ t173) ++ (⟨#[45]⟩ : ByteArray)) ++ t174) ++ (⟨#[32]⟩ : ByteArray)) ++ t175) ++ (⟨#[32]⟩ : ByteArray)) ++ t176) ++ (⟨#[45]⟩ : ByteArray)) ++ t177)) else (none))) else (none)) else (none))) else (none)) else (none))) else (none)) else (none)) = some r := H
         have A15 := Aside0.mk A150
         clear A150
         by_cases c16 : (((((((t170 ++ (⟨#[32]⟩ : ByteArray)) ++ t171) ++ (⟨#[32]⟩ : ByteArray)) ++ t172) ++ (⟨#[32]⟩ : ByteArray)) ++ t173) ++ (⟨#[45]⟩ : ByteArray)).size + t174.size ≤ 9223372036854775807
         ·
          rw [if_pos c16] at H
          have c16b0 := eq_true c16
          have c16b1 : decide ((((((((t170 ++ (⟨#[32]⟩ : ByteArray)) ++ t171) ++ (⟨#[32]⟩ : ByteArray)) ++ t172) ++ (⟨#[32]⟩ : ByteArray)) ++ t173) ++ (⟨#[45]⟩ : ByteArray)).size + t174.size ≤ 9223372036854775807) = true := decide_eq_true c16
          try have c16b2 : (9223372036854775807 < (((((((t170 ++ (⟨#[32]⟩ : ByteArray)) ++ t171) ++ (⟨#[32]⟩ : ByteArray)) ++ t172) ++ (⟨#[32]⟩ : ByteArray)) ++ t173) ++ (⟨#[45]⟩ : ByteArray)).size + t174.size) = False := eq_false (Nat.not_lt.2 c16)
          try have c16b3 : (9223372036854775807 < t170.size + 1 + t171.size + 1 + t172.size + 1 + t173.size + 1 + t174.size) = False := eq_false (Nat.not_lt.2 (by have h_ := c16; simp only [ByteArray.size_append] at h_; exact h_))
          by_cases c17 : ((((((((t170 ++ (⟨#[32]⟩ : ByteArray)) ++ t171) ++ (⟨#[32]⟩ : ByteArray)) ++ t172) ++ (⟨#[32]⟩ : ByteArray)) ++ t173) ++ (⟨#[45]⟩ : ByteArray)) ++ t174).size + 1 ≤ 9223372036854775807
          ·
           rw [if_pos c17] at H
           have c17b0 := eq_true c17
           have c17b1 : decide (((((((((t170 ++ (⟨#[32]⟩ : ByteArray)) ++ t171) ++ (⟨#[32]⟩ : ByteArray)) ++ t172) ++ (⟨#[32]⟩ : ByteArray)) ++ t173) ++ (⟨#[45]⟩ : ByteArray)) ++ t174).size + 1 ≤ 9223372036854775807) = true := decide_eq_true c17
           try have c17b2 : (9223372036854775807 < ((((((((t170 ++ (⟨#[32]⟩ : ByteArray)) ++ t171) ++ (⟨#[32]⟩ : ByteArray)) ++ t172) ++ (⟨#[32]⟩ : ByteArray)) ++ t173) ++ (⟨#[45]⟩ : ByteArray)) ++ t174).size + 1) = False := eq_false (Nat.not_lt.2 c17)
           try have c17b3 : (9223372036854775807 < t170.size + 1 + t171.size + 1 + t172.size + 1 + t173.size + 1 + t174.size + 1) = False := eq_false (Nat.not_lt.2 (by have h_ := c17; simp only [ByteArray.size_append] at h_; exact h_))
           replace H := Option.bind_eq_some_iff.mp H
           obtain ⟨t175, A180, H⟩ := H
           replace H : (if (((((((((t170 ++ (⟨#[32]⟩ : ByteArray)) ++ t171) ++ (⟨#[32]⟩ : ByteArray)) ++ t172) ++ (⟨#[32]⟩ : ByteArray)) ++ t173) ++ (⟨#[45]⟩ : ByteArray)) ++ t174) ++ (⟨#[32]⟩ : ByteArray)).size + t175.size ≤ 9223372036854775807 then (if ((((((((((t170 ++ (⟨#[32]⟩ : ByteArray)) ++ t171) ++ (⟨#[32]⟩ : ByteArray)) ++ t172) ++ (⟨#[32]⟩ : ByteArray)) ++ t173) ++ (⟨#[45]⟩ : ByteArray)) ++ t174) ++ (⟨#[32]⟩ : ByteArray)) ++ t175).size + 1 ≤ 9223372036854775807 then ((spec_FormatInt.f k a0_6).bind fun t176 => (if (((((((((((t170 ++ (⟨#[32]⟩ : ByteArray)) ++ t171) ++ (⟨#[32]⟩ : ByteArray)) ++ t172) ++ (⟨#[32]⟩ : ByteArray)) ++ t173) ++ (⟨#[45]⟩ : ByteArray)) ++ t174) ++ (⟨#[32]⟩ : ByteArray)) ++ t175) ++ (⟨#[32]⟩ : ByteArray)).size + t176.size ≤ 9223372036854775807 then (if ((((((((((((t170 ++ (⟨#[32]⟩ : ByteArray)) ++ t171) ++ (⟨#[32]⟩ : ByteArray)) ++ t172) ++ (⟨#[32]⟩ : ByteArray)) ++ t173) ++ (⟨#[45]⟩ : ByteArray)) ++ t174) ++ (⟨#[32]⟩ : ByteArray)) ++ t175) ++ (⟨#[32]⟩ : ByteArray)) ++ t176).size + 1 ≤ 9223372036854775807 then ((spec_FormatInt.f k a0_7).bind fun t177 => (if (((((((((((((t170 ++ (⟨#[32]⟩ : ByteArray)) ++ t171) ++ (⟨#[32]⟩ : ByteArray)) ++ t172) ++ (⟨#[32]⟩ : ByteArray)) ++ t173) ++ (⟨#[45]⟩ : ByteArray)) ++ t174) ++ (⟨#[32]⟩ : ByteArray)) ++ t175) ++ (⟨#[32]⟩ : ByteArray)) ++ t176) ++ (⟨#[45]⟩ : ByteArray)).size + t177.size ≤ 9223372036854775807 then (some ((((((((((((((t170 ++ (⟨#[32]⟩ : ByteArray)) ++ t171) ++ (⟨#[32]⟩ : ByteArray)) ++ t172) ++ (⟨#[32]⟩ : ByteArray)) ++ t173) ++ (⟨#[45]⟩ : ByteArray)) ++ t174) ++ (⟨#[32]⟩ : ByteArray)) ++ t175) ++ (⟨#[32]⟩ : ByteArray)) ++ t176) ++ (⟨#[45]⟩ : ByteArray)) ++ t177)) else (none))) else (none)) else (none))) else (none)) else (none)) = some r := H
           have A18 := Aside0.mk A180
           clear A180
           by_cases c19 : (((((((((t170 ++ (⟨#[32]⟩ : ByteArray)) ++ t171) ++ (⟨#[32]⟩ : ByteArray)) ++ t172) ++ (⟨#[32]⟩ : ByteArray)) ++ t173) ++ (⟨#[45]⟩ : ByteArray)) ++ t174) ++ (⟨#[32]⟩ : ByteArray)).size + t175.size ≤ 9223372036854775807
           ·
            rw [if_pos c19] at H
            have c19b0 := eq_true c19
            have c19b1 : decide ((((((((((t170 ++ (⟨#[32]⟩ : ByteArray)) ++ t171) ++ (⟨#[32]⟩ : ByteArray)) ++ t172) ++ (⟨#[32]⟩ : ByteArray)) ++ t173) ++ (⟨#[45]⟩ : ByteArray)) ++ t174) ++ (⟨#[32]⟩ : ByteArray)).size + t175.size ≤ 9223372036854775807) = true := decide_eq_true c19
            try have c19b2 : (9223372036854775807 < (((((((((t170 ++ (⟨#[32]⟩ : ByteArray)) ++ t171) ++ (⟨#[32]⟩ : ByteArray)) ++ t172) ++ (⟨#[32]⟩ : ByteArray)) ++ t173) ++ (⟨#[45]⟩ : ByteArray)) ++ t174) ++ (⟨#[32]⟩ : ByteArray)).size + t175.size) = False := eq_false (Nat.not_lt.2 c19)
            try have c19b3 : (9223372036854775807 < t170.size + 1 + t171.size + 1 + t172.size + 1 + t173.size + 1 + t174.size + 1 + t175.size) = False := eq_false (Nat.not_lt.2 (by have h_ := c19; simp only [ByteArray.size_append] at h_; exact h_))
            by_cases c20 : ((((((((((t170 ++ (⟨#[32]⟩ : ByteArray)) ++ t171) ++ (⟨#[32]⟩ : ByteArray)) ++ t172) ++ (⟨#[32]⟩ : ByteArray)) ++ t173) ++ (⟨#[45]⟩ : ByteArray)) ++ t174) ++ (⟨#[32]⟩ : ByteArray)) ++ t175).size + 1 ≤ 9223372036854775807
            ·
             rw [if_pos c20] at H
             have c20b0 := eq_true c20
             have c20b1 : decide (((((((((((t170 ++ (⟨#[32]⟩ : ByteArray)) ++ t171) ++ (⟨#[32]⟩ : ByteArray)) ++ t172) ++ (⟨#[32]⟩ : ByteArray)) ++ t173) ++ (⟨#[45]⟩ : ByteArray)) ++ t174) ++ (⟨#[32]⟩ : ByteArray)) ++ t175).size + 1 ≤ 9223372036854775807) = true := decide_eq_true c20
             try have c20b2 : (9223372036854775807 < ((((((((((t170 ++ (⟨#[32]⟩ : ByteArray)) ++ t171) ++ (⟨#[32]⟩ : ByteArray)) ++ t172) ++ (⟨#[32]⟩ : ByteArray)) ++ t173) ++ (⟨#[45]⟩ : ByteArray)) ++ t174) ++ (⟨#[32]⟩ : ByteArray)) ++ t175).size + 1) = False := eq_false (Nat.not_lt.2 c20)
             try have c20b3 : (9223372036854775807 < t170.size + 1 + t171.size + 1 + t172.size + 1 + t173.size + 1 + t174.size + 1 + t175.size + 1) = False := eq_false (Nat.not_lt.2 (by have h_ := c20; simp only [ByteArray.size_append] at h_; exact h_))
             replace H := Option.bind_eq_some_iff.mp H
             obtain ⟨t176, A210, H⟩ := H
             replace H : (if (((((((((((t170 ++ (⟨#[32]⟩ : ByteArray)) ++ t171) ++ (⟨#[32]⟩ : ByteArray)) ++ t172) ++ (⟨#[32]⟩ : ByteArray)) ++ t173) ++ (⟨#[45]⟩ : ByteArray)) ++ t174) ++ (⟨#[32]⟩ : ByteArray)) ++ t175) ++ (⟨#[32]⟩ : ByteArray)).size + t176.size ≤ 9223372036854775807 then (if ((((((((((((t170 ++ (⟨#[32]⟩ : ByteArray)) ++ t171) ++ (⟨#[32]⟩ : ByteArray)) ++ t172) ++ (⟨#[32]⟩ : ByteArray)) ++ t173) ++ (⟨#[45]⟩ : ByteArray)) ++ t174) ++ (⟨#[32]⟩ : ByteArray)) ++ t175) ++ (⟨#[32]⟩ : ByteArray)) ++ t176).size + 1 ≤ 9223372036854775807 then ((spec_FormatInt.f k a0_7).bind fun t177 => (if (((((((((((((t170 ++ (⟨#[32]⟩ : ByteArray)) ++ t171) ++ (⟨#[32]⟩ : ByteArray)) ++ t172) ++ (⟨#[32]⟩ : ByteArray)) ++ t173) ++ (⟨#[45]⟩ : ByteArray)) ++ t174) ++ (⟨#[32]⟩ : ByteArray)) ++ t175) ++ (⟨#[32]⟩ : ByteArray)) ++ t176) ++ (⟨#[45]⟩ : ByteArray)).size + t177.size ≤ 9223372036854775807 then (some ((((((((((((((t170 ++ (⟨#[32]⟩ : ByteArray)) ++ t171) ++ (⟨#[32]⟩ : ByteArray)) ++ t172) ++ (⟨#[32]⟩ : ByteArray)) ++ t173) ++ (⟨#[45]⟩ : ByteArray)) ++ t174) ++ (⟨#[32]⟩ : ByteArray)) ++ t175) ++ (⟨#[32]⟩ : ByteArray)) ++ t176) ++ (⟨#[45]⟩ : ByteArray)) ++ t177)) else (none))) else (none)) else (none)) = some r := H
             have A21 := Aside0.mk A210
             clear A210
             by_cases c22 : (((((((((((t170 ++ (⟨#[32]⟩ : ByteArray)) ++ t171) ++ (⟨#[32]⟩ : ByteArray)) ++ t172) ++ (⟨#[32]⟩ : ByteArray)) ++ t173) ++ (⟨#[45]⟩ : ByteArray)) ++ t174) ++ (⟨#[32]⟩ : ByteArray)) ++ t175) ++ (⟨#[32]⟩ : ByteArray)).size + t176.size ≤ 9223372036854775807
             ·
              rw [if_pos c22] at H
              have c22b0 := eq_true c22
              have c22b1 : decide ((((((((((((t170 ++ (⟨#[32]⟩ : ByteArray)) ++ t171) ++ (⟨#[32]⟩ : ByteArray)) ++ t172) ++ (⟨#[32]⟩ : ByteArray)) ++ t173) ++ (⟨#[45]⟩ : ByteArray)) ++ t174) ++ (⟨#[32]⟩ : ByteArray)) ++ t175) ++ (⟨#[32]⟩ : ByteArray)).size + t176.size ≤ 9223372036854775807) = true := decide_eq_true c22
              try have c22b2 : (9223372036854775807 < (((((((((((t170 ++ (⟨#[32]⟩ : ByteArray)) ++ t171) ++ (⟨#[32]⟩ : ByteArray)) ++ t172) ++ (⟨#[32]⟩ : ByteArray)) ++ t173) ++ (⟨#[45]⟩ : ByteArray)) ++ t174) ++ (⟨#[32]⟩ : ByteArray)) ++ t175) ++ (⟨#[32]⟩ : ByteArray)).size + t176.size) = False := eq_false (Nat.not_lt.2 c22)
              try have c22b3 : (9223372036854775807 < t170.size + 1 + t171.size + 1 + t172.size + 1 + t173.size + 1 + t174.size + 1 + t175.size + 1 + t176.size) = False := eq_false (Nat.not_lt.2 (by have h_ := c22; simp only [ByteArray.size_append] at h_; exact h_))
              by_cases c23 : ((((((((((((t170 ++ (⟨#[32]⟩ : ByteArray)) ++ t171) ++ (⟨#[32]⟩ : ByteArray)) ++ t172) ++ (⟨#[32]⟩ : ByteArray)) ++ t173) ++ (⟨#[45]⟩ : ByteArray)) ++ t174) ++ (⟨#[32]⟩ : ByteArray)) ++ t175) ++ (⟨#[32]⟩ : ByteArray)) ++ t176).size + 1 ≤ 9223372036854775807
              ·
               rw [if_pos c23] at H
               have c23b0 := eq_true c23
               have c23b1 : decide (((((((((((((t170 ++ (⟨#[32]⟩ : ByteArray)) ++ t171) ++ (⟨#[32]⟩ : ByteArray)) ++ t172) ++ (⟨#[32]⟩ : ByteArray)) ++ t173) ++ (⟨#[45]⟩ : ByteArray)) ++ t174) ++ (⟨#[32]⟩ : ByteArray)) ++ t175) ++ (⟨#[32]⟩ : ByteArray)) ++ t176).size + 1 ≤ 9223372036854775807) = true := decide_eq_true c23
               try have c23b2 : (9223372036854775807 < ((((((((((((t170 ++ (⟨#[32]⟩ : ByteArray)) ++ t171) ++ (⟨#[32]⟩ : ByteArray)) ++ t172) ++ (⟨#[32]⟩ : ByteArray)) ++ t173) ++ (⟨#[45]⟩ : ByteArray)) ++ t174) ++ (⟨#[32]⟩ : ByteArray)) ++ t175) ++ (⟨#[32]⟩ : ByteArray)) ++ t176).size + 1) = False := eq_false (Nat.not_lt.2 c23)
               try have c23b3 : (9223372036854775807 < t170.size + 1 + t171.size + 1 + t172.size + 1 + t173.size + 1 + t174.size + 1 + t175.size + 1 + t176.size + 1) = False := eq_false (Nat.not_lt.2 (by have h_ := c23; simp only [ByteArray.size_append] at h_; exact h_))
               replace H := Option.bind_eq_some_iff.mp H
               obtain ⟨t177, A240, H⟩ := H
               replace H : (if (((((((((((((t170 ++ (⟨#[32]⟩ : ByteArray)) ++ t171) ++ (⟨#[32]⟩ : ByteArray)) ++ t172) ++ (⟨#[32]⟩ : ByteArray)) ++ t173) ++ (⟨#[45]⟩ : ByteArray)) ++ t174) ++ (⟨#[32]⟩ : ByteArray)) ++ t175) ++ (⟨#[32]⟩ : ByteArray)) ++ t176) ++ (⟨#[45]⟩ : ByteArray)).size + t177.size ≤ 9223372036854775807 then (some ((((((((((((((t170 ++ (⟨#[32]⟩ : ByteArray)) ++ t171) ++ (⟨#[32]⟩ : ByteArray)) ++ t172) ++ (⟨#[32]⟩ : ByteArray)) ++ t173) ++ (⟨#[45]⟩ : ByteArray)) ++ t174) ++ (⟨#[32]⟩ : ByteArray)) ++ t175) ++ (⟨#[32]⟩ : ByteArray)) ++ t176) ++ (⟨#[45]⟩ : ByteArray)) ++ t177)) else (none)) = some r := H
               have A24 := Aside0.mk A240
               clear A240
               by_cases c25 : (((((((((((((t170 ++ (⟨#[32]⟩ : ByteArray)) ++ t171) ++ (⟨#[32]⟩ : ByteArray)) ++ t172) ++ (⟨#[32]⟩ : ByteArray)) ++ t173) ++ (⟨#[45]⟩ : ByteArray)) ++ t174) ++ (⟨#[32]⟩ : ByteArray)) ++ t175) ++ (⟨#[32]⟩ : ByteArray)) ++ t176) ++ (⟨#[45]⟩ : ByteArray)).size + t177.size ≤ 9223372036854775807
               ·
                rw [if_pos c25] at H
                have c25b0 := eq_true c25
                have c25b1 : decide ((((((((((((((t170 ++ (⟨#[32]⟩ : ByteArray)) ++ t171) ++ (⟨#[32]⟩ : ByteArray)) ++ t172) ++ (⟨#[32]⟩ : ByteArray)) ++ t173) ++ (⟨#[45]⟩ : ByteArray)) ++ t174) ++ (⟨#[32]⟩ : ByteArray)) ++ t175) ++ (⟨#[32]⟩ : ByteArray)) ++ t176) ++ (⟨#[45]⟩ : ByteArray)).size + t177.size ≤ 9223372036854775807) = true := decide_eq_true c25
                try have c25b2 : (9223372036854775807 < (((((((((((((t170 ++ (⟨#[32]⟩ : ByteArray)) ++ t171) ++ (⟨#[32]⟩ : ByteArray)) ++ t172) ++ (⟨#[32]⟩ : ByteArray)) ++ t173) ++ (⟨#[45]⟩ : ByteArray)) ++ t174) ++ (⟨#[32]⟩ : ByteArray)) ++ t175) ++ (⟨#[32]⟩ : ByteArray)) ++ t176) ++ (⟨#[45]⟩ : ByteArray)).size + t177.size) = False := eq_false (Nat.not_lt.2 c25)
                try have c25b3 : (9223372036854775807 < t170.size + 1 + t171.size + 1 + t172.size + 1 + t173.size + 1 + t174.size + 1 + t175.size + 1 + t176.size + 1 + t177.size) = False := eq_false (Nat.not_lt.2 (by have h_ := c25; simp only [ByteArray.size_append] at h_; exact h_))
                obtain rfl := Option.some.inj H
                go_enter Tryd.func36, Tryd.ntmps36
                try go_wp2_with (first | ((with_reducible refine gate_dst (N := 1) rfl ?_); refine box_event ?hg (N := 1) ?hd (cs := #[.int .i64 a0_0, .int .i64 a0_1, .slice A0_2 l0_2.length c0_2, .int .i64 a0_3, .int .i64 a0_4, .slice A0_5 l0_5.length c0_5, .int .i64 a0_6, .int .i64 a0_7]) (t := 28) ?hr ?_; (case hd => rfl); (case hg => rfl); (case hr => first | (go_simp; done) | (go_simp; rfl)); intro gb168 hg w26 hbox hb; have n0_ := Aside0.mk (below_step (by repeat (first | (with_reducible first | exact HB.out | apply below_alloc | apply pw_below_drewN | apply below_drew1) | exact HB.out)) hb); have n1_ := Aside0.mk (hbox); have n2_ := Aside0.mk ((by rw [hg]; exact (below_size (by repeat (first | (with_reducible first | exact HB.out | apply below_alloc | apply pw_below_drewN | apply below_drew1) | exact HB.out))) : w.heap.size ≤ gb168)); have n3_ := Aside0.mk ((by rw [hg]; exact (below_size (by repeat (first | (with_reducible first | exact HB.out | apply below_alloc | apply pw_below_drewN | apply below_drew1) | exact HB.out))) : w.heap.size ≤ gb168)); clear HB; have HB := n0_; have BK168 := n1_; have GW168 := n2_; have GE168 := n3_; clear n0_ n1_ n2_ n3_; clear hb hbox hg; have hcz27_0 : w26.cell? ⟨gb168, 0, none⟩ = some (.int .i64 a0_0) := (blk_cell BK168.out 0).trans rfl; have hcz27_1 : w26.cell? ⟨gb168, 1, none⟩ = some (.int .i64 a0_1) := (blk_cell BK168.out 1).trans rfl; have hcz27_2 : w26.cell? ⟨gb168, 2, none⟩ = some (.slice A0_2 l0_2.length c0_2) := (blk_cell BK168.out 2).trans rfl; have hcz27_3 : w26.cell? ⟨gb168, 3, none⟩ = some (.int .i64 a0_3) := (blk_cell BK168.out 3).trans rfl; have hcz27_4 : w26.cell? ⟨gb168, 4, none⟩ = some (.int .i64 a0_4) := (blk_cell BK168.out 4).trans rfl; have hcz27_5 : w26.cell? ⟨gb168, 5, none⟩ = some (.slice A0_5 l0_5.length c0_5) := (blk_cell BK168.out 5).trans rfl; have hcz27_6 : w26.cell? ⟨gb168, 6, none⟩ = some (.int .i64 a0_6) := (blk_cell BK168.out 6).trans rfl; have hcz27_7 : w26.cell? ⟨gb168, 7, none⟩ = some (.int .i64 a0_7) := (blk_cell BK168.out 7).trans rfl; have hfz27_0 := blk_frozen BK168.out 0; have hfz27_1 := blk_frozen BK168.out 1; have hfz27_2 := blk_frozen BK168.out 2; have hfz27_3 := blk_frozen BK168.out 3; have hfz27_4 := blk_frozen BK168.out 4; have hfz27_5 := blk_frozen BK168.out 5; have hfz27_6 := blk_frozen BK168.out 6; have hfz27_7 := blk_frozen BK168.out 7) | ((with_reducible refine gate_callee (f := 69) rfl ?_); refine goesL_ (some 4) rfl rfl Tryd.func69 (by kernel_rfl) rfl #[.agg #[.int .i64 a0_0, .int .i64 a0_1, .slice A0_2 l0_2.length c0_2, .int .i64 a0_3, .int .i64 a0_4, .slice A0_5 l0_5.length c0_5, .int .i64 a0_6, .int .i64 a0_7]] rfl (by (try simp only [List.map_toArray, List.map_cons, List.map_nil]); first | done | rfl | (simp only [List.length_drop, List.length_take]; rfl)) ?_; (with_reducible refine (spec_IsReport.calls k a0_0 a0_1 _ _ l0_2 a0_3 a0_4 _ _ l0_5 a0_6 a0_7 true _ ?side1 ?side2 ?side3 ?side4 A2.out).mono ?_); (case side1 => repeat (first | exact (Kd.C_below HR0_2.out HB.out) | (with_reducible refine Kd.C_alloc ?_ _) | (with_reducible refine Kd.C_drewN ?_ _) | (with_reducible refine Kd.C_drew ?_))); (case side2 => exact HC0_2.out); (case side3 => repeat (first | exact (Kd.C_below HR0_5.out HB.out) | (with_reducible refine Kd.C_alloc ?_ _) | (with_reducible refine Kd.C_drewN ?_ _) | (with_reducible refine Kd.C_drew ?_))); (case side4 => exact HC0_5.out); rintro e w28 ⟨rfl, hb⟩; refine ⟨_, rfl, ?_⟩; have n0_ := Aside0.mk (blk_below (g := gb168) (o := .cells #[.int .i64 a0_0, .int .i64 a0_1, .slice A0_2 l0_2.length c0_2, .int .i64 a0_3, .int .i64 a0_4, .slice A0_5 l0_5.length c0_5, .int .i64 a0_6, .int .i64 a0_7] 28 (0, 0)) (by (with_reducible repeat (first | refine blk_drewN ?_ _ | refine blk_drew ?_ | refine blk_alloc ?_ _)); exact BK168.out) hb); have n1_ := Aside0.mk (below_step (by repeat (first | (with_reducible first | exact HB.out | apply below_alloc | apply pw_below_drewN | apply below_drew1 | refine below_set ?_ GE168.out) | exact HB.out)) hb); clear BK168; clear HB; have BK168 := n0_; have HB := n1_; clear n0_ n1_; (try clear hb); (try clear hb2); (try clear hk); (try clear hi)))
                have n0_ := Aside0.mk (blk_drew BK168.out)
                have n1_ := Aside0.mk (below_drew1 HB.out)
                clear BK168
                clear HB
                have BK168 := n0_
                have HB := n1_
                clear n0_ n1_
                refine start_ (n := 41) (S := fun w' => w'.cell? ⟨gb168, 0, none⟩ = some (.int .i64 a0_0) ∧ w'.cell? ⟨gb168, 1, none⟩ = some (.int .i64 a0_1) ∧ w'.cell? ⟨gb168, 2, none⟩ = some (.slice A0_2 l0_2.length c0_2) ∧ w'.cell? ⟨gb168, 3, none⟩ = some (.int .i64 a0_3) ∧ w'.cell? ⟨gb168, 4, none⟩ = some (.int .i64 a0_4) ∧ w'.cell? ⟨gb168, 5, none⟩ = some (.slice A0_5 l0_5.length c0_5) ∧ w'.cell? ⟨gb168, 6, none⟩ = some (.int .i64 a0_6) ∧ w'.cell? ⟨gb168, 7, none⟩ = some (.int .i64 a0_7)) (ds := []) M1_0 (by kernel_rfl) rfl rfl ⟨(blk_cell BK168.out 0).trans rfl, (blk_cell BK168.out 1).trans rfl, (blk_cell BK168.out 2).trans rfl, (blk_cell BK168.out 3).trans rfl, (blk_cell BK168.out 4).trans rfl, (blk_cell BK168.out 5).trans rfl, (blk_cell BK168.out 6).trans rfl, (blk_cell BK168.out 7).trans rfl⟩ (fun hHeld => ?_); refine with_tabW spec_ReportText.tab3 spec_ReportText.bits3 (fun HT_ HW_ => ?_)
                generalize w28.drew = w29 at BK168 HB hHeld ⊢
                refine pure_ (i := 0) (N := some 6) (v := ?_) (a' := ?_) M1_1 rfl rfl (any_of HT_.out (by kernel_rfl)) (fun _ _ _ h => h) (Or.inl ⟨by rfl, ?_⟩) ?_ ?_
                rotate_left; · intro w'; go_simp; with_reducible rfl
                rotate_left; · simp only [Act.put, P1_1, P1_2, P1_3, i64_w, i32_w]; rfl
                refine pure_ (i := 4) (N := some 10) (v := ?_) (a' := ?_) M1_2 rfl rfl (any_of HT_.out (by kernel_rfl)) (fun _ _ _ h => h) (Or.inl ⟨by rfl, ?_⟩) ?_ ?_
                rotate_left; · intro w'; go_simp; with_reducible rfl
                rotate_left; · simp only [Act.put, P1_1, P1_2, P1_3, i64_w, i32_w]; rfl
                refine pure_ (i := 9) (N := some 15) (v := ?_) (a' := ?_) M1_3 rfl rfl (any_of HT_.out (by kernel_rfl)) (fun _ _ _ h => h) (Or.inl ⟨by rfl, ?_⟩) ?_ ?_
                rotate_left; · intro w'; go_simp; with_reducible rfl
                rotate_left; · simp only [Act.put, P1_1, P1_2, P1_3, i64_w, i32_w]; rfl
                refine pure_ (i := 14) (N := some 20) (v := ?_) (a' := ?_) M1_4 rfl rfl (any_of HT_.out (by kernel_rfl)) (fun _ _ _ h => h) (Or.inl ⟨by rfl, ?_⟩) ?_ ?_
                rotate_left; · intro w'; go_simp; with_reducible rfl
                rotate_left; · simp only [Act.put, P1_1, P1_2, P1_3, i64_w, i32_w]; rfl
                refine pure_ (i := 19) (N := some 25) (v := ?_) (a' := ?_) M1_5 rfl rfl (any_of HT_.out (by kernel_rfl)) (fun _ _ _ h => h) (Or.inl ⟨by rfl, ?_⟩) ?_ ?_
                rotate_left; · intro w'; go_simp; with_reducible rfl
                rotate_left; · simp only [Act.put, P1_1, P1_2, P1_3, i64_w, i32_w]; rfl
                refine pure_ (i := 24) (N := some 30) (v := ?_) (a' := ?_) M1_6 rfl rfl (any_of HT_.out (by kernel_rfl)) (fun _ _ _ h => h) (Or.inl ⟨by rfl, ?_⟩) ?_ ?_
                rotate_left; · intro w'; go_simp; with_reducible rfl
                rotate_left; · simp only [Act.put, P1_1, P1_2, P1_3, i64_w, i32_w]; rfl
                refine pure_ (i := 29) (N := some 35) (v := ?_) (a' := ?_) M1_7 rfl rfl (any_of HT_.out (by kernel_rfl)) (fun _ _ _ h => h) (Or.inl ⟨by rfl, ?_⟩) ?_ ?_
                rotate_left; · intro w'; go_simp; with_reducible rfl
                rotate_left; · simp only [Act.put, P1_1, P1_2, P1_3, i64_w, i32_w]; rfl
                refine pure_ (i := 30) (N := some 36) (v := ?_) (a' := ?_) M1_8 rfl rfl (any_of HT_.out (by kernel_rfl)) (fun _ _ _ h => h) (Or.inl ⟨by rfl, ?_⟩) ?_ ?_
                rotate_left; · intro w'; go_simp; with_reducible rfl
                rotate_left; · simp only [Act.put, P1_1, P1_2, P1_3, i64_w, i32_w]; rfl
                refine pure_ (i := 35) (N := some 41) (v := ?_) (a' := ?_) M1_9 rfl rfl (any_of HT_.out (by kernel_rfl)) (fun _ _ _ h => h) (Or.inl ⟨by rfl, ?_⟩) ?_ ?_
                rotate_left; · intro w'; go_simp; with_reducible rfl
                rotate_left; · simp only [Act.put, P1_1, P1_2, P1_3, i64_w, i32_w]; rfl
                refine pure_ (i := 36) (N := some 42) (v := ?_) (a' := ?_) M1_10 rfl rfl (any_of HT_.out (by kernel_rfl)) (fun _ _ _ h => h) (Or.inl ⟨by rfl, ?_⟩) ?_ ?_
                rotate_left; · intro w'; go_simp; with_reducible rfl
                rotate_left; · simp only [Act.put, P1_1, P1_2, P1_3, i64_w, i32_w]; rfl
                refine take_ (i := 1) (N := some 7) (v := ?_) (a' := ?_) M1_11 rfl rfl (take_ofW HT_.out HW_.out (by kernel_rfl)) (fun _ _ _ h => h) (Or.inl ⟨by rfl, ?_⟩) hHeld ?_ ?_
                rotate_left; · rintro w' ⟨s0, s1, s2, s3, s4, s5, s6, s7⟩; go_simp; with_reducible rfl
                rotate_left; · simp only [Act.put, P1_1, P1_2, P1_3, i64_w, i32_w]; rfl
                refine take_ (i := 5) (N := some 11) (v := ?_) (a' := ?_) M1_12 rfl rfl (take_ofW HT_.out HW_.out (by kernel_rfl)) (fun _ _ _ h => h) (Or.inl ⟨by rfl, ?_⟩) hHeld ?_ ?_
                rotate_left; · rintro w' ⟨s0, s1, s2, s3, s4, s5, s6, s7⟩; go_simp; with_reducible rfl
                rotate_left; · simp only [Act.put, P1_1, P1_2, P1_3, i64_w, i32_w]; rfl
                refine take_ (i := 10) (N := some 16) (v := ?_) (a' := ?_) M1_13 rfl rfl (take_ofW HT_.out HW_.out (by kernel_rfl)) (fun _ _ _ h => h) (Or.inl ⟨by rfl, ?_⟩) hHeld ?_ ?_
                rotate_left; · rintro w' ⟨s0, s1, s2, s3, s4, s5, s6, s7⟩; go_simp; with_reducible rfl
                rotate_left; · simp only [Act.put, P1_1, P1_2, P1_3, i64_w, i32_w]; rfl
                refine take_ (i := 15) (N := some 21) (v := ?_) (a' := ?_) M1_14 rfl rfl (take_ofW HT_.out HW_.out (by kernel_rfl)) (fun _ _ _ h => h) (Or.inl ⟨by rfl, ?_⟩) hHeld ?_ ?_
                rotate_left; · rintro w' ⟨s0, s1, s2, s3, s4, s5, s6, s7⟩; go_simp; with_reducible rfl
                rotate_left; · simp only [Act.put, P1_1, P1_2, P1_3, i64_w, i32_w]; rfl
                refine take_ (i := 20) (N := some 26) (v := ?_) (a' := ?_) M1_15 rfl rfl (take_ofW HT_.out HW_.out (by kernel_rfl)) (fun _ _ _ h => h) (Or.inl ⟨by rfl, ?_⟩) hHeld ?_ ?_
                rotate_left; · rintro w' ⟨s0, s1, s2, s3, s4, s5, s6, s7⟩; go_simp; with_reducible rfl
                rotate_left; · simp only [Act.put, P1_1, P1_2, P1_3, i64_w, i32_w]; rfl
                refine take_ (i := 25) (N := some 31) (v := ?_) (a' := ?_) M1_16 rfl rfl (take_ofW HT_.out HW_.out (by kernel_rfl)) (fun _ _ _ h => h) (Or.inl ⟨by rfl, ?_⟩) hHeld ?_ ?_
                rotate_left; · rintro w' ⟨s0, s1, s2, s3, s4, s5, s6, s7⟩; go_simp; with_reducible rfl
                rotate_left; · simp only [Act.put, P1_1, P1_2, P1_3, i64_w, i32_w]; rfl
                refine take_ (i := 31) (N := some 37) (v := ?_) (a' := ?_) M1_17 rfl rfl (take_ofW HT_.out HW_.out (by kernel_rfl)) (fun _ _ _ h => h) (Or.inl ⟨by rfl, ?_⟩) hHeld ?_ ?_
                rotate_left; · rintro w' ⟨s0, s1, s2, s3, s4, s5, s6, s7⟩; go_simp; with_reducible rfl
                rotate_left; · simp only [Act.put, P1_1, P1_2, P1_3, i64_w, i32_w]; rfl
                refine take_ (i := 37) (N := some 43) (v := ?_) (a' := ?_) M1_18 rfl rfl (take_ofW HT_.out HW_.out (by kernel_rfl)) (fun _ _ _ h => h) (Or.inl ⟨by rfl, ?_⟩) hHeld ?_ ?_
                rotate_left; · rintro w' ⟨s0, s1, s2, s3, s4, s5, s6, s7⟩; go_simp; with_reducible rfl
                rotate_left; · simp only [Act.put, P1_1, P1_2, P1_3, i64_w, i32_w]; rfl
                refine one_ (i := 2) (N := some 8) M1_19 rfl rfl (one_of HT_.out (by kernel_rfl)) (by decide) (fun K hK => ?_)
                refine goes_ Tryd.func64 (by kernel_rfl) rfl #[.int .i64 a0_0] (by rfl) rfl rfl (by (try simp only [List.map_toArray, List.map_cons, List.map_nil]); first | done | rfl | (simp only [List.length_drop, List.length_take]; rfl)) ?_
                with_reducible refine (spec_FormatInt.calls k a0_0 t170 _ A4.out).mono ?_
                rintro e w30 ⟨rfl, hb⟩
                refine ⟨_, rfl, ?_⟩
                have n0_ := Aside0.mk (blk_below (g := gb168) (o := .cells #[.int .i64 a0_0, .int .i64 a0_1, .slice A0_2 l0_2.length c0_2, .int .i64 a0_3, .int .i64 a0_4, .slice A0_5 l0_5.length c0_5, .int .i64 a0_6, .int .i64 a0_7] 28 (0, 0)) (by (with_reducible repeat (first | refine blk_drewN ?_ _ | refine blk_drew ?_ | refine blk_alloc ?_ _)); exact BK168.out) hb)
                have n1_ := Aside0.mk (below_step (by repeat (first | (with_reducible first | exact HB.out | apply below_alloc | apply pw_below_drewN | apply below_drew1 | refine below_set ?_ GE168.out) | exact HB.out)) hb)
                clear BK168
                clear HB
                have BK168 := n0_
                have HB := n1_
                clear n0_ n1_
                (try clear hb)
                (try clear hb2)
                (try clear hk)
                (try clear hi)
                refine hK.out _ _ ⟨(blk_cell BK168.out 0).trans rfl, (blk_cell BK168.out 1).trans rfl, (blk_cell BK168.out 2).trans rfl, (blk_cell BK168.out 3).trans rfl, (blk_cell BK168.out 4).trans rfl, (blk_cell BK168.out 5).trans rfl, (blk_cell BK168.out 6).trans rfl, (blk_cell BK168.out 7).trans rfl⟩ (fun hHeld => ?_)
                clear hK K
                refine norm_ (a' := ?_) ?_ ?_
                rotate_left
                ·
                 show Act.put _ (some 8) _ = _
                 simp only [Act.put, P1_1, P1_2, P1_3, i64_w, i32_w]
                 rfl
                refine pure_ (i := 3) (N := some 9) (v := ?_) (a' := ?_) M1_20 rfl rfl (any_of HT_.out (by kernel_rfl)) (fun _ _ _ h => h) (Or.inl ⟨by rfl, ?_⟩) ?_ ?_
                rotate_left; · intro w'; go_simp; with_reducible rfl
                rotate_left; · simp only [Act.put, P1_1, P1_2, P1_3, i64_w, i32_w]; rfl
                refine one_ (i := 6) (N := some 12) M1_21 rfl rfl (one_of HT_.out (by kernel_rfl)) (by decide) (fun K hK => ?_)
                refine goes_ Tryd.func57 (by kernel_rfl) rfl #[.int .i64 a0_1] (by rfl) rfl rfl (by (try simp only [List.map_toArray, List.map_cons, List.map_nil]); first | done | rfl | (simp only [List.length_drop, List.length_take]; rfl)) ?_
                with_reducible refine (spec_KindText.calls a0_1 t171 _ A6.out).mono ?_
                rintro e w31 ⟨rfl, hb⟩
                refine ⟨_, rfl, ?_⟩
                have n0_ := Aside0.mk (blk_below (g := gb168) (o := .cells #[.int .i64 a0_0, .int .i64 a0_1, .slice A0_2 l0_2.length c0_2, .int .i64 a0_3, .int .i64 a0_4, .slice A0_5 l0_5.length c0_5, .int .i64 a0_6, .int .i64 a0_7] 28 (0, 0)) (by (with_reducible repeat (first | refine blk_drewN ?_ _ | refine blk_drew ?_ | refine blk_alloc ?_ _)); exact BK168.out) hb)
                have n1_ := Aside0.mk (below_step (by repeat (first | (with_reducible first | exact HB.out | apply below_alloc | apply pw_below_drewN | apply below_drew1 | refine below_set ?_ GE168.out) | exact HB.out)) hb)
                clear BK168
                clear HB
                have BK168 := n0_
                have HB := n1_
                clear n0_ n1_
                (try clear hb)
                (try clear hb2)
                (try clear hk)
                (try clear hi)
                refine hK.out _ _ ⟨(blk_cell BK168.out 0).trans rfl, (blk_cell BK168.out 1).trans rfl, (blk_cell BK168.out 2).trans rfl, (blk_cell BK168.out 3).trans rfl, (blk_cell BK168.out 4).trans rfl, (blk_cell BK168.out 5).trans rfl, (blk_cell BK168.out 6).trans rfl, (blk_cell BK168.out 7).trans rfl⟩ (fun hHeld => ?_)
                clear hK K
                refine norm_ (a' := ?_) ?_ ?_
                rotate_left
                ·
                 show Act.put _ (some 12) _ = _
                 simp only [Act.put, P1_1, P1_2, P1_3, i64_w, i32_w]
                 rfl
                refine pure_ (i := 7) (N := some 13) (v := ?_) (a' := ?_) M1_22 rfl rfl (any_of HT_.out (by kernel_rfl)) (fun _ _ _ h => h) (Or.inl ⟨by rfl, ?_⟩) ?_ ?_
                rotate_left; · intro w'; go_simp; with_reducible rfl
                rotate_left; · simp only [Act.put, P1_1, P1_2, P1_3, i64_w, i32_w]; rfl
                refine pure_ (i := 8) (N := some 14) (v := ?_) (a' := ?_) M1_23 rfl rfl (any_of HT_.out (by kernel_rfl)) (fun _ _ _ h => h) (Or.inl ⟨by rfl, ?_⟩) ?_ ?_
                rotate_left; · intro w'; go_simp; with_reducible rfl
                rotate_left; · simp only [Act.put, P1_1, P1_2, P1_3, i64_w, i32_w]; rfl
                refine one_ (i := 11) (N := some 17) M1_24 rfl rfl (one_of HT_.out (by kernel_rfl)) (by decide) (fun K hK => ?_)
                refine goes_ Tryd.func29 (by kernel_rfl) rfl #[.slice A0_2 l0_2.length c0_2] (by rfl) rfl rfl (by (try simp only [List.map_toArray, List.map_cons, List.map_nil]); first | done | rfl | (simp only [List.length_drop, List.length_take]; rfl)) ?_
                with_reducible refine (spec_ListText.calls k _ _ l0_2 t172 _ ?side1 ?side2 A9.out).mono ?_
                (case side1 => repeat (first | exact (Kd.C_below HR0_2.out HB.out) | (with_reducible refine Kd.C_alloc ?_ _) | (with_reducible refine Kd.C_drewN ?_ _) | (with_reducible refine Kd.C_drew ?_)))
                (case side2 => exact HC0_2.out)
                rintro e w32 ⟨rfl, hb⟩
                refine ⟨_, rfl, ?_⟩
                have n0_ := Aside0.mk (blk_below (g := gb168) (o := .cells #[.int .i64 a0_0, .int .i64 a0_1, .slice A0_2 l0_2.length c0_2, .int .i64 a0_3, .int .i64 a0_4, .slice A0_5 l0_5.length c0_5, .int .i64 a0_6, .int .i64 a0_7] 28 (0, 0)) (by (with_reducible repeat (first | refine blk_drewN ?_ _ | refine blk_drew ?_ | refine blk_alloc ?_ _)); exact BK168.out) hb)
                have n1_ := Aside0.mk (below_step (by repeat (first | (with_reducible first | exact HB.out | apply below_alloc | apply pw_below_drewN | apply below_drew1 | refine below_set ?_ GE168.out) | exact HB.out)) hb)
                clear BK168
                clear HB
                have BK168 := n0_
                have HB := n1_
                clear n0_ n1_
                (try clear hb)
                (try clear hb2)
                (try clear hk)
                (try clear hi)
                refine hK.out _ _ ⟨(blk_cell BK168.out 0).trans rfl, (blk_cell BK168.out 1).trans rfl, (blk_cell BK168.out 2).trans rfl, (blk_cell BK168.out 3).trans rfl, (blk_cell BK168.out 4).trans rfl, (blk_cell BK168.out 5).trans rfl, (blk_cell BK168.out 6).trans rfl, (blk_cell BK168.out 7).trans rfl⟩ (fun hHeld => ?_)
                clear hK K
                refine norm_ (a' := ?_) ?_ ?_
                rotate_left
                ·
                 show Act.put _ (some 17) _ = _
                 simp only [Act.put, P1_1, P1_2, P1_3, i64_w, i32_w]
                 rfl
                refine pure_ (i := 12) (N := some 18) (v := ?_) (a' := ?_) M1_25 rfl rfl (any_of HT_.out (by kernel_rfl)) (fun _ _ _ h => h) (Or.inl ⟨by rfl, ?_⟩) ?_ ?_
                rotate_left; · intro w'; go_simp; with_reducible rfl
                rotate_left; · simp only [Act.put, P1_1, P1_2, P1_3, i64_w, i32_w]; rfl
                refine pure_ (i := 13) (N := some 19) (v := ?_) (a' := ?_) M1_26 rfl rfl (any_of HT_.out (by kernel_rfl)) (fun _ _ _ h => h) (Or.inl ⟨by rfl, ?_⟩) ?_ ?_
                rotate_left; · intro w'; go_simp; with_reducible rfl
                rotate_left; · simp only [Act.put, P1_1, P1_2, P1_3, i64_w, i32_w]; rfl
                refine one_ (i := 16) (N := some 22) M1_27 rfl rfl (one_of HT_.out (by kernel_rfl)) (by decide) (fun K hK => ?_)
                refine goes_ Tryd.func64 (by kernel_rfl) rfl #[.int .i64 a0_3] (by rfl) rfl rfl (by (try simp only [List.map_toArray, List.map_cons, List.map_nil]); first | done | rfl | (simp only [List.length_drop, List.length_take]; rfl)) ?_
                with_reducible refine (spec_FormatInt.calls k a0_3 t173 _ A12.out).mono ?_
                rintro e w33 ⟨rfl, hb⟩
                refine ⟨_, rfl, ?_⟩
                have n0_ := Aside0.mk (blk_below (g := gb168) (o := .cells #[.int .i64 a0_0, .int .i64 a0_1, .slice A0_2 l0_2.length c0_2, .int .i64 a0_3, .int .i64 a0_4, .slice A0_5 l0_5.length c0_5, .int .i64 a0_6, .int .i64 a0_7] 28 (0, 0)) (by (with_reducible repeat (first | refine blk_drewN ?_ _ | refine blk_drew ?_ | refine blk_alloc ?_ _)); exact BK168.out) hb)
                have n1_ := Aside0.mk (below_step (by repeat (first | (with_reducible first | exact HB.out | apply below_alloc | apply pw_below_drewN | apply below_drew1 | refine below_set ?_ GE168.out) | exact HB.out)) hb)
                clear BK168
                clear HB
                have BK168 := n0_
                have HB := n1_
                clear n0_ n1_
                (try clear hb)
                (try clear hb2)
                (try clear hk)
                (try clear hi)
                refine hK.out _ _ ⟨(blk_cell BK168.out 0).trans rfl, (blk_cell BK168.out 1).trans rfl, (blk_cell BK168.out 2).trans rfl, (blk_cell BK168.out 3).trans rfl, (blk_cell BK168.out 4).trans rfl, (blk_cell BK168.out 5).trans rfl, (blk_cell BK168.out 6).trans rfl, (blk_cell BK168.out 7).trans rfl⟩ (fun hHeld => ?_)
                clear hK K
                refine norm_ (a' := ?_) ?_ ?_
                rotate_left
                ·
                 show Act.put _ (some 22) _ = _
                 simp only [Act.put, P1_1, P1_2, P1_3, i64_w, i32_w]
                 rfl
                refine pure_ (i := 17) (N := some 23) (v := ?_) (a' := ?_) M1_28 rfl rfl (any_of HT_.out (by kernel_rfl)) (fun _ _ _ h => h) (Or.inl ⟨by rfl, ?_⟩) ?_ ?_
                rotate_left; · intro w'; go_simp; with_reducible rfl
                rotate_left; · simp only [Act.put, P1_1, P1_2, P1_3, i64_w, i32_w]; rfl
                refine pure_ (i := 18) (N := some 24) (v := ?_) (a' := ?_) M1_29 rfl rfl (any_of HT_.out (by kernel_rfl)) (fun _ _ _ h => h) (Or.inl ⟨by rfl, ?_⟩) ?_ ?_
                rotate_left; · intro w'; go_simp; with_reducible rfl
                rotate_left; · simp only [Act.put, P1_1, P1_2, P1_3, i64_w, i32_w]; rfl
                refine one_ (i := 21) (N := some 27) M1_30 rfl rfl (one_of HT_.out (by kernel_rfl)) (by decide) (fun K hK => ?_)
                refine goes_ Tryd.func64 (by kernel_rfl) rfl #[.int .i64 a0_4] (by rfl) rfl rfl (by (try simp only [List.map_toArray, List.map_cons, List.map_nil]); first | done | rfl | (simp only [List.length_drop, List.length_take]; rfl)) ?_
                with_reducible refine (spec_FormatInt.calls k a0_4 t174 _ A15.out).mono ?_
                rintro e w34 ⟨rfl, hb⟩
                refine ⟨_, rfl, ?_⟩
                have n0_ := Aside0.mk (blk_below (g := gb168) (o := .cells #[.int .i64 a0_0, .int .i64 a0_1, .slice A0_2 l0_2.length c0_2, .int .i64 a0_3, .int .i64 a0_4, .slice A0_5 l0_5.length c0_5, .int .i64 a0_6, .int .i64 a0_7] 28 (0, 0)) (by (with_reducible repeat (first | refine blk_drewN ?_ _ | refine blk_drew ?_ | refine blk_alloc ?_ _)); exact BK168.out) hb)
                have n1_ := Aside0.mk (below_step (by repeat (first | (with_reducible first | exact HB.out | apply below_alloc | apply pw_below_drewN | apply below_drew1 | refine below_set ?_ GE168.out) | exact HB.out)) hb)
                clear BK168
                clear HB
                have BK168 := n0_
                have HB := n1_
                clear n0_ n1_
                (try clear hb)
                (try clear hb2)
                (try clear hk)
                (try clear hi)
                refine hK.out _ _ ⟨(blk_cell BK168.out 0).trans rfl, (blk_cell BK168.out 1).trans rfl, (blk_cell BK168.out 2).trans rfl, (blk_cell BK168.out 3).trans rfl, (blk_cell BK168.out 4).trans rfl, (blk_cell BK168.out 5).trans rfl, (blk_cell BK168.out 6).trans rfl, (blk_cell BK168.out 7).trans rfl⟩ (fun hHeld => ?_)
                clear hK K
                refine norm_ (a' := ?_) ?_ ?_
                rotate_left
                ·
                 show Act.put _ (some 27) _ = _
                 simp only [Act.put, P1_1, P1_2, P1_3, i64_w, i32_w]
                 rfl
                refine pure_ (i := 22) (N := some 28) (v := ?_) (a' := ?_) M1_31 rfl rfl (any_of HT_.out (by kernel_rfl)) (fun _ _ _ h => h) (Or.inl ⟨by rfl, ?_⟩) ?_ ?_
                rotate_left; · intro w'; go_simp; with_reducible rfl
                rotate_left; · simp only [Act.put, P1_1, P1_2, P1_3, i64_w, i32_w]; rfl
                refine pure_ (i := 23) (N := some 29) (v := ?_) (a' := ?_) M1_32 rfl rfl (any_of HT_.out (by kernel_rfl)) (fun _ _ _ h => h) (Or.inl ⟨by rfl, ?_⟩) ?_ ?_
                rotate_left; · intro w'; go_simp; with_reducible rfl
                rotate_left; · simp only [Act.put, P1_1, P1_2, P1_3, i64_w, i32_w]; rfl
                refine one_ (i := 26) (N := some 32) M1_33 rfl rfl (one_of HT_.out (by kernel_rfl)) (by decide) (fun K hK => ?_)
                refine goes_ Tryd.func29 (by kernel_rfl) rfl #[.slice A0_5 l0_5.length c0_5] (by rfl) rfl rfl (by (try simp only [List.map_toArray, List.map_cons, List.map_nil]); first | done | rfl | (simp only [List.length_drop, List.length_take]; rfl)) ?_
                with_reducible refine (spec_ListText.calls k _ _ l0_5 t175 _ ?side1 ?side2 A18.out).mono ?_
                (case side1 => repeat (first | exact (Kd.C_below HR0_5.out HB.out) | (with_reducible refine Kd.C_alloc ?_ _) | (with_reducible refine Kd.C_drewN ?_ _) | (with_reducible refine Kd.C_drew ?_)))
                (case side2 => exact HC0_5.out)
                rintro e w35 ⟨rfl, hb⟩
                refine ⟨_, rfl, ?_⟩
                have n0_ := Aside0.mk (blk_below (g := gb168) (o := .cells #[.int .i64 a0_0, .int .i64 a0_1, .slice A0_2 l0_2.length c0_2, .int .i64 a0_3, .int .i64 a0_4, .slice A0_5 l0_5.length c0_5, .int .i64 a0_6, .int .i64 a0_7] 28 (0, 0)) (by (with_reducible repeat (first | refine blk_drewN ?_ _ | refine blk_drew ?_ | refine blk_alloc ?_ _)); exact BK168.out) hb)
                have n1_ := Aside0.mk (below_step (by repeat (first | (with_reducible first | exact HB.out | apply below_alloc | apply pw_below_drewN | apply below_drew1 | refine below_set ?_ GE168.out) | exact HB.out)) hb)
                clear BK168
                clear HB
                have BK168 := n0_
                have HB := n1_
                clear n0_ n1_
                (try clear hb)
                (try clear hb2)
                (try clear hk)
                (try clear hi)
                refine hK.out _ _ ⟨(blk_cell BK168.out 0).trans rfl, (blk_cell BK168.out 1).trans rfl, (blk_cell BK168.out 2).trans rfl, (blk_cell BK168.out 3).trans rfl, (blk_cell BK168.out 4).trans rfl, (blk_cell BK168.out 5).trans rfl, (blk_cell BK168.out 6).trans rfl, (blk_cell BK168.out 7).trans rfl⟩ (fun hHeld => ?_)
                clear hK K
                refine norm_ (a' := ?_) ?_ ?_
                rotate_left
                ·
                 show Act.put _ (some 32) _ = _
                 simp only [Act.put, P1_1, P1_2, P1_3, i64_w, i32_w]
                 rfl
                refine pure_ (i := 27) (N := some 33) (v := ?_) (a' := ?_) M1_34 rfl rfl (any_of HT_.out (by kernel_rfl)) (fun _ _ _ h => h) (Or.inl ⟨by rfl, ?_⟩) ?_ ?_
                rotate_left; · intro w'; go_simp; with_reducible rfl
                rotate_left; · simp only [Act.put, P1_1, P1_2, P1_3, i64_w, i32_w]; rfl
                refine pure_ (i := 28) (N := some 34) (v := ?_) (a' := ?_) M1_35 rfl rfl (any_of HT_.out (by kernel_rfl)) (fun _ _ _ h => h) (Or.inl ⟨by rfl, ?_⟩) ?_ ?_
                rotate_left; · intro w'; go_simp; with_reducible rfl
                rotate_left; · simp only [Act.put, P1_1, P1_2, P1_3, i64_w, i32_w]; rfl
                refine one_ (i := 32) (N := some 38) M1_36 rfl rfl (one_of HT_.out (by kernel_rfl)) (by decide) (fun K hK => ?_)
                refine goes_ Tryd.func64 (by kernel_rfl) rfl #[.int .i64 a0_6] (by rfl) rfl rfl (by (try simp only [List.map_toArray, List.map_cons, List.map_nil]); first | done | rfl | (simp only [List.length_drop, List.length_take]; rfl)) ?_
                with_reducible refine (spec_FormatInt.calls k a0_6 t176 _ A21.out).mono ?_
                rintro e w36 ⟨rfl, hb⟩
                refine ⟨_, rfl, ?_⟩
                have n0_ := Aside0.mk (blk_below (g := gb168) (o := .cells #[.int .i64 a0_0, .int .i64 a0_1, .slice A0_2 l0_2.length c0_2, .int .i64 a0_3, .int .i64 a0_4, .slice A0_5 l0_5.length c0_5, .int .i64 a0_6, .int .i64 a0_7] 28 (0, 0)) (by (with_reducible repeat (first | refine blk_drewN ?_ _ | refine blk_drew ?_ | refine blk_alloc ?_ _)); exact BK168.out) hb)
                have n1_ := Aside0.mk (below_step (by repeat (first | (with_reducible first | exact HB.out | apply below_alloc | apply pw_below_drewN | apply below_drew1 | refine below_set ?_ GE168.out) | exact HB.out)) hb)
                clear BK168
                clear HB
                have BK168 := n0_
                have HB := n1_
                clear n0_ n1_
                (try clear hb)
                (try clear hb2)
                (try clear hk)
                (try clear hi)
                refine hK.out _ _ ⟨(blk_cell BK168.out 0).trans rfl, (blk_cell BK168.out 1).trans rfl, (blk_cell BK168.out 2).trans rfl, (blk_cell BK168.out 3).trans rfl, (blk_cell BK168.out 4).trans rfl, (blk_cell BK168.out 5).trans rfl, (blk_cell BK168.out 6).trans rfl, (blk_cell BK168.out 7).trans rfl⟩ (fun hHeld => ?_)
                clear hK K
                refine norm_ (a' := ?_) ?_ ?_
                rotate_left
                ·
                 show Act.put _ (some 38) _ = _
                 simp only [Act.put, P1_1, P1_2, P1_3, i64_w, i32_w]
                 rfl
                refine pure_ (i := 33) (N := some 39) (v := ?_) (a' := ?_) M1_37 rfl rfl (any_of HT_.out (by kernel_rfl)) (fun _ _ _ h => h) (Or.inl ⟨by rfl, ?_⟩) ?_ ?_
                rotate_left; · intro w'; go_simp; with_reducible rfl
                rotate_left; · simp only [Act.put, P1_1, P1_2, P1_3, i64_w, i32_w]; rfl
                refine pure_ (i := 34) (N := some 40) (v := ?_) (a' := ?_) M1_38 rfl rfl (any_of HT_.out (by kernel_rfl)) (fun _ _ _ h => h) (Or.inl ⟨by rfl, ?_⟩) ?_ ?_
                rotate_left; · intro w'; go_simp; with_reducible rfl
                rotate_left; · simp only [Act.put, P1_1, P1_2, P1_3, i64_w, i32_w]; rfl
                refine one_ (i := 38) (N := some 44) M1_39 rfl rfl (one_of HT_.out (by kernel_rfl)) (by decide) (fun K hK => ?_)
                refine goes_ Tryd.func64 (by kernel_rfl) rfl #[.int .i64 a0_7] (by rfl) rfl rfl (by (try simp only [List.map_toArray, List.map_cons, List.map_nil]); first | done | rfl | (simp only [List.length_drop, List.length_take]; rfl)) ?_
                with_reducible refine (spec_FormatInt.calls k a0_7 t177 _ A24.out).mono ?_
                rintro e w37 ⟨rfl, hb⟩
                refine ⟨_, rfl, ?_⟩
                have n0_ := Aside0.mk (blk_below (g := gb168) (o := .cells #[.int .i64 a0_0, .int .i64 a0_1, .slice A0_2 l0_2.length c0_2, .int .i64 a0_3, .int .i64 a0_4, .slice A0_5 l0_5.length c0_5, .int .i64 a0_6, .int .i64 a0_7] 28 (0, 0)) (by (with_reducible repeat (first | refine blk_drewN ?_ _ | refine blk_drew ?_ | refine blk_alloc ?_ _)); exact BK168.out) hb)
                have n1_ := Aside0.mk (below_step (by repeat (first | (with_reducible first | exact HB.out | apply below_alloc | apply pw_below_drewN | apply below_drew1 | refine below_set ?_ GE168.out) | exact HB.out)) hb)
                clear BK168
                clear HB
                have BK168 := n0_
                have HB := n1_
                clear n0_ n1_
                (try clear hb)
                (try clear hb2)
                (try clear hk)
                (try clear hi)
                refine hK.out _ _ ⟨(blk_cell BK168.out 0).trans rfl, (blk_cell BK168.out 1).trans rfl, (blk_cell BK168.out 2).trans rfl, (blk_cell BK168.out 3).trans rfl, (blk_cell BK168.out 4).trans rfl, (blk_cell BK168.out 5).trans rfl, (blk_cell BK168.out 6).trans rfl, (blk_cell BK168.out 7).trans rfl⟩ (fun hHeld => ?_)
                clear hK K
                refine norm_ (a' := ?_) ?_ ?_
                rotate_left
                ·
                 show Act.put _ (some 44) _ = _
                 simp only [Act.put, P1_1, P1_2, P1_3, i64_w, i32_w]
                 rfl
                refine pure_ (i := 39) (N := some 45) (v := ?_) (a' := ?_) M1_40 rfl rfl (any_of HT_.out (by kernel_rfl)) (fun _ _ _ h => h) (Or.inl ⟨by rfl, ?_⟩) ?_ ?_
                rotate_left; · intro w'; go_simp; with_reducible rfl
                rotate_left; · simp only [Act.put, P1_1, P1_2, P1_3, i64_w, i32_w]; rfl
                refine pure_ (i := 40) (N := some 2) (v := ?_) (a' := ?_) M1_41 rfl rfl (any_of HT_.out (by kernel_rfl)) (fun _ _ _ h => h) (Or.inl ⟨by rfl, ?_⟩) ?_ ?_
                rotate_left; · intro w'; go_simp; with_reducible rfl
                rotate_left; · simp only [Act.put, P1_1, P1_2, P1_3, i64_w, i32_w]; rfl
                refine done_ (done_of HT_.out (by kernel_rfl)) ?_
                try go_wp2
                go_ret
                exact ⟨by first | rfl | (simp [errW_none, errW_some] <;> rfl) | (simp [*, errW_none, errW_some] <;> rfl), by repeat (first | (with_reducible first | exact HB.out | apply below_alloc | apply pw_below_drewN | apply below_drew1 | refine below_set ?_ GE168.out) | exact HB.out)⟩
               ·
                rw [if_neg c25] at H
                exact absurd H (by simp)
              ·
               rw [if_neg c23] at H
               exact absurd H (by simp)
             ·
              rw [if_neg c22] at H
              exact absurd H (by simp)
            ·
             rw [if_neg c20] at H
             exact absurd H (by simp)
           ·
            rw [if_neg c19] at H
            exact absurd H (by simp)
          ·
           rw [if_neg c17] at H
           exact absurd H (by simp)
         ·
          rw [if_neg c16] at H
          exact absurd H (by simp)
        ·
         rw [if_neg c14] at H
         exact absurd H (by simp)
       ·
        rw [if_neg c13] at H
        exact absurd H (by simp)
      ·
       rw [if_neg c11] at H
       exact absurd H (by simp)
     ·
      rw [if_neg c10] at H
      exact absurd H (by simp)
    ·
     rw [if_neg c8] at H
     exact absurd H (by simp)
   ·
    rw [if_neg c7] at H
    exact absurd H (by simp)
  ·
   rw [if_neg c5] at H
   exact absurd H (by simp)
 ·
  replace c3 := Bool.eq_false_iff.mpr c3
  subst c3
  have H1 : (some (⟨#[]⟩ : ByteArray)) = some r := by rw [if_neg (show ¬ (false = true) by decide)] at H; exact H
  clear H
  have H := H1
  clear H1
  obtain rfl := Option.some.inj H
  go_enter Tryd.func36, Tryd.ntmps36
  go_wp2_with (first | ((with_reducible refine gate_dst (N := 1) rfl ?_); refine box_event ?hg (N := 1) ?hd (cs := #[.int .i64 a0_0, .int .i64 a0_1, .slice A0_2 l0_2.length c0_2, .int .i64 a0_3, .int .i64 a0_4, .slice A0_5 l0_5.length c0_5, .int .i64 a0_6, .int .i64 a0_7]) (t := 28) ?hr ?_; (case hd => rfl); (case hg => rfl); (case hr => first | (go_simp; done) | (go_simp; rfl)); intro gb168 hg w38 hbox hb; have n0_ := Aside0.mk (below_step (by repeat (first | (with_reducible first | exact HB.out | apply below_alloc | apply pw_below_drewN | apply below_drew1) | exact HB.out)) hb); have n1_ := Aside0.mk (hbox); have n2_ := Aside0.mk ((by rw [hg]; exact (below_size (by repeat (first | (with_reducible first | exact HB.out | apply below_alloc | apply pw_below_drewN | apply below_drew1) | exact HB.out))) : w.heap.size ≤ gb168)); have n3_ := Aside0.mk ((by rw [hg]; exact (below_size (by repeat (first | (with_reducible first | exact HB.out | apply below_alloc | apply pw_below_drewN | apply below_drew1) | exact HB.out))) : w.heap.size ≤ gb168)); clear HB; have HB := n0_; have BK168 := n1_; have GW168 := n2_; have GE168 := n3_; clear n0_ n1_ n2_ n3_; clear hb hbox hg; have hcz39_0 : w38.cell? ⟨gb168, 0, none⟩ = some (.int .i64 a0_0) := (blk_cell BK168.out 0).trans rfl; have hcz39_1 : w38.cell? ⟨gb168, 1, none⟩ = some (.int .i64 a0_1) := (blk_cell BK168.out 1).trans rfl; have hcz39_2 : w38.cell? ⟨gb168, 2, none⟩ = some (.slice A0_2 l0_2.length c0_2) := (blk_cell BK168.out 2).trans rfl; have hcz39_3 : w38.cell? ⟨gb168, 3, none⟩ = some (.int .i64 a0_3) := (blk_cell BK168.out 3).trans rfl; have hcz39_4 : w38.cell? ⟨gb168, 4, none⟩ = some (.int .i64 a0_4) := (blk_cell BK168.out 4).trans rfl; have hcz39_5 : w38.cell? ⟨gb168, 5, none⟩ = some (.slice A0_5 l0_5.length c0_5) := (blk_cell BK168.out 5).trans rfl; have hcz39_6 : w38.cell? ⟨gb168, 6, none⟩ = some (.int .i64 a0_6) := (blk_cell BK168.out 6).trans rfl; have hcz39_7 : w38.cell? ⟨gb168, 7, none⟩ = some (.int .i64 a0_7) := (blk_cell BK168.out 7).trans rfl; have hfz39_0 := blk_frozen BK168.out 0; have hfz39_1 := blk_frozen BK168.out 1; have hfz39_2 := blk_frozen BK168.out 2; have hfz39_3 := blk_frozen BK168.out 3; have hfz39_4 := blk_frozen BK168.out 4; have hfz39_5 := blk_frozen BK168.out 5; have hfz39_6 := blk_frozen BK168.out 6; have hfz39_7 := blk_frozen BK168.out 7) | ((with_reducible refine gate_callee (f := 69) rfl ?_); refine goesL_ (some 4) rfl rfl Tryd.func69 (by kernel_rfl) rfl #[.agg #[.int .i64 a0_0, .int .i64 a0_1, .slice A0_2 l0_2.length c0_2, .int .i64 a0_3, .int .i64 a0_4, .slice A0_5 l0_5.length c0_5, .int .i64 a0_6, .int .i64 a0_7]] rfl (by (try simp only [List.map_toArray, List.map_cons, List.map_nil]); first | done | rfl | (simp only [List.length_drop, List.length_take]; rfl)) ?_; (with_reducible refine (spec_IsReport.calls k a0_0 a0_1 _ _ l0_2 a0_3 a0_4 _ _ l0_5 a0_6 a0_7 false _ ?side1 ?side2 ?side3 ?side4 A2.out).mono ?_); (case side1 => repeat (first | exact (Kd.C_below HR0_2.out HB.out) | (with_reducible refine Kd.C_alloc ?_ _) | (with_reducible refine Kd.C_drewN ?_ _) | (with_reducible refine Kd.C_drew ?_))); (case side2 => exact HC0_2.out); (case side3 => repeat (first | exact (Kd.C_below HR0_5.out HB.out) | (with_reducible refine Kd.C_alloc ?_ _) | (with_reducible refine Kd.C_drewN ?_ _) | (with_reducible refine Kd.C_drew ?_))); (case side4 => exact HC0_5.out); rintro e w40 ⟨rfl, hb⟩; refine ⟨_, rfl, ?_⟩; have n0_ := Aside0.mk (blk_below (g := gb168) (o := .cells #[.int .i64 a0_0, .int .i64 a0_1, .slice A0_2 l0_2.length c0_2, .int .i64 a0_3, .int .i64 a0_4, .slice A0_5 l0_5.length c0_5, .int .i64 a0_6, .int .i64 a0_7] 28 (0, 0)) (by (with_reducible repeat (first | refine blk_drewN ?_ _ | refine blk_drew ?_ | refine blk_alloc ?_ _)); exact BK168.out) hb); have n1_ := Aside0.mk (below_step (by repeat (first | (with_reducible first | exact HB.out | apply below_alloc | apply pw_below_drewN | apply below_drew1 | refine below_set ?_ GE168.out) | exact HB.out)) hb); clear BK168; clear HB; have BK168 := n0_; have HB := n1_; clear n0_ n1_; (try clear hb); (try clear hb2); (try clear hk); (try clear hi)))
  go_ret
  exact ⟨by first | rfl | (simp [errW_none, errW_some] <;> rfl) | (simp [*, errW_none, errW_some] <;> rfl), by repeat (first | (with_reducible first | exact HB.out | apply below_alloc | apply pw_below_drewN | apply below_drew1 | refine below_set ?_ GE168.out) | exact HB.out)⟩

/-! ### laws_toIntS: function 30 -/
def laws_toIntS.l0 : Nat → List Int → List Int → Int → Option (List Int)
  | 0, _, _, _ => none
  | k + 1, x0, x3, x4 => if x4 < (x0.length : Int) then (if 0 ≤ x4 then (if x4 < (x3.length : Int) then (laws_toIntS.l0 k x0 (x3.set (x4 : Int).toNat (rd x0 x4)) (wrap64 (x4 + 1))) else (none)) else (none)) else (some x3)
def laws_toIntS.f (k : Nat) (l0 : List Int) : Option (List Int) := if 0 ≤ (l0.length : Int) then (if ((l0.length : Int) : Int).toNat ≤ 35184372088832 then (laws_toIntS.l0 k l0 (List.replicate ((l0.length : Int) : Int).toNat 0) 0) else (none)) else (none)
theorem laws_toIntS.mono_l : ∀ k, (∀ y0 y1 y2, LeO (laws_toIntS.l0 k y0 y1 y2) (laws_toIntS.l0 (k + 1) y0 y1 y2))
  | 0 => fun _ _ _ r h => by simp [laws_toIntS.l0] at h
  | k + 1 => by
    have ih0 := laws_toIntS.mono_l k
    · intro y0 y1 y2
      unfold laws_toIntS.l0
      repeat' first
      | (with_reducible exact ih0 _ _ _)
      | (with_reducible exact LeO.refl _)
      | (with_reducible exact LeO.none _)
      | (with_reducible refine LeO.ite ?_ ?_)
      | (with_reducible refine LeO.bind ?_ (fun _ => ?_))
      | exact ih0 _ _ _
      | exact LeO.none _
      | refine LeO.ite ?_ ?_
      | refine LeO.bind ?_ (fun _ => ?_)
theorem laws_toIntS.mono : ∀ a0 k, LeO (laws_toIntS.f k a0) (laws_toIntS.f (k + 1) a0) := by
  intro a0 k
  have ih0 := laws_toIntS.mono_l k
  unfold laws_toIntS.f
  repeat' first
      | (with_reducible exact ih0 _ _ _)
      | (with_reducible exact LeO.refl _)
      | (with_reducible exact LeO.none _)
      | (with_reducible refine LeO.ite ?_ ?_)
      | (with_reducible refine LeO.bind ?_ (fun _ => ?_))
      | exact ih0 _ _ _
      | exact LeO.none _
      | refine LeO.ite ?_ ?_
      | refine LeO.bind ?_ (fun _ => ?_)
set_option maxHeartbeats 8000000 in
set_option maxRecDepth 100000 in
theorem laws_toIntS.calls (k : Nat) (A0 : Option Addr) (c0 : Nat) (l0 : List Int) (r : List Int) (w : World) (hr0 : Kd.C (Kd.int .i64) w A0 l0.length l0) (hc0 : l0.length ≤ c0) (h : laws_toIntS.f k l0 = some r) :
    Calls Tryd.prog 30 #[.slice A0 l0.length c0] w fun e w' => ∃ v0_ : Value, e = .returned (v0_) ∧ Kd.R (Kd.int .i64) 3 w' w.heap.size (fun _ => True) v0_ r ∧ Below w.heap.size w w' := by
  have HR0 := Aside0.mk hr0
  have HC0 := Aside0.mk hc0
  clear hr0 hc0
  have HB := Aside0.mk (Below.refl w.heap.size w)
  have H : (if 0 ≤ (l0.length : Int) then (if ((l0.length : Int) : Int).toNat ≤ 35184372088832 then (laws_toIntS.l0 k l0 (List.replicate ((l0.length : Int) : Int).toNat 0) 0) else (none)) else (none)) = some r := h
  clear h
  by_cases c2 : 0 ≤ (l0.length : Int)
  · rw [if_pos c2] at H
    have c2b0 := eq_true c2
    have c2b1 : decide (0 ≤ (l0.length : Int)) = true := decide_eq_true c2
    clear c2
    by_cases c3 : ((l0.length : Int) : Int).toNat ≤ 35184372088832
    · rw [if_pos c3] at H
      have c3b0 := eq_true c3
      have c3b1 : decide (((l0.length : Int) : Int).toNat ≤ 35184372088832) = true := decide_eq_true c3
      clear c3
      obtain ⟨y178, hy178⟩ : ∃ y_ : List Int, y_ = (List.replicate ((l0.length : Int) : Int).toNat 0) := ⟨_, rfl⟩
      replace H : (laws_toIntS.l0 k l0 y178 0) = some r := by first | (rw [hy178]; with_reducible exact H) | (have H2_ := (Option.bind_some _ _).symm.trans H; rw [hy178]; with_reducible exact H2_) | (have H2_ := (Option.bind_some _ _).symm.trans H; with_reducible exact H2_) | with_reducible exact H | (rw [hy178]; exact H) | exact H
      have Ny178 := Aside0.mk hy178
      clear hy178
      have H' := Aside0.mk H
      clear H
      go_enter Tryd.func30, Tryd.ntmps30
      go_wp2_with (first | ((with_reducible refine gate_dst (N := 7) rfl ?_); refine Kd.R_make (Kd.int .i64) _ 3 rfl (N := 7) rfl 24 _ _ rfl (l0.length : Int) rfl rfl Tryd.underlying24 (.int .i64 0) 8 info3 rfl (by decide) (by omega) 0 (ok := fun _ => True) (okp := fun _ => True) rfl (fun _ hk => hk) trivial (of_decide_eq_true (by first | (with_reducible assumption) | assumption)) (Nat.le_trans (Nat.mul_le_mul_right _ (of_decide_eq_true (by first | (with_reducible assumption) | assumption) : (l0.length : Int).toNat ≤ 35184372088832)) (by omega)) (Below.refl _ _) (Nat.le_refl _) ?_; intro v179 w4 ho5 hb hg_ hnew_; clear hg_ hnew_; (first | rw [← Ny178.out] at ho5 | (simp only [Int.reduceToNat] at ho5; rw [← Ny178.out] at ho5)); have n0_ := Aside0.mk (Kd.R_lower ho5 (below_size (by repeat (first | (with_reducible first | exact HB.out | apply below_alloc | apply pw_below_drewN | apply below_drew1) | exact HB.out)))); have n1_ := Aside0.mk (below_step (by repeat (first | (with_reducible first | exact HB.out | apply below_alloc | apply pw_below_drewN | apply below_drew1) | exact HB.out)) hb); clear HB; have HO180 := n0_; have HB := n1_; clear n0_ n1_; clear hb ho5))
      go_loopg [4] k (fun kq v4 w' => ∃ (x3_1 : List Int) (x4_1 : Int), v4 = .int .i64 x4_1 ∧ Aside0 (laws_toIntS.l0 kq l0 x3_1 x4_1 = some r) ∧ Aside0 (kq ≤ k) ∧ Aside0 (Kd.R (Kd.int .i64) 3 w' w.heap.size (fun _ => True) v179 x3_1) ∧ Aside0 (Below w.heap.size w w'))
      case atStart => exact ⟨(y178), (0), (by first | rfl | (simp; done) | (simp [*]; done)), H', ⟨Nat.le_refl _⟩, ⟨by (with_reducible repeat (first | apply Kd.R_alloc | apply Kd.R_drewN | apply Kd.R_drew)); exact HO180.out⟩, ⟨by repeat (first | (with_reducible first | exact HB.out | apply below_alloc | apply pw_below_drewN | apply below_drew1) | exact HB.out)⟩⟩
      case round =>
        clear H'
        try clear c2
        try clear c2b0
        try clear c2b1
        try clear p2
        try clear c3
        try clear c3b0
        try clear c3b1
        obtain ⟨x3_1, x4_1, rfl, HA, HK1, HO_3, HB⟩ := hrel
        cases gk with
        | zero => exact absurd HA.out (by simp [laws_toIntS.l0])
        | succ k1 =>
          have H := HA.out
          clear HA
          simp only [laws_toIntS.l0] at H
          by_cases c6 : x4_1 < (l0.length : Int)
          · rw [if_pos c6] at H
            have c6b0 : decide (x4_1 < (l0.length : Int)) = true := decide_eq_true c6
            clear c6
            by_cases c7 : 0 ≤ x4_1
            · rw [if_pos c7] at H
              have c7b0 : decide (0 ≤ x4_1) = true := decide_eq_true c7
              clear c7
              by_cases c8 : x4_1 < (x3_1.length : Int)
              · rw [if_pos c8] at H
                have c8b0 : decide (x4_1 < (x3_1.length : Int)) = true := decide_eq_true c8
                clear c8
                obtain ⟨y182, hy182⟩ : ∃ y_ : List Int, y_ = (x3_1.set (x4_1 : Int).toNat (rd l0 x4_1)) := ⟨_, rfl⟩
                replace H : (laws_toIntS.l0 k1 l0 y182 (wrap64 (x4_1 + 1))) = some r := by first | (rw [hy182]; with_reducible exact H) | (have H2_ := (Option.bind_some _ _).symm.trans H; rw [hy182]; with_reducible exact H2_) | (have H2_ := (Option.bind_some _ _).symm.trans H; with_reducible exact H2_) | with_reducible exact H | (rw [hy182]; exact H) | exact H
                have Ny182 := Aside0.mk hy182
                clear hy182
                have H' := Aside0.mk H
                clear H
                have p181 : 0 ≤ (x4_1 : Int) := of_decide_eq_true (by first | (with_reducible assumption) | assumption)
                have q181 : x4_1 < (l0.length : Int) := of_decide_eq_true (by first | (with_reducible assumption) | assumption)
                obtain ⟨ad181, e181, hx181_0⟩ := Kd.at_int HR0.out x4_1 p181 q181
                cases e181
                replace hx181_0 := (HB.out.cell (World.block_lt_of_cell? w _ hx181_0)).trans hx181_0
                replace p181 := eq_true p181
                replace q181 := eq_true q181
                have p9 : 0 ≤ (x4_1 : Int) := of_decide_eq_true (by first | (with_reducible assumption) | assumption)
                have q9 : (x4_1 : Int) < ((x3_1.length : Int) : Int) := of_decide_eq_true (by first | (with_reducible assumption) | assumption)
                obtain ⟨go9, co9, eo9, gb9, gl9, cl9, HG9⟩ := Kd.R_form HO_3.out (by omega)
                (first | cases eo9 | (injection eo9 with ea_ en_ ec_; (first | subst ea_ | (injection ea_ with ea_; subst ea_)); subst ec_; clear en_))
                have GB9 := Aside0.mk gb9
                have GG9 := Aside0.mk HG9
                clear gb9 gl9 HG9
                obtain ⟨hx9_0, hf9_0⟩ := Kd.R_celln 0 HO_3.out (x4_1 : Int) p9 q9
                replace p9 := eq_true p9
                replace q9 := eq_true q9
                have HP10 := Kd.R_putg HO_3.out (x4_1 : Int) (rd l0 x4_1)
                go_wp2_with (first | ((with_reducible refine gate_store (t := 3) (p := 20) rfl ?_); refine store_event (t := 3) (p := 20) (v := ?vo_w11) (w1 := (wr.setCell ⟨go9, (x4_1 : Int).toNat, none⟩ (.int .i64 (rd l0 x4_1)))) ?hg ?ho ?hn ?hr ?_; (case ho => rfl); (case hg => rfl); (case hn => rfl); (case hr => first | (go_simp; done) | (go_simp; rfl)); intro w11 hw; have hg : wr.grownBy w11 (some go9) := (by rw [hw]; exact HP10.2); have hp_ : Kd.R (Kd.int .i64) 3 w11 w.heap.size (fun _ => True) (.slice (some ⟨go9, 0, none⟩) x3_1.length co9) y182 := (by rw [hw, Ny182.out]; exact HP10.1); clear HP10; have n0_ := Aside0.mk (hp_); have n1_ := Aside0.mk ((by rw [hw]; exact below_set (HB.out) GB9.out : Below w.heap.size w w11)); clear HO_3; clear HB; have HO_3 := n0_; have HB := n1_; clear n0_ n1_; clear hg hw hp_))
                go_roundg k1
                case measure => have := HK1.out; omega
                case rel => exact ⟨(y182), (wrap64 (x4_1 + 1)), (by first | rfl | (simp; done) | (simp [*]; done)), H', ⟨by have := HK1.out; omega⟩, ⟨by (with_reducible repeat (first | apply Kd.R_alloc | apply Kd.R_drewN | apply Kd.R_drew)); exact HO_3.out⟩, ⟨by repeat (first | (with_reducible first | exact HB.out | apply below_alloc | apply pw_below_drewN | apply below_drew1) | exact HB.out)⟩⟩
              · rw [if_neg c8] at H
                exact absurd H (by simp)
            · rw [if_neg c7] at H
              exact absurd H (by simp)
          · rw [if_neg c6] at H
            have c6b0 : decide (x4_1 < (l0.length : Int)) = false := decide_eq_false c6
            clear c6
            obtain rfl := Option.some.inj H
            go_wp2
            go_ret
            exact ⟨_, by first | rfl | (simp [errW_none, errW_some] <;> rfl) | (simp [*, errW_none, errW_some] <;> rfl), by (with_reducible repeat (first | apply Kd.R_alloc | apply Kd.R_drewN | apply Kd.R_drew)); exact HO_3.out, by repeat (first | (with_reducible first | exact HB.out | apply below_alloc | apply pw_below_drewN | apply below_drew1) | exact HB.out)⟩
    · rw [if_neg c3] at H
      exact absurd H (by simp)
  · rw [if_neg c2] at H
    exact absurd H (by simp)

/-! ### laws_toSpan: function 70 -/
def laws_toSpan.f (a0_0 : Int) (a0_1 : Int) : Option (Int × Int) := some (a0_0, a0_1)
set_option maxHeartbeats 8000000 in
set_option maxRecDepth 100000 in
theorem laws_toSpan.calls (a0_0 : Int) (a0_1 : Int) (r1 : Int) (r2 : Int) (w : World) (h : laws_toSpan.f a0_0 a0_1 = some (r1, r2)) :
    Calls Tryd.prog 70 #[.agg #[.int .i64 a0_0, .int .i64 a0_1]] w fun e w' => e = .returned (.agg #[.int .i64 r1, .int .i64 r2]) ∧ Below w.heap.size w w' := by
  have hu59 := Tryd.underlying59
  have hu26 := Tryd.underlying26
  have HB := Aside0.mk (Below.refl w.heap.size w)
  have H : (some (a0_0, a0_1)) = some (r1, r2) := h
  clear h
  simp only [Option.some.injEq, Prod.mk.injEq] at H
  obtain ⟨rfl, rfl⟩ := H
  go_enter Tryd.func70, Tryd.ntmps70
  go_wp2_with (first | ((with_reducible refine gate_dst (N := 1) rfl ?_); refine box_event ?hg (N := 1) ?hd (cs := #[.int .i64 a0_0, .int .i64 a0_1]) (t := 59) ?hr ?_; (case hd => rfl); (case hg => rfl); (case hr => first | (go_simp; done) | (go_simp; rfl)); intro gb183 hg w2 hbox hb; have n0_ := Aside0.mk (below_step (by repeat (first | (with_reducible first | exact HB.out | apply below_alloc | apply pw_below_drewN | apply below_drew1) | exact HB.out)) hb); have n1_ := Aside0.mk (hbox); have n2_ := Aside0.mk ((by rw [hg]; exact (below_size (by repeat (first | (with_reducible first | exact HB.out | apply below_alloc | apply pw_below_drewN | apply below_drew1) | exact HB.out))) : w.heap.size ≤ gb183)); have n3_ := Aside0.mk ((by rw [hg]; exact (below_size (by repeat (first | (with_reducible first | exact HB.out | apply below_alloc | apply pw_below_drewN | apply below_drew1) | exact HB.out))) : w.heap.size ≤ gb183)); clear HB; have HB := n0_; have BK183 := n1_; have GW183 := n2_; have GE183 := n3_; clear n0_ n1_ n2_ n3_; clear hb hbox hg) | ((with_reducible refine gate_dst (N := 2) rfl ?_); refine box_event ?hg (N := 2) ?hd (cs := #[.int .i64 0, .int .i64 0]) (t := 26) ?hr ?_; (case hd => rfl); (case hg => rfl); (case hr => first | (go_simp; done) | (go_simp; rfl)); intro gb184 hg w3 hbox hb; have n0_ := Aside0.mk (blk_below (g := gb183) (o := .cells #[.int .i64 a0_0, .int .i64 a0_1] 59 (0, 0)) (by (with_reducible repeat (first | refine blk_drewN ?_ _ | refine blk_drew ?_ | refine blk_alloc ?_ _)); exact BK183.out) hb); have n1_ := Aside0.mk (below_step (by repeat (first | (with_reducible first | exact HB.out | apply below_alloc | apply pw_below_drewN | apply below_drew1 | refine below_set ?_ GE183.out) | exact HB.out)) hb); have n2_ := Aside0.mk (hbox); have n3_ := Aside0.mk ((by rw [hg]; exact (below_size (by repeat (first | (with_reducible first | exact HB.out | apply below_alloc | apply pw_below_drewN | apply below_drew1 | refine below_set ?_ GE183.out) | exact HB.out))) : w.heap.size ≤ gb184)); have n4_ := Aside0.mk ((by rw [hg]; exact (below_size (by repeat (first | (with_reducible first | exact HB.out | apply below_alloc | apply pw_below_drewN | apply below_drew1 | refine below_set ?_ GE183.out) | exact HB.out))) : w.heap.size ≤ gb184)); have n5_ := Aside0.mk ((by rw [hg]; exact Nat.ne_of_lt (blk_lt (g := gb183) (o := .cells #[.int .i64 a0_0, .int .i64 a0_1] 59 (0, 0)) (by (with_reducible repeat (first | refine blk_drewN ?_ _ | refine blk_drew ?_ | refine blk_alloc ?_ _)); exact BK183.out)) : gb183 ≠ gb184)); have n6_ := Aside0.mk ((by rw [hg]; exact Nat.ne_of_gt (blk_lt (g := gb183) (o := .cells #[.int .i64 a0_0, .int .i64 a0_1] 59 (0, 0)) (by (with_reducible repeat (first | refine blk_drewN ?_ _ | refine blk_drew ?_ | refine blk_alloc ?_ _)); exact BK183.out)) : gb184 ≠ gb183)); clear BK183; clear HB; have BK183 := n0_; have HB := n1_; have BK184 := n2_; have GW184 := n3_; have GE184 := n4_; have NB183_184 := n5_; have NB184_183 := n6_; clear n0_ n1_ n2_ n3_ n4_ n5_ n6_; clear hb hbox hg) | ((with_reducible refine gate_dst (N := 3) rfl ?_); refine box_event ?hg (N := 3) ?hd (cs := #[.int .i64 0, .int .i64 0]) (t := 26) ?hr ?_; (case hd => rfl); (case hg => rfl); (case hr => first | (go_simp; done) | (go_simp; rfl)); intro gb185 hg w4 hbox hb; have n0_ := Aside0.mk (blk_below (g := gb183) (o := .cells #[.int .i64 a0_0, .int .i64 a0_1] 59 (0, 0)) (by (with_reducible repeat (first | refine blk_drewN ?_ _ | refine blk_drew ?_ | refine blk_alloc ?_ _)); exact BK183.out) hb); have n1_ := Aside0.mk (blk_below (g := gb184) (o := .cells #[.int .i64 0, .int .i64 0] 26 (0, 0)) (by (with_reducible repeat (first | refine blk_drewN ?_ _ | refine blk_drew ?_ | refine blk_alloc ?_ _)); exact BK184.out) hb); have n2_ := Aside0.mk (below_step (by repeat (first | (with_reducible first | exact HB.out | apply below_alloc | apply pw_below_drewN | apply below_drew1 | refine below_set ?_ GE183.out | refine below_set ?_ GE184.out) | exact HB.out)) hb); have n3_ := Aside0.mk (hbox); have n4_ := Aside0.mk ((by rw [hg]; exact (below_size (by repeat (first | (with_reducible first | exact HB.out | apply below_alloc | apply pw_below_drewN | apply below_drew1 | refine below_set ?_ GE183.out | refine below_set ?_ GE184.out) | exact HB.out))) : w.heap.size ≤ gb185)); have n5_ := Aside0.mk ((by rw [hg]; exact (below_size (by repeat (first | (with_reducible first | exact HB.out | apply below_alloc | apply pw_below_drewN | apply below_drew1 | refine below_set ?_ GE183.out | refine below_set ?_ GE184.out) | exact HB.out))) : w.heap.size ≤ gb185)); have n6_ := Aside0.mk ((by rw [hg]; exact Nat.ne_of_lt (blk_lt (g := gb183) (o := .cells #[.int .i64 a0_0, .int .i64 a0_1] 59 (0, 0)) (by (with_reducible repeat (first | refine blk_drewN ?_ _ | refine blk_drew ?_ | refine blk_alloc ?_ _)); exact BK183.out)) : gb183 ≠ gb185)); have n7_ := Aside0.mk ((by rw [hg]; exact Nat.ne_of_gt (blk_lt (g := gb183) (o := .cells #[.int .i64 a0_0, .int .i64 a0_1] 59 (0, 0)) (by (with_reducible repeat (first | refine blk_drewN ?_ _ | refine blk_drew ?_ | refine blk_alloc ?_ _)); exact BK183.out)) : gb185 ≠ gb183)); have n8_ := Aside0.mk ((by rw [hg]; exact Nat.ne_of_lt (blk_lt (g := gb184) (o := .cells #[.int .i64 0, .int .i64 0] 26 (0, 0)) (by (with_reducible repeat (first | refine blk_drewN ?_ _ | refine blk_drew ?_ | refine blk_alloc ?_ _)); exact BK184.out)) : gb184 ≠ gb185)); have n9_ := Aside0.mk ((by rw [hg]; exact Nat.ne_of_gt (blk_lt (g := gb184) (o := .cells #[.int .i64 0, .int .i64 0] 26 (0, 0)) (by (with_reducible repeat (first | refine blk_drewN ?_ _ | refine blk_drew ?_ | refine blk_alloc ?_ _)); exact BK184.out)) : gb185 ≠ gb184)); clear BK183; clear BK184; clear HB; have BK183 := n0_; have BK184 := n1_; have HB := n2_; have BK185 := n3_; have GW185 := n4_; have GE185 := n5_; have NB183_185 := n6_; have NB185_183 := n7_; have NB184_185 := n8_; have NB185_184 := n9_; clear n0_ n1_ n2_ n3_ n4_ n5_ n6_ n7_ n8_ n9_; clear hb hbox hg; have hnb5 := NB183_184.out; have hnc5 := NB184_183.out; have hnb6 := NB183_185.out; have hnc6 := NB185_183.out; have hcz7_0 : w4.cell? ⟨gb183, 0, none⟩ = some (.int .i64 a0_0) := (blk_cell BK183.out 0).trans rfl; have hcz7_1 : w4.cell? ⟨gb183, 1, none⟩ = some (.int .i64 a0_1) := (blk_cell BK183.out 1).trans rfl; have hfz7_0 := blk_frozen BK183.out 0; have hfz7_1 := blk_frozen BK183.out 1; have hnb8 := NB185_184.out; have hnc8 := NB184_185.out; have hcz9_0 : w4.cell? ⟨gb185, 0, none⟩ = some (.int .i64 0) := (blk_cell BK185.out 0).trans rfl; have hcz9_1 : w4.cell? ⟨gb185, 1, none⟩ = some (.int .i64 0) := (blk_cell BK185.out 1).trans rfl; have hfz9_0 := blk_frozen BK185.out 0; have hfz9_1 := blk_frozen BK185.out 1; have hcz10_0 : w4.cell? ⟨gb184, 0, none⟩ = some (.int .i64 0) := (blk_cell BK184.out 0).trans rfl; have hcz10_1 : w4.cell? ⟨gb184, 1, none⟩ = some (.int .i64 0) := (blk_cell BK184.out 1).trans rfl; have hfz10_0 := blk_frozen BK184.out 0; have hfz10_1 := blk_frozen BK184.out 1))
  refine bodyPost_ret (results_cell_row rfl _ _ gb184 26 #[.int .i64 a0_0, .int .i64 a0_1] (0, 0) _ rfl (by (with_reducible repeat (first | refine blk_drewN ?_ _ | refine blk_drew ?_ | refine blk_alloc ?_ _)); refine blk_put (cs := #[.int .i64 a0_0, .int .i64 0]) ?_ 1 _ rfl; (with_reducible repeat (first | refine blk_drewN ?_ _ | refine blk_drew ?_ | refine blk_alloc ?_ _)); refine blk_put (cs := #[.int .i64 0, .int .i64 0]) ?_ 0 _ rfl; (with_reducible repeat (first | refine blk_drewN ?_ _ | refine blk_drew ?_ | refine blk_alloc ?_ _)); refine blk_far ?_ NB184_185.out _; (with_reducible repeat (first | refine blk_drewN ?_ _ | refine blk_drew ?_ | refine blk_alloc ?_ _)); refine blk_far ?_ NB184_185.out _; (with_reducible repeat (first | refine blk_drewN ?_ _ | refine blk_drew ?_ | refine blk_alloc ?_ _)); exact BK184.out) Tryd.underlying26 rfl (by kernel_rfl)) rfl ?_
  exact ⟨by first | rfl | (simp [errW_none, errW_some] <;> rfl) | (simp [*, errW_none, errW_some] <;> rfl), by repeat (first | (with_reducible first | exact HB.out | apply below_alloc | apply pw_below_drewN | apply below_drew1 | refine below_set ?_ GE183.out | refine below_set ?_ GE184.out | refine below_set ?_ GE185.out) | exact HB.out)⟩

/-! ### laws_toReport: function 37 -/
def laws_toReport.f (k : Nat) (a0_0 : Int) (a0_1 : Int) (l0_2 : List Int) (a0_3 : Int) (a0_4 : Int) (l0_5 : List Int) (a0_6 : Int) (a0_7 : Int) : Option (Int × Int × List Int × Int × Int × List Int × Int × Int) := (laws_toIntS.f k l0_2).bind fun t189 => ((laws_toIntS.f k l0_5).bind fun t192 => ((laws_toSpan.f a0_6 a0_7).bind fun bt195 => (some (a0_0, a0_1, t189, a0_3, a0_4, t192, bt195.1, bt195.2))))
theorem laws_toReport.mono : ∀ a0 a1 a2 a3 a4 a5 a6 a7 k, LeO (laws_toReport.f k a0 a1 a2 a3 a4 a5 a6 a7) (laws_toReport.f (k + 1) a0 a1 a2 a3 a4 a5 a6 a7) := by
  intro a0 a1 a2 a3 a4 a5 a6 a7 k
  unfold laws_toReport.f
  repeat' first
      | (with_reducible exact laws_toIntS.mono _ _)
      | (with_reducible exact LeO.refl _)
      | (with_reducible exact LeO.none _)
      | (with_reducible refine LeO.ite ?_ ?_)
      | (with_reducible refine LeO.bind ?_ (fun _ => ?_))
      | exact laws_toIntS.mono _ _
      | exact LeO.none _
      | refine LeO.ite ?_ ?_
      | refine LeO.bind ?_ (fun _ => ?_)
set_option maxHeartbeats 8000000 in
set_option maxRecDepth 100000 in
theorem laws_toReport.calls (k : Nat) (a0_0 : Int) (a0_1 : Int) (A0_2 : Option Addr) (c0_2 : Nat) (l0_2 : List Int) (a0_3 : Int) (a0_4 : Int) (A0_5 : Option Addr) (c0_5 : Nat) (l0_5 : List Int) (a0_6 : Int) (a0_7 : Int) (r1 : Int) (r2 : Int) (r3 : List Int) (r4 : Int) (r5 : Int) (r6 : List Int) (r7 : Int) (r8 : Int) (w : World) (hr0_2 : Kd.C (Kd.int .i64) w A0_2 l0_2.length l0_2) (hc0_2 : l0_2.length ≤ c0_2) (hr0_5 : Kd.C (Kd.int .i64) w A0_5 l0_5.length l0_5) (hc0_5 : l0_5.length ≤ c0_5) (h : laws_toReport.f k a0_0 a0_1 l0_2 a0_3 a0_4 l0_5 a0_6 a0_7 = some (r1, r2, r3, r4, r5, r6, r7, r8)) :
    Calls Tryd.prog 37 #[.agg #[.int .i64 a0_0, .int .i64 a0_1, .slice A0_2 l0_2.length c0_2, .int .i64 a0_3, .int .i64 a0_4, .slice A0_5 l0_5.length c0_5, .int .i64 a0_6, .int .i64 a0_7]] w fun e w' => ∃ v2_ v5_ : Value, e = .returned (.agg #[.int .i64 r1, .int .i64 r2, v2_, .int .i64 r4, .int .i64 r5, v5_, .int .i64 r7, .int .i64 r8]) ∧ Kd.R (Kd.int .i64) 3 w' w.heap.size (fun k_ => some k_ ≠ (v5_ : Value).ownBlock) v2_ r3 ∧ Kd.R (Kd.int .i64) 3 w' w.heap.size (fun k_ => some k_ ≠ (v2_ : Value).ownBlock) v5_ r6 ∧ Below w.heap.size w w' := by
  have hu61 := Tryd.underlying61
  have hu28 := Tryd.underlying28
  have hu59 := Tryd.underlying59
  have hu26 := Tryd.underlying26
  have HR0_2 := Aside0.mk hr0_2
  have HC0_2 := Aside0.mk hc0_2
  clear hr0_2 hc0_2
  have HR0_5 := Aside0.mk hr0_5
  have HC0_5 := Aside0.mk hc0_5
  clear hr0_5 hc0_5
  have HB := Aside0.mk (Below.refl w.heap.size w)
  have H : ((laws_toIntS.f k l0_2).bind fun t189 => ((laws_toIntS.f k l0_5).bind fun t192 => ((laws_toSpan.f a0_6 a0_7).bind fun bt195 => (some (a0_0, a0_1, t189, a0_3, a0_4, t192, bt195.1, bt195.2))))) = some (r1, r2, r3, r4, r5, r6, r7, r8) := h
  clear h
  replace H := Option.bind_eq_some_iff.mp H
  obtain ⟨t189, A20, H⟩ := H
  replace H : ((laws_toIntS.f k l0_5).bind fun t192 => ((laws_toSpan.f a0_6 a0_7).bind fun bt195 => (some (a0_0, a0_1, t189, a0_3, a0_4, t192, bt195.1, bt195.2)))) = some (r1, r2, r3, r4, r5, r6, r7, r8) := H
  have A2 := Aside0.mk A20
  clear A20
  replace H := Option.bind_eq_some_iff.mp H
  obtain ⟨t192, A30, H⟩ := H
  replace H : ((laws_toSpan.f a0_6 a0_7).bind fun bt195 => (some (a0_0, a0_1, t189, a0_3, a0_4, t192, bt195.1, bt195.2))) = some (r1, r2, r3, r4, r5, r6, r7, r8) := H
  have A3 := Aside0.mk A30
  clear A30
  replace H := Option.bind_eq_some_iff.mp H
  obtain ⟨⟨t195, t196⟩, A40, H⟩ := H
  replace H : (some (a0_0, a0_1, t189, a0_3, a0_4, t192, t195, t196)) = some (r1, r2, r3, r4, r5, r6, r7, r8) := H
  have A4 := Aside0.mk A40
  clear A40
  simp only [Option.some.injEq, Prod.mk.injEq] at H
  obtain ⟨rfl, rfl, rfl, rfl, rfl, rfl, rfl, rfl⟩ := H
  go_enter Tryd.func37, Tryd.ntmps37
  go_wp2_with (first | ((with_reducible refine gate_dst (N := 1) rfl ?_); refine box_event ?hg (N := 1) ?hd (cs := #[.int .i64 a0_0, .int .i64 a0_1, .slice A0_2 l0_2.length c0_2, .int .i64 a0_3, .int .i64 a0_4, .slice A0_5 l0_5.length c0_5, .int .i64 a0_6, .int .i64 a0_7]) (t := 61) ?hr ?_; (case hd => rfl); (case hg => rfl); (case hr => first | (go_simp; done) | (go_simp; rfl)); intro gb186 hg w5 hbox hb; have n0_ := Aside0.mk (below_step (by repeat (first | (with_reducible first | exact HB.out | apply below_alloc | apply pw_below_drewN | apply below_drew1) | exact HB.out)) hb); have n1_ := Aside0.mk (hbox); have n2_ := Aside0.mk ((by rw [hg]; exact (below_size (by repeat (first | (with_reducible first | exact HB.out | apply below_alloc | apply pw_below_drewN | apply below_drew1) | exact HB.out))) : w.heap.size ≤ gb186)); have n3_ := Aside0.mk ((by rw [hg]; exact (below_size (by repeat (first | (with_reducible first | exact HB.out | apply below_alloc | apply pw_below_drewN | apply below_drew1) | exact HB.out))) : w.heap.size ≤ gb186)); clear HB; have HB := n0_; have BK186 := n1_; have GW186 := n2_; have GE186 := n3_; clear n0_ n1_ n2_ n3_; clear hb hbox hg) | ((with_reducible refine gate_dst (N := 2) rfl ?_); refine box_event ?hg (N := 2) ?hd (cs := #[.int .i64 0, .int .i64 0, .slice none 0 0, .int .i64 0, .int .i64 0, .slice none 0 0, .int .i64 0, .int .i64 0]) (t := 28) ?hr ?_; (case hd => rfl); (case hg => rfl); (case hr => first | (go_simp; done) | (go_simp; rfl)); intro gb187 hg w6 hbox hb; have n0_ := Aside0.mk (blk_below (g := gb186) (o := .cells #[.int .i64 a0_0, .int .i64 a0_1, .slice A0_2 l0_2.length c0_2, .int .i64 a0_3, .int .i64 a0_4, .slice A0_5 l0_5.length c0_5, .int .i64 a0_6, .int .i64 a0_7] 61 (0, 0)) (by (with_reducible repeat (first | refine blk_drewN ?_ _ | refine blk_drew ?_ | refine blk_alloc ?_ _)); exact BK186.out) hb); have n1_ := Aside0.mk (below_step (by repeat (first | (with_reducible first | exact HB.out | apply below_alloc | apply pw_below_drewN | apply below_drew1 | refine below_set ?_ GE186.out) | exact HB.out)) hb); have n2_ := Aside0.mk (hbox); have n3_ := Aside0.mk ((by rw [hg]; exact (below_size (by repeat (first | (with_reducible first | exact HB.out | apply below_alloc | apply pw_below_drewN | apply below_drew1 | refine below_set ?_ GE186.out) | exact HB.out))) : w.heap.size ≤ gb187)); have n4_ := Aside0.mk ((by rw [hg]; exact (below_size (by repeat (first | (with_reducible first | exact HB.out | apply below_alloc | apply pw_below_drewN | apply below_drew1 | refine below_set ?_ GE186.out) | exact HB.out))) : w.heap.size ≤ gb187)); have n5_ := Aside0.mk ((by rw [hg]; exact Nat.ne_of_lt (blk_lt (g := gb186) (o := .cells #[.int .i64 a0_0, .int .i64 a0_1, .slice A0_2 l0_2.length c0_2, .int .i64 a0_3, .int .i64 a0_4, .slice A0_5 l0_5.length c0_5, .int .i64 a0_6, .int .i64 a0_7] 61 (0, 0)) (by (with_reducible repeat (first | refine blk_drewN ?_ _ | refine blk_drew ?_ | refine blk_alloc ?_ _)); exact BK186.out)) : gb186 ≠ gb187)); have n6_ := Aside0.mk ((by rw [hg]; exact Nat.ne_of_gt (blk_lt (g := gb186) (o := .cells #[.int .i64 a0_0, .int .i64 a0_1, .slice A0_2 l0_2.length c0_2, .int .i64 a0_3, .int .i64 a0_4, .slice A0_5 l0_5.length c0_5, .int .i64 a0_6, .int .i64 a0_7] 61 (0, 0)) (by (with_reducible repeat (first | refine blk_drewN ?_ _ | refine blk_drew ?_ | refine blk_alloc ?_ _)); exact BK186.out)) : gb187 ≠ gb186)); clear BK186; clear HB; have BK186 := n0_; have HB := n1_; have BK187 := n2_; have GW187 := n3_; have GE187 := n4_; have NB186_187 := n5_; have NB187_186 := n6_; clear n0_ n1_ n2_ n3_ n4_ n5_ n6_; clear hb hbox hg) | ((with_reducible refine gate_dst (N := 3) rfl ?_); refine box_event ?hg (N := 3) ?hd (cs := #[.int .i64 0, .int .i64 0, .slice none 0 0, .int .i64 0, .int .i64 0, .slice none 0 0, .int .i64 0, .int .i64 0]) (t := 28) ?hr ?_; (case hd => rfl); (case hg => rfl); (case hr => first | (go_simp; done) | (go_simp; rfl)); intro gb188 hg w7 hbox hb; have n0_ := Aside0.mk (blk_below (g := gb186) (o := .cells #[.int .i64 a0_0, .int .i64 a0_1, .slice A0_2 l0_2.length c0_2, .int .i64 a0_3, .int .i64 a0_4, .slice A0_5 l0_5.length c0_5, .int .i64 a0_6, .int .i64 a0_7] 61 (0, 0)) (by (with_reducible repeat (first | refine blk_drewN ?_ _ | refine blk_drew ?_ | refine blk_alloc ?_ _)); exact BK186.out) hb); have n1_ := Aside0.mk (blk_below (g := gb187) (o := .cells #[.int .i64 0, .int .i64 0, .slice none 0 0, .int .i64 0, .int .i64 0, .slice none 0 0, .int .i64 0, .int .i64 0] 28 (0, 0)) (by (with_reducible repeat (first | refine blk_drewN ?_ _ | refine blk_drew ?_ | refine blk_alloc ?_ _)); exact BK187.out) hb); have n2_ := Aside0.mk (below_step (by repeat (first | (with_reducible first | exact HB.out | apply below_alloc | apply pw_below_drewN | apply below_drew1 | refine below_set ?_ GE186.out | refine below_set ?_ GE187.out) | exact HB.out)) hb); have n3_ := Aside0.mk (hbox); have n4_ := Aside0.mk ((by rw [hg]; exact (below_size (by repeat (first | (with_reducible first | exact HB.out | apply below_alloc | apply pw_below_drewN | apply below_drew1 | refine below_set ?_ GE186.out | refine below_set ?_ GE187.out) | exact HB.out))) : w.heap.size ≤ gb188)); have n5_ := Aside0.mk ((by rw [hg]; exact (below_size (by repeat (first | (with_reducible first | exact HB.out | apply below_alloc | apply pw_below_drewN | apply below_drew1 | refine below_set ?_ GE186.out | refine below_set ?_ GE187.out) | exact HB.out))) : w.heap.size ≤ gb188)); have n6_ := Aside0.mk ((by rw [hg]; exact Nat.ne_of_lt (blk_lt (g := gb186) (o := .cells #[.int .i64 a0_0, .int .i64 a0_1, .slice A0_2 l0_2.length c0_2, .int .i64 a0_3, .int .i64 a0_4, .slice A0_5 l0_5.length c0_5, .int .i64 a0_6, .int .i64 a0_7] 61 (0, 0)) (by (with_reducible repeat (first | refine blk_drewN ?_ _ | refine blk_drew ?_ | refine blk_alloc ?_ _)); exact BK186.out)) : gb186 ≠ gb188)); have n7_ := Aside0.mk ((by rw [hg]; exact Nat.ne_of_gt (blk_lt (g := gb186) (o := .cells #[.int .i64 a0_0, .int .i64 a0_1, .slice A0_2 l0_2.length c0_2, .int .i64 a0_3, .int .i64 a0_4, .slice A0_5 l0_5.length c0_5, .int .i64 a0_6, .int .i64 a0_7] 61 (0, 0)) (by (with_reducible repeat (first | refine blk_drewN ?_ _ | refine blk_drew ?_ | refine blk_alloc ?_ _)); exact BK186.out)) : gb188 ≠ gb186)); have n8_ := Aside0.mk ((by rw [hg]; exact Nat.ne_of_lt (blk_lt (g := gb187) (o := .cells #[.int .i64 0, .int .i64 0, .slice none 0 0, .int .i64 0, .int .i64 0, .slice none 0 0, .int .i64 0, .int .i64 0] 28 (0, 0)) (by (with_reducible repeat (first | refine blk_drewN ?_ _ | refine blk_drew ?_ | refine blk_alloc ?_ _)); exact BK187.out)) : gb187 ≠ gb188)); have n9_ := Aside0.mk ((by rw [hg]; exact Nat.ne_of_gt (blk_lt (g := gb187) (o := .cells #[.int .i64 0, .int .i64 0, .slice none 0 0, .int .i64 0, .int .i64 0, .slice none 0 0, .int .i64 0, .int .i64 0] 28 (0, 0)) (by (with_reducible repeat (first | refine blk_drewN ?_ _ | refine blk_drew ?_ | refine blk_alloc ?_ _)); exact BK187.out)) : gb188 ≠ gb187)); clear BK186; clear BK187; clear HB; have BK186 := n0_; have BK187 := n1_; have HB := n2_; have BK188 := n3_; have GW188 := n4_; have GE188 := n5_; have NB186_188 := n6_; have NB188_186 := n7_; have NB187_188 := n8_; have NB188_187 := n9_; clear n0_ n1_ n2_ n3_ n4_ n5_ n6_ n7_ n8_ n9_; clear hb hbox hg; have hnb8 := NB186_187.out; have hnc8 := NB187_186.out; have hnb9 := NB186_188.out; have hnc9 := NB188_186.out; have hcz10_0 : w7.cell? ⟨gb186, 0, none⟩ = some (.int .i64 a0_0) := (blk_cell BK186.out 0).trans rfl; have hcz10_1 : w7.cell? ⟨gb186, 1, none⟩ = some (.int .i64 a0_1) := (blk_cell BK186.out 1).trans rfl; have hcz10_2 : w7.cell? ⟨gb186, 2, none⟩ = some (.slice A0_2 l0_2.length c0_2) := (blk_cell BK186.out 2).trans rfl; have hcz10_3 : w7.cell? ⟨gb186, 3, none⟩ = some (.int .i64 a0_3) := (blk_cell BK186.out 3).trans rfl; have hcz10_4 : w7.cell? ⟨gb186, 4, none⟩ = some (.int .i64 a0_4) := (blk_cell BK186.out 4).trans rfl; have hcz10_5 : w7.cell? ⟨gb186, 5, none⟩ = some (.slice A0_5 l0_5.length c0_5) := (blk_cell BK186.out 5).trans rfl; have hcz10_6 : w7.cell? ⟨gb186, 6, none⟩ = some (.int .i64 a0_6) := (blk_cell BK186.out 6).trans rfl; have hcz10_7 : w7.cell? ⟨gb186, 7, none⟩ = some (.int .i64 a0_7) := (blk_cell BK186.out 7).trans rfl; have hfz10_0 := blk_frozen BK186.out 0; have hfz10_1 := blk_frozen BK186.out 1; have hfz10_2 := blk_frozen BK186.out 2; have hfz10_3 := blk_frozen BK186.out 3; have hfz10_4 := blk_frozen BK186.out 4; have hfz10_5 := blk_frozen BK186.out 5; have hfz10_6 := blk_frozen BK186.out 6; have hfz10_7 := blk_frozen BK186.out 7; have hnb11 := NB188_187.out; have hnc11 := NB187_188.out; have hcz12_0 : w7.cell? ⟨gb188, 0, none⟩ = some (.int .i64 0) := (blk_cell BK188.out 0).trans rfl; have hcz12_1 : w7.cell? ⟨gb188, 1, none⟩ = some (.int .i64 0) := (blk_cell BK188.out 1).trans rfl; have hcz12_2 : w7.cell? ⟨gb188, 2, none⟩ = some (.slice none 0 0) := (blk_cell BK188.out 2).trans rfl; have hcz12_3 : w7.cell? ⟨gb188, 3, none⟩ = some (.int .i64 0) := (blk_cell BK188.out 3).trans rfl; have hcz12_4 : w7.cell? ⟨gb188, 4, none⟩ = some (.int .i64 0) := (blk_cell BK188.out 4).trans rfl; have hcz12_5 : w7.cell? ⟨gb188, 5, none⟩ = some (.slice none 0 0) := (blk_cell BK188.out 5).trans rfl; have hcz12_6 : w7.cell? ⟨gb188, 6, none⟩ = some (.int .i64 0) := (blk_cell BK188.out 6).trans rfl; have hcz12_7 : w7.cell? ⟨gb188, 7, none⟩ = some (.int .i64 0) := (blk_cell BK188.out 7).trans rfl; have hfz12_0 := blk_frozen BK188.out 0; have hfz12_1 := blk_frozen BK188.out 1; have hfz12_2 := blk_frozen BK188.out 2; have hfz12_3 := blk_frozen BK188.out 3; have hfz12_4 := blk_frozen BK188.out 4; have hfz12_5 := blk_frozen BK188.out 5; have hfz12_6 := blk_frozen BK188.out 6; have hfz12_7 := blk_frozen BK188.out 7) | ((with_reducible refine gate_callee (f := 30) rfl ?_); refine goesL_ (some 12) rfl rfl Tryd.func30 (by kernel_rfl) rfl #[.slice A0_2 l0_2.length c0_2] rfl (by (try simp only [List.map_toArray, List.map_cons, List.map_nil]); first | done | rfl | (simp only [List.length_drop, List.length_take]; rfl)) ?_; (with_reducible refine (laws_toIntS.calls k _ _ l0_2 t189 _ ?side1 ?side2 A2.out).mono ?_); (case side1 => exact Kd.C_below HR0_2.out (by repeat (first | (with_reducible first | exact HB.out | apply below_alloc | apply pw_below_drewN | apply below_drew1 | refine below_set ?_ GE186.out | refine below_set ?_ GE187.out | refine below_set ?_ GE188.out) | exact HB.out))); (case side2 => exact HC0_2.out); rintro e w13 ⟨v190, rfl, ho0, hb⟩; refine ⟨_, rfl, ?_⟩; have n0_ := Aside0.mk (Kd.R_lower ho0 (below_size (by repeat (first | (with_reducible first | exact HB.out | apply below_alloc | apply pw_below_drewN | apply below_drew1 | refine below_set ?_ GE186.out | refine below_set ?_ GE187.out | refine below_set ?_ GE188.out) | exact HB.out)))); have n1_ := Aside0.mk (blk_below (g := gb186) (o := .cells #[.int .i64 a0_0, .int .i64 a0_1, .slice A0_2 l0_2.length c0_2, .int .i64 a0_3, .int .i64 a0_4, .slice A0_5 l0_5.length c0_5, .int .i64 a0_6, .int .i64 a0_7] 61 (0, 0)) (by (with_reducible repeat (first | refine blk_drewN ?_ _ | refine blk_drew ?_ | refine blk_alloc ?_ _)); refine blk_far ?_ NB186_188.out _; (with_reducible repeat (first | refine blk_drewN ?_ _ | refine blk_drew ?_ | refine blk_alloc ?_ _)); refine blk_far ?_ NB186_188.out _; (with_reducible repeat (first | refine blk_drewN ?_ _ | refine blk_drew ?_ | refine blk_alloc ?_ _)); exact BK186.out) hb); have n2_ := Aside0.mk (blk_below (g := gb187) (o := .cells #[.int .i64 0, .int .i64 0, .slice none 0 0, .int .i64 0, .int .i64 0, .slice none 0 0, .int .i64 0, .int .i64 0] 28 (0, 0)) (by (with_reducible repeat (first | refine blk_drewN ?_ _ | refine blk_drew ?_ | refine blk_alloc ?_ _)); refine blk_far ?_ NB187_188.out _; (with_reducible repeat (first | refine blk_drewN ?_ _ | refine blk_drew ?_ | refine blk_alloc ?_ _)); refine blk_far ?_ NB187_188.out _; (with_reducible repeat (first | refine blk_drewN ?_ _ | refine blk_drew ?_ | refine blk_alloc ?_ _)); exact BK187.out) hb); have n3_ := Aside0.mk (blk_below (g := gb188) (o := .cells #[.int .i64 a0_0, .int .i64 a0_1, .slice none 0 0, .int .i64 0, .int .i64 0, .slice none 0 0, .int .i64 0, .int .i64 0] 28 (0, 0)) (by (with_reducible repeat (first | refine blk_drewN ?_ _ | refine blk_drew ?_ | refine blk_alloc ?_ _)); refine blk_put (cs := #[.int .i64 a0_0, .int .i64 0, .slice none 0 0, .int .i64 0, .int .i64 0, .slice none 0 0, .int .i64 0, .int .i64 0]) ?_ 1 _ rfl; (with_reducible repeat (first | refine blk_drewN ?_ _ | refine blk_drew ?_ | refine blk_alloc ?_ _)); refine blk_put (cs := #[.int .i64 0, .int .i64 0, .slice none 0 0, .int .i64 0, .int .i64 0, .slice none 0 0, .int .i64 0, .int .i64 0]) ?_ 0 _ rfl; (with_reducible repeat (first | refine blk_drewN ?_ _ | refine blk_drew ?_ | refine blk_alloc ?_ _)); exact BK188.out) hb); have n4_ := Aside0.mk (below_step (by repeat (first | (with_reducible first | exact HB.out | apply below_alloc | apply pw_below_drewN | apply below_drew1 | refine below_set ?_ GE186.out | refine below_set ?_ GE187.out | refine below_set ?_ GE188.out) | exact HB.out)) hb); clear BK186; clear BK187; clear BK188; clear HB; have HO191 := n0_; have BK186 := n1_; have BK187 := n2_; have BK188 := n3_; have HB := n4_; clear n0_ n1_ n2_ n3_ n4_; (try clear hb); (try clear hb2); (try clear hk); (try clear hi); (try clear ho0); obtain ⟨Ao14, co14, eo14⟩ := Kd.R_slice HO191.out; subst eo14; have hcz15_0 : w13.cell? ⟨gb188, 0, none⟩ = some (.int .i64 a0_0) := (blk_cell BK188.out 0).trans rfl; have hcz15_1 : w13.cell? ⟨gb188, 1, none⟩ = some (.int .i64 a0_1) := (blk_cell BK188.out 1).trans rfl; have hcz15_2 : w13.cell? ⟨gb188, 2, none⟩ = some (.slice none 0 0) := (blk_cell BK188.out 2).trans rfl; have hcz15_3 : w13.cell? ⟨gb188, 3, none⟩ = some (.int .i64 0) := (blk_cell BK188.out 3).trans rfl; have hcz15_4 : w13.cell? ⟨gb188, 4, none⟩ = some (.int .i64 0) := (blk_cell BK188.out 4).trans rfl; have hcz15_5 : w13.cell? ⟨gb188, 5, none⟩ = some (.slice none 0 0) := (blk_cell BK188.out 5).trans rfl; have hcz15_6 : w13.cell? ⟨gb188, 6, none⟩ = some (.int .i64 0) := (blk_cell BK188.out 6).trans rfl; have hcz15_7 : w13.cell? ⟨gb188, 7, none⟩ = some (.int .i64 0) := (blk_cell BK188.out 7).trans rfl; have hfz15_0 := blk_frozen BK188.out 0; have hfz15_1 := blk_frozen BK188.out 1; have hfz15_2 := blk_frozen BK188.out 2; have hfz15_3 := blk_frozen BK188.out 3; have hfz15_4 := blk_frozen BK188.out 4; have hfz15_5 := blk_frozen BK188.out 5; have hfz15_6 := blk_frozen BK188.out 6; have hfz15_7 := blk_frozen BK188.out 7; have hcz16_0 : w13.cell? ⟨gb186, 0, none⟩ = some (.int .i64 a0_0) := (blk_cell BK186.out 0).trans rfl; have hcz16_1 : w13.cell? ⟨gb186, 1, none⟩ = some (.int .i64 a0_1) := (blk_cell BK186.out 1).trans rfl; have hcz16_2 : w13.cell? ⟨gb186, 2, none⟩ = some (.slice A0_2 l0_2.length c0_2) := (blk_cell BK186.out 2).trans rfl; have hcz16_3 : w13.cell? ⟨gb186, 3, none⟩ = some (.int .i64 a0_3) := (blk_cell BK186.out 3).trans rfl; have hcz16_4 : w13.cell? ⟨gb186, 4, none⟩ = some (.int .i64 a0_4) := (blk_cell BK186.out 4).trans rfl; have hcz16_5 : w13.cell? ⟨gb186, 5, none⟩ = some (.slice A0_5 l0_5.length c0_5) := (blk_cell BK186.out 5).trans rfl; have hcz16_6 : w13.cell? ⟨gb186, 6, none⟩ = some (.int .i64 a0_6) := (blk_cell BK186.out 6).trans rfl; have hcz16_7 : w13.cell? ⟨gb186, 7, none⟩ = some (.int .i64 a0_7) := (blk_cell BK186.out 7).trans rfl; have hfz16_0 := blk_frozen BK186.out 0; have hfz16_1 := blk_frozen BK186.out 1; have hfz16_2 := blk_frozen BK186.out 2; have hfz16_3 := blk_frozen BK186.out 3; have hfz16_4 := blk_frozen BK186.out 4; have hfz16_5 := blk_frozen BK186.out 5; have hfz16_6 := blk_frozen BK186.out 6; have hfz16_7 := blk_frozen BK186.out 7) | ((with_reducible refine gate_callee (f := 30) rfl ?_); refine goesL_ (some 22) rfl rfl Tryd.func30 (by kernel_rfl) rfl #[.slice A0_5 l0_5.length c0_5] rfl (by (try simp only [List.map_toArray, List.map_cons, List.map_nil]); first | done | rfl | (simp only [List.length_drop, List.length_take]; rfl)) ?_; (with_reducible refine (laws_toIntS.calls k _ _ l0_5 t192 _ ?side1 ?side2 A3.out).mono ?_); (case side1 => exact Kd.C_below HR0_5.out (by repeat (first | (with_reducible first | exact HB.out | apply below_alloc | apply pw_below_drewN | apply below_drew1 | refine below_set ?_ GE186.out | refine below_set ?_ GE187.out | refine below_set ?_ GE188.out) | exact HB.out))); (case side2 => exact HC0_5.out); rintro e w17 ⟨v193, rfl, ho0, hb⟩; refine ⟨_, rfl, ?_⟩; have n0_ := Aside0.mk (Kd.R_elder' (by (with_reducible repeat (first | apply Kd.R_alloc | apply Kd.R_drewN | apply Kd.R_drew)); exact (Kd.R_mono (Kd.R_far (p := ⟨gb188, 4, none⟩) (Kd.R_far (p := ⟨gb188, 3, none⟩) (Kd.R_far (p := ⟨gb188, 2, none⟩) (Kd.R_types HO191.out BK188.out (by decide)) (fun _ hk => hk.2) (.slice Ao14 t189.length co14)) (fun _ hk => hk.2) (.int .i64 a0_3)) (fun _ hk => hk.2) (.int .i64 a0_4)) (fun _ h_ => h_.1))) (Kd.R_base ho0) hb); have n1_ := Aside0.mk (Kd.R_lower (Kd.R_new' ho0 (Kd.R_lt (by (with_reducible repeat (first | apply Kd.R_alloc | apply Kd.R_drewN | apply Kd.R_drew)); exact (Kd.R_mono (Kd.R_far (p := ⟨gb188, 4, none⟩) (Kd.R_far (p := ⟨gb188, 3, none⟩) (Kd.R_far (p := ⟨gb188, 2, none⟩) (Kd.R_types HO191.out BK188.out (by decide)) (fun _ hk => hk.2) (.slice Ao14 t189.length co14)) (fun _ hk => hk.2) (.int .i64 a0_3)) (fun _ hk => hk.2) (.int .i64 a0_4)) (fun _ h_ => h_.1))))) (below_size (by repeat (first | (with_reducible first | exact HB.out | apply below_alloc | apply pw_below_drewN | apply below_drew1 | refine below_set ?_ GE186.out | refine below_set ?_ GE187.out | refine below_set ?_ GE188.out) | exact HB.out)))); have n2_ := Aside0.mk (blk_below (g := gb186) (o := .cells #[.int .i64 a0_0, .int .i64 a0_1, .slice A0_2 l0_2.length c0_2, .int .i64 a0_3, .int .i64 a0_4, .slice A0_5 l0_5.length c0_5, .int .i64 a0_6, .int .i64 a0_7] 61 (0, 0)) (by (with_reducible repeat (first | refine blk_drewN ?_ _ | refine blk_drew ?_ | refine blk_alloc ?_ _)); refine blk_far ?_ NB186_188.out _; (with_reducible repeat (first | refine blk_drewN ?_ _ | refine blk_drew ?_ | refine blk_alloc ?_ _)); refine blk_far ?_ NB186_188.out _; (with_reducible repeat (first | refine blk_drewN ?_ _ | refine blk_drew ?_ | refine blk_alloc ?_ _)); refine blk_far ?_ NB186_188.out _; (with_reducible repeat (first | refine blk_drewN ?_ _ | refine blk_drew ?_ | refine blk_alloc ?_ _)); exact BK186.out) hb); have n3_ := Aside0.mk (blk_below (g := gb187) (o := .cells #[.int .i64 0, .int .i64 0, .slice none 0 0, .int .i64 0, .int .i64 0, .slice none 0 0, .int .i64 0, .int .i64 0] 28 (0, 0)) (by (with_reducible repeat (first | refine blk_drewN ?_ _ | refine blk_drew ?_ | refine blk_alloc ?_ _)); refine blk_far ?_ NB187_188.out _; (with_reducible repeat (first | refine blk_drewN ?_ _ | refine blk_drew ?_ | refine blk_alloc ?_ _)); refine blk_far ?_ NB187_188.out _; (with_reducible repeat (first | refine blk_drewN ?_ _ | refine blk_drew ?_ | refine blk_alloc ?_ _)); refine blk_far ?_ NB187_188.out _; (with_reducible repeat (first | refine blk_drewN ?_ _ | refine blk_drew ?_ | refine blk_alloc ?_ _)); exact BK187.out) hb); have n4_ := Aside0.mk (blk_below (g := gb188) (o := .cells #[.int .i64 a0_0, .int .i64 a0_1, .slice Ao14 t189.length co14, .int .i64 a0_3, .int .i64 a0_4, .slice none 0 0, .int .i64 0, .int .i64 0] 28 (0, 0)) (by (with_reducible repeat (first | refine blk_drewN ?_ _ | refine blk_drew ?_ | refine blk_alloc ?_ _)); refine blk_put (cs := #[.int .i64 a0_0, .int .i64 a0_1, .slice Ao14 t189.length co14, .int .i64 a0_3, .int .i64 0, .slice none 0 0, .int .i64 0, .int .i64 0]) ?_ 4 _ rfl; (with_reducible repeat (first | refine blk_drewN ?_ _ | refine blk_drew ?_ | refine blk_alloc ?_ _)); refine blk_put (cs := #[.int .i64 a0_0, .int .i64 a0_1, .slice Ao14 t189.length co14, .int .i64 0, .int .i64 0, .slice none 0 0, .int .i64 0, .int .i64 0]) ?_ 3 _ rfl; (with_reducible repeat (first | refine blk_drewN ?_ _ | refine blk_drew ?_ | refine blk_alloc ?_ _)); refine blk_put (cs := #[.int .i64 a0_0, .int .i64 a0_1, .slice none 0 0, .int .i64 0, .int .i64 0, .slice none 0 0, .int .i64 0, .int .i64 0]) ?_ 2 _ rfl; (with_reducible repeat (first | refine blk_drewN ?_ _ | refine blk_drew ?_ | refine blk_alloc ?_ _)); exact BK188.out) hb); have n5_ := Aside0.mk (below_step (by repeat (first | (with_reducible first | exact HB.out | apply below_alloc | apply pw_below_drewN | apply below_drew1 | refine below_set ?_ GE186.out | refine below_set ?_ GE187.out | refine below_set ?_ GE188.out) | exact HB.out)) hb); clear HO191; clear BK186; clear BK187; clear BK188; clear HB; have HO191 := n0_; have HO194 := n1_; have BK186 := n2_; have BK187 := n3_; have BK188 := n4_; have HB := n5_; clear n0_ n1_ n2_ n3_ n4_ n5_; (try clear hb); (try clear hb2); (try clear hk); (try clear hi); (try clear ho0); obtain ⟨Ao18, co18, eo18⟩ := Kd.R_slice HO194.out; subst eo18; have hcz19_0 : w17.cell? ⟨gb188, 0, none⟩ = some (.int .i64 a0_0) := (blk_cell BK188.out 0).trans rfl; have hcz19_1 : w17.cell? ⟨gb188, 1, none⟩ = some (.int .i64 a0_1) := (blk_cell BK188.out 1).trans rfl; have hcz19_2 : w17.cell? ⟨gb188, 2, none⟩ = some (.slice Ao14 t189.length co14) := (blk_cell BK188.out 2).trans rfl; have hcz19_3 : w17.cell? ⟨gb188, 3, none⟩ = some (.int .i64 a0_3) := (blk_cell BK188.out 3).trans rfl; have hcz19_4 : w17.cell? ⟨gb188, 4, none⟩ = some (.int .i64 a0_4) := (blk_cell BK188.out 4).trans rfl; have hcz19_5 : w17.cell? ⟨gb188, 5, none⟩ = some (.slice none 0 0) := (blk_cell BK188.out 5).trans rfl; have hcz19_6 : w17.cell? ⟨gb188, 6, none⟩ = some (.int .i64 0) := (blk_cell BK188.out 6).trans rfl; have hcz19_7 : w17.cell? ⟨gb188, 7, none⟩ = some (.int .i64 0) := (blk_cell BK188.out 7).trans rfl; have hfz19_0 := blk_frozen BK188.out 0; have hfz19_1 := blk_frozen BK188.out 1; have hfz19_2 := blk_frozen BK188.out 2; have hfz19_3 := blk_frozen BK188.out 3; have hfz19_4 := blk_frozen BK188.out 4; have hfz19_5 := blk_frozen BK188.out 5; have hfz19_6 := blk_frozen BK188.out 6; have hfz19_7 := blk_frozen BK188.out 7; have hcz20_0 : w17.cell? ⟨gb186, 0, none⟩ = some (.int .i64 a0_0) := (blk_cell BK186.out 0).trans rfl; have hcz20_1 : w17.cell? ⟨gb186, 1, none⟩ = some (.int .i64 a0_1) := (blk_cell BK186.out 1).trans rfl; have hcz20_2 : w17.cell? ⟨gb186, 2, none⟩ = some (.slice A0_2 l0_2.length c0_2) := (blk_cell BK186.out 2).trans rfl; have hcz20_3 : w17.cell? ⟨gb186, 3, none⟩ = some (.int .i64 a0_3) := (blk_cell BK186.out 3).trans rfl; have hcz20_4 : w17.cell? ⟨gb186, 4, none⟩ = some (.int .i64 a0_4) := (blk_cell BK186.out 4).trans rfl; have hcz20_5 : w17.cell? ⟨gb186, 5, none⟩ = some (.slice A0_5 l0_5.length c0_5) := (blk_cell BK186.out 5).trans rfl; have hcz20_6 : w17.cell? ⟨gb186, 6, none⟩ = some (.int .i64 a0_6) := (blk_cell BK186.out 6).trans rfl; have hcz20_7 : w17.cell? ⟨gb186, 7, none⟩ = some (.int .i64 a0_7) := (blk_cell BK186.out 7).trans rfl; have hfz20_0 := blk_frozen BK186.out 0; have hfz20_1 := blk_frozen BK186.out 1; have hfz20_2 := blk_frozen BK186.out 2; have hfz20_3 := blk_frozen BK186.out 3; have hfz20_4 := blk_frozen BK186.out 4; have hfz20_5 := blk_frozen BK186.out 5; have hfz20_6 := blk_frozen BK186.out 6; have hfz20_7 := blk_frozen BK186.out 7) | ((with_reducible refine gate_callee (f := 70) rfl ?_); refine goesL_ (some 26) rfl rfl Tryd.func70 (by kernel_rfl) rfl #[.agg #[.int .i64 a0_6, .int .i64 a0_7]] rfl (by (try simp only [List.map_toArray, List.map_cons, List.map_nil]); first | done | rfl | (simp only [List.length_drop, List.length_take]; rfl)) ?_; (with_reducible refine (laws_toSpan.calls a0_6 a0_7 t195 t196 _ A4.out).mono ?_); rintro e w21 ⟨rfl, hb⟩; refine ⟨_, rfl, ?_⟩; have n0_ := Aside0.mk (Kd.R_below (by (with_reducible repeat (first | apply Kd.R_alloc | apply Kd.R_drewN | apply Kd.R_drew)); exact (Kd.R_mono (Kd.R_far (p := ⟨gb188, 5, none⟩) (Kd.R_types HO191.out BK188.out (by decide)) (fun _ hk => hk.2) (.slice Ao18 t192.length co18)) (fun _ h_ => h_.1))) hb); have n1_ := Aside0.mk (Kd.R_below (by (with_reducible repeat (first | apply Kd.R_alloc | apply Kd.R_drewN | apply Kd.R_drew)); exact (Kd.R_mono (Kd.R_far (p := ⟨gb188, 5, none⟩) (Kd.R_types HO194.out BK188.out (by decide)) (fun _ hk => hk.2) (.slice Ao18 t192.length co18)) (fun _ h_ => h_.1))) hb); have n2_ := Aside0.mk (blk_below (g := gb186) (o := .cells #[.int .i64 a0_0, .int .i64 a0_1, .slice A0_2 l0_2.length c0_2, .int .i64 a0_3, .int .i64 a0_4, .slice A0_5 l0_5.length c0_5, .int .i64 a0_6, .int .i64 a0_7] 61 (0, 0)) (by (with_reducible repeat (first | refine blk_drewN ?_ _ | refine blk_drew ?_ | refine blk_alloc ?_ _)); refine blk_far ?_ NB186_188.out _; (with_reducible repeat (first | refine blk_drewN ?_ _ | refine blk_drew ?_ | refine blk_alloc ?_ _)); exact BK186.out) hb); have n3_ := Aside0.mk (blk_below (g := gb187) (o := .cells #[.int .i64 0, .int .i64 0, .slice none 0 0, .int .i64 0, .int .i64 0, .slice none 0 0, .int .i64 0, .int .i64 0] 28 (0, 0)) (by (with_reducible repeat (first | refine blk_drewN ?_ _ | refine blk_drew ?_ | refine blk_alloc ?_ _)); refine blk_far ?_ NB187_188.out _; (with_reducible repeat (first | refine blk_drewN ?_ _ | refine blk_drew ?_ | refine blk_alloc ?_ _)); exact BK187.out) hb); have n4_ := Aside0.mk (blk_below (g := gb188) (o := .cells #[.int .i64 a0_0, .int .i64 a0_1, .slice Ao14 t189.length co14, .int .i64 a0_3, .int .i64 a0_4, .slice Ao18 t192.length co18, .int .i64 0, .int .i64 0] 28 (0, 0)) (by (with_reducible repeat (first | refine blk_drewN ?_ _ | refine blk_drew ?_ | refine blk_alloc ?_ _)); refine blk_put (cs := #[.int .i64 a0_0, .int .i64 a0_1, .slice Ao14 t189.length co14, .int .i64 a0_3, .int .i64 a0_4, .slice none 0 0, .int .i64 0, .int .i64 0]) ?_ 5 _ rfl; (with_reducible repeat (first | refine blk_drewN ?_ _ | refine blk_drew ?_ | refine blk_alloc ?_ _)); exact BK188.out) hb); have n5_ := Aside0.mk (below_step (by repeat (first | (with_reducible first | exact HB.out | apply below_alloc | apply pw_below_drewN | apply below_drew1 | refine below_set ?_ GE186.out | refine below_set ?_ GE187.out | refine below_set ?_ GE188.out) | exact HB.out)) hb); clear HO191; clear HO194; clear BK186; clear BK187; clear BK188; clear HB; have HO191 := n0_; have HO194 := n1_; have BK186 := n2_; have BK187 := n3_; have BK188 := n4_; have HB := n5_; clear n0_ n1_ n2_ n3_ n4_ n5_; (try clear hb); (try clear hb2); (try clear hk); (try clear hi); have hcz22_0 : w21.cell? ⟨gb188, 0, none⟩ = some (.int .i64 a0_0) := (blk_cell BK188.out 0).trans rfl; have hcz22_1 : w21.cell? ⟨gb188, 1, none⟩ = some (.int .i64 a0_1) := (blk_cell BK188.out 1).trans rfl; have hcz22_2 : w21.cell? ⟨gb188, 2, none⟩ = some (.slice Ao14 t189.length co14) := (blk_cell BK188.out 2).trans rfl; have hcz22_3 : w21.cell? ⟨gb188, 3, none⟩ = some (.int .i64 a0_3) := (blk_cell BK188.out 3).trans rfl; have hcz22_4 : w21.cell? ⟨gb188, 4, none⟩ = some (.int .i64 a0_4) := (blk_cell BK188.out 4).trans rfl; have hcz22_5 : w21.cell? ⟨gb188, 5, none⟩ = some (.slice Ao18 t192.length co18) := (blk_cell BK188.out 5).trans rfl; have hcz22_6 : w21.cell? ⟨gb188, 6, none⟩ = some (.int .i64 0) := (blk_cell BK188.out 6).trans rfl; have hcz22_7 : w21.cell? ⟨gb188, 7, none⟩ = some (.int .i64 0) := (blk_cell BK188.out 7).trans rfl; have hfz22_0 := blk_frozen BK188.out 0; have hfz22_1 := blk_frozen BK188.out 1; have hfz22_2 := blk_frozen BK188.out 2; have hfz22_3 := blk_frozen BK188.out 3; have hfz22_4 := blk_frozen BK188.out 4; have hfz22_5 := blk_frozen BK188.out 5; have hfz22_6 := blk_frozen BK188.out 6; have hfz22_7 := blk_frozen BK188.out 7; have hcz23_0 : w21.cell? ⟨gb187, 0, none⟩ = some (.int .i64 0) := (blk_cell BK187.out 0).trans rfl; have hcz23_1 : w21.cell? ⟨gb187, 1, none⟩ = some (.int .i64 0) := (blk_cell BK187.out 1).trans rfl; have hcz23_2 : w21.cell? ⟨gb187, 2, none⟩ = some (.slice none 0 0) := (blk_cell BK187.out 2).trans rfl; have hcz23_3 : w21.cell? ⟨gb187, 3, none⟩ = some (.int .i64 0) := (blk_cell BK187.out 3).trans rfl; have hcz23_4 : w21.cell? ⟨gb187, 4, none⟩ = some (.int .i64 0) := (blk_cell BK187.out 4).trans rfl; have hcz23_5 : w21.cell? ⟨gb187, 5, none⟩ = some (.slice none 0 0) := (blk_cell BK187.out 5).trans rfl; have hcz23_6 : w21.cell? ⟨gb187, 6, none⟩ = some (.int .i64 0) := (blk_cell BK187.out 6).trans rfl; have hcz23_7 : w21.cell? ⟨gb187, 7, none⟩ = some (.int .i64 0) := (blk_cell BK187.out 7).trans rfl; have hfz23_0 := blk_frozen BK187.out 0; have hfz23_1 := blk_frozen BK187.out 1; have hfz23_2 := blk_frozen BK187.out 2; have hfz23_3 := blk_frozen BK187.out 3; have hfz23_4 := blk_frozen BK187.out 4; have hfz23_5 := blk_frozen BK187.out 5; have hfz23_6 := blk_frozen BK187.out 6; have hfz23_7 := blk_frozen BK187.out 7))
  refine bodyPost_ret (results_cell_row rfl _ _ gb187 28 #[.int .i64 a0_0, .int .i64 a0_1, .slice Ao14 t189.length co14, .int .i64 a0_3, .int .i64 a0_4, .slice Ao18 t192.length co18, .int .i64 t195, .int .i64 t196] (0, 0) _ rfl (by (with_reducible repeat (first | refine blk_drewN ?_ _ | refine blk_drew ?_ | refine blk_alloc ?_ _)); refine blk_put (cs := #[.int .i64 a0_0, .int .i64 a0_1, .slice Ao14 t189.length co14, .int .i64 a0_3, .int .i64 a0_4, .slice Ao18 t192.length co18, .int .i64 t195, .int .i64 0]) ?_ 7 _ rfl; (with_reducible repeat (first | refine blk_drewN ?_ _ | refine blk_drew ?_ | refine blk_alloc ?_ _)); refine blk_put (cs := #[.int .i64 a0_0, .int .i64 a0_1, .slice Ao14 t189.length co14, .int .i64 a0_3, .int .i64 a0_4, .slice Ao18 t192.length co18, .int .i64 0, .int .i64 0]) ?_ 6 _ rfl; (with_reducible repeat (first | refine blk_drewN ?_ _ | refine blk_drew ?_ | refine blk_alloc ?_ _)); refine blk_put (cs := #[.int .i64 a0_0, .int .i64 a0_1, .slice Ao14 t189.length co14, .int .i64 a0_3, .int .i64 a0_4, .slice none 0 0, .int .i64 0, .int .i64 0]) ?_ 5 _ rfl; (with_reducible repeat (first | refine blk_drewN ?_ _ | refine blk_drew ?_ | refine blk_alloc ?_ _)); refine blk_put (cs := #[.int .i64 a0_0, .int .i64 a0_1, .slice Ao14 t189.length co14, .int .i64 a0_3, .int .i64 0, .slice none 0 0, .int .i64 0, .int .i64 0]) ?_ 4 _ rfl; (with_reducible repeat (first | refine blk_drewN ?_ _ | refine blk_drew ?_ | refine blk_alloc ?_ _)); refine blk_put (cs := #[.int .i64 a0_0, .int .i64 a0_1, .slice Ao14 t189.length co14, .int .i64 0, .int .i64 0, .slice none 0 0, .int .i64 0, .int .i64 0]) ?_ 3 _ rfl; (with_reducible repeat (first | refine blk_drewN ?_ _ | refine blk_drew ?_ | refine blk_alloc ?_ _)); refine blk_put (cs := #[.int .i64 a0_0, .int .i64 a0_1, .slice none 0 0, .int .i64 0, .int .i64 0, .slice none 0 0, .int .i64 0, .int .i64 0]) ?_ 2 _ rfl; (with_reducible repeat (first | refine blk_drewN ?_ _ | refine blk_drew ?_ | refine blk_alloc ?_ _)); refine blk_put (cs := #[.int .i64 a0_0, .int .i64 0, .slice none 0 0, .int .i64 0, .int .i64 0, .slice none 0 0, .int .i64 0, .int .i64 0]) ?_ 1 _ rfl; (with_reducible repeat (first | refine blk_drewN ?_ _ | refine blk_drew ?_ | refine blk_alloc ?_ _)); refine blk_put (cs := #[.int .i64 0, .int .i64 0, .slice none 0 0, .int .i64 0, .int .i64 0, .slice none 0 0, .int .i64 0, .int .i64 0]) ?_ 0 _ rfl; (with_reducible repeat (first | refine blk_drewN ?_ _ | refine blk_drew ?_ | refine blk_alloc ?_ _)); refine blk_far ?_ NB187_188.out _; (with_reducible repeat (first | refine blk_drewN ?_ _ | refine blk_drew ?_ | refine blk_alloc ?_ _)); refine blk_far ?_ NB187_188.out _; (with_reducible repeat (first | refine blk_drewN ?_ _ | refine blk_drew ?_ | refine blk_alloc ?_ _)); exact BK187.out) Tryd.underlying28 rfl (by kernel_rfl)) rfl ?_
  exact ⟨_, _, by first | rfl | (simp [errW_none, errW_some] <;> rfl) | (simp [*, errW_none, errW_some] <;> rfl), by (with_reducible repeat (first | apply Kd.R_alloc | apply Kd.R_drewN | apply Kd.R_drew)); exact Kd.R_mono (Kd.R_far (p := ⟨gb187, 7, none⟩) (Kd.R_far (p := ⟨gb187, 6, none⟩) (Kd.R_far (p := ⟨gb187, 5, none⟩) (Kd.R_far (p := ⟨gb187, 4, none⟩) (Kd.R_far (p := ⟨gb187, 3, none⟩) (Kd.R_far (p := ⟨gb187, 2, none⟩) (Kd.R_far (p := ⟨gb187, 1, none⟩) (Kd.R_far (p := ⟨gb187, 0, none⟩) (Kd.R_far (p := ⟨gb188, 7, none⟩) (Kd.R_far (p := ⟨gb188, 6, none⟩) (Kd.R_types (Kd.R_types HO191.out BK188.out (by decide)) BK187.out (by decide)) (fun _ hk => hk.1.2) (.int .i64 t195)) (fun _ hk => hk.1.2) (.int .i64 t196)) (fun _ hk => hk.2) (.int .i64 a0_0)) (fun _ hk => hk.2) (.int .i64 a0_1)) (fun _ hk => hk.2) (.slice Ao14 t189.length co14)) (fun _ hk => hk.2) (.int .i64 a0_3)) (fun _ hk => hk.2) (.int .i64 a0_4)) (fun _ hk => hk.2) (.slice Ao18 t192.length co18)) (fun _ hk => hk.2) (.int .i64 t195)) (fun _ hk => hk.2) (.int .i64 t196)) (fun _ hk => hk.1.1.2), by (with_reducible repeat (first | apply Kd.R_alloc | apply Kd.R_drewN | apply Kd.R_drew)); exact Kd.R_mono (Kd.R_far (p := ⟨gb187, 7, none⟩) (Kd.R_far (p := ⟨gb187, 6, none⟩) (Kd.R_far (p := ⟨gb187, 5, none⟩) (Kd.R_far (p := ⟨gb187, 4, none⟩) (Kd.R_far (p := ⟨gb187, 3, none⟩) (Kd.R_far (p := ⟨gb187, 2, none⟩) (Kd.R_far (p := ⟨gb187, 1, none⟩) (Kd.R_far (p := ⟨gb187, 0, none⟩) (Kd.R_far (p := ⟨gb188, 7, none⟩) (Kd.R_far (p := ⟨gb188, 6, none⟩) (Kd.R_types (Kd.R_types HO194.out BK188.out (by decide)) BK187.out (by decide)) (fun _ hk => hk.1.2) (.int .i64 t195)) (fun _ hk => hk.1.2) (.int .i64 t196)) (fun _ hk => hk.2) (.int .i64 a0_0)) (fun _ hk => hk.2) (.int .i64 a0_1)) (fun _ hk => hk.2) (.slice Ao14 t189.length co14)) (fun _ hk => hk.2) (.int .i64 a0_3)) (fun _ hk => hk.2) (.int .i64 a0_4)) (fun _ hk => hk.2) (.slice Ao18 t192.length co18)) (fun _ hk => hk.2) (.int .i64 t195)) (fun _ hk => hk.2) (.int .i64 t196)) (fun _ hk => hk.1.1.2), by repeat (first | (with_reducible first | exact HB.out | apply below_alloc | apply pw_below_drewN | apply below_drew1 | refine below_set ?_ GE186.out | refine below_set ?_ GE187.out | refine below_set ?_ GE188.out) | exact HB.out)⟩

end Go.Proofs.YtihnanfekchlhaaDoor.PFnExactReportText
