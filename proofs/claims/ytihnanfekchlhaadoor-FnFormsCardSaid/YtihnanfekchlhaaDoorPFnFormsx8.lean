-- Written for this claim by a program (a printer turned to this claim); Lean checks it.
import Derived.Test.YtihnanfekchlhaaDoorPFnFormsx0
import Derived.Test.YtihnanfekchlhaaDoorPFnFormsx2
import Derived.Test.YtihnanfekchlhaaDoorPFnFormsx3
import Derived.Test.YtihnanfekchlhaaDoorPFnFormsx6
import Derived.Test.YtihnanfekchlhaaDoorPFnFormsx7
namespace Go.Proofs.YtihnanfekchlhaaDoor.PFnForms
open Go.RowKit Go.Proofs.YtihnanfekchlhaaDoorW.PrintWords Go.Proofs.YtihnanfekchlhaaDoorW.PrintLast Go.Proofs.YtihnanfekchlhaaDoorW.PrintMore
attribute [local go_sem] max2_int min2_int max_two min_two max_three min_three max_four min_four   -- for this text's walks alone
set_option linter.unusedVariables false
set_option linter.unusedSimpArgs false

/-! ### spec_ReportText: function 36 -/
def spec_ReportText.f (k : Nat) (a0_0 : Int) (a0_1 : Int) (l0_2 : List Int) (a0_3 : Int) (a0_4 : Int) (l0_5 : List Int) (a0_6 : Int) (a0_7 : Int) : Option (ByteArray) := (spec_IsReport.f k a0_0 a0_1 l0_2 a0_3 a0_4 l0_5 a0_6 a0_7).bind fun t405 => (if t405 = true then ((spec_FormatInt.f k a0_0).bind fun t406 => (if t406.size + 1 ≤ 9223372036854775807 then ((spec_KindText.f a0_1).bind fun t407 => (if (t406 ++ (⟨#[32]⟩ : ByteArray)).size + t407.size ≤ 9223372036854775807 then (if ((t406 ++ (⟨#[32]⟩ : ByteArray)) ++ t407).size + 1 ≤ 9223372036854775807 then ((spec_ListText.f k l0_2).bind fun t408 => (if (((t406 ++ (⟨#[32]⟩ : ByteArray)) ++ t407) ++ (⟨#[32]⟩ : ByteArray)).size + t408.size ≤ 9223372036854775807 then (if ((((t406 ++ (⟨#[32]⟩ : ByteArray)) ++ t407) ++ (⟨#[32]⟩ : ByteArray)) ++ t408).size + 1 ≤ 9223372036854775807 then ((spec_FormatInt.f k a0_3).bind fun t409 => (if (((((t406 ++ (⟨#[32]⟩ : ByteArray)) ++ t407) ++ (⟨#[32]⟩ : ByteArray)) ++ t408) ++ (⟨#[32]⟩ : ByteArray)).size + t409.size ≤ 9223372036854775807 then (if ((((((t406 ++ (⟨#[32]⟩ : ByteArray)) ++ t407) ++ (⟨#[32]⟩ : ByteArray)) ++ t408) ++ (⟨#[32]⟩ : ByteArray)) ++ t409).size + 1 ≤ 9223372036854775807 then ((spec_FormatInt.f k a0_4).bind fun t410 => (if (((((((t406 ++ (⟨#[32]⟩ : ByteArray)) ++ t407) ++ (⟨#[32]⟩ : ByteArray)) ++ t408) ++ (⟨#[32]⟩ : ByteArray)) ++ t409) ++ (⟨#[45]⟩ : ByteArray)).size + t410.size ≤ 9223372036854775807 then (if ((((((((t406 ++ (⟨#[32]⟩ : ByteArray)) ++ t407) ++ (⟨#[32]⟩ : ByteArray)) ++ t408) ++ (⟨#[32]⟩ : ByteArray)) ++ t409) ++ (⟨#[45]⟩ : ByteArray)) ++ t410).size + 1 ≤ 9223372036854775807 then ((spec_ListText.f k l0_5).bind fun t411 => (if (((((((((t406 ++ (⟨#[32]⟩ : ByteArray)) ++ t407) ++ (⟨#[32]⟩ : ByteArray)) ++ t408) ++ (⟨#[32]⟩ : ByteArray)) ++ t409) ++ (⟨#[45]⟩ : ByteArray)) ++ t410) ++ (⟨#[32]⟩ : ByteArray)).size + t411.size ≤ 9223372036854775807 then (if ((((((((((t406 ++ (⟨#[32]⟩ : ByteArray)) ++ t407) ++ (⟨#[32]⟩ : ByteArray)) ++ t408) ++ (⟨#[32]⟩ : ByteArray)) ++ t409) ++ (⟨#[45]⟩ : ByteArray)) ++ t410) ++ (⟨#[32]⟩ : ByteArray)) ++ t411).size + 1 ≤ 9223372036854775807 then ((spec_FormatInt.f k a0_6).bind fun t412 => (if (((((((((((t406 ++ (⟨#[32]⟩ : ByteArray)) ++ t407) ++ (⟨#[32]⟩ : ByteArray)) ++ t408) ++ (⟨#[32]⟩ : ByteArray)) ++ t409) ++ (⟨#[45]⟩ : ByteArray)) ++ t410) ++ (⟨#[32]⟩ : ByteArray)) ++ t411) ++ (⟨#[32]⟩ : ByteArray)).size + t412.size ≤ 9223372036854775807 then (if ((((((((((((t406 ++ (⟨#[32]⟩ : ByteArray)) ++ t407) ++ (⟨#[32]⟩ : ByteArray)) ++ t408) ++ (⟨#[32]⟩ : ByteArray)) ++ t409) ++ (⟨#[45]⟩ : ByteArray)) ++ t410) ++ (⟨#[32]⟩ : ByteArray)) ++ t411) ++ (⟨#[32]⟩ : ByteArray)) ++ t412).size + 1 ≤ 9223372036854775807 then ((spec_FormatInt.f k a0_7).bind fun t413 => (if (((((((((((((t406 ++ (⟨#[32]⟩ : ByteArray)) ++ t407) ++ (⟨#[32]⟩ : ByteArray)) ++ t408) ++ (⟨#[32]⟩ : ByteArray)) ++ t409) ++ (⟨#[45]⟩ : ByteArray)) ++ t410) ++ (⟨#[32]⟩ : ByteArray)) ++ t411) ++ (⟨#[32]⟩ : ByteArray)) ++ t412) ++ (⟨#[45]⟩ : ByteArray)).size + t413.size ≤ 9223372036854775807 then (some ((((((((((((((t406 ++ (⟨#[32]⟩ : ByteArray)) ++ t407) ++ (⟨#[32]⟩ : ByteArray)) ++ t408) ++ (⟨#[32]⟩ : ByteArray)) ++ t409) ++ (⟨#[45]⟩ : ByteArray)) ++ t410) ++ (⟨#[32]⟩ : ByteArray)) ++ t411) ++ (⟨#[32]⟩ : ByteArray)) ++ t412) ++ (⟨#[45]⟩ : ByteArray)) ++ t413)) else (none))) else (none)) else (none))) else (none)) else (none))) else (none)) else (none))) else (none)) else (none))) else (none)) else (none))) else (none)) else (none))) else (none))) else (some (⟨#[]⟩ : ByteArray)))
theorem spec_ReportText.mono : ∀ a0 a1 a2 a3 a4 a5 a6 a7 k, LeO (spec_ReportText.f k a0 a1 a2 a3 a4 a5 a6 a7) (spec_ReportText.f (k + 1) a0 a1 a2 a3 a4 a5 a6 a7) := by
 intro a0 a1 a2 a3 a4 a5 a6 a7 k
 unfold spec_ReportText.f
 have jh0 := @spec_FormatInt.mono
 have jh1 := @spec_IsReport.mono
 have jh2 := @spec_ListText.mono
 exact mo_
def spec_ReportText.T3 : Bool × List (List Nat × List Nat) := (true, [([], []), ([0], [0]), ([1], [1]), ([2], [2]), ([], []), ([4], [4]), ([5, 2], [5]), ([3, 6], [3, 6]), ([7], [7]), ([], []), ([9], [9]), ([10, 6], [10]), ([8, 11], [8, 11]), ([12], [12]), ([], []), ([14], [14]), ([15, 11], [15]), ([13, 16], [13, 16]), ([17], [17]), ([], []), ([19], [19]), ([20, 16], [20]), ([18, 21], [18, 21]), ([22], [22]), ([], []), ([24], [24]), ([25, 21], [25]), ([23, 26], [23, 26]), ([27], [27]), ([], []), ([29], [29]), ([30], [30]), ([31, 26], [31]), ([28, 32], [28, 32]), ([33], [33]), ([], []), ([35], [35]), ([36], [36]), ([37, 32], [37]), ([34, 38], [34, 38]), ([39, 38, 0, 1, 2, 3, 4, 5, 6, 7, 8, 9, 10, 11, 12, 13, 14, 15, 16, 17, 18, 19, 20, 21, 22, 23, 24, 25, 26, 27, 28, 29, 30, 31, 32, 33, 34, 35, 36, 37, 38, 39], [39])])
def spec_ReportText.B3 : List Nat := [0, 1, 3, 7, 0, 16, 55, 127, 255, 0, 512, 1655, 4095, 8191, 0, 16384, 52855, 131071, 262143, 0, 524288, 1691255, 4194303, 8388607, 0, 16777216, 54120055, 134217727, 268435455, 0, 536870912, 1610612736, 3879325303, 8589934591, 17179869183, 0, 34359738368, 103079215104, 248692461175, 549755813887, 1099511627775]
theorem spec_ReportText.tab3 : rtab .any (opsOf Tryd.f36 3) = spec_ReportText.T3 := by kernel_rfl
theorem spec_ReportText.bits3 : waitsOk spec_ReportText.T3.2 spec_ReportText.B3 = true := by kernel_rfl
abbrev M1_0 := bm_ 41 0
abbrev M1_1 := bm_ 41 1
abbrev M1_2 := bm_ 41 17
abbrev M1_3 := bm_ 41 529
abbrev M1_4 := bm_ 41 16913
abbrev M1_5 := bm_ 41 541201
abbrev M1_6 := bm_ 41 17318417
abbrev M1_7 := bm_ 41 554189329
abbrev M1_8 := bm_ 41 1627931153
abbrev M1_9 := bm_ 41 35987669521
abbrev M1_10 := bm_ 41 104707146257
abbrev M1_11 := bm_ 41 104707146259
abbrev M1_12 := bm_ 41 104707146291
abbrev M1_13 := bm_ 41 104707147315
abbrev M1_14 := bm_ 41 104707180083
abbrev M1_15 := bm_ 41 104708228659
abbrev M1_16 := bm_ 41 104741783091
abbrev M1_17 := bm_ 41 106889266739
abbrev M1_18 := bm_ 41 244328220211
abbrev M1_19 := bm_ 41 244328220215
abbrev M1_20 := bm_ 41 244328220223
abbrev M1_21 := bm_ 41 244328220287
abbrev M1_22 := bm_ 41 244328220415
abbrev M1_23 := bm_ 41 244328220671
abbrev M1_24 := bm_ 41 244328222719
abbrev M1_25 := bm_ 41 244328226815
abbrev M1_26 := bm_ 41 244328235007
abbrev M1_27 := bm_ 41 244328300543
abbrev M1_28 := bm_ 41 244328431615
abbrev M1_29 := bm_ 41 244328693759
abbrev M1_30 := bm_ 41 244330790911
abbrev M1_31 := bm_ 41 244334985215
abbrev M1_32 := bm_ 41 244343373823
abbrev M1_33 := bm_ 41 244410482687
abbrev M1_34 := bm_ 41 244544700415
abbrev M1_35 := bm_ 41 244813135871
abbrev M1_36 := bm_ 41 249108103167
abbrev M1_37 := bm_ 41 257698037759
abbrev M1_38 := bm_ 41 274877906943
abbrev M1_39 := bm_ 41 549755813887
abbrev M1_40 := bm_ 41 1099511627775
abbrev M1_41 := bm_ 41 2199023255551
theorem P1_1 {α : Type} (l : List α) (i : Nat) (a : α) : l.toArray.setIfInBounds i a = (l.set i a).toArray := List.setIfInBounds_toArray l i a
theorem P1_2 {α : Type} (x : α) (l : List α) (a : α) : (x :: l).set 0 a = a :: l := List.set_cons_zero
theorem P1_3 {α : Type} (x : α) (l : List α) (n : Nat) (a : α) : (x :: l).set (n + 1) a = x :: l.set n a := List.set_cons_succ
abbrev c170_ (i0 : Int) (i1 : Int) (A2 : Option Addr) (n2 c2 : Nat) (i3 : Int) (i4 : Int) (A5 : Option Addr) (n5 c5 : Nat) (i6 : Int) (i7 : Int) : Obj := .cells #[.int .i64 i0, .int .i64 i1, .slice A2 n2 c2, .int .i64 i3, .int .i64 i4, .slice A5 n5 c5, .int .i64 i6, .int .i64 i7] 28 (0, 0)
theorem e171_ {w : World} {g : Nat} {t : TypeId} {i0 : Int} {i1 : Int} {A2 : Option Addr} {n2 c2 : Nat} {i3 : Int} {i4 : Int} {A5 : Option Addr} {n5 c5 : Nat} {i6 : Int} {i7 : Int} (h : w.heap[g]? = some (.cells #[.int .i64 i0, .int .i64 i1, .slice A2 n2 c2, .int .i64 i3, .int .i64 i4, .slice A5 n5 c5, .int .i64 i6, .int .i64 i7] t (0, 0))) : w.cell? ⟨g, 0, none⟩ = some (.int .i64 i0) ∧ w.cell? ⟨g, 1, none⟩ = some (.int .i64 i1) ∧ w.cell? ⟨g, 2, none⟩ = some (.slice A2 n2 c2) ∧ w.cell? ⟨g, 3, none⟩ = some (.int .i64 i3) ∧ w.cell? ⟨g, 4, none⟩ = some (.int .i64 i4) ∧ w.cell? ⟨g, 5, none⟩ = some (.slice A5 n5 c5) ∧ w.cell? ⟨g, 6, none⟩ = some (.int .i64 i6) ∧ w.cell? ⟨g, 7, none⟩ = some (.int .i64 i7) := ⟨(blk_cell h 0).trans rfl, (blk_cell h 1).trans rfl, (blk_cell h 2).trans rfl, (blk_cell h 3).trans rfl, (blk_cell h 4).trans rfl, (blk_cell h 5).trans rfl, (blk_cell h 6).trans rfl, (blk_cell h 7).trans rfl⟩
theorem z172_ {w : World} {g : Nat} {t : TypeId} {cs : Array Value} (h : w.heap[g]? = some (.cells cs t (0, 0))) : w.frozen? ⟨g, 0, none⟩ = false ∧ w.frozen? ⟨g, 1, none⟩ = false ∧ w.frozen? ⟨g, 2, none⟩ = false ∧ w.frozen? ⟨g, 3, none⟩ = false ∧ w.frozen? ⟨g, 4, none⟩ = false ∧ w.frozen? ⟨g, 5, none⟩ = false ∧ w.frozen? ⟨g, 6, none⟩ = false ∧ w.frozen? ⟨g, 7, none⟩ = false := ⟨blk_frozen h 0, blk_frozen h 1, blk_frozen h 2, blk_frozen h 3, blk_frozen h 4, blk_frozen h 5, blk_frozen h 6, blk_frozen h 7⟩
set_option maxHeartbeats 8000000 in
set_option maxRecDepth 100000 in
theorem spec_ReportText.calls (k : Nat) (a0_0 : Int) (a0_1 : Int) (A0_2 : Option Addr) (c0_2 : Nat) (l0_2 : List Int) (a0_3 : Int) (a0_4 : Int) (A0_5 : Option Addr) (c0_5 : Nat) (l0_5 : List Int) (a0_6 : Int) (a0_7 : Int) (r : ByteArray) (w : World) (hr0_2 : Kd.C (Kd.int .i64) w A0_2 l0_2.length l0_2) (hc0_2 : l0_2.length ≤ c0_2) (hr0_5 : Kd.C (Kd.int .i64) w A0_5 l0_5.length l0_5) (hc0_5 : l0_5.length ≤ c0_5) (h : spec_ReportText.f k a0_0 a0_1 l0_2 a0_3 a0_4 l0_5 a0_6 a0_7 = some r) :
  Calls Tryd.prog 36 #[.agg #[.int .i64 a0_0, .int .i64 a0_1, .slice A0_2 l0_2.length c0_2, .int .i64 a0_3, .int .i64 a0_4, .slice A0_5 l0_5.length c0_5, .int .i64 a0_6, .int .i64 a0_7]] w fun e w' => e = .returned (.string r) ∧ Below w.heap.size w w' := by
 have hu28 := Tryd.underlying28
 have HR0_2 := o_ hr0_2
 have HC0_2 := o_ hc0_2
 clear hr0_2 hc0_2
 have HR0_5 := o_ hr0_5
 have HC0_5 := o_ hc0_5
 clear hr0_5 hc0_5
 have HB := o_ (Below.refl w.heap.size w)
 have H : ((spec_IsReport.f k a0_0 a0_1 l0_2 a0_3 a0_4 l0_5 a0_6 a0_7).bind fun t405 => (if t405 = true then ((spec_FormatInt.f k a0_0).bind fun t406 => (if t406.size + 1 ≤ 9223372036854775807 then ((spec_KindText.f a0_1).bind fun t407 => (if (t406 ++ (⟨#[32]⟩ : ByteArray)).size + t407.size ≤ 9223372036854775807 then (if ((t406 ++ (⟨#[32]⟩ : ByteArray)) ++ t407).size + 1 ≤ 9223372036854775807 then ((spec_ListText.f k l0_2).bind fun t408 => (if (((t406 ++ (⟨#[32]⟩ : ByteArray)) ++ t407) ++ (⟨#[32]⟩ : ByteArray)).size + t408.size ≤ 9223372036854775807 then (if ((((t406 ++ (⟨#[32]⟩ : ByteArray)) ++ t407) ++ (⟨#[32]⟩ : ByteArray)) ++ t408).size + 1 ≤ 9223372036854775807 then ((spec_FormatInt.f k a0_3).bind fun t409 => (if (((((t406 ++ (⟨#[32]⟩ : ByteArray)) ++ t407) ++ (⟨#[32]⟩ : ByteArray)) ++ t408) ++ (⟨#[32]⟩ : ByteArray)).size + t409.size ≤ 9223372036854775807 then (if ((((((t406 ++ (⟨#[32]⟩ : ByteArray)) ++ t407) ++ (⟨#[32]⟩ : ByteArray)) ++ t408) ++ (⟨#[32]⟩ : ByteArray)) ++ t409).size + 1 ≤ 9223372036854775807 then ((spec_FormatInt.f k a0_4).bind fun t410 => (if (((((((t406 ++ (⟨#[32]⟩ : ByteArray)) ++ t407) ++ (⟨#[32]⟩ : ByteArray)) ++ t408) ++ (⟨#[32]⟩ : ByteArray)) ++ t409) ++ (⟨#[45]⟩ : ByteArray)).size + t410.size ≤ 9223372036854775807 then (if ((((((((t406 ++ (⟨#[32]⟩ : ByteArray)) ++ t407) ++ (⟨#[32]⟩ : ByteArray)) ++ t408) ++ (⟨#[32]⟩ : ByteArray)) ++ t409) ++ (⟨#[45]⟩ : ByteArray)) ++ t410).size + 1 ≤ 9223372036854775807 then ((spec_ListText.f k l0_5).bind fun t411 => (if (((((((((t406 ++ (⟨#[32]⟩ : ByteArray)) ++ t407) ++ (⟨#[32]⟩ : ByteArray)) ++ t408) ++ (⟨#[32]⟩ : ByteArray)) ++ t409) ++ (⟨#[45]⟩ : ByteArray)) ++ t410) ++ (⟨#[32]⟩ : ByteArray)).size + t411.size ≤ 9223372036854775807 then (if ((((((((((t406 ++ (⟨#[32]⟩ : ByteArray)) ++ t407) ++ (⟨#[32]⟩ : ByteArray)) ++ t408) ++ (⟨#[32]⟩ : ByteArray)) ++ t409) ++ (⟨#[45]⟩ : ByteArray)) ++ t410) ++ (⟨#[32]⟩ : ByteArray)) ++ t411).size + 1 ≤ 9223372036854775807 then ((spec_FormatInt.f k a0_6).bind fun t412 => (if (((((((((((t406 ++ (⟨#[32]⟩ : ByteArray)) ++ t407) ++ (⟨#[32]⟩ : ByteArray)) ++ t408) ++ (⟨#[32]⟩ : ByteArray)) ++ t409) ++ (⟨#[45]⟩ : ByteArray)) ++ t410) ++ (⟨#[32]⟩ : ByteArray)) ++ t411) ++ (⟨#[32]⟩ : ByteArray)).size + t412.size ≤ 9223372036854775807 then (if ((((((((((((t406 ++ (⟨#[32]⟩ : ByteArray)) ++ t407) ++ (⟨#[32]⟩ : ByteArray)) ++ t408) ++ (⟨#[32]⟩ : ByteArray)) ++ t409) ++ (⟨#[45]⟩ : ByteArray)) ++ t410) ++ (⟨#[32]⟩ : ByteArray)) ++ t411) ++ (⟨#[32]⟩ : ByteArray)) ++ t412).size + 1 ≤ 9223372036854775807 then ((spec_FormatInt.f k a0_7).bind fun t413 => (if (((((((((((((t406 ++ (⟨#[32]⟩ : ByteArray)) ++ t407) ++ (⟨#[32]⟩ : ByteArray)) ++ t408) ++ (⟨#[32]⟩ : ByteArray)) ++ t409) ++ (⟨#[45]⟩ : ByteArray)) ++ t410) ++ (⟨#[32]⟩ : ByteArray)) ++ t411) ++ (⟨#[32]⟩ : ByteArray)) ++ t412) ++ (⟨#[45]⟩ : ByteArray)).size + t413.size ≤ 9223372036854775807 then (some ((((((((((((((t406 ++ (⟨#[32]⟩ : ByteArray)) ++ t407) ++ (⟨#[32]⟩ : ByteArray)) ++ t408) ++ (⟨#[32]⟩ : ByteArray)) ++ t409) ++ (⟨#[45]⟩ : ByteArray)) ++ t410) ++ (⟨#[32]⟩ : ByteArray)) ++ t411) ++ (⟨#[32]⟩ : ByteArray)) ++ t412) ++ (⟨#[45]⟩ : ByteArray)) ++ t413)) else (none))) else (none)) else (none))) else (none)) else (none))) else (none)) else (none))) else (none)) else (none))) else (none)) else (none))) else (none)) else (none))) else (none))) else (some (⟨#[]⟩ : ByteArray)))) = some r := h
 clear h
 replace H := Option.bind_eq_some_iff.mp H
 obtain ⟨t405, A20, H⟩ := H
 try dsimp only at H
 have A2 := o_ A20
 clear A20
 by_cases c3 : t405 = true
 ·
  subst c3
  have H1 := H
  rw [if_pos rfl] at H1
  clear H
  have H := H1
  clear H1
  replace H := Option.bind_eq_some_iff.mp H
  obtain ⟨t406, A40, H⟩ := H
  try dsimp only at H
  have A4 := o_ A40
  clear A40
  by_cases c5 : t406.size + 1 ≤ 9223372036854775807
  ·
   rw [if_pos c5] at H
   have c5b0 := eq_true c5
   have c5b1 := decide_eq_true c5
   try have c5b2 : (9223372036854775807 < t406.size + 1) = False := eq_false (Nat.not_lt.2 c5)
   replace H := Option.bind_eq_some_iff.mp H
   obtain ⟨t407, A60, H⟩ := H
   try dsimp only at H
   have A6 := o_ A60
   clear A60
   by_cases c7 : (t406 ++ (⟨#[32]⟩ : ByteArray)).size + t407.size ≤ 9223372036854775807
   ·
    rw [if_pos c7] at H
    have c7b0 := eq_true c7
    have c7b1 := decide_eq_true c7
    try have c7b2 : (9223372036854775807 < (t406 ++ (⟨#[32]⟩ : ByteArray)).size + t407.size) = False := eq_false (Nat.not_lt.2 c7)
    try have c7b3 : (9223372036854775807 < t406.size + 1 + t407.size) = False := eq_false (Nat.not_lt.2 (by have h_ := c7; simp only [ByteArray.size_append] at h_; exact h_))
    by_cases c8 : ((t406 ++ (⟨#[32]⟩ : ByteArray)) ++ t407).size + 1 ≤ 9223372036854775807
    ·
     rw [if_pos c8] at H
     have c8b0 := eq_true c8
     have c8b1 := decide_eq_true c8
     try have c8b2 : (9223372036854775807 < ((t406 ++ (⟨#[32]⟩ : ByteArray)) ++ t407).size + 1) = False := eq_false (Nat.not_lt.2 c8)
     try have c8b3 : (9223372036854775807 < t406.size + 1 + t407.size + 1) = False := eq_false (Nat.not_lt.2 (by have h_ := c8; simp only [ByteArray.size_append] at h_; exact h_))
     replace H := Option.bind_eq_some_iff.mp H
     obtain ⟨t408, A90, H⟩ := H
     try dsimp only at H
     have A9 := o_ A90
     clear A90
     by_cases c10 : (((t406 ++ (⟨#[32]⟩ : ByteArray)) ++ t407) ++ (⟨#[32]⟩ : ByteArray)).size + t408.size ≤ 9223372036854775807
     ·
      rw [if_pos c10] at H
      have c10b0 := eq_true c10
      have c10b1 := decide_eq_true c10
      try have c10b2 : (9223372036854775807 < (((t406 ++ (⟨#[32]⟩ : ByteArray)) ++ t407) ++ (⟨#[32]⟩ : ByteArray)).size + t408.size) = False := eq_false (Nat.not_lt.2 c10)
      try have c10b3 : (9223372036854775807 < t406.size + 1 + t407.size + 1 + t408.size) = False := eq_false (Nat.not_lt.2 (by have h_ := c10; simp only [ByteArray.size_append] at h_; exact h_))
      by_cases c11 : ((((t406 ++ (⟨#[32]⟩ : ByteArray)) ++ t407) ++ (⟨#[32]⟩ : ByteArray)) ++ t408).size + 1 ≤ 9223372036854775807
      ·
       rw [if_pos c11] at H
       have c11b0 := eq_true c11
       have c11b1 := decide_eq_true c11
       try have c11b2 : (9223372036854775807 < ((((t406 ++ (⟨#[32]⟩ : ByteArray)) ++ t407) ++ (⟨#[32]⟩ : ByteArray)) ++ t408).size + 1) = False := eq_false (Nat.not_lt.2 c11)
       try have c11b3 : (9223372036854775807 < t406.size + 1 + t407.size + 1 + t408.size + 1) = False := eq_false (Nat.not_lt.2 (by have h_ := c11; simp only [ByteArray.size_append] at h_; exact h_))
       replace H := Option.bind_eq_some_iff.mp H
       obtain ⟨t409, A120, H⟩ := H
       try dsimp only at H
       have A12 := o_ A120
       clear A120
       by_cases c13 : (((((t406 ++ (⟨#[32]⟩ : ByteArray)) ++ t407) ++ (⟨#[32]⟩ : ByteArray)) ++ t408) ++ (⟨#[32]⟩ : ByteArray)).size + t409.size ≤ 9223372036854775807
       ·
        rw [if_pos c13] at H
        have c13b0 := eq_true c13
        have c13b1 := decide_eq_true c13
        try have c13b2 : (9223372036854775807 < (((((t406 ++ (⟨#[32]⟩ : ByteArray)) ++ t407) ++ (⟨#[32]⟩ : ByteArray)) ++ t408) ++ (⟨#[32]⟩ : ByteArray)).size + t409.size) = False := eq_false (Nat.not_lt.2 c13)
        try have c13b3 : (9223372036854775807 < t406.size + 1 + t407.size + 1 + t408.size + 1 + t409.size) = False := eq_false (Nat.not_lt.2 (by have h_ := c13; simp only [ByteArray.size_append] at h_; exact h_))
        by_cases c14 : ((((((t406 ++ (⟨#[32]⟩ : ByteArray)) ++ t407) ++ (⟨#[32]⟩ : ByteArray)) ++ t408) ++ (⟨#[32]⟩ : ByteArray)) ++ t409).size + 1 ≤ 9223372036854775807
        ·
         rw [if_pos c14] at H
         have c14b0 := eq_true c14
         have c14b1 := decide_eq_true c14
         try have c14b2 : (9223372036854775807 < ((((((t406 ++ (⟨#[32]⟩ : ByteArray)) ++ t407) ++ (⟨#[32]⟩ : ByteArray)) ++ t408) ++ (⟨#[32]⟩ : ByteArray)) ++ t409).size + 1) = False := eq_false (Nat.not_lt.2 c14)
         try have c14b3 : (9223372036854775807 < t406.size + 1 + t407.size + 1 + t408.size + 1 + t409.size + 1) = False := eq_false (Nat.not_lt.2 (by have h_ := c14; simp only [ByteArray.size_append] at h_; exact h_))
         replace H := Option.bind_eq_some_iff.mp H
         obtain ⟨t410, A150, H⟩ := H
         try dsimp only at H
         have A15 := o_ A150
         clear A150
         by_cases c16 : (((((((t406 ++ (⟨#[32]⟩ : ByteArray)) ++ t407) ++ (⟨#[32]⟩ : ByteArray)) ++ t408) ++ (⟨#[32]⟩ : ByteArray)) ++ t409) ++ (⟨#[45]⟩ : ByteArray)).size + t410.size ≤ 9223372036854775807
         ·
          rw [if_pos c16] at H
          have c16b0 := eq_true c16
          have c16b1 := decide_eq_true c16
          try have c16b2 : (9223372036854775807 < (((((((t406 ++ (⟨#[32]⟩ : ByteArray)) ++ t407) ++ (⟨#[32]⟩ : ByteArray)) ++ t408) ++ (⟨#[32]⟩ : ByteArray)) ++ t409) ++ (⟨#[45]⟩ : ByteArray)).size + t410.size) = False := eq_false (Nat.not_lt.2 c16)
          try have c16b3 : (9223372036854775807 < t406.size + 1 + t407.size + 1 + t408.size + 1 + t409.size + 1 + t410.size) = False := eq_false (Nat.not_lt.2 (by have h_ := c16; simp only [ByteArray.size_append] at h_; exact h_))
          by_cases c17 : ((((((((t406 ++ (⟨#[32]⟩ : ByteArray)) ++ t407) ++ (⟨#[32]⟩ : ByteArray)) ++ t408) ++ (⟨#[32]⟩ : ByteArray)) ++ t409) ++ (⟨#[45]⟩ : ByteArray)) ++ t410).size + 1 ≤ 9223372036854775807
          ·
           rw [if_pos c17] at H
           have c17b0 := eq_true c17
           have c17b1 := decide_eq_true c17
           try have c17b2 : (9223372036854775807 < ((((((((t406 ++ (⟨#[32]⟩ : ByteArray)) ++ t407) ++ (⟨#[32]⟩ : ByteArray)) ++ t408) ++ (⟨#[32]⟩ : ByteArray)) ++ t409) ++ (⟨#[45]⟩ : ByteArray)) ++ t410).size + 1) = False := eq_false (Nat.not_lt.2 c17)
           try have c17b3 : (9223372036854775807 < t406.size + 1 + t407.size + 1 + t408.size + 1 + t409.size + 1 + t410.size + 1) = False := eq_false (Nat.not_lt.2 (by have h_ := c17; simp only [ByteArray.size_append] at h_; exact h_))
           replace H := Option.bind_eq_some_iff.mp H
           obtain ⟨t411, A180, H⟩ := H
           try dsimp only at H
           have A18 := o_ A180
           clear A180
           by_cases c19 : (((((((((t406 ++ (⟨#[32]⟩ : ByteArray)) ++ t407) ++ (⟨#[32]⟩ : ByteArray)) ++ t408) ++ (⟨#[32]⟩ : ByteArray)) ++ t409) ++ (⟨#[45]⟩ : ByteArray)) ++ t410) ++ (⟨#[32]⟩ : ByteArray)).size + t411.size ≤ 9223372036854775807
           ·
            rw [if_pos c19] at H
            have c19b0 := eq_true c19
            have c19b1 := decide_eq_true c19
            try have c19b2 : (9223372036854775807 < (((((((((t406 ++ (⟨#[32]⟩ : ByteArray)) ++ t407) ++ (⟨#[32]⟩ : ByteArray)) ++ t408) ++ (⟨#[32]⟩ : ByteArray)) ++ t409) ++ (⟨#[45]⟩ : ByteArray)) ++ t410) ++ (⟨#[32]⟩ : ByteArray)).size + t411.size) = False := eq_false (Nat.not_lt.2 c19)
            try have c19b3 : (9223372036854775807 < t406.size + 1 + t407.size + 1 + t408.size + 1 + t409.size + 1 + t410.size + 1 + t411.size) = False := eq_false (Nat.not_lt.2 (by have h_ := c19; simp only [ByteArray.size_append] at h_; exact h_))
            by_cases c20 : ((((((((((t406 ++ (⟨#[32]⟩ : ByteArray)) ++ t407) ++ (⟨#[32]⟩ : ByteArray)) ++ t408) ++ (⟨#[32]⟩ : ByteArray)) ++ t409) ++ (⟨#[45]⟩ : ByteArray)) ++ t410) ++ (⟨#[32]⟩ : ByteArray)) ++ t411).size + 1 ≤ 9223372036854775807
            ·
             rw [if_pos c20] at H
             have c20b0 := eq_true c20
             have c20b1 := decide_eq_true c20
             try have c20b2 : (9223372036854775807 < ((((((((((t406 ++ (⟨#[32]⟩ : ByteArray)) ++ t407) ++ (⟨#[32]⟩ : ByteArray)) ++ t408) ++ (⟨#[32]⟩ : ByteArray)) ++ t409) ++ (⟨#[45]⟩ : ByteArray)) ++ t410) ++ (⟨#[32]⟩ : ByteArray)) ++ t411).size + 1) = False := eq_false (Nat.not_lt.2 c20)
             try have c20b3 : (9223372036854775807 < t406.size + 1 + t407.size + 1 + t408.size + 1 + t409.size + 1 + t410.size + 1 + t411.size + 1) = False := eq_false (Nat.not_lt.2 (by have h_ := c20; simp only [ByteArray.size_append] at h_; exact h_))
             replace H := Option.bind_eq_some_iff.mp H
             obtain ⟨t412, A210, H⟩ := H
             try dsimp only at H
             have A21 := o_ A210
             clear A210
             by_cases c22 : (((((((((((t406 ++ (⟨#[32]⟩ : ByteArray)) ++ t407) ++ (⟨#[32]⟩ : ByteArray)) ++ t408) ++ (⟨#[32]⟩ : ByteArray)) ++ t409) ++ (⟨#[45]⟩ : ByteArray)) ++ t410) ++ (⟨#[32]⟩ : ByteArray)) ++ t411) ++ (⟨#[32]⟩ : ByteArray)).size + t412.size ≤ 9223372036854775807
             ·
              rw [if_pos c22] at H
              have c22b0 := eq_true c22
              have c22b1 := decide_eq_true c22
              try have c22b2 : (9223372036854775807 < (((((((((((t406 ++ (⟨#[32]⟩ : ByteArray)) ++ t407) ++ (⟨#[32]⟩ : ByteArray)) ++ t408) ++ (⟨#[32]⟩ : ByteArray)) ++ t409) ++ (⟨#[45]⟩ : ByteArray)) ++ t410) ++ (⟨#[32]⟩ : ByteArray)) ++ t411) ++ (⟨#[32]⟩ : ByteArray)).size + t412.size) = False := eq_false (Nat.not_lt.2 c22)
              try have c22b3 : (9223372036854775807 < t406.size + 1 + t407.size + 1 + t408.size + 1 + t409.size + 1 + t410.size + 1 + t411.size + 1 + t412.size) = False := eq_false (Nat.not_lt.2 (by have h_ := c22; simp only [ByteArray.size_append] at h_; exact h_))
              by_cases c23 : ((((((((((((t406 ++ (⟨#[32]⟩ : ByteArray)) ++ t407) ++ (⟨#[32]⟩ : ByteArray)) ++ t408) ++ (⟨#[32]⟩ : ByteArray)) ++ t409) ++ (⟨#[45]⟩ : ByteArray)) ++ t410) ++ (⟨#[32]⟩ : ByteArray)) ++ t411) ++ (⟨#[32]⟩ : ByteArray)) ++ t412).size + 1 ≤ 9223372036854775807
              ·
               rw [if_pos c23] at H
               have c23b0 := eq_true c23
               have c23b1 := decide_eq_true c23
               try have c23b2 : (9223372036854775807 < ((((((((((((t406 ++ (⟨#[32]⟩ : ByteArray)) ++ t407) ++ (⟨#[32]⟩ : ByteArray)) ++ t408) ++ (⟨#[32]⟩ : ByteArray)) ++ t409) ++ (⟨#[45]⟩ : ByteArray)) ++ t410) ++ (⟨#[32]⟩ : ByteArray)) ++ t411) ++ (⟨#[32]⟩ : ByteArray)) ++ t412).size + 1) = False := eq_false (Nat.not_lt.2 c23)
               try have c23b3 : (9223372036854775807 < t406.size + 1 + t407.size + 1 + t408.size + 1 + t409.size + 1 + t410.size + 1 + t411.size + 1 + t412.size + 1) = False := eq_false (Nat.not_lt.2 (by have h_ := c23; simp only [ByteArray.size_append] at h_; exact h_))
               replace H := Option.bind_eq_some_iff.mp H
               obtain ⟨t413, A240, H⟩ := H
               try dsimp only at H
               have A24 := o_ A240
               clear A240
               by_cases c25 : (((((((((((((t406 ++ (⟨#[32]⟩ : ByteArray)) ++ t407) ++ (⟨#[32]⟩ : ByteArray)) ++ t408) ++ (⟨#[32]⟩ : ByteArray)) ++ t409) ++ (⟨#[45]⟩ : ByteArray)) ++ t410) ++ (⟨#[32]⟩ : ByteArray)) ++ t411) ++ (⟨#[32]⟩ : ByteArray)) ++ t412) ++ (⟨#[45]⟩ : ByteArray)).size + t413.size ≤ 9223372036854775807
               ·
                rw [if_pos c25] at H
                have c25b0 := eq_true c25
                have c25b1 := decide_eq_true c25
                try have c25b2 : (9223372036854775807 < (((((((((((((t406 ++ (⟨#[32]⟩ : ByteArray)) ++ t407) ++ (⟨#[32]⟩ : ByteArray)) ++ t408) ++ (⟨#[32]⟩ : ByteArray)) ++ t409) ++ (⟨#[45]⟩ : ByteArray)) ++ t410) ++ (⟨#[32]⟩ : ByteArray)) ++ t411) ++ (⟨#[32]⟩ : ByteArray)) ++ t412) ++ (⟨#[45]⟩ : ByteArray)).size + t413.size) = False := eq_false (Nat.not_lt.2 c25)
                try have c25b3 : (9223372036854775807 < t406.size + 1 + t407.size + 1 + t408.size + 1 + t409.size + 1 + t410.size + 1 + t411.size + 1 + t412.size + 1 + t413.size) = False := eq_false (Nat.not_lt.2 (by have h_ := c25; simp only [ByteArray.size_append] at h_; exact h_))
                obtain rfl := Option.some.inj H
                go_enter Tryd.func36, Tryd.ntmps36
                try go_wp2_with (first | ((with_reducible refine gate_dst (N := 1) rfl ?_); refine bx_ 1 #[.int .i64 a0_0, .int .i64 a0_1, .slice A0_2 l0_2.length c0_2, .int .i64 a0_3, .int .i64 a0_4, .slice A0_5 l0_5.length c0_5, .int .i64 a0_6, .int .i64 a0_7] 28 ?_; intro gb404 hg w26 hbox hb; have BK404 := o_ (hbox); have GW404 := o_ ((by rw [hg]; exact (below_size (hd_ HB.1)) : w.heap.size ≤ gb404)); replace HB := o_ (below_step (hd_ HB.1) hb); have GE404 := GW404; clear hb hbox hg; obtain ⟨hcz27_0, hcz27_1, hcz27_2, hcz27_3, hcz27_4, hcz27_5, hcz27_6, hcz27_7⟩ := e171_ BK404.1; obtain ⟨hfz27_0, hfz27_1, hfz27_2, hfz27_3, hfz27_4, hfz27_5, hfz27_6, hfz27_7⟩ := z172_ BK404.1) | (refine gl_ (some 4) Tryd.func69 #[.agg #[.int .i64 a0_0, .int .i64 a0_1, .slice A0_2 l0_2.length c0_2, .int .i64 a0_3, .int .i64 a0_4, .slice A0_5 l0_5.length c0_5, .int .i64 a0_6, .int .i64 a0_7]] ?_; (with_reducible refine (spec_IsReport.calls k a0_0 a0_1 _ _ l0_2 a0_3 a0_4 _ _ l0_5 a0_6 a0_7 true _ ?side1 ?side2 ?side3 ?side4 A2.1).mono ?_); (case side1 => exact cd_ (Kd.C_below HR0_2.1 HB.1)); (case side2 => exact HC0_2.1); (case side3 => exact cd_ (Kd.C_below HR0_5.1 HB.1)); (case side4 => exact HC0_5.1); rintro e w28 ⟨rfl, hb⟩; refine ⟨_, rfl, ?_⟩; replace BK404 := o_ (blk_below (bd_ BK404.1) hb); replace HB := o_ (below_step wB_ hb); (try clear hb)))
                replace BK404 := o_ (blk_drew BK404.1)
                replace HB := o_ (below_drew1 HB.1)
                refine start_ (n := 41) (S := fun w' => q1e_ w' gb404 a0_0 a0_1 A0_2 l0_2.length c0_2 a0_3 a0_4 A0_5 l0_5.length c0_5 a0_6 a0_7) (ds := []) M1_0 (by kernel_rfl) rfl rfl ⟨(blk_cell BK404.1 0).trans rfl, (blk_cell BK404.1 1).trans rfl, (blk_cell BK404.1 2).trans rfl, (blk_cell BK404.1 3).trans rfl, (blk_cell BK404.1 4).trans rfl, (blk_cell BK404.1 5).trans rfl, (blk_cell BK404.1 6).trans rfl, (blk_cell BK404.1 7).trans rfl⟩ (fun hHeld => ?_); refine with_tabW spec_ReportText.tab3 spec_ReportText.bits3 (fun HT_ HW_ => ?_)
                generalize w28.drew = w29 at BK404 HB hHeld ⊢
                refine pu_ 0 (some 6) M1_1 HT_ ?_
                refine pu_ 4 (some 10) M1_2 HT_ ?_
                refine pu_ 9 (some 15) M1_3 HT_ ?_
                refine pu_ 14 (some 20) M1_4 HT_ ?_
                refine pu_ 19 (some 25) M1_5 HT_ ?_
                refine pu_ 24 (some 30) M1_6 HT_ ?_
                refine pu_ 29 (some 35) M1_7 HT_ ?_
                refine pu_ 30 (some 36) M1_8 HT_ ?_
                refine pu_ 35 (some 41) M1_9 HT_ ?_
                refine pu_ 36 (some 42) M1_10 HT_ ?_
                refine tk_ 1 (some 7) M1_11 HT_ HW_ hHeld ?_
                refine tk_ 5 (some 11) M1_12 HT_ HW_ hHeld ?_
                refine tk_ 10 (some 16) M1_13 HT_ HW_ hHeld ?_
                refine tk_ 15 (some 21) M1_14 HT_ HW_ hHeld ?_
                refine tk_ 20 (some 26) M1_15 HT_ HW_ hHeld ?_
                refine tk_ 25 (some 31) M1_16 HT_ HW_ hHeld ?_
                refine tk_ 31 (some 37) M1_17 HT_ HW_ hHeld ?_
                refine tk_ 37 (some 43) M1_18 HT_ HW_ hHeld ?_
                refine one_ (i := 2) (N := some 8) M1_19 rfl rfl (one_of HT_.1 (by kernel_rfl)) (by decide) (fun K hK => ?_)
                refine goes_ Tryd.func64 (by kernel_rfl) rfl #[.int .i64 a0_0] (by rfl) rfl rfl ma_ ?_
                with_reducible refine (spec_FormatInt.calls k a0_0 t406 _ A4.1).mono ?_
                rintro e w30 ⟨rfl, hb⟩
                refine ⟨_, rfl, ?_⟩
                replace BK404 := o_ (blk_below (bd_ BK404.1) hb)
                replace HB := o_ (below_step wB_ hb)
                (try clear hb)
                (try clear hb2)
                (try clear hk)
                (try clear hi)
                refine hK.out _ _ ⟨(blk_cell BK404.1 0).trans rfl, (blk_cell BK404.1 1).trans rfl, (blk_cell BK404.1 2).trans rfl, (blk_cell BK404.1 3).trans rfl, (blk_cell BK404.1 4).trans rfl, (blk_cell BK404.1 5).trans rfl, (blk_cell BK404.1 6).trans rfl, (blk_cell BK404.1 7).trans rfl⟩ (fun hHeld => ?_)
                clear hK K
                refine norm_ (a' := ?_) ?_ ?_
                rotate_left
                ·
                 show Act.put _ (some 8) _ = _
                 simp only [Act.put, P1_1, P1_2, P1_3, i64_w, i32_w]
                 rfl
                refine pu_ 3 (some 9) M1_20 HT_ ?_
                refine one_ (i := 6) (N := some 12) M1_21 rfl rfl (one_of HT_.1 (by kernel_rfl)) (by decide) (fun K hK => ?_)
                refine goes_ Tryd.func57 (by kernel_rfl) rfl #[.int .i64 a0_1] (by rfl) rfl rfl ma_ ?_
                with_reducible refine (spec_KindText.calls a0_1 t407 _ A6.1).mono ?_
                rintro e w31 ⟨rfl, hb⟩
                refine ⟨_, rfl, ?_⟩
                replace BK404 := o_ (blk_below (bd_ BK404.1) hb)
                replace HB := o_ (below_step wB_ hb)
                (try clear hb)
                (try clear hb2)
                (try clear hk)
                (try clear hi)
                refine hK.out _ _ ⟨(blk_cell BK404.1 0).trans rfl, (blk_cell BK404.1 1).trans rfl, (blk_cell BK404.1 2).trans rfl, (blk_cell BK404.1 3).trans rfl, (blk_cell BK404.1 4).trans rfl, (blk_cell BK404.1 5).trans rfl, (blk_cell BK404.1 6).trans rfl, (blk_cell BK404.1 7).trans rfl⟩ (fun hHeld => ?_)
                clear hK K
                refine norm_ (a' := ?_) ?_ ?_
                rotate_left
                ·
                 show Act.put _ (some 12) _ = _
                 simp only [Act.put, P1_1, P1_2, P1_3, i64_w, i32_w]
                 rfl
                refine pu_ 7 (some 13) M1_22 HT_ ?_
                refine pu_ 8 (some 14) M1_23 HT_ ?_
                refine one_ (i := 11) (N := some 17) M1_24 rfl rfl (one_of HT_.1 (by kernel_rfl)) (by decide) (fun K hK => ?_)
                refine goes_ Tryd.func29 (by kernel_rfl) rfl #[.slice A0_2 l0_2.length c0_2] (by rfl) rfl rfl ma_ ?_
                with_reducible refine (spec_ListText.calls k _ _ l0_2 t408 _ ?side1 ?side2 A9.1).mono ?_
                (case side1 => exact cd_ (Kd.C_below HR0_2.1 HB.1))
                (case side2 => exact HC0_2.1)
                rintro e w32 ⟨rfl, hb⟩
                refine ⟨_, rfl, ?_⟩
                replace BK404 := o_ (blk_below (bd_ BK404.1) hb)
                replace HB := o_ (below_step wB_ hb)
                (try clear hb)
                (try clear hb2)
                (try clear hk)
                (try clear hi)
                refine hK.out _ _ ⟨(blk_cell BK404.1 0).trans rfl, (blk_cell BK404.1 1).trans rfl, (blk_cell BK404.1 2).trans rfl, (blk_cell BK404.1 3).trans rfl, (blk_cell BK404.1 4).trans rfl, (blk_cell BK404.1 5).trans rfl, (blk_cell BK404.1 6).trans rfl, (blk_cell BK404.1 7).trans rfl⟩ (fun hHeld => ?_)
                clear hK K
                refine norm_ (a' := ?_) ?_ ?_
                rotate_left
                ·
                 show Act.put _ (some 17) _ = _
                 simp only [Act.put, P1_1, P1_2, P1_3, i64_w, i32_w]
                 rfl
                refine pu_ 12 (some 18) M1_25 HT_ ?_
                refine pu_ 13 (some 19) M1_26 HT_ ?_
                refine one_ (i := 16) (N := some 22) M1_27 rfl rfl (one_of HT_.1 (by kernel_rfl)) (by decide) (fun K hK => ?_)
                refine goes_ Tryd.func64 (by kernel_rfl) rfl #[.int .i64 a0_3] (by rfl) rfl rfl ma_ ?_
                with_reducible refine (spec_FormatInt.calls k a0_3 t409 _ A12.1).mono ?_
                rintro e w33 ⟨rfl, hb⟩
                refine ⟨_, rfl, ?_⟩
                replace BK404 := o_ (blk_below (bd_ BK404.1) hb)
                replace HB := o_ (below_step wB_ hb)
                (try clear hb)
                (try clear hb2)
                (try clear hk)
                (try clear hi)
                refine hK.out _ _ ⟨(blk_cell BK404.1 0).trans rfl, (blk_cell BK404.1 1).trans rfl, (blk_cell BK404.1 2).trans rfl, (blk_cell BK404.1 3).trans rfl, (blk_cell BK404.1 4).trans rfl, (blk_cell BK404.1 5).trans rfl, (blk_cell BK404.1 6).trans rfl, (blk_cell BK404.1 7).trans rfl⟩ (fun hHeld => ?_)
                clear hK K
                refine norm_ (a' := ?_) ?_ ?_
                rotate_left
                ·
                 show Act.put _ (some 22) _ = _
                 simp only [Act.put, P1_1, P1_2, P1_3, i64_w, i32_w]
                 rfl
                refine pu_ 17 (some 23) M1_28 HT_ ?_
                refine pu_ 18 (some 24) M1_29 HT_ ?_
                refine one_ (i := 21) (N := some 27) M1_30 rfl rfl (one_of HT_.1 (by kernel_rfl)) (by decide) (fun K hK => ?_)
                refine goes_ Tryd.func64 (by kernel_rfl) rfl #[.int .i64 a0_4] (by rfl) rfl rfl ma_ ?_
                with_reducible refine (spec_FormatInt.calls k a0_4 t410 _ A15.1).mono ?_
                rintro e w34 ⟨rfl, hb⟩
                refine ⟨_, rfl, ?_⟩
                replace BK404 := o_ (blk_below (bd_ BK404.1) hb)
                replace HB := o_ (below_step wB_ hb)
                (try clear hb)
                (try clear hb2)
                (try clear hk)
                (try clear hi)
                refine hK.out _ _ ⟨(blk_cell BK404.1 0).trans rfl, (blk_cell BK404.1 1).trans rfl, (blk_cell BK404.1 2).trans rfl, (blk_cell BK404.1 3).trans rfl, (blk_cell BK404.1 4).trans rfl, (blk_cell BK404.1 5).trans rfl, (blk_cell BK404.1 6).trans rfl, (blk_cell BK404.1 7).trans rfl⟩ (fun hHeld => ?_)
                clear hK K
                refine norm_ (a' := ?_) ?_ ?_
                rotate_left
                ·
                 show Act.put _ (some 27) _ = _
                 simp only [Act.put, P1_1, P1_2, P1_3, i64_w, i32_w]
                 rfl
                refine pu_ 22 (some 28) M1_31 HT_ ?_
                refine pu_ 23 (some 29) M1_32 HT_ ?_
                refine one_ (i := 26) (N := some 32) M1_33 rfl rfl (one_of HT_.1 (by kernel_rfl)) (by decide) (fun K hK => ?_)
                refine goes_ Tryd.func29 (by kernel_rfl) rfl #[.slice A0_5 l0_5.length c0_5] (by rfl) rfl rfl ma_ ?_
                with_reducible refine (spec_ListText.calls k _ _ l0_5 t411 _ ?side1 ?side2 A18.1).mono ?_
                (case side1 => exact cd_ (Kd.C_below HR0_5.1 HB.1))
                (case side2 => exact HC0_5.1)
                rintro e w35 ⟨rfl, hb⟩
                refine ⟨_, rfl, ?_⟩
                replace BK404 := o_ (blk_below (bd_ BK404.1) hb)
                replace HB := o_ (below_step wB_ hb)
                (try clear hb)
                (try clear hb2)
                (try clear hk)
                (try clear hi)
                refine hK.out _ _ ⟨(blk_cell BK404.1 0).trans rfl, (blk_cell BK404.1 1).trans rfl, (blk_cell BK404.1 2).trans rfl, (blk_cell BK404.1 3).trans rfl, (blk_cell BK404.1 4).trans rfl, (blk_cell BK404.1 5).trans rfl, (blk_cell BK404.1 6).trans rfl, (blk_cell BK404.1 7).trans rfl⟩ (fun hHeld => ?_)
                clear hK K
                refine norm_ (a' := ?_) ?_ ?_
                rotate_left
                ·
                 show Act.put _ (some 32) _ = _
                 simp only [Act.put, P1_1, P1_2, P1_3, i64_w, i32_w]
                 rfl
                refine pu_ 27 (some 33) M1_34 HT_ ?_
                refine pu_ 28 (some 34) M1_35 HT_ ?_
                refine one_ (i := 32) (N := some 38) M1_36 rfl rfl (one_of HT_.1 (by kernel_rfl)) (by decide) (fun K hK => ?_)
                refine goes_ Tryd.func64 (by kernel_rfl) rfl #[.int .i64 a0_6] (by rfl) rfl rfl ma_ ?_
                with_reducible refine (spec_FormatInt.calls k a0_6 t412 _ A21.1).mono ?_
                rintro e w36 ⟨rfl, hb⟩
                refine ⟨_, rfl, ?_⟩
                replace BK404 := o_ (blk_below (bd_ BK404.1) hb)
                replace HB := o_ (below_step wB_ hb)
                (try clear hb)
                (try clear hb2)
                (try clear hk)
                (try clear hi)
                refine hK.out _ _ ⟨(blk_cell BK404.1 0).trans rfl, (blk_cell BK404.1 1).trans rfl, (blk_cell BK404.1 2).trans rfl, (blk_cell BK404.1 3).trans rfl, (blk_cell BK404.1 4).trans rfl, (blk_cell BK404.1 5).trans rfl, (blk_cell BK404.1 6).trans rfl, (blk_cell BK404.1 7).trans rfl⟩ (fun hHeld => ?_)
                clear hK K
                refine norm_ (a' := ?_) ?_ ?_
                rotate_left
                ·
                 show Act.put _ (some 38) _ = _
                 simp only [Act.put, P1_1, P1_2, P1_3, i64_w, i32_w]
                 rfl
                refine pu_ 33 (some 39) M1_37 HT_ ?_
                refine pu_ 34 (some 40) M1_38 HT_ ?_
                refine one_ (i := 38) (N := some 44) M1_39 rfl rfl (one_of HT_.1 (by kernel_rfl)) (by decide) (fun K hK => ?_)
                refine goes_ Tryd.func64 (by kernel_rfl) rfl #[.int .i64 a0_7] (by rfl) rfl rfl ma_ ?_
                with_reducible refine (spec_FormatInt.calls k a0_7 t413 _ A24.1).mono ?_
                rintro e w37 ⟨rfl, hb⟩
                refine ⟨_, rfl, ?_⟩
                replace BK404 := o_ (blk_below (bd_ BK404.1) hb)
                replace HB := o_ (below_step wB_ hb)
                (try clear hb)
                (try clear hb2)
                (try clear hk)
                (try clear hi)
                refine hK.out _ _ ⟨(blk_cell BK404.1 0).trans rfl, (blk_cell BK404.1 1).trans rfl, (blk_cell BK404.1 2).trans rfl, (blk_cell BK404.1 3).trans rfl, (blk_cell BK404.1 4).trans rfl, (blk_cell BK404.1 5).trans rfl, (blk_cell BK404.1 6).trans rfl, (blk_cell BK404.1 7).trans rfl⟩ (fun hHeld => ?_)
                clear hK K
                refine norm_ (a' := ?_) ?_ ?_
                rotate_left
                ·
                 show Act.put _ (some 44) _ = _
                 simp only [Act.put, P1_1, P1_2, P1_3, i64_w, i32_w]
                 rfl
                refine pu_ 39 (some 45) M1_40 HT_ ?_
                refine pu_ 40 (some 2) M1_41 HT_ ?_
                refine done_ (done_of HT_.1 (by kernel_rfl)) ?_
                try go_wp2
                go_ret
                exact ⟨rt_, wB_⟩
               ·
                rw [if_neg c25] at H
                exact absurd H (by simp)
              ·
               rw [if_neg c23] at H
               exact absurd H (by simp)
             ·
              rw [if_neg c22] at H
              exact absurd H (by simp)
            ·
             rw [if_neg c20] at H
             exact absurd H (by simp)
           ·
            rw [if_neg c19] at H
            exact absurd H (by simp)
          ·
           rw [if_neg c17] at H
           exact absurd H (by simp)
         ·
          rw [if_neg c16] at H
          exact absurd H (by simp)
        ·
         rw [if_neg c14] at H
         exact absurd H (by simp)
       ·
        rw [if_neg c13] at H
        exact absurd H (by simp)
      ·
       rw [if_neg c11] at H
       exact absurd H (by simp)
     ·
      rw [if_neg c10] at H
      exact absurd H (by simp)
    ·
     rw [if_neg c8] at H
     exact absurd H (by simp)
   ·
    rw [if_neg c7] at H
    exact absurd H (by simp)
  ·
   rw [if_neg c5] at H
   exact absurd H (by simp)
 ·
  replace c3 := Bool.eq_false_iff.mpr c3
  subst c3
  have H1 := H
  rw [if_neg nt_] at H1
  clear H
  have H := H1
  clear H1
  obtain rfl := Option.some.inj H
  go_enter Tryd.func36, Tryd.ntmps36
  go_wp2_with (first | ((with_reducible refine gate_dst (N := 1) rfl ?_); refine bx_ 1 #[.int .i64 a0_0, .int .i64 a0_1, .slice A0_2 l0_2.length c0_2, .int .i64 a0_3, .int .i64 a0_4, .slice A0_5 l0_5.length c0_5, .int .i64 a0_6, .int .i64 a0_7] 28 ?_; intro gb404 hg w38 hbox hb; have BK404 := o_ (hbox); have GW404 := o_ ((by rw [hg]; exact (below_size (hd_ HB.1)) : w.heap.size ≤ gb404)); replace HB := o_ (below_step (hd_ HB.1) hb); have GE404 := GW404; clear hb hbox hg; obtain ⟨hcz39_0, hcz39_1, hcz39_2, hcz39_3, hcz39_4, hcz39_5, hcz39_6, hcz39_7⟩ := e171_ BK404.1; obtain ⟨hfz39_0, hfz39_1, hfz39_2, hfz39_3, hfz39_4, hfz39_5, hfz39_6, hfz39_7⟩ := z172_ BK404.1) | (refine gl_ (some 4) Tryd.func69 #[.agg #[.int .i64 a0_0, .int .i64 a0_1, .slice A0_2 l0_2.length c0_2, .int .i64 a0_3, .int .i64 a0_4, .slice A0_5 l0_5.length c0_5, .int .i64 a0_6, .int .i64 a0_7]] ?_; (with_reducible refine (spec_IsReport.calls k a0_0 a0_1 _ _ l0_2 a0_3 a0_4 _ _ l0_5 a0_6 a0_7 false _ ?side1 ?side2 ?side3 ?side4 A2.1).mono ?_); (case side1 => exact cd_ (Kd.C_below HR0_2.1 HB.1)); (case side2 => exact HC0_2.1); (case side3 => exact cd_ (Kd.C_below HR0_5.1 HB.1)); (case side4 => exact HC0_5.1); rintro e w40 ⟨rfl, hb⟩; refine ⟨_, rfl, ?_⟩; replace BK404 := o_ (blk_below (bd_ BK404.1) hb); replace HB := o_ (below_step wB_ hb); (try clear hb)))
  go_ret
  exact ⟨rt_, wB_⟩

/-! ### spec_l1Str: function 55 -/
def spec_l1Str.f (s0_0 : List Int) (s0_1 : Int) (s0_2 : Int) (l1 : List ByteArray) : Option (ByteArray × Int × Int) := (spec_l1Below.f s0_0 s0_1 s0_2 (l1.length : Int)).bind fun bt414 => (if 0 ≤ bt414.1 then (if bt414.1 < (l1.length : Int) then (some (rdOf ByteArray.empty l1 bt414.1, bt414.2.1, bt414.2.2)) else (none)) else (none))
set_option maxHeartbeats 8000000 in
set_option maxRecDepth 100000 in
theorem spec_l1Str.calls (g : Nat) (s0_0 : List Int) (s0_1 : Int) (s0_2 : Int) (A1 : Option Addr) (c1 : Nat) (l1 : List ByteArray) (r1 : ByteArray) (r2 : Int) (r3 : Int) (w0 w : World) (hI : IsS103 w0 w g s0_0 s0_1 s0_2) (hB : Below w0.heap.size w0 w) (hr1 : Kd.C Kd.string w A1 l1.length l1) (hc1 : l1.length ≤ c1) (hf1 : ∀ ad, A1 = some ad → 0 < l1.length → ad.block ≠ g) (h : spec_l1Str.f s0_0 s0_1 s0_2 l1 = some (r1, r2, r3)) :
    Calls Tryd.prog 55 #[.pointer (some ⟨g, 0, none⟩), .slice A1 l1.length c1] w fun e w' => e = .returned (.string r1) ∧ IsS103 w0 w' g s0_0 r2 r3 ∧ Below w0.heap.size w0 w' ∧ KeepBut w w' g none := by
  have HR1 := o_ hr1
  have HC1 := o_ hc1
  clear hr1 hc1
  have HI0 := o_ hI
  have HK := o_ (KeepBut.refl w g none)
  have HL := o_ hB.size
  clear hI
  have HW0 := o_ hB.size
  have HB := o_ hB
  clear hB
  have H : ((spec_l1Below.f s0_0 s0_1 s0_2 (l1.length : Int)).bind fun bt414 => (if 0 ≤ bt414.1 then (if bt414.1 < (l1.length : Int) then (some (rdOf ByteArray.empty l1 bt414.1, bt414.2.1, bt414.2.2)) else (none)) else (none))) = some (r1, r2, r3) := h
  clear h
  replace H := Option.bind_eq_some_iff.mp H
  obtain ⟨⟨t414, t415, t416⟩, A30, H⟩ := H
  try dsimp only at H
  have A3 := o_ A30
  clear A30
  by_cases c4 : 0 ≤ t414
  · rw [if_pos c4] at H
    have c4b0 := decide_eq_true c4
    clear c4
    by_cases c5 : t414 < (l1.length : Int)
    · rw [if_pos c5] at H
      have c5b0 := decide_eq_true c5
      clear c5
      simp only [Option.some.injEq, Prod.mk.injEq] at H
      obtain ⟨rfl, rfl, rfl⟩ := H
      go_enter Tryd.func55, Tryd.ntmps55
      go_wp2_with (first | (refine gl_ (some 9) Tryd.func58 #[.pointer (some ⟨g, 0, none⟩), .int .i64 (l1.length : Int)] ?_; (with_reducible refine (spec_l1Below.calls g s0_0 s0_1 s0_2 (l1.length : Int) t414 t415 t416 w0 _ ?side1 ?side2 A3.1).mono ?_); (case side1 => exact wI_); (case side2 => exact wB_); rintro e w6 ⟨rfl, hi, hb, hk⟩; refine ⟨_, rfl, ?_⟩; replace HK := o_ (KeepBut.trans wK_ hk (.inl rfl)); replace HB := o_ (hb); replace HI0 := o_ (hi); (try clear hb hk hi); have p417 : 0 ≤ (t414 : Int) := of_decide_eq_true as_; have q417 : t414 < (l1.length : Int) := of_decide_eq_true as_; obtain ⟨ad417, e417, hx417_0⟩ := Kd.at_string HR1.1 t414 p417 q417; cases e417; replace hx417_0 := keep_cell HK.1 hx417_0 (by first | (rw [add_block]; exact hf1 _ rfl (by omega)) | exact hf1 _ rfl (by omega) | exact hf1 ad417 rfl (by omega)); replace p417 := eq_true p417; replace q417 := eq_true q417))
      go_ret
      exact ⟨rt_, wI_, wB_, wK_⟩
    · rw [if_neg c5] at H
      exact absurd H (by simp)
  · rw [if_neg c4] at H
    exact absurd H (by simp)

/-! ### spec_DrawParseReport: function 15 -/
def spec_DrawParseReport.f (k : Nat) (l0 : List Int) : Option (ByteArray) := (spec_l1New.f k l0).bind fun bt418 => ((spec_l7Any.f k bt418.1 bt418.2.1 bt418.2.2).bind fun bt422 => ((spec_ReportText.f k bt422.1 bt422.2.1 bt422.2.2.1 bt422.2.2.2.1 bt422.2.2.2.2.1 bt422.2.2.2.2.2.1 bt422.2.2.2.2.2.2.1 bt422.2.2.2.2.2.2.2.1).bind fun t436 => (if t436.size + 1 ≤ 9223372036854775807 then ((spec_l1Str.f bt418.1 bt422.2.2.2.2.2.2.2.2.1 bt422.2.2.2.2.2.2.2.2.2 (([t436, t436, t436, t436 ++ (⟨#[32]⟩ : ByteArray), (⟨#[55, 32, 98, 97, 103, 32, 50, 44, 51, 32, 52, 45, 57, 32, 45, 32, 50, 48, 45, 51, 49]⟩ : ByteArray), (⟨#[55, 32, 98, 97, 103, 32, 51, 44, 50, 32, 52, 45, 57, 32, 45, 32, 50, 48, 45, 51, 49]⟩ : ByteArray), (⟨#[55, 32, 98, 97, 103, 32, 45, 32, 57, 45, 52, 32, 45, 32, 50, 48, 45, 51, 49]⟩ : ByteArray), (⟨#[55, 32, 98, 111, 120, 32, 45, 32, 52, 45, 57, 32, 45, 32, 50, 48, 45, 51, 49]⟩ : ByteArray), (⟨#[55, 32, 98, 97, 103, 32, 45, 32, 52, 45, 57, 32, 45, 32, 50, 48]⟩ : ByteArray), (⟨#[]⟩ : ByteArray), (⟨#[48, 55, 32, 98, 97, 103, 32, 45, 32, 52, 45, 57, 32, 45, 32, 50, 48, 45, 51, 49]⟩ : ByteArray), (⟨#[55, 32, 98, 97, 103, 32, 45, 32, 52, 45, 57, 32, 48, 32, 50, 48, 45, 51, 49]⟩ : ByteArray), (⟨#[55, 32, 32, 98, 97, 103, 32, 45, 32, 52, 45, 57, 32, 45, 32, 50, 48, 45, 51, 49]⟩ : ByteArray)] : List ByteArray))).bind fun bt440 => (some bt440.1)) else (none))))
theorem spec_DrawParseReport.mono : ∀ a0 k, LeO (spec_DrawParseReport.f k a0) (spec_DrawParseReport.f (k + 1) a0) := by
  intro a0 k
  unfold spec_DrawParseReport.f
  have jh0 := @spec_ReportText.mono
  have jh1 := @spec_l1New.mono
  have jh2 := @spec_l7Any.mono
  exact mo_
theorem y177_ {P : Prop} (h : P := by repeat (first | (with_reducible first | exact HB.1 | apply below_alloc | apply pw_below_drewN | apply below_drew1 | refine below_set ?_ (IsS103.ge HI421.1)) | exact HB.1)) : P := h
set_option maxHeartbeats 8000000 in
set_option maxRecDepth 100000 in
theorem spec_DrawParseReport.calls (k : Nat) (A0 : Option Addr) (c0 : Nat) (l0 : List Int) (r : ByteArray) (w : World) (hr0 : Kd.C (Kd.int .u8) w A0 l0.length l0) (hc0 : l0.length ≤ c0) (h : spec_DrawParseReport.f k l0 = some r) :
    Calls Tryd.prog 15 #[.slice A0 l0.length c0] w fun e w' => e = .returned (.string r) ∧ Below w.heap.size w w' := by
  have HR0 := o_ hr0
  have HC0 := o_ hc0
  clear hr0 hc0
  have HB := o_ (Below.refl w.heap.size w)
  have H : ((spec_l1New.f k l0).bind fun bt418 => ((spec_l7Any.f k bt418.1 bt418.2.1 bt418.2.2).bind fun bt422 => ((spec_ReportText.f k bt422.1 bt422.2.1 bt422.2.2.1 bt422.2.2.2.1 bt422.2.2.2.2.1 bt422.2.2.2.2.2.1 bt422.2.2.2.2.2.2.1 bt422.2.2.2.2.2.2.2.1).bind fun t436 => (if t436.size + 1 ≤ 9223372036854775807 then ((spec_l1Str.f bt418.1 bt422.2.2.2.2.2.2.2.2.1 bt422.2.2.2.2.2.2.2.2.2 (([t436, t436, t436, t436 ++ (⟨#[32]⟩ : ByteArray), (⟨#[55, 32, 98, 97, 103, 32, 50, 44, 51, 32, 52, 45, 57, 32, 45, 32, 50, 48, 45, 51, 49]⟩ : ByteArray), (⟨#[55, 32, 98, 97, 103, 32, 51, 44, 50, 32, 52, 45, 57, 32, 45, 32, 50, 48, 45, 51, 49]⟩ : ByteArray), (⟨#[55, 32, 98, 97, 103, 32, 45, 32, 57, 45, 52, 32, 45, 32, 50, 48, 45, 51, 49]⟩ : ByteArray), (⟨#[55, 32, 98, 111, 120, 32, 45, 32, 52, 45, 57, 32, 45, 32, 50, 48, 45, 51, 49]⟩ : ByteArray), (⟨#[55, 32, 98, 97, 103, 32, 45, 32, 52, 45, 57, 32, 45, 32, 50, 48]⟩ : ByteArray), (⟨#[]⟩ : ByteArray), (⟨#[48, 55, 32, 98, 97, 103, 32, 45, 32, 52, 45, 57, 32, 45, 32, 50, 48, 45, 51, 49]⟩ : ByteArray), (⟨#[55, 32, 98, 97, 103, 32, 45, 32, 52, 45, 57, 32, 48, 32, 50, 48, 45, 51, 49]⟩ : ByteArray), (⟨#[55, 32, 32, 98, 97, 103, 32, 45, 32, 52, 45, 57, 32, 45, 32, 50, 48, 45, 51, 49]⟩ : ByteArray)] : List ByteArray))).bind fun bt440 => (some bt440.1)) else (none))))) = some r := h
  clear h
  replace H := Option.bind_eq_some_iff.mp H
  obtain ⟨⟨t418, t419, t420⟩, A20, H⟩ := H
  try dsimp only at H
  have A2 := o_ A20
  clear A20
  replace H := Option.bind_eq_some_iff.mp H
  obtain ⟨⟨t422, t423, t424, t427, t428, t429, t432, t433, t434, t435⟩, A30, H⟩ := H
  try dsimp only at H
  have A3 := o_ A30
  clear A30
  replace H := Option.bind_eq_some_iff.mp H
  obtain ⟨t436, A40, H⟩ := H
  try dsimp only at H
  have A4 := o_ A40
  clear A40
  by_cases c5 : t436.size + 1 ≤ 9223372036854775807
  · rw [if_pos c5] at H
    have c5b0 := eq_true c5
    have c5b1 := decide_eq_true c5
    try have c5b2 : (9223372036854775807 < t436.size + 1) = False := eq_false (Nat.not_lt.2 c5)
    obtain ⟨y437, hy437⟩ : ∃ y_ : List ByteArray, y_ = (([t436, t436, t436, t436 ++ (⟨#[32]⟩ : ByteArray), (⟨#[55, 32, 98, 97, 103, 32, 50, 44, 51, 32, 52, 45, 57, 32, 45, 32, 50, 48, 45, 51, 49]⟩ : ByteArray), (⟨#[55, 32, 98, 97, 103, 32, 51, 44, 50, 32, 52, 45, 57, 32, 45, 32, 50, 48, 45, 51, 49]⟩ : ByteArray), (⟨#[55, 32, 98, 97, 103, 32, 45, 32, 57, 45, 52, 32, 45, 32, 50, 48, 45, 51, 49]⟩ : ByteArray), (⟨#[55, 32, 98, 111, 120, 32, 45, 32, 52, 45, 57, 32, 45, 32, 50, 48, 45, 51, 49]⟩ : ByteArray), (⟨#[55, 32, 98, 97, 103, 32, 45, 32, 52, 45, 57, 32, 45, 32, 50, 48]⟩ : ByteArray), (⟨#[]⟩ : ByteArray), (⟨#[48, 55, 32, 98, 97, 103, 32, 45, 32, 52, 45, 57, 32, 45, 32, 50, 48, 45, 51, 49]⟩ : ByteArray), (⟨#[55, 32, 98, 97, 103, 32, 45, 32, 52, 45, 57, 32, 48, 32, 50, 48, 45, 51, 49]⟩ : ByteArray), (⟨#[55, 32, 32, 98, 97, 103, 32, 45, 32, 52, 45, 57, 32, 45, 32, 50, 48, 45, 51, 49]⟩ : ByteArray)] : List ByteArray)) := ⟨_, rfl⟩
    replace H : ((spec_l1Str.f t418 t434 t435 y437).bind fun bt440 => (some bt440.1)) = some r := by first | (rw [hy437]; with_reducible exact H) | (have H2_ := (Option.bind_some _ _).symm.trans H; rw [hy437]; with_reducible exact H2_) | (have H2_ := (Option.bind_some _ _).symm.trans H; with_reducible exact H2_) | with_reducible exact H | (rw [hy437]; exact H) | exact H
    have Ny437 := o_ hy437
    clear hy437
    replace H := Option.bind_eq_some_iff.mp H
    obtain ⟨⟨t440, t441, t442⟩, A60, H⟩ := H
    try dsimp only at H
    have A6 := o_ A60
    clear A60
    obtain rfl := Option.some.inj H
    go_enter Tryd.func15, Tryd.ntmps15
    go_wp2_with (first | (refine gl_ (some 6) Tryd.func53 #[.slice A0 l0.length c0] ?_; (with_reducible refine (spec_l1New.calls k _ _ l0 t418 t419 t420 w _ ?side1 ?side2 ?side3 A2.1).mono ?_); (case side1 => exact wB_); (case side2 => exact HR0.1); (case side3 => exact HC0.1); rintro e w7 ⟨g421, rfl, hi, hb, hb2⟩; refine ⟨_, rfl, ?_⟩; replace HB := o_ (hb); replace HI421 := o_ (hi); (try clear hb hb2 hi)) | (refine gl_ (some 8) Tryd.func54 #[.pointer (some ⟨g421, 0, none⟩)] ?_; (with_reducible refine (spec_l7Any.calls k g421 t418 t419 t420 t422 t423 t424 t427 t428 t429 t432 t433 t434 t435 w _ ?side1 ?side2 A3.1).mono ?_); (case side1 => repeat (first | (with_reducible first | exact HI421.1 | apply IsS103.alloc | apply IsS103.drewN | apply IsS103.drew | apply IsS103.set_1 | apply IsS103.set_2) | exact HI421.1)); (case side2 => repeat (first | (with_reducible first | exact HB.1 | apply below_alloc | apply pw_below_drewN | apply below_drew1 | refine below_set ?_ (IsS103.ge HI421.1)) | exact HB.1)); rintro e w8 ⟨v425, v430, rfl, ho0, ho1, hi, hb, hk⟩; refine ⟨_, rfl, ?_⟩; have HO426 := o_ (Kd.R_lower ho0 (below_size y177_)); have HO431 := o_ (Kd.R_lower ho1 (below_size y177_)); replace HB := o_ (hb); replace HI421 := o_ (hi); (try clear hb hk hi ho0 ho1); obtain ⟨Ao9, co9, eo9⟩ := Kd.R_slice HO426.1; subst eo9; obtain ⟨Ao10, co10, eo10⟩ := Kd.R_slice HO431.1; subst eo10) | (refine gl_ (some 9) Tryd.func36 #[.agg #[.int .i64 t422, .int .i64 t423, .slice Ao9 t424.length co9, .int .i64 t427, .int .i64 t428, .slice Ao10 t429.length co10, .int .i64 t432, .int .i64 t433]] ?_; (with_reducible refine (spec_ReportText.calls k t422 t423 _ _ t424 t427 t428 _ _ t429 t432 t433 t436 _ ?side1 ?side2 ?side3 ?side4 A4.1).mono ?_); (case side1 => exact cd_ (Kd.R_reads' HO426.1).2.2); (case side2 => exact (Kd.R_reads' HO426.1).2.1); (case side3 => exact cd_ (Kd.R_reads' HO431.1).2.2); (case side4 => exact (Kd.R_reads' HO431.1).2.1); rintro e w11 ⟨rfl, hb⟩; refine ⟨_, rfl, ?_⟩; replace HO426 := o_ (Kd.R_below (rd_ HO426.1) hb); replace HO431 := o_ (Kd.R_below (rd_ HO431.1) hb); replace HB := o_ (below_step y177_ hb); replace HI421 := o_ (IsS103.below (by repeat (first | (with_reducible first | exact HI421.1 | apply IsS103.alloc | apply IsS103.drewN | apply IsS103.drew | apply IsS103.set_1 | apply IsS103.set_2) | exact HI421.1)) hb); (try clear hb)) | ((with_reducible refine gate_dst (N := 16) rfl ?_); refine Kd.R_lit Kd.string _ 9 ?hg (N := 16) ?hd (xs := ([t436, t436, t436, t436 ++ (⟨#[32]⟩ : ByteArray), (⟨#[55, 32, 98, 97, 103, 32, 50, 44, 51, 32, 52, 45, 57, 32, 45, 32, 50, 48, 45, 51, 49]⟩ : ByteArray), (⟨#[55, 32, 98, 97, 103, 32, 51, 44, 50, 32, 52, 45, 57, 32, 45, 32, 50, 48, 45, 51, 49]⟩ : ByteArray), (⟨#[55, 32, 98, 97, 103, 32, 45, 32, 57, 45, 52, 32, 45, 32, 50, 48, 45, 51, 49]⟩ : ByteArray), (⟨#[55, 32, 98, 111, 120, 32, 45, 32, 52, 45, 57, 32, 45, 32, 50, 48, 45, 51, 49]⟩ : ByteArray), (⟨#[55, 32, 98, 97, 103, 32, 45, 32, 52, 45, 57, 32, 45, 32, 50, 48]⟩ : ByteArray), (⟨#[]⟩ : ByteArray), (⟨#[48, 55, 32, 98, 97, 103, 32, 45, 32, 52, 45, 57, 32, 45, 32, 50, 48, 45, 51, 49]⟩ : ByteArray), (⟨#[55, 32, 98, 97, 103, 32, 45, 32, 52, 45, 57, 32, 48, 32, 50, 48, 45, 51, 49]⟩ : ByteArray), (⟨#[55, 32, 32, 98, 97, 103, 32, 45, 32, 52, 45, 57, 32, 45, 32, 50, 48, 45, 51, 49]⟩ : ByteArray)] : List ByteArray)) (inner := [.string t436, .string t436, .string t436, .string (t436 ++ (⟨#[32]⟩ : ByteArray)), .string (⟨#[55, 32, 98, 97, 103, 32, 50, 44, 51, 32, 52, 45, 57, 32, 45, 32, 50, 48, 45, 51, 49]⟩ : ByteArray), .string (⟨#[55, 32, 98, 97, 103, 32, 51, 44, 50, 32, 52, 45, 57, 32, 45, 32, 50, 48, 45, 51, 49]⟩ : ByteArray), .string (⟨#[55, 32, 98, 97, 103, 32, 45, 32, 57, 45, 52, 32, 45, 32, 50, 48, 45, 51, 49]⟩ : ByteArray), .string (⟨#[55, 32, 98, 111, 120, 32, 45, 32, 52, 45, 57, 32, 45, 32, 50, 48, 45, 51, 49]⟩ : ByteArray), .string (⟨#[55, 32, 98, 97, 103, 32, 45, 32, 52, 45, 57, 32, 45, 32, 50, 48]⟩ : ByteArray), .string (⟨#[]⟩ : ByteArray), .string (⟨#[48, 55, 32, 98, 97, 103, 32, 45, 32, 52, 45, 57, 32, 45, 32, 50, 48, 45, 51, 49]⟩ : ByteArray), .string (⟨#[55, 32, 98, 97, 103, 32, 45, 32, 52, 45, 57, 32, 48, 32, 50, 48, 45, 51, 49]⟩ : ByteArray), .string (⟨#[55, 32, 32, 98, 97, 103, 32, 45, 32, 52, 45, 57, 32, 45, 32, 50, 48, 45, 51, 49]⟩ : ByteArray)]) (ok := fun _ => True) (okp := fun _ => True) ?hr ?hp (fun _ hk => hk) trivial (Below.refl _ _) (Nat.le_refl _) (by simp) ?_; (case hd => rfl); (case hg => rfl); (case hr => first | (go_simp; done) | (go_simp; rfl)); (case hp => exact (Reps.one (show Kd.M Kd.string _ _ _ t436 [.string t436] from rfl) (Reps.one (show Kd.M Kd.string _ _ _ t436 [.string t436] from rfl) (Reps.one (show Kd.M Kd.string _ _ _ t436 [.string t436] from rfl) (Reps.one (show Kd.M Kd.string _ _ _ (t436 ++ (⟨#[32]⟩ : ByteArray)) [.string (t436 ++ (⟨#[32]⟩ : ByteArray))] from rfl) (Reps.one (show Kd.M Kd.string _ _ _ (⟨#[55, 32, 98, 97, 103, 32, 50, 44, 51, 32, 52, 45, 57, 32, 45, 32, 50, 48, 45, 51, 49]⟩ : ByteArray) [.string (⟨#[55, 32, 98, 97, 103, 32, 50, 44, 51, 32, 52, 45, 57, 32, 45, 32, 50, 48, 45, 51, 49]⟩ : ByteArray)] from rfl) (Reps.one (show Kd.M Kd.string _ _ _ (⟨#[55, 32, 98, 97, 103, 32, 51, 44, 50, 32, 52, 45, 57, 32, 45, 32, 50, 48, 45, 51, 49]⟩ : ByteArray) [.string (⟨#[55, 32, 98, 97, 103, 32, 51, 44, 50, 32, 52, 45, 57, 32, 45, 32, 50, 48, 45, 51, 49]⟩ : ByteArray)] from rfl) (Reps.one (show Kd.M Kd.string _ _ _ (⟨#[55, 32, 98, 97, 103, 32, 45, 32, 57, 45, 52, 32, 45, 32, 50, 48, 45, 51, 49]⟩ : ByteArray) [.string (⟨#[55, 32, 98, 97, 103, 32, 45, 32, 57, 45, 52, 32, 45, 32, 50, 48, 45, 51, 49]⟩ : ByteArray)] from rfl) (Reps.one (show Kd.M Kd.string _ _ _ (⟨#[55, 32, 98, 111, 120, 32, 45, 32, 52, 45, 57, 32, 45, 32, 50, 48, 45, 51, 49]⟩ : ByteArray) [.string (⟨#[55, 32, 98, 111, 120, 32, 45, 32, 52, 45, 57, 32, 45, 32, 50, 48, 45, 51, 49]⟩ : ByteArray)] from rfl) (Reps.one (show Kd.M Kd.string _ _ _ (⟨#[55, 32, 98, 97, 103, 32, 45, 32, 52, 45, 57, 32, 45, 32, 50, 48]⟩ : ByteArray) [.string (⟨#[55, 32, 98, 97, 103, 32, 45, 32, 52, 45, 57, 32, 45, 32, 50, 48]⟩ : ByteArray)] from rfl) (Reps.one (show Kd.M Kd.string _ _ _ (⟨#[]⟩ : ByteArray) [.string (⟨#[]⟩ : ByteArray)] from rfl) (Reps.one (show Kd.M Kd.string _ _ _ (⟨#[48, 55, 32, 98, 97, 103, 32, 45, 32, 52, 45, 57, 32, 45, 32, 50, 48, 45, 51, 49]⟩ : ByteArray) [.string (⟨#[48, 55, 32, 98, 97, 103, 32, 45, 32, 52, 45, 57, 32, 45, 32, 50, 48, 45, 51, 49]⟩ : ByteArray)] from rfl) (Reps.one (show Kd.M Kd.string _ _ _ (⟨#[55, 32, 98, 97, 103, 32, 45, 32, 52, 45, 57, 32, 48, 32, 50, 48, 45, 51, 49]⟩ : ByteArray) [.string (⟨#[55, 32, 98, 97, 103, 32, 45, 32, 52, 45, 57, 32, 48, 32, 50, 48, 45, 51, 49]⟩ : ByteArray)] from rfl) (Reps.one (show Kd.M Kd.string _ _ _ (⟨#[55, 32, 32, 98, 97, 103, 32, 45, 32, 52, 45, 57, 32, 45, 32, 50, 48, 45, 51, 49]⟩ : ByteArray) [.string (⟨#[55, 32, 32, 98, 97, 103, 32, 45, 32, 52, 45, 57, 32, 45, 32, 50, 48, 45, 51, 49]⟩ : ByteArray)] from rfl) (Reps.none _ _))))))))))))))); intro v438 w12 ho13 hb hg_ hnew_; clear hg_ hnew_; (first | rw [← Ny437.1] at ho13 | (simp only [Int.reduceToNat] at ho13; rw [← Ny437.1] at ho13)); replace HO426 := o_ (Kd.R_below (rd_ HO426.1) hb); replace HO431 := o_ (Kd.R_below (rd_ HO431.1) hb); have HO439 := o_ (Kd.R_lower ho13 (below_size y177_)); replace HB := o_ (below_step y177_ hb); replace HI421 := o_ (IsS103.below (by repeat (first | (with_reducible first | exact HI421.1 | apply IsS103.alloc | apply IsS103.drewN | apply IsS103.drew | apply IsS103.set_1 | apply IsS103.set_2) | exact HI421.1)) hb); clear hb ho13; obtain ⟨Ao14, co14, eo14⟩ := Kd.R_slice HO439.1; subst eo14) | (refine gl_ (some 17) Tryd.func55 #[.pointer (some ⟨g421, 0, none⟩), .slice Ao14 y437.length co14] ?_; (with_reducible refine (spec_l1Str.calls g421 t418 t434 t435 _ _ y437 t440 t441 t442 w _ ?side1 ?side2 ?side3 ?side4 ?side5 A6.1).mono ?_); (case side1 => repeat (first | (with_reducible first | exact HI421.1 | apply IsS103.alloc | apply IsS103.drewN | apply IsS103.drew | apply IsS103.set_1 | apply IsS103.set_2) | exact HI421.1)); (case side2 => repeat (first | (with_reducible first | exact HB.1 | apply below_alloc | apply pw_below_drewN | apply below_drew1 | refine below_set ?_ (IsS103.ge HI421.1)) | exact HB.1)); (case side3 => exact cd_ (Kd.R_reads' HO439.1).2.2); (case side4 => exact (Kd.R_reads' HO439.1).2.1); (case side5 => exact far_slice (IsS103.own_ne HI421.1 HO439.1 (by decide))); rintro e w15 ⟨rfl, hi, hb, hk⟩; refine ⟨_, rfl, ?_⟩; replace HO426 := o_ (Kd.R_mono (Kd.R_keep (IsS103.apart (show IsS103 w _ g421 t418 t434 t435 from by repeat (first | (with_reducible first | exact HI421.1 | apply IsS103.alloc | apply IsS103.drewN | apply IsS103.drew | apply IsS103.set_1 | apply IsS103.set_2) | exact HI421.1)) (rd_ HO426.1) (by decide)) hk (fun _ h => h.2)) (fun _ h => h.1)); replace HO431 := o_ (Kd.R_mono (Kd.R_keep (IsS103.apart (show IsS103 w _ g421 t418 t434 t435 from by repeat (first | (with_reducible first | exact HI421.1 | apply IsS103.alloc | apply IsS103.drewN | apply IsS103.drew | apply IsS103.set_1 | apply IsS103.set_2) | exact HI421.1)) (rd_ HO431.1) (by decide)) hk (fun _ h => h.2)) (fun _ h => h.1)); replace HO439 := o_ (Kd.R_mono (Kd.R_keep (IsS103.apart (show IsS103 w _ g421 t418 t434 t435 from by repeat (first | (with_reducible first | exact HI421.1 | apply IsS103.alloc | apply IsS103.drewN | apply IsS103.drew | apply IsS103.set_1 | apply IsS103.set_2) | exact HI421.1)) (rd_ HO439.1) (by decide)) hk (fun _ h => h.2)) (fun _ h => h.1)); replace HB := o_ (hb); replace HI421 := o_ (hi); (try clear hb hk hi)))
    go_ret
    exact ⟨rt_, by repeat (first | (with_reducible first | exact HB.1 | apply below_alloc | apply pw_below_drewN | apply below_drew1 | refine below_set ?_ (IsS103.ge HI421.1)) | exact HB.1)⟩
  · rw [if_neg c5] at H
    exact absurd H (by simp)

/-! ### spec_DrawListText: function 16 -/
def spec_DrawListText.f (k : Nat) (l0 : List Int) : Option (List Int) := (spec_l1New.f k l0).bind fun bt443 => ((spec_l7Some.f k bt443.1 bt443.2.1 bt443.2.2 0 9 3).bind fun bt447 => (some bt447.1))
theorem spec_DrawListText.mono : ∀ a0 k, LeO (spec_DrawListText.f k a0) (spec_DrawListText.f (k + 1) a0) := by
  intro a0 k
  unfold spec_DrawListText.f
  have jh0 := @spec_l1New.mono
  have jh1 := @spec_l7Some.mono
  exact mo_
set_option maxHeartbeats 8000000 in
set_option maxRecDepth 100000 in
theorem spec_DrawListText.calls (k : Nat) (A0 : Option Addr) (c0 : Nat) (l0 : List Int) (r : List Int) (w : World) (hr0 : Kd.C (Kd.int .u8) w A0 l0.length l0) (hc0 : l0.length ≤ c0) (h : spec_DrawListText.f k l0 = some r) :
    Calls Tryd.prog 16 #[.slice A0 l0.length c0] w fun e w' => ∃ v0_ : Value, e = .returned (v0_) ∧ Kd.R (Kd.int .i64) 3 w' w.heap.size (fun _ => True) v0_ r ∧ Below w.heap.size w w' := by
  have HR0 := o_ hr0
  have HC0 := o_ hc0
  clear hr0 hc0
  have HB := o_ (Below.refl w.heap.size w)
  have H : ((spec_l1New.f k l0).bind fun bt443 => ((spec_l7Some.f k bt443.1 bt443.2.1 bt443.2.2 0 9 3).bind fun bt447 => (some bt447.1))) = some r := h
  clear h
  replace H := Option.bind_eq_some_iff.mp H
  obtain ⟨⟨t443, t444, t445⟩, A20, H⟩ := H
  try dsimp only at H
  have A2 := o_ A20
  clear A20
  replace H := Option.bind_eq_some_iff.mp H
  obtain ⟨⟨t447, t450, t451⟩, A30, H⟩ := H
  try dsimp only at H
  have A3 := o_ A30
  clear A30
  obtain rfl := Option.some.inj H
  go_enter Tryd.func16, Tryd.ntmps16
  go_wp2_with (first | (refine gl_ (some 5) Tryd.func53 #[.slice A0 l0.length c0] ?_; (with_reducible refine (spec_l1New.calls k _ _ l0 t443 t444 t445 w _ ?side1 ?side2 ?side3 A2.1).mono ?_); (case side1 => exact wB_); (case side2 => exact HR0.1); (case side3 => exact HC0.1); rintro e w4 ⟨g446, rfl, hi, hb, hb2⟩; refine ⟨_, rfl, ?_⟩; replace HB := o_ (hb); replace HI446 := o_ (hi); (try clear hb hb2 hi)) | (refine gl_ (some 7) Tryd.func56 #[.pointer (some ⟨g446, 0, none⟩), .int .i64 0, .int .i64 9, .int .i64 3] ?_; (with_reducible refine (spec_l7Some.calls k g446 t443 t444 t445 0 9 3 t447 t450 t451 w _ ?side1 ?side2 A3.1).mono ?_); (case side1 => repeat (first | (with_reducible first | exact HI446.1 | apply IsS103.alloc | apply IsS103.drewN | apply IsS103.drew | apply IsS103.set_1 | apply IsS103.set_2) | exact HI446.1)); (case side2 => repeat (first | (with_reducible first | exact HB.1 | apply below_alloc | apply pw_below_drewN | apply below_drew1 | refine below_set ?_ (IsS103.ge HI446.1)) | exact HB.1)); rintro e w5 ⟨v448, rfl, ho0, hi, hb, hk⟩; refine ⟨_, rfl, ?_⟩; have HO449 := o_ (Kd.R_lower ho0 (below_size (by repeat (first | (with_reducible first | exact HB.1 | apply below_alloc | apply pw_below_drewN | apply below_drew1 | refine below_set ?_ (IsS103.ge HI446.1)) | exact HB.1)))); replace HB := o_ (hb); replace HI446 := o_ (hi); (try clear hb hk hi ho0)))
  go_ret
  exact ⟨_, by first | rfl | (simp [errW_none, errW_some] <;> rfl) | (simp [*, errW_none, errW_some] <;> rfl), rd_ HO449.1, by repeat (first | (with_reducible first | exact HB.1 | apply below_alloc | apply pw_below_drewN | apply below_drew1 | refine below_set ?_ (IsS103.ge HI446.1)) | exact HB.1)⟩

end Go.Proofs.YtihnanfekchlhaaDoor.PFnForms
