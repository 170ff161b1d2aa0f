-- Written for this claim by a program (a printer turned to this claim); Lean checks it.
import Derived.Test.YtihnanfekchlhaaDoorPFnFormsx0
import Derived.Test.YtihnanfekchlhaaDoorPFnFormsx2
import Derived.Test.YtihnanfekchlhaaDoorPFnFormsx3
import Derived.Test.YtihnanfekchlhaaDoorPFnFormsx4
import Derived.Test.YtihnanfekchlhaaDoorPFnFormsx5
import Derived.Test.YtihnanfekchlhaaDoorPFnFormsx6
import Derived.Test.YtihnanfekchlhaaDoorPFnFormsx8
import Derived.Test.YtihnanfekchlhaaDoorPFnFormsx9
import Derived.Test.YtihnanfekchlhaaDoorPFnFormsx10
import Derived.Test.YtihnanfekchlhaaDoorPFnFormsx11
namespace Go.Proofs.YtihnanfekchlhaaDoor.PFnForms
open Go.RowKit Go.Proofs.YtihnanfekchlhaaDoorW.PrintWords Go.Proofs.YtihnanfekchlhaaDoorW.PrintLast Go.Proofs.YtihnanfekchlhaaDoorW.PrintMore
attribute [local go_sem] max2_int min2_int max_two min_two max_three min_three max_four min_four   -- for this text's walks alone
set_option linter.unusedVariables false
set_option linter.unusedSimpArgs false

/-! ### laws_FnForms: function 3 -/
mutual
def laws_FnForms.j0 : Nat → List Int → Bool → Option (Bool)
 | 0, _, _ => none
 | k + 1, x0, x39 => if x39 = true then (some false) else ((spec_DrawParseReport.f k x0).bind fun t697 => ((impl_ParseReport.f k t697).bind fun bt698 => (if bt698.2.2.2.2.2.2.2.2 = true then ((impl_ReportText.f k bt698.1 bt698.2.1 bt698.2.2.1 bt698.2.2.2.1 bt698.2.2.2.2.1 bt698.2.2.2.2.2.1 bt698.2.2.2.2.2.2.1 bt698.2.2.2.2.2.2.2.1).bind fun t712 => (laws_FnForms.j1 k x0 (t712.toList != t697.toList))) else (laws_FnForms.j1 k x0 false))))
def laws_FnForms.j1 : Nat → List Int → Bool → Option (Bool)
 | 0, _, _ => none
 | k + 1, x0, x53 => if x53 = true then (some false) else ((spec_DrawListText.f k x0).bind fun t713 => ((impl_ListText.f k t713).bind fun t716 => ((impl_ParseList.f k t716).bind fun bt717 => (if bt717.2 = true then ((laws_sameInts.f k bt717.1 t713).bind fun t721 => (laws_FnForms.j2 k x0 (!t721))) else (laws_FnForms.j2 k x0 true)))))
def laws_FnForms.j2 : Nat → List Int → Bool → Option (Bool)
 | 0, _, _ => none
 | k + 1, x0, x69 => if x69 = true then (some false) else ((spec_DrawParseList.f k x0).bind fun t722 => ((impl_ParseList.f k t722).bind fun bt723 => ((spec_DrawKindOf.f k x0).bind fun t727 => ((spec_DrawFindText.f k x0).bind fun bt728 => (if bt723.2 = true then ((impl_ListText.f k bt723.1).bind fun t737 => (if t737.toList = t722.toList then ((impl_KindOf.f k t727).bind fun t738 => (if t738 = 0 then ((impl_IsFind.f bt728.1 bt728.2.1 bt728.2.2.1 bt728.2.2.2.1 bt728.2.2.2.2.1 bt728.2.2.2.2.2.1 bt728.2.2.2.2.2.2.1 bt728.2.2.2.2.2.2.2).bind fun t739 => ((impl_FindText.f bt728.1 bt728.2.1 bt728.2.2.1 bt728.2.2.2.1 bt728.2.2.2.2.1 bt728.2.2.2.2.2.1 bt728.2.2.2.2.2.2.1 bt728.2.2.2.2.2.2.2).bind fun t740 => (some (t739 == (t740.toList != ([] : List UInt8)))))) else ((impl_KindOf.f k t727).bind fun t741 => ((impl_KindText.f t741).bind fun t742 => (if t742.toList = t727.toList then ((impl_IsFind.f bt728.1 bt728.2.1 bt728.2.2.1 bt728.2.2.2.1 bt728.2.2.2.2.1 bt728.2.2.2.2.2.1 bt728.2.2.2.2.2.2.1 bt728.2.2.2.2.2.2.2).bind fun t743 => ((impl_FindText.f bt728.1 bt728.2.1 bt728.2.2.1 bt728.2.2.2.1 bt728.2.2.2.2.1 bt728.2.2.2.2.2.1 bt728.2.2.2.2.2.2.1 bt728.2.2.2.2.2.2.2).bind fun t744 => (some (t743 == (t744.toList != ([] : List UInt8)))))) else (some false)))))) else (some false))) else ((impl_KindOf.f k t727).bind fun t745 => (if t745 = 0 then ((impl_IsFind.f bt728.1 bt728.2.1 bt728.2.2.1 bt728.2.2.2.1 bt728.2.2.2.2.1 bt728.2.2.2.2.2.1 bt728.2.2.2.2.2.2.1 bt728.2.2.2.2.2.2.2).bind fun t746 => ((impl_FindText.f bt728.1 bt728.2.1 bt728.2.2.1 bt728.2.2.2.1 bt728.2.2.2.2.1 bt728.2.2.2.2.2.1 bt728.2.2.2.2.2.2.1 bt728.2.2.2.2.2.2.2).bind fun t747 => (some (t746 == (t747.toList != ([] : List UInt8)))))) else ((impl_KindOf.f k t727).bind fun t748 => ((impl_KindText.f t748).bind fun t749 => (if t749.toList = t727.toList then ((impl_IsFind.f bt728.1 bt728.2.1 bt728.2.2.1 bt728.2.2.2.1 bt728.2.2.2.2.1 bt728.2.2.2.2.2.1 bt728.2.2.2.2.2.2.1 bt728.2.2.2.2.2.2.2).bind fun t750 => ((impl_FindText.f bt728.1 bt728.2.1 bt728.2.2.1 bt728.2.2.2.1 bt728.2.2.2.2.1 bt728.2.2.2.2.2.1 bt728.2.2.2.2.2.2.1 bt728.2.2.2.2.2.2.2).bind fun t751 => (some (t750 == (t751.toList != ([] : List UInt8)))))) else (some false)))))))))))
end
def laws_FnForms.f (k : Nat) (l0 : List Int) : Option (Bool) := (laws_big.f l0).bind fun t666 => (if t666 = true then (some true) else ((spec_DrawReportText.f k l0).bind fun bt667 => ((impl_ReportText.f k bt667.1 bt667.2.1 bt667.2.2.1 bt667.2.2.2.1 bt667.2.2.2.2.1 bt667.2.2.2.2.2.1 bt667.2.2.2.2.2.2.1 bt667.2.2.2.2.2.2.2).bind fun t680 => ((impl_ParseReport.f k t680).bind fun bt681 => ((impl_IsReport.f k bt667.1 bt667.2.1 bt667.2.2.1 bt667.2.2.2.1 bt667.2.2.2.2.1 bt667.2.2.2.2.2.1 bt667.2.2.2.2.2.2.1 bt667.2.2.2.2.2.2.2).bind fun t695 => (if (bt681.2.2.2.2.2.2.2.2 != t695) = true then (laws_FnForms.j0 k l0 true) else (if bt681.2.2.2.2.2.2.2.2 = true then ((impl_EqualReports.f k bt681.1 bt681.2.1 bt681.2.2.1 bt681.2.2.2.1 bt681.2.2.2.2.1 bt681.2.2.2.2.2.1 bt681.2.2.2.2.2.2.1 bt681.2.2.2.2.2.2.2.1 bt667.1 bt667.2.1 bt667.2.2.1 bt667.2.2.2.1 bt667.2.2.2.2.1 bt667.2.2.2.2.2.1 bt667.2.2.2.2.2.2.1 bt667.2.2.2.2.2.2.2).bind fun t696 => (laws_FnForms.j0 k l0 (!t696))) else (laws_FnForms.j0 k l0 false))))))))
theorem laws_FnForms.mono_l : ∀ k, (∀ y0 y1, LeO (laws_FnForms.j0 k y0 y1) (laws_FnForms.j0 (k + 1) y0 y1)) ∧ (∀ y0 y1, LeO (laws_FnForms.j1 k y0 y1) (laws_FnForms.j1 (k + 1) y0 y1)) ∧ (∀ y0 y1, LeO (laws_FnForms.j2 k y0 y1) (laws_FnForms.j2 (k + 1) y0 y1))
 | 0 => ⟨fun _ _ r h => by simp [laws_FnForms.j0] at h, fun _ _ r h => by simp [laws_FnForms.j1] at h, fun _ _ r h => by simp [laws_FnForms.j2] at h⟩
 | k + 1 => by
  obtain ⟨ih0, ih1, ih2⟩ := laws_FnForms.mono_l k
  refine ⟨?_, ?_, ?_⟩
  ·
   intro y0 y1
   unfold laws_FnForms.j0
   have jh0 := @impl_EqualReports.mono
   have jh1 := @impl_IsReport.mono
   have jh2 := @impl_KindOf.mono
   have jh3 := @impl_ListText.mono
   have jh4 := @impl_ParseList.mono
   have jh5 := @impl_ParseReport.mono
   have jh6 := @impl_ReportText.mono
   have jh7 := @laws_sameInts.mono
   have jh8 := @spec_DrawFindText.mono
   have jh9 := @spec_DrawKindOf.mono
   have jh10 := @spec_DrawListText.mono
   have jh11 := @spec_DrawParseList.mono
   have jh12 := @spec_DrawParseReport.mono
   have jh13 := @spec_DrawReportText.mono
   exact mo_
  ·
   intro y0 y1
   unfold laws_FnForms.j1
   have jh0 := @impl_EqualReports.mono
   have jh1 := @impl_IsReport.mono
   have jh2 := @impl_KindOf.mono
   have jh3 := @impl_ListText.mono
   have jh4 := @impl_ParseList.mono
   have jh5 := @impl_ParseReport.mono
   have jh6 := @impl_ReportText.mono
   have jh7 := @laws_sameInts.mono
   have jh8 := @spec_DrawFindText.mono
   have jh9 := @spec_DrawKindOf.mono
   have jh10 := @spec_DrawListText.mono
   have jh11 := @spec_DrawParseList.mono
   have jh12 := @spec_DrawParseReport.mono
   have jh13 := @spec_DrawReportText.mono
   exact mo_
  ·
   intro y0 y1
   unfold laws_FnForms.j2
   have jh0 := @impl_EqualReports.mono
   have jh1 := @impl_IsReport.mono
   have jh2 := @impl_KindOf.mono
   have jh3 := @impl_ListText.mono
   have jh4 := @impl_ParseList.mono
   have jh5 := @impl_ParseReport.mono
   have jh6 := @impl_ReportText.mono
   have jh7 := @laws_sameInts.mono
   have jh8 := @spec_DrawFindText.mono
   have jh9 := @spec_DrawKindOf.mono
   have jh10 := @spec_DrawListText.mono
   have jh11 := @spec_DrawParseList.mono
   have jh12 := @spec_DrawParseReport.mono
   have jh13 := @spec_DrawReportText.mono
   exact mo_
theorem laws_FnForms.mono : ∀ a0 k, LeO (laws_FnForms.f k a0) (laws_FnForms.f (k + 1) a0) := by
 intro a0 k
 obtain ⟨ih0, ih1, ih2⟩ := laws_FnForms.mono_l k
 unfold laws_FnForms.f
 have jh0 := @impl_EqualReports.mono
 have jh1 := @impl_IsReport.mono
 have jh2 := @impl_KindOf.mono
 have jh3 := @impl_ListText.mono
 have jh4 := @impl_ParseList.mono
 have jh5 := @impl_ParseReport.mono
 have jh6 := @impl_ReportText.mono
 have jh7 := @laws_sameInts.mono
 have jh8 := @spec_DrawFindText.mono
 have jh9 := @spec_DrawKindOf.mono
 have jh10 := @spec_DrawListText.mono
 have jh11 := @spec_DrawParseList.mono
 have jh12 := @spec_DrawParseReport.mono
 have jh13 := @spec_DrawReportText.mono
 exact mo_
def laws_FnForms.T19 : Bool × List (List Nat × List Nat) := (true, [([], []), ([0], [0]), ([1], [1]), ([2], [2]), ([3, 2, 2], [2, 3]), ([2], [2]), ([4, 5, 2], [2, 4, 5]), ([2, 6], [2, 6]), ([7, 4], [7]), ([8], [8]), ([9, 8, 8], [8, 9]), ([10, 8], [8, 10]), ([11, 10, 8], [8, 11]), ([12], [12]), ([13, 12, 12], [12, 13]), ([14, 14, 12], [12, 14]), ([12], [12]), ([15, 16, 12], [12, 15, 16]), ([12, 17, 8], [8, 12, 17]), ([8, 18], [8, 18]), ([19, 15], [19]), ([20], [20]), ([21, 20, 20], [20, 21]), ([20], [20]), ([23, 22, 20], [20, 23]), ([24, 20], [20, 24]), ([22, 25, 20], [20, 22, 25]), ([20, 26], [20, 26]), ([27, 24, 0, 1, 2, 3, 4, 5, 6, 7, 8, 9, 10, 11, 12, 13, 14, 15, 16, 17, 18, 19, 20, 21, 22, 23, 24, 25, 26, 27], [27])])
def laws_FnForms.B19 : List Nat := [0, 1, 3, 7, 15, 7, 63, 127, 255, 511, 1023, 2047, 4095, 8191, 16383, 32767, 8191, 131071, 262143, 524287, 1048575, 2097151, 4194303, 2097151, 16777215, 33554431, 67108863, 134217727, 268435455]
theorem laws_FnForms.tab19 : rtab .any (opsOf Tryd.f3 19) = laws_FnForms.T19 := by kernel_rfl
theorem laws_FnForms.bits19 : waitsOk laws_FnForms.T19.2 laws_FnForms.B19 = true := by kernel_rfl
abbrev M4_0 := bm_ 29 0
abbrev M4_1 := bm_ 29 1
abbrev M4_2 := bm_ 29 3
abbrev M4_3 := bm_ 29 7
abbrev M4_4 := bm_ 29 15
abbrev M4_5 := bm_ 29 47
abbrev M4_6 := bm_ 29 63
abbrev M4_7 := bm_ 29 127
abbrev M4_8 := bm_ 29 255
abbrev M4_9 := bm_ 29 511
abbrev M4_10 := bm_ 29 1023
abbrev M4_11 := bm_ 29 2047
abbrev M4_12 := bm_ 29 4095
abbrev M4_13 := bm_ 29 8191
abbrev M4_14 := bm_ 29 16383
abbrev M4_15 := bm_ 29 32767
abbrev M4_16 := bm_ 29 65535
abbrev M4_17 := bm_ 29 131071
abbrev M4_18 := bm_ 29 262143
abbrev M4_19 := bm_ 29 524287
abbrev M4_20 := bm_ 29 1048575
abbrev M4_21 := bm_ 29 2097151
abbrev M4_22 := bm_ 29 4194303
abbrev M4_23 := bm_ 29 12582911
abbrev M4_24 := bm_ 29 16777215
abbrev M4_25 := bm_ 29 33554431
abbrev M4_26 := bm_ 29 67108863
abbrev M4_27 := bm_ 29 134217727
abbrev M4_28 := bm_ 29 268435455
abbrev M4_29 := bm_ 29 536870911
abbrev M4_30 := bm_ 29 81919
abbrev M4_31 := bm_ 29 98303
abbrev M4_32 := bm_ 29 31
theorem P4_1 {α : Type} (l : List α) (i : Nat) (a : α) : l.toArray.setIfInBounds i a = (l.set i a).toArray := List.setIfInBounds_toArray l i a
theorem P4_2 {α : Type} (x : α) (l : List α) (a : α) : (x :: l).set 0 a = a :: l := List.set_cons_zero
theorem P4_3 {α : Type} (x : α) (l : List α) (n : Nat) (a : α) : (x :: l).set (n + 1) a = x :: l.set n a := List.set_cons_succ
abbrev c284_ (i0 : Int) (i1 : Int) (A2 : Option Addr) (n2 c2 : Nat) (i3 : Int) (i4 : Int) (A5 : Option Addr) (n5 c5 : Nat) (i6 : Int) (i7 : Int) : Obj := .cells #[.int .i64 i0, .int .i64 i1, .slice A2 n2 c2, .int .i64 i3, .int .i64 i4, .slice A5 n5 c5, .int .i64 i6, .int .i64 i7] 28 (0, 0)
abbrev c285_ (i0 : Int) (i1 : Int) (i2 : Int) (i3 : Int) (i4 : Int) (i5 : Int) (i6 : Int) (i7 : Int) : Obj := .cells #[.int .i64 i0, .int .i64 i1, .int .i64 i2, .int .i64 i3, .int .i64 i4, .int .i64 i5, .int .i64 i6, .int .i64 i7] 44 (0, 0)
theorem e286_ {w : World} {g : Nat} {t : TypeId} {i0 : Int} {i1 : Int} {A2 : Option Addr} {n2 c2 : Nat} {i3 : Int} {i4 : Int} {A5 : Option Addr} {n5 c5 : Nat} {i6 : Int} {i7 : Int} (h : w.heap[g]? = some (.cells #[.int .i64 i0, .int .i64 i1, .slice A2 n2 c2, .int .i64 i3, .int .i64 i4, .slice A5 n5 c5, .int .i64 i6, .int .i64 i7] t (0, 0))) : w.cell? ⟨g, 0, none⟩ = some (.int .i64 i0) ∧ w.cell? ⟨g, 1, none⟩ = some (.int .i64 i1) ∧ w.cell? ⟨g, 2, none⟩ = some (.slice A2 n2 c2) ∧ w.cell? ⟨g, 3, none⟩ = some (.int .i64 i3) ∧ w.cell? ⟨g, 4, none⟩ = some (.int .i64 i4) ∧ w.cell? ⟨g, 5, none⟩ = some (.slice A5 n5 c5) ∧ w.cell? ⟨g, 6, none⟩ = some (.int .i64 i6) ∧ w.cell? ⟨g, 7, none⟩ = some (.int .i64 i7) := ⟨(blk_cell h 0).trans rfl, (blk_cell h 1).trans rfl, (blk_cell h 2).trans rfl, (blk_cell h 3).trans rfl, (blk_cell h 4).trans rfl, (blk_cell h 5).trans rfl, (blk_cell h 6).trans rfl, (blk_cell h 7).trans rfl⟩
theorem e287_ {w : World} {g : Nat} {t : TypeId} {i0 : Int} {i1 : Int} {i2 : Int} {i3 : Int} {i4 : Int} {i5 : Int} {i6 : Int} {i7 : Int} (h : w.heap[g]? = some (.cells #[.int .i64 i0, .int .i64 i1, .int .i64 i2, .int .i64 i3, .int .i64 i4, .int .i64 i5, .int .i64 i6, .int .i64 i7] t (0, 0))) : w.cell? ⟨g, 0, none⟩ = some (.int .i64 i0) ∧ w.cell? ⟨g, 1, none⟩ = some (.int .i64 i1) ∧ w.cell? ⟨g, 2, none⟩ = some (.int .i64 i2) ∧ w.cell? ⟨g, 3, none⟩ = some (.int .i64 i3) ∧ w.cell? ⟨g, 4, none⟩ = some (.int .i64 i4) ∧ w.cell? ⟨g, 5, none⟩ = some (.int .i64 i5) ∧ w.cell? ⟨g, 6, none⟩ = some (.int .i64 i6) ∧ w.cell? ⟨g, 7, none⟩ = some (.int .i64 i7) := ⟨(blk_cell h 0).trans rfl, (blk_cell h 1).trans rfl, (blk_cell h 2).trans rfl, (blk_cell h 3).trans rfl, (blk_cell h 4).trans rfl, (blk_cell h 5).trans rfl, (blk_cell h 6).trans rfl, (blk_cell h 7).trans rfl⟩
theorem z288_ {w : World} {g : Nat} {t : TypeId} {cs : Array Value} (h : w.heap[g]? = some (.cells cs t (0, 0))) : w.frozen? ⟨g, 0, none⟩ = false ∧ w.frozen? ⟨g, 1, none⟩ = false ∧ w.frozen? ⟨g, 2, none⟩ = false ∧ w.frozen? ⟨g, 3, none⟩ = false ∧ w.frozen? ⟨g, 4, none⟩ = false ∧ w.frozen? ⟨g, 5, none⟩ = false ∧ w.frozen? ⟨g, 6, none⟩ = false ∧ w.frozen? ⟨g, 7, none⟩ = false := ⟨blk_frozen h 0, blk_frozen h 1, blk_frozen h 2, blk_frozen h 3, blk_frozen h 4, blk_frozen h 5, blk_frozen h 6, blk_frozen h 7⟩
theorem y302_ {P : Prop} (h : P := by (with_reducible repeat (first | apply Kd.R_alloc | apply Kd.R_drewN | apply Kd.R_drew)); exact (Kd.R_mono (Kd.R_far (p := ⟨gb694, 7, none⟩) (Kd.R_far (p := ⟨gb694, 6, none⟩) (Kd.R_far (p := ⟨gb694, 5, none⟩) (Kd.R_far (p := ⟨gb694, 4, none⟩) (Kd.R_far (p := ⟨gb694, 3, none⟩) (Kd.R_far (p := ⟨gb694, 2, none⟩) (Kd.R_far (p := ⟨gb694, 1, none⟩) (Kd.R_far (p := ⟨gb694, 0, none⟩) (Kd.R_types HO671.1 BK694.1 (by decide)) (fun _ hk => hk.2) (.int .i64 t681)) (fun _ hk => hk.2) (.int .i64 t682)) (fun _ hk => hk.2) (.slice Ao18 t683.length co18)) (fun _ hk => hk.2) (.int .i64 t686)) (fun _ hk => hk.2) (.int .i64 t687)) (fun _ hk => hk.2) (.slice Ao19 t688.length co19)) (fun _ hk => hk.2) (.int .i64 t691)) (fun _ hk => hk.2) (.int .i64 t692)) (fun _ h_ => h_.1))) : P := h
theorem y303_ {P : Prop} (h : P := by (with_reducible repeat (first | apply Kd.R_alloc | apply Kd.R_drewN | apply Kd.R_drew)); exact (Kd.R_mono (Kd.R_far (p := ⟨gb694, 7, none⟩) (Kd.R_far (p := ⟨gb694, 6, none⟩) (Kd.R_far (p := ⟨gb694, 5, none⟩) (Kd.R_far (p := ⟨gb694, 4, none⟩) (Kd.R_far (p := ⟨gb694, 3, none⟩) (Kd.R_far (p := ⟨gb694, 2, none⟩) (Kd.R_far (p := ⟨gb694, 1, none⟩) (Kd.R_far (p := ⟨gb694, 0, none⟩) (Kd.R_types HO676.1 BK694.1 (by decide)) (fun _ hk => hk.2) (.int .i64 t681)) (fun _ hk => hk.2) (.int .i64 t682)) (fun _ hk => hk.2) (.slice Ao18 t683.length co18)) (fun _ hk => hk.2) (.int .i64 t686)) (fun _ hk => hk.2) (.int .i64 t687)) (fun _ hk => hk.2) (.slice Ao19 t688.length co19)) (fun _ hk => hk.2) (.int .i64 t691)) (fun _ hk => hk.2) (.int .i64 t692)) (fun _ h_ => h_.1))) : P := h
theorem y309_ {P : Prop} (h : P := by (with_reducible repeat (first | apply Kd.R_alloc | apply Kd.R_drewN | apply Kd.R_drew)); exact (Kd.R_mono (Kd.R_far (p := ⟨gb694, 7, none⟩) (Kd.R_far (p := ⟨gb694, 6, none⟩) (Kd.R_far (p := ⟨gb694, 5, none⟩) (Kd.R_far (p := ⟨gb694, 4, none⟩) (Kd.R_far (p := ⟨gb694, 3, none⟩) (Kd.R_far (p := ⟨gb694, 2, none⟩) (Kd.R_far (p := ⟨gb694, 1, none⟩) (Kd.R_far (p := ⟨gb694, 0, none⟩) (Kd.R_types HO685.1 BK694.1 (by decide)) (fun _ hk => hk.2) (.int .i64 t681)) (fun _ hk => hk.2) (.int .i64 t682)) (fun _ hk => hk.2) (.slice Ao18 t683.length co18)) (fun _ hk => hk.2) (.int .i64 t686)) (fun _ hk => hk.2) (.int .i64 t687)) (fun _ hk => hk.2) (.slice Ao19 t688.length co19)) (fun _ hk => hk.2) (.int .i64 t691)) (fun _ hk => hk.2) (.int .i64 t692)) (fun _ h_ => h_.1))) : P := h
theorem y310_ {P : Prop} (h : P := by (with_reducible repeat (first | apply Kd.R_alloc | apply Kd.R_drewN | apply Kd.R_drew)); exact (Kd.R_mono (Kd.R_far (p := ⟨gb694, 7, none⟩) (Kd.R_far (p := ⟨gb694, 6, none⟩) (Kd.R_far (p := ⟨gb694, 5, none⟩) (Kd.R_far (p := ⟨gb694, 4, none⟩) (Kd.R_far (p := ⟨gb694, 3, none⟩) (Kd.R_far (p := ⟨gb694, 2, none⟩) (Kd.R_far (p := ⟨gb694, 1, none⟩) (Kd.R_far (p := ⟨gb694, 0, none⟩) (Kd.R_types HO690.1 BK694.1 (by decide)) (fun _ hk => hk.2) (.int .i64 t681)) (fun _ hk => hk.2) (.int .i64 t682)) (fun _ hk => hk.2) (.slice Ao18 t683.length co18)) (fun _ hk => hk.2) (.int .i64 t686)) (fun _ hk => hk.2) (.int .i64 t687)) (fun _ hk => hk.2) (.slice Ao19 t688.length co19)) (fun _ hk => hk.2) (.int .i64 t691)) (fun _ hk => hk.2) (.int .i64 t692)) (fun _ h_ => h_.1))) : P := h
theorem y312_ {P : Prop} (h : P := by (with_reducible repeat (first | apply Kd.R_alloc | apply Kd.R_drewN | apply Kd.R_drew)); exact (Kd.R_mono (Kd.R_far (p := ⟨gb679, 7, none⟩) (Kd.R_far (p := ⟨gb679, 6, none⟩) (Kd.R_far (p := ⟨gb679, 5, none⟩) (Kd.R_far (p := ⟨gb679, 4, none⟩) (Kd.R_far (p := ⟨gb679, 3, none⟩) (Kd.R_far (p := ⟨gb679, 2, none⟩) (Kd.R_far (p := ⟨gb679, 1, none⟩) (Kd.R_far (p := ⟨gb679, 0, none⟩) (Kd.R_types HO671.1 BK679.1 (by decide)) (fun _ hk => hk.2) (.int .i64 t667)) (fun _ hk => hk.2) (.int .i64 t668)) (fun _ hk => hk.2) (.slice Ao11 t669.length co11)) (fun _ hk => hk.2) (.int .i64 t672)) (fun _ hk => hk.2) (.int .i64 t673)) (fun _ hk => hk.2) (.slice Ao12 t674.length co12)) (fun _ hk => hk.2) (.int .i64 t677)) (fun _ hk => hk.2) (.int .i64 t678)) (fun _ h_ => h_.1))) : P := h
theorem y313_ {P : Prop} (h : P := by (with_reducible repeat (first | apply Kd.R_alloc | apply Kd.R_drewN | apply Kd.R_drew)); exact (Kd.R_mono (Kd.R_far (p := ⟨gb679, 7, none⟩) (Kd.R_far (p := ⟨gb679, 6, none⟩) (Kd.R_far (p := ⟨gb679, 5, none⟩) (Kd.R_far (p := ⟨gb679, 4, none⟩) (Kd.R_far (p := ⟨gb679, 3, none⟩) (Kd.R_far (p := ⟨gb679, 2, none⟩) (Kd.R_far (p := ⟨gb679, 1, none⟩) (Kd.R_far (p := ⟨gb679, 0, none⟩) (Kd.R_types HO676.1 BK679.1 (by decide)) (fun _ hk => hk.2) (.int .i64 t667)) (fun _ hk => hk.2) (.int .i64 t668)) (fun _ hk => hk.2) (.slice Ao11 t669.length co11)) (fun _ hk => hk.2) (.int .i64 t672)) (fun _ hk => hk.2) (.int .i64 t673)) (fun _ hk => hk.2) (.slice Ao12 t674.length co12)) (fun _ hk => hk.2) (.int .i64 t677)) (fun _ hk => hk.2) (.int .i64 t678)) (fun _ h_ => h_.1))) : P := h
theorem y314_ {P : Prop} (h : P := by (with_reducible repeat (first | apply Kd.R_alloc | apply Kd.R_drewN | apply Kd.R_drew)); exact (Kd.R_mono (Kd.R_far (p := ⟨gb711, 7, none⟩) (Kd.R_far (p := ⟨gb711, 6, none⟩) (Kd.R_far (p := ⟨gb711, 5, none⟩) (Kd.R_far (p := ⟨gb711, 4, none⟩) (Kd.R_far (p := ⟨gb711, 3, none⟩) (Kd.R_far (p := ⟨gb711, 2, none⟩) (Kd.R_far (p := ⟨gb711, 1, none⟩) (Kd.R_far (p := ⟨gb711, 0, none⟩) (Kd.R_types HO702.1 BK711.1 (by decide)) (fun _ hk => hk.2) (.int .i64 t698)) (fun _ hk => hk.2) (.int .i64 t699)) (fun _ hk => hk.2) (.slice Ao46 t700.length co46)) (fun _ hk => hk.2) (.int .i64 t703)) (fun _ hk => hk.2) (.int .i64 t704)) (fun _ hk => hk.2) (.slice Ao47 t705.length co47)) (fun _ hk => hk.2) (.int .i64 t708)) (fun _ hk => hk.2) (.int .i64 t709)) (fun _ h_ => h_.1))) : P := h
theorem y315_ {P : Prop} (h : P := by (with_reducible repeat (first | apply Kd.R_alloc | apply Kd.R_drewN | apply Kd.R_drew)); exact (Kd.R_mono (Kd.R_far (p := ⟨gb711, 7, none⟩) (Kd.R_far (p := ⟨gb711, 6, none⟩) (Kd.R_far (p := ⟨gb711, 5, none⟩) (Kd.R_far (p := ⟨gb711, 4, none⟩) (Kd.R_far (p := ⟨gb711, 3, none⟩) (Kd.R_far (p := ⟨gb711, 2, none⟩) (Kd.R_far (p := ⟨gb711, 1, none⟩) (Kd.R_far (p := ⟨gb711, 0, none⟩) (Kd.R_types HO707.1 BK711.1 (by decide)) (fun _ hk => hk.2) (.int .i64 t698)) (fun _ hk => hk.2) (.int .i64 t699)) (fun _ hk => hk.2) (.slice Ao46 t700.length co46)) (fun _ hk => hk.2) (.int .i64 t703)) (fun _ hk => hk.2) (.int .i64 t704)) (fun _ hk => hk.2) (.slice Ao47 t705.length co47)) (fun _ hk => hk.2) (.int .i64 t708)) (fun _ hk => hk.2) (.int .i64 t709)) (fun _ h_ => h_.1))) : P := h
theorem y316_ {P : Prop} (h : P := by rw [hg]; exact Nat.ne_of_lt (blk_lt (bd_ BK679.1))) : P := h
theorem y317_ {P : Prop} (h : P := by rw [hg]; exact Nat.ne_of_gt (blk_lt (bd_ BK679.1))) : P := h
theorem y320_ {P : Prop} (h : P := by rw [hg]; exact Nat.ne_of_lt (blk_lt (bd_ BK694.1))) : P := h
theorem y321_ {P : Prop} (h : P := by rw [hg]; exact Nat.ne_of_gt (blk_lt (bd_ BK694.1))) : P := h
theorem y324_ {P : Prop} (h : P := by rw [hg]; exact Nat.ne_of_lt (blk_lt (bd_ BK711.1))) : P := h
theorem y325_ {P : Prop} (h : P := by rw [hg]; exact Nat.ne_of_gt (blk_lt (bd_ BK711.1))) : P := h
theorem y327_ {P : Prop} (h : P := by first | rfl | (simp; done) | (simp [*]; done)) : P := h
theorem y328_ {P : Prop} (h : P := by rw [hg]; exact (below_size wB_)) : P := h
theorem ne_emp (l : List UInt8) : (l != []) = !l.isEmpty := by cases l <;> rfl
theorem g_ {P : Program} {ops : Array Oper} {Q : Exit → Act → World → Prop} {rest : List Oper} {oi : Oper} {a : Act} {W : World} {as1 : Array Operand} {ts : Array TypeId} (f : FuncId) (h : wpList P ops Q (oi :: rest) a W)
    (ho : oi.op = .call { callee := .value (.func f), args := as1, argTypes := ts } := by with_reducible rfl) : wpList P ops Q (oi :: rest) a W := h
set_option maxHeartbeats 8000000 in
set_option maxRecDepth 100000 in
theorem laws_FnForms.calls (k : Nat) (A0 : Option Addr) (c0 : Nat) (l0 : List Int) (w : World) (hr0 : Kd.C (Kd.int .u8) w A0 l0.length l0) (hc0 : l0.length ≤ c0) (h : laws_FnForms.f k l0 = some true) (TB_ : (Itm.Tb true true) w) :
  Calls Tryd.prog 3 #[.slice A0 l0.length c0] w fun e w' => e = .returned (.bool true) ∧ Below w.heap.size w w' := by
 have hu28 := Tryd.underlying28
 have hu44 := Tryd.underlying44
 have HR0 := o_ hr0
 have HC0 := o_ hc0
 clear hr0 hc0
 have HB := o_ (Below.refl w.heap.size w)
 have H : ((laws_big.f l0).bind fun t666 => (if t666 = true then (some true) else ((spec_DrawReportText.f k l0).bind fun bt667 => ((impl_ReportText.f k bt667.1 bt667.2.1 bt667.2.2.1 bt667.2.2.2.1 bt667.2.2.2.2.1 bt667.2.2.2.2.2.1 bt667.2.2.2.2.2.2.1 bt667.2.2.2.2.2.2.2).bind fun t680 => ((impl_ParseReport.f k t680).bind fun bt681 => ((impl_IsReport.f k bt667.1 bt667.2.1 bt667.2.2.1 bt667.2.2.2.1 bt667.2.2.2.2.1 bt667.2.2.2.2.2.1 bt667.2.2.2.2.2.2.1 bt667.2.2.2.2.2.2.2).bind fun t695 => (if (bt681.2.2.2.2.2.2.2.2 != t695) = true then (laws_FnForms.j0 k l0 true) else (if bt681.2.2.2.2.2.2.2.2 = true then ((impl_EqualReports.f k bt681.1 bt681.2.1 bt681.2.2.1 bt681.2.2.2.1 bt681.2.2.2.2.1 bt681.2.2.2.2.2.1 bt681.2.2.2.2.2.2.1 bt681.2.2.2.2.2.2.2.1 bt667.1 bt667.2.1 bt667.2.2.1 bt667.2.2.2.1 bt667.2.2.2.2.1 bt667.2.2.2.2.2.1 bt667.2.2.2.2.2.2.1 bt667.2.2.2.2.2.2.2).bind fun t696 => (laws_FnForms.j0 k l0 (!t696))) else (laws_FnForms.j0 k l0 false))))))))) = some true := h
 clear h
 replace H := Option.bind_eq_some_iff.mp H
 obtain ⟨t666, A20, H⟩ := H
 try dsimp only at H
 have A2 := o_ A20
 clear A20
 by_cases c3 : t666 = true
 ·
  subst c3
  have H1 : (some true : Option Bool) = some true := rfl
  clear H
  have H := H1
  clear H1
  first | (obtain rfl := Option.some.inj H) | (have Hr_ := Option.some.inj H; clear H)
  go_enter Tryd.func3, Tryd.ntmps3
  go_wp2_with (first | ((with_reducible refine g_ 9 ?_); refine gl_ (some 18) Tryd.func9 #[.slice A0 l0.length c0] ?_; (with_reducible refine (laws_big.calls _ _ l0 true _ ?side1 ?side2 A2.1).mono ?_); (case side1 => exact cd_ HR0.1); (case side2 => exact HC0.1); rintro e w' ⟨rfl, ⟨nd, rfl⟩⟩; refine ⟨_, rfl, ?_⟩))
  go_ret
  exact ⟨rt_, hd_ HB.1⟩
 ·
  replace c3 := Bool.eq_false_iff.mpr c3
  subst c3
  have H1 := H
  rw [if_neg nt_] at H1
  clear H
  have H := H1
  clear H1
  replace H := Option.bind_eq_some_iff.mp H
  obtain ⟨⟨t667, t668, t669, t672, t673, t674, t677, t678⟩, A40, H⟩ := H
  try dsimp only at H
  have A4 := o_ A40
  clear A40
  replace H := Option.bind_eq_some_iff.mp H
  obtain ⟨t680, A50, H⟩ := H
  try dsimp only at H
  have A5 := o_ A50
  clear A50
  replace H := Option.bind_eq_some_iff.mp H
  obtain ⟨⟨t681, t682, t683, t686, t687, t688, t691, t692, t693⟩, A60, H⟩ := H
  try dsimp only at H
  have A6 := o_ A60
  clear A60
  have HC7 := o_ H
  clear H
  go_enter Tryd.func3, Tryd.ntmps3
  go_upto_region 5 with (first | ((with_reducible refine g_ 9 ?_); refine gl_ (some 18) Tryd.func9 #[.slice A0 l0.length c0] ?_; (with_reducible refine (laws_big.calls _ _ l0 false _ ?side1 ?side2 A2.1).mono ?_); (case side1 => exact cd_ HR0.1); (case side2 => exact HC0.1); rintro e w' ⟨rfl, ⟨nd, rfl⟩⟩; refine ⟨_, rfl, ?_⟩) | ((with_reducible refine g_ 10 ?_); refine gl_ (some 20) Tryd.func10 #[.slice A0 l0.length c0] ?_; (with_reducible refine (spec_DrawReportText.calls k _ _ l0 t667 t668 t669 t672 t673 t674 t677 t678 _ ?side1 ?side2 A4.1).mono ?_); (case side1 => exact cd_ HR0.1); (case side2 => exact HC0.1); rintro e w8 ⟨v670, v675, rfl, ho0, ho1, hb⟩; refine ⟨_, rfl, ?_⟩; have HO671 := o_ (Kd.R_lower ho0 (below_size (hd_ HB.1))); have HO676 := o_ (Kd.R_lower ho1 (below_size (hd_ HB.1))); replace HB := o_ (below_step (hd_ HB.1) hb); (try clear hb ho0 ho1)) | ((with_reducible refine gate_dst (N := 3) rfl ?_); refine bx_ 3 #[.int .i64 0, .int .i64 0, .slice none 0 0, .int .i64 0, .int .i64 0, .slice none 0 0, .int .i64 0, .int .i64 0] 28 ?_; intro gb679 hg w9 hbox hb; replace HO671 := o_ (Kd.R_below (rd_ HO671.1) hb); replace HO676 := o_ (Kd.R_below (rd_ HO676.1) hb); have BK679 := o_ (hbox); have GW679 := o_ ((by rw [hg]; exact (below_size (hd_ HB.1)) : w.heap.size ≤ gb679)); replace HB := o_ (below_step (hd_ HB.1) hb); have GE679 := GW679; clear hb hbox hg; obtain ⟨hcz10_0, hcz10_1, hcz10_2, hcz10_3, hcz10_4, hcz10_5, hcz10_6, hcz10_7⟩ := e286_ BK679.1; obtain ⟨hfz10_0, hfz10_1, hfz10_2, hfz10_3, hfz10_4, hfz10_5, hfz10_6, hfz10_7⟩ := z288_ BK679.1; obtain ⟨Ao11, co11, eo11⟩ := Kd.R_slice HO671.1; subst eo11; obtain ⟨Ao12, co12, eo12⟩ := Kd.R_slice HO676.1; subst eo12) | ((with_reducible refine g_ 12 ?_); refine gl_ (some 23) Tryd.func12 #[.agg #[.int .i64 t667, .int .i64 t668, .slice Ao11 t669.length co11, .int .i64 t672, .int .i64 t673, .slice Ao12 t674.length co12, .int .i64 t677, .int .i64 t678]] ?_; (with_reducible refine (impl_ReportText.calls k t667 t668 _ _ t669 t672 t673 _ _ t674 t677 t678 t680 _ ?side1 ?side2 ?side3 ?side4 A5.1 (TB_.below wB_)).mono ?_); (case side1 => refine (Kd.R_reads' (e := 3) (base := w.heap.size) (ok := fun k_ => some k_ ≠ (.slice Ao12 t674.length co12 : Value).ownBlock) (n := t669.length) (c := co11) ?_).2.2; exact y312_); (case side2 => exact (Kd.R_reads' HO671.1).2.1); (case side3 => refine (Kd.R_reads' (e := 3) (base := w.heap.size) (ok := fun k_ => some k_ ≠ (.slice Ao11 t669.length co11 : Value).ownBlock) (n := t674.length) (c := co12) ?_).2.2; exact y313_); (case side4 => exact (Kd.R_reads' HO676.1).2.1); rintro e w13 ⟨rfl, hb⟩; refine ⟨_, rfl, ?_⟩; replace HO671 := o_ (Kd.R_below y312_ hb); replace HO676 := o_ (Kd.R_below y313_ hb); replace BK679 := o_ (blk_below (g := gb679) (o := c284_ t667 t668 Ao11 t669.length co11 t672 t673 Ao12 t674.length co12 t677 t678) (bk_ BK679.1) hb); replace HB := o_ (below_step wB_ hb); (try clear hb)) | ((with_reducible refine g_ 11 ?_); refine gl_ (some 24) Tryd.func11 #[.string t680] ?_; (with_reducible refine (impl_ParseReport.calls k t680 t681 t682 t683 t686 t687 t688 t691 t692 t693 _ A6.1 (TB_.below wB_)).mono ?_); rintro e w14 ⟨v684, v689, rfl, ho0, ho1, hb⟩; refine ⟨_, rfl, ?_⟩; have HO685 := o_ (Kd.R_lower (Kd.R_new' (Kd.R_new' ho0 (Kd.R_lt (rd_ HO671.1))) (Kd.R_lt (rd_ HO676.1))) (below_size wB_)); have HO690 := o_ (Kd.R_lower (Kd.R_new' (Kd.R_new' ho1 (Kd.R_lt (rd_ HO671.1))) (Kd.R_lt (rd_ HO676.1))) (below_size wB_)); replace HO671 := o_ (Kd.R_mono (Kd.R_told (Kd.R_told (Kd.R_old (rd_ HO671.1) hb) (Kd.R_base ho0)) (Kd.R_base ho1)) (fun _ h_ => h_.1)); replace HO676 := o_ (Kd.R_mono (Kd.R_told (Kd.R_told (Kd.R_old (rd_ HO676.1) hb) (Kd.R_base ho0)) (Kd.R_base ho1)) (fun _ h_ => h_.1)); replace BK679 := o_ (blk_below (bd_ BK679.1) hb); replace HB := o_ (below_step wB_ hb); (try clear hb ho0 ho1)) | ((with_reducible refine gate_dst (N := 4) rfl ?_); refine bx_ 4 #[.int .i64 0, .int .i64 0, .slice none 0 0, .int .i64 0, .int .i64 0, .slice none 0 0, .int .i64 0, .int .i64 0] 28 ?_; intro gb694 hg w15 hbox hb; replace HO671 := o_ (Kd.R_below (rd_ HO671.1) hb); replace HO676 := o_ (Kd.R_below (rd_ HO676.1) hb); replace HO685 := o_ (Kd.R_below (rd_ HO685.1) hb); replace HO690 := o_ (Kd.R_below (rd_ HO690.1) hb); have BK694 := o_ (hbox); have GW694 := o_ ((by rw [hg]; exact (below_size wB_) : w.heap.size ≤ gb694)); replace HB := o_ (below_step wB_ hb); have GE694 := GW694; have NB679_694 := o_ ((y316_ : gb679 ≠ gb694)); have NB694_679 := o_ ((y317_ : gb694 ≠ gb679)); replace BK679 := o_ (blk_below (bd_ BK679.1) hb); clear hb hbox hg; have hnb16 := NB694_679.1; have hnc16 := NB679_694.1; obtain ⟨hcz17_0, hcz17_1, hcz17_2, hcz17_3, hcz17_4, hcz17_5, hcz17_6, hcz17_7⟩ := e286_ BK694.1; obtain ⟨hfz17_0, hfz17_1, hfz17_2, hfz17_3, hfz17_4, hfz17_5, hfz17_6, hfz17_7⟩ := z288_ BK694.1; obtain ⟨Ao18, co18, eo18⟩ := Kd.R_slice HO685.1; subst eo18; obtain ⟨Ao19, co19, eo19⟩ := Kd.R_slice HO690.1; subst eo19))
  (try simp only [Act.put, List.setIfInBounds_toArray, List.set_cons_zero, List.set_cons_succ])
  go_cut [39] (fun v39 wc => ∃ (kq : Nat) (x39_6 : Bool), v39 = .bool x39_6 ∧ Aside0 (laws_FnForms.j0 kq l0 x39_6 = some true) ∧ Aside0 (kq ≤ k) ∧ Aside0 (Kd.R (Kd.int .i64) 3 wc w.heap.size (fun k_ => some k_ ≠ ((.slice Ao12 t674.length co12) : Value).ownBlock ∧ some k_ ≠ ((.slice Ao18 t683.length co18) : Value).ownBlock ∧ some k_ ≠ ((.slice Ao19 t688.length co19) : Value).ownBlock) (.slice Ao11 t669.length co11) t669) ∧ Aside0 (Kd.R (Kd.int .i64) 3 wc w.heap.size (fun k_ => some k_ ≠ ((.slice Ao11 t669.length co11) : Value).ownBlock ∧ some k_ ≠ ((.slice Ao18 t683.length co18) : Value).ownBlock ∧ some k_ ≠ ((.slice Ao19 t688.length co19) : Value).ownBlock) (.slice Ao12 t674.length co12) t674) ∧ Aside0 (Kd.R (Kd.int .i64) 3 wc w.heap.size (fun k_ => some k_ ≠ ((.slice Ao11 t669.length co11) : Value).ownBlock ∧ some k_ ≠ ((.slice Ao12 t674.length co12) : Value).ownBlock ∧ some k_ ≠ ((.slice Ao19 t688.length co19) : Value).ownBlock) (.slice Ao18 t683.length co18) t683) ∧ Aside0 (Kd.R (Kd.int .i64) 3 wc w.heap.size (fun k_ => some k_ ≠ ((.slice Ao11 t669.length co11) : Value).ownBlock ∧ some k_ ≠ ((.slice Ao12 t674.length co12) : Value).ownBlock ∧ some k_ ≠ ((.slice Ao18 t683.length co18) : Value).ownBlock) (.slice Ao19 t688.length co19) t688) ∧ Aside0 (wc.heap[gb679]? = some (.cells #[.int .i64 t667, .int .i64 t668, (.slice Ao11 t669.length co11), .int .i64 t672, .int .i64 t673, (.slice Ao12 t674.length co12), .int .i64 t677, .int .i64 t678] 28 (0, 0))) ∧ Aside0 (wc.heap[gb694]? = some (.cells #[.int .i64 t681, .int .i64 t682, (.slice Ao18 t683.length co18), .int .i64 t686, .int .i64 t687, (.slice Ao19 t688.length co19), .int .i64 t691, .int .i64 t692] 28 (0, 0))) ∧ Aside0 (Below w.heap.size w wc))
  case first =>
   have H := HC7.1
   clear HC7
   replace H := Option.bind_eq_some_iff.mp H
   obtain ⟨t695, A200, H⟩ := H
   try dsimp only at H
   have A20 := o_ A200
   clear A200
   by_cases c21 : (t693 != t695) = true
   ·
    rw [if_pos c21] at H
    have c21b0 : (t693 != t695) = true := c21
    (try (have c21b1 : decide (t693 = t695) = false := by simpa using c21))
    (try (have c21b2 : (t693 == t695) = false := by simpa using c21))
    (try (have c21b3 : ¬ (t693 = t695) := by simpa using c21))
    clear c21
    (first | rw [c21b0] | (simp only [i64_w, i32_w]; rw [c21b0]) | skip)
    have H' := o_ H
    clear H
    have hnb22 := NB679_694.1
    have hnc22 := NB694_679.1
    obtain ⟨hcz23_0, hcz23_1, hcz23_2, hcz23_3, hcz23_4, hcz23_5, hcz23_6, hcz23_7⟩ := e286_ BK679.1
    obtain ⟨hfz23_0, hfz23_1, hfz23_2, hfz23_3, hfz23_4, hfz23_5, hfz23_6, hfz23_7⟩ := z288_ BK679.1
    go_wp2_with (first | ((with_reducible refine g_ 13 ?_); refine gl_ (some 29) Tryd.func13 #[.agg #[.int .i64 t667, .int .i64 t668, .slice Ao11 t669.length co11, .int .i64 t672, .int .i64 t673, .slice Ao12 t674.length co12, .int .i64 t677, .int .i64 t678]] ?_; (with_reducible refine (impl_IsReport.calls k t667 t668 _ _ t669 t672 t673 _ _ t674 t677 t678 t695 _ ?side1 ?side2 ?side3 ?side4 A20.1).mono ?_); (case side1 => refine (Kd.R_reads' (e := 3) (base := w.heap.size) (ok := fun k_ => ((some k_ ≠ (.slice Ao12 t674.length co12 : Value).ownBlock ∧ some k_ ≠ (.slice Ao18 t683.length co18 : Value).ownBlock) ∧ some k_ ≠ (.slice Ao19 t688.length co19 : Value).ownBlock)) (n := t669.length) (c := co11) ?_).2.2; exact y302_); (case side2 => exact (Kd.R_reads' HO671.1).2.1); (case side3 => refine (Kd.R_reads' (e := 3) (base := w.heap.size) (ok := fun k_ => ((some k_ ≠ (.slice Ao11 t669.length co11 : Value).ownBlock ∧ some k_ ≠ (.slice Ao18 t683.length co18 : Value).ownBlock) ∧ some k_ ≠ (.slice Ao19 t688.length co19 : Value).ownBlock)) (n := t674.length) (c := co12) ?_).2.2; exact y303_); (case side4 => exact (Kd.R_reads' HO676.1).2.1); rintro e w24 ⟨rfl, hb⟩; refine ⟨_, rfl, ?_⟩; replace HO671 := o_ (Kd.R_below y302_ hb); replace HO676 := o_ (Kd.R_below y303_ hb); replace HO685 := o_ (Kd.R_below y309_ hb); replace HO690 := o_ (Kd.R_below y310_ hb); replace BK679 := o_ (blk_below (g := gb679) (o := c284_ t667 t668 Ao11 t669.length co11 t672 t673 Ao12 t674.length co12 t677 t678) (bk_ BK679.1) hb); replace BK694 := o_ (blk_below (g := gb694) (o := c284_ t681 t682 Ao18 t683.length co18 t686 t687 Ao19 t688.length co19 t691 t692) (bk_ BK694.1) hb); replace HB := o_ (below_step wB_ hb); (try clear hb)))
    go_meet
    case rel => exact ⟨_, (true), y327_, H', ⟨by first | omega | exact Nat.le_refl _⟩, ⟨by (with_reducible repeat (first | apply Kd.R_alloc | apply Kd.R_drewN | apply Kd.R_drew)); exact Kd.R_mono HO671.1 (fun _ hk => ⟨hk.1.1, ⟨hk.1.2, hk.2⟩⟩)⟩, ⟨by (with_reducible repeat (first | apply Kd.R_alloc | apply Kd.R_drewN | apply Kd.R_drew)); exact Kd.R_mono HO676.1 (fun _ hk => ⟨hk.1.1, ⟨hk.1.2, hk.2⟩⟩)⟩, ⟨by (with_reducible repeat (first | apply Kd.R_alloc | apply Kd.R_drewN | apply Kd.R_drew)); exact Kd.R_mono HO685.1 (fun _ hk => ⟨hk.1.2, ⟨hk.2, hk.1.1⟩⟩)⟩, ⟨by (with_reducible repeat (first | apply Kd.R_alloc | apply Kd.R_drewN | apply Kd.R_drew)); exact Kd.R_mono HO690.1 (fun _ hk => ⟨hk.1.2, ⟨hk.2, hk.1.1⟩⟩)⟩, ⟨bd_ BK679.1⟩, ⟨bd_ BK694.1⟩, ⟨wB_⟩⟩
   ·
    rw [if_neg c21] at H
    have c21b0 : (t693 != t695) = false := by simpa using c21
    (try (have c21b1 : decide (t693 = t695) = true := by simpa using c21))
    (try (have c21b2 : (t693 == t695) = true := by simpa using c21))
    clear c21
    (first | rw [c21b0] | (simp only [i64_w, i32_w]; rw [c21b0]) | skip)
    by_cases c25 : t693 = true
    ·
     subst c25
     have H1 := H
     rw [if_pos rfl] at H1
     clear H
     have H := H1
     clear H1
     replace H := Option.bind_eq_some_iff.mp H
     obtain ⟨t696, A260, H⟩ := H
     try dsimp only at H
     have A26 := o_ A260
     clear A260
     have H' := o_ H
     clear H
     have hnb27 := NB679_694.1
     have hnc27 := NB694_679.1
     obtain ⟨hcz28_0, hcz28_1, hcz28_2, hcz28_3, hcz28_4, hcz28_5, hcz28_6, hcz28_7⟩ := e286_ BK679.1
     obtain ⟨hfz28_0, hfz28_1, hfz28_2, hfz28_3, hfz28_4, hfz28_5, hfz28_6, hfz28_7⟩ := z288_ BK679.1
     go_wp2_with (first | ((with_reducible refine g_ 13 ?_); refine gl_ (some 29) Tryd.func13 #[.agg #[.int .i64 t667, .int .i64 t668, .slice Ao11 t669.length co11, .int .i64 t672, .int .i64 t673, .slice Ao12 t674.length co12, .int .i64 t677, .int .i64 t678]] ?_; (with_reducible refine (impl_IsReport.calls k t667 t668 _ _ t669 t672 t673 _ _ t674 t677 t678 t695 _ ?side1 ?side2 ?side3 ?side4 A20.1).mono ?_); (case side1 => refine (Kd.R_reads' (e := 3) (base := w.heap.size) (ok := fun k_ => ((some k_ ≠ (.slice Ao12 t674.length co12 : Value).ownBlock ∧ some k_ ≠ (.slice Ao18 t683.length co18 : Value).ownBlock) ∧ some k_ ≠ (.slice Ao19 t688.length co19 : Value).ownBlock)) (n := t669.length) (c := co11) ?_).2.2; exact y302_); (case side2 => exact (Kd.R_reads' HO671.1).2.1); (case side3 => refine (Kd.R_reads' (e := 3) (base := w.heap.size) (ok := fun k_ => ((some k_ ≠ (.slice Ao11 t669.length co11 : Value).ownBlock ∧ some k_ ≠ (.slice Ao18 t683.length co18 : Value).ownBlock) ∧ some k_ ≠ (.slice Ao19 t688.length co19 : Value).ownBlock)) (n := t674.length) (c := co12) ?_).2.2; exact y303_); (case side4 => exact (Kd.R_reads' HO676.1).2.1); rintro e w29 ⟨rfl, hb⟩; refine ⟨_, rfl, ?_⟩; replace HO671 := o_ (Kd.R_below y302_ hb); replace HO676 := o_ (Kd.R_below y303_ hb); replace HO685 := o_ (Kd.R_below y309_ hb); replace HO690 := o_ (Kd.R_below y310_ hb); replace BK679 := o_ (blk_below (g := gb679) (o := c284_ t667 t668 Ao11 t669.length co11 t672 t673 Ao12 t674.length co12 t677 t678) (bk_ BK679.1) hb); replace BK694 := o_ (blk_below (g := gb694) (o := c284_ t681 t682 Ao18 t683.length co18 t686 t687 Ao19 t688.length co19 t691 t692) (bk_ BK694.1) hb); replace HB := o_ (below_step wB_ hb); (try clear hb); obtain ⟨hcz30_0, hcz30_1, hcz30_2, hcz30_3, hcz30_4, hcz30_5, hcz30_6, hcz30_7⟩ := e286_ BK694.1; obtain ⟨hfz30_0, hfz30_1, hfz30_2, hfz30_3, hfz30_4, hfz30_5, hfz30_6, hfz30_7⟩ := z288_ BK694.1; obtain ⟨hcz31_0, hcz31_1, hcz31_2, hcz31_3, hcz31_4, hcz31_5, hcz31_6, hcz31_7⟩ := e286_ BK679.1; obtain ⟨hfz31_0, hfz31_1, hfz31_2, hfz31_3, hfz31_4, hfz31_5, hfz31_6, hfz31_7⟩ := z288_ BK679.1) | (go_at_call 14; (with_reducible refine (impl_EqualReports.calls k t681 t682 _ _ t683 t686 t687 _ _ t688 t691 t692 t667 t668 _ _ t669 t672 t673 _ _ t674 t677 t678 t696 _ ?side1 ?side2 ?side3 ?side4 ?side5 ?side6 ?side7 ?side8 A26.1).mono ?_); (case side1 => exact cd_ (Kd.R_reads' HO685.1).2.2); (case side2 => exact (Kd.R_reads' HO685.1).2.1); (case side3 => exact cd_ (Kd.R_reads' HO690.1).2.2); (case side4 => exact (Kd.R_reads' HO690.1).2.1); (case side5 => exact cd_ (Kd.R_reads' HO671.1).2.2); (case side6 => exact (Kd.R_reads' HO671.1).2.1); (case side7 => exact cd_ (Kd.R_reads' HO676.1).2.2); (case side8 => exact (Kd.R_reads' HO676.1).2.1); rintro e w32 ⟨rfl, hb⟩; replace HO671 := o_ (Kd.R_below (rd_ HO671.1) hb); replace HO676 := o_ (Kd.R_below (rd_ HO676.1) hb); replace HO685 := o_ (Kd.R_below (rd_ HO685.1) hb); replace HO690 := o_ (Kd.R_below (rd_ HO690.1) hb); replace BK679 := o_ (blk_below (bd_ BK679.1) hb); replace BK694 := o_ (blk_below (bd_ BK694.1) hb); replace HB := o_ (below_step wB_ hb); (try clear hb)))
     go_meet
     case rel => exact ⟨_, (!t696), y327_, H', ⟨by first | omega | exact Nat.le_refl _⟩, ⟨by (with_reducible repeat (first | apply Kd.R_alloc | apply Kd.R_drewN | apply Kd.R_drew)); exact Kd.R_mono HO671.1 (fun _ hk => ⟨hk.1.1, ⟨hk.1.2, hk.2⟩⟩)⟩, ⟨by (with_reducible repeat (first | apply Kd.R_alloc | apply Kd.R_drewN | apply Kd.R_drew)); exact Kd.R_mono HO676.1 (fun _ hk => ⟨hk.1.1, ⟨hk.1.2, hk.2⟩⟩)⟩, ⟨by (with_reducible repeat (first | apply Kd.R_alloc | apply Kd.R_drewN | apply Kd.R_drew)); exact Kd.R_mono HO685.1 (fun _ hk => ⟨hk.1.2, ⟨hk.2, hk.1.1⟩⟩)⟩, ⟨by (with_reducible repeat (first | apply Kd.R_alloc | apply Kd.R_drewN | apply Kd.R_drew)); exact Kd.R_mono HO690.1 (fun _ hk => ⟨hk.1.2, ⟨hk.2, hk.1.1⟩⟩)⟩, ⟨bd_ BK679.1⟩, ⟨bd_ BK694.1⟩, ⟨wB_⟩⟩
    ·
     replace c25 := Bool.eq_false_iff.mpr c25
     subst c25
     have H1 := H
     rw [if_neg nt_] at H1
     clear H
     have H := H1
     clear H1
     have H' := o_ H
     clear H
     have hnb33 := NB679_694.1
     have hnc33 := NB694_679.1
     obtain ⟨hcz34_0, hcz34_1, hcz34_2, hcz34_3, hcz34_4, hcz34_5, hcz34_6, hcz34_7⟩ := e286_ BK679.1
     obtain ⟨hfz34_0, hfz34_1, hfz34_2, hfz34_3, hfz34_4, hfz34_5, hfz34_6, hfz34_7⟩ := z288_ BK679.1
     go_wp2_with (first | ((with_reducible refine g_ 13 ?_); refine gl_ (some 29) Tryd.func13 #[.agg #[.int .i64 t667, .int .i64 t668, .slice Ao11 t669.length co11, .int .i64 t672, .int .i64 t673, .slice Ao12 t674.length co12, .int .i64 t677, .int .i64 t678]] ?_; (with_reducible refine (impl_IsReport.calls k t667 t668 _ _ t669 t672 t673 _ _ t674 t677 t678 t695 _ ?side1 ?side2 ?side3 ?side4 A20.1).mono ?_); (case side1 => refine (Kd.R_reads' (e := 3) (base := w.heap.size) (ok := fun k_ => ((some k_ ≠ (.slice Ao12 t674.length co12 : Value).ownBlock ∧ some k_ ≠ (.slice Ao18 t683.length co18 : Value).ownBlock) ∧ some k_ ≠ (.slice Ao19 t688.length co19 : Value).ownBlock)) (n := t669.length) (c := co11) ?_).2.2; exact y302_); (case side2 => exact (Kd.R_reads' HO671.1).2.1); (case side3 => refine (Kd.R_reads' (e := 3) (base := w.heap.size) (ok := fun k_ => ((some k_ ≠ (.slice Ao11 t669.length co11 : Value).ownBlock ∧ some k_ ≠ (.slice Ao18 t683.length co18 : Value).ownBlock) ∧ some k_ ≠ (.slice Ao19 t688.length co19 : Value).ownBlock)) (n := t674.length) (c := co12) ?_).2.2; exact y303_); (case side4 => exact (Kd.R_reads' HO676.1).2.1); rintro e w35 ⟨rfl, hb⟩; refine ⟨_, rfl, ?_⟩; replace HO671 := o_ (Kd.R_below y302_ hb); replace HO676 := o_ (Kd.R_below y303_ hb); replace HO685 := o_ (Kd.R_below y309_ hb); replace HO690 := o_ (Kd.R_below y310_ hb); replace BK679 := o_ (blk_below (g := gb679) (o := c284_ t667 t668 Ao11 t669.length co11 t672 t673 Ao12 t674.length co12 t677 t678) (bk_ BK679.1) hb); replace BK694 := o_ (blk_below (g := gb694) (o := c284_ t681 t682 Ao18 t683.length co18 t686 t687 Ao19 t688.length co19 t691 t692) (bk_ BK694.1) hb); replace HB := o_ (below_step wB_ hb); (try clear hb)))
     go_meet
     case rel => exact ⟨_, (false), y327_, H', ⟨by first | omega | exact Nat.le_refl _⟩, ⟨by (with_reducible repeat (first | apply Kd.R_alloc | apply Kd.R_drewN | apply Kd.R_drew)); exact Kd.R_mono HO671.1 (fun _ hk => ⟨hk.1.1, ⟨hk.1.2, hk.2⟩⟩)⟩, ⟨by (with_reducible repeat (first | apply Kd.R_alloc | apply Kd.R_drewN | apply Kd.R_drew)); exact Kd.R_mono HO676.1 (fun _ hk => ⟨hk.1.1, ⟨hk.1.2, hk.2⟩⟩)⟩, ⟨by (with_reducible repeat (first | apply Kd.R_alloc | apply Kd.R_drewN | apply Kd.R_drew)); exact Kd.R_mono HO685.1 (fun _ hk => ⟨hk.1.2, ⟨hk.2, hk.1.1⟩⟩)⟩, ⟨by (with_reducible repeat (first | apply Kd.R_alloc | apply Kd.R_drewN | apply Kd.R_drew)); exact Kd.R_mono HO690.1 (fun _ hk => ⟨hk.1.2, ⟨hk.2, hk.1.1⟩⟩)⟩, ⟨bd_ BK679.1⟩, ⟨bd_ BK694.1⟩, ⟨wB_⟩⟩
  case rest =>
   clear HC7
   try clear c1
   try clear c2
   try clear p2
   try clear c3
   try clear c9
   try clear c10
   try clear c11
   try clear c12
   try clear c13
   try clear c16
   try clear c21
   try clear c21b0
   try clear c21b1
   try clear c21b2
   try clear c22
   try clear c25
   try clear c27
   try clear c33
   obtain ⟨kq, x39_6, rfl, HA, HJ6, HO_680002, HO_680005, HO_695002, HO_695005, BK679, BK694, HB⟩ := hcut
   cases kq with
   | zero => exact absurd HA.1 (by simp [laws_FnForms.j0])
   | succ kj6 =>
    have H := HA.1
    clear HA
    simp only [laws_FnForms.j0] at H
    by_cases c36 : x39_6 = true
    ·
     subst c36
     have H1 := H
     rw [if_pos rfl] at H1
     clear H
     have H := H1
     clear H1
     exact absurd H (by simp)
    ·
     replace c36 := Bool.eq_false_iff.mpr c36
     subst c36
     have H1 := H
     rw [if_neg nt_] at H1
     clear H
     have H := H1
     clear H1
     replace H := Option.bind_eq_some_iff.mp H
     obtain ⟨t697, A370, H⟩ := H
     try dsimp only at H
     have A37 := o_ A370
     clear A370
     replace H := Option.bind_eq_some_iff.mp H
     obtain ⟨⟨t698, t699, t700, t703, t704, t705, t708, t709, t710⟩, A380, H⟩ := H
     try dsimp only at H
     have A38 := o_ A380
     clear A380
     have HC39 := o_ H
     clear H
     go_upto_region 9 with (first | ((with_reducible refine g_ 15 ?_); refine gl_ (some 41) Tryd.func15 #[.slice A0 l0.length c0] ?_; (with_reducible refine (spec_DrawParseReport.calls kj6 _ _ l0 t697 _ ?side1 ?side2 A37.1).mono ?_); (case side1 => exact cd_ (Kd.C_below HR0.1 HB.1)); (case side2 => exact HC0.1); rintro e w40 ⟨rfl, hb⟩; refine ⟨_, rfl, ?_⟩; replace HO_680002 := o_ (Kd.R_below (rd_ HO_680002.1) hb); replace HO_680005 := o_ (Kd.R_below (rd_ HO_680005.1) hb); replace HO_695002 := o_ (Kd.R_below (rd_ HO_695002.1) hb); replace HO_695005 := o_ (Kd.R_below (rd_ HO_695005.1) hb); replace BK679 := o_ (blk_below (bd_ BK679.1) hb); replace BK694 := o_ (blk_below (bd_ BK694.1) hb); replace HB := o_ (below_step wB_ hb); (try clear hb)) | ((with_reducible refine g_ 11 ?_); refine gl_ (some 44) Tryd.func11 #[.string t697] ?_; (with_reducible refine (impl_ParseReport.calls kj6 t697 t698 t699 t700 t703 t704 t705 t708 t709 t710 _ A38.1 (TB_.below wB_)).mono ?_); rintro e w41 ⟨v701, v706, rfl, ho0, ho1, hb⟩; refine ⟨_, rfl, ?_⟩; have HO702 := o_ (Kd.R_lower (Kd.R_new' (Kd.R_new' (Kd.R_new' (Kd.R_new' ho0 (Kd.R_lt (rd_ HO_680002.1))) (Kd.R_lt (rd_ HO_680005.1))) (Kd.R_lt (rd_ HO_695002.1))) (Kd.R_lt (rd_ HO_695005.1))) (below_size wB_)); have HO707 := o_ (Kd.R_lower (Kd.R_new' (Kd.R_new' (Kd.R_new' (Kd.R_new' ho1 (Kd.R_lt (rd_ HO_680002.1))) (Kd.R_lt (rd_ HO_680005.1))) (Kd.R_lt (rd_ HO_695002.1))) (Kd.R_lt (rd_ HO_695005.1))) (below_size wB_)); replace HO_680002 := o_ (Kd.R_mono (Kd.R_told (Kd.R_told (Kd.R_old (rd_ HO_680002.1) hb) (Kd.R_base ho0)) (Kd.R_base ho1)) (fun _ h_ => h_.1)); replace HO_680005 := o_ (Kd.R_mono (Kd.R_told (Kd.R_told (Kd.R_old (rd_ HO_680005.1) hb) (Kd.R_base ho0)) (Kd.R_base ho1)) (fun _ h_ => h_.1)); replace HO_695002 := o_ (Kd.R_mono (Kd.R_told (Kd.R_told (Kd.R_old (rd_ HO_695002.1) hb) (Kd.R_base ho0)) (Kd.R_base ho1)) (fun _ h_ => h_.1)); replace HO_695005 := o_ (Kd.R_mono (Kd.R_told (Kd.R_told (Kd.R_old (rd_ HO_695005.1) hb) (Kd.R_base ho0)) (Kd.R_base ho1)) (fun _ h_ => h_.1)); replace BK679 := o_ (blk_below (bd_ BK679.1) hb); replace BK694 := o_ (blk_below (bd_ BK694.1) hb); replace HB := o_ (below_step wB_ hb); (try clear hb ho0 ho1)) | ((with_reducible refine gate_dst (N := 7) rfl ?_); refine bx_ 7 #[.int .i64 0, .int .i64 0, .slice none 0 0, .int .i64 0, .int .i64 0, .slice none 0 0, .int .i64 0, .int .i64 0] 28 ?_; intro gb711 hg w42 hbox hb; replace HO_680002 := o_ (Kd.R_below (rd_ HO_680002.1) hb); replace HO_680005 := o_ (Kd.R_below (rd_ HO_680005.1) hb); replace HO_695002 := o_ (Kd.R_below (rd_ HO_695002.1) hb); replace HO_695005 := o_ (Kd.R_below (rd_ HO_695005.1) hb); replace HO702 := o_ (Kd.R_below (rd_ HO702.1) hb); replace HO707 := o_ (Kd.R_below (rd_ HO707.1) hb); have BK711 := o_ (hbox); have GW711 := o_ ((by rw [hg]; exact (below_size wB_) : w.heap.size ≤ gb711)); replace HB := o_ (below_step wB_ hb); have GE711 := GW711; have NB679_711 := o_ ((y316_ : gb679 ≠ gb711)); have NB711_679 := o_ ((y317_ : gb711 ≠ gb679)); replace BK679 := o_ (blk_below (bd_ BK679.1) hb); have NB694_711 := o_ ((y320_ : gb694 ≠ gb711)); have NB711_694 := o_ ((y321_ : gb711 ≠ gb694)); replace BK694 := o_ (blk_below (bd_ BK694.1) hb); clear hb hbox hg; have hnb43 := NB711_679.1; have hnc43 := NB679_711.1; have hnb44 := NB711_694.1; have hnc44 := NB694_711.1; obtain ⟨hcz45_0, hcz45_1, hcz45_2, hcz45_3, hcz45_4, hcz45_5, hcz45_6, hcz45_7⟩ := e286_ BK711.1; obtain ⟨hfz45_0, hfz45_1, hfz45_2, hfz45_3, hfz45_4, hfz45_5, hfz45_6, hfz45_7⟩ := z288_ BK711.1; obtain ⟨Ao46, co46, eo46⟩ := Kd.R_slice HO702.1; subst eo46; obtain ⟨Ao47, co47, eo47⟩ := Kd.R_slice HO707.1; subst eo47))
     (try simp only [Act.put, List.setIfInBounds_toArray, List.set_cons_zero, List.set_cons_succ])
     go_cut [53] (fun v53 wc => ∃ (kq : Nat) (x53_38 : Bool), v53 = .bool x53_38 ∧ Aside0 (laws_FnForms.j1 kq l0 x53_38 = some true) ∧ Aside0 (kq ≤ kj6) ∧ Aside0 (Kd.R (Kd.int .i64) 3 wc w.heap.size (fun k_ => some k_ ≠ ((.slice Ao12 t674.length co12) : Value).ownBlock ∧ some k_ ≠ ((.slice Ao18 t683.length co18) : Value).ownBlock ∧ some k_ ≠ ((.slice Ao19 t688.length co19) : Value).ownBlock ∧ some k_ ≠ ((.slice Ao46 t700.length co46) : Value).ownBlock ∧ some k_ ≠ ((.slice Ao47 t705.length co47) : Value).ownBlock) (.slice Ao11 t669.length co11) t669) ∧ Aside0 (Kd.R (Kd.int .i64) 3 wc w.heap.size (fun k_ => some k_ ≠ ((.slice Ao11 t669.length co11) : Value).ownBlock ∧ some k_ ≠ ((.slice Ao18 t683.length co18) : Value).ownBlock ∧ some k_ ≠ ((.slice Ao19 t688.length co19) : Value).ownBlock ∧ some k_ ≠ ((.slice Ao46 t700.length co46) : Value).ownBlock ∧ some k_ ≠ ((.slice Ao47 t705.length co47) : Value).ownBlock) (.slice Ao12 t674.length co12) t674) ∧ Aside0 (Kd.R (Kd.int .i64) 3 wc w.heap.size (fun k_ => some k_ ≠ ((.slice Ao11 t669.length co11) : Value).ownBlock ∧ some k_ ≠ ((.slice Ao12 t674.length co12) : Value).ownBlock ∧ some k_ ≠ ((.slice Ao19 t688.length co19) : Value).ownBlock ∧ some k_ ≠ ((.slice Ao46 t700.length co46) : Value).ownBlock ∧ some k_ ≠ ((.slice Ao47 t705.length co47) : Value).ownBlock) (.slice Ao18 t683.length co18) t683) ∧ Aside0 (Kd.R (Kd.int .i64) 3 wc w.heap.size (fun k_ => some k_ ≠ ((.slice Ao11 t669.length co11) : Value).ownBlock ∧ some k_ ≠ ((.slice Ao12 t674.length co12) : Value).ownBlock ∧ some k_ ≠ ((.slice Ao18 t683.length co18) : Value).ownBlock ∧ some k_ ≠ ((.slice Ao46 t700.length co46) : Value).ownBlock ∧ some k_ ≠ ((.slice Ao47 t705.length co47) : Value).ownBlock) (.slice Ao19 t688.length co19) t688) ∧ Aside0 (Kd.R (Kd.int .i64) 3 wc w.heap.size (fun k_ => some k_ ≠ ((.slice Ao11 t669.length co11) : Value).ownBlock ∧ some k_ ≠ ((.slice Ao12 t674.length co12) : Value).ownBlock ∧ some k_ ≠ ((.slice Ao18 t683.length co18) : Value).ownBlock ∧ some k_ ≠ ((.slice Ao19 t688.length co19) : Value).ownBlock ∧ some k_ ≠ ((.slice Ao47 t705.length co47) : Value).ownBlock) (.slice Ao46 t700.length co46) t700) ∧ Aside0 (Kd.R (Kd.int .i64) 3 wc w.heap.size (fun k_ => some k_ ≠ ((.slice Ao11 t669.length co11) : Value).ownBlock ∧ some k_ ≠ ((.slice Ao12 t674.length co12) : Value).ownBlock ∧ some k_ ≠ ((.slice Ao18 t683.length co18) : Value).ownBlock ∧ some k_ ≠ ((.slice Ao19 t688.length co19) : Value).ownBlock ∧ some k_ ≠ ((.slice Ao46 t700.length co46) : Value).ownBlock) (.slice Ao47 t705.length co47) t705) ∧ Aside0 (wc.heap[gb679]? = some (.cells #[.int .i64 t667, .int .i64 t668, (.slice Ao11 t669.length co11), .int .i64 t672, .int .i64 t673, (.slice Ao12 t674.length co12), .int .i64 t677, .int .i64 t678] 28 (0, 0))) ∧ Aside0 (wc.heap[gb694]? = some (.cells #[.int .i64 t681, .int .i64 t682, (.slice Ao18 t683.length co18), .int .i64 t686, .int .i64 t687, (.slice Ao19 t688.length co19), .int .i64 t691, .int .i64 t692] 28 (0, 0))) ∧ Aside0 (wc.heap[gb711]? = some (.cells #[.int .i64 t698, .int .i64 t699, (.slice Ao46 t700.length co46), .int .i64 t703, .int .i64 t704, (.slice Ao47 t705.length co47), .int .i64 t708, .int .i64 t709] 28 (0, 0))) ∧ Aside0 (Below w.heap.size w wc))
     case first =>
      have H := HC39.1
      clear HC39
      by_cases c48 : t710 = true
      ·
       subst c48
       have H1 := H
       rw [if_pos rfl] at H1
       clear H
       have H := H1
       clear H1
       replace H := Option.bind_eq_some_iff.mp H
       obtain ⟨t712, A490, H⟩ := H
       try dsimp only at H
       have A49 := o_ A490
       clear A490
       have H' := o_ H
       clear H
       have hnb50 := NB711_679.1
       have hnc50 := NB679_711.1
       have hnb51 := NB711_694.1
       have hnc51 := NB694_711.1
       obtain ⟨hcz52_0, hcz52_1, hcz52_2, hcz52_3, hcz52_4, hcz52_5, hcz52_6, hcz52_7⟩ := e286_ BK711.1
       obtain ⟨hfz52_0, hfz52_1, hfz52_2, hfz52_3, hfz52_4, hfz52_5, hfz52_6, hfz52_7⟩ := z288_ BK711.1
       go_wp2_with (first | (go_at_call 12; (with_reducible refine (impl_ReportText.calls kj6 t698 t699 _ _ t700 t703 t704 _ _ t705 t708 t709 t712 _ ?side1 ?side2 ?side3 ?side4 A49.1 (TB_.below wB_)).mono ?_); (case side1 => refine (Kd.R_reads' (e := 3) (base := w.heap.size) (ok := fun k_ => ((((some k_ ≠ (.slice Ao47 t705.length co47 : Value).ownBlock ∧ some k_ ≠ (.slice Ao11 t669.length co11 : Value).ownBlock) ∧ some k_ ≠ (.slice Ao12 t674.length co12 : Value).ownBlock) ∧ some k_ ≠ (.slice Ao18 t683.length co18 : Value).ownBlock) ∧ some k_ ≠ (.slice Ao19 t688.length co19 : Value).ownBlock)) (n := t700.length) (c := co46) ?_).2.2; exact y314_); (case side2 => exact (Kd.R_reads' HO702.1).2.1); (case side3 => refine (Kd.R_reads' (e := 3) (base := w.heap.size) (ok := fun k_ => ((((some k_ ≠ (.slice Ao46 t700.length co46 : Value).ownBlock ∧ some k_ ≠ (.slice Ao11 t669.length co11 : Value).ownBlock) ∧ some k_ ≠ (.slice Ao12 t674.length co12 : Value).ownBlock) ∧ some k_ ≠ (.slice Ao18 t683.length co18 : Value).ownBlock) ∧ some k_ ≠ (.slice Ao19 t688.length co19 : Value).ownBlock)) (n := t705.length) (c := co47) ?_).2.2; exact y315_); (case side4 => exact (Kd.R_reads' HO707.1).2.1); rintro e w53 ⟨rfl, hb⟩; replace HO_680002 := o_ (Kd.R_below (by (with_reducible repeat (first | apply Kd.R_alloc | apply Kd.R_drewN | apply Kd.R_drew)); exact (Kd.R_mono (Kd.R_far (p := ⟨gb711, 7, none⟩) (Kd.R_far (p := ⟨gb711, 6, none⟩) (Kd.R_far (p := ⟨gb711, 5, none⟩) (Kd.R_far (p := ⟨gb711, 4, none⟩) (Kd.R_far (p := ⟨gb711, 3, none⟩) (Kd.R_far (p := ⟨gb711, 2, none⟩) (Kd.R_far (p := ⟨gb711, 1, none⟩) (Kd.R_far (p := ⟨gb711, 0, none⟩) (Kd.R_types HO_680002.1 BK711.1 (by decide)) (fun _ hk => hk.2) (.int .i64 t698)) (fun _ hk => hk.2) (.int .i64 t699)) (fun _ hk => hk.2) (.slice Ao46 t700.length co46)) (fun _ hk => hk.2) (.int .i64 t703)) (fun _ hk => hk.2) (.int .i64 t704)) (fun _ hk => hk.2) (.slice Ao47 t705.length co47)) (fun _ hk => hk.2) (.int .i64 t708)) (fun _ hk => hk.2) (.int .i64 t709)) (fun _ h_ => h_.1))) hb); replace HO_680005 := o_ (Kd.R_below (by (with_reducible repeat (first | apply Kd.R_alloc | apply Kd.R_drewN | apply Kd.R_drew)); exact (Kd.R_mono (Kd.R_far (p := ⟨gb711, 7, none⟩) (Kd.R_far (p := ⟨gb711, 6, none⟩) (Kd.R_far (p := ⟨gb711, 5, none⟩) (Kd.R_far (p := ⟨gb711, 4, none⟩) (Kd.R_far (p := ⟨gb711, 3, none⟩) (Kd.R_far (p := ⟨gb711, 2, none⟩) (Kd.R_far (p := ⟨gb711, 1, none⟩) (Kd.R_far (p := ⟨gb711, 0, none⟩) (Kd.R_types HO_680005.1 BK711.1 (by decide)) (fun _ hk => hk.2) (.int .i64 t698)) (fun _ hk => hk.2) (.int .i64 t699)) (fun _ hk => hk.2) (.slice Ao46 t700.length co46)) (fun _ hk => hk.2) (.int .i64 t703)) (fun _ hk => hk.2) (.int .i64 t704)) (fun _ hk => hk.2) (.slice Ao47 t705.length co47)) (fun _ hk => hk.2) (.int .i64 t708)) (fun _ hk => hk.2) (.int .i64 t709)) (fun _ h_ => h_.1))) hb); replace HO_695002 := o_ (Kd.R_below (by (with_reducible repeat (first | apply Kd.R_alloc | apply Kd.R_drewN | apply Kd.R_drew)); exact (Kd.R_mono (Kd.R_far (p := ⟨gb711, 7, none⟩) (Kd.R_far (p := ⟨gb711, 6, none⟩) (Kd.R_far (p := ⟨gb711, 5, none⟩) (Kd.R_far (p := ⟨gb711, 4, none⟩) (Kd.R_far (p := ⟨gb711, 3, none⟩) (Kd.R_far (p := ⟨gb711, 2, none⟩) (Kd.R_far (p := ⟨gb711, 1, none⟩) (Kd.R_far (p := ⟨gb711, 0, none⟩) (Kd.R_types HO_695002.1 BK711.1 (by decide)) (fun _ hk => hk.2) (.int .i64 t698)) (fun _ hk => hk.2) (.int .i64 t699)) (fun _ hk => hk.2) (.slice Ao46 t700.length co46)) (fun _ hk => hk.2) (.int .i64 t703)) (fun _ hk => hk.2) (.int .i64 t704)) (fun _ hk => hk.2) (.slice Ao47 t705.length co47)) (fun _ hk => hk.2) (.int .i64 t708)) (fun _ hk => hk.2) (.int .i64 t709)) (fun _ h_ => h_.1))) hb); replace HO_695005 := o_ (Kd.R_below (by (with_reducible repeat (first | apply Kd.R_alloc | apply Kd.R_drewN | apply Kd.R_drew)); exact (Kd.R_mono (Kd.R_far (p := ⟨gb711, 7, none⟩) (Kd.R_far (p := ⟨gb711, 6, none⟩) (Kd.R_far (p := ⟨gb711, 5, none⟩) (Kd.R_far (p := ⟨gb711, 4, none⟩) (Kd.R_far (p := ⟨gb711, 3, none⟩) (Kd.R_far (p := ⟨gb711, 2, none⟩) (Kd.R_far (p := ⟨gb711, 1, none⟩) (Kd.R_far (p := ⟨gb711, 0, none⟩) (Kd.R_types HO_695005.1 BK711.1 (by decide)) (fun _ hk => hk.2) (.int .i64 t698)) (fun _ hk => hk.2) (.int .i64 t699)) (fun _ hk => hk.2) (.slice Ao46 t700.length co46)) (fun _ hk => hk.2) (.int .i64 t703)) (fun _ hk => hk.2) (.int .i64 t704)) (fun _ hk => hk.2) (.slice Ao47 t705.length co47)) (fun _ hk => hk.2) (.int .i64 t708)) (fun _ hk => hk.2) (.int .i64 t709)) (fun _ h_ => h_.1))) hb); replace HO702 := o_ (Kd.R_below y314_ hb); replace HO707 := o_ (Kd.R_below y315_ hb); replace BK679 := o_ (blk_below (g := gb679) (o := c284_ t667 t668 Ao11 t669.length co11 t672 t673 Ao12 t674.length co12 t677 t678) (bk_ BK679.1) hb); replace BK694 := o_ (blk_below (g := gb694) (o := c284_ t681 t682 Ao18 t683.length co18 t686 t687 Ao19 t688.length co19 t691 t692) (bk_ BK694.1) hb); replace BK711 := o_ (blk_below (g := gb711) (o := c284_ t698 t699 Ao46 t700.length co46 t703 t704 Ao47 t705.length co47 t708 t709) (bk_ BK711.1) hb); replace HB := o_ (below_step wB_ hb); (try clear hb)))
       go_meet
       case rel => exact ⟨_, ((t712.toList != t697.toList)), y327_, H', ⟨by have := HJ6.1; first | omega | exact Nat.le_refl _⟩, ⟨by (with_reducible repeat (first | apply Kd.R_alloc | apply Kd.R_drewN | apply Kd.R_drew)); exact Kd.R_mono HO_680002.1 (fun _ hk => ⟨hk.1.1.1, ⟨hk.1.1.2.1, ⟨hk.1.1.2.2, ⟨hk.1.2, hk.2⟩⟩⟩⟩)⟩, ⟨by (with_reducible repeat (first | apply Kd.R_alloc | apply Kd.R_drewN | apply Kd.R_drew)); exact Kd.R_mono HO_680005.1 (fun _ hk => ⟨hk.1.1.1, ⟨hk.1.1.2.1, ⟨hk.1.1.2.2, ⟨hk.1.2, hk.2⟩⟩⟩⟩)⟩, ⟨by (with_reducible repeat (first | apply Kd.R_alloc | apply Kd.R_drewN | apply Kd.R_drew)); exact Kd.R_mono HO_695002.1 (fun _ hk => ⟨hk.1.1.1, ⟨hk.1.1.2.1, ⟨hk.1.1.2.2, ⟨hk.1.2, hk.2⟩⟩⟩⟩)⟩, ⟨by (with_reducible repeat (first | apply Kd.R_alloc | apply Kd.R_drewN | apply Kd.R_drew)); exact Kd.R_mono HO_695005.1 (fun _ hk => ⟨hk.1.1.1, ⟨hk.1.1.2.1, ⟨hk.1.1.2.2, ⟨hk.1.2, hk.2⟩⟩⟩⟩)⟩, ⟨by (with_reducible repeat (first | apply Kd.R_alloc | apply Kd.R_drewN | apply Kd.R_drew)); exact Kd.R_mono HO702.1 (fun _ hk => ⟨hk.1.1.1.2, ⟨hk.1.1.2, ⟨hk.1.2, ⟨hk.2, hk.1.1.1.1⟩⟩⟩⟩)⟩, ⟨by (with_reducible repeat (first | apply Kd.R_alloc | apply Kd.R_drewN | apply Kd.R_drew)); exact Kd.R_mono HO707.1 (fun _ hk => ⟨hk.1.1.1.2, ⟨hk.1.1.2, ⟨hk.1.2, ⟨hk.2, hk.1.1.1.1⟩⟩⟩⟩)⟩, ⟨bd_ BK679.1⟩, ⟨bd_ BK694.1⟩, ⟨bd_ BK711.1⟩, ⟨wB_⟩⟩
      ·
       replace c48 := Bool.eq_false_iff.mpr c48
       subst c48
       have H1 := H
       rw [if_neg nt_] at H1
       clear H
       have H := H1
       clear H1
       have H' := o_ H
       clear H
       go_wp2
       go_meet
       case rel => exact ⟨_, (false), y327_, H', ⟨by have := HJ6.1; first | omega | exact Nat.le_refl _⟩, ⟨by (with_reducible repeat (first | apply Kd.R_alloc | apply Kd.R_drewN | apply Kd.R_drew)); exact Kd.R_mono (Kd.R_far (p := ⟨gb711, 7, none⟩) (Kd.R_far (p := ⟨gb711, 6, none⟩) (Kd.R_far (p := ⟨gb711, 5, none⟩) (Kd.R_far (p := ⟨gb711, 4, none⟩) (Kd.R_far (p := ⟨gb711, 3, none⟩) (Kd.R_far (p := ⟨gb711, 2, none⟩) (Kd.R_far (p := ⟨gb711, 1, none⟩) (Kd.R_far (p := ⟨gb711, 0, none⟩) (Kd.R_types HO_680002.1 BK711.1 (by decide)) (fun _ hk => hk.2) (.int .i64 t698)) (fun _ hk => hk.2) (.int .i64 t699)) (fun _ hk => hk.2) (.slice Ao46 t700.length co46)) (fun _ hk => hk.2) (.int .i64 t703)) (fun _ hk => hk.2) (.int .i64 t704)) (fun _ hk => hk.2) (.slice Ao47 t705.length co47)) (fun _ hk => hk.2) (.int .i64 t708)) (fun _ hk => hk.2) (.int .i64 t709)) (fun _ hk => ⟨hk.1.1.1.1, ⟨hk.1.1.1.2.1, ⟨hk.1.1.1.2.2, ⟨hk.1.1.2, hk.1.2⟩⟩⟩⟩)⟩, ⟨by (with_reducible repeat (first | apply Kd.R_alloc | apply Kd.R_drewN | apply Kd.R_drew)); exact Kd.R_mono (Kd.R_far (p := ⟨gb711, 7, none⟩) (Kd.R_far (p := ⟨gb711, 6, none⟩) (Kd.R_far (p := ⟨gb711, 5, none⟩) (Kd.R_far (p := ⟨gb711, 4, none⟩) (Kd.R_far (p := ⟨gb711, 3, none⟩) (Kd.R_far (p := ⟨gb711, 2, none⟩) (Kd.R_far (p := ⟨gb711, 1, none⟩) (Kd.R_far (p := ⟨gb711, 0, none⟩) (Kd.R_types HO_680005.1 BK711.1 (by decide)) (fun _ hk => hk.2) (.int .i64 t698)) (fun _ hk => hk.2) (.int .i64 t699)) (fun _ hk => hk.2) (.slice Ao46 t700.length co46)) (fun _ hk => hk.2) (.int .i64 t703)) (fun _ hk => hk.2) (.int .i64 t704)) (fun _ hk => hk.2) (.slice Ao47 t705.length co47)) (fun _ hk => hk.2) (.int .i64 t708)) (fun _ hk => hk.2) (.int .i64 t709)) (fun _ hk => ⟨hk.1.1.1.1, ⟨hk.1.1.1.2.1, ⟨hk.1.1.1.2.2, ⟨hk.1.1.2, hk.1.2⟩⟩⟩⟩)⟩, ⟨by (with_reducible repeat (first | apply Kd.R_alloc | apply Kd.R_drewN | apply Kd.R_drew)); exact Kd.R_mono (Kd.R_far (p := ⟨gb711, 7, none⟩) (Kd.R_far (p := ⟨gb711, 6, none⟩) (Kd.R_far (p := ⟨gb711, 5, none⟩) (Kd.R_far (p := ⟨gb711, 4, none⟩) (Kd.R_far (p := ⟨gb711, 3, none⟩) (Kd.R_far (p := ⟨gb711, 2, none⟩) (Kd.R_far (p := ⟨gb711, 1, none⟩) (Kd.R_far (p := ⟨gb711, 0, none⟩) (Kd.R_types HO_695002.1 BK711.1 (by decide)) (fun _ hk => hk.2) (.int .i64 t698)) (fun _ hk => hk.2) (.int .i64 t699)) (fun _ hk => hk.2) (.slice Ao46 t700.length co46)) (fun _ hk => hk.2) (.int .i64 t703)) (fun _ hk => hk.2) (.int .i64 t704)) (fun _ hk => hk.2) (.slice Ao47 t705.length co47)) (fun _ hk => hk.2) (.int .i64 t708)) (fun _ hk => hk.2) (.int .i64 t709)) (fun _ hk => ⟨hk.1.1.1.1, ⟨hk.1.1.1.2.1, ⟨hk.1.1.1.2.2, ⟨hk.1.1.2, hk.1.2⟩⟩⟩⟩)⟩, ⟨by (with_reducible repeat (first | apply Kd.R_alloc | apply Kd.R_drewN | apply Kd.R_drew)); exact Kd.R_mono (Kd.R_far (p := ⟨gb711, 7, none⟩) (Kd.R_far (p := ⟨gb711, 6, none⟩) (Kd.R_far (p := ⟨gb711, 5, none⟩) (Kd.R_far (p := ⟨gb711, 4, none⟩) (Kd.R_far (p := ⟨gb711, 3, none⟩) (Kd.R_far (p := ⟨gb711, 2, none⟩) (Kd.R_far (p := ⟨gb711, 1, none⟩) (Kd.R_far (p := ⟨gb711, 0, none⟩) (Kd.R_types HO_695005.1 BK711.1 (by decide)) (fun _ hk => hk.2) (.int .i64 t698)) (fun _ hk => hk.2) (.int .i64 t699)) (fun _ hk => hk.2) (.slice Ao46 t700.length co46)) (fun _ hk => hk.2) (.int .i64 t703)) (fun _ hk => hk.2) (.int .i64 t704)) (fun _ hk => hk.2) (.slice Ao47 t705.length co47)) (fun _ hk => hk.2) (.int .i64 t708)) (fun _ hk => hk.2) (.int .i64 t709)) (fun _ hk => ⟨hk.1.1.1.1, ⟨hk.1.1.1.2.1, ⟨hk.1.1.1.2.2, ⟨hk.1.1.2, hk.1.2⟩⟩⟩⟩)⟩, ⟨by (with_reducible repeat (first | apply Kd.R_alloc | apply Kd.R_drewN | apply Kd.R_drew)); exact Kd.R_mono (Kd.R_far (p := ⟨gb711, 7, none⟩) (Kd.R_far (p := ⟨gb711, 6, none⟩) (Kd.R_far (p := ⟨gb711, 5, none⟩) (Kd.R_far (p := ⟨gb711, 4, none⟩) (Kd.R_far (p := ⟨gb711, 3, none⟩) (Kd.R_far (p := ⟨gb711, 2, none⟩) (Kd.R_far (p := ⟨gb711, 1, none⟩) (Kd.R_far (p := ⟨gb711, 0, none⟩) (Kd.R_types HO702.1 BK711.1 (by decide)) (fun _ hk => hk.2) (.int .i64 t698)) (fun _ hk => hk.2) (.int .i64 t699)) (fun _ hk => hk.2) (.slice Ao46 t700.length co46)) (fun _ hk => hk.2) (.int .i64 t703)) (fun _ hk => hk.2) (.int .i64 t704)) (fun _ hk => hk.2) (.slice Ao47 t705.length co47)) (fun _ hk => hk.2) (.int .i64 t708)) (fun _ hk => hk.2) (.int .i64 t709)) (fun _ hk => ⟨hk.1.1.1.1.2, ⟨hk.1.1.1.2, ⟨hk.1.1.2, ⟨hk.1.2, hk.1.1.1.1.1⟩⟩⟩⟩)⟩, ⟨by (with_reducible repeat (first | apply Kd.R_alloc | apply Kd.R_drewN | apply Kd.R_drew)); exact Kd.R_mono (Kd.R_far (p := ⟨gb711, 7, none⟩) (Kd.R_far (p := ⟨gb711, 6, none⟩) (Kd.R_far (p := ⟨gb711, 5, none⟩) (Kd.R_far (p := ⟨gb711, 4, none⟩) (Kd.R_far (p := ⟨gb711, 3, none⟩) (Kd.R_far (p := ⟨gb711, 2, none⟩) (Kd.R_far (p := ⟨gb711, 1, none⟩) (Kd.R_far (p := ⟨gb711, 0, none⟩) (Kd.R_types HO707.1 BK711.1 (by decide)) (fun _ hk => hk.2) (.int .i64 t698)) (fun _ hk => hk.2) (.int .i64 t699)) (fun _ hk => hk.2) (.slice Ao46 t700.length co46)) (fun _ hk => hk.2) (.int .i64 t703)) (fun _ hk => hk.2) (.int .i64 t704)) (fun _ hk => hk.2) (.slice Ao47 t705.length co47)) (fun _ hk => hk.2) (.int .i64 t708)) (fun _ hk => hk.2) (.int .i64 t709)) (fun _ hk => ⟨hk.1.1.1.1.2, ⟨hk.1.1.1.2, ⟨hk.1.1.2, ⟨hk.1.2, hk.1.1.1.1.1⟩⟩⟩⟩)⟩, ⟨bk_ BK679.1⟩, ⟨bk_ BK694.1⟩, ⟨bk_ BK711.1⟩, ⟨wB_⟩⟩
     case rest =>
      clear HC39
      try clear c1
      try clear c2
      try clear p2
      try clear c3
      try clear c4
      try clear c5
      try clear c9
      try clear c10
      try clear c11
      try clear c12
      try clear c13
      try clear c15
      try clear c16
      try clear c21
      try clear c21b0
      try clear c21b1
      try clear c21b2
      try clear c22
      try clear c25
      try clear c27
      try clear c33
      try clear c36
      try clear c43
      try clear c44
      try clear c48
      try clear c50
      try clear c51
      try clear p2
      obtain ⟨kq, x53_38, rfl, HA, HJ38, HO_680002, HO_680005, HO_695002, HO_695005, HO_712002, HO_712005, BK679, BK694, BK711, HB⟩ := hcut
      cases kq with
      | zero => exact absurd HA.1 (by simp [laws_FnForms.j1])
      | succ kj38 =>
       have H := HA.1
       clear HA
       simp only [laws_FnForms.j1] at H
       by_cases c54 : x53_38 = true
       ·
        subst c54
        have H1 := H
        rw [if_pos rfl] at H1
        clear H
        have H := H1
        clear H1
        exact absurd H (by simp)
       ·
        replace c54 := Bool.eq_false_iff.mpr c54
        subst c54
        have H1 := H
        rw [if_neg nt_] at H1
        clear H
        have H := H1
        clear H1
        replace H := Option.bind_eq_some_iff.mp H
        obtain ⟨t713, A550, H⟩ := H
        try dsimp only at H
        have A55 := o_ A550
        clear A550
        replace H := Option.bind_eq_some_iff.mp H
        obtain ⟨t716, A560, H⟩ := H
        try dsimp only at H
        have A56 := o_ A560
        clear A560
        replace H := Option.bind_eq_some_iff.mp H
        obtain ⟨⟨t717, t718⟩, A570, H⟩ := H
        try dsimp only at H
        have A57 := o_ A570
        clear A570
        have HC58 := o_ H
        clear H
        go_upto_region 13 with (first | ((with_reducible refine g_ 16 ?_); refine gl_ (some 55) Tryd.func16 #[.slice A0 l0.length c0] ?_; (with_reducible refine (spec_DrawListText.calls kj38 _ _ l0 t713 _ ?side1 ?side2 A55.1).mono ?_); (case side1 => exact cd_ (Kd.C_below HR0.1 HB.1)); (case side2 => exact HC0.1); rintro e w59 ⟨v714, rfl, ho0, hb⟩; refine ⟨_, rfl, ?_⟩; have HO715 := o_ (Kd.R_lower (Kd.R_new' (Kd.R_new' (Kd.R_new' (Kd.R_new' (Kd.R_new' (Kd.R_new' ho0 (Kd.R_lt (rd_ HO_680002.1))) (Kd.R_lt (rd_ HO_680005.1))) (Kd.R_lt (rd_ HO_695002.1))) (Kd.R_lt (rd_ HO_695005.1))) (Kd.R_lt (rd_ HO_712002.1))) (Kd.R_lt (rd_ HO_712005.1))) (below_size wB_)); replace HO_680002 := o_ (Kd.R_elder' (rd_ HO_680002.1) (Kd.R_base ho0) hb); replace HO_680005 := o_ (Kd.R_elder' (rd_ HO_680005.1) (Kd.R_base ho0) hb); replace HO_695002 := o_ (Kd.R_elder' (rd_ HO_695002.1) (Kd.R_base ho0) hb); replace HO_695005 := o_ (Kd.R_elder' (rd_ HO_695005.1) (Kd.R_base ho0) hb); replace HO_712002 := o_ (Kd.R_elder' (rd_ HO_712002.1) (Kd.R_base ho0) hb); replace HO_712005 := o_ (Kd.R_elder' (rd_ HO_712005.1) (Kd.R_base ho0) hb); replace BK679 := o_ (blk_below (bd_ BK679.1) hb); replace BK694 := o_ (blk_below (bd_ BK694.1) hb); replace BK711 := o_ (blk_below (bd_ BK711.1) hb); replace HB := o_ (below_step wB_ hb); (try clear hb ho0); obtain ⟨Ao60, co60, eo60⟩ := Kd.R_slice HO715.1; subst eo60) | ((with_reducible refine g_ 18 ?_); refine gl_ (some 58) Tryd.func18 #[.slice Ao60 t713.length co60] ?_; (with_reducible refine (impl_ListText.calls kj38 _ _ t713 t716 _ ?side1 ?side2 A56.1 (TB_.below wB_)).mono ?_); (case side1 => exact cd_ (Kd.R_reads' HO715.1).2.2); (case side2 => exact (Kd.R_reads' HO715.1).2.1); rintro e w61 ⟨rfl, hb⟩; refine ⟨_, rfl, ?_⟩; replace HO_680002 := o_ (Kd.R_below (rd_ HO_680002.1) hb); replace HO_680005 := o_ (Kd.R_below (rd_ HO_680005.1) hb); replace HO_695002 := o_ (Kd.R_below (rd_ HO_695002.1) hb); replace HO_695005 := o_ (Kd.R_below (rd_ HO_695005.1) hb); replace HO_712002 := o_ (Kd.R_below (rd_ HO_712002.1) hb); replace HO_712005 := o_ (Kd.R_below (rd_ HO_712005.1) hb); replace HO715 := o_ (Kd.R_below (rd_ HO715.1) hb); replace BK679 := o_ (blk_below (bd_ BK679.1) hb); replace BK694 := o_ (blk_below (bd_ BK694.1) hb); replace BK711 := o_ (blk_below (bd_ BK711.1) hb); replace HB := o_ (below_step wB_ hb); (try clear hb)) | ((with_reducible refine g_ 17 ?_); refine gl_ (some 59) Tryd.func17 #[.string t716] ?_; (with_reducible refine (impl_ParseList.calls kj38 t716 t717 t718 _ A57.1 (TB_.below wB_)).mono ?_); rintro e w62 ⟨v719, rfl, ho0, hb⟩; refine ⟨_, rfl, ?_⟩; have HO720 := o_ (Kd.R_lower (Kd.R_new' (Kd.R_new' (Kd.R_new' (Kd.R_new' (Kd.R_new' (Kd.R_new' (Kd.R_new' ho0 (Kd.R_lt (rd_ HO_680002.1))) (Kd.R_lt (rd_ HO_680005.1))) (Kd.R_lt (rd_ HO_695002.1))) (Kd.R_lt (rd_ HO_695005.1))) (Kd.R_lt (rd_ HO_712002.1))) (Kd.R_lt (rd_ HO_712005.1))) (Kd.R_lt (rd_ HO715.1))) (below_size wB_)); replace HO_680002 := o_ (Kd.R_elder' (rd_ HO_680002.1) (Kd.R_base ho0) hb); replace HO_680005 := o_ (Kd.R_elder' (rd_ HO_680005.1) (Kd.R_base ho0) hb); replace HO_695002 := o_ (Kd.R_elder' (rd_ HO_695002.1) (Kd.R_base ho0) hb); replace HO_695005 := o_ (Kd.R_elder' (rd_ HO_695005.1) (Kd.R_base ho0) hb); replace HO_712002 := o_ (Kd.R_elder' (rd_ HO_712002.1) (Kd.R_base ho0) hb); replace HO_712005 := o_ (Kd.R_elder' (rd_ HO_712005.1) (Kd.R_base ho0) hb); replace HO715 := o_ (Kd.R_elder' (rd_ HO715.1) (Kd.R_base ho0) hb); replace BK679 := o_ (blk_below (bd_ BK679.1) hb); replace BK694 := o_ (blk_below (bd_ BK694.1) hb); replace BK711 := o_ (blk_below (bd_ BK711.1) hb); replace HB := o_ (below_step wB_ hb); (try clear hb ho0)))
        (try simp only [Act.put, List.setIfInBounds_toArray, List.set_cons_zero, List.set_cons_succ])
        go_cut [69] (fun v69 wc => ∃ (kq : Nat) (x69_57 : Bool), v69 = .bool x69_57 ∧ Aside0 (laws_FnForms.j2 kq l0 x69_57 = some true) ∧ Aside0 (kq ≤ kj38) ∧ Aside0 (Kd.R (Kd.int .i64) 3 wc w.heap.size (fun k_ => some k_ ≠ ((.slice Ao12 t674.length co12) : Value).ownBlock ∧ some k_ ≠ ((.slice Ao18 t683.length co18) : Value).ownBlock ∧ some k_ ≠ ((.slice Ao19 t688.length co19) : Value).ownBlock ∧ some k_ ≠ ((.slice Ao46 t700.length co46) : Value).ownBlock ∧ some k_ ≠ ((.slice Ao47 t705.length co47) : Value).ownBlock) (.slice Ao11 t669.length co11) t669) ∧ Aside0 (Kd.R (Kd.int .i64) 3 wc w.heap.size (fun k_ => some k_ ≠ ((.slice Ao11 t669.length co11) : Value).ownBlock ∧ some k_ ≠ ((.slice Ao18 t683.length co18) : Value).ownBlock ∧ some k_ ≠ ((.slice Ao19 t688.length co19) : Value).ownBlock ∧ some k_ ≠ ((.slice Ao46 t700.length co46) : Value).ownBlock ∧ some k_ ≠ ((.slice Ao47 t705.length co47) : Value).ownBlock) (.slice Ao12 t674.length co12) t674) ∧ Aside0 (Kd.R (Kd.int .i64) 3 wc w.heap.size (fun k_ => some k_ ≠ ((.slice Ao11 t669.length co11) : Value).ownBlock ∧ some k_ ≠ ((.slice Ao12 t674.length co12) : Value).ownBlock ∧ some k_ ≠ ((.slice Ao19 t688.length co19) : Value).ownBlock ∧ some k_ ≠ ((.slice Ao46 t700.length co46) : Value).ownBlock ∧ some k_ ≠ ((.slice Ao47 t705.length co47) : Value).ownBlock) (.slice Ao18 t683.length co18) t683) ∧ Aside0 (Kd.R (Kd.int .i64) 3 wc w.heap.size (fun k_ => some k_ ≠ ((.slice Ao11 t669.length co11) : Value).ownBlock ∧ some k_ ≠ ((.slice Ao12 t674.length co12) : Value).ownBlock ∧ some k_ ≠ ((.slice Ao18 t683.length co18) : Value).ownBlock ∧ some k_ ≠ ((.slice Ao46 t700.length co46) : Value).ownBlock ∧ some k_ ≠ ((.slice Ao47 t705.length co47) : Value).ownBlock) (.slice Ao19 t688.length co19) t688) ∧ Aside0 (Kd.R (Kd.int .i64) 3 wc w.heap.size (fun k_ => some k_ ≠ ((.slice Ao11 t669.length co11) : Value).ownBlock ∧ some k_ ≠ ((.slice Ao12 t674.length co12) : Value).ownBlock ∧ some k_ ≠ ((.slice Ao18 t683.length co18) : Value).ownBlock ∧ some k_ ≠ ((.slice Ao19 t688.length co19) : Value).ownBlock ∧ some k_ ≠ ((.slice Ao47 t705.length co47) : Value).ownBlock) (.slice Ao46 t700.length co46) t700) ∧ Aside0 (Kd.R (Kd.int .i64) 3 wc w.heap.size (fun k_ => some k_ ≠ ((.slice Ao11 t669.length co11) : Value).ownBlock ∧ some k_ ≠ ((.slice Ao12 t674.length co12) : Value).ownBlock ∧ some k_ ≠ ((.slice Ao18 t683.length co18) : Value).ownBlock ∧ some k_ ≠ ((.slice Ao19 t688.length co19) : Value).ownBlock ∧ some k_ ≠ ((.slice Ao46 t700.length co46) : Value).ownBlock) (.slice Ao47 t705.length co47) t705) ∧ Aside0 (wc.heap[gb679]? = some (.cells #[.int .i64 t667, .int .i64 t668, (.slice Ao11 t669.length co11), .int .i64 t672, .int .i64 t673, (.slice Ao12 t674.length co12), .int .i64 t677, .int .i64 t678] 28 (0, 0))) ∧ Aside0 (wc.heap[gb694]? = some (.cells #[.int .i64 t681, .int .i64 t682, (.slice Ao18 t683.length co18), .int .i64 t686, .int .i64 t687, (.slice Ao19 t688.length co19), .int .i64 t691, .int .i64 t692] 28 (0, 0))) ∧ Aside0 (wc.heap[gb711]? = some (.cells #[.int .i64 t698, .int .i64 t699, (.slice Ao46 t700.length co46), .int .i64 t703, .int .i64 t704, (.slice Ao47 t705.length co47), .int .i64 t708, .int .i64 t709] 28 (0, 0))) ∧ Aside0 (Below w.heap.size w wc))
        case first =>
         have H := HC58.1
         clear HC58
         by_cases c63 : t718 = true
         ·
          subst c63
          have H1 := H
          rw [if_pos rfl] at H1
          clear H
          have H := H1
          clear H1
          replace H := Option.bind_eq_some_iff.mp H
          obtain ⟨t721, A640, H⟩ := H
          try dsimp only at H
          have A64 := o_ A640
          clear A640
          have H' := o_ H
          clear H
          obtain ⟨Ao65, co65, eo65⟩ := Kd.R_slice HO720.1
          subst eo65
          go_wp2_with (first | (go_at_call 19; (with_reducible refine (laws_sameInts.calls kj38 _ _ t717 _ _ t713 t721 _ ?side1 ?side2 ?side3 ?side4 A64.1).mono ?_); (case side1 => exact cd_ (Kd.R_reads' HO720.1).2.2); (case side2 => exact (Kd.R_reads' HO720.1).2.1); (case side3 => exact cd_ (Kd.R_reads' HO715.1).2.2); (case side4 => exact (Kd.R_reads' HO715.1).2.1); rintro e w' ⟨rfl, ⟨nd, rfl⟩⟩))
          go_meet
          case rel => exact ⟨_, (!t721), y327_, H', ⟨by have := HJ6.1; have := HJ38.1; first | omega | exact Nat.le_refl _⟩, ⟨by (with_reducible repeat (first | apply Kd.R_alloc | apply Kd.R_drewN | apply Kd.R_drew)); exact Kd.R_mono HO_680002.1 (fun _ hk => ⟨hk.1.1.1, ⟨hk.1.1.2.1, ⟨hk.1.1.2.2.1, ⟨hk.1.1.2.2.2.1, hk.1.1.2.2.2.2⟩⟩⟩⟩)⟩, ⟨by (with_reducible repeat (first | apply Kd.R_alloc | apply Kd.R_drewN | apply Kd.R_drew)); exact Kd.R_mono HO_680005.1 (fun _ hk => ⟨hk.1.1.1, ⟨hk.1.1.2.1, ⟨hk.1.1.2.2.1, ⟨hk.1.1.2.2.2.1, hk.1.1.2.2.2.2⟩⟩⟩⟩)⟩, ⟨by (with_reducible repeat (first | apply Kd.R_alloc | apply Kd.R_drewN | apply Kd.R_drew)); exact Kd.R_mono HO_695002.1 (fun _ hk => ⟨hk.1.1.1, ⟨hk.1.1.2.1, ⟨hk.1.1.2.2.1, ⟨hk.1.1.2.2.2.1, hk.1.1.2.2.2.2⟩⟩⟩⟩)⟩, ⟨by (with_reducible repeat (first | apply Kd.R_alloc | apply Kd.R_drewN | apply Kd.R_drew)); exact Kd.R_mono HO_695005.1 (fun _ hk => ⟨hk.1.1.1, ⟨hk.1.1.2.1, ⟨hk.1.1.2.2.1, ⟨hk.1.1.2.2.2.1, hk.1.1.2.2.2.2⟩⟩⟩⟩)⟩, ⟨by (with_reducible repeat (first | apply Kd.R_alloc | apply Kd.R_drewN | apply Kd.R_drew)); exact Kd.R_mono HO_712002.1 (fun _ hk => ⟨hk.1.1.1, ⟨hk.1.1.2.1, ⟨hk.1.1.2.2.1, ⟨hk.1.1.2.2.2.1, hk.1.1.2.2.2.2⟩⟩⟩⟩)⟩, ⟨by (with_reducible repeat (first | apply Kd.R_alloc | apply Kd.R_drewN | apply Kd.R_drew)); exact Kd.R_mono HO_712005.1 (fun _ hk => ⟨hk.1.1.1, ⟨hk.1.1.2.1, ⟨hk.1.1.2.2.1, ⟨hk.1.1.2.2.2.1, hk.1.1.2.2.2.2⟩⟩⟩⟩)⟩, ⟨bd_ BK679.1⟩, ⟨bd_ BK694.1⟩, ⟨bd_ BK711.1⟩, ⟨wB_⟩⟩
         ·
          replace c63 := Bool.eq_false_iff.mpr c63
          subst c63
          have H1 := H
          rw [if_neg nt_] at H1
          clear H
          have H := H1
          clear H1
          have H' := o_ H
          clear H
          go_wp2
          go_meet
          case rel => exact ⟨_, (true), y327_, H', ⟨by have := HJ6.1; have := HJ38.1; first | omega | exact Nat.le_refl _⟩, ⟨by (with_reducible repeat (first | apply Kd.R_alloc | apply Kd.R_drewN | apply Kd.R_drew)); exact Kd.R_mono HO_680002.1 (fun _ hk => ⟨hk.1.1.1, ⟨hk.1.1.2.1, ⟨hk.1.1.2.2.1, ⟨hk.1.1.2.2.2.1, hk.1.1.2.2.2.2⟩⟩⟩⟩)⟩, ⟨by (with_reducible repeat (first | apply Kd.R_alloc | apply Kd.R_drewN | apply Kd.R_drew)); exact Kd.R_mono HO_680005.1 (fun _ hk => ⟨hk.1.1.1, ⟨hk.1.1.2.1, ⟨hk.1.1.2.2.1, ⟨hk.1.1.2.2.2.1, hk.1.1.2.2.2.2⟩⟩⟩⟩)⟩, ⟨by (with_reducible repeat (first | apply Kd.R_alloc | apply Kd.R_drewN | apply Kd.R_drew)); exact Kd.R_mono HO_695002.1 (fun _ hk => ⟨hk.1.1.1, ⟨hk.1.1.2.1, ⟨hk.1.1.2.2.1, ⟨hk.1.1.2.2.2.1, hk.1.1.2.2.2.2⟩⟩⟩⟩)⟩, ⟨by (with_reducible repeat (first | apply Kd.R_alloc | apply Kd.R_drewN | apply Kd.R_drew)); exact Kd.R_mono HO_695005.1 (fun _ hk => ⟨hk.1.1.1, ⟨hk.1.1.2.1, ⟨hk.1.1.2.2.1, ⟨hk.1.1.2.2.2.1, hk.1.1.2.2.2.2⟩⟩⟩⟩)⟩, ⟨by (with_reducible repeat (first | apply Kd.R_alloc | apply Kd.R_drewN | apply Kd.R_drew)); exact Kd.R_mono HO_712002.1 (fun _ hk => ⟨hk.1.1.1, ⟨hk.1.1.2.1, ⟨hk.1.1.2.2.1, ⟨hk.1.1.2.2.2.1, hk.1.1.2.2.2.2⟩⟩⟩⟩)⟩, ⟨by (with_reducible repeat (first | apply Kd.R_alloc | apply Kd.R_drewN | apply Kd.R_drew)); exact Kd.R_mono HO_712005.1 (fun _ hk => ⟨hk.1.1.1, ⟨hk.1.1.2.1, ⟨hk.1.1.2.2.1, ⟨hk.1.1.2.2.2.1, hk.1.1.2.2.2.2⟩⟩⟩⟩)⟩, ⟨bd_ BK679.1⟩, ⟨bd_ BK694.1⟩, ⟨bd_ BK711.1⟩, ⟨wB_⟩⟩
        case rest =>
         clear HC58
         try clear c1
         try clear c2
         try clear p2
         try clear c3
         try clear c4
         try clear c5
         try clear c6
         try clear c9
         try clear c10
         try clear c11
         try clear c12
         try clear c13
         try clear c15
         try clear c16
         try clear c17
         try clear c18
         try clear c21
         try clear c21b0
         try clear c21b1
         try clear c21b2
         try clear c22
         try clear c25
         try clear c27
         try clear c33
         try clear c36
         try clear c43
         try clear c44
         try clear c48
         try clear c50
         try clear c51
         try clear c54
         try clear c63
         try clear p2
         obtain ⟨kq, x69_57, rfl, HA, HJ57, HO_680002, HO_680005, HO_695002, HO_695005, HO_712002, HO_712005, BK679, BK694, BK711, HB⟩ := hcut
         cases kq with
         | zero => exact absurd HA.1 (by simp [laws_FnForms.j2])
         | succ kj57 =>
          have H := HA.1
          clear HA
          simp only [laws_FnForms.j2] at H
          by_cases c66 : x69_57 = true
          ·
           subst c66
           have H1 := H
           rw [if_pos rfl] at H1
           clear H
           have H := H1
           clear H1
           exact absurd H (by simp)
          ·
           replace c66 := Bool.eq_false_iff.mpr c66
           subst c66
           have H1 := H
           rw [if_neg nt_] at H1
           clear H
           have H := H1
           clear H1
           replace H := Option.bind_eq_some_iff.mp H
           obtain ⟨t722, A670, H⟩ := H
           try dsimp only at H
           have A67 := o_ A670
           clear A670
           replace H := Option.bind_eq_some_iff.mp H
           obtain ⟨⟨t723, t724⟩, A680, H⟩ := H
           try dsimp only at H
           have A68 := o_ A680
           clear A680
           replace H := Option.bind_eq_some_iff.mp H
           obtain ⟨t727, A690, H⟩ := H
           try dsimp only at H
           have A69 := o_ A690
           clear A690
           replace H := Option.bind_eq_some_iff.mp H
           obtain ⟨⟨t728, t729, t730, t731, t732, t733, t734, t735⟩, A700, H⟩ := H
           try dsimp only at H
           have A70 := o_ A700
           clear A700
           by_cases c71 : t724 = true
           ·
            subst c71
            have H1 := H
            rw [if_pos rfl] at H1
            clear H
            have H := H1
            clear H1
            replace H := Option.bind_eq_some_iff.mp H
            obtain ⟨t737, A720, H⟩ := H
            try dsimp only at H
            have A72 := o_ A720
            clear A720
            by_cases c73 : t737.toList = t722.toList
            ·
             rw [if_pos c73] at H
             have c73b0 := beq_iff_eq.mpr c73
             have c73b1 := bne_eq_false_iff_eq.mpr c73
             clear c73
             replace H := Option.bind_eq_some_iff.mp H
             obtain ⟨t738, A740, H⟩ := H
             try dsimp only at H
             have A74 := o_ A740
             clear A740
             by_cases c75 : t738 = 0
             ·
              rw [if_pos c75] at H
              have c75b0 := beq_iff_eq.mpr c75
              have c75b1 := bne_eq_false_iff_eq.mpr c75
              clear c75
              replace H := Option.bind_eq_some_iff.mp H
              obtain ⟨t739, A760, H⟩ := H
              try dsimp only at H
              have A76 := o_ A760
              clear A760
              replace H := Option.bind_eq_some_iff.mp H
              obtain ⟨t740, A770, H⟩ := H
              try dsimp only at H
              have A77 := o_ A770
              clear A770
              first | (obtain rfl := Option.some.inj H) | (have Hr_ := Option.some.inj H; clear H)
              try go_wp2_with (first | ((with_reducible refine g_ 20 ?_); refine gl_ (some 71) Tryd.func20 #[.slice A0 l0.length c0] ?_; (with_reducible refine (spec_DrawParseList.calls kj57 _ _ l0 t722 _ ?side1 ?side2 A67.1).mono ?_); (case side1 => exact cd_ (Kd.C_below HR0.1 HB.1)); (case side2 => exact HC0.1); rintro e w78 ⟨rfl, hb⟩; refine ⟨_, rfl, ?_⟩; replace HO_680002 := o_ (Kd.R_below (rd_ HO_680002.1) hb); replace HO_680005 := o_ (Kd.R_below (rd_ HO_680005.1) hb); replace HO_695002 := o_ (Kd.R_below (rd_ HO_695002.1) hb); replace HO_695005 := o_ (Kd.R_below (rd_ HO_695005.1) hb); replace HO_712002 := o_ (Kd.R_below (rd_ HO_712002.1) hb); replace HO_712005 := o_ (Kd.R_below (rd_ HO_712005.1) hb); replace BK679 := o_ (blk_below (bd_ BK679.1) hb); replace BK694 := o_ (blk_below (bd_ BK694.1) hb); replace BK711 := o_ (blk_below (bd_ BK711.1) hb); replace HB := o_ (below_step wB_ hb); (try clear hb)) | ((with_reducible refine g_ 17 ?_); refine gl_ (some 74) Tryd.func17 #[.string t722] ?_; (with_reducible refine (impl_ParseList.calls kj57 t722 t723 true _ A68.1 (TB_.below wB_)).mono ?_); rintro e w79 ⟨v725, rfl, ho0, hb⟩; refine ⟨_, rfl, ?_⟩; have HO726 := o_ (Kd.R_lower (Kd.R_new' (Kd.R_new' (Kd.R_new' (Kd.R_new' (Kd.R_new' (Kd.R_new' ho0 (Kd.R_lt (rd_ HO_680002.1))) (Kd.R_lt (rd_ HO_680005.1))) (Kd.R_lt (rd_ HO_695002.1))) (Kd.R_lt (rd_ HO_695005.1))) (Kd.R_lt (rd_ HO_712002.1))) (Kd.R_lt (rd_ HO_712005.1))) (below_size wB_)); replace HO_680002 := o_ (Kd.R_elder' (rd_ HO_680002.1) (Kd.R_base ho0) hb); replace HO_680005 := o_ (Kd.R_elder' (rd_ HO_680005.1) (Kd.R_base ho0) hb); replace HO_695002 := o_ (Kd.R_elder' (rd_ HO_695002.1) (Kd.R_base ho0) hb); replace HO_695005 := o_ (Kd.R_elder' (rd_ HO_695005.1) (Kd.R_base ho0) hb); replace HO_712002 := o_ (Kd.R_elder' (rd_ HO_712002.1) (Kd.R_base ho0) hb); replace HO_712005 := o_ (Kd.R_elder' (rd_ HO_712005.1) (Kd.R_base ho0) hb); replace BK679 := o_ (blk_below (bd_ BK679.1) hb); replace BK694 := o_ (blk_below (bd_ BK694.1) hb); replace BK711 := o_ (blk_below (bd_ BK711.1) hb); replace HB := o_ (below_step wB_ hb); (try clear hb ho0)) | ((with_reducible refine g_ 21 ?_); refine gl_ (some 78) Tryd.func21 #[.slice A0 l0.length c0] ?_; (with_reducible refine (spec_DrawKindOf.calls kj57 _ _ l0 t727 _ ?side1 ?side2 A69.1).mono ?_); (case side1 => exact cd_ (Kd.C_below HR0.1 HB.1)); (case side2 => exact HC0.1); rintro e w80 ⟨rfl, hb⟩; refine ⟨_, rfl, ?_⟩; replace HO_680002 := o_ (Kd.R_below (rd_ HO_680002.1) hb); replace HO_680005 := o_ (Kd.R_below (rd_ HO_680005.1) hb); replace HO_695002 := o_ (Kd.R_below (rd_ HO_695002.1) hb); replace HO_695005 := o_ (Kd.R_below (rd_ HO_695005.1) hb); replace HO_712002 := o_ (Kd.R_below (rd_ HO_712002.1) hb); replace HO_712005 := o_ (Kd.R_below (rd_ HO_712005.1) hb); replace HO726 := o_ (Kd.R_below (rd_ HO726.1) hb); replace BK679 := o_ (blk_below (bd_ BK679.1) hb); replace BK694 := o_ (blk_below (bd_ BK694.1) hb); replace BK711 := o_ (blk_below (bd_ BK711.1) hb); replace HB := o_ (below_step wB_ hb); (try clear hb)) | ((with_reducible refine g_ 22 ?_); refine gl_ (some 80) Tryd.func22 #[.slice A0 l0.length c0] ?_; (with_reducible refine (spec_DrawFindText.calls kj57 _ _ l0 t728 t729 t730 t731 t732 t733 t734 t735 _ ?side1 ?side2 A70.1).mono ?_); (case side1 => exact cd_ (Kd.C_below HR0.1 HB.1)); (case side2 => exact HC0.1); rintro e w81 ⟨rfl, hb⟩; refine ⟨_, rfl, ?_⟩; replace HO_680002 := o_ (Kd.R_below (rd_ HO_680002.1) hb); replace HO_680005 := o_ (Kd.R_below (rd_ HO_680005.1) hb); replace HO_695002 := o_ (Kd.R_below (rd_ HO_695002.1) hb); replace HO_695005 := o_ (Kd.R_below (rd_ HO_695005.1) hb); replace HO_712002 := o_ (Kd.R_below (rd_ HO_712002.1) hb); replace HO_712005 := o_ (Kd.R_below (rd_ HO_712005.1) hb); replace HO726 := o_ (Kd.R_below (rd_ HO726.1) hb); replace BK679 := o_ (blk_below (bd_ BK679.1) hb); replace BK694 := o_ (blk_below (bd_ BK694.1) hb); replace BK711 := o_ (blk_below (bd_ BK711.1) hb); replace HB := o_ (below_step wB_ hb); (try clear hb)) | ((with_reducible refine gate_dst (N := 16) rfl ?_); refine bx_ 16 #[.int .i64 0, .int .i64 0, .int .i64 0, .int .i64 0, .int .i64 0, .int .i64 0, .int .i64 0, .int .i64 0] 44 ?_; intro gb736 hg w82 hbox hb; replace HO_680002 := o_ (Kd.R_below (rd_ HO_680002.1) hb); replace HO_680005 := o_ (Kd.R_below (rd_ HO_680005.1) hb); replace HO_695002 := o_ (Kd.R_below (rd_ HO_695002.1) hb); replace HO_695005 := o_ (Kd.R_below (rd_ HO_695005.1) hb); replace HO_712002 := o_ (Kd.R_below (rd_ HO_712002.1) hb); replace HO_712005 := o_ (Kd.R_below (rd_ HO_712005.1) hb); replace HO726 := o_ (Kd.R_below (rd_ HO726.1) hb); have BK736 := o_ (hbox); have GW736 := o_ ((y328_ : w.heap.size ≤ gb736)); replace HB := o_ (below_step wB_ hb); have GE736 := GW736; have NB679_736 := o_ ((y316_ : gb679 ≠ gb736)); have NB736_679 := o_ ((y317_ : gb736 ≠ gb679)); replace BK679 := o_ (blk_below (bd_ BK679.1) hb); have NB694_736 := o_ ((y320_ : gb694 ≠ gb736)); have NB736_694 := o_ ((y321_ : gb736 ≠ gb694)); replace BK694 := o_ (blk_below (bd_ BK694.1) hb); have NB711_736 := o_ ((y324_ : gb711 ≠ gb736)); have NB736_711 := o_ ((y325_ : gb736 ≠ gb711)); replace BK711 := o_ (blk_below (bd_ BK711.1) hb); clear hb hbox hg; have hnb83 := NB736_679.1; have hnc83 := NB679_736.1; have hnb84 := NB736_694.1; have hnc84 := NB694_736.1; have hnb85 := NB736_711.1; have hnc85 := NB711_736.1; obtain ⟨hcz86_0, hcz86_1, hcz86_2, hcz86_3, hcz86_4, hcz86_5, hcz86_6, hcz86_7⟩ := e287_ BK736.1; obtain ⟨hfz86_0, hfz86_1, hfz86_2, hfz86_3, hfz86_4, hfz86_5, hfz86_6, hfz86_7⟩ := z288_ BK736.1))
              have n0_ : Aside0 (Kd.R (Kd.int .i64) 3 ((((((((w82.setCell ⟨gb736, 0, none⟩ (.int .i64 t728)).setCell ⟨gb736, 1, none⟩ (.int .i64 t729)).setCell ⟨gb736, 2, none⟩ (.int .i64 t730)).setCell ⟨gb736, 3, none⟩ (.int .i64 t731)).setCell ⟨gb736, 4, none⟩ (.int .i64 t732)).setCell ⟨gb736, 5, none⟩ (.int .i64 t733)).setCell ⟨gb736, 6, none⟩ (.int .i64 t734)).setCell ⟨gb736, 7, none⟩ (.int .i64 t735)) w.heap.size (fun k_ => some k_ ≠ (.slice Ao12 t674.length co12 : Value).ownBlock ∧ some k_ ≠ (.slice Ao18 t683.length co18 : Value).ownBlock ∧ some k_ ≠ (.slice Ao19 t688.length co19 : Value).ownBlock ∧ some k_ ≠ (.slice Ao46 t700.length co46 : Value).ownBlock ∧ some k_ ≠ (.slice Ao47 t705.length co47 : Value).ownBlock ∧ some k_ ≠ (v725 : Value).ownBlock) (.slice Ao11 t669.length co11) t669) := ⟨by (with_reducible repeat (first | apply Kd.R_alloc | apply Kd.R_drewN | apply Kd.R_drew)); exact Kd.R_mono (Kd.R_far (p := ⟨gb736, 7, none⟩) (Kd.R_far (p := ⟨gb736, 6, none⟩) (Kd.R_far (p := ⟨gb736, 5, none⟩) (Kd.R_far (p := ⟨gb736, 4, none⟩) (Kd.R_far (p := ⟨gb736, 3, none⟩) (Kd.R_far (p := ⟨gb736, 2, none⟩) (Kd.R_far (p := ⟨gb736, 1, none⟩) (Kd.R_far (p := ⟨gb736, 0, none⟩) (Kd.R_types HO_680002.1 BK736.1 (by decide)) (fun _ hk => hk.2) (.int .i64 t728)) (fun _ hk => hk.2) (.int .i64 t729)) (fun _ hk => hk.2) (.int .i64 t730)) (fun _ hk => hk.2) (.int .i64 t731)) (fun _ hk => hk.2) (.int .i64 t732)) (fun _ hk => hk.2) (.int .i64 t733)) (fun _ hk => hk.2) (.int .i64 t734)) (fun _ hk => hk.2) (.int .i64 t735)) (fun _ hk => ⟨hk.1.1.1, ⟨hk.1.1.2.1, ⟨hk.1.1.2.2.1, ⟨hk.1.1.2.2.2.1, ⟨hk.1.1.2.2.2.2, hk.1.2⟩⟩⟩⟩⟩)⟩
              have n1_ : Aside0 (Kd.R (Kd.int .i64) 3 ((((((((w82.setCell ⟨gb736, 0, none⟩ (.int .i64 t728)).setCell ⟨gb736, 1, none⟩ (.int .i64 t729)).setCell ⟨gb736, 2, none⟩ (.int .i64 t730)).setCell ⟨gb736, 3, none⟩ (.int .i64 t731)).setCell ⟨gb736, 4, none⟩ (.int .i64 t732)).setCell ⟨gb736, 5, none⟩ (.int .i64 t733)).setCell ⟨gb736, 6, none⟩ (.int .i64 t734)).setCell ⟨gb736, 7, none⟩ (.int .i64 t735)) w.heap.size (fun k_ => some k_ ≠ (.slice Ao11 t669.length co11 : Value).ownBlock ∧ some k_ ≠ (.slice Ao18 t683.length co18 : Value).ownBlock ∧ some k_ ≠ (.slice Ao19 t688.length co19 : Value).ownBlock ∧ some k_ ≠ (.slice Ao46 t700.length co46 : Value).ownBlock ∧ some k_ ≠ (.slice Ao47 t705.length co47 : Value).ownBlock ∧ some k_ ≠ (v725 : Value).ownBlock) (.slice Ao12 t674.length co12) t674) := ⟨by (with_reducible repeat (first | apply Kd.R_alloc | apply Kd.R_drewN | apply Kd.R_drew)); exact Kd.R_mono (Kd.R_far (p := ⟨gb736, 7, none⟩) (Kd.R_far (p := ⟨gb736, 6, none⟩) (Kd.R_far (p := ⟨gb736, 5, none⟩) (Kd.R_far (p := ⟨gb736, 4, none⟩) (Kd.R_far (p := ⟨gb736, 3, none⟩) (Kd.R_far (p := ⟨gb736, 2, none⟩) (Kd.R_far (p := ⟨gb736, 1, none⟩) (Kd.R_far (p := ⟨gb736, 0, none⟩) (Kd.R_types HO_680005.1 BK736.1 (by decide)) (fun _ hk => hk.2) (.int .i64 t728)) (fun _ hk => hk.2) (.int .i64 t729)) (fun _ hk => hk.2) (.int .i64 t730)) (fun _ hk => hk.2) (.int .i64 t731)) (fun _ hk => hk.2) (.int .i64 t732)) (fun _ hk => hk.2) (.int .i64 t733)) (fun _ hk => hk.2) (.int .i64 t734)) (fun _ hk => hk.2) (.int .i64 t735)) (fun _ hk => ⟨hk.1.1.1, ⟨hk.1.1.2.1, ⟨hk.1.1.2.2.1, ⟨hk.1.1.2.2.2.1, ⟨hk.1.1.2.2.2.2, hk.1.2⟩⟩⟩⟩⟩)⟩
              have n2_ : Aside0 (Kd.R (Kd.int .i64) 3 ((((((((w82.setCell ⟨gb736, 0, none⟩ (.int .i64 t728)).setCell ⟨gb736, 1, none⟩ (.int .i64 t729)).setCell ⟨gb736, 2, none⟩ (.int .i64 t730)).setCell ⟨gb736, 3, none⟩ (.int .i64 t731)).setCell ⟨gb736, 4, none⟩ (.int .i64 t732)).setCell ⟨gb736, 5, none⟩ (.int .i64 t733)).setCell ⟨gb736, 6, none⟩ (.int .i64 t734)).setCell ⟨gb736, 7, none⟩ (.int .i64 t735)) w.heap.size (fun k_ => some k_ ≠ (.slice Ao11 t669.length co11 : Value).ownBlock ∧ some k_ ≠ (.slice Ao12 t674.length co12 : Value).ownBlock ∧ some k_ ≠ (.slice Ao19 t688.length co19 : Value).ownBlock ∧ some k_ ≠ (.slice Ao46 t700.length co46 : Value).ownBlock ∧ some k_ ≠ (.slice Ao47 t705.length co47 : Value).ownBlock ∧ some k_ ≠ (v725 : Value).ownBlock) (.slice Ao18 t683.length co18) t683) := ⟨by (with_reducible repeat (first | apply Kd.R_alloc | apply Kd.R_drewN | apply Kd.R_drew)); exact Kd.R_mono (Kd.R_far (p := ⟨gb736, 7, none⟩) (Kd.R_far (p := ⟨gb736, 6, none⟩) (Kd.R_far (p := ⟨gb736, 5, none⟩) (Kd.R_far (p := ⟨gb736, 4, none⟩) (Kd.R_far (p := ⟨gb736, 3, none⟩) (Kd.R_far (p := ⟨gb736, 2, none⟩) (Kd.R_far (p := ⟨gb736, 1, none⟩) (Kd.R_far (p := ⟨gb736, 0, none⟩) (Kd.R_types HO_695002.1 BK736.1 (by decide)) (fun _ hk => hk.2) (.int .i64 t728)) (fun _ hk => hk.2) (.int .i64 t729)) (fun _ hk => hk.2) (.int .i64 t730)) (fun _ hk => hk.2) (.int .i64 t731)) (fun _ hk => hk.2) (.int .i64 t732)) (fun _ hk => hk.2) (.int .i64 t733)) (fun _ hk => hk.2) (.int .i64 t734)) (fun _ hk => hk.2) (.int .i64 t735)) (fun _ hk => ⟨hk.1.1.1, ⟨hk.1.1.2.1, ⟨hk.1.1.2.2.1, ⟨hk.1.1.2.2.2.1, ⟨hk.1.1.2.2.2.2, hk.1.2⟩⟩⟩⟩⟩)⟩
              have n3_ : Aside0 (Kd.R (Kd.int .i64) 3 ((((((((w82.setCell ⟨gb736, 0, none⟩ (.int .i64 t728)).setCell ⟨gb736, 1, none⟩ (.int .i64 t729)).setCell ⟨gb736, 2, none⟩ (.int .i64 t730)).setCell ⟨gb736, 3, none⟩ (.int .i64 t731)).setCell ⟨gb736, 4, none⟩ (.int .i64 t732)).setCell ⟨gb736, 5, none⟩ (.int .i64 t733)).setCell ⟨gb736, 6, none⟩ (.int .i64 t734)).setCell ⟨gb736, 7, none⟩ (.int .i64 t735)) w.heap.size (fun k_ => some k_ ≠ (.slice Ao11 t669.length co11 : Value).ownBlock ∧ some k_ ≠ (.slice Ao12 t674.length co12 : Value).ownBlock ∧ some k_ ≠ (.slice Ao18 t683.length co18 : Value).ownBlock ∧ some k_ ≠ (.slice Ao46 t700.length co46 : Value).ownBlock ∧ some k_ ≠ (.slice Ao47 t705.length co47 : Value).ownBlock ∧ some k_ ≠ (v725 : Value).ownBlock) (.slice Ao19 t688.length co19) t688) := ⟨by (with_reducible repeat (first | apply Kd.R_alloc | apply Kd.R_drewN | apply Kd.R_drew)); exact Kd.R_mono (Kd.R_far (p := ⟨gb736, 7, none⟩) (Kd.R_far (p := ⟨gb736, 6, none⟩) (Kd.R_far (p := ⟨gb736, 5, none⟩) (Kd.R_far (p := ⟨gb736, 4, none⟩) (Kd.R_far (p := ⟨gb736, 3, none⟩) (Kd.R_far (p := ⟨gb736, 2, none⟩) (Kd.R_far (p := ⟨gb736, 1, none⟩) (Kd.R_far (p := ⟨gb736, 0, none⟩) (Kd.R_types HO_695005.1 BK736.1 (by decide)) (fun _ hk => hk.2) (.int .i64 t728)) (fun _ hk => hk.2) (.int .i64 t729)) (fun _ hk => hk.2) (.int .i64 t730)) (fun _ hk => hk.2) (.int .i64 t731)) (fun _ hk => hk.2) (.int .i64 t732)) (fun _ hk => hk.2) (.int .i64 t733)) (fun _ hk => hk.2) (.int .i64 t734)) (fun _ hk => hk.2) (.int .i64 t735)) (fun _ hk => ⟨hk.1.1.1, ⟨hk.1.1.2.1, ⟨hk.1.1.2.2.1, ⟨hk.1.1.2.2.2.1, ⟨hk.1.1.2.2.2.2, hk.1.2⟩⟩⟩⟩⟩)⟩
              have n4_ : Aside0 (Kd.R (Kd.int .i64) 3 ((((((((w82.setCell ⟨gb736, 0, none⟩ (.int .i64 t728)).setCell ⟨gb736, 1, none⟩ (.int .i64 t729)).setCell ⟨gb736, 2, none⟩ (.int .i64 t730)).setCell ⟨gb736, 3, none⟩ (.int .i64 t731)).setCell ⟨gb736, 4, none⟩ (.int .i64 t732)).setCell ⟨gb736, 5, none⟩ (.int .i64 t733)).setCell ⟨gb736, 6, none⟩ (.int .i64 t734)).setCell ⟨gb736, 7, none⟩ (.int .i64 t735)) w.heap.size (fun k_ => some k_ ≠ (.slice Ao11 t669.length co11 : Value).ownBlock ∧ some k_ ≠ (.slice Ao12 t674.length co12 : Value).ownBlock ∧ some k_ ≠ (.slice Ao18 t683.length co18 : Value).ownBlock ∧ some k_ ≠ (.slice Ao19 t688.length co19 : Value).ownBlock ∧ some k_ ≠ (.slice Ao47 t705.length co47 : Value).ownBlock ∧ some k_ ≠ (v725 : Value).ownBlock) (.slice Ao46 t700.length co46) t700) := ⟨by (with_reducible repeat (first | apply Kd.R_alloc | apply Kd.R_drewN | apply Kd.R_drew)); exact Kd.R_mono (Kd.R_far (p := ⟨gb736, 7, none⟩) (Kd.R_far (p := ⟨gb736, 6, none⟩) (Kd.R_far (p := ⟨gb736, 5, none⟩) (Kd.R_far (p := ⟨gb736, 4, none⟩) (Kd.R_far (p := ⟨gb736, 3, none⟩) (Kd.R_far (p := ⟨gb736, 2, none⟩) (Kd.R_far (p := ⟨gb736, 1, none⟩) (Kd.R_far (p := ⟨gb736, 0, none⟩) (Kd.R_types HO_712002.1 BK736.1 (by decide)) (fun _ hk => hk.2) (.int .i64 t728)) (fun _ hk => hk.2) (.int .i64 t729)) (fun _ hk => hk.2) (.int .i64 t730)) (fun _ hk => hk.2) (.int .i64 t731)) (fun _ hk => hk.2) (.int .i64 t732)) (fun _ hk => hk.2) (.int .i64 t733)) (fun _ hk => hk.2) (.int .i64 t734)) (fun _ hk => hk.2) (.int .i64 t735)) (fun _ hk => ⟨hk.1.1.1, ⟨hk.1.1.2.1, ⟨hk.1.1.2.2.1, ⟨hk.1.1.2.2.2.1, ⟨hk.1.1.2.2.2.2, hk.1.2⟩⟩⟩⟩⟩)⟩
              have n5_ : Aside0 (Kd.R (Kd.int .i64) 3 ((((((((w82.setCell ⟨gb736, 0, none⟩ (.int .i64 t728)).setCell ⟨gb736, 1, none⟩ (.int .i64 t729)).setCell ⟨gb736, 2, none⟩ (.int .i64 t730)).setCell ⟨gb736, 3, none⟩ (.int .i64 t731)).setCell ⟨gb736, 4, none⟩ (.int .i64 t732)).setCell ⟨gb736, 5, none⟩ (.int .i64 t733)).setCell ⟨gb736, 6, none⟩ (.int .i64 t734)).setCell ⟨gb736, 7, none⟩ (.int .i64 t735)) w.heap.size (fun k_ => some k_ ≠ (.slice Ao11 t669.length co11 : Value).ownBlock ∧ some k_ ≠ (.slice Ao12 t674.length co12 : Value).ownBlock ∧ some k_ ≠ (.slice Ao18 t683.length co18 : Value).ownBlock ∧ some k_ ≠ (.slice Ao19 t688.length co19 : Value).ownBlock ∧ some k_ ≠ (.slice Ao46 t700.length co46 : Value).ownBlock ∧ some k_ ≠ (v725 : Value).ownBlock) (.slice Ao47 t705.length co47) t705) := ⟨by (with_reducible repeat (first | apply Kd.R_alloc | apply Kd.R_drewN | apply Kd.R_drew)); exact Kd.R_mono (Kd.R_far (p := ⟨gb736, 7, none⟩) (Kd.R_far (p := ⟨gb736, 6, none⟩) (Kd.R_far (p := ⟨gb736, 5, none⟩) (Kd.R_far (p := ⟨gb736, 4, none⟩) (Kd.R_far (p := ⟨gb736, 3, none⟩) (Kd.R_far (p := ⟨gb736, 2, none⟩) (Kd.R_far (p := ⟨gb736, 1, none⟩) (Kd.R_far (p := ⟨gb736, 0, none⟩) (Kd.R_types HO_712005.1 BK736.1 (by decide)) (fun _ hk => hk.2) (.int .i64 t728)) (fun _ hk => hk.2) (.int .i64 t729)) (fun _ hk => hk.2) (.int .i64 t730)) (fun _ hk => hk.2) (.int .i64 t731)) (fun _ hk => hk.2) (.int .i64 t732)) (fun _ hk => hk.2) (.int .i64 t733)) (fun _ hk => hk.2) (.int .i64 t734)) (fun _ hk => hk.2) (.int .i64 t735)) (fun _ hk => ⟨hk.1.1.1, ⟨hk.1.1.2.1, ⟨hk.1.1.2.2.1, ⟨hk.1.1.2.2.2.1, ⟨hk.1.1.2.2.2.2, hk.1.2⟩⟩⟩⟩⟩)⟩
              have n6_ : Aside0 (Kd.R (Kd.int .i64) 3 ((((((((w82.setCell ⟨gb736, 0, none⟩ (.int .i64 t728)).setCell ⟨gb736, 1, none⟩ (.int .i64 t729)).setCell ⟨gb736, 2, none⟩ (.int .i64 t730)).setCell ⟨gb736, 3, none⟩ (.int .i64 t731)).setCell ⟨gb736, 4, none⟩ (.int .i64 t732)).setCell ⟨gb736, 5, none⟩ (.int .i64 t733)).setCell ⟨gb736, 6, none⟩ (.int .i64 t734)).setCell ⟨gb736, 7, none⟩ (.int .i64 t735)) w.heap.size (fun k_ => some k_ ≠ (.slice Ao11 t669.length co11 : Value).ownBlock ∧ some k_ ≠ (.slice Ao12 t674.length co12 : Value).ownBlock ∧ some k_ ≠ (.slice Ao18 t683.length co18 : Value).ownBlock ∧ some k_ ≠ (.slice Ao19 t688.length co19 : Value).ownBlock ∧ some k_ ≠ (.slice Ao46 t700.length co46 : Value).ownBlock ∧ some k_ ≠ (.slice Ao47 t705.length co47 : Value).ownBlock) v725 t723) := ⟨by (with_reducible repeat (first | apply Kd.R_alloc | apply Kd.R_drewN | apply Kd.R_drew)); exact Kd.R_mono (Kd.R_far (p := ⟨gb736, 7, none⟩) (Kd.R_far (p := ⟨gb736, 6, none⟩) (Kd.R_far (p := ⟨gb736, 5, none⟩) (Kd.R_far (p := ⟨gb736, 4, none⟩) (Kd.R_far (p := ⟨gb736, 3, none⟩) (Kd.R_far (p := ⟨gb736, 2, none⟩) (Kd.R_far (p := ⟨gb736, 1, none⟩) (Kd.R_far (p := ⟨gb736, 0, none⟩) (Kd.R_types HO726.1 BK736.1 (by decide)) (fun _ hk => hk.2) (.int .i64 t728)) (fun _ hk => hk.2) (.int .i64 t729)) (fun _ hk => hk.2) (.int .i64 t730)) (fun _ hk => hk.2) (.int .i64 t731)) (fun _ hk => hk.2) (.int .i64 t732)) (fun _ hk => hk.2) (.int .i64 t733)) (fun _ hk => hk.2) (.int .i64 t734)) (fun _ hk => hk.2) (.int .i64 t735)) (fun _ hk => ⟨hk.1.1.1.1.1.1.2, ⟨hk.1.1.1.1.1.2, ⟨hk.1.1.1.1.2, ⟨hk.1.1.1.2, ⟨hk.1.1.2, hk.1.2⟩⟩⟩⟩⟩)⟩
              have n7_ : Aside0 (((((((((w82.setCell ⟨gb736, 0, none⟩ (.int .i64 t728)).setCell ⟨gb736, 1, none⟩ (.int .i64 t729)).setCell ⟨gb736, 2, none⟩ (.int .i64 t730)).setCell ⟨gb736, 3, none⟩ (.int .i64 t731)).setCell ⟨gb736, 4, none⟩ (.int .i64 t732)).setCell ⟨gb736, 5, none⟩ (.int .i64 t733)).setCell ⟨gb736, 6, none⟩ (.int .i64 t734)).setCell ⟨gb736, 7, none⟩ (.int .i64 t735)).heap[gb679]? = some (c284_ t667 t668 Ao11 t669.length co11 t672 t673 Ao12 t674.length co12 t677 t678)) := ⟨bk_ BK679.1⟩
              have n8_ : Aside0 (((((((((w82.setCell ⟨gb736, 0, none⟩ (.int .i64 t728)).setCell ⟨gb736, 1, none⟩ (.int .i64 t729)).setCell ⟨gb736, 2, none⟩ (.int .i64 t730)).setCell ⟨gb736, 3, none⟩ (.int .i64 t731)).setCell ⟨gb736, 4, none⟩ (.int .i64 t732)).setCell ⟨gb736, 5, none⟩ (.int .i64 t733)).setCell ⟨gb736, 6, none⟩ (.int .i64 t734)).setCell ⟨gb736, 7, none⟩ (.int .i64 t735)).heap[gb694]? = some (c284_ t681 t682 Ao18 t683.length co18 t686 t687 Ao19 t688.length co19 t691 t692)) := ⟨bk_ BK694.1⟩
              have n9_ : Aside0 (((((((((w82.setCell ⟨gb736, 0, none⟩ (.int .i64 t728)).setCell ⟨gb736, 1, none⟩ (.int .i64 t729)).setCell ⟨gb736, 2, none⟩ (.int .i64 t730)).setCell ⟨gb736, 3, none⟩ (.int .i64 t731)).setCell ⟨gb736, 4, none⟩ (.int .i64 t732)).setCell ⟨gb736, 5, none⟩ (.int .i64 t733)).setCell ⟨gb736, 6, none⟩ (.int .i64 t734)).setCell ⟨gb736, 7, none⟩ (.int .i64 t735)).heap[gb711]? = some (c284_ t698 t699 Ao46 t700.length co46 t703 t704 Ao47 t705.length co47 t708 t709)) := ⟨bk_ BK711.1⟩
              have n10_ : Aside0 (((((((((w82.setCell ⟨gb736, 0, none⟩ (.int .i64 t728)).setCell ⟨gb736, 1, none⟩ (.int .i64 t729)).setCell ⟨gb736, 2, none⟩ (.int .i64 t730)).setCell ⟨gb736, 3, none⟩ (.int .i64 t731)).setCell ⟨gb736, 4, none⟩ (.int .i64 t732)).setCell ⟨gb736, 5, none⟩ (.int .i64 t733)).setCell ⟨gb736, 6, none⟩ (.int .i64 t734)).setCell ⟨gb736, 7, none⟩ (.int .i64 t735)).heap[gb736]? = some (c285_ t728 t729 t730 t731 t732 t733 t734 t735)) := ⟨bk_ BK736.1⟩
              have n11_ : Aside0 (Below w.heap.size w ((((((((w82.setCell ⟨gb736, 0, none⟩ (.int .i64 t728)).setCell ⟨gb736, 1, none⟩ (.int .i64 t729)).setCell ⟨gb736, 2, none⟩ (.int .i64 t730)).setCell ⟨gb736, 3, none⟩ (.int .i64 t731)).setCell ⟨gb736, 4, none⟩ (.int .i64 t732)).setCell ⟨gb736, 5, none⟩ (.int .i64 t733)).setCell ⟨gb736, 6, none⟩ (.int .i64 t734)).setCell ⟨gb736, 7, none⟩ (.int .i64 t735))) := ⟨wB_⟩
              (try clear HO_680002)
              (try clear HO_680005)
              (try clear HO_695002)
              (try clear HO_695005)
              (try clear HO_712002)
              (try clear HO_712005)
              (try clear HO726)
              (try clear BK679)
              (try clear BK694)
              (try clear BK711)
              (try clear BK736)
              (try clear HB)
              generalize ((((((((w82.setCell ⟨gb736, 0, none⟩ (.int .i64 t728)).setCell ⟨gb736, 1, none⟩ (.int .i64 t729)).setCell ⟨gb736, 2, none⟩ (.int .i64 t730)).setCell ⟨gb736, 3, none⟩ (.int .i64 t731)).setCell ⟨gb736, 4, none⟩ (.int .i64 t732)).setCell ⟨gb736, 5, none⟩ (.int .i64 t733)).setCell ⟨gb736, 6, none⟩ (.int .i64 t734)).setCell ⟨gb736, 7, none⟩ (.int .i64 t735)) = w87 at n0_ n1_ n2_ n3_ n4_ n5_ n6_ n7_ n8_ n9_ n10_ n11_ ⊢
              have HO_680002 := n0_
              have HO_680005 := n1_
              have HO_695002 := n2_
              have HO_695005 := n3_
              have HO_712002 := n4_
              have HO_712005 := n5_
              have HO726 := n6_
              have BK679 := n7_
              have BK694 := n8_
              have BK711 := n9_
              have BK736 := n10_
              have HB := n11_
              clear n0_ n1_ n2_ n3_ n4_ n5_ n6_ n7_ n8_ n9_ n10_ n11_
              replace HO_680002 := o_ (Kd.R_drew HO_680002.1)
              replace HO_680005 := o_ (Kd.R_drew HO_680005.1)
              replace HO_695002 := o_ (Kd.R_drew HO_695002.1)
              replace HO_695005 := o_ (Kd.R_drew HO_695005.1)
              replace HO_712002 := o_ (Kd.R_drew HO_712002.1)
              replace HO_712005 := o_ (Kd.R_drew HO_712005.1)
              replace HO726 := o_ (Kd.R_drew HO726.1)
              replace BK679 := o_ (blk_drew BK679.1)
              replace BK694 := o_ (blk_drew BK694.1)
              replace BK711 := o_ (blk_drew BK711.1)
              replace BK736 := o_ (blk_drew BK736.1)
              replace HB := o_ (below_drew1 HB.1)
              obtain ⟨Ao89, co89, eo89⟩ := Kd.R_slice HO726.1
              (first | subst eo89 | (injection eo89 with f1_ f2_ f3_; have f4_ := f1_.symm; have f5_ := f3_.symm; clear f1_ f2_ f3_; subst f4_; subst f5_))
              refine start_ (n := 29) (S := fun w' => q3e_ w' gb736 t728 t729 t730 t731 t732 t733 t734 t735) (ds := []) M4_0 (by kernel_rfl) rfl rfl ⟨(blk_cell BK736.1 0).trans rfl, (blk_cell BK736.1 1).trans rfl, (blk_cell BK736.1 2).trans rfl, (blk_cell BK736.1 3).trans rfl, (blk_cell BK736.1 4).trans rfl, (blk_cell BK736.1 5).trans rfl, (blk_cell BK736.1 6).trans rfl, (blk_cell BK736.1 7).trans rfl⟩ (fun hHeld => ?_); refine with_tabW laws_FnForms.tab19 laws_FnForms.bits19 (fun HT_ HW_ => ?_)
              generalize w87.drew = w88 at HO_680002 HO_680005 HO_695002 HO_695005 HO_712002 HO_712005 HO726 BK679 BK694 BK711 BK736 HB hHeld ⊢
              refine pu_ 0 (some 81) M4_1 HT_ ?_
              refine pu_ 1 (some 82) M4_2 HT_ ?_
              refine pu_ 2 (some 83) M4_3 HT_ ?_
              refine pu_ 3 (some 84) M4_4 HT_ ?_
              refine pu_ 5 (some 86) M4_5 HT_ ?_
              refine one_ (i := 4) (N := some 85) M4_6 rfl rfl (one_of HT_.1 (by kernel_rfl)) (by decide) (fun K hK => ?_)
              refine goes_ Tryd.func18 (by kernel_rfl) rfl #[.slice Ao89 t723.length co89] (by rfl) rfl rfl ma_ ?_
              with_reducible refine (impl_ListText.calls kj57 _ _ t723 t737 _ ?side1 ?side2 A72.1 (TB_.below wB_)).mono ?_
              (case side1 => exact cd_ (Kd.R_reads' HO726.1).2.2)
              (case side2 => exact (Kd.R_reads' HO726.1).2.1)
              rintro e w90 ⟨rfl, hb⟩
              refine ⟨_, rfl, ?_⟩
              replace HO_680002 := o_ (Kd.R_below (rd_ HO_680002.1) hb)
              replace HO_680005 := o_ (Kd.R_below (rd_ HO_680005.1) hb)
              replace HO_695002 := o_ (Kd.R_below (rd_ HO_695002.1) hb)
              replace HO_695005 := o_ (Kd.R_below (rd_ HO_695005.1) hb)
              replace HO_712002 := o_ (Kd.R_below (rd_ HO_712002.1) hb)
              replace HO_712005 := o_ (Kd.R_below (rd_ HO_712005.1) hb)
              replace HO726 := o_ (Kd.R_below (rd_ HO726.1) hb)
              replace BK679 := o_ (blk_below (bd_ BK679.1) hb)
              replace BK694 := o_ (blk_below (bd_ BK694.1) hb)
              replace BK711 := o_ (blk_below (bd_ BK711.1) hb)
              replace BK736 := o_ (blk_below (bd_ BK736.1) hb)
              replace HB := o_ (below_step wB_ hb)
              (try clear hb)
              (try clear hb2)
              (try clear hk)
              (try clear hi)
              refine hK.out _ _ ⟨(blk_cell BK736.1 0).trans rfl, (blk_cell BK736.1 1).trans rfl, (blk_cell BK736.1 2).trans rfl, (blk_cell BK736.1 3).trans rfl, (blk_cell BK736.1 4).trans rfl, (blk_cell BK736.1 5).trans rfl, (blk_cell BK736.1 6).trans rfl, (blk_cell BK736.1 7).trans rfl⟩ (fun hHeld => ?_)
              clear hK K
              refine norm_ (a' := ?_) ?_ ?_
              rotate_left
              ·
               show Act.put _ (some 85) _ = _
               simp only [Act.put, P4_1, P4_2, P4_3, i64_w, i32_w]
               rfl
              refine pu_ 6 (some 87) M4_7 HT_ ?_
              refine pu_ 7 (some 88) M4_8 HT_ ?_
              refine pu_ 8 (some 89) M4_9 HT_ ?_
              refine pu_ 9 (some 90) M4_10 HT_ ?_
              refine one_ (i := 10) (N := some 91) M4_11 rfl rfl (one_of HT_.1 (by kernel_rfl)) (by decide) (fun K hK => ?_)
              refine goes_ Tryd.func23 (by kernel_rfl) rfl #[.string t727] (by rfl) rfl rfl ma_ ?_
              with_reducible refine (impl_KindOf.calls kj57 t727 t738 _ A74.1).mono ?_
              rintro e w91 ⟨rfl, hb⟩
              refine ⟨_, rfl, ?_⟩
              replace HO_680002 := o_ (Kd.R_below (rd_ HO_680002.1) hb)
              replace HO_680005 := o_ (Kd.R_below (rd_ HO_680005.1) hb)
              replace HO_695002 := o_ (Kd.R_below (rd_ HO_695002.1) hb)
              replace HO_695005 := o_ (Kd.R_below (rd_ HO_695005.1) hb)
              replace HO_712002 := o_ (Kd.R_below (rd_ HO_712002.1) hb)
              replace HO_712005 := o_ (Kd.R_below (rd_ HO_712005.1) hb)
              replace HO726 := o_ (Kd.R_below (rd_ HO726.1) hb)
              replace BK679 := o_ (blk_below (bd_ BK679.1) hb)
              replace BK694 := o_ (blk_below (bd_ BK694.1) hb)
              replace BK711 := o_ (blk_below (bd_ BK711.1) hb)
              replace BK736 := o_ (blk_below (bd_ BK736.1) hb)
              replace HB := o_ (below_step wB_ hb)
              (try clear hb)
              (try clear hb2)
              (try clear hk)
              (try clear hi)
              refine hK.out _ _ ⟨(blk_cell BK736.1 0).trans rfl, (blk_cell BK736.1 1).trans rfl, (blk_cell BK736.1 2).trans rfl, (blk_cell BK736.1 3).trans rfl, (blk_cell BK736.1 4).trans rfl, (blk_cell BK736.1 5).trans rfl, (blk_cell BK736.1 6).trans rfl, (blk_cell BK736.1 7).trans rfl⟩ (fun hHeld => ?_)
              clear hK K
              refine norm_ (a' := ?_) ?_ ?_
              rotate_left
              ·
               show Act.put _ (some 91) _ = _
               simp only [Act.put, P4_1, P4_2, P4_3, i64_w, i32_w]
               rfl
              refine pu_ 11 (some 92) M4_12 HT_ ?_
              refine pu_ 12 (some 93) M4_13 HT_ ?_
              refine pn_ 13 (some 94) M4_14 HT_ ?_
              refine pn_ 14 (some 95) M4_15 HT_ ?_
              refine pn_ 15 (some 96) M4_16 HT_ ?_
              refine pn_ 16 (some 97) M4_17 HT_ ?_
              refine pn_ 17 (some 98) M4_18 HT_ ?_
              refine pu_ 18 (some 99) M4_19 HT_ ?_
              refine pu_ 19 (some 100) M4_20 HT_ ?_
              refine pu_ 20 (some 101) M4_21 HT_ ?_
              refine tk_ 21 (some 102) M4_22 HT_ HW_ hHeld ?_
              refine tk_ 23 (some 104) M4_23 HT_ HW_ hHeld ?_
              refine one_ (i := 22) (N := some 103) M4_24 rfl rfl (one_of HT_.1 (by kernel_rfl)) (by decide) (fun K hK => ?_)
              refine goes_ Tryd.func25 (by kernel_rfl) rfl #[.agg #[.int .i64 t728, .int .i64 t729, .int .i64 t730, .int .i64 t731, .int .i64 t732, .int .i64 t733, .int .i64 t734, .int .i64 t735]] (by rfl) rfl rfl ma_ ?_
              with_reducible refine (impl_IsFind.calls t728 t729 t730 t731 t732 t733 t734 t735 t739 _ A76.1).mono ?_
              rintro e w92 ⟨rfl, hb⟩
              refine ⟨_, rfl, ?_⟩
              replace HO_680002 := o_ (Kd.R_below (rd_ HO_680002.1) hb)
              replace HO_680005 := o_ (Kd.R_below (rd_ HO_680005.1) hb)
              replace HO_695002 := o_ (Kd.R_below (rd_ HO_695002.1) hb)
              replace HO_695005 := o_ (Kd.R_below (rd_ HO_695005.1) hb)
              replace HO_712002 := o_ (Kd.R_below (rd_ HO_712002.1) hb)
              replace HO_712005 := o_ (Kd.R_below (rd_ HO_712005.1) hb)
              replace HO726 := o_ (Kd.R_below (rd_ HO726.1) hb)
              replace BK679 := o_ (blk_below (bd_ BK679.1) hb)
              replace BK694 := o_ (blk_below (bd_ BK694.1) hb)
              replace BK711 := o_ (blk_below (bd_ BK711.1) hb)
              replace BK736 := o_ (blk_below (bd_ BK736.1) hb)
              replace HB := o_ (below_step wB_ hb)
              (try clear hb)
              (try clear hb2)
              (try clear hk)
              (try clear hi)
              refine hK.out _ _ ⟨(blk_cell BK736.1 0).trans rfl, (blk_cell BK736.1 1).trans rfl, (blk_cell BK736.1 2).trans rfl, (blk_cell BK736.1 3).trans rfl, (blk_cell BK736.1 4).trans rfl, (blk_cell BK736.1 5).trans rfl, (blk_cell BK736.1 6).trans rfl, (blk_cell BK736.1 7).trans rfl⟩ (fun hHeld => ?_)
              clear hK K
              refine norm_ (a' := ?_) ?_ ?_
              rotate_left
              ·
               show Act.put _ (some 103) _ = _
               simp only [Act.put, P4_1, P4_2, P4_3, i64_w, i32_w]
               rfl
              refine one_ (i := 24) (N := some 105) M4_25 rfl rfl (one_of HT_.1 (by kernel_rfl)) (by decide) (fun K hK => ?_)
              refine goes_ Tryd.func26 (by kernel_rfl) rfl #[.agg #[.int .i64 t728, .int .i64 t729, .int .i64 t730, .int .i64 t731, .int .i64 t732, .int .i64 t733, .int .i64 t734, .int .i64 t735]] (by rfl) rfl rfl ma_ ?_
              with_reducible refine (impl_FindText.calls t728 t729 t730 t731 t732 t733 t734 t735 t740 _ A77.1 (TB_.below wB_)).mono ?_
              rintro e w93 ⟨rfl, hb⟩
              refine ⟨_, rfl, ?_⟩
              replace HO_680002 := o_ (Kd.R_below (rd_ HO_680002.1) hb)
              replace HO_680005 := o_ (Kd.R_below (rd_ HO_680005.1) hb)
              replace HO_695002 := o_ (Kd.R_below (rd_ HO_695002.1) hb)
              replace HO_695005 := o_ (Kd.R_below (rd_ HO_695005.1) hb)
              replace HO_712002 := o_ (Kd.R_below (rd_ HO_712002.1) hb)
              replace HO_712005 := o_ (Kd.R_below (rd_ HO_712005.1) hb)
              replace HO726 := o_ (Kd.R_below (rd_ HO726.1) hb)
              replace BK679 := o_ (blk_below (bd_ BK679.1) hb)
              replace BK694 := o_ (blk_below (bd_ BK694.1) hb)
              replace BK711 := o_ (blk_below (bd_ BK711.1) hb)
              replace BK736 := o_ (blk_below (bd_ BK736.1) hb)
              replace HB := o_ (below_step wB_ hb)
              (try clear hb)
              (try clear hb2)
              (try clear hk)
              (try clear hi)
              refine hK.out _ _ ⟨(blk_cell BK736.1 0).trans rfl, (blk_cell BK736.1 1).trans rfl, (blk_cell BK736.1 2).trans rfl, (blk_cell BK736.1 3).trans rfl, (blk_cell BK736.1 4).trans rfl, (blk_cell BK736.1 5).trans rfl, (blk_cell BK736.1 6).trans rfl, (blk_cell BK736.1 7).trans rfl⟩ (fun hHeld => ?_)
              clear hK K
              refine norm_ (a' := ?_) ?_ ?_
              rotate_left
              ·
               show Act.put _ (some 105) _ = _
               simp only [Act.put, P4_1, P4_2, P4_3, i64_w, i32_w]
               rfl
              refine pu_ 25 (some 106) M4_26 HT_ ?_
              refine pu_ 26 (some 107) M4_27 HT_ ?_
              refine pu_ 27 (some 108) M4_28 HT_ ?_
              refine pu_ 28 (some 2) M4_29 HT_ ?_
              refine done_ (done_of HT_.1 (by kernel_rfl)) ?_
              try go_wp2
              go_ret
              exact ⟨(by first | (simp at Hr_ ⊢; exact Hr_.trans (ne_emp _)) | (simp_all; exact ne_emp _)), wB_⟩
             ·
              rw [if_neg c75] at H
              have c75b0 := beq_eq_false_iff_ne.mpr c75
              have c75b1 := bne_iff_ne.mpr c75
              replace H := Option.bind_eq_some_iff.mp H
              obtain ⟨t741, A940, H⟩ := H
              try dsimp only at H
              have A94 := o_ A940
              clear A940
              replace H := Option.bind_eq_some_iff.mp H
              obtain ⟨t742, A950, H⟩ := H
              try dsimp only at H
              have A95 := o_ A950
              clear A950
              by_cases c96 : t742.toList = t727.toList
              ·
               rw [if_pos c96] at H
               have c96b0 := beq_iff_eq.mpr c96
               have c96b1 := bne_eq_false_iff_eq.mpr c96
               clear c96
               replace H := Option.bind_eq_some_iff.mp H
               obtain ⟨t743, A970, H⟩ := H
               try dsimp only at H
               have A97 := o_ A970
               clear A970
               replace H := Option.bind_eq_some_iff.mp H
               obtain ⟨t744, A980, H⟩ := H
               try dsimp only at H
               have A98 := o_ A980
               clear A980
               first | (obtain rfl := Option.some.inj H) | (have Hr_ := Option.some.inj H; clear H)
               try go_wp2_with (first | ((with_reducible refine g_ 20 ?_); refine gl_ (some 71) Tryd.func20 #[.slice A0 l0.length c0] ?_; (with_reducible refine (spec_DrawParseList.calls kj57 _ _ l0 t722 _ ?side1 ?side2 A67.1).mono ?_); (case side1 => exact cd_ (Kd.C_below HR0.1 HB.1)); (case side2 => exact HC0.1); rintro e w99 ⟨rfl, hb⟩; refine ⟨_, rfl, ?_⟩; replace HO_680002 := o_ (Kd.R_below (rd_ HO_680002.1) hb); replace HO_680005 := o_ (Kd.R_below (rd_ HO_680005.1) hb); replace HO_695002 := o_ (Kd.R_below (rd_ HO_695002.1) hb); replace HO_695005 := o_ (Kd.R_below (rd_ HO_695005.1) hb); replace HO_712002 := o_ (Kd.R_below (rd_ HO_712002.1) hb); replace HO_712005 := o_ (Kd.R_below (rd_ HO_712005.1) hb); replace BK679 := o_ (blk_below (bd_ BK679.1) hb); replace BK694 := o_ (blk_below (bd_ BK694.1) hb); replace BK711 := o_ (blk_below (bd_ BK711.1) hb); replace HB := o_ (below_step wB_ hb); (try clear hb)) | ((with_reducible refine g_ 17 ?_); refine gl_ (some 74) Tryd.func17 #[.string t722] ?_; (with_reducible refine (impl_ParseList.calls kj57 t722 t723 true _ A68.1 (TB_.below wB_)).mono ?_); rintro e w100 ⟨v725, rfl, ho0, hb⟩; refine ⟨_, rfl, ?_⟩; have HO726 := o_ (Kd.R_lower (Kd.R_new' (Kd.R_new' (Kd.R_new' (Kd.R_new' (Kd.R_new' (Kd.R_new' ho0 (Kd.R_lt (rd_ HO_680002.1))) (Kd.R_lt (rd_ HO_680005.1))) (Kd.R_lt (rd_ HO_695002.1))) (Kd.R_lt (rd_ HO_695005.1))) (Kd.R_lt (rd_ HO_712002.1))) (Kd.R_lt (rd_ HO_712005.1))) (below_size wB_)); replace HO_680002 := o_ (Kd.R_elder' (rd_ HO_680002.1) (Kd.R_base ho0) hb); replace HO_680005 := o_ (Kd.R_elder' (rd_ HO_680005.1) (Kd.R_base ho0) hb); replace HO_695002 := o_ (Kd.R_elder' (rd_ HO_695002.1) (Kd.R_base ho0) hb); replace HO_695005 := o_ (Kd.R_elder' (rd_ HO_695005.1) (Kd.R_base ho0) hb); replace HO_712002 := o_ (Kd.R_elder' (rd_ HO_712002.1) (Kd.R_base ho0) hb); replace HO_712005 := o_ (Kd.R_elder' (rd_ HO_712005.1) (Kd.R_base ho0) hb); replace BK679 := o_ (blk_below (bd_ BK679.1) hb); replace BK694 := o_ (blk_below (bd_ BK694.1) hb); replace BK711 := o_ (blk_below (bd_ BK711.1) hb); replace HB := o_ (below_step wB_ hb); (try clear hb ho0)) | ((with_reducible refine g_ 21 ?_); refine gl_ (some 78) Tryd.func21 #[.slice A0 l0.length c0] ?_; (with_reducible refine (spec_DrawKindOf.calls kj57 _ _ l0 t727 _ ?side1 ?side2 A69.1).mono ?_); (case side1 => exact cd_ (Kd.C_below HR0.1 HB.1)); (case side2 => exact HC0.1); rintro e w101 ⟨rfl, hb⟩; refine ⟨_, rfl, ?_⟩; replace HO_680002 := o_ (Kd.R_below (rd_ HO_680002.1) hb); replace HO_680005 := o_ (Kd.R_below (rd_ HO_680005.1) hb); replace HO_695002 := o_ (Kd.R_below (rd_ HO_695002.1) hb); replace HO_695005 := o_ (Kd.R_below (rd_ HO_695005.1) hb); replace HO_712002 := o_ (Kd.R_below (rd_ HO_712002.1) hb); replace HO_712005 := o_ (Kd.R_below (rd_ HO_712005.1) hb); replace HO726 := o_ (Kd.R_below (rd_ HO726.1) hb); replace BK679 := o_ (blk_below (bd_ BK679.1) hb); replace BK694 := o_ (blk_below (bd_ BK694.1) hb); replace BK711 := o_ (blk_below (bd_ BK711.1) hb); replace HB := o_ (below_step wB_ hb); (try clear hb)) | ((with_reducible refine g_ 22 ?_); refine gl_ (some 80) Tryd.func22 #[.slice A0 l0.length c0] ?_; (with_reducible refine (spec_DrawFindText.calls kj57 _ _ l0 t728 t729 t730 t731 t732 t733 t734 t735 _ ?side1 ?side2 A70.1).mono ?_); (case side1 => exact cd_ (Kd.C_below HR0.1 HB.1)); (case side2 => exact HC0.1); rintro e w102 ⟨rfl, hb⟩; refine ⟨_, rfl, ?_⟩; replace HO_680002 := o_ (Kd.R_below (rd_ HO_680002.1) hb); replace HO_680005 := o_ (Kd.R_below (rd_ HO_680005.1) hb); replace HO_695002 := o_ (Kd.R_below (rd_ HO_695002.1) hb); replace HO_695005 := o_ (Kd.R_below (rd_ HO_695005.1) hb); replace HO_712002 := o_ (Kd.R_below (rd_ HO_712002.1) hb); replace HO_712005 := o_ (Kd.R_below (rd_ HO_712005.1) hb); replace HO726 := o_ (Kd.R_below (rd_ HO726.1) hb); replace BK679 := o_ (blk_below (bd_ BK679.1) hb); replace BK694 := o_ (blk_below (bd_ BK694.1) hb); replace BK711 := o_ (blk_below (bd_ BK711.1) hb); replace HB := o_ (below_step wB_ hb); (try clear hb)) | ((with_reducible refine gate_dst (N := 16) rfl ?_); refine bx_ 16 #[.int .i64 0, .int .i64 0, .int .i64 0, .int .i64 0, .int .i64 0, .int .i64 0, .int .i64 0, .int .i64 0] 44 ?_; intro gb736 hg w103 hbox hb; replace HO_680002 := o_ (Kd.R_below (rd_ HO_680002.1) hb); replace HO_680005 := o_ (Kd.R_below (rd_ HO_680005.1) hb); replace HO_695002 := o_ (Kd.R_below (rd_ HO_695002.1) hb); replace HO_695005 := o_ (Kd.R_below (rd_ HO_695005.1) hb); replace HO_712002 := o_ (Kd.R_below (rd_ HO_712002.1) hb); replace HO_712005 := o_ (Kd.R_below (rd_ HO_712005.1) hb); replace HO726 := o_ (Kd.R_below (rd_ HO726.1) hb); have BK736 := o_ (hbox); have GW736 := o_ ((y328_ : w.heap.size ≤ gb736)); replace HB := o_ (below_step wB_ hb); have GE736 := GW736; have NB679_736 := o_ ((y316_ : gb679 ≠ gb736)); have NB736_679 := o_ ((y317_ : gb736 ≠ gb679)); replace BK679 := o_ (blk_below (bd_ BK679.1) hb); have NB694_736 := o_ ((y320_ : gb694 ≠ gb736)); have NB736_694 := o_ ((y321_ : gb736 ≠ gb694)); replace BK694 := o_ (blk_below (bd_ BK694.1) hb); have NB711_736 := o_ ((y324_ : gb711 ≠ gb736)); have NB736_711 := o_ ((y325_ : gb736 ≠ gb711)); replace BK711 := o_ (blk_below (bd_ BK711.1) hb); clear hb hbox hg; have hnb104 := NB736_679.1; have hnc104 := NB679_736.1; have hnb105 := NB736_694.1; have hnc105 := NB694_736.1; have hnb106 := NB736_711.1; have hnc106 := NB711_736.1; obtain ⟨hcz107_0, hcz107_1, hcz107_2, hcz107_3, hcz107_4, hcz107_5, hcz107_6, hcz107_7⟩ := e287_ BK736.1; obtain ⟨hfz107_0, hfz107_1, hfz107_2, hfz107_3, hfz107_4, hfz107_5, hfz107_6, hfz107_7⟩ := z288_ BK736.1))
               have n0_ : Aside0 (Kd.R (Kd.int .i64) 3 ((((((((w103.setCell ⟨gb736, 0, none⟩ (.int .i64 t728)).setCell ⟨gb736, 1, none⟩ (.int .i64 t729)).setCell ⟨gb736, 2, none⟩ (.int .i64 t730)).setCell ⟨gb736, 3, none⟩ (.int .i64 t731)).setCell ⟨gb736, 4, none⟩ (.int .i64 t732)).setCell ⟨gb736, 5, none⟩ (.int .i64 t733)).setCell ⟨gb736, 6, none⟩ (.int .i64 t734)).setCell ⟨gb736, 7, none⟩ (.int .i64 t735)) w.heap.size (fun k_ => some k_ ≠ (.slice Ao12 t674.length co12 : Value).ownBlock ∧ some k_ ≠ (.slice Ao18 t683.length co18 : Value).ownBlock ∧ some k_ ≠ (.slice Ao19 t688.length co19 : Value).ownBlock ∧ some k_ ≠ (.slice Ao46 t700.length co46 : Value).ownBlock ∧ some k_ ≠ (.slice Ao47 t705.length co47 : Value).ownBlock ∧ some k_ ≠ (v725 : Value).ownBlock) (.slice Ao11 t669.length co11) t669) := ⟨by (with_reducible repeat (first | apply Kd.R_alloc | apply Kd.R_drewN | apply Kd.R_drew)); exact Kd.R_mono (Kd.R_far (p := ⟨gb736, 7, none⟩) (Kd.R_far (p := ⟨gb736, 6, none⟩) (Kd.R_far (p := ⟨gb736, 5, none⟩) (Kd.R_far (p := ⟨gb736, 4, none⟩) (Kd.R_far (p := ⟨gb736, 3, none⟩) (Kd.R_far (p := ⟨gb736, 2, none⟩) (Kd.R_far (p := ⟨gb736, 1, none⟩) (Kd.R_far (p := ⟨gb736, 0, none⟩) (Kd.R_types HO_680002.1 BK736.1 (by decide)) (fun _ hk => hk.2) (.int .i64 t728)) (fun _ hk => hk.2) (.int .i64 t729)) (fun _ hk => hk.2) (.int .i64 t730)) (fun _ hk => hk.2) (.int .i64 t731)) (fun _ hk => hk.2) (.int .i64 t732)) (fun _ hk => hk.2) (.int .i64 t733)) (fun _ hk => hk.2) (.int .i64 t734)) (fun _ hk => hk.2) (.int .i64 t735)) (fun _ hk => ⟨hk.1.1.1, ⟨hk.1.1.2.1, ⟨hk.1.1.2.2.1, ⟨hk.1.1.2.2.2.1, ⟨hk.1.1.2.2.2.2, hk.1.2⟩⟩⟩⟩⟩)⟩
               have n1_ : Aside0 (Kd.R (Kd.int .i64) 3 ((((((((w103.setCell ⟨gb736, 0, none⟩ (.int .i64 t728)).setCell ⟨gb736, 1, none⟩ (.int .i64 t729)).setCell ⟨gb736, 2, none⟩ (.int .i64 t730)).setCell ⟨gb736, 3, none⟩ (.int .i64 t731)).setCell ⟨gb736, 4, none⟩ (.int .i64 t732)).setCell ⟨gb736, 5, none⟩ (.int .i64 t733)).setCell ⟨gb736, 6, none⟩ (.int .i64 t734)).setCell ⟨gb736, 7, none⟩ (.int .i64 t735)) w.heap.size (fun k_ => some k_ ≠ (.slice Ao11 t669.length co11 : Value).ownBlock ∧ some k_ ≠ (.slice Ao18 t683.length co18 : Value).ownBlock ∧ some k_ ≠ (.slice Ao19 t688.length co19 : Value).ownBlock ∧ some k_ ≠ (.slice Ao46 t700.length co46 : Value).ownBlock ∧ some k_ ≠ (.slice Ao47 t705.length co47 : Value).ownBlock ∧ some k_ ≠ (v725 : Value).ownBlock) (.slice Ao12 t674.length co12) t674) := ⟨by (with_reducible repeat (first | apply Kd.R_alloc | apply Kd.R_drewN | apply Kd.R_drew)); exact Kd.R_mono (Kd.R_far (p := ⟨gb736, 7, none⟩) (Kd.R_far (p := ⟨gb736, 6, none⟩) (Kd.R_far (p := ⟨gb736, 5, none⟩) (Kd.R_far (p := ⟨gb736, 4, none⟩) (Kd.R_far (p := ⟨gb736, 3, none⟩) (Kd.R_far (p := ⟨gb736, 2, none⟩) (Kd.R_far (p := ⟨gb736, 1, none⟩) (Kd.R_far (p := ⟨gb736, 0, none⟩) (Kd.R_types HO_680005.1 BK736.1 (by decide)) (fun _ hk => hk.2) (.int .i64 t728)) (fun _ hk => hk.2) (.int .i64 t729)) (fun _ hk => hk.2) (.int .i64 t730)) (fun _ hk => hk.2) (.int .i64 t731)) (fun _ hk => hk.2) (.int .i64 t732)) (fun _ hk => hk.2) (.int .i64 t733)) (fun _ hk => hk.2) (.int .i64 t734)) (fun _ hk => hk.2) (.int .i64 t735)) (fun _ hk => ⟨hk.1.1.1, ⟨hk.1.1.2.1, ⟨hk.1.1.2.2.1, ⟨hk.1.1.2.2.2.1, ⟨hk.1.1.2.2.2.2, hk.1.2⟩⟩⟩⟩⟩)⟩
               have n2_ : Aside0 (Kd.R (Kd.int .i64) 3 ((((((((w103.setCell ⟨gb736, 0, none⟩ (.int .i64 t728)).setCell ⟨gb736, 1, none⟩ (.int .i64 t729)).setCell ⟨gb736, 2, none⟩ (.int .i64 t730)).setCell ⟨gb736, 3, none⟩ (.int .i64 t731)).setCell ⟨gb736, 4, none⟩ (.int .i64 t732)).setCell ⟨gb736, 5, none⟩ (.int .i64 t733)).setCell ⟨gb736, 6, none⟩ (.int .i64 t734)).setCell ⟨gb736, 7, none⟩ (.int .i64 t735)) w.heap.size (fun k_ => some k_ ≠ (.slice Ao11 t669.length co11 : Value).ownBlock ∧ some k_ ≠ (.slice Ao12 t674.length co12 : Value).ownBlock ∧ some k_ ≠ (.slice Ao19 t688.length co19 : Value).ownBlock ∧ some k_ ≠ (.slice Ao46 t700.length co46 : Value).ownBlock ∧ some k_ ≠ (.slice Ao47 t705.length co47 : Value).ownBlock ∧ some k_ ≠ (v725 : Value).ownBlock) (.slice Ao18 t683.length co18) t683) := ⟨by (with_reducible repeat (first | apply Kd.R_alloc | apply Kd.R_drewN | apply Kd.R_drew)); exact Kd.R_mono (Kd.R_far (p := ⟨gb736, 7, none⟩) (Kd.R_far (p := ⟨gb736, 6, none⟩) (Kd.R_far (p := ⟨gb736, 5, none⟩) (Kd.R_far (p := ⟨gb736, 4, none⟩) (Kd.R_far (p := ⟨gb736, 3, none⟩) (Kd.R_far (p := ⟨gb736, 2, none⟩) (Kd.R_far (p := ⟨gb736, 1, none⟩) (Kd.R_far (p := ⟨gb736, 0, none⟩) (Kd.R_types HO_695002.1 BK736.1 (by decide)) (fun _ hk => hk.2) (.int .i64 t728)) (fun _ hk => hk.2) (.int .i64 t729)) (fun _ hk => hk.2) (.int .i64 t730)) (fun _ hk => hk.2) (.int .i64 t731)) (fun _ hk => hk.2) (.int .i64 t732)) (fun _ hk => hk.2) (.int .i64 t733)) (fun _ hk => hk.2) (.int .i64 t734)) (fun _ hk => hk.2) (.int .i64 t735)) (fun _ hk => ⟨hk.1.1.1, ⟨hk.1.1.2.1, ⟨hk.1.1.2.2.1, ⟨hk.1.1.2.2.2.1, ⟨hk.1.1.2.2.2.2, hk.1.2⟩⟩⟩⟩⟩)⟩
               have n3_ : Aside0 (Kd.R (Kd.int .i64) 3 ((((((((w103.setCell ⟨gb736, 0, none⟩ (.int .i64 t728)).setCell ⟨gb736, 1, none⟩ (.int .i64 t729)).setCell ⟨gb736, 2, none⟩ (.int .i64 t730)).setCell ⟨gb736, 3, none⟩ (.int .i64 t731)).setCell ⟨gb736, 4, none⟩ (.int .i64 t732)).setCell ⟨gb736, 5, none⟩ (.int .i64 t733)).setCell ⟨gb736, 6, none⟩ (.int .i64 t734)).setCell ⟨gb736, 7, none⟩ (.int .i64 t735)) w.heap.size (fun k_ => some k_ ≠ (.slice Ao11 t669.length co11 : Value).ownBlock ∧ some k_ ≠ (.slice Ao12 t674.length co12 : Value).ownBlock ∧ some k_ ≠ (.slice Ao18 t683.length co18 : Value).ownBlock ∧ some k_ ≠ (.slice Ao46 t700.length co46 : Value).ownBlock ∧ some k_ ≠ (.slice Ao47 t705.length co47 : Value).ownBlock ∧ some k_ ≠ (v725 : Value).ownBlock) (.slice Ao19 t688.length co19) t688) := ⟨by (with_reducible repeat (first | apply Kd.R_alloc | apply Kd.R_drewN | apply Kd.R_drew)); exact Kd.R_mono (Kd.R_far (p := ⟨gb736, 7, none⟩) (Kd.R_far (p := ⟨gb736, 6, none⟩) (Kd.R_far (p := ⟨gb736, 5, none⟩) (Kd.R_far (p := ⟨gb736, 4, none⟩) (Kd.R_far (p := ⟨gb736, 3, none⟩) (Kd.R_far (p := ⟨gb736, 2, none⟩) (Kd.R_far (p := ⟨gb736, 1, none⟩) (Kd.R_far (p := ⟨gb736, 0, none⟩) (Kd.R_types HO_695005.1 BK736.1 (by decide)) (fun _ hk => hk.2) (.int .i64 t728)) (fun _ hk => hk.2) (.int .i64 t729)) (fun _ hk => hk.2) (.int .i64 t730)) (fun _ hk => hk.2) (.int .i64 t731)) (fun _ hk => hk.2) (.int .i64 t732)) (fun _ hk => hk.2) (.int .i64 t733)) (fun _ hk => hk.2) (.int .i64 t734)) (fun _ hk => hk.2) (.int .i64 t735)) (fun _ hk => ⟨hk.1.1.1, ⟨hk.1.1.2.1, ⟨hk.1.1.2.2.1, ⟨hk.1.1.2.2.2.1, ⟨hk.1.1.2.2.2.2, hk.1.2⟩⟩⟩⟩⟩)⟩
               have n4_ : Aside0 (Kd.R (Kd.int .i64) 3 ((((((((w103.setCell ⟨gb736, 0, none⟩ (.int .i64 t728)).setCell ⟨gb736, 1, none⟩ (.int .i64 t729)).setCell ⟨gb736, 2, none⟩ (.int .i64 t730)).setCell ⟨gb736, 3, none⟩ (.int .i64 t731)).setCell ⟨gb736, 4, none⟩ (.int .i64 t732)).setCell ⟨gb736, 5, none⟩ (.int .i64 t733)).setCell ⟨gb736, 6, none⟩ (.int .i64 t734)).setCell ⟨gb736, 7, none⟩ (.int .i64 t735)) w.heap.size (fun k_ => some k_ ≠ (.slice Ao11 t669.length co11 : Value).ownBlock ∧ some k_ ≠ (.slice Ao12 t674.length co12 : Value).ownBlock ∧ some k_ ≠ (.slice Ao18 t683.length co18 : Value).ownBlock ∧ some k_ ≠ (.slice Ao19 t688.length co19 : Value).ownBlock ∧ some k_ ≠ (.slice Ao47 t705.length co47 : Value).ownBlock ∧ some k_ ≠ (v725 : Value).ownBlock) (.slice Ao46 t700.length co46) t700) := ⟨by (with_reducible repeat (first | apply Kd.R_alloc | apply Kd.R_drewN | apply Kd.R_drew)); exact Kd.R_mono (Kd.R_far (p := ⟨gb736, 7, none⟩) (Kd.R_far (p := ⟨gb736, 6, none⟩) (Kd.R_far (p := ⟨gb736, 5, none⟩) (Kd.R_far (p := ⟨gb736, 4, none⟩) (Kd.R_far (p := ⟨gb736, 3, none⟩) (Kd.R_far (p := ⟨gb736, 2, none⟩) (Kd.R_far (p := ⟨gb736, 1, none⟩) (Kd.R_far (p := ⟨gb736, 0, none⟩) (Kd.R_types HO_712002.1 BK736.1 (by decide)) (fun _ hk => hk.2) (.int .i64 t728)) (fun _ hk => hk.2) (.int .i64 t729)) (fun _ hk => hk.2) (.int .i64 t730)) (fun _ hk => hk.2) (.int .i64 t731)) (fun _ hk => hk.2) (.int .i64 t732)) (fun _ hk => hk.2) (.int .i64 t733)) (fun _ hk => hk.2) (.int .i64 t734)) (fun _ hk => hk.2) (.int .i64 t735)) (fun _ hk => ⟨hk.1.1.1, ⟨hk.1.1.2.1, ⟨hk.1.1.2.2.1, ⟨hk.1.1.2.2.2.1, ⟨hk.1.1.2.2.2.2, hk.1.2⟩⟩⟩⟩⟩)⟩
               have n5_ : Aside0 (Kd.R (Kd.int .i64) 3 ((((((((w103.setCell ⟨gb736, 0, none⟩ (.int .i64 t728)).setCell ⟨gb736, 1, none⟩ (.int .i64 t729)).setCell ⟨gb736, 2, none⟩ (.int .i64 t730)).setCell ⟨gb736, 3, none⟩ (.int .i64 t731)).setCell ⟨gb736, 4, none⟩ (.int .i64 t732)).setCell ⟨gb736, 5, none⟩ (.int .i64 t733)).setCell ⟨gb736, 6, none⟩ (.int .i64 t734)).setCell ⟨gb736, 7, none⟩ (.int .i64 t735)) w.heap.size (fun k_ => some k_ ≠ (.slice Ao11 t669.length co11 : Value).ownBlock ∧ some k_ ≠ (.slice Ao12 t674.length co12 : Value).ownBlock ∧ some k_ ≠ (.slice Ao18 t683.length co18 : Value).ownBlock ∧ some k_ ≠ (.slice Ao19 t688.length co19 : Value).ownBlock ∧ some k_ ≠ (.slice Ao46 t700.length co46 : Value).ownBlock ∧ some k_ ≠ (v725 : Value).ownBlock) (.slice Ao47 t705.length co47) t705) := ⟨by (with_reducible repeat (first | apply Kd.R_alloc | apply Kd.R_drewN | apply Kd.R_drew)); exact Kd.R_mono (Kd.R_far (p := ⟨gb736, 7, none⟩) (Kd.R_far (p := ⟨gb736, 6, none⟩) (Kd.R_far (p := ⟨gb736, 5, none⟩) (Kd.R_far (p := ⟨gb736, 4, none⟩) (Kd.R_far (p := ⟨gb736, 3, none⟩) (Kd.R_far (p := ⟨gb736, 2, none⟩) (Kd.R_far (p := ⟨gb736, 1, none⟩) (Kd.R_far (p := ⟨gb736, 0, none⟩) (Kd.R_types HO_712005.1 BK736.1 (by decide)) (fun _ hk => hk.2) (.int .i64 t728)) (fun _ hk => hk.2) (.int .i64 t729)) (fun _ hk => hk.2) (.int .i64 t730)) (fun _ hk => hk.2) (.int .i64 t731)) (fun _ hk => hk.2) (.int .i64 t732)) (fun _ hk => hk.2) (.int .i64 t733)) (fun _ hk => hk.2) (.int .i64 t734)) (fun _ hk => hk.2) (.int .i64 t735)) (fun _ hk => ⟨hk.1.1.1, ⟨hk.1.1.2.1, ⟨hk.1.1.2.2.1, ⟨hk.1.1.2.2.2.1, ⟨hk.1.1.2.2.2.2, hk.1.2⟩⟩⟩⟩⟩)⟩
               have n6_ : Aside0 (Kd.R (Kd.int .i64) 3 ((((((((w103.setCell ⟨gb736, 0, none⟩ (.int .i64 t728)).setCell ⟨gb736, 1, none⟩ (.int .i64 t729)).setCell ⟨gb736, 2, none⟩ (.int .i64 t730)).setCell ⟨gb736, 3, none⟩ (.int .i64 t731)).setCell ⟨gb736, 4, none⟩ (.int .i64 t732)).setCell ⟨gb736, 5, none⟩ (.int .i64 t733)).setCell ⟨gb736, 6, none⟩ (.int .i64 t734)).setCell ⟨gb736, 7, none⟩ (.int .i64 t735)) w.heap.size (fun k_ => some k_ ≠ (.slice Ao11 t669.length co11 : Value).ownBlock ∧ some k_ ≠ (.slice Ao12 t674.length co12 : Value).ownBlock ∧ some k_ ≠ (.slice Ao18 t683.length co18 : Value).ownBlock ∧ some k_ ≠ (.slice Ao19 t688.length co19 : Value).ownBlock ∧ some k_ ≠ (.slice Ao46 t700.length co46 : Value).ownBlock ∧ some k_ ≠ (.slice Ao47 t705.length co47 : Value).ownBlock) v725 t723) := ⟨by (with_reducible repeat (first | apply Kd.R_alloc | apply Kd.R_drewN | apply Kd.R_drew)); exact Kd.R_mono (Kd.R_far (p := ⟨gb736, 7, none⟩) (Kd.R_far (p := ⟨gb736, 6, none⟩) (Kd.R_far (p := ⟨gb736, 5, none⟩) (Kd.R_far (p := ⟨gb736, 4, none⟩) (Kd.R_far (p := ⟨gb736, 3, none⟩) (Kd.R_far (p := ⟨gb736, 2, none⟩) (Kd.R_far (p := ⟨gb736, 1, none⟩) (Kd.R_far (p := ⟨gb736, 0, none⟩) (Kd.R_types HO726.1 BK736.1 (by decide)) (fun _ hk => hk.2) (.int .i64 t728)) (fun _ hk => hk.2) (.int .i64 t729)) (fun _ hk => hk.2) (.int .i64 t730)) (fun _ hk => hk.2) (.int .i64 t731)) (fun _ hk => hk.2) (.int .i64 t732)) (fun _ hk => hk.2) (.int .i64 t733)) (fun _ hk => hk.2) (.int .i64 t734)) (fun _ hk => hk.2) (.int .i64 t735)) (fun _ hk => ⟨hk.1.1.1.1.1.1.2, ⟨hk.1.1.1.1.1.2, ⟨hk.1.1.1.1.2, ⟨hk.1.1.1.2, ⟨hk.1.1.2, hk.1.2⟩⟩⟩⟩⟩)⟩
               have n7_ : Aside0 (((((((((w103.setCell ⟨gb736, 0, none⟩ (.int .i64 t728)).setCell ⟨gb736, 1, none⟩ (.int .i64 t729)).setCell ⟨gb736, 2, none⟩ (.int .i64 t730)).setCell ⟨gb736, 3, none⟩ (.int .i64 t731)).setCell ⟨gb736, 4, none⟩ (.int .i64 t732)).setCell ⟨gb736, 5, none⟩ (.int .i64 t733)).setCell ⟨gb736, 6, none⟩ (.int .i64 t734)).setCell ⟨gb736, 7, none⟩ (.int .i64 t735)).heap[gb679]? = some (c284_ t667 t668 Ao11 t669.length co11 t672 t673 Ao12 t674.length co12 t677 t678)) := ⟨bk_ BK679.1⟩
               have n8_ : Aside0 (((((((((w103.setCell ⟨gb736, 0, none⟩ (.int .i64 t728)).setCell ⟨gb736, 1, none⟩ (.int .i64 t729)).setCell ⟨gb736, 2, none⟩ (.int .i64 t730)).setCell ⟨gb736, 3, none⟩ (.int .i64 t731)).setCell ⟨gb736, 4, none⟩ (.int .i64 t732)).setCell ⟨gb736, 5, none⟩ (.int .i64 t733)).setCell ⟨gb736, 6, none⟩ (.int .i64 t734)).setCell ⟨gb736, 7, none⟩ (.int .i64 t735)).heap[gb694]? = some (c284_ t681 t682 Ao18 t683.length co18 t686 t687 Ao19 t688.length co19 t691 t692)) := ⟨bk_ BK694.1⟩
               have n9_ : Aside0 (((((((((w103.setCell ⟨gb736, 0, none⟩ (.int .i64 t728)).setCell ⟨gb736, 1, none⟩ (.int .i64 t729)).setCell ⟨gb736, 2, none⟩ (.int .i64 t730)).setCell ⟨gb736, 3, none⟩ (.int .i64 t731)).setCell ⟨gb736, 4, none⟩ (.int .i64 t732)).setCell ⟨gb736, 5, none⟩ (.int .i64 t733)).setCell ⟨gb736, 6, none⟩ (.int .i64 t734)).setCell ⟨gb736, 7, none⟩ (.int .i64 t735)).heap[gb711]? = some (c284_ t698 t699 Ao46 t700.length co46 t703 t704 Ao47 t705.length co47 t708 t709)) := ⟨bk_ BK711.1⟩
               have n10_ : Aside0 (((((((((w103.setCell ⟨gb736, 0, none⟩ (.int .i64 t728)).setCell ⟨gb736, 1, none⟩ (.int .i64 t729)).setCell ⟨gb736, 2, none⟩ (.int .i64 t730)).setCell ⟨gb736, 3, none⟩ (.int .i64 t731)).setCell ⟨gb736, 4, none⟩ (.int .i64 t732)).setCell ⟨gb736, 5, none⟩ (.int .i64 t733)).setCell ⟨gb736, 6, none⟩ (.int .i64 t734)).setCell ⟨gb736, 7, none⟩ (.int .i64 t735)).heap[gb736]? = some (c285_ t728 t729 t730 t731 t732 t733 t734 t735)) := ⟨bk_ BK736.1⟩
               have n11_ : Aside0 (Below w.heap.size w ((((((((w103.setCell ⟨gb736, 0, none⟩ (.int .i64 t728)).setCell ⟨gb736, 1, none⟩ (.int .i64 t729)).setCell ⟨gb736, 2, none⟩ (.int .i64 t730)).setCell ⟨gb736, 3, none⟩ (.int .i64 t731)).setCell ⟨gb736, 4, none⟩ (.int .i64 t732)).setCell ⟨gb736, 5, none⟩ (.int .i64 t733)).setCell ⟨gb736, 6, none⟩ (.int .i64 t734)).setCell ⟨gb736, 7, none⟩ (.int .i64 t735))) := ⟨wB_⟩
               (try clear HO_680002)
               (try clear HO_680005)
               (try clear HO_695002)
               (try clear HO_695005)
               (try clear HO_712002)
               (try clear HO_712005)
               (try clear HO726)
               (try clear BK679)
               (try clear BK694)
               (try clear BK711)
               (try clear BK736)
               (try clear HB)
               generalize ((((((((w103.setCell ⟨gb736, 0, none⟩ (.int .i64 t728)).setCell ⟨gb736, 1, none⟩ (.int .i64 t729)).setCell ⟨gb736, 2, none⟩ (.int .i64 t730)).setCell ⟨gb736, 3, none⟩ (.int .i64 t731)).setCell ⟨gb736, 4, none⟩ (.int .i64 t732)).setCell ⟨gb736, 5, none⟩ (.int .i64 t733)).setCell ⟨gb736, 6, none⟩ (.int .i64 t734)).setCell ⟨gb736, 7, none⟩ (.int .i64 t735)) = w108 at n0_ n1_ n2_ n3_ n4_ n5_ n6_ n7_ n8_ n9_ n10_ n11_ ⊢
               have HO_680002 := n0_
               have HO_680005 := n1_
               have HO_695002 := n2_
               have HO_695005 := n3_
               have HO_712002 := n4_
               have HO_712005 := n5_
               have HO726 := n6_
               have BK679 := n7_
               have BK694 := n8_
               have BK711 := n9_
               have BK736 := n10_
               have HB := n11_
               clear n0_ n1_ n2_ n3_ n4_ n5_ n6_ n7_ n8_ n9_ n10_ n11_
               replace HO_680002 := o_ (Kd.R_drew HO_680002.1)
               replace HO_680005 := o_ (Kd.R_drew HO_680005.1)
               replace HO_695002 := o_ (Kd.R_drew HO_695002.1)
               replace HO_695005 := o_ (Kd.R_drew HO_695005.1)
               replace HO_712002 := o_ (Kd.R_drew HO_712002.1)
               replace HO_712005 := o_ (Kd.R_drew HO_712005.1)
               replace HO726 := o_ (Kd.R_drew HO726.1)
               replace BK679 := o_ (blk_drew BK679.1)
               replace BK694 := o_ (blk_drew BK694.1)
               replace BK711 := o_ (blk_drew BK711.1)
               replace BK736 := o_ (blk_drew BK736.1)
               replace HB := o_ (below_drew1 HB.1)
               obtain ⟨Ao110, co110, eo110⟩ := Kd.R_slice HO726.1
               (first | subst eo110 | (injection eo110 with f1_ f2_ f3_; have f4_ := f1_.symm; have f5_ := f3_.symm; clear f1_ f2_ f3_; subst f4_; subst f5_))
               refine start_ (n := 29) (S := fun w' => q3e_ w' gb736 t728 t729 t730 t731 t732 t733 t734 t735) (ds := []) M4_0 (by kernel_rfl) rfl rfl ⟨(blk_cell BK736.1 0).trans rfl, (blk_cell BK736.1 1).trans rfl, (blk_cell BK736.1 2).trans rfl, (blk_cell BK736.1 3).trans rfl, (blk_cell BK736.1 4).trans rfl, (blk_cell BK736.1 5).trans rfl, (blk_cell BK736.1 6).trans rfl, (blk_cell BK736.1 7).trans rfl⟩ (fun hHeld => ?_); refine with_tabW laws_FnForms.tab19 laws_FnForms.bits19 (fun HT_ HW_ => ?_)
               generalize w108.drew = w109 at HO_680002 HO_680005 HO_695002 HO_695005 HO_712002 HO_712005 HO726 BK679 BK694 BK711 BK736 HB hHeld ⊢
               refine pu_ 0 (some 81) M4_1 HT_ ?_
               refine pu_ 1 (some 82) M4_2 HT_ ?_
               refine pu_ 2 (some 83) M4_3 HT_ ?_
               refine pu_ 3 (some 84) M4_4 HT_ ?_
               refine pu_ 5 (some 86) M4_5 HT_ ?_
               refine one_ (i := 4) (N := some 85) M4_6 rfl rfl (one_of HT_.1 (by kernel_rfl)) (by decide) (fun K hK => ?_)
               refine goes_ Tryd.func18 (by kernel_rfl) rfl #[.slice Ao110 t723.length co110] (by rfl) rfl rfl ma_ ?_
               with_reducible refine (impl_ListText.calls kj57 _ _ t723 t737 _ ?side1 ?side2 A72.1 (TB_.below wB_)).mono ?_
               (case side1 => exact cd_ (Kd.R_reads' HO726.1).2.2)
               (case side2 => exact (Kd.R_reads' HO726.1).2.1)
               rintro e w111 ⟨rfl, hb⟩
               refine ⟨_, rfl, ?_⟩
               replace HO_680002 := o_ (Kd.R_below (rd_ HO_680002.1) hb)
               replace HO_680005 := o_ (Kd.R_below (rd_ HO_680005.1) hb)
               replace HO_695002 := o_ (Kd.R_below (rd_ HO_695002.1) hb)
               replace HO_695005 := o_ (Kd.R_below (rd_ HO_695005.1) hb)
               replace HO_712002 := o_ (Kd.R_below (rd_ HO_712002.1) hb)
               replace HO_712005 := o_ (Kd.R_below (rd_ HO_712005.1) hb)
               replace HO726 := o_ (Kd.R_below (rd_ HO726.1) hb)
               replace BK679 := o_ (blk_below (bd_ BK679.1) hb)
               replace BK694 := o_ (blk_below (bd_ BK694.1) hb)
               replace BK711 := o_ (blk_below (bd_ BK711.1) hb)
               replace BK736 := o_ (blk_below (bd_ BK736.1) hb)
               replace HB := o_ (below_step wB_ hb)
               (try clear hb)
               (try clear hb2)
               (try clear hk)
               (try clear hi)
               refine hK.out _ _ ⟨(blk_cell BK736.1 0).trans rfl, (blk_cell BK736.1 1).trans rfl, (blk_cell BK736.1 2).trans rfl, (blk_cell BK736.1 3).trans rfl, (blk_cell BK736.1 4).trans rfl, (blk_cell BK736.1 5).trans rfl, (blk_cell BK736.1 6).trans rfl, (blk_cell BK736.1 7).trans rfl⟩ (fun hHeld => ?_)
               clear hK K
               refine norm_ (a' := ?_) ?_ ?_
               rotate_left
               ·
                show Act.put _ (some 85) _ = _
                simp only [Act.put, P4_1, P4_2, P4_3, i64_w, i32_w]
                rfl
               refine pu_ 6 (some 87) M4_7 HT_ ?_
               refine pu_ 7 (some 88) M4_8 HT_ ?_
               refine pu_ 8 (some 89) M4_9 HT_ ?_
               refine pu_ 9 (some 90) M4_10 HT_ ?_
               refine one_ (i := 10) (N := some 91) M4_11 rfl rfl (one_of HT_.1 (by kernel_rfl)) (by decide) (fun K hK => ?_)
               refine goes_ Tryd.func23 (by kernel_rfl) rfl #[.string t727] (by rfl) rfl rfl ma_ ?_
               with_reducible refine (impl_KindOf.calls kj57 t727 t738 _ A74.1).mono ?_
               rintro e w112 ⟨rfl, hb⟩
               refine ⟨_, rfl, ?_⟩
               replace HO_680002 := o_ (Kd.R_below (rd_ HO_680002.1) hb)
               replace HO_680005 := o_ (Kd.R_below (rd_ HO_680005.1) hb)
               replace HO_695002 := o_ (Kd.R_below (rd_ HO_695002.1) hb)
               replace HO_695005 := o_ (Kd.R_below (rd_ HO_695005.1) hb)
               replace HO_712002 := o_ (Kd.R_below (rd_ HO_712002.1) hb)
               replace HO_712005 := o_ (Kd.R_below (rd_ HO_712005.1) hb)
               replace HO726 := o_ (Kd.R_below (rd_ HO726.1) hb)
               replace BK679 := o_ (blk_below (bd_ BK679.1) hb)
               replace BK694 := o_ (blk_below (bd_ BK694.1) hb)
               replace BK711 := o_ (blk_below (bd_ BK711.1) hb)
               replace BK736 := o_ (blk_below (bd_ BK736.1) hb)
               replace HB := o_ (below_step wB_ hb)
               (try clear hb)
               (try clear hb2)
               (try clear hk)
               (try clear hi)
               refine hK.out _ _ ⟨(blk_cell BK736.1 0).trans rfl, (blk_cell BK736.1 1).trans rfl, (blk_cell BK736.1 2).trans rfl, (blk_cell BK736.1 3).trans rfl, (blk_cell BK736.1 4).trans rfl, (blk_cell BK736.1 5).trans rfl, (blk_cell BK736.1 6).trans rfl, (blk_cell BK736.1 7).trans rfl⟩ (fun hHeld => ?_)
               clear hK K
               refine norm_ (a' := ?_) ?_ ?_
               rotate_left
               ·
                show Act.put _ (some 91) _ = _
                simp only [Act.put, P4_1, P4_2, P4_3, i64_w, i32_w]
                rfl
               refine pu_ 11 (some 92) M4_12 HT_ ?_
               refine pu_ 12 (some 93) M4_13 HT_ ?_
               refine pu_ 13 (some 94) M4_14 HT_ ?_
               refine pu_ 16 (some 97) M4_30 HT_ ?_
               refine one_ (i := 14) (N := some 95) M4_31 rfl rfl (one_of HT_.1 (by kernel_rfl)) (by decide) (fun K hK => ?_)
               refine goes_ Tryd.func23 (by kernel_rfl) rfl #[.string t727] (by rfl) rfl rfl ma_ ?_
               with_reducible refine (impl_KindOf.calls kj57 t727 t741 _ A94.1).mono ?_
               rintro e w113 ⟨rfl, hb⟩
               refine ⟨_, rfl, ?_⟩
               replace HO_680002 := o_ (Kd.R_below (rd_ HO_680002.1) hb)
               replace HO_680005 := o_ (Kd.R_below (rd_ HO_680005.1) hb)
               replace HO_695002 := o_ (Kd.R_below (rd_ HO_695002.1) hb)
               replace HO_695005 := o_ (Kd.R_below (rd_ HO_695005.1) hb)
               replace HO_712002 := o_ (Kd.R_below (rd_ HO_712002.1) hb)
               replace HO_712005 := o_ (Kd.R_below (rd_ HO_712005.1) hb)
               replace HO726 := o_ (Kd.R_below (rd_ HO726.1) hb)
               replace BK679 := o_ (blk_below (bd_ BK679.1) hb)
               replace BK694 := o_ (blk_below (bd_ BK694.1) hb)
               replace BK711 := o_ (blk_below (bd_ BK711.1) hb)
               replace BK736 := o_ (blk_below (bd_ BK736.1) hb)
               replace HB := o_ (below_step wB_ hb)
               (try clear hb)
               (try clear hb2)
               (try clear hk)
               (try clear hi)
               refine hK.out _ _ ⟨(blk_cell BK736.1 0).trans rfl, (blk_cell BK736.1 1).trans rfl, (blk_cell BK736.1 2).trans rfl, (blk_cell BK736.1 3).trans rfl, (blk_cell BK736.1 4).trans rfl, (blk_cell BK736.1 5).trans rfl, (blk_cell BK736.1 6).trans rfl, (blk_cell BK736.1 7).trans rfl⟩ (fun hHeld => ?_)
               clear hK K
               refine norm_ (a' := ?_) ?_ ?_
               rotate_left
               ·
                show Act.put _ (some 95) _ = _
                simp only [Act.put, P4_1, P4_2, P4_3, i64_w, i32_w]
                rfl
               refine one_ (i := 15) (N := some 96) M4_17 rfl rfl (one_of HT_.1 (by kernel_rfl)) (by decide) (fun K hK => ?_)
               refine goes_ Tryd.func24 (by kernel_rfl) rfl #[.int .i64 t741] (by rfl) rfl rfl ma_ ?_
               with_reducible refine (impl_KindText.calls t741 t742 _ A95.1).mono ?_
               rintro e w114 ⟨rfl, hb⟩
               refine ⟨_, rfl, ?_⟩
               replace HO_680002 := o_ (Kd.R_below (rd_ HO_680002.1) hb)
               replace HO_680005 := o_ (Kd.R_below (rd_ HO_680005.1) hb)
               replace HO_695002 := o_ (Kd.R_below (rd_ HO_695002.1) hb)
               replace HO_695005 := o_ (Kd.R_below (rd_ HO_695005.1) hb)
               replace HO_712002 := o_ (Kd.R_below (rd_ HO_712002.1) hb)
               replace HO_712005 := o_ (Kd.R_below (rd_ HO_712005.1) hb)
               replace HO726 := o_ (Kd.R_below (rd_ HO726.1) hb)
               replace BK679 := o_ (blk_below (bd_ BK679.1) hb)
               replace BK694 := o_ (blk_below (bd_ BK694.1) hb)
               replace BK711 := o_ (blk_below (bd_ BK711.1) hb)
               replace BK736 := o_ (blk_below (bd_ BK736.1) hb)
               replace HB := o_ (below_step wB_ hb)
               (try clear hb)
               (try clear hb2)
               (try clear hk)
               (try clear hi)
               refine hK.out _ _ ⟨(blk_cell BK736.1 0).trans rfl, (blk_cell BK736.1 1).trans rfl, (blk_cell BK736.1 2).trans rfl, (blk_cell BK736.1 3).trans rfl, (blk_cell BK736.1 4).trans rfl, (blk_cell BK736.1 5).trans rfl, (blk_cell BK736.1 6).trans rfl, (blk_cell BK736.1 7).trans rfl⟩ (fun hHeld => ?_)
               clear hK K
               refine norm_ (a' := ?_) ?_ ?_
               rotate_left
               ·
                show Act.put _ (some 96) _ = _
                simp only [Act.put, P4_1, P4_2, P4_3, i64_w, i32_w]
                rfl
               refine pu_ 17 (some 98) M4_18 HT_ ?_
               refine pu_ 18 (some 99) M4_19 HT_ ?_
               refine pu_ 19 (some 100) M4_20 HT_ ?_
               refine pu_ 20 (some 101) M4_21 HT_ ?_
               refine tk_ 21 (some 102) M4_22 HT_ HW_ hHeld ?_
               refine tk_ 23 (some 104) M4_23 HT_ HW_ hHeld ?_
               refine one_ (i := 22) (N := some 103) M4_24 rfl rfl (one_of HT_.1 (by kernel_rfl)) (by decide) (fun K hK => ?_)
               refine goes_ Tryd.func25 (by kernel_rfl) rfl #[.agg #[.int .i64 t728, .int .i64 t729, .int .i64 t730, .int .i64 t731, .int .i64 t732, .int .i64 t733, .int .i64 t734, .int .i64 t735]] (by rfl) rfl rfl ma_ ?_
               with_reducible refine (impl_IsFind.calls t728 t729 t730 t731 t732 t733 t734 t735 t743 _ A97.1).mono ?_
               rintro e w115 ⟨rfl, hb⟩
               refine ⟨_, rfl, ?_⟩
               replace HO_680002 := o_ (Kd.R_below (rd_ HO_680002.1) hb)
               replace HO_680005 := o_ (Kd.R_below (rd_ HO_680005.1) hb)
               replace HO_695002 := o_ (Kd.R_below (rd_ HO_695002.1) hb)
               replace HO_695005 := o_ (Kd.R_below (rd_ HO_695005.1) hb)
               replace HO_712002 := o_ (Kd.R_below (rd_ HO_712002.1) hb)
               replace HO_712005 := o_ (Kd.R_below (rd_ HO_712005.1) hb)
               replace HO726 := o_ (Kd.R_below (rd_ HO726.1) hb)
               replace BK679 := o_ (blk_below (bd_ BK679.1) hb)
               replace BK694 := o_ (blk_below (bd_ BK694.1) hb)
               replace BK711 := o_ (blk_below (bd_ BK711.1) hb)
               replace BK736 := o_ (blk_below (bd_ BK736.1) hb)
               replace HB := o_ (below_step wB_ hb)
               (try clear hb)
               (try clear hb2)
               (try clear hk)
               (try clear hi)
               refine hK.out _ _ ⟨(blk_cell BK736.1 0).trans rfl, (blk_cell BK736.1 1).trans rfl, (blk_cell BK736.1 2).trans rfl, (blk_cell BK736.1 3).trans rfl, (blk_cell BK736.1 4).trans rfl, (blk_cell BK736.1 5).trans rfl, (blk_cell BK736.1 6).trans rfl, (blk_cell BK736.1 7).trans rfl⟩ (fun hHeld => ?_)
               clear hK K
               refine norm_ (a' := ?_) ?_ ?_
               rotate_left
               ·
                show Act.put _ (some 103) _ = _
                simp only [Act.put, P4_1, P4_2, P4_3, i64_w, i32_w]
                rfl
               refine one_ (i := 24) (N := some 105) M4_25 rfl rfl (one_of HT_.1 (by kernel_rfl)) (by decide) (fun K hK => ?_)
               refine goes_ Tryd.func26 (by kernel_rfl) rfl #[.agg #[.int .i64 t728, .int .i64 t729, .int .i64 t730, .int .i64 t731, .int .i64 t732, .int .i64 t733, .int .i64 t734, .int .i64 t735]] (by rfl) rfl rfl ma_ ?_
               with_reducible refine (impl_FindText.calls t728 t729 t730 t731 t732 t733 t734 t735 t744 _ A98.1 (TB_.below wB_)).mono ?_
               rintro e w116 ⟨rfl, hb⟩
               refine ⟨_, rfl, ?_⟩
               replace HO_680002 := o_ (Kd.R_below (rd_ HO_680002.1) hb)
               replace HO_680005 := o_ (Kd.R_below (rd_ HO_680005.1) hb)
               replace HO_695002 := o_ (Kd.R_below (rd_ HO_695002.1) hb)
               replace HO_695005 := o_ (Kd.R_below (rd_ HO_695005.1) hb)
               replace HO_712002 := o_ (Kd.R_below (rd_ HO_712002.1) hb)
               replace HO_712005 := o_ (Kd.R_below (rd_ HO_712005.1) hb)
               replace HO726 := o_ (Kd.R_below (rd_ HO726.1) hb)
               replace BK679 := o_ (blk_below (bd_ BK679.1) hb)
               replace BK694 := o_ (blk_below (bd_ BK694.1) hb)
               replace BK711 := o_ (blk_below (bd_ BK711.1) hb)
               replace BK736 := o_ (blk_below (bd_ BK736.1) hb)
               replace HB := o_ (below_step wB_ hb)
               (try clear hb)
               (try clear hb2)
               (try clear hk)
               (try clear hi)
               refine hK.out _ _ ⟨(blk_cell BK736.1 0).trans rfl, (blk_cell BK736.1 1).trans rfl, (blk_cell BK736.1 2).trans rfl, (blk_cell BK736.1 3).trans rfl, (blk_cell BK736.1 4).trans rfl, (blk_cell BK736.1 5).trans rfl, (blk_cell BK736.1 6).trans rfl, (blk_cell BK736.1 7).trans rfl⟩ (fun hHeld => ?_)
               clear hK K
               refine norm_ (a' := ?_) ?_ ?_
               rotate_left
               ·
                show Act.put _ (some 105) _ = _
                simp only [Act.put, P4_1, P4_2, P4_3, i64_w, i32_w]
                rfl
               refine pu_ 25 (some 106) M4_26 HT_ ?_
               refine pu_ 26 (some 107) M4_27 HT_ ?_
               refine pu_ 27 (some 108) M4_28 HT_ ?_
               refine pu_ 28 (some 2) M4_29 HT_ ?_
               refine done_ (done_of HT_.1 (by kernel_rfl)) ?_
               try go_wp2
               go_ret
               exact ⟨(by first | (simp at Hr_ ⊢; exact Hr_.trans (ne_emp _)) | (simp_all; exact ne_emp _)), wB_⟩
              ·
               rw [if_neg c96] at H
               have c96b0 := beq_eq_false_iff_ne.mpr c96
               have c96b1 := bne_iff_ne.mpr c96
               exact absurd H (by simp)
            ·
             rw [if_neg c73] at H
             have c73b0 := beq_eq_false_iff_ne.mpr c73
             have c73b1 := bne_iff_ne.mpr c73
             exact absurd H (by simp)
           ·
            replace c71 := Bool.eq_false_iff.mpr c71
            subst c71
            have H1 := H
            rw [if_neg nt_] at H1
            clear H
            have H := H1
            clear H1
            replace H := Option.bind_eq_some_iff.mp H
            obtain ⟨t745, A1170, H⟩ := H
            try dsimp only at H
            have A117 := o_ A1170
            clear A1170
            by_cases c118 : t745 = 0
            ·
             rw [if_pos c118] at H
             have c118b0 := beq_iff_eq.mpr c118
             have c118b1 := bne_eq_false_iff_eq.mpr c118
             clear c118
             replace H := Option.bind_eq_some_iff.mp H
             obtain ⟨t746, A1190, H⟩ := H
             try dsimp only at H
             have A119 := o_ A1190
             clear A1190
             replace H := Option.bind_eq_some_iff.mp H
             obtain ⟨t747, A1200, H⟩ := H
             try dsimp only at H
             have A120 := o_ A1200
             clear A1200
             first | (obtain rfl := Option.some.inj H) | (have Hr_ := Option.some.inj H; clear H)
             try go_wp2_with (first | ((with_reducible refine g_ 20 ?_); refine gl_ (some 71) Tryd.func20 #[.slice A0 l0.length c0] ?_; (with_reducible refine (spec_DrawParseList.calls kj57 _ _ l0 t722 _ ?side1 ?side2 A67.1).mono ?_); (case side1 => exact cd_ (Kd.C_below HR0.1 HB.1)); (case side2 => exact HC0.1); rintro e w121 ⟨rfl, hb⟩; refine ⟨_, rfl, ?_⟩; replace HO_680002 := o_ (Kd.R_below (rd_ HO_680002.1) hb); replace HO_680005 := o_ (Kd.R_below (rd_ HO_680005.1) hb); replace HO_695002 := o_ (Kd.R_below (rd_ HO_695002.1) hb); replace HO_695005 := o_ (Kd.R_below (rd_ HO_695005.1) hb); replace HO_712002 := o_ (Kd.R_below (rd_ HO_712002.1) hb); replace HO_712005 := o_ (Kd.R_below (rd_ HO_712005.1) hb); replace BK679 := o_ (blk_below (bd_ BK679.1) hb); replace BK694 := o_ (blk_below (bd_ BK694.1) hb); replace BK711 := o_ (blk_below (bd_ BK711.1) hb); replace HB := o_ (below_step wB_ hb); (try clear hb)) | ((with_reducible refine g_ 17 ?_); refine gl_ (some 74) Tryd.func17 #[.string t722] ?_; (with_reducible refine (impl_ParseList.calls kj57 t722 t723 false _ A68.1 (TB_.below wB_)).mono ?_); rintro e w122 ⟨v725, rfl, ho0, hb⟩; refine ⟨_, rfl, ?_⟩; have HO726 := o_ (Kd.R_lower (Kd.R_new' (Kd.R_new' (Kd.R_new' (Kd.R_new' (Kd.R_new' (Kd.R_new' ho0 (Kd.R_lt (rd_ HO_680002.1))) (Kd.R_lt (rd_ HO_680005.1))) (Kd.R_lt (rd_ HO_695002.1))) (Kd.R_lt (rd_ HO_695005.1))) (Kd.R_lt (rd_ HO_712002.1))) (Kd.R_lt (rd_ HO_712005.1))) (below_size wB_)); replace HO_680002 := o_ (Kd.R_elder' (rd_ HO_680002.1) (Kd.R_base ho0) hb); replace HO_680005 := o_ (Kd.R_elder' (rd_ HO_680005.1) (Kd.R_base ho0) hb); replace HO_695002 := o_ (Kd.R_elder' (rd_ HO_695002.1) (Kd.R_base ho0) hb); replace HO_695005 := o_ (Kd.R_elder' (rd_ HO_695005.1) (Kd.R_base ho0) hb); replace HO_712002 := o_ (Kd.R_elder' (rd_ HO_712002.1) (Kd.R_base ho0) hb); replace HO_712005 := o_ (Kd.R_elder' (rd_ HO_712005.1) (Kd.R_base ho0) hb); replace BK679 := o_ (blk_below (bd_ BK679.1) hb); replace BK694 := o_ (blk_below (bd_ BK694.1) hb); replace BK711 := o_ (blk_below (bd_ BK711.1) hb); replace HB := o_ (below_step wB_ hb); (try clear hb ho0)) | ((with_reducible refine g_ 21 ?_); refine gl_ (some 78) Tryd.func21 #[.slice A0 l0.length c0] ?_; (with_reducible refine (spec_DrawKindOf.calls kj57 _ _ l0 t727 _ ?side1 ?side2 A69.1).mono ?_); (case side1 => exact cd_ (Kd.C_below HR0.1 HB.1)); (case side2 => exact HC0.1); rintro e w123 ⟨rfl, hb⟩; refine ⟨_, rfl, ?_⟩; replace HO_680002 := o_ (Kd.R_below (rd_ HO_680002.1) hb); replace HO_680005 := o_ (Kd.R_below (rd_ HO_680005.1) hb); replace HO_695002 := o_ (Kd.R_below (rd_ HO_695002.1) hb); replace HO_695005 := o_ (Kd.R_below (rd_ HO_695005.1) hb); replace HO_712002 := o_ (Kd.R_below (rd_ HO_712002.1) hb); replace HO_712005 := o_ (Kd.R_below (rd_ HO_712005.1) hb); replace HO726 := o_ (Kd.R_below (rd_ HO726.1) hb); replace BK679 := o_ (blk_below (bd_ BK679.1) hb); replace BK694 := o_ (blk_below (bd_ BK694.1) hb); replace BK711 := o_ (blk_below (bd_ BK711.1) hb); replace HB := o_ (below_step wB_ hb); (try clear hb)) | ((with_reducible refine g_ 22 ?_); refine gl_ (some 80) Tryd.func22 #[.slice A0 l0.length c0] ?_; (with_reducible refine (spec_DrawFindText.calls kj57 _ _ l0 t728 t729 t730 t731 t732 t733 t734 t735 _ ?side1 ?side2 A70.1).mono ?_); (case side1 => exact cd_ (Kd.C_below HR0.1 HB.1)); (case side2 => exact HC0.1); rintro e w124 ⟨rfl, hb⟩; refine ⟨_, rfl, ?_⟩; replace HO_680002 := o_ (Kd.R_below (rd_ HO_680002.1) hb); replace HO_680005 := o_ (Kd.R_below (rd_ HO_680005.1) hb); replace HO_695002 := o_ (Kd.R_below (rd_ HO_695002.1) hb); replace HO_695005 := o_ (Kd.R_below (rd_ HO_695005.1) hb); replace HO_712002 := o_ (Kd.R_below (rd_ HO_712002.1) hb); replace HO_712005 := o_ (Kd.R_below (rd_ HO_712005.1) hb); replace HO726 := o_ (Kd.R_below (rd_ HO726.1) hb); replace BK679 := o_ (blk_below (bd_ BK679.1) hb); replace BK694 := o_ (blk_below (bd_ BK694.1) hb); replace BK711 := o_ (blk_below (bd_ BK711.1) hb); replace HB := o_ (below_step wB_ hb); (try clear hb)) | ((with_reducible refine gate_dst (N := 16) rfl ?_); refine bx_ 16 #[.int .i64 0, .int .i64 0, .int .i64 0, .int .i64 0, .int .i64 0, .int .i64 0, .int .i64 0, .int .i64 0] 44 ?_; intro gb736 hg w125 hbox hb; replace HO_680002 := o_ (Kd.R_below (rd_ HO_680002.1) hb); replace HO_680005 := o_ (Kd.R_below (rd_ HO_680005.1) hb); replace HO_695002 := o_ (Kd.R_below (rd_ HO_695002.1) hb); replace HO_695005 := o_ (Kd.R_below (rd_ HO_695005.1) hb); replace HO_712002 := o_ (Kd.R_below (rd_ HO_712002.1) hb); replace HO_712005 := o_ (Kd.R_below (rd_ HO_712005.1) hb); replace HO726 := o_ (Kd.R_below (rd_ HO726.1) hb); have BK736 := o_ (hbox); have GW736 := o_ ((y328_ : w.heap.size ≤ gb736)); replace HB := o_ (below_step wB_ hb); have GE736 := GW736; have NB679_736 := o_ ((y316_ : gb679 ≠ gb736)); have NB736_679 := o_ ((y317_ : gb736 ≠ gb679)); replace BK679 := o_ (blk_below (bd_ BK679.1) hb); have NB694_736 := o_ ((y320_ : gb694 ≠ gb736)); have NB736_694 := o_ ((y321_ : gb736 ≠ gb694)); replace BK694 := o_ (blk_below (bd_ BK694.1) hb); have NB711_736 := o_ ((y324_ : gb711 ≠ gb736)); have NB736_711 := o_ ((y325_ : gb736 ≠ gb711)); replace BK711 := o_ (blk_below (bd_ BK711.1) hb); clear hb hbox hg; have hnb126 := NB736_679.1; have hnc126 := NB679_736.1; have hnb127 := NB736_694.1; have hnc127 := NB694_736.1; have hnb128 := NB736_711.1; have hnc128 := NB711_736.1; obtain ⟨hcz129_0, hcz129_1, hcz129_2, hcz129_3, hcz129_4, hcz129_5, hcz129_6, hcz129_7⟩ := e287_ BK736.1; obtain ⟨hfz129_0, hfz129_1, hfz129_2, hfz129_3, hfz129_4, hfz129_5, hfz129_6, hfz129_7⟩ := z288_ BK736.1))
             have n0_ : Aside0 (Kd.R (Kd.int .i64) 3 ((((((((w125.setCell ⟨gb736, 0, none⟩ (.int .i64 t728)).setCell ⟨gb736, 1, none⟩ (.int .i64 t729)).setCell ⟨gb736, 2, none⟩ (.int .i64 t730)).setCell ⟨gb736, 3, none⟩ (.int .i64 t731)).setCell ⟨gb736, 4, none⟩ (.int .i64 t732)).setCell ⟨gb736, 5, none⟩ (.int .i64 t733)).setCell ⟨gb736, 6, none⟩ (.int .i64 t734)).setCell ⟨gb736, 7, none⟩ (.int .i64 t735)) w.heap.size (fun k_ => some k_ ≠ (.slice Ao12 t674.length co12 : Value).ownBlock ∧ some k_ ≠ (.slice Ao18 t683.length co18 : Value).ownBlock ∧ some k_ ≠ (.slice Ao19 t688.length co19 : Value).ownBlock ∧ some k_ ≠ (.slice Ao46 t700.length co46 : Value).ownBlock ∧ some k_ ≠ (.slice Ao47 t705.length co47 : Value).ownBlock ∧ some k_ ≠ (v725 : Value).ownBlock) (.slice Ao11 t669.length co11) t669) := ⟨by (with_reducible repeat (first | apply Kd.R_alloc | apply Kd.R_drewN | apply Kd.R_drew)); exact Kd.R_mono (Kd.R_far (p := ⟨gb736, 7, none⟩) (Kd.R_far (p := ⟨gb736, 6, none⟩) (Kd.R_far (p := ⟨gb736, 5, none⟩) (Kd.R_far (p := ⟨gb736, 4, none⟩) (Kd.R_far (p := ⟨gb736, 3, none⟩) (Kd.R_far (p := ⟨gb736, 2, none⟩) (Kd.R_far (p := ⟨gb736, 1, none⟩) (Kd.R_far (p := ⟨gb736, 0, none⟩) (Kd.R_types HO_680002.1 BK736.1 (by decide)) (fun _ hk => hk.2) (.int .i64 t728)) (fun _ hk => hk.2) (.int .i64 t729)) (fun _ hk => hk.2) (.int .i64 t730)) (fun _ hk => hk.2) (.int .i64 t731)) (fun _ hk => hk.2) (.int .i64 t732)) (fun _ hk => hk.2) (.int .i64 t733)) (fun _ hk => hk.2) (.int .i64 t734)) (fun _ hk => hk.2) (.int .i64 t735)) (fun _ hk => ⟨hk.1.1.1, ⟨hk.1.1.2.1, ⟨hk.1.1.2.2.1, ⟨hk.1.1.2.2.2.1, ⟨hk.1.1.2.2.2.2, hk.1.2⟩⟩⟩⟩⟩)⟩
             have n1_ : Aside0 (Kd.R (Kd.int .i64) 3 ((((((((w125.setCell ⟨gb736, 0, none⟩ (.int .i64 t728)).setCell ⟨gb736, 1, none⟩ (.int .i64 t729)).setCell ⟨gb736, 2, none⟩ (.int .i64 t730)).setCell ⟨gb736, 3, none⟩ (.int .i64 t731)).setCell ⟨gb736, 4, none⟩ (.int .i64 t732)).setCell ⟨gb736, 5, none⟩ (.int .i64 t733)).setCell ⟨gb736, 6, none⟩ (.int .i64 t734)).setCell ⟨gb736, 7, none⟩ (.int .i64 t735)) w.heap.size (fun k_ => some k_ ≠ (.slice Ao11 t669.length co11 : Value).ownBlock ∧ some k_ ≠ (.slice Ao18 t683.length co18 : Value).ownBlock ∧ some k_ ≠ (.slice Ao19 t688.length co19 : Value).ownBlock ∧ some k_ ≠ (.slice Ao46 t700.length co46 : Value).ownBlock ∧ some k_ ≠ (.slice Ao47 t705.length co47 : Value).ownBlock ∧ some k_ ≠ (v725 : Value).ownBlock) (.slice Ao12 t674.length co12) t674) := ⟨by (with_reducible repeat (first | apply Kd.R_alloc | apply Kd.R_drewN | apply Kd.R_drew)); exact Kd.R_mono (Kd.R_far (p := ⟨gb736, 7, none⟩) (Kd.R_far (p := ⟨gb736, 6, none⟩) (Kd.R_far (p := ⟨gb736, 5, none⟩) (Kd.R_far (p := ⟨gb736, 4, none⟩) (Kd.R_far (p := ⟨gb736, 3, none⟩) (Kd.R_far (p := ⟨gb736, 2, none⟩) (Kd.R_far (p := ⟨gb736, 1, none⟩) (Kd.R_far (p := ⟨gb736, 0, none⟩) (Kd.R_types HO_680005.1 BK736.1 (by decide)) (fun _ hk => hk.2) (.int .i64 t728)) (fun _ hk => hk.2) (.int .i64 t729)) (fun _ hk => hk.2) (.int .i64 t730)) (fun _ hk => hk.2) (.int .i64 t731)) (fun _ hk => hk.2) (.int .i64 t732)) (fun _ hk => hk.2) (.int .i64 t733)) (fun _ hk => hk.2) (.int .i64 t734)) (fun _ hk => hk.2) (.int .i64 t735)) (fun _ hk => ⟨hk.1.1.1, ⟨hk.1.1.2.1, ⟨hk.1.1.2.2.1, ⟨hk.1.1.2.2.2.1, ⟨hk.1.1.2.2.2.2, hk.1.2⟩⟩⟩⟩⟩)⟩
             have n2_ : Aside0 (Kd.R (Kd.int .i64) 3 ((((((((w125.setCell ⟨gb736, 0, none⟩ (.int .i64 t728)).setCell ⟨gb736, 1, none⟩ (.int .i64 t729)).setCell ⟨gb736, 2, none⟩ (.int .i64 t730)).setCell ⟨gb736, 3, none⟩ (.int .i64 t731)).setCell ⟨gb736, 4, none⟩ (.int .i64 t732)).setCell ⟨gb736, 5, none⟩ (.int .i64 t733)).setCell ⟨gb736, 6, none⟩ (.int .i64 t734)).setCell ⟨gb736, 7, none⟩ (.int .i64 t735)) w.heap.size (fun k_ => some k_ ≠ (.slice Ao11 t669.length co11 : Value).ownBlock ∧ some k_ ≠ (.slice Ao12 t674.length co12 : Value).ownBlock ∧ some k_ ≠ (.slice Ao19 t688.length co19 : Value).ownBlock ∧ some k_ ≠ (.slice Ao46 t700.length co46 : Value).ownBlock ∧ some k_ ≠ (.slice Ao47 t705.length co47 : Value).ownBlock ∧ some k_ ≠ (v725 : Value).ownBlock) (.slice Ao18 t683.length co18) t683) := ⟨by (with_reducible repeat (first | apply Kd.R_alloc | apply Kd.R_drewN | apply Kd.R_drew)); exact Kd.R_mono (Kd.R_far (p := ⟨gb736, 7, none⟩) (Kd.R_far (p := ⟨gb736, 6, none⟩) (Kd.R_far (p := ⟨gb736, 5, none⟩) (Kd.R_far (p := ⟨gb736, 4, none⟩) (Kd.R_far (p := ⟨gb736, 3, none⟩) (Kd.R_far (p := ⟨gb736, 2, none⟩) (Kd.R_far (p := ⟨gb736, 1, none⟩) (Kd.R_far (p := ⟨gb736, 0, none⟩) (Kd.R_types HO_695002.1 BK736.1 (by decide)) (fun _ hk => hk.2) (.int .i64 t728)) (fun _ hk => hk.2) (.int .i64 t729)) (fun _ hk => hk.2) (.int .i64 t730)) (fun _ hk => hk.2) (.int .i64 t731)) (fun _ hk => hk.2) (.int .i64 t732)) (fun _ hk => hk.2) (.int .i64 t733)) (fun _ hk => hk.2) (.int .i64 t734)) (fun _ hk => hk.2) (.int .i64 t735)) (fun _ hk => ⟨hk.1.1.1, ⟨hk.1.1.2.1, ⟨hk.1.1.2.2.1, ⟨hk.1.1.2.2.2.1, ⟨hk.1.1.2.2.2.2, hk.1.2⟩⟩⟩⟩⟩)⟩
             have n3_ : Aside0 (Kd.R (Kd.int .i64) 3 ((((((((w125.setCell ⟨gb736, 0, none⟩ (.int .i64 t728)).setCell ⟨gb736, 1, none⟩ (.int .i64 t729)).setCell ⟨gb736, 2, none⟩ (.int .i64 t730)).setCell ⟨gb736, 3, none⟩ (.int .i64 t731)).setCell ⟨gb736, 4, none⟩ (.int .i64 t732)).setCell ⟨gb736, 5, none⟩ (.int .i64 t733)).setCell ⟨gb736, 6, none⟩ (.int .i64 t734)).setCell ⟨gb736, 7, none⟩ (.int .i64 t735)) w.heap.size (fun k_ => some k_ ≠ (.slice Ao11 t669.length co11 : Value).ownBlock ∧ some k_ ≠ (.slice Ao12 t674.length co12 : Value).ownBlock ∧ some k_ ≠ (.slice Ao18 t683.length co18 : Value).ownBlock ∧ some k_ ≠ (.slice Ao46 t700.length co46 : Value).ownBlock ∧ some k_ ≠ (.slice Ao47 t705.length co47 : Value).ownBlock ∧ some k_ ≠ (v725 : Value).ownBlock) (.slice Ao19 t688.length co19) t688) := ⟨by (with_reducible repeat (first | apply Kd.R_alloc | apply Kd.R_drewN | apply Kd.R_drew)); exact Kd.R_mono (Kd.R_far (p := ⟨gb736, 7, none⟩) (Kd.R_far (p := ⟨gb736, 6, none⟩) (Kd.R_far (p := ⟨gb736, 5, none⟩) (Kd.R_far (p := ⟨gb736, 4, none⟩) (Kd.R_far (p := ⟨gb736, 3, none⟩) (Kd.R_far (p := ⟨gb736, 2, none⟩) (Kd.R_far (p := ⟨gb736, 1, none⟩) (Kd.R_far (p := ⟨gb736, 0, none⟩) (Kd.R_types HO_695005.1 BK736.1 (by decide)) (fun _ hk => hk.2) (.int .i64 t728)) (fun _ hk => hk.2) (.int .i64 t729)) (fun _ hk => hk.2) (.int .i64 t730)) (fun _ hk => hk.2) (.int .i64 t731)) (fun _ hk => hk.2) (.int .i64 t732)) (fun _ hk => hk.2) (.int .i64 t733)) (fun _ hk => hk.2) (.int .i64 t734)) (fun _ hk => hk.2) (.int .i64 t735)) (fun _ hk => ⟨hk.1.1.1, ⟨hk.1.1.2.1, ⟨hk.1.1.2.2.1, ⟨hk.1.1.2.2.2.1, ⟨hk.1.1.2.2.2.2, hk.1.2⟩⟩⟩⟩⟩)⟩
             have n4_ : Aside0 (Kd.R (Kd.int .i64) 3 ((((((((w125.setCell ⟨gb736, 0, none⟩ (.int .i64 t728)).setCell ⟨gb736, 1, none⟩ (.int .i64 t729)).setCell ⟨gb736, 2, none⟩ (.int .i64 t730)).setCell ⟨gb736, 3, none⟩ (.int .i64 t731)).setCell ⟨gb736, 4, none⟩ (.int .i64 t732)).setCell ⟨gb736, 5, none⟩ (.int .i64 t733)).setCell ⟨gb736, 6, none⟩ (.int .i64 t734)).setCell ⟨gb736, 7, none⟩ (.int .i64 t735)) w.heap.size (fun k_ => some k_ ≠ (.slice Ao11 t669.length co11 : Value).ownBlock ∧ some k_ ≠ (.slice Ao12 t674.length co12 : Value).ownBlock ∧ some k_ ≠ (.slice Ao18 t683.length co18 : Value).ownBlock ∧ some k_ ≠ (.slice Ao19 t688.length co19 : Value).ownBlock ∧ some k_ ≠ (.slice Ao47 t705.length co47 : Value).ownBlock ∧ some k_ ≠ (v725 : Value).ownBlock) (.slice Ao46 t700.length co46) t700) := ⟨by (with_reducible repeat (first | apply Kd.R_alloc | apply Kd.R_drewN | apply Kd.R_drew)); exact Kd.R_mono (Kd.R_far (p := ⟨gb736, 7, none⟩) (Kd.R_far (p := ⟨gb736, 6, none⟩) (Kd.R_far (p := ⟨gb736, 5, none⟩) (Kd.R_far (p := ⟨gb736, 4, none⟩) (Kd.R_far (p := ⟨gb736, 3, none⟩) (Kd.R_far (p := ⟨gb736, 2, none⟩) (Kd.R_far (p := ⟨gb736, 1, none⟩) (Kd.R_far (p := ⟨gb736, 0, none⟩) (Kd.R_types HO_712002.1 BK736.1 (by decide)) (fun _ hk => hk.2) (.int .i64 t728)) (fun _ hk => hk.2) (.int .i64 t729)) (fun _ hk => hk.2) (.int .i64 t730)) (fun _ hk => hk.2) (.int .i64 t731)) (fun _ hk => hk.2) (.int .i64 t732)) (fun _ hk => hk.2) (.int .i64 t733)) (fun _ hk => hk.2) (.int .i64 t734)) (fun _ hk => hk.2) (.int .i64 t735)) (fun _ hk => ⟨hk.1.1.1, ⟨hk.1.1.2.1, ⟨hk.1.1.2.2.1, ⟨hk.1.1.2.2.2.1, ⟨hk.1.1.2.2.2.2, hk.1.2⟩⟩⟩⟩⟩)⟩
             have n5_ : Aside0 (Kd.R (Kd.int .i64) 3 ((((((((w125.setCell ⟨gb736, 0, none⟩ (.int .i64 t728)).setCell ⟨gb736, 1, none⟩ (.int .i64 t729)).setCell ⟨gb736, 2, none⟩ (.int .i64 t730)).setCell ⟨gb736, 3, none⟩ (.int .i64 t731)).setCell ⟨gb736, 4, none⟩ (.int .i64 t732)).setCell ⟨gb736, 5, none⟩ (.int .i64 t733)).setCell ⟨gb736, 6, none⟩ (.int .i64 t734)).setCell ⟨gb736, 7, none⟩ (.int .i64 t735)) w.heap.size (fun k_ => some k_ ≠ (.slice Ao11 t669.length co11 : Value).ownBlock ∧ some k_ ≠ (.slice Ao12 t674.length co12 : Value).ownBlock ∧ some k_ ≠ (.slice Ao18 t683.length co18 : Value).ownBlock ∧ some k_ ≠ (.slice Ao19 t688.length co19 : Value).ownBlock ∧ some k_ ≠ (.slice Ao46 t700.length co46 : Value).ownBlock ∧ some k_ ≠ (v725 : Value).ownBlock) (.slice Ao47 t705.length co47) t705) := ⟨by (with_reducible repeat (first | apply Kd.R_alloc | apply Kd.R_drewN | apply Kd.R_drew)); exact Kd.R_mono (Kd.R_far (p := ⟨gb736, 7, none⟩) (Kd.R_far (p := ⟨gb736, 6, none⟩) (Kd.R_far (p := ⟨gb736, 5, none⟩) (Kd.R_far (p := ⟨gb736, 4, none⟩) (Kd.R_far (p := ⟨gb736, 3, none⟩) (Kd.R_far (p := ⟨gb736, 2, none⟩) (Kd.R_far (p := ⟨gb736, 1, none⟩) (Kd.R_far (p := ⟨gb736, 0, none⟩) (Kd.R_types HO_712005.1 BK736.1 (by decide)) (fun _ hk => hk.2) (.int .i64 t728)) (fun _ hk => hk.2) (.int .i64 t729)) (fun _ hk => hk.2) (.int .i64 t730)) (fun _ hk => hk.2) (.int .i64 t731)) (fun _ hk => hk.2) (.int .i64 t732)) (fun _ hk => hk.2) (.int .i64 t733)) (fun _ hk => hk.2) (.int .i64 t734)) (fun _ hk => hk.2) (.int .i64 t735)) (fun _ hk => ⟨hk.1.1.1, ⟨hk.1.1.2.1, ⟨hk.1.1.2.2.1, ⟨hk.1.1.2.2.2.1, ⟨hk.1.1.2.2.2.2, hk.1.2⟩⟩⟩⟩⟩)⟩
             have n6_ : Aside0 (Kd.R (Kd.int .i64) 3 ((((((((w125.setCell ⟨gb736, 0, none⟩ (.int .i64 t728)).setCell ⟨gb736, 1, none⟩ (.int .i64 t729)).setCell ⟨gb736, 2, none⟩ (.int .i64 t730)).setCell ⟨gb736, 3, none⟩ (.int .i64 t731)).setCell ⟨gb736, 4, none⟩ (.int .i64 t732)).setCell ⟨gb736, 5, none⟩ (.int .i64 t733)).setCell ⟨gb736, 6, none⟩ (.int .i64 t734)).setCell ⟨gb736, 7, none⟩ (.int .i64 t735)) w.heap.size (fun k_ => some k_ ≠ (.slice Ao11 t669.length co11 : Value).ownBlock ∧ some k_ ≠ (.slice Ao12 t674.length co12 : Value).ownBlock ∧ some k_ ≠ (.slice Ao18 t683.length co18 : Value).ownBlock ∧ some k_ ≠ (.slice Ao19 t688.length co19 : Value).ownBlock ∧ some k_ ≠ (.slice Ao46 t700.length co46 : Value).ownBlock ∧ some k_ ≠ (.slice Ao47 t705.length co47 : Value).ownBlock) v725 t723) := ⟨by (with_reducible repeat (first | apply Kd.R_alloc | apply Kd.R_drewN | apply Kd.R_drew)); exact Kd.R_mono (Kd.R_far (p := ⟨gb736, 7, none⟩) (Kd.R_far (p := ⟨gb736, 6, none⟩) (Kd.R_far (p := ⟨gb736, 5, none⟩) (Kd.R_far (p := ⟨gb736, 4, none⟩) (Kd.R_far (p := ⟨gb736, 3, none⟩) (Kd.R_far (p := ⟨gb736, 2, none⟩) (Kd.R_far (p := ⟨gb736, 1, none⟩) (Kd.R_far (p := ⟨gb736, 0, none⟩) (Kd.R_types HO726.1 BK736.1 (by decide)) (fun _ hk => hk.2) (.int .i64 t728)) (fun _ hk => hk.2) (.int .i64 t729)) (fun _ hk => hk.2) (.int .i64 t730)) (fun _ hk => hk.2) (.int .i64 t731)) (fun _ hk => hk.2) (.int .i64 t732)) (fun _ hk => hk.2) (.int .i64 t733)) (fun _ hk => hk.2) (.int .i64 t734)) (fun _ hk => hk.2) (.int .i64 t735)) (fun _ hk => ⟨hk.1.1.1.1.1.1.2, ⟨hk.1.1.1.1.1.2, ⟨hk.1.1.1.1.2, ⟨hk.1.1.1.2, ⟨hk.1.1.2, hk.1.2⟩⟩⟩⟩⟩)⟩
             have n7_ : Aside0 (((((((((w125.setCell ⟨gb736, 0, none⟩ (.int .i64 t728)).setCell ⟨gb736, 1, none⟩ (.int .i64 t729)).setCell ⟨gb736, 2, none⟩ (.int .i64 t730)).setCell ⟨gb736, 3, none⟩ (.int .i64 t731)).setCell ⟨gb736, 4, none⟩ (.int .i64 t732)).setCell ⟨gb736, 5, none⟩ (.int .i64 t733)).setCell ⟨gb736, 6, none⟩ (.int .i64 t734)).setCell ⟨gb736, 7, none⟩ (.int .i64 t735)).heap[gb679]? = some (c284_ t667 t668 Ao11 t669.length co11 t672 t673 Ao12 t674.length co12 t677 t678)) := ⟨bk_ BK679.1⟩
             have n8_ : Aside0 (((((((((w125.setCell ⟨gb736, 0, none⟩ (.int .i64 t728)).setCell ⟨gb736, 1, none⟩ (.int .i64 t729)).setCell ⟨gb736, 2, none⟩ (.int .i64 t730)).setCell ⟨gb736, 3, none⟩ (.int .i64 t731)).setCell ⟨gb736, 4, none⟩ (.int .i64 t732)).setCell ⟨gb736, 5, none⟩ (.int .i64 t733)).setCell ⟨gb736, 6, none⟩ (.int .i64 t734)).setCell ⟨gb736, 7, none⟩ (.int .i64 t735)).heap[gb694]? = some (c284_ t681 t682 Ao18 t683.length co18 t686 t687 Ao19 t688.length co19 t691 t692)) := ⟨bk_ BK694.1⟩
             have n9_ : Aside0 (((((((((w125.setCell ⟨gb736, 0, none⟩ (.int .i64 t728)).setCell ⟨gb736, 1, none⟩ (.int .i64 t729)).setCell ⟨gb736, 2, none⟩ (.int .i64 t730)).setCell ⟨gb736, 3, none⟩ (.int .i64 t731)).setCell ⟨gb736, 4, none⟩ (.int .i64 t732)).setCell ⟨gb736, 5, none⟩ (.int .i64 t733)).setCell ⟨gb736, 6, none⟩ (.int .i64 t734)).setCell ⟨gb736, 7, none⟩ (.int .i64 t735)).heap[gb711]? = some (c284_ t698 t699 Ao46 t700.length co46 t703 t704 Ao47 t705.length co47 t708 t709)) := ⟨bk_ BK711.1⟩
             have n10_ : Aside0 (((((((((w125.setCell ⟨gb736, 0, none⟩ (.int .i64 t728)).setCell ⟨gb736, 1, none⟩ (.int .i64 t729)).setCell ⟨gb736, 2, none⟩ (.int .i64 t730)).setCell ⟨gb736, 3, none⟩ (.int .i64 t731)).setCell ⟨gb736, 4, none⟩ (.int .i64 t732)).setCell ⟨gb736, 5, none⟩ (.int .i64 t733)).setCell ⟨gb736, 6, none⟩ (.int .i64 t734)).setCell ⟨gb736, 7, none⟩ (.int .i64 t735)).heap[gb736]? = some (c285_ t728 t729 t730 t731 t732 t733 t734 t735)) := ⟨bk_ BK736.1⟩
             have n11_ : Aside0 (Below w.heap.size w ((((((((w125.setCell ⟨gb736, 0, none⟩ (.int .i64 t728)).setCell ⟨gb736, 1, none⟩ (.int .i64 t729)).setCell ⟨gb736, 2, none⟩ (.int .i64 t730)).setCell ⟨gb736, 3, none⟩ (.int .i64 t731)).setCell ⟨gb736, 4, none⟩ (.int .i64 t732)).setCell ⟨gb736, 5, none⟩ (.int .i64 t733)).setCell ⟨gb736, 6, none⟩ (.int .i64 t734)).setCell ⟨gb736, 7, none⟩ (.int .i64 t735))) := ⟨wB_⟩
             (try clear HO_680002)
             (try clear HO_680005)
             (try clear HO_695002)
             (try clear HO_695005)
             (try clear HO_712002)
             (try clear HO_712005)
             (try clear HO726)
             (try clear BK679)
             (try clear BK694)
             (try clear BK711)
             (try clear BK736)
             (try clear HB)
             generalize ((((((((w125.setCell ⟨gb736, 0, none⟩ (.int .i64 t728)).setCell ⟨gb736, 1, none⟩ (.int .i64 t729)).setCell ⟨gb736, 2, none⟩ (.int .i64 t730)).setCell ⟨gb736, 3, none⟩ (.int .i64 t731)).setCell ⟨gb736, 4, none⟩ (.int .i64 t732)).setCell ⟨gb736, 5, none⟩ (.int .i64 t733)).setCell ⟨gb736, 6, none⟩ (.int .i64 t734)).setCell ⟨gb736, 7, none⟩ (.int .i64 t735)) = w130 at n0_ n1_ n2_ n3_ n4_ n5_ n6_ n7_ n8_ n9_ n10_ n11_ ⊢
             have HO_680002 := n0_
             have HO_680005 := n1_
             have HO_695002 := n2_
             have HO_695005 := n3_
             have HO_712002 := n4_
             have HO_712005 := n5_
             have HO726 := n6_
             have BK679 := n7_
             have BK694 := n8_
             have BK711 := n9_
             have BK736 := n10_
             have HB := n11_
             clear n0_ n1_ n2_ n3_ n4_ n5_ n6_ n7_ n8_ n9_ n10_ n11_
             replace HO_680002 := o_ (Kd.R_drew HO_680002.1)
             replace HO_680005 := o_ (Kd.R_drew HO_680005.1)
             replace HO_695002 := o_ (Kd.R_drew HO_695002.1)
             replace HO_695005 := o_ (Kd.R_drew HO_695005.1)
             replace HO_712002 := o_ (Kd.R_drew HO_712002.1)
             replace HO_712005 := o_ (Kd.R_drew HO_712005.1)
             replace HO726 := o_ (Kd.R_drew HO726.1)
             replace BK679 := o_ (blk_drew BK679.1)
             replace BK694 := o_ (blk_drew BK694.1)
             replace BK711 := o_ (blk_drew BK711.1)
             replace BK736 := o_ (blk_drew BK736.1)
             replace HB := o_ (below_drew1 HB.1)
             refine start_ (n := 29) (S := fun w' => q3e_ w' gb736 t728 t729 t730 t731 t732 t733 t734 t735) (ds := []) M4_0 (by kernel_rfl) rfl rfl ⟨(blk_cell BK736.1 0).trans rfl, (blk_cell BK736.1 1).trans rfl, (blk_cell BK736.1 2).trans rfl, (blk_cell BK736.1 3).trans rfl, (blk_cell BK736.1 4).trans rfl, (blk_cell BK736.1 5).trans rfl, (blk_cell BK736.1 6).trans rfl, (blk_cell BK736.1 7).trans rfl⟩ (fun hHeld => ?_); refine with_tabW laws_FnForms.tab19 laws_FnForms.bits19 (fun HT_ HW_ => ?_)
             generalize w130.drew = w131 at HO_680002 HO_680005 HO_695002 HO_695005 HO_712002 HO_712005 HO726 BK679 BK694 BK711 BK736 HB hHeld ⊢
             refine pu_ 0 (some 81) M4_1 HT_ ?_
             refine pu_ 1 (some 82) M4_2 HT_ ?_
             refine pu_ 2 (some 83) M4_3 HT_ ?_
             refine pn_ 3 (some 84) M4_4 HT_ ?_
             refine pn_ 4 (some 85) M4_32 HT_ ?_
             refine pn_ 5 (some 86) M4_6 HT_ ?_
             refine pn_ 6 (some 87) M4_7 HT_ ?_
             refine pu_ 7 (some 88) M4_8 HT_ ?_
             refine pu_ 8 (some 89) M4_9 HT_ ?_
             refine pu_ 9 (some 90) M4_10 HT_ ?_
             refine one_ (i := 10) (N := some 91) M4_11 rfl rfl (one_of HT_.1 (by kernel_rfl)) (by decide) (fun K hK => ?_)
             refine goes_ Tryd.func23 (by kernel_rfl) rfl #[.string t727] (by rfl) rfl rfl ma_ ?_
             with_reducible refine (impl_KindOf.calls kj57 t727 t745 _ A117.1).mono ?_
             rintro e w132 ⟨rfl, hb⟩
             refine ⟨_, rfl, ?_⟩
             replace HO_680002 := o_ (Kd.R_below (rd_ HO_680002.1) hb)
             replace HO_680005 := o_ (Kd.R_below (rd_ HO_680005.1) hb)
             replace HO_695002 := o_ (Kd.R_below (rd_ HO_695002.1) hb)
             replace HO_695005 := o_ (Kd.R_below (rd_ HO_695005.1) hb)
             replace HO_712002 := o_ (Kd.R_below (rd_ HO_712002.1) hb)
             replace HO_712005 := o_ (Kd.R_below (rd_ HO_712005.1) hb)
             replace HO726 := o_ (Kd.R_below (rd_ HO726.1) hb)
             replace BK679 := o_ (blk_below (bd_ BK679.1) hb)
             replace BK694 := o_ (blk_below (bd_ BK694.1) hb)
             replace BK711 := o_ (blk_below (bd_ BK711.1) hb)
             replace BK736 := o_ (blk_below (bd_ BK736.1) hb)
             replace HB := o_ (below_step wB_ hb)
             (try clear hb)
             (try clear hb2)
             (try clear hk)
             (try clear hi)
             refine hK.out _ _ ⟨(blk_cell BK736.1 0).trans rfl, (blk_cell BK736.1 1).trans rfl, (blk_cell BK736.1 2).trans rfl, (blk_cell BK736.1 3).trans rfl, (blk_cell BK736.1 4).trans rfl, (blk_cell BK736.1 5).trans rfl, (blk_cell BK736.1 6).trans rfl, (blk_cell BK736.1 7).trans rfl⟩ (fun hHeld => ?_)
             clear hK K
             refine norm_ (a' := ?_) ?_ ?_
             rotate_left
             ·
              show Act.put _ (some 91) _ = _
              simp only [Act.put, P4_1, P4_2, P4_3, i64_w, i32_w]
              rfl
             refine pu_ 11 (some 92) M4_12 HT_ ?_
             refine pu_ 12 (some 93) M4_13 HT_ ?_
             refine pn_ 13 (some 94) M4_14 HT_ ?_
             refine pn_ 14 (some 95) M4_15 HT_ ?_
             refine pn_ 15 (some 96) M4_16 HT_ ?_
             refine pn_ 16 (some 97) M4_17 HT_ ?_
             refine pn_ 17 (some 98) M4_18 HT_ ?_
             refine pu_ 18 (some 99) M4_19 HT_ ?_
             refine pu_ 19 (some 100) M4_20 HT_ ?_
             refine pu_ 20 (some 101) M4_21 HT_ ?_
             refine tk_ 21 (some 102) M4_22 HT_ HW_ hHeld ?_
             refine tk_ 23 (some 104) M4_23 HT_ HW_ hHeld ?_
             refine one_ (i := 22) (N := some 103) M4_24 rfl rfl (one_of HT_.1 (by kernel_rfl)) (by decide) (fun K hK => ?_)
             refine goes_ Tryd.func25 (by kernel_rfl) rfl #[.agg #[.int .i64 t728, .int .i64 t729, .int .i64 t730, .int .i64 t731, .int .i64 t732, .int .i64 t733, .int .i64 t734, .int .i64 t735]] (by rfl) rfl rfl ma_ ?_
             with_reducible refine (impl_IsFind.calls t728 t729 t730 t731 t732 t733 t734 t735 t746 _ A119.1).mono ?_
             rintro e w133 ⟨rfl, hb⟩
             refine ⟨_, rfl, ?_⟩
             replace HO_680002 := o_ (Kd.R_below (rd_ HO_680002.1) hb)
             replace HO_680005 := o_ (Kd.R_below (rd_ HO_680005.1) hb)
             replace HO_695002 := o_ (Kd.R_below (rd_ HO_695002.1) hb)
             replace HO_695005 := o_ (Kd.R_below (rd_ HO_695005.1) hb)
             replace HO_712002 := o_ (Kd.R_below (rd_ HO_712002.1) hb)
             replace HO_712005 := o_ (Kd.R_below (rd_ HO_712005.1) hb)
             replace HO726 := o_ (Kd.R_below (rd_ HO726.1) hb)
             replace BK679 := o_ (blk_below (bd_ BK679.1) hb)
             replace BK694 := o_ (blk_below (bd_ BK694.1) hb)
             replace BK711 := o_ (blk_below (bd_ BK711.1) hb)
             replace BK736 := o_ (blk_below (bd_ BK736.1) hb)
             replace HB := o_ (below_step wB_ hb)
             (try clear hb)
             (try clear hb2)
             (try clear hk)
             (try clear hi)
             refine hK.out _ _ ⟨(blk_cell BK736.1 0).trans rfl, (blk_cell BK736.1 1).trans rfl, (blk_cell BK736.1 2).trans rfl, (blk_cell BK736.1 3).trans rfl, (blk_cell BK736.1 4).trans rfl, (blk_cell BK736.1 5).trans rfl, (blk_cell BK736.1 6).trans rfl, (blk_cell BK736.1 7).trans rfl⟩ (fun hHeld => ?_)
             clear hK K
             refine norm_ (a' := ?_) ?_ ?_
             rotate_left
             ·
              show Act.put _ (some 103) _ = _
              simp only [Act.put, P4_1, P4_2, P4_3, i64_w, i32_w]
              rfl
             refine one_ (i := 24) (N := some 105) M4_25 rfl rfl (one_of HT_.1 (by kernel_rfl)) (by decide) (fun K hK => ?_)
             refine goes_ Tryd.func26 (by kernel_rfl) rfl #[.agg #[.int .i64 t728, .int .i64 t729, .int .i64 t730, .int .i64 t731, .int .i64 t732, .int .i64 t733, .int .i64 t734, .int .i64 t735]] (by rfl) rfl rfl ma_ ?_
             with_reducible refine (impl_FindText.calls t728 t729 t730 t731 t732 t733 t734 t735 t747 _ A120.1 (TB_.below wB_)).mono ?_
             rintro e w134 ⟨rfl, hb⟩
             refine ⟨_, rfl, ?_⟩
             replace HO_680002 := o_ (Kd.R_below (rd_ HO_680002.1) hb)
             replace HO_680005 := o_ (Kd.R_below (rd_ HO_680005.1) hb)
             replace HO_695002 := o_ (Kd.R_below (rd_ HO_695002.1) hb)
             replace HO_695005 := o_ (Kd.R_below (rd_ HO_695005.1) hb)
             replace HO_712002 := o_ (Kd.R_below (rd_ HO_712002.1) hb)
             replace HO_712005 := o_ (Kd.R_below (rd_ HO_712005.1) hb)
             replace HO726 := o_ (Kd.R_below (rd_ HO726.1) hb)
             replace BK679 := o_ (blk_below (bd_ BK679.1) hb)
             replace BK694 := o_ (blk_below (bd_ BK694.1) hb)
             replace BK711 := o_ (blk_below (bd_ BK711.1) hb)
             replace BK736 := o_ (blk_below (bd_ BK736.1) hb)
             replace HB := o_ (below_step wB_ hb)
             (try clear hb)
             (try clear hb2)
             (try clear hk)
             (try clear hi)
             refine hK.out _ _ ⟨(blk_cell BK736.1 0).trans rfl, (blk_cell BK736.1 1).trans rfl, (blk_cell BK736.1 2).trans rfl, (blk_cell BK736.1 3).trans rfl, (blk_cell BK736.1 4).trans rfl, (blk_cell BK736.1 5).trans rfl, (blk_cell BK736.1 6).trans rfl, (blk_cell BK736.1 7).trans rfl⟩ (fun hHeld => ?_)
             clear hK K
             refine norm_ (a' := ?_) ?_ ?_
             rotate_left
             ·
              show Act.put _ (some 105) _ = _
              simp only [Act.put, P4_1, P4_2, P4_3, i64_w, i32_w]
              rfl
             refine pu_ 25 (some 106) M4_26 HT_ ?_
             refine pu_ 26 (some 107) M4_27 HT_ ?_
             refine pu_ 27 (some 108) M4_28 HT_ ?_
             refine pu_ 28 (some 2) M4_29 HT_ ?_
             refine done_ (done_of HT_.1 (by kernel_rfl)) ?_
             try go_wp2
             go_ret
             exact ⟨(by first | (simp at Hr_ ⊢; exact Hr_.trans (ne_emp _)) | (simp_all; exact ne_emp _)), wB_⟩
            ·
             rw [if_neg c118] at H
             have c118b0 := beq_eq_false_iff_ne.mpr c118
             have c118b1 := bne_iff_ne.mpr c118
             replace H := Option.bind_eq_some_iff.mp H
             obtain ⟨t748, A1350, H⟩ := H
             try dsimp only at H
             have A135 := o_ A1350
             clear A1350
             replace H := Option.bind_eq_some_iff.mp H
             obtain ⟨t749, A1360, H⟩ := H
             try dsimp only at H
             have A136 := o_ A1360
             clear A1360
             by_cases c137 : t749.toList = t727.toList
             ·
              rw [if_pos c137] at H
              have c137b0 := beq_iff_eq.mpr c137
              have c137b1 := bne_eq_false_iff_eq.mpr c137
              clear c137
              replace H := Option.bind_eq_some_iff.mp H
              obtain ⟨t750, A1380, H⟩ := H
              try dsimp only at H
              have A138 := o_ A1380
              clear A1380
              replace H := Option.bind_eq_some_iff.mp H
              obtain ⟨t751, A1390, H⟩ := H
              try dsimp only at H
              have A139 := o_ A1390
              clear A1390
              first | (obtain rfl := Option.some.inj H) | (have Hr_ := Option.some.inj H; clear H)
              try go_wp2_with (first | ((with_reducible refine g_ 20 ?_); refine gl_ (some 71) Tryd.func20 #[.slice A0 l0.length c0] ?_; (with_reducible refine (spec_DrawParseList.calls kj57 _ _ l0 t722 _ ?side1 ?side2 A67.1).mono ?_); (case side1 => exact cd_ (Kd.C_below HR0.1 HB.1)); (case side2 => exact HC0.1); rintro e w140 ⟨rfl, hb⟩; refine ⟨_, rfl, ?_⟩; replace HO_680002 := o_ (Kd.R_below (rd_ HO_680002.1) hb); replace HO_680005 := o_ (Kd.R_below (rd_ HO_680005.1) hb); replace HO_695002 := o_ (Kd.R_below (rd_ HO_695002.1) hb); replace HO_695005 := o_ (Kd.R_below (rd_ HO_695005.1) hb); replace HO_712002 := o_ (Kd.R_below (rd_ HO_712002.1) hb); replace HO_712005 := o_ (Kd.R_below (rd_ HO_712005.1) hb); replace BK679 := o_ (blk_below (bd_ BK679.1) hb); replace BK694 := o_ (blk_below (bd_ BK694.1) hb); replace BK711 := o_ (blk_below (bd_ BK711.1) hb); replace HB := o_ (below_step wB_ hb); (try clear hb)) | ((with_reducible refine g_ 17 ?_); refine gl_ (some 74) Tryd.func17 #[.string t722] ?_; (with_reducible refine (impl_ParseList.calls kj57 t722 t723 false _ A68.1 (TB_.below wB_)).mono ?_); rintro e w141 ⟨v725, rfl, ho0, hb⟩; refine ⟨_, rfl, ?_⟩; have HO726 := o_ (Kd.R_lower (Kd.R_new' (Kd.R_new' (Kd.R_new' (Kd.R_new' (Kd.R_new' (Kd.R_new' ho0 (Kd.R_lt (rd_ HO_680002.1))) (Kd.R_lt (rd_ HO_680005.1))) (Kd.R_lt (rd_ HO_695002.1))) (Kd.R_lt (rd_ HO_695005.1))) (Kd.R_lt (rd_ HO_712002.1))) (Kd.R_lt (rd_ HO_712005.1))) (below_size wB_)); replace HO_680002 := o_ (Kd.R_elder' (rd_ HO_680002.1) (Kd.R_base ho0) hb); replace HO_680005 := o_ (Kd.R_elder' (rd_ HO_680005.1) (Kd.R_base ho0) hb); replace HO_695002 := o_ (Kd.R_elder' (rd_ HO_695002.1) (Kd.R_base ho0) hb); replace HO_695005 := o_ (Kd.R_elder' (rd_ HO_695005.1) (Kd.R_base ho0) hb); replace HO_712002 := o_ (Kd.R_elder' (rd_ HO_712002.1) (Kd.R_base ho0) hb); replace HO_712005 := o_ (Kd.R_elder' (rd_ HO_712005.1) (Kd.R_base ho0) hb); replace BK679 := o_ (blk_below (bd_ BK679.1) hb); replace BK694 := o_ (blk_below (bd_ BK694.1) hb); replace BK711 := o_ (blk_below (bd_ BK711.1) hb); replace HB := o_ (below_step wB_ hb); (try clear hb ho0)) | ((with_reducible refine g_ 21 ?_); refine gl_ (some 78) Tryd.func21 #[.slice A0 l0.length c0] ?_; (with_reducible refine (spec_DrawKindOf.calls kj57 _ _ l0 t727 _ ?side1 ?side2 A69.1).mono ?_); (case side1 => exact cd_ (Kd.C_below HR0.1 HB.1)); (case side2 => exact HC0.1); rintro e w142 ⟨rfl, hb⟩; refine ⟨_, rfl, ?_⟩; replace HO_680002 := o_ (Kd.R_below (rd_ HO_680002.1) hb); replace HO_680005 := o_ (Kd.R_below (rd_ HO_680005.1) hb); replace HO_695002 := o_ (Kd.R_below (rd_ HO_695002.1) hb); replace HO_695005 := o_ (Kd.R_below (rd_ HO_695005.1) hb); replace HO_712002 := o_ (Kd.R_below (rd_ HO_712002.1) hb); replace HO_712005 := o_ (Kd.R_below (rd_ HO_712005.1) hb); replace HO726 := o_ (Kd.R_below (rd_ HO726.1) hb); replace BK679 := o_ (blk_below (bd_ BK679.1) hb); replace BK694 := o_ (blk_below (bd_ BK694.1) hb); replace BK711 := o_ (blk_below (bd_ BK711.1) hb); replace HB := o_ (below_step wB_ hb); (try clear hb)) | ((with_reducible refine g_ 22 ?_); refine gl_ (some 80) Tryd.func22 #[.slice A0 l0.length c0] ?_; (with_reducible refine (spec_DrawFindText.calls kj57 _ _ l0 t728 t729 t730 t731 t732 t733 t734 t735 _ ?side1 ?side2 A70.1).mono ?_); (case side1 => exact cd_ (Kd.C_below HR0.1 HB.1)); (case side2 => exact HC0.1); rintro e w143 ⟨rfl, hb⟩; refine ⟨_, rfl, ?_⟩; replace HO_680002 := o_ (Kd.R_below (rd_ HO_680002.1) hb); replace HO_680005 := o_ (Kd.R_below (rd_ HO_680005.1) hb); replace HO_695002 := o_ (Kd.R_below (rd_ HO_695002.1) hb); replace HO_695005 := o_ (Kd.R_below (rd_ HO_695005.1) hb); replace HO_712002 := o_ (Kd.R_below (rd_ HO_712002.1) hb); replace HO_712005 := o_ (Kd.R_below (rd_ HO_712005.1) hb); replace HO726 := o_ (Kd.R_below (rd_ HO726.1) hb); replace BK679 := o_ (blk_below (bd_ BK679.1) hb); replace BK694 := o_ (blk_below (bd_ BK694.1) hb); replace BK711 := o_ (blk_below (bd_ BK711.1) hb); replace HB := o_ (below_step wB_ hb); (try clear hb)) | ((with_reducible refine gate_dst (N := 16) rfl ?_); refine bx_ 16 #[.int .i64 0, .int .i64 0, .int .i64 0, .int .i64 0, .int .i64 0, .int .i64 0, .int .i64 0, .int .i64 0] 44 ?_; intro gb736 hg w144 hbox hb; replace HO_680002 := o_ (Kd.R_below (rd_ HO_680002.1) hb); replace HO_680005 := o_ (Kd.R_below (rd_ HO_680005.1) hb); replace HO_695002 := o_ (Kd.R_below (rd_ HO_695002.1) hb); replace HO_695005 := o_ (Kd.R_below (rd_ HO_695005.1) hb); replace HO_712002 := o_ (Kd.R_below (rd_ HO_712002.1) hb); replace HO_712005 := o_ (Kd.R_below (rd_ HO_712005.1) hb); replace HO726 := o_ (Kd.R_below (rd_ HO726.1) hb); have BK736 := o_ (hbox); have GW736 := o_ ((y328_ : w.heap.size ≤ gb736)); replace HB := o_ (below_step wB_ hb); have GE736 := GW736; have NB679_736 := o_ ((y316_ : gb679 ≠ gb736)); have NB736_679 := o_ ((y317_ : gb736 ≠ gb679)); replace BK679 := o_ (blk_below (bd_ BK679.1) hb); have NB694_736 := o_ ((y320_ : gb694 ≠ gb736)); have NB736_694 := o_ ((y321_ : gb736 ≠ gb694)); replace BK694 := o_ (blk_below (bd_ BK694.1) hb); have NB711_736 := o_ ((y324_ : gb711 ≠ gb736)); have NB736_711 := o_ ((y325_ : gb736 ≠ gb711)); replace BK711 := o_ (blk_below (bd_ BK711.1) hb); clear hb hbox hg; have hnb145 := NB736_679.1; have hnc145 := NB679_736.1; have hnb146 := NB736_694.1; have hnc146 := NB694_736.1; have hnb147 := NB736_711.1; have hnc147 := NB711_736.1; obtain ⟨hcz148_0, hcz148_1, hcz148_2, hcz148_3, hcz148_4, hcz148_5, hcz148_6, hcz148_7⟩ := e287_ BK736.1; obtain ⟨hfz148_0, hfz148_1, hfz148_2, hfz148_3, hfz148_4, hfz148_5, hfz148_6, hfz148_7⟩ := z288_ BK736.1))
              have n0_ : Aside0 (Kd.R (Kd.int .i64) 3 ((((((((w144.setCell ⟨gb736, 0, none⟩ (.int .i64 t728)).setCell ⟨gb736, 1, none⟩ (.int .i64 t729)).setCell ⟨gb736, 2, none⟩ (.int .i64 t730)).setCell ⟨gb736, 3, none⟩ (.int .i64 t731)).setCell ⟨gb736, 4, none⟩ (.int .i64 t732)).setCell ⟨gb736, 5, none⟩ (.int .i64 t733)).setCell ⟨gb736, 6, none⟩ (.int .i64 t734)).setCell ⟨gb736, 7, none⟩ (.int .i64 t735)) w.heap.size (fun k_ => some k_ ≠ (.slice Ao12 t674.length co12 : Value).ownBlock ∧ some k_ ≠ (.slice Ao18 t683.length co18 : Value).ownBlock ∧ some k_ ≠ (.slice Ao19 t688.length co19 : Value).ownBlock ∧ some k_ ≠ (.slice Ao46 t700.length co46 : Value).ownBlock ∧ some k_ ≠ (.slice Ao47 t705.length co47 : Value).ownBlock ∧ some k_ ≠ (v725 : Value).ownBlock) (.slice Ao11 t669.length co11) t669) := ⟨by (with_reducible repeat (first | apply Kd.R_alloc | apply Kd.R_drewN | apply Kd.R_drew)); exact Kd.R_mono (Kd.R_far (p := ⟨gb736, 7, none⟩) (Kd.R_far (p := ⟨gb736, 6, none⟩) (Kd.R_far (p := ⟨gb736, 5, none⟩) (Kd.R_far (p := ⟨gb736, 4, none⟩) (Kd.R_far (p := ⟨gb736, 3, none⟩) (Kd.R_far (p := ⟨gb736, 2, none⟩) (Kd.R_far (p := ⟨gb736, 1, none⟩) (Kd.R_far (p := ⟨gb736, 0, none⟩) (Kd.R_types HO_680002.1 BK736.1 (by decide)) (fun _ hk => hk.2) (.int .i64 t728)) (fun _ hk => hk.2) (.int .i64 t729)) (fun _ hk => hk.2) (.int .i64 t730)) (fun _ hk => hk.2) (.int .i64 t731)) (fun _ hk => hk.2) (.int .i64 t732)) (fun _ hk => hk.2) (.int .i64 t733)) (fun _ hk => hk.2) (.int .i64 t734)) (fun _ hk => hk.2) (.int .i64 t735)) (fun _ hk => ⟨hk.1.1.1, ⟨hk.1.1.2.1, ⟨hk.1.1.2.2.1, ⟨hk.1.1.2.2.2.1, ⟨hk.1.1.2.2.2.2, hk.1.2⟩⟩⟩⟩⟩)⟩
              have n1_ : Aside0 (Kd.R (Kd.int .i64) 3 ((((((((w144.setCell ⟨gb736, 0, none⟩ (.int .i64 t728)).setCell ⟨gb736, 1, none⟩ (.int .i64 t729)).setCell ⟨gb736, 2, none⟩ (.int .i64 t730)).setCell ⟨gb736, 3, none⟩ (.int .i64 t731)).setCell ⟨gb736, 4, none⟩ (.int .i64 t732)).setCell ⟨gb736, 5, none⟩ (.int .i64 t733)).setCell ⟨gb736, 6, none⟩ (.int .i64 t734)).setCell ⟨gb736, 7, none⟩ (.int .i64 t735)) w.heap.size (fun k_ => some k_ ≠ (.slice Ao11 t669.length co11 : Value).ownBlock ∧ some k_ ≠ (.slice Ao18 t683.length co18 : Value).ownBlock ∧ some k_ ≠ (.slice Ao19 t688.length co19 : Value).ownBlock ∧ some k_ ≠ (.slice Ao46 t700.length co46 : Value).ownBlock ∧ some k_ ≠ (.slice Ao47 t705.length co47 : Value).ownBlock ∧ some k_ ≠ (v725 : Value).ownBlock) (.slice Ao12 t674.length co12) t674) := ⟨by (with_reducible repeat (first | apply Kd.R_alloc | apply Kd.R_drewN | apply Kd.R_drew)); exact Kd.R_mono (Kd.R_far (p := ⟨gb736, 7, none⟩) (Kd.R_far (p := ⟨gb736, 6, none⟩) (Kd.R_far (p := ⟨gb736, 5, none⟩) (Kd.R_far (p := ⟨gb736, 4, none⟩) (Kd.R_far (p := ⟨gb736, 3, none⟩) (Kd.R_far (p := ⟨gb736, 2, none⟩) (Kd.R_far (p := ⟨gb736, 1, none⟩) (Kd.R_far (p := ⟨gb736, 0, none⟩) (Kd.R_types HO_680005.1 BK736.1 (by decide)) (fun _ hk => hk.2) (.int .i64 t728)) (fun _ hk => hk.2) (.int .i64 t729)) (fun _ hk => hk.2) (.int .i64 t730)) (fun _ hk => hk.2) (.int .i64 t731)) (fun _ hk => hk.2) (.int .i64 t732)) (fun _ hk => hk.2) (.int .i64 t733)) (fun _ hk => hk.2) (.int .i64 t734)) (fun _ hk => hk.2) (.int .i64 t735)) (fun _ hk => ⟨hk.1.1.1, ⟨hk.1.1.2.1, ⟨hk.1.1.2.2.1, ⟨hk.1.1.2.2.2.1, ⟨hk.1.1.2.2.2.2, hk.1.2⟩⟩⟩⟩⟩)⟩
              have n2_ : Aside0 (Kd.R (Kd.int .i64) 3 ((((((((w144.setCell ⟨gb736, 0, none⟩ (.int .i64 t728)).setCell ⟨gb736, 1, none⟩ (.int .i64 t729)).setCell ⟨gb736, 2, none⟩ (.int .i64 t730)).setCell ⟨gb736, 3, none⟩ (.int .i64 t731)).setCell ⟨gb736, 4, none⟩ (.int .i64 t732)).setCell ⟨gb736, 5, none⟩ (.int .i64 t733)).setCell ⟨gb736, 6, none⟩ (.int .i64 t734)).setCell ⟨gb736, 7, none⟩ (.int .i64 t735)) w.heap.size (fun k_ => some k_ ≠ (.slice Ao11 t669.length co11 : Value).ownBlock ∧ some k_ ≠ (.slice Ao12 t674.length co12 : Value).ownBlock ∧ some k_ ≠ (.slice Ao19 t688.length co19 : Value).ownBlock ∧ some k_ ≠ (.slice Ao46 t700.length co46 : Value).ownBlock ∧ some k_ ≠ (.slice Ao47 t705.length co47 : Value).ownBlock ∧ some k_ ≠ (v725 : Value).ownBlock) (.slice Ao18 t683.length co18) t683) := ⟨by (with_reducible repeat (first | apply Kd.R_alloc | apply Kd.R_drewN | apply Kd.R_drew)); exact Kd.R_mono (Kd.R_far (p := ⟨gb736, 7, none⟩) (Kd.R_far (p := ⟨gb736, 6, none⟩) (Kd.R_far (p := ⟨gb736, 5, none⟩) (Kd.R_far (p := ⟨gb736, 4, none⟩) (Kd.R_far (p := ⟨gb736, 3, none⟩) (Kd.R_far (p := ⟨gb736, 2, none⟩) (Kd.R_far (p := ⟨gb736, 1, none⟩) (Kd.R_far (p := ⟨gb736, 0, none⟩) (Kd.R_types HO_695002.1 BK736.1 (by decide)) (fun _ hk => hk.2) (.int .i64 t728)) (fun _ hk => hk.2) (.int .i64 t729)) (fun _ hk => hk.2) (.int .i64 t730)) (fun _ hk => hk.2) (.int .i64 t731)) (fun _ hk => hk.2) (.int .i64 t732)) (fun _ hk => hk.2) (.int .i64 t733)) (fun _ hk => hk.2) (.int .i64 t734)) (fun _ hk => hk.2) (.int .i64 t735)) (fun _ hk => ⟨hk.1.1.1, ⟨hk.1.1.2.1, ⟨hk.1.1.2.2.1, ⟨hk.1.1.2.2.2.1, ⟨hk.1.1.2.2.2.2, hk.1.2⟩⟩⟩⟩⟩)⟩
              have n3_ : Aside0 (Kd.R (Kd.int .i64) 3 ((((((((w144.setCell ⟨gb736, 0, none⟩ (.int .i64 t728)).setCell ⟨gb736, 1, none⟩ (.int .i64 t729)).setCell ⟨gb736, 2, none⟩ (.int .i64 t730)).setCell ⟨gb736, 3, none⟩ (.int .i64 t731)).setCell ⟨gb736, 4, none⟩ (.int .i64 t732)).setCell ⟨gb736, 5, none⟩ (.int .i64 t733)).setCell ⟨gb736, 6, none⟩ (.int .i64 t734)).setCell ⟨gb736, 7, none⟩ (.int .i64 t735)) w.heap.size (fun k_ => some k_ ≠ (.slice Ao11 t669.length co11 : Value).ownBlock ∧ some k_ ≠ (.slice Ao12 t674.length co12 : Value).ownBlock ∧ some k_ ≠ (.slice Ao18 t683.length co18 : Value).ownBlock ∧ some k_ ≠ (.slice Ao46 t700.length co46 : Value).ownBlock ∧ some k_ ≠ (.slice Ao47 t705.length co47 : Value).ownBlock ∧ some k_ ≠ (v725 : Value).ownBlock) (.slice Ao19 t688.length co19) t688) := ⟨by (with_reducible repeat (first | apply Kd.R_alloc | apply Kd.R_drewN | apply Kd.R_drew)); exact Kd.R_mono (Kd.R_far (p := ⟨gb736, 7, none⟩) (Kd.R_far (p := ⟨gb736, 6, none⟩) (Kd.R_far (p := ⟨gb736, 5, none⟩) (Kd.R_far (p := ⟨gb736, 4, none⟩) (Kd.R_far (p := ⟨gb736, 3, none⟩) (Kd.R_far (p := ⟨gb736, 2, none⟩) (Kd.R_far (p := ⟨gb736, 1, none⟩) (Kd.R_far (p := ⟨gb736, 0, none⟩) (Kd.R_types HO_695005.1 BK736.1 (by decide)) (fun _ hk => hk.2) (.int .i64 t728)) (fun _ hk => hk.2) (.int .i64 t729)) (fun _ hk => hk.2) (.int .i64 t730)) (fun _ hk => hk.2) (.int .i64 t731)) (fun _ hk => hk.2) (.int .i64 t732)) (fun _ hk => hk.2) (.int .i64 t733)) (fun _ hk => hk.2) (.int .i64 t734)) (fun _ hk => hk.2) (.int .i64 t735)) (fun _ hk => ⟨hk.1.1.1, ⟨hk.1.1.2.1, ⟨hk.1.1.2.2.1, ⟨hk.1.1.2.2.2.1, ⟨hk.1.1.2.2.2.2, hk.1.2⟩⟩⟩⟩⟩)⟩
              have n4_ : Aside0 (Kd.R (Kd.int .i64) 3 ((((((((w144.setCell ⟨gb736, 0, none⟩ (.int .i64 t728)).setCell ⟨gb736, 1, none⟩ (.int .i64 t729)).setCell ⟨gb736, 2, none⟩ (.int .i64 t730)).setCell ⟨gb736, 3, none⟩ (.int .i64 t731)).setCell ⟨gb736, 4, none⟩ (.int .i64 t732)).setCell ⟨gb736, 5, none⟩ (.int .i64 t733)).setCell ⟨gb736, 6, none⟩ (.int .i64 t734)).setCell ⟨gb736, 7, none⟩ (.int .i64 t735)) w.heap.size (fun k_ => some k_ ≠ (.slice Ao11 t669.length co11 : Value).ownBlock ∧ some k_ ≠ (.slice Ao12 t674.length co12 : Value).ownBlock ∧ some k_ ≠ (.slice Ao18 t683.length co18 : Value).ownBlock ∧ some k_ ≠ (.slice Ao19 t688.length co19 : Value).ownBlock ∧ some k_ ≠ (.slice Ao47 t705.length co47 : Value).ownBlock ∧ some k_ ≠ (v725 : Value).ownBlock) (.slice Ao46 t700.length co46) t700) := ⟨by (with_reducible repeat (first | apply Kd.R_alloc | apply Kd.R_drewN | apply Kd.R_drew)); exact Kd.R_mono (Kd.R_far (p := ⟨gb736, 7, none⟩) (Kd.R_far (p := ⟨gb736, 6, none⟩) (Kd.R_far (p := ⟨gb736, 5, none⟩) (Kd.R_far (p := ⟨gb736, 4, none⟩) (Kd.R_far (p := ⟨gb736, 3, none⟩) (Kd.R_far (p := ⟨gb736, 2, none⟩) (Kd.R_far (p := ⟨gb736, 1, none⟩) (Kd.R_far (p := ⟨gb736, 0, none⟩) (Kd.R_types HO_712002.1 BK736.1 (by decide)) (fun _ hk => hk.2) (.int .i64 t728)) (fun _ hk => hk.2) (.int .i64 t729)) (fun _ hk => hk.2) (.int .i64 t730)) (fun _ hk => hk.2) (.int .i64 t731)) (fun _ hk => hk.2) (.int .i64 t732)) (fun _ hk => hk.2) (.int .i64 t733)) (fun _ hk => hk.2) (.int .i64 t734)) (fun _ hk => hk.2) (.int .i64 t735)) (fun _ hk => ⟨hk.1.1.1, ⟨hk.1.1.2.1, ⟨hk.1.1.2.2.1, ⟨hk.1.1.2.2.2.1, ⟨hk.1.1.2.2.2.2, hk.1.2⟩⟩⟩⟩⟩)⟩
              have n5_ : Aside0 (Kd.R (Kd.int .i64) 3 ((((((((w144.setCell ⟨gb736, 0, none⟩ (.int .i64 t728)).setCell ⟨gb736, 1, none⟩ (.int .i64 t729)).setCell ⟨gb736, 2, none⟩ (.int .i64 t730)).setCell ⟨gb736, 3, none⟩ (.int .i64 t731)).setCell ⟨gb736, 4, none⟩ (.int .i64 t732)).setCell ⟨gb736, 5, none⟩ (.int .i64 t733)).setCell ⟨gb736, 6, none⟩ (.int .i64 t734)).setCell ⟨gb736, 7, none⟩ (.int .i64 t735)) w.heap.size (fun k_ => some k_ ≠ (.slice Ao11 t669.length co11 : Value).ownBlock ∧ some k_ ≠ (.slice Ao12 t674.length co12 : Value).ownBlock ∧ some k_ ≠ (.slice Ao18 t683.length co18 : Value).ownBlock ∧ some k_ ≠ (.slice Ao19 t688.length co19 : Value).ownBlock ∧ some k_ ≠ (.slice Ao46 t700.length co46 : Value).ownBlock ∧ some k_ ≠ (v725 : Value).ownBlock) (.slice Ao47 t705.length co47) t705) := ⟨by (with_reducible repeat (first | apply Kd.R_alloc | apply Kd.R_drewN | apply Kd.R_drew)); exact Kd.R_mono (Kd.R_far (p := ⟨gb736, 7, none⟩) (Kd.R_far (p := ⟨gb736, 6, none⟩) (Kd.R_far (p := ⟨gb736, 5, none⟩) (Kd.R_far (p := ⟨gb736, 4, none⟩) (Kd.R_far (p := ⟨gb736, 3, none⟩) (Kd.R_far (p := ⟨gb736, 2, none⟩) (Kd.R_far (p := ⟨gb736, 1, none⟩) (Kd.R_far (p := ⟨gb736, 0, none⟩) (Kd.R_types HO_712005.1 BK736.1 (by decide)) (fun _ hk => hk.2) (.int .i64 t728)) (fun _ hk => hk.2) (.int .i64 t729)) (fun _ hk => hk.2) (.int .i64 t730)) (fun _ hk => hk.2) (.int .i64 t731)) (fun _ hk => hk.2) (.int .i64 t732)) (fun _ hk => hk.2) (.int .i64 t733)) (fun _ hk => hk.2) (.int .i64 t734)) (fun _ hk => hk.2) (.int .i64 t735)) (fun _ hk => ⟨hk.1.1.1, ⟨hk.1.1.2.1, ⟨hk.1.1.2.2.1, ⟨hk.1.1.2.2.2.1, ⟨hk.1.1.2.2.2.2, hk.1.2⟩⟩⟩⟩⟩)⟩
              have n6_ : Aside0 (Kd.R (Kd.int .i64) 3 ((((((((w144.setCell ⟨gb736, 0, none⟩ (.int .i64 t728)).setCell ⟨gb736, 1, none⟩ (.int .i64 t729)).setCell ⟨gb736, 2, none⟩ (.int .i64 t730)).setCell ⟨gb736, 3, none⟩ (.int .i64 t731)).setCell ⟨gb736, 4, none⟩ (.int .i64 t732)).setCell ⟨gb736, 5, none⟩ (.int .i64 t733)).setCell ⟨gb736, 6, none⟩ (.int .i64 t734)).setCell ⟨gb736, 7, none⟩ (.int .i64 t735)) w.heap.size (fun k_ => some k_ ≠ (.slice Ao11 t669.length co11 : Value).ownBlock ∧ some k_ ≠ (.slice Ao12 t674.length co12 : Value).ownBlock ∧ some k_ ≠ (.slice Ao18 t683.length co18 : Value).ownBlock ∧ some k_ ≠ (.slice Ao19 t688.length co19 : Value).ownBlock ∧ some k_ ≠ (.slice Ao46 t700.length co46 : Value).ownBlock ∧ some k_ ≠ (.slice Ao47 t705.length co47 : Value).ownBlock) v725 t723) := ⟨by (with_reducible repeat (first | apply Kd.R_alloc | apply Kd.R_drewN | apply Kd.R_drew)); exact Kd.R_mono (Kd.R_far (p := ⟨gb736, 7, none⟩) (Kd.R_far (p := ⟨gb736, 6, none⟩) (Kd.R_far (p := ⟨gb736, 5, none⟩) (Kd.R_far (p := ⟨gb736, 4, none⟩) (Kd.R_far (p := ⟨gb736, 3, none⟩) (Kd.R_far (p := ⟨gb736, 2, none⟩) (Kd.R_far (p := ⟨gb736, 1, none⟩) (Kd.R_far (p := ⟨gb736, 0, none⟩) (Kd.R_types HO726.1 BK736.1 (by decide)) (fun _ hk => hk.2) (.int .i64 t728)) (fun _ hk => hk.2) (.int .i64 t729)) (fun _ hk => hk.2) (.int .i64 t730)) (fun _ hk => hk.2) (.int .i64 t731)) (fun _ hk => hk.2) (.int .i64 t732)) (fun _ hk => hk.2) (.int .i64 t733)) (fun _ hk => hk.2) (.int .i64 t734)) (fun _ hk => hk.2) (.int .i64 t735)) (fun _ hk => ⟨hk.1.1.1.1.1.1.2, ⟨hk.1.1.1.1.1.2, ⟨hk.1.1.1.1.2, ⟨hk.1.1.1.2, ⟨hk.1.1.2, hk.1.2⟩⟩⟩⟩⟩)⟩
              have n7_ : Aside0 (((((((((w144.setCell ⟨gb736, 0, none⟩ (.int .i64 t728)).setCell ⟨gb736, 1, none⟩ (.int .i64 t729)).setCell ⟨gb736, 2, none⟩ (.int .i64 t730)).setCell ⟨gb736, 3, none⟩ (.int .i64 t731)).setCell ⟨gb736, 4, none⟩ (.int .i64 t732)).setCell ⟨gb736, 5, none⟩ (.int .i64 t733)).setCell ⟨gb736, 6, none⟩ (.int .i64 t734)).setCell ⟨gb736, 7, none⟩ (.int .i64 t735)).heap[gb679]? = some (c284_ t667 t668 Ao11 t669.length co11 t672 t673 Ao12 t674.length co12 t677 t678)) := ⟨bk_ BK679.1⟩
              have n8_ : Aside0 (((((((((w144.setCell ⟨gb736, 0, none⟩ (.int .i64 t728)).setCell ⟨gb736, 1, none⟩ (.int .i64 t729)).setCell ⟨gb736, 2, none⟩ (.int .i64 t730)).setCell ⟨gb736, 3, none⟩ (.int .i64 t731)).setCell ⟨gb736, 4, none⟩ (.int .i64 t732)).setCell ⟨gb736, 5, none⟩ (.int .i64 t733)).setCell ⟨gb736, 6, none⟩ (.int .i64 t734)).setCell ⟨gb736, 7, none⟩ (.int .i64 t735)).heap[gb694]? = some (c284_ t681 t682 Ao18 t683.length co18 t686 t687 Ao19 t688.length co19 t691 t692)) := ⟨bk_ BK694.1⟩
              have n9_ : Aside0 (((((((((w144.setCell ⟨gb736, 0, none⟩ (.int .i64 t728)).setCell ⟨gb736, 1, none⟩ (.int .i64 t729)).setCell ⟨gb736, 2, none⟩ (.int .i64 t730)).setCell ⟨gb736, 3, none⟩ (.int .i64 t731)).setCell ⟨gb736, 4, none⟩ (.int .i64 t732)).setCell ⟨gb736, 5, none⟩ (.int .i64 t733)).setCell ⟨gb736, 6, none⟩ (.int .i64 t734)).setCell ⟨gb736, 7, none⟩ (.int .i64 t735)).heap[gb711]? = some (c284_ t698 t699 Ao46 t700.length co46 t703 t704 Ao47 t705.length co47 t708 t709)) := ⟨bk_ BK711.1⟩
              have n10_ : Aside0 (((((((((w144.setCell ⟨gb736, 0, none⟩ (.int .i64 t728)).setCell ⟨gb736, 1, none⟩ (.int .i64 t729)).setCell ⟨gb736, 2, none⟩ (.int .i64 t730)).setCell ⟨gb736, 3, none⟩ (.int .i64 t731)).setCell ⟨gb736, 4, none⟩ (.int .i64 t732)).setCell ⟨gb736, 5, none⟩ (.int .i64 t733)).setCell ⟨gb736, 6, none⟩ (.int .i64 t734)).setCell ⟨gb736, 7, none⟩ (.int .i64 t735)).heap[gb736]? = some (c285_ t728 t729 t730 t731 t732 t733 t734 t735)) := ⟨bk_ BK736.1⟩
              have n11_ : Aside0 (Below w.heap.size w ((((((((w144.setCell ⟨gb736, 0, none⟩ (.int .i64 t728)).setCell ⟨gb736, 1, none⟩ (.int .i64 t729)).setCell ⟨gb736, 2, none⟩ (.int .i64 t730)).setCell ⟨gb736, 3, none⟩ (.int .i64 t731)).setCell ⟨gb736, 4, none⟩ (.int .i64 t732)).setCell ⟨gb736, 5, none⟩ (.int .i64 t733)).setCell ⟨gb736, 6, none⟩ (.int .i64 t734)).setCell ⟨gb736, 7, none⟩ (.int .i64 t735))) := ⟨wB_⟩
              (try clear HO_680002)
              (try clear HO_680005)
              (try clear HO_695002)
              (try clear HO_695005)
              (try clear HO_712002)
              (try clear HO_712005)
              (try clear HO726)
              (try clear BK679)
              (try clear BK694)
              (try clear BK711)
              (try clear BK736)
              (try clear HB)
              generalize ((((((((w144.setCell ⟨gb736, 0, none⟩ (.int .i64 t728)).setCell ⟨gb736, 1, none⟩ (.int .i64 t729)).setCell ⟨gb736, 2, none⟩ (.int .i64 t730)).setCell ⟨gb736, 3, none⟩ (.int .i64 t731)).setCell ⟨gb736, 4, none⟩ (.int .i64 t732)).setCell ⟨gb736, 5, none⟩ (.int .i64 t733)).setCell ⟨gb736, 6, none⟩ (.int .i64 t734)).setCell ⟨gb736, 7, none⟩ (.int .i64 t735)) = w149 at n0_ n1_ n2_ n3_ n4_ n5_ n6_ n7_ n8_ n9_ n10_ n11_ ⊢
              have HO_680002 := n0_
              have HO_680005 := n1_
              have HO_695002 := n2_
              have HO_695005 := n3_
              have HO_712002 := n4_
              have HO_712005 := n5_
              have HO726 := n6_
              have BK679 := n7_
              have BK694 := n8_
              have BK711 := n9_
              have BK736 := n10_
              have HB := n11_
              clear n0_ n1_ n2_ n3_ n4_ n5_ n6_ n7_ n8_ n9_ n10_ n11_
              replace HO_680002 := o_ (Kd.R_drew HO_680002.1)
              replace HO_680005 := o_ (Kd.R_drew HO_680005.1)
              replace HO_695002 := o_ (Kd.R_drew HO_695002.1)
              replace HO_695005 := o_ (Kd.R_drew HO_695005.1)
              replace HO_712002 := o_ (Kd.R_drew HO_712002.1)
              replace HO_712005 := o_ (Kd.R_drew HO_712005.1)
              replace HO726 := o_ (Kd.R_drew HO726.1)
              replace BK679 := o_ (blk_drew BK679.1)
              replace BK694 := o_ (blk_drew BK694.1)
              replace BK711 := o_ (blk_drew BK711.1)
              replace BK736 := o_ (blk_drew BK736.1)
              replace HB := o_ (below_drew1 HB.1)
              refine start_ (n := 29) (S := fun w' => q3e_ w' gb736 t728 t729 t730 t731 t732 t733 t734 t735) (ds := []) M4_0 (by kernel_rfl) rfl rfl ⟨(blk_cell BK736.1 0).trans rfl, (blk_cell BK736.1 1).trans rfl, (blk_cell BK736.1 2).trans rfl, (blk_cell BK736.1 3).trans rfl, (blk_cell BK736.1 4).trans rfl, (blk_cell BK736.1 5).trans rfl, (blk_cell BK736.1 6).trans rfl, (blk_cell BK736.1 7).trans rfl⟩ (fun hHeld => ?_); refine with_tabW laws_FnForms.tab19 laws_FnForms.bits19 (fun HT_ HW_ => ?_)
              generalize w149.drew = w150 at HO_680002 HO_680005 HO_695002 HO_695005 HO_712002 HO_712005 HO726 BK679 BK694 BK711 BK736 HB hHeld ⊢
              refine pu_ 0 (some 81) M4_1 HT_ ?_
              refine pu_ 1 (some 82) M4_2 HT_ ?_
              refine pu_ 2 (some 83) M4_3 HT_ ?_
              refine pn_ 3 (some 84) M4_4 HT_ ?_
              refine pn_ 4 (some 85) M4_32 HT_ ?_
              refine pn_ 5 (some 86) M4_6 HT_ ?_
              refine pn_ 6 (some 87) M4_7 HT_ ?_
              refine pu_ 7 (some 88) M4_8 HT_ ?_
              refine pu_ 8 (some 89) M4_9 HT_ ?_
              refine pu_ 9 (some 90) M4_10 HT_ ?_
              refine one_ (i := 10) (N := some 91) M4_11 rfl rfl (one_of HT_.1 (by kernel_rfl)) (by decide) (fun K hK => ?_)
              refine goes_ Tryd.func23 (by kernel_rfl) rfl #[.string t727] (by rfl) rfl rfl ma_ ?_
              with_reducible refine (impl_KindOf.calls kj57 t727 t745 _ A117.1).mono ?_
              rintro e w151 ⟨rfl, hb⟩
              refine ⟨_, rfl, ?_⟩
              replace HO_680002 := o_ (Kd.R_below (rd_ HO_680002.1) hb)
              replace HO_680005 := o_ (Kd.R_below (rd_ HO_680005.1) hb)
              replace HO_695002 := o_ (Kd.R_below (rd_ HO_695002.1) hb)
              replace HO_695005 := o_ (Kd.R_below (rd_ HO_695005.1) hb)
              replace HO_712002 := o_ (Kd.R_below (rd_ HO_712002.1) hb)
              replace HO_712005 := o_ (Kd.R_below (rd_ HO_712005.1) hb)
              replace HO726 := o_ (Kd.R_below (rd_ HO726.1) hb)
              replace BK679 := o_ (blk_below (bd_ BK679.1) hb)
              replace BK694 := o_ (blk_below (bd_ BK694.1) hb)
              replace BK711 := o_ (blk_below (bd_ BK711.1) hb)
              replace BK736 := o_ (blk_below (bd_ BK736.1) hb)
              replace HB := o_ (below_step wB_ hb)
              (try clear hb)
              (try clear hb2)
              (try clear hk)
              (try clear hi)
              refine hK.out _ _ ⟨(blk_cell BK736.1 0).trans rfl, (blk_cell BK736.1 1).trans rfl, (blk_cell BK736.1 2).trans rfl, (blk_cell BK736.1 3).trans rfl, (blk_cell BK736.1 4).trans rfl, (blk_cell BK736.1 5).trans rfl, (blk_cell BK736.1 6).trans rfl, (blk_cell BK736.1 7).trans rfl⟩ (fun hHeld => ?_)
              clear hK K
              refine norm_ (a' := ?_) ?_ ?_
              rotate_left
              ·
               show Act.put _ (some 91) _ = _
               simp only [Act.put, P4_1, P4_2, P4_3, i64_w, i32_w]
               rfl
              refine pu_ 11 (some 92) M4_12 HT_ ?_
              refine pu_ 12 (some 93) M4_13 HT_ ?_
              refine pu_ 13 (some 94) M4_14 HT_ ?_
              refine pu_ 16 (some 97) M4_30 HT_ ?_
              refine one_ (i := 14) (N := some 95) M4_31 rfl rfl (one_of HT_.1 (by kernel_rfl)) (by decide) (fun K hK => ?_)
              refine goes_ Tryd.func23 (by kernel_rfl) rfl #[.string t727] (by rfl) rfl rfl ma_ ?_
              with_reducible refine (impl_KindOf.calls kj57 t727 t748 _ A135.1).mono ?_
              rintro e w152 ⟨rfl, hb⟩
              refine ⟨_, rfl, ?_⟩
              replace HO_680002 := o_ (Kd.R_below (rd_ HO_680002.1) hb)
              replace HO_680005 := o_ (Kd.R_below (rd_ HO_680005.1) hb)
              replace HO_695002 := o_ (Kd.R_below (rd_ HO_695002.1) hb)
              replace HO_695005 := o_ (Kd.R_below (rd_ HO_695005.1) hb)
              replace HO_712002 := o_ (Kd.R_below (rd_ HO_712002.1) hb)
              replace HO_712005 := o_ (Kd.R_below (rd_ HO_712005.1) hb)
              replace HO726 := o_ (Kd.R_below (rd_ HO726.1) hb)
              replace BK679 := o_ (blk_below (bd_ BK679.1) hb)
              replace BK694 := o_ (blk_below (bd_ BK694.1) hb)
              replace BK711 := o_ (blk_below (bd_ BK711.1) hb)
              replace BK736 := o_ (blk_below (bd_ BK736.1) hb)
              replace HB := o_ (below_step wB_ hb)
              (try clear hb)
              (try clear hb2)
              (try clear hk)
              (try clear hi)
              refine hK.out _ _ ⟨(blk_cell BK736.1 0).trans rfl, (blk_cell BK736.1 1).trans rfl, (blk_cell BK736.1 2).trans rfl, (blk_cell BK736.1 3).trans rfl, (blk_cell BK736.1 4).trans rfl, (blk_cell BK736.1 5).trans rfl, (blk_cell BK736.1 6).trans rfl, (blk_cell BK736.1 7).trans rfl⟩ (fun hHeld => ?_)
              clear hK K
              refine norm_ (a' := ?_) ?_ ?_
              rotate_left
              ·
               show Act.put _ (some 95) _ = _
               simp only [Act.put, P4_1, P4_2, P4_3, i64_w, i32_w]
               rfl
              refine one_ (i := 15) (N := some 96) M4_17 rfl rfl (one_of HT_.1 (by kernel_rfl)) (by decide) (fun K hK => ?_)
              refine goes_ Tryd.func24 (by kernel_rfl) rfl #[.int .i64 t748] (by rfl) rfl rfl ma_ ?_
              with_reducible refine (impl_KindText.calls t748 t749 _ A136.1).mono ?_
              rintro e w153 ⟨rfl, hb⟩
              refine ⟨_, rfl, ?_⟩
              replace HO_680002 := o_ (Kd.R_below (rd_ HO_680002.1) hb)
              replace HO_680005 := o_ (Kd.R_below (rd_ HO_680005.1) hb)
              replace HO_695002 := o_ (Kd.R_below (rd_ HO_695002.1) hb)
              replace HO_695005 := o_ (Kd.R_below (rd_ HO_695005.1) hb)
              replace HO_712002 := o_ (Kd.R_below (rd_ HO_712002.1) hb)
              replace HO_712005 := o_ (Kd.R_below (rd_ HO_712005.1) hb)
              replace HO726 := o_ (Kd.R_below (rd_ HO726.1) hb)
              replace BK679 := o_ (blk_below (bd_ BK679.1) hb)
              replace BK694 := o_ (blk_below (bd_ BK694.1) hb)
              replace BK711 := o_ (blk_below (bd_ BK711.1) hb)
              replace BK736 := o_ (blk_below (bd_ BK736.1) hb)
              replace HB := o_ (below_step wB_ hb)
              (try clear hb)
              (try clear hb2)
              (try clear hk)
              (try clear hi)
              refine hK.out _ _ ⟨(blk_cell BK736.1 0).trans rfl, (blk_cell BK736.1 1).trans rfl, (blk_cell BK736.1 2).trans rfl, (blk_cell BK736.1 3).trans rfl, (blk_cell BK736.1 4).trans rfl, (blk_cell BK736.1 5).trans rfl, (blk_cell BK736.1 6).trans rfl, (blk_cell BK736.1 7).trans rfl⟩ (fun hHeld => ?_)
              clear hK K
              refine norm_ (a' := ?_) ?_ ?_
              rotate_left
              ·
               show Act.put _ (some 96) _ = _
               simp only [Act.put, P4_1, P4_2, P4_3, i64_w, i32_w]
               rfl
              refine pu_ 17 (some 98) M4_18 HT_ ?_
              refine pu_ 18 (some 99) M4_19 HT_ ?_
              refine pu_ 19 (some 100) M4_20 HT_ ?_
              refine pu_ 20 (some 101) M4_21 HT_ ?_
              refine tk_ 21 (some 102) M4_22 HT_ HW_ hHeld ?_
              refine tk_ 23 (some 104) M4_23 HT_ HW_ hHeld ?_
              refine one_ (i := 22) (N := some 103) M4_24 rfl rfl (one_of HT_.1 (by kernel_rfl)) (by decide) (fun K hK => ?_)
              refine goes_ Tryd.func25 (by kernel_rfl) rfl #[.agg #[.int .i64 t728, .int .i64 t729, .int .i64 t730, .int .i64 t731, .int .i64 t732, .int .i64 t733, .int .i64 t734, .int .i64 t735]] (by rfl) rfl rfl ma_ ?_
              with_reducible refine (impl_IsFind.calls t728 t729 t730 t731 t732 t733 t734 t735 t750 _ A138.1).mono ?_
              rintro e w154 ⟨rfl, hb⟩
              refine ⟨_, rfl, ?_⟩
              replace HO_680002 := o_ (Kd.R_below (rd_ HO_680002.1) hb)
              replace HO_680005 := o_ (Kd.R_below (rd_ HO_680005.1) hb)
              replace HO_695002 := o_ (Kd.R_below (rd_ HO_695002.1) hb)
              replace HO_695005 := o_ (Kd.R_below (rd_ HO_695005.1) hb)
              replace HO_712002 := o_ (Kd.R_below (rd_ HO_712002.1) hb)
              replace HO_712005 := o_ (Kd.R_below (rd_ HO_712005.1) hb)
              replace HO726 := o_ (Kd.R_below (rd_ HO726.1) hb)
              replace BK679 := o_ (blk_below (bd_ BK679.1) hb)
              replace BK694 := o_ (blk_below (bd_ BK694.1) hb)
              replace BK711 := o_ (blk_below (bd_ BK711.1) hb)
              replace BK736 := o_ (blk_below (bd_ BK736.1) hb)
              replace HB := o_ (below_step wB_ hb)
              (try clear hb)
              (try clear hb2)
              (try clear hk)
              (try clear hi)
              refine hK.out _ _ ⟨(blk_cell BK736.1 0).trans rfl, (blk_cell BK736.1 1).trans rfl, (blk_cell BK736.1 2).trans rfl, (blk_cell BK736.1 3).trans rfl, (blk_cell BK736.1 4).trans rfl, (blk_cell BK736.1 5).trans rfl, (blk_cell BK736.1 6).trans rfl, (blk_cell BK736.1 7).trans rfl⟩ (fun hHeld => ?_)
              clear hK K
              refine norm_ (a' := ?_) ?_ ?_
              rotate_left
              ·
               show Act.put _ (some 103) _ = _
               simp only [Act.put, P4_1, P4_2, P4_3, i64_w, i32_w]
               rfl
              refine one_ (i := 24) (N := some 105) M4_25 rfl rfl (one_of HT_.1 (by kernel_rfl)) (by decide) (fun K hK => ?_)
              refine goes_ Tryd.func26 (by kernel_rfl) rfl #[.agg #[.int .i64 t728, .int .i64 t729, .int .i64 t730, .int .i64 t731, .int .i64 t732, .int .i64 t733, .int .i64 t734, .int .i64 t735]] (by rfl) rfl rfl ma_ ?_
              with_reducible refine (impl_FindText.calls t728 t729 t730 t731 t732 t733 t734 t735 t751 _ A139.1 (TB_.below wB_)).mono ?_
              rintro e w155 ⟨rfl, hb⟩
              refine ⟨_, rfl, ?_⟩
              replace HO_680002 := o_ (Kd.R_below (rd_ HO_680002.1) hb)
              replace HO_680005 := o_ (Kd.R_below (rd_ HO_680005.1) hb)
              replace HO_695002 := o_ (Kd.R_below (rd_ HO_695002.1) hb)
              replace HO_695005 := o_ (Kd.R_below (rd_ HO_695005.1) hb)
              replace HO_712002 := o_ (Kd.R_below (rd_ HO_712002.1) hb)
              replace HO_712005 := o_ (Kd.R_below (rd_ HO_712005.1) hb)
              replace HO726 := o_ (Kd.R_below (rd_ HO726.1) hb)
              replace BK679 := o_ (blk_below (bd_ BK679.1) hb)
              replace BK694 := o_ (blk_below (bd_ BK694.1) hb)
              replace BK711 := o_ (blk_below (bd_ BK711.1) hb)
              replace BK736 := o_ (blk_below (bd_ BK736.1) hb)
              replace HB := o_ (below_step wB_ hb)
              (try clear hb)
              (try clear hb2)
              (try clear hk)
              (try clear hi)
              refine hK.out _ _ ⟨(blk_cell BK736.1 0).trans rfl, (blk_cell BK736.1 1).trans rfl, (blk_cell BK736.1 2).trans rfl, (blk_cell BK736.1 3).trans rfl, (blk_cell BK736.1 4).trans rfl, (blk_cell BK736.1 5).trans rfl, (blk_cell BK736.1 6).trans rfl, (blk_cell BK736.1 7).trans rfl⟩ (fun hHeld => ?_)
              clear hK K
              refine norm_ (a' := ?_) ?_ ?_
              rotate_left
              ·
               show Act.put _ (some 105) _ = _
               simp only [Act.put, P4_1, P4_2, P4_3, i64_w, i32_w]
               rfl
              refine pu_ 25 (some 106) M4_26 HT_ ?_
              refine pu_ 26 (some 107) M4_27 HT_ ?_
              refine pu_ 27 (some 108) M4_28 HT_ ?_
              refine pu_ 28 (some 2) M4_29 HT_ ?_
              refine done_ (done_of HT_.1 (by kernel_rfl)) ?_
              try go_wp2
              go_ret
              exact ⟨(by first | (simp at Hr_ ⊢; exact Hr_.trans (ne_emp _)) | (simp_all; exact ne_emp _)), wB_⟩
             ·
              rw [if_neg c137] at H
              have c137b0 := beq_eq_false_iff_ne.mpr c137
              have c137b1 := bne_iff_ne.mpr c137
              exact absurd H (by simp)

end Go.Proofs.YtihnanfekchlhaaDoor.PFnForms
