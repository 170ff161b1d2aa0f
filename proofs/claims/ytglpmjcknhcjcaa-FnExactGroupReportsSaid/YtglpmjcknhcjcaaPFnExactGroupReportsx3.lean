-- Written for this claim by a program (a printer turned to this claim); Lean checks it.
import Derived.Test.YtglpmjcknhcjcaaPFnExactGroupReportsx0
import Derived.Test.YtglpmjcknhcjcaaPFnExactGroupReportsx2
namespace Go.Proofs.Ytglpmjcknhcjcaa.PFnExactGroupReports
open Go.RowKit Go.Proofs.YtglpmjcknhcjcaaW.PrintWords Go.Proofs.YtglpmjcknhcjcaaW.PrintLast Go.Proofs.YtglpmjcknhcjcaaW.PrintMore
attribute [local go_sem] max2_int min2_int max_two min_two max_three min_three max_four min_four   -- for this text's walks alone
set_option linter.unusedVariables false
set_option linter.unusedSimpArgs false

/-! ### spec_Sharpen: function 47 -/
def spec_Sharpen.j0 : Nat → List Int → List Int → Bool → Int → Int → List Int → Int → Int → List Int → Int → Int → Int → Int → List Int → Int → Int → List Int → Int → Int → Option (Int × Int × List Int × Int × Int × List Int × Int × Int × Bool)
 | 0, _, _, _, _, _, _, _, _, _, _, _, _, _, _, _, _, _, _, _ => none
 | k + 1, x6, x8, x50, x146000, x146001, x146002, x146003, x146004, x146005, x146006, x146007, x147000, x147001, x147002, x147003, x147004, x147005, x147006, x147007 => if x50 = true then (some (0, 0, ([] : List Int), 0, 0, ([] : List Int), 0, 0, false)) else ((spec_Max.f x146006 x147006).bind fun t158 => ((spec_Max.f x146003 x147003).bind fun t159 => ((spec_Min.f x146004 x147004).bind fun t160 => ((spec_Min.f x146007 x147007).bind fun t161 => ((spec_Max.f t158 t161).bind fun t162 => ((spec_IsReport.f k x146000 x146001 x6 t159 t160 x8 t158 t162).bind fun t164 => (if t164 = true then (some (x146000, x146001, x6, t159, t160, x8, t158, t162, true)) else (some (0, 0, ([] : List Int), 0, 0, ([] : List Int), 0, 0, false)))))))))
def spec_Sharpen.f (k : Nat) (a0_0 : Int) (a0_1 : Int) (l0_2 : List Int) (a0_3 : Int) (a0_4 : Int) (l0_5 : List Int) (a0_6 : Int) (a0_7 : Int) (a1_0 : Int) (a1_1 : Int) (l1_2 : List Int) (a1_3 : Int) (a1_4 : Int) (l1_5 : List Int) (a1_6 : Int) (a1_7 : Int) : Option (Int × Int × List Int × Int × Int × List Int × Int × Int × Bool) := (spec_l9Both.f k l0_2 l1_2).bind fun bt148 => ((spec_l9Both.f k l0_5 l1_5).bind fun bt152 => ((spec_IsReport.f k a0_0 a0_1 l0_2 a0_3 a0_4 l0_5 a0_6 a0_7).bind fun t156 => (if t156 = true then ((spec_IsReport.f k a1_0 a1_1 l1_2 a1_3 a1_4 l1_5 a1_6 a1_7).bind fun t157 => (if t157 = true then (if a0_1 = a1_1 then (if bt148.2 = true then (spec_Sharpen.j0 k bt148.1 bt152.1 (!bt152.2) a0_0 a0_1 l0_2 a0_3 a0_4 l0_5 a0_6 a0_7 a1_0 a1_1 l1_2 a1_3 a1_4 l1_5 a1_6 a1_7) else (spec_Sharpen.j0 k bt148.1 bt152.1 true a0_0 a0_1 l0_2 a0_3 a0_4 l0_5 a0_6 a0_7 a1_0 a1_1 l1_2 a1_3 a1_4 l1_5 a1_6 a1_7)) else (spec_Sharpen.j0 k bt148.1 bt152.1 true a0_0 a0_1 l0_2 a0_3 a0_4 l0_5 a0_6 a0_7 a1_0 a1_1 l1_2 a1_3 a1_4 l1_5 a1_6 a1_7)) else (spec_Sharpen.j0 k bt148.1 bt152.1 true a0_0 a0_1 l0_2 a0_3 a0_4 l0_5 a0_6 a0_7 a1_0 a1_1 l1_2 a1_3 a1_4 l1_5 a1_6 a1_7))) else (spec_Sharpen.j0 k bt148.1 bt152.1 true a0_0 a0_1 l0_2 a0_3 a0_4 l0_5 a0_6 a0_7 a1_0 a1_1 l1_2 a1_3 a1_4 l1_5 a1_6 a1_7))))
theorem spec_Sharpen.mono_l : ∀ k, (∀ y0 y1 y2 y3 y4 y5 y6 y7 y8 y9 y10 y11 y12 y13 y14 y15 y16 y17 y18, LeO (spec_Sharpen.j0 k y0 y1 y2 y3 y4 y5 y6 y7 y8 y9 y10 y11 y12 y13 y14 y15 y16 y17 y18) (spec_Sharpen.j0 (k + 1) y0 y1 y2 y3 y4 y5 y6 y7 y8 y9 y10 y11 y12 y13 y14 y15 y16 y17 y18))
 | 0 => fun _ _ _ _ _ _ _ _ _ _ _ _ _ _ _ _ _ _ _ r h => by simp [spec_Sharpen.j0] at h
 | k + 1 => by
  have ih0 := spec_Sharpen.mono_l k
  ·
   intro y0 y1 y2 y3 y4 y5 y6 y7 y8 y9 y10 y11 y12 y13 y14 y15 y16 y17 y18
   unfold spec_Sharpen.j0
   repeat' first
   | (with_reducible exact ih0 _ _ _ _ _ _ _ _ _ _ _ _ _ _ _ _ _ _ _)
   | (with_reducible exact spec_IsReport.mono _ _ _ _ _ _ _ _ _)
   | (with_reducible exact spec_l9Both.mono _ _ _)
   | (with_reducible exact LeO.refl _)
   | (with_reducible exact LeO.none _)
   | (with_reducible refine LeO.ite ?_ ?_)
   | (with_reducible refine LeO.bind ?_ (fun _ => ?_))
   | exact ih0 _ _ _ _ _ _ _ _ _ _ _ _ _ _ _ _ _ _ _
   | exact spec_IsReport.mono _ _ _ _ _ _ _ _ _
   | exact spec_l9Both.mono _ _ _
   | exact LeO.none _
   | refine LeO.ite ?_ ?_
   | refine LeO.bind ?_ (fun _ => ?_)
theorem spec_Sharpen.mono : ∀ a0 a1 a2 a3 a4 a5 a6 a7 a8 a9 a10 a11 a12 a13 a14 a15 k, LeO (spec_Sharpen.f k a0 a1 a2 a3 a4 a5 a6 a7 a8 a9 a10 a11 a12 a13 a14 a15) (spec_Sharpen.f (k + 1) a0 a1 a2 a3 a4 a5 a6 a7 a8 a9 a10 a11 a12 a13 a14 a15) := by
 intro a0 a1 a2 a3 a4 a5 a6 a7 a8 a9 a10 a11 a12 a13 a14 a15 k
 have ih0 := spec_Sharpen.mono_l k
 unfold spec_Sharpen.f
 repeat' first
   | (with_reducible exact ih0 _ _ _ _ _ _ _ _ _ _ _ _ _ _ _ _ _ _ _)
   | (with_reducible exact spec_IsReport.mono _ _ _ _ _ _ _ _ _)
   | (with_reducible exact spec_l9Both.mono _ _ _)
   | (with_reducible exact LeO.refl _)
   | (with_reducible exact LeO.none _)
   | (with_reducible refine LeO.ite ?_ ?_)
   | (with_reducible refine LeO.bind ?_ (fun _ => ?_))
   | exact ih0 _ _ _ _ _ _ _ _ _ _ _ _ _ _ _ _ _ _ _
   | exact spec_IsReport.mono _ _ _ _ _ _ _ _ _
   | exact spec_l9Both.mono _ _ _
   | exact LeO.none _
   | refine LeO.ite ?_ ?_
   | refine LeO.bind ?_ (fun _ => ?_)
def spec_Sharpen.T6 : Bool × List (List Nat × List Nat) := (true, [([], []), ([0], [0]), ([], []), ([2], [2]), ([], []), ([], []), ([5], [5]), ([], []), ([7], [7]), ([6, 8], [6, 8]), ([], []), ([10], [10]), ([], []), ([12], [12]), ([11, 13, 9], [11, 13]), ([], []), ([], []), ([], []), ([], []), ([18], [18]), ([19], [19]), ([], []), ([21], [21]), ([22], [22]), ([20, 23, 14], [20, 23]), ([17, 24, 24], [17, 24]), ([16, 25], [16, 25]), ([1, 3, 4, 9, 14, 15, 26], [1, 3, 4, 9, 14, 15, 26]), ([], []), ([28, 27, 25, 0, 1, 2, 3, 4, 5, 6, 7, 8, 9, 10, 11, 12, 13, 14, 15, 16, 17, 18, 19, 20, 21, 22, 23, 24, 25, 26, 27, 28], [27, 28])])
def spec_Sharpen.B6 : List Nat := [0, 1, 0, 4, 0, 0, 32, 0, 128, 480, 0, 1024, 0, 4096, 16352, 0, 0, 0, 0, 262144, 786432, 0, 2097152, 6291456, 16547808, 33456096, 67076064, 134217727, 0, 536870911]
theorem spec_Sharpen.tab6 : rtab .any (opsOf Try.f47 6) = spec_Sharpen.T6 := by kernel_rfl
theorem spec_Sharpen.bits6 : waitsOk spec_Sharpen.T6.2 spec_Sharpen.B6 = true := by kernel_rfl
abbrev M0_0 : Array Bool := #[false, false, false, false, false, false, false, false, false, false, false, false, false, false, false, false, false, false, false, false, false, false, false, false, false, false, false, false, false, false]
abbrev M0_1 : Array Bool := #[true, false, false, false, false, false, false, false, false, false, false, false, false, false, false, false, false, false, false, false, false, false, false, false, false, false, false, false, false, false]
abbrev M0_2 : Array Bool := #[true, false, true, false, false, false, false, false, false, false, false, false, false, false, false, false, false, false, false, false, false, false, false, false, false, false, false, false, false, false]
abbrev M0_3 : Array Bool := #[true, false, true, false, true, false, false, false, false, false, false, false, false, false, false, false, false, false, false, false, false, false, false, false, false, false, false, false, false, false]
abbrev M0_4 : Array Bool := #[true, false, true, false, true, true, false, false, false, false, false, false, false, false, false, false, false, false, false, false, false, false, false, false, false, false, false, false, false, false]
abbrev M0_5 : Array Bool := #[true, false, true, false, true, true, false, true, false, false, false, false, false, false, false, false, false, false, false, false, false, false, false, false, false, false, false, false, false, false]
abbrev M0_6 : Array Bool := #[true, false, true, false, true, true, false, true, false, false, true, false, false, false, false, false, false, false, false, false, false, false, false, false, false, false, false, false, false, false]
abbrev M0_7 : Array Bool := #[true, false, true, false, true, true, false, true, false, false, true, false, true, false, false, false, false, false, false, false, false, false, false, false, false, false, false, false, false, false]
abbrev M0_8 : Array Bool := #[true, false, true, false, true, true, false, true, false, false, true, false, true, false, false, true, false, false, false, false, false, false, false, false, false, false, false, false, false, false]
abbrev M0_9 : Array Bool := #[true, false, true, false, true, true, false, true, false, false, true, false, true, false, false, true, true, false, false, false, false, false, false, false, false, false, false, false, false, false]
abbrev M0_10 : Array Bool := #[true, false, true, false, true, true, false, true, false, false, true, false, true, false, false, true, true, true, false, false, false, false, false, false, false, false, false, false, false, false]
abbrev M0_11 : Array Bool := #[true, false, true, false, true, true, false, true, false, false, true, false, true, false, false, true, true, true, true, false, false, false, false, false, false, false, false, false, false, false]
abbrev M0_12 : Array Bool := #[true, false, true, false, true, true, false, true, false, false, true, false, true, false, false, true, true, true, true, true, false, false, false, false, false, false, false, false, false, false]
abbrev M0_13 : Array Bool := #[true, false, true, false, true, true, false, true, false, false, true, false, true, false, false, true, true, true, true, true, false, true, false, false, false, false, false, false, false, false]
abbrev M0_14 : Array Bool := #[true, false, true, false, true, true, false, true, false, false, true, false, true, false, false, true, true, true, true, true, false, true, true, false, false, false, false, false, false, false]
abbrev M0_15 : Array Bool := #[true, true, true, false, true, true, false, true, false, false, true, false, true, false, false, true, true, true, true, true, false, true, true, false, false, false, false, false, false, false]
abbrev M0_16 : Array Bool := #[true, true, true, true, true, true, false, true, false, false, true, false, true, false, false, true, true, true, true, true, false, true, true, false, false, false, false, false, false, false]
abbrev M0_17 : Array Bool := #[true, true, true, true, true, true, true, true, false, false, true, false, true, false, false, true, true, true, true, true, false, true, true, false, false, false, false, false, false, false]
abbrev M0_18 : Array Bool := #[true, true, true, true, true, true, true, true, true, false, true, false, true, false, false, true, true, true, true, true, false, true, true, false, false, false, false, false, false, false]
abbrev M0_19 : Array Bool := #[true, true, true, true, true, true, true, true, true, false, true, true, true, false, false, true, true, true, true, true, false, true, true, false, false, false, false, false, false, false]
abbrev M0_20 : Array Bool := #[true, true, true, true, true, true, true, true, true, false, true, true, true, true, false, true, true, true, true, true, false, true, true, false, false, false, false, false, false, false]
abbrev M0_21 : Array Bool := #[true, true, true, true, true, true, true, true, true, false, true, true, true, true, false, true, true, true, true, true, true, true, true, false, false, false, false, false, false, false]
abbrev M0_22 : Array Bool := #[true, true, true, true, true, true, true, true, true, false, true, true, true, true, false, true, true, true, true, true, true, true, true, true, false, false, false, false, false, false]
abbrev M0_23 : Array Bool := #[true, true, true, true, true, true, true, true, true, true, true, true, true, true, true, true, true, true, true, true, true, true, true, true, true, true, true, true, true, false]
abbrev M0_24 : Array Bool := #[true, true, true, true, true, true, true, true, true, true, true, true, true, true, true, true, true, true, true, true, true, true, true, true, true, true, true, true, false, false]
abbrev M0_25 : Array Bool := #[true, true, true, true, true, true, true, true, true, true, true, true, true, true, true, true, true, true, true, true, true, true, true, true, true, false, false, false, true, false]
abbrev M0_26 : Array Bool := #[true, true, true, true, true, true, true, true, true, true, true, true, true, true, true, true, true, true, true, true, true, true, true, true, true, false, false, false, false, false]
abbrev M0_27 : Array Bool := #[true, true, true, true, true, true, true, true, true, true, true, true, true, true, true, true, true, true, true, true, true, true, true, true, false, false, false, false, true, false]
abbrev M0_28 : Array Bool := #[true, true, true, true, true, true, true, true, true, true, true, true, true, true, true, true, true, true, true, true, true, true, true, true, false, false, false, false, false, false]
abbrev M0_29 : Array Bool := #[true, true, true, true, true, true, true, true, true, true, true, true, true, true, false, true, true, true, true, true, true, true, true, true, false, false, false, false, true, false]
abbrev M0_30 : Array Bool := #[true, true, true, true, true, true, true, true, true, true, true, true, true, true, false, true, true, true, true, true, true, true, true, true, false, false, false, false, false, false]
abbrev M0_31 : Array Bool := #[true, true, true, true, true, true, true, true, true, false, true, true, true, true, false, true, true, true, true, true, true, true, true, true, false, false, false, false, true, false]
abbrev M0_32 : Array Bool := #[true, true, true, true, true, true, true, true, true, true, true, true, true, true, true, true, true, true, true, true, true, true, true, true, true, true, false, false, false, false]
abbrev M0_33 : Array Bool := #[true, true, true, true, true, true, true, true, true, true, true, true, true, true, true, true, true, true, true, true, true, true, true, true, true, true, true, false, false, false]
abbrev M0_34 : Array Bool := #[true, true, true, true, true, true, true, true, true, true, true, true, true, true, true, true, true, true, true, true, true, true, true, true, true, true, false, false, true, false]
abbrev M0_35 : Array Bool := #[true, true, true, true, true, true, true, true, true, true, true, true, true, true, true, true, true, true, true, true, true, true, true, true, true, true, true, false, true, false]
abbrev M0_36 : Array Bool := #[true, true, true, true, true, true, true, true, true, true, true, true, true, true, true, true, true, true, true, true, true, true, true, true, true, true, true, true, true, true]
theorem P0_1 {α : Type} (l : List α) (i : Nat) (a : α) : l.toArray.setIfInBounds i a = (l.set i a).toArray := List.setIfInBounds_toArray l i a
theorem P0_2 {α : Type} (x : α) (l : List α) (a : α) : (x :: l).set 0 a = a :: l := List.set_cons_zero
theorem P0_3 {α : Type} (x : α) (l : List α) (n : Nat) (a : α) : (x :: l).set (n + 1) a = x :: l.set n a := List.set_cons_succ
abbrev c26_ (i0 : Int) (i1 : Int) (A2 : Option Addr) (n2 c2 : Nat) (i3 : Int) (i4 : Int) (A5 : Option Addr) (n5 c5 : Nat) (i6 : Int) (i7 : Int) : Obj := .cells #[.int .i64 i0, .int .i64 i1, .slice A2 n2 c2, .int .i64 i3, .int .i64 i4, .slice A5 n5 c5, .int .i64 i6, .int .i64 i7] 41 (0, 0)
theorem e27_ {w : World} {g : Nat} {t : TypeId} {i0 : Int} {i1 : Int} {A2 : Option Addr} {n2 c2 : Nat} {i3 : Int} {i4 : Int} {A5 : Option Addr} {n5 c5 : Nat} {i6 : Int} {i7 : Int} (h : w.heap[g]? = some (.cells #[.int .i64 i0, .int .i64 i1, .slice A2 n2 c2, .int .i64 i3, .int .i64 i4, .slice A5 n5 c5, .int .i64 i6, .int .i64 i7] t (0, 0))) : w.cell? ⟨g, 0, none⟩ = some (.int .i64 i0) ∧ w.cell? ⟨g, 1, none⟩ = some (.int .i64 i1) ∧ w.cell? ⟨g, 2, none⟩ = some (.slice A2 n2 c2) ∧ w.cell? ⟨g, 3, none⟩ = some (.int .i64 i3) ∧ w.cell? ⟨g, 4, none⟩ = some (.int .i64 i4) ∧ w.cell? ⟨g, 5, none⟩ = some (.slice A5 n5 c5) ∧ w.cell? ⟨g, 6, none⟩ = some (.int .i64 i6) ∧ w.cell? ⟨g, 7, none⟩ = some (.int .i64 i7) := ⟨(blk_cell h 0).trans rfl, (blk_cell h 1).trans rfl, (blk_cell h 2).trans rfl, (blk_cell h 3).trans rfl, (blk_cell h 4).trans rfl, (blk_cell h 5).trans rfl, (blk_cell h 6).trans rfl, (blk_cell h 7).trans rfl⟩
theorem z28_ {w : World} {g : Nat} {t : TypeId} {cs : Array Value} (h : w.heap[g]? = some (.cells cs t (0, 0))) : w.frozen? ⟨g, 0, none⟩ = false ∧ w.frozen? ⟨g, 1, none⟩ = false ∧ w.frozen? ⟨g, 2, none⟩ = false ∧ w.frozen? ⟨g, 3, none⟩ = false ∧ w.frozen? ⟨g, 4, none⟩ = false ∧ w.frozen? ⟨g, 5, none⟩ = false ∧ w.frozen? ⟨g, 6, none⟩ = false ∧ w.frozen? ⟨g, 7, none⟩ = false := ⟨blk_frozen h 0, blk_frozen h 1, blk_frozen h 2, blk_frozen h 3, blk_frozen h 4, blk_frozen h 5, blk_frozen h 6, blk_frozen h 7⟩
theorem f29_ {W : World} {g : Nat} {a : Addr} {o0 o1 o2 o3 o4 o5 o6 o7 : Nat} {u0 u1 u2 u3 u4 u5 u6 u7 : Value} {v : Option Value} (e : W.cell? a = v) (h : a.block ≠ g) : World.cell? (World.setCell (World.setCell (World.setCell (World.setCell (World.setCell (World.setCell (World.setCell (World.setCell W ⟨g, o0, none⟩ u0) ⟨g, o1, none⟩ u1) ⟨g, o2, none⟩ u2) ⟨g, o3, none⟩ u3) ⟨g, o4, none⟩ u4) ⟨g, o5, none⟩ u5) ⟨g, o6, none⟩ u6) ⟨g, o7, none⟩ u7) a = v := ((cell_far (p := ⟨g, o7, none⟩) h u7).trans ((cell_far (p := ⟨g, o6, none⟩) h u6).trans ((cell_far (p := ⟨g, o5, none⟩) h u5).trans ((cell_far (p := ⟨g, o4, none⟩) h u4).trans ((cell_far (p := ⟨g, o3, none⟩) h u3).trans ((cell_far (p := ⟨g, o2, none⟩) h u2).trans ((cell_far (p := ⟨g, o1, none⟩) h u1).trans ((cell_far (p := ⟨g, o0, none⟩) h u0).trans e))))))))
theorem y30_ {P : Prop} (h : P := by repeat (first | (with_reducible first | exact HB.out | apply below_alloc | apply pw_below_drewN | apply below_drew1 | refine below_set ?_ GE145.out | refine below_set ?_ GE146.out | refine below_set ?_ GE147.out) | exact HB.out)) : P := h
theorem y34_ {P : Prop} (h : P := by first | (simp only [putAll, Act.put, List.setIfInBounds_toArray, List.set_cons_zero, List.set_cons_succ]; done) | (simp only [putAll, Act.put, List.setIfInBounds_toArray, List.set_cons_zero, List.set_cons_succ]; rfl)) : P := h
theorem y35_ {P : Prop} (h : P := by repeat (first | (with_reducible first | exact HB.out | apply below_alloc | apply pw_below_drewN | apply below_drew1 | refine below_set ?_ GE145.out | refine below_set ?_ GE146.out | refine below_set ?_ GE147.out | refine below_set ?_ GE163.out) | exact HB.out)) : P := h
theorem y39_ {P : Prop} (h : P := by (with_reducible repeat (first | refine blk_drewN ?_ _ | refine blk_drew ?_ | refine blk_alloc ?_ _)); refine blk_put (cs := #[.int .i64 0, .int .i64 0, .slice none 0 0, .int .i64 0, .int .i64 0, .slice none 0 0, .int .i64 0, .int .i64 0]) ?_ 7 _ rfl; (with_reducible repeat (first | refine blk_drewN ?_ _ | refine blk_drew ?_ | refine blk_alloc ?_ _)); refine blk_put (cs := #[.int .i64 0, .int .i64 0, .slice none 0 0, .int .i64 0, .int .i64 0, .slice none 0 0, .int .i64 0, .int .i64 0]) ?_ 6 _ rfl; (with_reducible repeat (first | refine blk_drewN ?_ _ | refine blk_drew ?_ | refine blk_alloc ?_ _)); refine blk_put (cs := #[.int .i64 0, .int .i64 0, .slice none 0 0, .int .i64 0, .int .i64 0, .slice none 0 0, .int .i64 0, .int .i64 0]) ?_ 5 _ rfl; (with_reducible repeat (first | refine blk_drewN ?_ _ | refine blk_drew ?_ | refine blk_alloc ?_ _)); refine blk_put (cs := #[.int .i64 0, .int .i64 0, .slice none 0 0, .int .i64 0, .int .i64 0, .slice none 0 0, .int .i64 0, .int .i64 0]) ?_ 4 _ rfl; (with_reducible repeat (first | refine blk_drewN ?_ _ | refine blk_drew ?_ | refine blk_alloc ?_ _)); refine blk_put (cs := #[.int .i64 0, .int .i64 0, .slice none 0 0, .int .i64 0, .int .i64 0, .slice none 0 0, .int .i64 0, .int .i64 0]) ?_ 3 _ rfl; (with_reducible repeat (first | refine blk_drewN ?_ _ | refine blk_drew ?_ | refine blk_alloc ?_ _)); refine blk_put (cs := #[.int .i64 0, .int .i64 0, .slice none 0 0, .int .i64 0, .int .i64 0, .slice none 0 0, .int .i64 0, .int .i64 0]) ?_ 2 _ rfl; (with_reducible repeat (first | refine blk_drewN ?_ _ | refine blk_drew ?_ | refine blk_alloc ?_ _)); refine blk_put (cs := #[.int .i64 0, .int .i64 0, .slice none 0 0, .int .i64 0, .int .i64 0, .slice none 0 0, .int .i64 0, .int .i64 0]) ?_ 1 _ rfl; (with_reducible repeat (first | refine blk_drewN ?_ _ | refine blk_drew ?_ | refine blk_alloc ?_ _)); refine blk_put (cs := #[.int .i64 0, .int .i64 0, .slice none 0 0, .int .i64 0, .int .i64 0, .slice none 0 0, .int .i64 0, .int .i64 0]) ?_ 0 _ rfl; (with_reducible repeat (first | refine blk_drewN ?_ _ | refine blk_drew ?_ | refine blk_alloc ?_ _)); exact BK147.out) : P := h
theorem y41_ {P : Prop} (h : P := by rw [hg]; exact Nat.ne_of_lt (blk_lt (bd_ BK145.out))) : P := h
theorem y42_ {P : Prop} (h : P := by rw [hg]; exact Nat.ne_of_gt (blk_lt (bd_ BK145.out))) : P := h
theorem y43_ {P : Prop} (h : P := by rw [hg]; exact Nat.ne_of_lt (blk_lt (bd_ BK146.out))) : P := h
theorem y44_ {P : Prop} (h : P := by rw [hg]; exact Nat.ne_of_gt (blk_lt (bd_ BK146.out))) : P := h
theorem y45_ {P : Prop} (h : P := by (with_reducible repeat (first | refine blk_drewN ?_ _ | refine blk_drew ?_ | refine blk_alloc ?_ _)); refine blk_far ?_ NB145_163.out _; (with_reducible repeat (first | refine blk_drewN ?_ _ | refine blk_drew ?_ | refine blk_alloc ?_ _)); refine blk_far ?_ NB145_163.out _; (with_reducible repeat (first | refine blk_drewN ?_ _ | refine blk_drew ?_ | refine blk_alloc ?_ _)); refine blk_far ?_ NB145_163.out _; (with_reducible repeat (first | refine blk_drewN ?_ _ | refine blk_drew ?_ | refine blk_alloc ?_ _)); refine blk_far ?_ NB145_163.out _; (with_reducible repeat (first | refine blk_drewN ?_ _ | refine blk_drew ?_ | refine blk_alloc ?_ _)); refine blk_far ?_ NB145_163.out _; (with_reducible repeat (first | refine blk_drewN ?_ _ | refine blk_drew ?_ | refine blk_alloc ?_ _)); refine blk_far ?_ NB145_163.out _; (with_reducible repeat (first | refine blk_drewN ?_ _ | refine blk_drew ?_ | refine blk_alloc ?_ _)); refine blk_far ?_ NB145_163.out _; (with_reducible repeat (first | refine blk_drewN ?_ _ | refine blk_drew ?_ | refine blk_alloc ?_ _)); refine blk_far ?_ NB145_163.out _; (with_reducible repeat (first | refine blk_drewN ?_ _ | refine blk_drew ?_ | refine blk_alloc ?_ _)); exact BK145.out) : P := h
theorem y46_ {P : Prop} (h : P := by (with_reducible repeat (first | refine blk_drewN ?_ _ | refine blk_drew ?_ | refine blk_alloc ?_ _)); refine blk_far ?_ NB146_163.out _; (with_reducible repeat (first | refine blk_drewN ?_ _ | refine blk_drew ?_ | refine blk_alloc ?_ _)); refine blk_far ?_ NB146_163.out _; (with_reducible repeat (first | refine blk_drewN ?_ _ | refine blk_drew ?_ | refine blk_alloc ?_ _)); refine blk_far ?_ NB146_163.out _; (with_reducible repeat (first | refine blk_drewN ?_ _ | refine blk_drew ?_ | refine blk_alloc ?_ _)); refine blk_far ?_ NB146_163.out _; (with_reducible repeat (first | refine blk_drewN ?_ _ | refine blk_drew ?_ | refine blk_alloc ?_ _)); refine blk_far ?_ NB146_163.out _; (with_reducible repeat (first | refine blk_drewN ?_ _ | refine blk_drew ?_ | refine blk_alloc ?_ _)); refine blk_far ?_ NB146_163.out _; (with_reducible repeat (first | refine blk_drewN ?_ _ | refine blk_drew ?_ | refine blk_alloc ?_ _)); refine blk_far ?_ NB146_163.out _; (with_reducible repeat (first | refine blk_drewN ?_ _ | refine blk_drew ?_ | refine blk_alloc ?_ _)); refine blk_far ?_ NB146_163.out _; (with_reducible repeat (first | refine blk_drewN ?_ _ | refine blk_drew ?_ | refine blk_alloc ?_ _)); exact BK146.out) : P := h
theorem y47_ {P : Prop} (h : P := by (with_reducible repeat (first | refine blk_drewN ?_ _ | refine blk_drew ?_ | refine blk_alloc ?_ _)); refine blk_far ?_ NB147_163.out _; (with_reducible repeat (first | refine blk_drewN ?_ _ | refine blk_drew ?_ | refine blk_alloc ?_ _)); refine blk_far ?_ NB147_163.out _; (with_reducible repeat (first | refine blk_drewN ?_ _ | refine blk_drew ?_ | refine blk_alloc ?_ _)); refine blk_far ?_ NB147_163.out _; (with_reducible repeat (first | refine blk_drewN ?_ _ | refine blk_drew ?_ | refine blk_alloc ?_ _)); refine blk_far ?_ NB147_163.out _; (with_reducible repeat (first | refine blk_drewN ?_ _ | refine blk_drew ?_ | refine blk_alloc ?_ _)); refine blk_far ?_ NB147_163.out _; (with_reducible repeat (first | refine blk_drewN ?_ _ | refine blk_drew ?_ | refine blk_alloc ?_ _)); refine blk_far ?_ NB147_163.out _; (with_reducible repeat (first | refine blk_drewN ?_ _ | refine blk_drew ?_ | refine blk_alloc ?_ _)); refine blk_far ?_ NB147_163.out _; (with_reducible repeat (first | refine blk_drewN ?_ _ | refine blk_drew ?_ | refine blk_alloc ?_ _)); refine blk_far ?_ NB147_163.out _; (with_reducible repeat (first | refine blk_drewN ?_ _ | refine blk_drew ?_ | refine blk_alloc ?_ _)); exact BK147.out) : P := h
theorem y48_ {P : Prop} (h : P := by repeat (first | (with_reducible first | exact HB.out | apply below_alloc | apply pw_below_drewN | apply below_drew1 | refine below_set ?_ GE145.out | refine below_set ?_ GE146.out | refine below_set ?_ GE147.out) | exact HB.out)) : P := h
theorem y50_ {P : Prop} (h : P := by rw [hg]; exact Nat.ne_of_lt (blk_lt (bd_ BK147.out))) : P := h
theorem y51_ {P : Prop} (h : P := by rw [hg]; exact Nat.ne_of_gt (blk_lt (bd_ BK147.out))) : P := h
theorem y53_ {P : Prop} (h : P := by (with_reducible repeat (first | apply Kd.R_alloc | apply Kd.R_drewN | apply Kd.R_drew)); exact (Kd.R_mono (Kd.R_far (p := ⟨gb163, 7, none⟩) (Kd.R_far (p := ⟨gb163, 6, none⟩) (Kd.R_far (p := ⟨gb163, 5, none⟩) (Kd.R_far (p := ⟨gb163, 4, none⟩) (Kd.R_far (p := ⟨gb163, 3, none⟩) (Kd.R_far (p := ⟨gb163, 2, none⟩) (Kd.R_far (p := ⟨gb163, 1, none⟩) (Kd.R_far (p := ⟨gb163, 0, none⟩) (Kd.R_types HO_6.out BK163.out (by decide)) (fun _ hk => hk.2) (.int .i64 a0_0)) (fun _ hk => hk.2) (.int .i64 a0_1)) (fun _ hk => hk.2) (.slice Ao105 t148.length co105)) (fun _ hk => hk.2) (.int .i64 t159)) (fun _ hk => hk.2) (.int .i64 t160)) (fun _ hk => hk.2) (.slice Ao104 t152.length co104)) (fun _ hk => hk.2) (.int .i64 t158)) (fun _ hk => hk.2) (.int .i64 t162)) (fun _ h_ => h_.1))) : P := h
theorem y54_ {P : Prop} (h : P := by (with_reducible repeat (first | apply Kd.R_alloc | apply Kd.R_drewN | apply Kd.R_drew)); exact (Kd.R_mono (Kd.R_far (p := ⟨gb163, 7, none⟩) (Kd.R_far (p := ⟨gb163, 6, none⟩) (Kd.R_far (p := ⟨gb163, 5, none⟩) (Kd.R_far (p := ⟨gb163, 4, none⟩) (Kd.R_far (p := ⟨gb163, 3, none⟩) (Kd.R_far (p := ⟨gb163, 2, none⟩) (Kd.R_far (p := ⟨gb163, 1, none⟩) (Kd.R_far (p := ⟨gb163, 0, none⟩) (Kd.R_types HO_8.out BK163.out (by decide)) (fun _ hk => hk.2) (.int .i64 a0_0)) (fun _ hk => hk.2) (.int .i64 a0_1)) (fun _ hk => hk.2) (.slice Ao105 t148.length co105)) (fun _ hk => hk.2) (.int .i64 t159)) (fun _ hk => hk.2) (.int .i64 t160)) (fun _ hk => hk.2) (.slice Ao104 t152.length co104)) (fun _ hk => hk.2) (.int .i64 t158)) (fun _ hk => hk.2) (.int .i64 t162)) (fun _ h_ => h_.1))) : P := h
theorem y55_ {P : Prop} (h : P := by (with_reducible repeat (first | apply Kd.R_alloc | apply Kd.R_drewN | apply Kd.R_drew)); exact (Kd.R_mono (Kd.R_far (p := ⟨gb163, 7, none⟩) (Kd.R_far (p := ⟨gb163, 6, none⟩) (Kd.R_far (p := ⟨gb163, 5, none⟩) (Kd.R_far (p := ⟨gb163, 4, none⟩) (Kd.R_far (p := ⟨gb163, 3, none⟩) (Kd.R_far (p := ⟨gb163, 2, none⟩) (Kd.R_far (p := ⟨gb163, 1, none⟩) (Kd.R_far (p := ⟨gb163, 0, none⟩) (Kd.R_types HO_6.out BK163.out (by decide)) (fun _ hk => hk.2) (.int .i64 a0_0)) (fun _ hk => hk.2) (.int .i64 a0_1)) (fun _ hk => hk.2) (.slice Ao80 t148.length co80)) (fun _ hk => hk.2) (.int .i64 t159)) (fun _ hk => hk.2) (.int .i64 t160)) (fun _ hk => hk.2) (.slice Ao79 t152.length co79)) (fun _ hk => hk.2) (.int .i64 t158)) (fun _ hk => hk.2) (.int .i64 t162)) (fun _ h_ => h_.1))) : P := h
theorem y56_ {P : Prop} (h : P := by (with_reducible repeat (first | apply Kd.R_alloc | apply Kd.R_drewN | apply Kd.R_drew)); exact (Kd.R_mono (Kd.R_far (p := ⟨gb163, 7, none⟩) (Kd.R_far (p := ⟨gb163, 6, none⟩) (Kd.R_far (p := ⟨gb163, 5, none⟩) (Kd.R_far (p := ⟨gb163, 4, none⟩) (Kd.R_far (p := ⟨gb163, 3, none⟩) (Kd.R_far (p := ⟨gb163, 2, none⟩) (Kd.R_far (p := ⟨gb163, 1, none⟩) (Kd.R_far (p := ⟨gb163, 0, none⟩) (Kd.R_types HO_8.out BK163.out (by decide)) (fun _ hk => hk.2) (.int .i64 a0_0)) (fun _ hk => hk.2) (.int .i64 a0_1)) (fun _ hk => hk.2) (.slice Ao80 t148.length co80)) (fun _ hk => hk.2) (.int .i64 t159)) (fun _ hk => hk.2) (.int .i64 t160)) (fun _ hk => hk.2) (.slice Ao79 t152.length co79)) (fun _ hk => hk.2) (.int .i64 t158)) (fun _ hk => hk.2) (.int .i64 t162)) (fun _ h_ => h_.1))) : P := h
theorem y57_ {P : Prop} (h : P := by rw [hg]; exact (below_size y30_)) : P := h
theorem y58_ {P : Prop} (h : P := by repeat (first | (with_reducible first | exact HB.out | apply below_alloc | apply pw_below_drewN | apply below_drew1 | refine below_set ?_ GE145.out | refine below_set ?_ GE146.out) | exact HB.out)) : P := h
theorem y59_ {P : Prop} (h : P := by repeat (first | (with_reducible first | exact HB.out | apply below_alloc | apply pw_below_drewN | apply below_drew1 | refine below_set ?_ GE145.out) | exact HB.out)) : P := h
theorem y61_ {P : Prop} (h : P := by repeat (first | (with_reducible first | exact HB.out | apply below_alloc | apply pw_below_drewN | apply below_drew1 | refine below_set ?_ GE145.out | refine below_set ?_ GE146.out | refine below_set ?_ GE147.out | refine below_set ?_ GE163.out) | exact HB.out)) : P := h
set_option maxHeartbeats 8000000 in
set_option maxRecDepth 100000 in
theorem spec_Sharpen.calls (k : Nat) (a0_0 : Int) (a0_1 : Int) (A0_2 : Option Addr) (c0_2 : Nat) (l0_2 : List Int) (a0_3 : Int) (a0_4 : Int) (A0_5 : Option Addr) (c0_5 : Nat) (l0_5 : List Int) (a0_6 : Int) (a0_7 : Int) (a1_0 : Int) (a1_1 : Int) (A1_2 : Option Addr) (c1_2 : Nat) (l1_2 : List Int) (a1_3 : Int) (a1_4 : Int) (A1_5 : Option Addr) (c1_5 : Nat) (l1_5 : List Int) (a1_6 : Int) (a1_7 : Int) (r1 : Int) (r2 : Int) (r3 : List Int) (r4 : Int) (r5 : Int) (r6 : List Int) (r7 : Int) (r8 : Int) (r9 : Bool) (w : World) (hr0_2 : Kd.C (Kd.int .i64) w A0_2 l0_2.length l0_2) (hc0_2 : l0_2.length ≤ c0_2) (hr0_5 : Kd.C (Kd.int .i64) w A0_5 l0_5.length l0_5) (hc0_5 : l0_5.length ≤ c0_5) (hr1_2 : Kd.C (Kd.int .i64) w A1_2 l1_2.length l1_2) (hc1_2 : l1_2.length ≤ c1_2) (hr1_5 : Kd.C (Kd.int .i64) w A1_5 l1_5.length l1_5) (hc1_5 : l1_5.length ≤ c1_5) (h : spec_Sharpen.f k a0_0 a0_1 l0_2 a0_3 a0_4 l0_5 a0_6 a0_7 a1_0 a1_1 l1_2 a1_3 a1_4 l1_5 a1_6 a1_7 = some (r1, r2, r3, r4, r5, r6, r7, r8, r9)) :
  Calls Try.prog 47 #[.agg #[.int .i64 a0_0, .int .i64 a0_1, .slice A0_2 l0_2.length c0_2, .int .i64 a0_3, .int .i64 a0_4, .slice A0_5 l0_5.length c0_5, .int .i64 a0_6, .int .i64 a0_7], .agg #[.int .i64 a1_0, .int .i64 a1_1, .slice A1_2 l1_2.length c1_2, .int .i64 a1_3, .int .i64 a1_4, .slice A1_5 l1_5.length c1_5, .int .i64 a1_6, .int .i64 a1_7]] w fun e w' => ∃ v2_ v5_ : Value, e = .returned (.tuple #[.agg #[.int .i64 r1, .int .i64 r2, v2_, .int .i64 r4, .int .i64 r5, v5_, .int .i64 r7, .int .i64 r8], .bool r9]) ∧ Kd.R (Kd.int .i64) 3 w' w.heap.size (fun k_ => some k_ ≠ (v5_ : Value).ownBlock) v2_ r3 ∧ Kd.R (Kd.int .i64) 3 w' w.heap.size (fun k_ => some k_ ≠ (v2_ : Value).ownBlock) v5_ r6 ∧ Below w.heap.size w w' := by
 have hu41 := Try.underlying41
 have hu39 := Try.underlying39
 have HR0_2 := Aside0.mk hr0_2
 have HC0_2 := Aside0.mk hc0_2
 clear hr0_2 hc0_2
 have HR0_5 := Aside0.mk hr0_5
 have HC0_5 := Aside0.mk hc0_5
 clear hr0_5 hc0_5
 have HR1_2 := Aside0.mk hr1_2
 have HC1_2 := Aside0.mk hc1_2
 clear hr1_2 hc1_2
 have HR1_5 := Aside0.mk hr1_5
 have HC1_5 := Aside0.mk hc1_5
 clear hr1_5 hc1_5
 have HB := Aside0.mk (Below.refl w.heap.size w)
 have H : ((spec_l9Both.f k l0_2 l1_2).bind fun bt148 => ((spec_l9Both.f k l0_5 l1_5).bind fun bt152 => ((spec_IsReport.f k a0_0 a0_1 l0_2 a0_3 a0_4 l0_5 a0_6 a0_7).bind fun t156 => (if t156 = true then ((spec_IsReport.f k a1_0 a1_1 l1_2 a1_3 a1_4 l1_5 a1_6 a1_7).bind fun t157 => (if t157 = true then (if a0_1 = a1_1 then (if bt148.2 = true then (spec_Sharpen.j0 k bt148.1 bt152.1 (!bt152.2) a0_0 a0_1 l0_2 a0_3 a0_4 l0_5 a0_6 a0_7 a1_0 a1_1 l1_2 a1_3 a1_4 l1_5 a1_6 a1_7) else (spec_Sharpen.j0 k bt148.1 bt152.1 true a0_0 a0_1 l0_2 a0_3 a0_4 l0_5 a0_6 a0_7 a1_0 a1_1 l1_2 a1_3 a1_4 l1_5 a1_6 a1_7)) else (spec_Sharpen.j0 k bt148.1 bt152.1 true a0_0 a0_1 l0_2 a0_3 a0_4 l0_5 a0_6 a0_7 a1_0 a1_1 l1_2 a1_3 a1_4 l1_5 a1_6 a1_7)) else (spec_Sharpen.j0 k bt148.1 bt152.1 true a0_0 a0_1 l0_2 a0_3 a0_4 l0_5 a0_6 a0_7 a1_0 a1_1 l1_2 a1_3 a1_4 l1_5 a1_6 a1_7))) else (spec_Sharpen.j0 k bt148.1 bt152.1 true a0_0 a0_1 l0_2 a0_3 a0_4 l0_5 a0_6 a0_7 a1_0 a1_1 l1_2 a1_3 a1_4 l1_5 a1_6 a1_7))))) = some (r1, r2, r3, r4, r5, r6, r7, r8, r9) := h
 clear h
 replace H := Option.bind_eq_some_iff.mp H
 obtain ⟨⟨t148, t149⟩, A30, H⟩ := H
 replace H : ((spec_l9Both.f k l0_5 l1_5).bind fun bt152 => ((spec_IsReport.f k a0_0 a0_1 l0_2 a0_3 a0_4 l0_5 a0_6 a0_7).bind fun t156 => (if t156 = true then ((spec_IsReport.f k a1_0 a1_1 l1_2 a1_3 a1_4 l1_5 a1_6 a1_7).bind fun t157 => (if t157 = true then (if a0_1 = a1_1 then (if t149 = true then (spec_Sharpen.j0 k t148 bt152.1 (!bt152.2) a0_0 a0_1 l0_2 a0_3 a0_4 l0_5 a0_6 a0_7 a1_0 a1_1 l1_2 a1_3 a1_4 l1_5 a1_6 a1_7) else (spec_Sharpen.j0 k t148 bt152.1 true a0_0 a0_1 l0_2 a0_3 a0_4 l0_5 a0_6 a0_7 a1_0 a1_1 l1_2 a1_3 a1_4 l1_5 a1_6 a1_7)) else (spec_Sharpen.j0 k t148 bt152.1 true a0_0 a0_1 l0_2 a0_3 a0_4 l0_5 a0_6 a0_7 a1_0 a1_1 l1_2 a1_3 a1_4 l1_5 a1_6 a1_7)) else (spec_Sharpen.j0 k t148 bt152.1 true a0_0 a0_1 l0_2 a0_3 a0_4 l0_5 a0_6 a0_7 a1_0 a1_1 l1_2 a1_3 a1_4 l1_5 a1_6 a1_7))) else (spec_Sharpen.j0 k t148 bt152.1 true a0_0 a0_1 l0_2 a0_3 a0_4 l0_5 a0_6 a0_7 a1_0 a1_1 l1_2 a1_3 a1_4 l1_5 a1_6 a1_7)))) = some (r1, r2, r3, r4, r5, r6, r7, r8, r9) := H
 have A3 := Aside0.mk A30
 clear A30
 replace H := Option.bind_eq_some_iff.mp H
 obtain ⟨⟨t152, t153⟩, A40, H⟩ := H
 replace H : ((spec_IsReport.f k a0_0 a0_1 l0_2 a0_3 a0_4 l0_5 a0_6 a0_7).bind fun t156 => (if t156 = true then ((spec_IsReport.f k a1_0 a1_1 l1_2 a1_3 a1_4 l1_5 a1_6 a1_7).bind fun t157 => (if t157 = true then (if a0_1 = a1_1 then (if t149 = true then (spec_Sharpen.j0 k t148 t152 (!t153) a0_0 a0_1 l0_2 a0_3 a0_4 l0_5 a0_6 a0_7 a1_0 a1_1 l1_2 a1_3 a1_4 l1_5 a1_6 a1_7) else (spec_Sharpen.j0 k t148 t152 true a0_0 a0_1 l0_2 a0_3 a0_4 l0_5 a0_6 a0_7 a1_0 a1_1 l1_2 a1_3 a1_4 l1_5 a1_6 a1_7)) else (spec_Sharpen.j0 k t148 t152 true a0_0 a0_1 l0_2 a0_3 a0_4 l0_5 a0_6 a0_7 a1_0 a1_1 l1_2 a1_3 a1_4 l1_5 a1_6 a1_7)) else (spec_Sharpen.j0 k t148 t152 true a0_0 a0_1 l0_2 a0_3 a0_4 l0_5 a0_6 a0_7 a1_0 a1_1 l1_2 a1_3 a1_4 l1_5 a1_6 a1_7))) else (spec_Sharpen.j0 k t148 t152 true a0_0 a0_1 l0_2 a0_3 a0_4 l0_5 a0_6 a0_7 a1_0 a1_1 l1_2 a1_3 a1_4 l1_5 a1_6 a1_7))) = some (r1, r2, r3, r4, r5, r6, r7, r8, r9) := H
 have A4 := Aside0.mk A40
 clear A40
 have HC5 := Aside0.mk H
 clear H
 go_enter Try.func47, Try.ntmps47
 go_upto_region 3 with (first | ((with_reducible refine gate_dst (N := 2) rfl ?_); refine box_event ?hg (N := 2) ?hd (cs := #[.int .i64 a0_0, .int .i64 a0_1, .slice A0_2 l0_2.length c0_2, .int .i64 a0_3, .int .i64 a0_4, .slice A0_5 l0_5.length c0_5, .int .i64 a0_6, .int .i64 a0_7]) (t := 41) ?hr ?_; (case hd => rfl); (case hg => rfl); (case hr => first | (go_simp; done) | (go_simp; rfl)); intro gb145 hg w6 hbox hb; have n0_ := Aside0.mk (below_step (hd_ HB.out) hb); have BK145 := Aside0.mk (hbox); have GW145 := Aside0.mk ((by rw [hg]; exact (below_size (hd_ HB.out)) : w.heap.size ≤ gb145)); have GE145 := Aside0.mk ((by rw [hg]; exact (below_size (hd_ HB.out)) : w.heap.size ≤ gb145)); clear HB; have HB := n0_; clear n0_; clear hb hbox hg) | ((with_reducible refine gate_dst (N := 3) rfl ?_); refine box_event ?hg (N := 3) ?hd (cs := #[.int .i64 a1_0, .int .i64 a1_1, .slice A1_2 l1_2.length c1_2, .int .i64 a1_3, .int .i64 a1_4, .slice A1_5 l1_5.length c1_5, .int .i64 a1_6, .int .i64 a1_7]) (t := 41) ?hr ?_; (case hd => rfl); (case hg => rfl); (case hr => first | (go_simp; done) | (go_simp; rfl)); intro gb146 hg w7 hbox hb; have n0_ := Aside0.mk (blk_below (bd_ BK145.out) hb); have n1_ := Aside0.mk (below_step y59_ hb); have BK146 := Aside0.mk (hbox); have GW146 := Aside0.mk ((by rw [hg]; exact (below_size y59_) : w.heap.size ≤ gb146)); have GE146 := Aside0.mk ((by rw [hg]; exact (below_size y59_) : w.heap.size ≤ gb146)); have NB145_146 := Aside0.mk ((y41_ : gb145 ≠ gb146)); have NB146_145 := Aside0.mk ((y42_ : gb146 ≠ gb145)); clear BK145; clear HB; have BK145 := n0_; have HB := n1_; clear n0_ n1_; clear hb hbox hg) | ((with_reducible refine gate_dst (N := 4) rfl ?_); refine box_event ?hg (N := 4) ?hd (cs := #[.int .i64 0, .int .i64 0, .slice none 0 0, .int .i64 0, .int .i64 0, .slice none 0 0, .int .i64 0, .int .i64 0]) (t := 41) ?hr ?_; (case hd => rfl); (case hg => rfl); (case hr => first | (go_simp; done) | (go_simp; rfl)); intro gb147 hg w8 hbox hb; have n0_ := Aside0.mk (blk_below (bd_ BK145.out) hb); have n1_ := Aside0.mk (blk_below (bd_ BK146.out) hb); have n2_ := Aside0.mk (below_step y58_ hb); have BK147 := Aside0.mk (hbox); have GW147 := Aside0.mk ((by rw [hg]; exact (below_size y58_) : w.heap.size ≤ gb147)); have GE147 := Aside0.mk ((by rw [hg]; exact (below_size y58_) : w.heap.size ≤ gb147)); have NB145_147 := Aside0.mk ((y41_ : gb145 ≠ gb147)); have NB147_145 := Aside0.mk ((y42_ : gb147 ≠ gb145)); have NB146_147 := Aside0.mk ((y43_ : gb146 ≠ gb147)); have NB147_146 := Aside0.mk ((y44_ : gb147 ≠ gb146)); clear BK145; clear BK146; clear HB; have BK145 := n0_; have BK146 := n1_; have HB := n2_; clear n0_ n1_ n2_; clear hb hbox hg; have hnb9 := NB145_146.out; have hnc9 := NB146_145.out; have hnb10 := NB145_147.out; have hnc10 := NB147_145.out; obtain ⟨hcz11_0, hcz11_1, hcz11_2, hcz11_3, hcz11_4, hcz11_5, hcz11_6, hcz11_7⟩ := e27_ BK145.out; obtain ⟨hfz11_0, hfz11_1, hfz11_2, hfz11_3, hfz11_4, hfz11_5, hfz11_6, hfz11_7⟩ := z28_ BK145.out; have hnb12 := NB146_147.out; have hnc12 := NB147_146.out; obtain ⟨hcz13_0, hcz13_1, hcz13_2, hcz13_3, hcz13_4, hcz13_5, hcz13_6, hcz13_7⟩ := e27_ BK146.out; obtain ⟨hfz13_0, hfz13_1, hfz13_2, hfz13_3, hfz13_4, hfz13_5, hfz13_6, hfz13_7⟩ := z28_ BK146.out) | ((with_reducible refine gate_callee (f := 75) rfl ?_); refine goesL_ (some 17) rfl rfl Try.func75 (by kernel_rfl) rfl #[.slice A0_2 l0_2.length c0_2, .slice A1_2 l1_2.length c1_2] rfl ma_ ?_; (with_reducible refine (spec_l9Both.calls k _ _ l0_2 _ _ l1_2 t148 t149 _ ?side1 ?side2 ?side3 ?side4 A3.out).mono ?_); (case side1 => exact cd_ (Kd.C_below HR0_2.out HB.out)); (case side2 => exact HC0_2.out); (case side3 => exact cd_ (Kd.C_below HR1_2.out HB.out)); (case side4 => exact HC1_2.out); rintro e w14 ⟨v150, rfl, ho0, hb⟩; refine ⟨_, rfl, ?_⟩; have HO151 := Aside0.mk (Kd.R_lower ho0 (below_size y30_)); have n1_ := Aside0.mk (blk_below (bd_ BK145.out) hb); have n2_ := Aside0.mk (blk_below (bd_ BK146.out) hb); have n3_ := Aside0.mk (blk_below (bd_ BK147.out) hb); have n4_ := Aside0.mk (below_step y30_ hb); clear BK145; clear BK146; clear BK147; clear HB; have BK145 := n1_; have BK146 := n2_; have BK147 := n3_; have HB := n4_; clear n1_ n2_ n3_ n4_; (try clear hb); (try clear hb2); (try clear hk); (try clear hi); (try clear ho0); obtain ⟨hcz15_0, hcz15_1, hcz15_2, hcz15_3, hcz15_4, hcz15_5, hcz15_6, hcz15_7⟩ := e27_ BK145.out; obtain ⟨hfz15_0, hfz15_1, hfz15_2, hfz15_3, hfz15_4, hfz15_5, hfz15_6, hfz15_7⟩ := z28_ BK145.out; obtain ⟨hcz16_0, hcz16_1, hcz16_2, hcz16_3, hcz16_4, hcz16_5, hcz16_6, hcz16_7⟩ := e27_ BK146.out; obtain ⟨hfz16_0, hfz16_1, hfz16_2, hfz16_3, hfz16_4, hfz16_5, hfz16_6, hfz16_7⟩ := z28_ BK146.out) | ((with_reducible refine gate_callee (f := 75) rfl ?_); refine goesL_ (some 25) rfl rfl Try.func75 (by kernel_rfl) rfl #[.slice A0_5 l0_5.length c0_5, .slice A1_5 l1_5.length c1_5] rfl ma_ ?_; (with_reducible refine (spec_l9Both.calls k _ _ l0_5 _ _ l1_5 t152 t153 _ ?side1 ?side2 ?side3 ?side4 A4.out).mono ?_); (case side1 => exact cd_ (Kd.C_below HR0_5.out HB.out)); (case side2 => exact HC0_5.out); (case side3 => exact cd_ (Kd.C_below HR1_5.out HB.out)); (case side4 => exact HC1_5.out); rintro e w17 ⟨v154, rfl, ho0, hb⟩; refine ⟨_, rfl, ?_⟩; have n0_ := Aside0.mk (Kd.R_elder' (rd_ HO151.out) (Kd.R_base ho0) hb); have HO155 := Aside0.mk (Kd.R_lower (Kd.R_new' ho0 (Kd.R_lt (rd_ HO151.out))) (below_size y30_)); have n2_ := Aside0.mk (blk_below (bd_ BK145.out) hb); have n3_ := Aside0.mk (blk_below (bd_ BK146.out) hb); have n4_ := Aside0.mk (blk_below (bd_ BK147.out) hb); have n5_ := Aside0.mk (below_step y30_ hb); clear HO151; clear BK145; clear BK146; clear BK147; clear HB; have HO151 := n0_; have BK145 := n2_; have BK146 := n3_; have BK147 := n4_; have HB := n5_; clear n0_ n2_ n3_ n4_ n5_; (try clear hb); (try clear hb2); (try clear hk); (try clear hi); (try clear ho0)))
 (try simp only [Act.put, List.setIfInBounds_toArray, List.set_cons_zero, List.set_cons_succ])
 go_cut [50] (fun v50 wc => ∃ (kq : Nat) (x50_4 : Bool), v50 = .bool x50_4 ∧ Aside0 (spec_Sharpen.j0 kq t148 t152 x50_4 a0_0 a0_1 l0_2 a0_3 a0_4 l0_5 a0_6 a0_7 a1_0 a1_1 l1_2 a1_3 a1_4 l1_5 a1_6 a1_7 = some (r1, r2, r3, r4, r5, r6, r7, r8, r9)) ∧ Aside0 (kq ≤ k) ∧ Aside0 (Kd.R (Kd.int .i64) 3 wc w.heap.size (fun k_ => some k_ ≠ (v154 : Value).ownBlock) v150 t148) ∧ Aside0 (Kd.R (Kd.int .i64) 3 wc w.heap.size (fun k_ => some k_ ≠ (v150 : Value).ownBlock) v154 t152) ∧ Aside0 (wc.heap[gb145]? = some (.cells #[.int .i64 a0_0, .int .i64 a0_1, (.slice A0_2 l0_2.length c0_2), .int .i64 a0_3, .int .i64 a0_4, (.slice A0_5 l0_5.length c0_5), .int .i64 a0_6, .int .i64 a0_7] 41 (0, 0))) ∧ Aside0 (wc.heap[gb146]? = some (.cells #[.int .i64 a1_0, .int .i64 a1_1, (.slice A1_2 l1_2.length c1_2), .int .i64 a1_3, .int .i64 a1_4, (.slice A1_5 l1_5.length c1_5), .int .i64 a1_6, .int .i64 a1_7] 41 (0, 0))) ∧ Aside0 (wc.heap[gb147]? = some (.cells #[.int .i64 0, .int .i64 0, (.slice none 0 0), .int .i64 0, .int .i64 0, (.slice none 0 0), .int .i64 0, .int .i64 0] 41 (0, 0))) ∧ Aside0 (Below w.heap.size w wc))
 case first =>
  have H := HC5.out
  clear HC5
  replace H := Option.bind_eq_some_iff.mp H
  obtain ⟨t156, A180, H⟩ := H
  replace H : (if t156 = true then ((spec_IsReport.f k a1_0 a1_1 l1_2 a1_3 a1_4 l1_5 a1_6 a1_7).bind fun t157 => (if t157 = true then (if a0_1 = a1_1 then (if t149 = true then (spec_Sharpen.j0 k t148 t152 (!t153) a0_0 a0_1 l0_2 a0_3 a0_4 l0_5 a0_6 a0_7 a1_0 a1_1 l1_2 a1_3 a1_4 l1_5 a1_6 a1_7) else (spec_Sharpen.j0 k t148 t152 true a0_0 a0_1 l0_2 a0_3 a0_4 l0_5 a0_6 a0_7 a1_0 a1_1 l1_2 a1_3 a1_4 l1_5 a1_6 a1_7)) else (spec_Sharpen.j0 k t148 t152 true a0_0 a0_1 l0_2 a0_3 a0_4 l0_5 a0_6 a0_7 a1_0 a1_1 l1_2 a1_3 a1_4 l1_5 a1_6 a1_7)) else (spec_Sharpen.j0 k t148 t152 true a0_0 a0_1 l0_2 a0_3 a0_4 l0_5 a0_6 a0_7 a1_0 a1_1 l1_2 a1_3 a1_4 l1_5 a1_6 a1_7))) else (spec_Sharpen.j0 k t148 t152 true a0_0 a0_1 l0_2 a0_3 a0_4 l0_5 a0_6 a0_7 a1_0 a1_1 l1_2 a1_3 a1_4 l1_5 a1_6 a1_7)) = some (r1, r2, r3, r4, r5, r6, r7, r8, r9) := H
  have A18 := Aside0.mk A180
  clear A180
  by_cases c19 : t156 = true
  ·
   subst c19
   have H1 : ((spec_IsReport.f k a1_0 a1_1 l1_2 a1_3 a1_4 l1_5 a1_6 a1_7).bind fun t157 => (if t157 = true then (if a0_1 = a1_1 then (if t149 = true then (spec_Sharpen.j0 k t148 t152 (!t153) a0_0 a0_1 l0_2 a0_3 a0_4 l0_5 a0_6 a0_7 a1_0 a1_1 l1_2 a1_3 a1_4 l1_5 a1_6 a1_7) else (spec_Sharpen.j0 k t148 t152 true a0_0 a0_1 l0_2 a0_3 a0_4 l0_5 a0_6 a0_7 a1_0 a1_1 l1_2 a1_3 a1_4 l1_5 a1_6 a1_7)) else (spec_Sharpen.j0 k t148 t152 true a0_0 a0_1 l0_2 a0_3 a0_4 l0_5 a0_6 a0_7 a1_0 a1_1 l1_2 a1_3 a1_4 l1_5 a1_6 a1_7)) else (spec_Sharpen.j0 k t148 t152 true a0_0 a0_1 l0_2 a0_3 a0_4 l0_5 a0_6 a0_7 a1_0 a1_1 l1_2 a1_3 a1_4 l1_5 a1_6 a1_7))) = some (r1, r2, r3, r4, r5, r6, r7, r8, r9) := by rw [if_pos rfl] at H; exact H
   clear H
   have H := H1
   clear H1
   replace H := Option.bind_eq_some_iff.mp H
   obtain ⟨t157, A200, H⟩ := H
   replace H : (if t157 = true then (if a0_1 = a1_1 then (if t149 = true then (spec_Sharpen.j0 k t148 t152 (!t153) a0_0 a0_1 l0_2 a0_3 a0_4 l0_5 a0_6 a0_7 a1_0 a1_1 l1_2 a1_3 a1_4 l1_5 a1_6 a1_7) else (spec_Sharpen.j0 k t148 t152 true a0_0 a0_1 l0_2 a0_3 a0_4 l0_5 a0_6 a0_7 a1_0 a1_1 l1_2 a1_3 a1_4 l1_5 a1_6 a1_7)) else (spec_Sharpen.j0 k t148 t152 true a0_0 a0_1 l0_2 a0_3 a0_4 l0_5 a0_6 a0_7 a1_0 a1_1 l1_2 a1_3 a1_4 l1_5 a1_6 a1_7)) else (spec_Sharpen.j0 k t148 t152 true a0_0 a0_1 l0_2 a0_3 a0_4 l0_5 a0_6 a0_7 a1_0 a1_1 l1_2 a1_3 a1_4 l1_5 a1_6 a1_7)) = some (r1, r2, r3, r4, r5, r6, r7, r8, r9) := H
   have A20 := Aside0.mk A200
   clear A200
   by_cases c21 : t157 = true
   ·
    subst c21
    have H1 : (if a0_1 = a1_1 then (if t149 = true then (spec_Sharpen.j0 k t148 t152 (!t153) a0_0 a0_1 l0_2 a0_3 a0_4 l0_5 a0_6 a0_7 a1_0 a1_1 l1_2 a1_3 a1_4 l1_5 a1_6 a1_7) else (spec_Sharpen.j0 k t148 t152 true a0_0 a0_1 l0_2 a0_3 a0_4 l0_5 a0_6 a0_7 a1_0 a1_1 l1_2 a1_3 a1_4 l1_5 a1_6 a1_7)) else (spec_Sharpen.j0 k t148 t152 true a0_0 a0_1 l0_2 a0_3 a0_4 l0_5 a0_6 a0_7 a1_0 a1_1 l1_2 a1_3 a1_4 l1_5 a1_6 a1_7)) = some (r1, r2, r3, r4, r5, r6, r7, r8, r9) := by rw [if_pos rfl] at H; exact H
    clear H
    have H := H1
    clear H1
    by_cases c22 : a0_1 = a1_1
    ·
     rw [if_pos c22] at H
     have c22b0 : (a0_1 == a1_1) = true := beq_iff_eq.mpr c22
     have c22b1 : (a0_1 != a1_1) = false := bne_eq_false_iff_eq.mpr c22
     clear c22
     (first | rw [c22b0] | (simp only [i64_w, i32_w]; rw [c22b0]) | skip)
     by_cases c23 : t149 = true
     ·
      subst c23
      have H1 : (spec_Sharpen.j0 k t148 t152 (!t153) a0_0 a0_1 l0_2 a0_3 a0_4 l0_5 a0_6 a0_7 a1_0 a1_1 l1_2 a1_3 a1_4 l1_5 a1_6 a1_7) = some (r1, r2, r3, r4, r5, r6, r7, r8, r9) := by rw [if_pos rfl] at H; exact H
      clear H
      have H := H1
      clear H1
      have H' := Aside0.mk H
      clear H
      have hnb24 := NB145_146.out
      have hnc24 := NB146_145.out
      have hnb25 := NB145_147.out
      have hnc25 := NB147_145.out
      obtain ⟨hcz26_0, hcz26_1, hcz26_2, hcz26_3, hcz26_4, hcz26_5, hcz26_6, hcz26_7⟩ := e27_ BK145.out
      obtain ⟨hfz26_0, hfz26_1, hfz26_2, hfz26_3, hfz26_4, hfz26_5, hfz26_6, hfz26_7⟩ := z28_ BK145.out
      go_wp2_with (first | ((with_reducible refine gate_callee (f := 76) rfl ?_); refine goesL_ (some 29) rfl rfl Try.func76 (by kernel_rfl) rfl #[.agg #[.int .i64 a0_0, .int .i64 a0_1, .slice A0_2 l0_2.length c0_2, .int .i64 a0_3, .int .i64 a0_4, .slice A0_5 l0_5.length c0_5, .int .i64 a0_6, .int .i64 a0_7]] rfl ma_ ?_; (with_reducible refine (spec_IsReport.calls k a0_0 a0_1 _ _ l0_2 a0_3 a0_4 _ _ l0_5 a0_6 a0_7 true _ ?side1 ?side2 ?side3 ?side4 A18.out).mono ?_); (case side1 => exact cd_ (Kd.C_below HR0_2.out HB.out)); (case side2 => exact HC0_2.out); (case side3 => exact cd_ (Kd.C_below HR0_5.out HB.out)); (case side4 => exact HC0_5.out); rintro e w27 ⟨rfl, hb⟩; refine ⟨_, rfl, ?_⟩; have n0_ := Aside0.mk (Kd.R_below (rd_ HO151.out) hb); have n1_ := Aside0.mk (Kd.R_below (rd_ HO155.out) hb); have n2_ := Aside0.mk (blk_below (bd_ BK145.out) hb); have n3_ := Aside0.mk (blk_below (bd_ BK146.out) hb); have n4_ := Aside0.mk (blk_below (bd_ BK147.out) hb); have n5_ := Aside0.mk (below_step y30_ hb); clear HO151; clear HO155; clear BK145; clear BK146; clear BK147; clear HB; have HO151 := n0_; have HO155 := n1_; have BK145 := n2_; have BK146 := n3_; have BK147 := n4_; have HB := n5_; clear n0_ n1_ n2_ n3_ n4_ n5_; (try clear hb); (try clear hb2); (try clear hk); (try clear hi); have hnb28 := NB146_147.out; have hnc28 := NB147_146.out; obtain ⟨hcz29_0, hcz29_1, hcz29_2, hcz29_3, hcz29_4, hcz29_5, hcz29_6, hcz29_7⟩ := e27_ BK146.out; obtain ⟨hfz29_0, hfz29_1, hfz29_2, hfz29_3, hfz29_4, hfz29_5, hfz29_6, hfz29_7⟩ := z28_ BK146.out) | (go_at_call 76; (with_reducible refine (spec_IsReport.calls k a1_0 a1_1 _ _ l1_2 a1_3 a1_4 _ _ l1_5 a1_6 a1_7 true _ ?side1 ?side2 ?side3 ?side4 A20.out).mono ?_); (case side1 => exact cd_ (Kd.C_below HR1_2.out HB.out)); (case side2 => exact HC1_2.out); (case side3 => exact cd_ (Kd.C_below HR1_5.out HB.out)); (case side4 => exact HC1_5.out); rintro e w30 ⟨rfl, hb⟩; have n0_ := Aside0.mk (Kd.R_below (rd_ HO151.out) hb); have n1_ := Aside0.mk (Kd.R_below (rd_ HO155.out) hb); have n2_ := Aside0.mk (blk_below (bd_ BK145.out) hb); have n3_ := Aside0.mk (blk_below (bd_ BK146.out) hb); have n4_ := Aside0.mk (blk_below (bd_ BK147.out) hb); have n5_ := Aside0.mk (below_step y30_ hb); clear HO151; clear HO155; clear BK145; clear BK146; clear BK147; clear HB; have HO151 := n0_; have HO155 := n1_; have BK145 := n2_; have BK146 := n3_; have BK147 := n4_; have HB := n5_; clear n0_ n1_ n2_ n3_ n4_ n5_; (try clear hb); (try clear hb2); (try clear hk); (try clear hi); obtain ⟨hcz31_0, hcz31_1, hcz31_2, hcz31_3, hcz31_4, hcz31_5, hcz31_6, hcz31_7⟩ := e27_ BK145.out; obtain ⟨hfz31_0, hfz31_1, hfz31_2, hfz31_3, hfz31_4, hfz31_5, hfz31_6, hfz31_7⟩ := z28_ BK145.out; obtain ⟨hcz32_0, hcz32_1, hcz32_2, hcz32_3, hcz32_4, hcz32_5, hcz32_6, hcz32_7⟩ := e27_ BK146.out; obtain ⟨hfz32_0, hfz32_1, hfz32_2, hfz32_3, hfz32_4, hfz32_5, hfz32_6, hfz32_7⟩ := z28_ BK146.out))
      go_meet
      case rel => exact ⟨_, (!t153), (by first | rfl | (simp; done) | (simp [*]; done)), H', ⟨by first | omega | exact Nat.le_refl _⟩, ⟨by (with_reducible repeat (first | apply Kd.R_alloc | apply Kd.R_drewN | apply Kd.R_drew)); exact Kd.R_mono HO151.out (fun _ hk => hk.2)⟩, ⟨by (with_reducible repeat (first | apply Kd.R_alloc | apply Kd.R_drewN | apply Kd.R_drew)); exact Kd.R_mono HO155.out (fun _ hk => hk.2)⟩, ⟨bd_ BK145.out⟩, ⟨bd_ BK146.out⟩, ⟨bd_ BK147.out⟩, ⟨y48_⟩⟩
     ·
      replace c23 := Bool.eq_false_iff.mpr c23
      subst c23
      have H1 : (spec_Sharpen.j0 k t148 t152 true a0_0 a0_1 l0_2 a0_3 a0_4 l0_5 a0_6 a0_7 a1_0 a1_1 l1_2 a1_3 a1_4 l1_5 a1_6 a1_7) = some (r1, r2, r3, r4, r5, r6, r7, r8, r9) := by rw [if_neg (show ¬ (false = true) by decide)] at H; exact H
      clear H
      have H := H1
      clear H1
      have H' := Aside0.mk H
      clear H
      have hnb33 := NB145_146.out
      have hnc33 := NB146_145.out
      have hnb34 := NB145_147.out
      have hnc34 := NB147_145.out
      obtain ⟨hcz35_0, hcz35_1, hcz35_2, hcz35_3, hcz35_4, hcz35_5, hcz35_6, hcz35_7⟩ := e27_ BK145.out
      obtain ⟨hfz35_0, hfz35_1, hfz35_2, hfz35_3, hfz35_4, hfz35_5, hfz35_6, hfz35_7⟩ := z28_ BK145.out
      go_wp2_with (first | ((with_reducible refine gate_callee (f := 76) rfl ?_); refine goesL_ (some 29) rfl rfl Try.func76 (by kernel_rfl) rfl #[.agg #[.int .i64 a0_0, .int .i64 a0_1, .slice A0_2 l0_2.length c0_2, .int .i64 a0_3, .int .i64 a0_4, .slice A0_5 l0_5.length c0_5, .int .i64 a0_6, .int .i64 a0_7]] rfl ma_ ?_; (with_reducible refine (spec_IsReport.calls k a0_0 a0_1 _ _ l0_2 a0_3 a0_4 _ _ l0_5 a0_6 a0_7 true _ ?side1 ?side2 ?side3 ?side4 A18.out).mono ?_); (case side1 => exact cd_ (Kd.C_below HR0_2.out HB.out)); (case side2 => exact HC0_2.out); (case side3 => exact cd_ (Kd.C_below HR0_5.out HB.out)); (case side4 => exact HC0_5.out); rintro e w36 ⟨rfl, hb⟩; refine ⟨_, rfl, ?_⟩; have n0_ := Aside0.mk (Kd.R_below (rd_ HO151.out) hb); have n1_ := Aside0.mk (Kd.R_below (rd_ HO155.out) hb); have n2_ := Aside0.mk (blk_below (bd_ BK145.out) hb); have n3_ := Aside0.mk (blk_below (bd_ BK146.out) hb); have n4_ := Aside0.mk (blk_below (bd_ BK147.out) hb); have n5_ := Aside0.mk (below_step y30_ hb); clear HO151; clear HO155; clear BK145; clear BK146; clear BK147; clear HB; have HO151 := n0_; have HO155 := n1_; have BK145 := n2_; have BK146 := n3_; have BK147 := n4_; have HB := n5_; clear n0_ n1_ n2_ n3_ n4_ n5_; (try clear hb); (try clear hb2); (try clear hk); (try clear hi); have hnb37 := NB146_147.out; have hnc37 := NB147_146.out; obtain ⟨hcz38_0, hcz38_1, hcz38_2, hcz38_3, hcz38_4, hcz38_5, hcz38_6, hcz38_7⟩ := e27_ BK146.out; obtain ⟨hfz38_0, hfz38_1, hfz38_2, hfz38_3, hfz38_4, hfz38_5, hfz38_6, hfz38_7⟩ := z28_ BK146.out) | (go_at_call 76; (with_reducible refine (spec_IsReport.calls k a1_0 a1_1 _ _ l1_2 a1_3 a1_4 _ _ l1_5 a1_6 a1_7 true _ ?side1 ?side2 ?side3 ?side4 A20.out).mono ?_); (case side1 => exact cd_ (Kd.C_below HR1_2.out HB.out)); (case side2 => exact HC1_2.out); (case side3 => exact cd_ (Kd.C_below HR1_5.out HB.out)); (case side4 => exact HC1_5.out); rintro e w39 ⟨rfl, hb⟩; have n0_ := Aside0.mk (Kd.R_below (rd_ HO151.out) hb); have n1_ := Aside0.mk (Kd.R_below (rd_ HO155.out) hb); have n2_ := Aside0.mk (blk_below (bd_ BK145.out) hb); have n3_ := Aside0.mk (blk_below (bd_ BK146.out) hb); have n4_ := Aside0.mk (blk_below (bd_ BK147.out) hb); have n5_ := Aside0.mk (below_step y30_ hb); clear HO151; clear HO155; clear BK145; clear BK146; clear BK147; clear HB; have HO151 := n0_; have HO155 := n1_; have BK145 := n2_; have BK146 := n3_; have BK147 := n4_; have HB := n5_; clear n0_ n1_ n2_ n3_ n4_ n5_; (try clear hb); (try clear hb2); (try clear hk); (try clear hi); obtain ⟨hcz40_0, hcz40_1, hcz40_2, hcz40_3, hcz40_4, hcz40_5, hcz40_6, hcz40_7⟩ := e27_ BK145.out; obtain ⟨hfz40_0, hfz40_1, hfz40_2, hfz40_3, hfz40_4, hfz40_5, hfz40_6, hfz40_7⟩ := z28_ BK145.out; obtain ⟨hcz41_0, hcz41_1, hcz41_2, hcz41_3, hcz41_4, hcz41_5, hcz41_6, hcz41_7⟩ := e27_ BK146.out; obtain ⟨hfz41_0, hfz41_1, hfz41_2, hfz41_3, hfz41_4, hfz41_5, hfz41_6, hfz41_7⟩ := z28_ BK146.out))
      go_meet
      case rel => exact ⟨_, (true), (by first | rfl | (simp; done) | (simp [*]; done)), H', ⟨by first | omega | exact Nat.le_refl _⟩, ⟨by (with_reducible repeat (first | apply Kd.R_alloc | apply Kd.R_drewN | apply Kd.R_drew)); exact Kd.R_mono HO151.out (fun _ hk => hk.2)⟩, ⟨by (with_reducible repeat (first | apply Kd.R_alloc | apply Kd.R_drewN | apply Kd.R_drew)); exact Kd.R_mono HO155.out (fun _ hk => hk.2)⟩, ⟨bd_ BK145.out⟩, ⟨bd_ BK146.out⟩, ⟨bd_ BK147.out⟩, ⟨y48_⟩⟩
    ·
     rw [if_neg c22] at H
     have c22b0 : (a0_1 == a1_1) = false := beq_eq_false_iff_ne.mpr c22
     have c22b1 : (a0_1 != a1_1) = true := bne_iff_ne.mpr c22
     (first | rw [c22b0] | (simp only [i64_w, i32_w]; rw [c22b0]) | skip)
     have H' := Aside0.mk H
     clear H
     have hnb42 := NB145_146.out
     have hnc42 := NB146_145.out
     have hnb43 := NB145_147.out
     have hnc43 := NB147_145.out
     obtain ⟨hcz44_0, hcz44_1, hcz44_2, hcz44_3, hcz44_4, hcz44_5, hcz44_6, hcz44_7⟩ := e27_ BK145.out
     obtain ⟨hfz44_0, hfz44_1, hfz44_2, hfz44_3, hfz44_4, hfz44_5, hfz44_6, hfz44_7⟩ := z28_ BK145.out
     go_wp2_with (first | ((with_reducible refine gate_callee (f := 76) rfl ?_); refine goesL_ (some 29) rfl rfl Try.func76 (by kernel_rfl) rfl #[.agg #[.int .i64 a0_0, .int .i64 a0_1, .slice A0_2 l0_2.length c0_2, .int .i64 a0_3, .int .i64 a0_4, .slice A0_5 l0_5.length c0_5, .int .i64 a0_6, .int .i64 a0_7]] rfl ma_ ?_; (with_reducible refine (spec_IsReport.calls k a0_0 a0_1 _ _ l0_2 a0_3 a0_4 _ _ l0_5 a0_6 a0_7 true _ ?side1 ?side2 ?side3 ?side4 A18.out).mono ?_); (case side1 => exact cd_ (Kd.C_below HR0_2.out HB.out)); (case side2 => exact HC0_2.out); (case side3 => exact cd_ (Kd.C_below HR0_5.out HB.out)); (case side4 => exact HC0_5.out); rintro e w45 ⟨rfl, hb⟩; refine ⟨_, rfl, ?_⟩; have n0_ := Aside0.mk (Kd.R_below (rd_ HO151.out) hb); have n1_ := Aside0.mk (Kd.R_below (rd_ HO155.out) hb); have n2_ := Aside0.mk (blk_below (bd_ BK145.out) hb); have n3_ := Aside0.mk (blk_below (bd_ BK146.out) hb); have n4_ := Aside0.mk (blk_below (bd_ BK147.out) hb); have n5_ := Aside0.mk (below_step y30_ hb); clear HO151; clear HO155; clear BK145; clear BK146; clear BK147; clear HB; have HO151 := n0_; have HO155 := n1_; have BK145 := n2_; have BK146 := n3_; have BK147 := n4_; have HB := n5_; clear n0_ n1_ n2_ n3_ n4_ n5_; (try clear hb); (try clear hb2); (try clear hk); (try clear hi); have hnb46 := NB146_147.out; have hnc46 := NB147_146.out; obtain ⟨hcz47_0, hcz47_1, hcz47_2, hcz47_3, hcz47_4, hcz47_5, hcz47_6, hcz47_7⟩ := e27_ BK146.out; obtain ⟨hfz47_0, hfz47_1, hfz47_2, hfz47_3, hfz47_4, hfz47_5, hfz47_6, hfz47_7⟩ := z28_ BK146.out) | (go_at_call 76; (with_reducible refine (spec_IsReport.calls k a1_0 a1_1 _ _ l1_2 a1_3 a1_4 _ _ l1_5 a1_6 a1_7 true _ ?side1 ?side2 ?side3 ?side4 A20.out).mono ?_); (case side1 => exact cd_ (Kd.C_below HR1_2.out HB.out)); (case side2 => exact HC1_2.out); (case side3 => exact cd_ (Kd.C_below HR1_5.out HB.out)); (case side4 => exact HC1_5.out); rintro e w48 ⟨rfl, hb⟩; have n0_ := Aside0.mk (Kd.R_below (rd_ HO151.out) hb); have n1_ := Aside0.mk (Kd.R_below (rd_ HO155.out) hb); have n2_ := Aside0.mk (blk_below (bd_ BK145.out) hb); have n3_ := Aside0.mk (blk_below (bd_ BK146.out) hb); have n4_ := Aside0.mk (blk_below (bd_ BK147.out) hb); have n5_ := Aside0.mk (below_step y30_ hb); clear HO151; clear HO155; clear BK145; clear BK146; clear BK147; clear HB; have HO151 := n0_; have HO155 := n1_; have BK145 := n2_; have BK146 := n3_; have BK147 := n4_; have HB := n5_; clear n0_ n1_ n2_ n3_ n4_ n5_; (try clear hb); (try clear hb2); (try clear hk); (try clear hi); obtain ⟨hcz49_0, hcz49_1, hcz49_2, hcz49_3, hcz49_4, hcz49_5, hcz49_6, hcz49_7⟩ := e27_ BK145.out; obtain ⟨hfz49_0, hfz49_1, hfz49_2, hfz49_3, hfz49_4, hfz49_5, hfz49_6, hfz49_7⟩ := z28_ BK145.out; obtain ⟨hcz50_0, hcz50_1, hcz50_2, hcz50_3, hcz50_4, hcz50_5, hcz50_6, hcz50_7⟩ := e27_ BK146.out; obtain ⟨hfz50_0, hfz50_1, hfz50_2, hfz50_3, hfz50_4, hfz50_5, hfz50_6, hfz50_7⟩ := z28_ BK146.out))
     go_meet
     case rel => exact ⟨_, (true), (by first | rfl | (simp; done) | (simp [*]; done)), H', ⟨by first | omega | exact Nat.le_refl _⟩, ⟨by (with_reducible repeat (first | apply Kd.R_alloc | apply Kd.R_drewN | apply Kd.R_drew)); exact Kd.R_mono HO151.out (fun _ hk => hk.2)⟩, ⟨by (with_reducible repeat (first | apply Kd.R_alloc | apply Kd.R_drewN | apply Kd.R_drew)); exact Kd.R_mono HO155.out (fun _ hk => hk.2)⟩, ⟨bd_ BK145.out⟩, ⟨bd_ BK146.out⟩, ⟨bd_ BK147.out⟩, ⟨y48_⟩⟩
   ·
    replace c21 := Bool.eq_false_iff.mpr c21
    subst c21
    have H1 : (spec_Sharpen.j0 k t148 t152 true a0_0 a0_1 l0_2 a0_3 a0_4 l0_5 a0_6 a0_7 a1_0 a1_1 l1_2 a1_3 a1_4 l1_5 a1_6 a1_7) = some (r1, r2, r3, r4, r5, r6, r7, r8, r9) := by rw [if_neg (show ¬ (false = true) by decide)] at H; exact H
    clear H
    have H := H1
    clear H1
    have H' := Aside0.mk H
    clear H
    have hnb51 := NB145_146.out
    have hnc51 := NB146_145.out
    have hnb52 := NB145_147.out
    have hnc52 := NB147_145.out
    obtain ⟨hcz53_0, hcz53_1, hcz53_2, hcz53_3, hcz53_4, hcz53_5, hcz53_6, hcz53_7⟩ := e27_ BK145.out
    obtain ⟨hfz53_0, hfz53_1, hfz53_2, hfz53_3, hfz53_4, hfz53_5, hfz53_6, hfz53_7⟩ := z28_ BK145.out
    go_wp2_with (first | ((with_reducible refine gate_callee (f := 76) rfl ?_); refine goesL_ (some 29) rfl rfl Try.func76 (by kernel_rfl) rfl #[.agg #[.int .i64 a0_0, .int .i64 a0_1, .slice A0_2 l0_2.length c0_2, .int .i64 a0_3, .int .i64 a0_4, .slice A0_5 l0_5.length c0_5, .int .i64 a0_6, .int .i64 a0_7]] rfl ma_ ?_; (with_reducible refine (spec_IsReport.calls k a0_0 a0_1 _ _ l0_2 a0_3 a0_4 _ _ l0_5 a0_6 a0_7 true _ ?side1 ?side2 ?side3 ?side4 A18.out).mono ?_); (case side1 => exact cd_ (Kd.C_below HR0_2.out HB.out)); (case side2 => exact HC0_2.out); (case side3 => exact cd_ (Kd.C_below HR0_5.out HB.out)); (case side4 => exact HC0_5.out); rintro e w54 ⟨rfl, hb⟩; refine ⟨_, rfl, ?_⟩; have n0_ := Aside0.mk (Kd.R_below (rd_ HO151.out) hb); have n1_ := Aside0.mk (Kd.R_below (rd_ HO155.out) hb); have n2_ := Aside0.mk (blk_below (bd_ BK145.out) hb); have n3_ := Aside0.mk (blk_below (bd_ BK146.out) hb); have n4_ := Aside0.mk (blk_below (bd_ BK147.out) hb); have n5_ := Aside0.mk (below_step y30_ hb); clear HO151; clear HO155; clear BK145; clear BK146; clear BK147; clear HB; have HO151 := n0_; have HO155 := n1_; have BK145 := n2_; have BK146 := n3_; have BK147 := n4_; have HB := n5_; clear n0_ n1_ n2_ n3_ n4_ n5_; (try clear hb); (try clear hb2); (try clear hk); (try clear hi); have hnb55 := NB146_147.out; have hnc55 := NB147_146.out; obtain ⟨hcz56_0, hcz56_1, hcz56_2, hcz56_3, hcz56_4, hcz56_5, hcz56_6, hcz56_7⟩ := e27_ BK146.out; obtain ⟨hfz56_0, hfz56_1, hfz56_2, hfz56_3, hfz56_4, hfz56_5, hfz56_6, hfz56_7⟩ := z28_ BK146.out) | (go_at_call 76; (with_reducible refine (spec_IsReport.calls k a1_0 a1_1 _ _ l1_2 a1_3 a1_4 _ _ l1_5 a1_6 a1_7 false _ ?side1 ?side2 ?side3 ?side4 A20.out).mono ?_); (case side1 => exact cd_ (Kd.C_below HR1_2.out HB.out)); (case side2 => exact HC1_2.out); (case side3 => exact cd_ (Kd.C_below HR1_5.out HB.out)); (case side4 => exact HC1_5.out); rintro e w57 ⟨rfl, hb⟩; have n0_ := Aside0.mk (Kd.R_below (rd_ HO151.out) hb); have n1_ := Aside0.mk (Kd.R_below (rd_ HO155.out) hb); have n2_ := Aside0.mk (blk_below (bd_ BK145.out) hb); have n3_ := Aside0.mk (blk_below (bd_ BK146.out) hb); have n4_ := Aside0.mk (blk_below (bd_ BK147.out) hb); have n5_ := Aside0.mk (below_step y30_ hb); clear HO151; clear HO155; clear BK145; clear BK146; clear BK147; clear HB; have HO151 := n0_; have HO155 := n1_; have BK145 := n2_; have BK146 := n3_; have BK147 := n4_; have HB := n5_; clear n0_ n1_ n2_ n3_ n4_ n5_; (try clear hb); (try clear hb2); (try clear hk); (try clear hi)))
    go_meet
    case rel => exact ⟨_, (true), (by first | rfl | (simp; done) | (simp [*]; done)), H', ⟨by first | omega | exact Nat.le_refl _⟩, ⟨by (with_reducible repeat (first | apply Kd.R_alloc | apply Kd.R_drewN | apply Kd.R_drew)); exact Kd.R_mono HO151.out (fun _ hk => hk.2)⟩, ⟨by (with_reducible repeat (first | apply Kd.R_alloc | apply Kd.R_drewN | apply Kd.R_drew)); exact Kd.R_mono HO155.out (fun _ hk => hk.2)⟩, ⟨bd_ BK145.out⟩, ⟨bd_ BK146.out⟩, ⟨bd_ BK147.out⟩, ⟨y48_⟩⟩
  ·
   replace c19 := Bool.eq_false_iff.mpr c19
   subst c19
   have H1 : (spec_Sharpen.j0 k t148 t152 true a0_0 a0_1 l0_2 a0_3 a0_4 l0_5 a0_6 a0_7 a1_0 a1_1 l1_2 a1_3 a1_4 l1_5 a1_6 a1_7) = some (r1, r2, r3, r4, r5, r6, r7, r8, r9) := by rw [if_neg (show ¬ (false = true) by decide)] at H; exact H
   clear H
   have H := H1
   clear H1
   have H' := Aside0.mk H
   clear H
   have hnb58 := NB145_146.out
   have hnc58 := NB146_145.out
   have hnb59 := NB145_147.out
   have hnc59 := NB147_145.out
   obtain ⟨hcz60_0, hcz60_1, hcz60_2, hcz60_3, hcz60_4, hcz60_5, hcz60_6, hcz60_7⟩ := e27_ BK145.out
   obtain ⟨hfz60_0, hfz60_1, hfz60_2, hfz60_3, hfz60_4, hfz60_5, hfz60_6, hfz60_7⟩ := z28_ BK145.out
   go_wp2_with (first | ((with_reducible refine gate_callee (f := 76) rfl ?_); refine goesL_ (some 29) rfl rfl Try.func76 (by kernel_rfl) rfl #[.agg #[.int .i64 a0_0, .int .i64 a0_1, .slice A0_2 l0_2.length c0_2, .int .i64 a0_3, .int .i64 a0_4, .slice A0_5 l0_5.length c0_5, .int .i64 a0_6, .int .i64 a0_7]] rfl ma_ ?_; (with_reducible refine (spec_IsReport.calls k a0_0 a0_1 _ _ l0_2 a0_3 a0_4 _ _ l0_5 a0_6 a0_7 false _ ?side1 ?side2 ?side3 ?side4 A18.out).mono ?_); (case side1 => exact cd_ (Kd.C_below HR0_2.out HB.out)); (case side2 => exact HC0_2.out); (case side3 => exact cd_ (Kd.C_below HR0_5.out HB.out)); (case side4 => exact HC0_5.out); rintro e w61 ⟨rfl, hb⟩; refine ⟨_, rfl, ?_⟩; have n0_ := Aside0.mk (Kd.R_below (rd_ HO151.out) hb); have n1_ := Aside0.mk (Kd.R_below (rd_ HO155.out) hb); have n2_ := Aside0.mk (blk_below (bd_ BK145.out) hb); have n3_ := Aside0.mk (blk_below (bd_ BK146.out) hb); have n4_ := Aside0.mk (blk_below (bd_ BK147.out) hb); have n5_ := Aside0.mk (below_step y30_ hb); clear HO151; clear HO155; clear BK145; clear BK146; clear BK147; clear HB; have HO151 := n0_; have HO155 := n1_; have BK145 := n2_; have BK146 := n3_; have BK147 := n4_; have HB := n5_; clear n0_ n1_ n2_ n3_ n4_ n5_; (try clear hb); (try clear hb2); (try clear hk); (try clear hi)))
   go_meet
   case rel => exact ⟨_, (true), (by first | rfl | (simp; done) | (simp [*]; done)), H', ⟨by first | omega | exact Nat.le_refl _⟩, ⟨by (with_reducible repeat (first | apply Kd.R_alloc | apply Kd.R_drewN | apply Kd.R_drew)); exact Kd.R_mono HO151.out (fun _ hk => hk.2)⟩, ⟨by (with_reducible repeat (first | apply Kd.R_alloc | apply Kd.R_drewN | apply Kd.R_drew)); exact Kd.R_mono HO155.out (fun _ hk => hk.2)⟩, ⟨bd_ BK145.out⟩, ⟨bd_ BK146.out⟩, ⟨bd_ BK147.out⟩, ⟨y48_⟩⟩
 case rest =>
  clear HC5
  try clear c1
  try clear c2
  try clear p2
  try clear c3
  try clear c4
  try clear c5
  try clear c7
  try clear c9
  try clear c10
  try clear c12
  try clear c19
  try clear c21
  try clear c22
  try clear c22b0
  try clear c22b1
  try clear c23
  try clear c24
  try clear c25
  try clear c28
  try clear c33
  try clear c34
  try clear c37
  try clear c42
  try clear c43
  try clear c46
  try clear c47
  try clear c51
  try clear c52
  try clear c55
  try clear c58
  try clear c59
  obtain ⟨kq, x50_4, rfl, HA, HJ4, HO_6, HO_8, BK145, BK146, BK147, HB⟩ := hcut
  cases kq with
  | zero => exact absurd HA.out (by simp [spec_Sharpen.j0])
  | succ kj4 =>
   have H := HA.out
   clear HA
   simp only [spec_Sharpen.j0] at H
   by_cases c62 : x50_4 = true
   ·
    subst c62
    have H1 : (some (0, 0, ([] : List Int), 0, 0, ([] : List Int), 0, 0, false)) = some (r1, r2, r3, r4, r5, r6, r7, r8, r9) := by rw [if_pos rfl] at H; exact H
    clear H
    have H := H1
    clear H1
    simp only [Option.some.injEq, Prod.mk.injEq] at H
    obtain ⟨rfl, rfl, rfl, rfl, rfl, rfl, rfl, rfl, rfl⟩ := H
    have hnb63 := NB147_145.out
    have hnc63 := NB145_147.out
    have hnb64 := NB147_146.out
    have hnc64 := NB146_147.out
    obtain ⟨hcz65_0, hcz65_1, hcz65_2, hcz65_3, hcz65_4, hcz65_5, hcz65_6, hcz65_7⟩ := e27_ BK147.out
    obtain ⟨hfz65_0, hfz65_1, hfz65_2, hfz65_3, hfz65_4, hfz65_5, hfz65_6, hfz65_7⟩ := z28_ BK147.out
    go_wp2
    refine bodyPost_ret (results_ct rfl _ _ gb147 41 #[.int .i64 0, .int .i64 0, .slice none 0 0, .int .i64 0, .int .i64 0, .slice none 0 0, .int .i64 0, .int .i64 0] (0, 0) _ rfl y39_ Try.underlying41 rfl (by kernel_rfl)) rfl ?_
    exact ⟨_, _, by first | rfl | (simp [errW_none, errW_some] <;> rfl) | (simp [*, errW_none, errW_some] <;> rfl), by first | exact Kd.R_nil _ _ _ _ _ | exact Kd.N_nil _ _ _ _ _ | exact Kd.V_nil _ _ _ _ _ | exact Kd.Q_nil _ _ _ _ _ | exact Kd.S_nil _ _ _ _ _, by first | exact Kd.R_nil _ _ _ _ _ | exact Kd.N_nil _ _ _ _ _ | exact Kd.V_nil _ _ _ _ _ | exact Kd.Q_nil _ _ _ _ _ | exact Kd.S_nil _ _ _ _ _, y48_⟩
   ·
    replace c62 := Bool.eq_false_iff.mpr c62
    subst c62
    have H1 : ((spec_Max.f a0_6 a1_6).bind fun t158 => ((spec_Max.f a0_3 a1_3).bind fun t159 => ((spec_Min.f a0_4 a1_4).bind fun t160 => ((spec_Min.f a0_7 a1_7).bind fun t161 => ((spec_Max.f t158 t161).bind fun t162 => ((spec_IsReport.f kj4 a0_0 a0_1 t148 t159 t160 t152 t158 t162).bind fun t164 => (if t164 = true then (some (a0_0, a0_1, t148, t159, t160, t152, t158, t162, true)) else (some (0, 0, ([] : List Int), 0, 0, ([] : List Int), 0, 0, false))))))))) = some (r1, r2, r3, r4, r5, r6, r7, r8, r9) := by rw [if_neg (show ¬ (false = true) by decide)] at H; exact H
    clear H
    have H := H1
    clear H1
    replace H := Option.bind_eq_some_iff.mp H
    obtain ⟨t158, A660, H⟩ := H
    replace H : ((spec_Max.f a0_3 a1_3).bind fun t159 => ((spec_Min.f a0_4 a1_4).bind fun t160 => ((spec_Min.f a0_7 a1_7).bind fun t161 => ((spec_Max.f t158 t161).bind fun t162 => ((spec_IsReport.f kj4 a0_0 a0_1 t148 t159 t160 t152 t158 t162).bind fun t164 => (if t164 = true then (some (a0_0, a0_1, t148, t159, t160, t152, t158, t162, true)) else (some (0, 0, ([] : List Int), 0, 0, ([] : List Int), 0, 0, false)))))))) = some (r1, r2, r3, r4, r5, r6, r7, r8, r9) := H
    have A66 := Aside0.mk A660
    clear A660
    replace H := Option.bind_eq_some_iff.mp H
    obtain ⟨t159, A670, H⟩ := H
    replace H : ((spec_Min.f a0_4 a1_4).bind fun t160 => ((spec_Min.f a0_7 a1_7).bind fun t161 => ((spec_Max.f t158 t161).bind fun t162 => ((spec_IsReport.f kj4 a0_0 a0_1 t148 t159 t160 t152 t158 t162).bind fun t164 => (if t164 = true then (some (a0_0, a0_1, t148, t159, t160, t152, t158, t162, true)) else (some (0, 0, ([] : List Int), 0, 0, ([] : List Int), 0, 0, false))))))) = some (r1, r2, r3, r4, r5, r6, r7, r8, r9) := H
    have A67 := Aside0.mk A670
    clear A670
    replace H := Option.bind_eq_some_iff.mp H
    obtain ⟨t160, A680, H⟩ := H
    replace H : ((spec_Min.f a0_7 a1_7).bind fun t161 => ((spec_Max.f t158 t161).bind fun t162 => ((spec_IsReport.f kj4 a0_0 a0_1 t148 t159 t160 t152 t158 t162).bind fun t164 => (if t164 = true then (some (a0_0, a0_1, t148, t159, t160, t152, t158, t162, true)) else (some (0, 0, ([] : List Int), 0, 0, ([] : List Int), 0, 0, false)))))) = some (r1, r2, r3, r4, r5, r6, r7, r8, r9) := H
    have A68 := Aside0.mk A680
    clear A680
    replace H := Option.bind_eq_some_iff.mp H
    obtain ⟨t161, A690, H⟩ := H
    replace H : ((spec_Max.f t158 t161).bind fun t162 => ((spec_IsReport.f kj4 a0_0 a0_1 t148 t159 t160 t152 t158 t162).bind fun t164 => (if t164 = true then (some (a0_0, a0_1, t148, t159, t160, t152, t158, t162, true)) else (some (0, 0, ([] : List Int), 0, 0, ([] : List Int), 0, 0, false))))) = some (r1, r2, r3, r4, r5, r6, r7, r8, r9) := H
    have A69 := Aside0.mk A690
    clear A690
    replace H := Option.bind_eq_some_iff.mp H
    obtain ⟨t162, A700, H⟩ := H
    replace H : ((spec_IsReport.f kj4 a0_0 a0_1 t148 t159 t160 t152 t158 t162).bind fun t164 => (if t164 = true then (some (a0_0, a0_1, t148, t159, t160, t152, t158, t162, true)) else (some (0, 0, ([] : List Int), 0, 0, ([] : List Int), 0, 0, false)))) = some (r1, r2, r3, r4, r5, r6, r7, r8, r9) := H
    have A70 := Aside0.mk A700
    clear A700
    replace H := Option.bind_eq_some_iff.mp H
    obtain ⟨t164, A710, H⟩ := H
    replace H : (if t164 = true then (some (a0_0, a0_1, t148, t159, t160, t152, t158, t162, true)) else (some (0, 0, ([] : List Int), 0, 0, ([] : List Int), 0, 0, false))) = some (r1, r2, r3, r4, r5, r6, r7, r8, r9) := H
    have A71 := Aside0.mk A710
    clear A710
    by_cases c72 : t164 = true
    ·
     subst c72
     have H1 : (some (a0_0, a0_1, t148, t159, t160, t152, t158, t162, true)) = some (r1, r2, r3, r4, r5, r6, r7, r8, r9) := by rw [if_pos rfl] at H; exact H
     clear H
     have H := H1
     clear H1
     simp only [Option.some.injEq, Prod.mk.injEq] at H
     obtain ⟨rfl, rfl, rfl, rfl, rfl, rfl, rfl, rfl, rfl⟩ := H
     have hnb73 := NB145_146.out
     have hnc73 := NB146_145.out
     have hnb74 := NB145_147.out
     have hnc74 := NB147_145.out
     obtain ⟨hcz75_0, hcz75_1, hcz75_2, hcz75_3, hcz75_4, hcz75_5, hcz75_6, hcz75_7⟩ := e27_ BK145.out
     obtain ⟨hfz75_0, hfz75_1, hfz75_2, hfz75_3, hfz75_4, hfz75_5, hfz75_6, hfz75_7⟩ := z28_ BK145.out
     have hnb76 := NB146_147.out
     have hnc76 := NB147_146.out
     obtain ⟨hcz77_0, hcz77_1, hcz77_2, hcz77_3, hcz77_4, hcz77_5, hcz77_6, hcz77_7⟩ := e27_ BK146.out
     obtain ⟨hfz77_0, hfz77_1, hfz77_2, hfz77_3, hfz77_4, hfz77_5, hfz77_6, hfz77_7⟩ := z28_ BK146.out
     try go_wp2_with (first | ((with_reducible refine gate_callee (f := 77) rfl ?_); refine goesL_ (some 58) rfl rfl Try.func77 (by kernel_rfl) rfl #[.int .i64 a0_6, .int .i64 a1_6] rfl ma_ ?_; (with_reducible refine (spec_Max.calls a0_6 a1_6 t158 _ A66.out).mono ?_); rintro e w' ⟨rfl, ⟨nd, rfl⟩⟩; refine ⟨_, rfl, ?_⟩; (try (rw [drewN_self wc]; generalize hq_ : World.drewN wc _ = wc; have n0_ : Aside0 (Kd.R (Kd.int .i64) 3 wc w.heap.size (fun k_ => some k_ ≠ (v154 : Value).ownBlock) v150 t148) := ⟨by rw [← hq_]; exact rd_ HO_6.out⟩; have n1_ : Aside0 (Kd.R (Kd.int .i64) 3 wc w.heap.size (fun k_ => some k_ ≠ (v150 : Value).ownBlock) v154 t152) := ⟨by rw [← hq_]; exact rd_ HO_8.out⟩; have n2_ : Aside0 (wc.heap[gb145]? = some (c26_ a0_0 a0_1 A0_2 l0_2.length c0_2 a0_3 a0_4 A0_5 l0_5.length c0_5 a0_6 a0_7)) := ⟨by rw [← hq_]; exact bd_ BK145.out⟩; have n3_ : Aside0 (wc.heap[gb146]? = some (c26_ a1_0 a1_1 A1_2 l1_2.length c1_2 a1_3 a1_4 A1_5 l1_5.length c1_5 a1_6 a1_7)) := ⟨by rw [← hq_]; exact bd_ BK146.out⟩; have n4_ : Aside0 (wc.heap[gb147]? = some (c26_ 0 0 none 0 0 0 0 none 0 0 0 0)) := ⟨by rw [← hq_]; exact bd_ BK147.out⟩; have n5_ : Aside0 (Below w.heap.size w wc) := ⟨by rw [← hq_]; exact y30_⟩; clear HO_6 HO_8 BK145 BK146 BK147 HB hq_; have HO_6 := n0_; have HO_8 := n1_; have BK145 := n2_; have BK146 := n3_; have BK147 := n4_; have HB := n5_; clear n0_ n1_ n2_ n3_ n4_ n5_))))
     have n0_ := Aside0.mk (Kd.R_drew HO_6.out)
     have n1_ := Aside0.mk (Kd.R_drew HO_8.out)
     have n2_ := Aside0.mk (blk_drew BK145.out)
     have n3_ := Aside0.mk (blk_drew BK146.out)
     have n4_ := Aside0.mk (blk_drew BK147.out)
     have n5_ := Aside0.mk (below_drew1 HB.out)
     clear HO_6
     clear HO_8
     clear BK145
     clear BK146
     clear BK147
     clear HB
     have HO_6 := n0_
     have HO_8 := n1_
     have BK145 := n2_
     have BK146 := n3_
     have BK147 := n4_
     have HB := n5_
     clear n0_ n1_ n2_ n3_ n4_ n5_
     refine start_ (n := 30) (S := fun w' => q1_ w' gb145 a0_0 a0_1 A0_2 l0_2.length c0_2 a0_3 a0_4 A0_5 l0_5.length c0_5 a0_6 a0_7 (q1e_ w' gb146 a1_0 a1_1 A1_2 l1_2.length c1_2 a1_3 a1_4 A1_5 l1_5.length c1_5 a1_6 a1_7)) (ds := []) M0_0 (by kernel_rfl) rfl rfl (k1_ BK145.out (k1e_ BK146.out)) (fun hHeld => ?_); refine with_tabW spec_Sharpen.tab6 spec_Sharpen.bits6 (fun HT_ HW_ => ?_)
     generalize wc.drew = w78 at HO_6 HO_8 BK145 BK146 BK147 HB hHeld ⊢
     refine pu_ 0 (some 59) M0_1 HT_ ?_
     refine pu_ 2 (some 61) M0_2 HT_ ?_
     refine pu_ 4 (some 63) M0_3 HT_ ?_
     refine pu_ 5 (some 64) M0_4 HT_ ?_
     refine pu_ 7 (some 66) M0_5 HT_ ?_
     refine pu_ 10 (some 69) M0_6 HT_ ?_
     refine pu_ 12 (some 71) M0_7 HT_ ?_
     refine pu_ 15 (some 74) M0_8 HT_ ?_
     refine pu_ 16 (some 75) M0_9 HT_ ?_
     refine pu_ 17 (some 76) M0_10 HT_ ?_
     refine pu_ 18 (some 77) M0_11 HT_ ?_
     refine pu_ 19 (some 78) M0_12 HT_ ?_
     refine pu_ 21 (some 80) M0_13 HT_ ?_
     refine pu_ 22 (some 81) M0_14 HT_ ?_
     refine tk_ 1 (some 60) M0_15 HT_ HW_ hHeld ?_
     refine tk_ 3 (some 62) M0_16 HT_ HW_ hHeld ?_
     refine tk_ 6 (some 65) M0_17 HT_ HW_ hHeld ?_
     refine tk_ 8 (some 67) M0_18 HT_ HW_ hHeld ?_
     refine tk_ 11 (some 70) M0_19 HT_ HW_ hHeld ?_
     refine tk_ 13 (some 72) M0_20 HT_ HW_ hHeld ?_
     refine tk_ 20 (some 79) M0_21 HT_ HW_ hHeld ?_
     refine tk_ 23 (some 82) M0_22 HT_ HW_ hHeld ?_
     obtain ⟨Ao79, co79, eo79⟩ := Kd.R_slice HO_8.out
     have EO79 := Aside0.mk eo79
     clear eo79
     obtain ⟨Ao80, co80, eo80⟩ := Kd.R_slice HO_6.out
     have EO80 := Aside0.mk eo80
     clear eo80
     refine join_ (σ := Nat) 1 M0_23 (fun s_ => [(68, .int .i64 t159), (73, .int .i64 t160), (83, .int .i64 t161), (84, .int .i64 t162), (11, .pointer (some ⟨s_, 0, none⟩)), (85, .agg #[.int .i64 t158, .int .i64 t162]), (86, .agg #[.int .i64 a0_0, .int .i64 a0_1, .slice Ao80 t148.length co80, .int .i64 t159, .int .i64 t160, .slice Ao79 t152.length co79, .int .i64 t158, .int .i64 t162])]) (fun s_ w' => (q1_ w' gb145 a0_0 a0_1 A0_2 l0_2.length c0_2 a0_3 a0_4 A0_5 l0_5.length c0_5 a0_6 a0_7 (q1e_ w' gb146 a1_0 a1_1 A1_2 l1_2.length c1_2 a1_3 a1_4 A1_5 l1_5.length c1_5 a1_6 a1_7)) ∧ (Kd.R (Kd.int .i64) 3 w' w.heap.size (fun k_ => some k_ ≠ (.slice Ao79 t152.length co79 : Value).ownBlock) (.slice Ao80 t148.length co80) t148) ∧ (Kd.R (Kd.int .i64) 3 w' w.heap.size (fun k_ => some k_ ≠ (.slice Ao80 t148.length co80 : Value).ownBlock) (.slice Ao79 t152.length co79) t152) ∧ (w'.heap[gb145]? = some (c26_ a0_0 a0_1 A0_2 l0_2.length c0_2 a0_3 a0_4 A0_5 l0_5.length c0_5 a0_6 a0_7)) ∧ (w'.heap[gb146]? = some (c26_ a1_0 a1_1 A1_2 l1_2.length c1_2 a1_3 a1_4 A1_5 l1_5.length c1_5 a1_6 a1_7)) ∧ (w'.heap[gb147]? = some (c26_ 0 0 none 0 0 0 0 none 0 0 0 0)) ∧ (w'.heap[s_]? = some (c26_ 0 0 none 0 0 0 0 none 0 0 0 0)) ∧ (w.heap.size ≤ s_) ∧ (w.heap.size ≤ s_) ∧ (gb145 ≠ s_) ∧ (s_ ≠ gb145) ∧ (gb146 ≠ s_) ∧ (s_ ≠ gb146) ∧ (gb147 ≠ s_) ∧ (s_ ≠ gb147) ∧ (Below w.heap.size w w')) ?_ ?_
     rotate_left
     ·
      intro hJ9_14_24_25_28
      refine join_ (σ := Unit) 2 M0_24 (fun s_ => [(68, .int .i64 t159), (73, .int .i64 t160), (83, .int .i64 t161), (84, .int .i64 t162), (85, .agg #[.int .i64 t158, .int .i64 t162]), (86, .agg #[.int .i64 a0_0, .int .i64 a0_1, .slice Ao80 t148.length co80, .int .i64 t159, .int .i64 t160, .slice Ao79 t152.length co79, .int .i64 t158, .int .i64 t162])]) (fun s_ w' => (q1_ w' gb145 a0_0 a0_1 A0_2 l0_2.length c0_2 a0_3 a0_4 A0_5 l0_5.length c0_5 a0_6 a0_7 (q1e_ w' gb146 a1_0 a1_1 A1_2 l1_2.length c1_2 a1_3 a1_4 A1_5 l1_5.length c1_5 a1_6 a1_7)) ∧ (Kd.R (Kd.int .i64) 3 w' w.heap.size (fun k_ => some k_ ≠ (.slice Ao79 t152.length co79 : Value).ownBlock) (.slice Ao80 t148.length co80) t148) ∧ (Kd.R (Kd.int .i64) 3 w' w.heap.size (fun k_ => some k_ ≠ (.slice Ao80 t148.length co80 : Value).ownBlock) (.slice Ao79 t152.length co79) t152) ∧ (w'.heap[gb145]? = some (c26_ a0_0 a0_1 A0_2 l0_2.length c0_2 a0_3 a0_4 A0_5 l0_5.length c0_5 a0_6 a0_7)) ∧ (w'.heap[gb146]? = some (c26_ a1_0 a1_1 A1_2 l1_2.length c1_2 a1_3 a1_4 A1_5 l1_5.length c1_5 a1_6 a1_7)) ∧ (w'.heap[gb147]? = some (c26_ 0 0 none 0 0 0 0 none 0 0 0 0)) ∧ (Below w.heap.size w w')) ?_ ?_
      rotate_left
      ·
       intro hJ9_14_24_25
       refine join_ (σ := Nat) 4 M0_25 (fun s_ => [(68, .int .i64 t159), (73, .int .i64 t160), (83, .int .i64 t161), (11, .pointer (some ⟨s_, 0, none⟩))]) (fun s_ w' => (q1_ w' gb145 a0_0 a0_1 A0_2 l0_2.length c0_2 a0_3 a0_4 A0_5 l0_5.length c0_5 a0_6 a0_7 (q1e_ w' gb146 a1_0 a1_1 A1_2 l1_2.length c1_2 a1_3 a1_4 A1_5 l1_5.length c1_5 a1_6 a1_7)) ∧ (Kd.R (Kd.int .i64) 3 w' w.heap.size (fun k_ => some k_ ≠ (v154 : Value).ownBlock) v150 t148) ∧ (Kd.R (Kd.int .i64) 3 w' w.heap.size (fun k_ => some k_ ≠ (v150 : Value).ownBlock) v154 t152) ∧ (w'.heap[gb145]? = some (c26_ a0_0 a0_1 A0_2 l0_2.length c0_2 a0_3 a0_4 A0_5 l0_5.length c0_5 a0_6 a0_7)) ∧ (w'.heap[gb146]? = some (c26_ a1_0 a1_1 A1_2 l1_2.length c1_2 a1_3 a1_4 A1_5 l1_5.length c1_5 a1_6 a1_7)) ∧ (w'.heap[gb147]? = some (c26_ 0 0 none 0 0 0 0 none 0 0 0 0)) ∧ (w'.heap[s_]? = some (c26_ 0 0 none 0 0 0 0 none 0 0 0 0)) ∧ (w.heap.size ≤ s_) ∧ (w.heap.size ≤ s_) ∧ (gb145 ≠ s_) ∧ (s_ ≠ gb145) ∧ (gb146 ≠ s_) ∧ (s_ ≠ gb146) ∧ (gb147 ≠ s_) ∧ (s_ ≠ gb147) ∧ (Below w.heap.size w w')) ?_ ?_
       rotate_left
       ·
        intro hJ9_14_24_28
        refine join_ (σ := Unit) 5 M0_26 (fun s_ => [(68, .int .i64 t159), (73, .int .i64 t160), (83, .int .i64 t161)]) (fun s_ w' => (q1_ w' gb145 a0_0 a0_1 A0_2 l0_2.length c0_2 a0_3 a0_4 A0_5 l0_5.length c0_5 a0_6 a0_7 (q1e_ w' gb146 a1_0 a1_1 A1_2 l1_2.length c1_2 a1_3 a1_4 A1_5 l1_5.length c1_5 a1_6 a1_7)) ∧ (Kd.R (Kd.int .i64) 3 w' w.heap.size (fun k_ => some k_ ≠ (v154 : Value).ownBlock) v150 t148) ∧ (Kd.R (Kd.int .i64) 3 w' w.heap.size (fun k_ => some k_ ≠ (v150 : Value).ownBlock) v154 t152) ∧ (w'.heap[gb145]? = some (c26_ a0_0 a0_1 A0_2 l0_2.length c0_2 a0_3 a0_4 A0_5 l0_5.length c0_5 a0_6 a0_7)) ∧ (w'.heap[gb146]? = some (c26_ a1_0 a1_1 A1_2 l1_2.length c1_2 a1_3 a1_4 A1_5 l1_5.length c1_5 a1_6 a1_7)) ∧ (w'.heap[gb147]? = some (c26_ 0 0 none 0 0 0 0 none 0 0 0 0)) ∧ (Below w.heap.size w w')) ?_ ?_
        rotate_left
        ·
         intro hJ9_14_24
         refine join_ (σ := Nat) 5 M0_27 (fun s_ => [(68, .int .i64 t159), (73, .int .i64 t160), (11, .pointer (some ⟨s_, 0, none⟩))]) (fun s_ w' => (q1_ w' gb145 a0_0 a0_1 A0_2 l0_2.length c0_2 a0_3 a0_4 A0_5 l0_5.length c0_5 a0_6 a0_7 (q1e_ w' gb146 a1_0 a1_1 A1_2 l1_2.length c1_2 a1_3 a1_4 A1_5 l1_5.length c1_5 a1_6 a1_7)) ∧ (Kd.R (Kd.int .i64) 3 w' w.heap.size (fun k_ => some k_ ≠ (v154 : Value).ownBlock) v150 t148) ∧ (Kd.R (Kd.int .i64) 3 w' w.heap.size (fun k_ => some k_ ≠ (v150 : Value).ownBlock) v154 t152) ∧ (w'.heap[gb145]? = some (c26_ a0_0 a0_1 A0_2 l0_2.length c0_2 a0_3 a0_4 A0_5 l0_5.length c0_5 a0_6 a0_7)) ∧ (w'.heap[gb146]? = some (c26_ a1_0 a1_1 A1_2 l1_2.length c1_2 a1_3 a1_4 A1_5 l1_5.length c1_5 a1_6 a1_7)) ∧ (w'.heap[gb147]? = some (c26_ 0 0 none 0 0 0 0 none 0 0 0 0)) ∧ (w'.heap[s_]? = some (c26_ 0 0 none 0 0 0 0 none 0 0 0 0)) ∧ (w.heap.size ≤ s_) ∧ (w.heap.size ≤ s_) ∧ (gb145 ≠ s_) ∧ (s_ ≠ gb145) ∧ (gb146 ≠ s_) ∧ (s_ ≠ gb146) ∧ (gb147 ≠ s_) ∧ (s_ ≠ gb147) ∧ (Below w.heap.size w w')) ?_ ?_
         rotate_left
         ·
          intro hJ9_14_28
          refine join_ (σ := Unit) 6 M0_28 (fun s_ => [(68, .int .i64 t159), (73, .int .i64 t160)]) (fun s_ w' => (q1_ w' gb145 a0_0 a0_1 A0_2 l0_2.length c0_2 a0_3 a0_4 A0_5 l0_5.length c0_5 a0_6 a0_7 (q1e_ w' gb146 a1_0 a1_1 A1_2 l1_2.length c1_2 a1_3 a1_4 A1_5 l1_5.length c1_5 a1_6 a1_7)) ∧ (Kd.R (Kd.int .i64) 3 w' w.heap.size (fun k_ => some k_ ≠ (v154 : Value).ownBlock) v150 t148) ∧ (Kd.R (Kd.int .i64) 3 w' w.heap.size (fun k_ => some k_ ≠ (v150 : Value).ownBlock) v154 t152) ∧ (w'.heap[gb145]? = some (c26_ a0_0 a0_1 A0_2 l0_2.length c0_2 a0_3 a0_4 A0_5 l0_5.length c0_5 a0_6 a0_7)) ∧ (w'.heap[gb146]? = some (c26_ a1_0 a1_1 A1_2 l1_2.length c1_2 a1_3 a1_4 A1_5 l1_5.length c1_5 a1_6 a1_7)) ∧ (w'.heap[gb147]? = some (c26_ 0 0 none 0 0 0 0 none 0 0 0 0)) ∧ (Below w.heap.size w w')) ?_ ?_
          rotate_left
          ·
           intro hJ9_14
           refine join_ (σ := Nat) 6 M0_29 (fun s_ => [(68, .int .i64 t159), (11, .pointer (some ⟨s_, 0, none⟩))]) (fun s_ w' => (q1_ w' gb145 a0_0 a0_1 A0_2 l0_2.length c0_2 a0_3 a0_4 A0_5 l0_5.length c0_5 a0_6 a0_7 (q1e_ w' gb146 a1_0 a1_1 A1_2 l1_2.length c1_2 a1_3 a1_4 A1_5 l1_5.length c1_5 a1_6 a1_7)) ∧ (Kd.R (Kd.int .i64) 3 w' w.heap.size (fun k_ => some k_ ≠ (v154 : Value).ownBlock) v150 t148) ∧ (Kd.R (Kd.int .i64) 3 w' w.heap.size (fun k_ => some k_ ≠ (v150 : Value).ownBlock) v154 t152) ∧ (w'.heap[gb145]? = some (c26_ a0_0 a0_1 A0_2 l0_2.length c0_2 a0_3 a0_4 A0_5 l0_5.length c0_5 a0_6 a0_7)) ∧ (w'.heap[gb146]? = some (c26_ a1_0 a1_1 A1_2 l1_2.length c1_2 a1_3 a1_4 A1_5 l1_5.length c1_5 a1_6 a1_7)) ∧ (w'.heap[gb147]? = some (c26_ 0 0 none 0 0 0 0 none 0 0 0 0)) ∧ (w'.heap[s_]? = some (c26_ 0 0 none 0 0 0 0 none 0 0 0 0)) ∧ (w.heap.size ≤ s_) ∧ (w.heap.size ≤ s_) ∧ (gb145 ≠ s_) ∧ (s_ ≠ gb145) ∧ (gb146 ≠ s_) ∧ (s_ ≠ gb146) ∧ (gb147 ≠ s_) ∧ (s_ ≠ gb147) ∧ (Below w.heap.size w w')) ?_ ?_
           rotate_left
           ·
            intro hJ9_28
            refine join_ (σ := Unit) 7 M0_30 (fun s_ => [(68, .int .i64 t159)]) (fun s_ w' => (q1_ w' gb145 a0_0 a0_1 A0_2 l0_2.length c0_2 a0_3 a0_4 A0_5 l0_5.length c0_5 a0_6 a0_7 (q1e_ w' gb146 a1_0 a1_1 A1_2 l1_2.length c1_2 a1_3 a1_4 A1_5 l1_5.length c1_5 a1_6 a1_7)) ∧ (Kd.R (Kd.int .i64) 3 w' w.heap.size (fun k_ => some k_ ≠ (v154 : Value).ownBlock) v150 t148) ∧ (Kd.R (Kd.int .i64) 3 w' w.heap.size (fun k_ => some k_ ≠ (v150 : Value).ownBlock) v154 t152) ∧ (w'.heap[gb145]? = some (c26_ a0_0 a0_1 A0_2 l0_2.length c0_2 a0_3 a0_4 A0_5 l0_5.length c0_5 a0_6 a0_7)) ∧ (w'.heap[gb146]? = some (c26_ a1_0 a1_1 A1_2 l1_2.length c1_2 a1_3 a1_4 A1_5 l1_5.length c1_5 a1_6 a1_7)) ∧ (w'.heap[gb147]? = some (c26_ 0 0 none 0 0 0 0 none 0 0 0 0)) ∧ (Below w.heap.size w w')) ?_ ?_
            rotate_left
            ·
             intro hJ9
             refine join_ (σ := Nat) 7 M0_31 (fun s_ => [(11, .pointer (some ⟨s_, 0, none⟩))]) (fun s_ w' => (q1_ w' gb145 a0_0 a0_1 A0_2 l0_2.length c0_2 a0_3 a0_4 A0_5 l0_5.length c0_5 a0_6 a0_7 (q1e_ w' gb146 a1_0 a1_1 A1_2 l1_2.length c1_2 a1_3 a1_4 A1_5 l1_5.length c1_5 a1_6 a1_7)) ∧ (Kd.R (Kd.int .i64) 3 w' w.heap.size (fun k_ => some k_ ≠ (v154 : Value).ownBlock) v150 t148) ∧ (Kd.R (Kd.int .i64) 3 w' w.heap.size (fun k_ => some k_ ≠ (v150 : Value).ownBlock) v154 t152) ∧ (w'.heap[gb145]? = some (c26_ a0_0 a0_1 A0_2 l0_2.length c0_2 a0_3 a0_4 A0_5 l0_5.length c0_5 a0_6 a0_7)) ∧ (w'.heap[gb146]? = some (c26_ a1_0 a1_1 A1_2 l1_2.length c1_2 a1_3 a1_4 A1_5 l1_5.length c1_5 a1_6 a1_7)) ∧ (w'.heap[gb147]? = some (c26_ 0 0 none 0 0 0 0 none 0 0 0 0)) ∧ (w'.heap[s_]? = some (c26_ 0 0 none 0 0 0 0 none 0 0 0 0)) ∧ (w.heap.size ≤ s_) ∧ (w.heap.size ≤ s_) ∧ (gb145 ≠ s_) ∧ (s_ ≠ gb145) ∧ (gb146 ≠ s_) ∧ (s_ ≠ gb146) ∧ (gb147 ≠ s_) ∧ (s_ ≠ gb147) ∧ (Below w.heap.size w w')) ?_ ?_
             rotate_left
             ·
              intro hJ28
              refine two_ (i := 9) (j := 28) (Ni := some 68) (Nj := some 11) M0_30 M0_31 rfl rfl rfl rfl (two_of HT_.out (by kernel_rfl)) (by decide) (by decide) (fun K hK => ?_) (fun K hK => ?_)
              ·
               skip
               refine goes_ Try.func77 (by kernel_rfl) rfl #[.int .i64 a0_3, .int .i64 a1_3] (by rfl) rfl rfl ma_ ?_
               with_reducible refine (spec_Max.calls a0_3 a1_3 t159 _ A67.out).mono ?_
               rintro e w' ⟨rfl, ⟨nd, rfl⟩⟩
               refine ⟨_, rfl, ?_⟩
               refine hK.out _ _ (k1_ BK145.out (k1e_ BK146.out)) (fun hHeld => ?_)
               clear hK K
               refine norm_ (a' := ?_) ?_ ?_
               rotate_left
               ·
                show Act.put _ (some 68) _ = _
                simp only [Act.put, P0_1, P0_2, P0_3, i64_w, i32_w]
                rfl
               exact norm_ y34_ (hJ9 () _ ⟨hHeld, rd_ HO_6.out, rd_ HO_8.out, bd_ BK145.out, bd_ BK146.out, bd_ BK147.out, y30_⟩)
              ·
               skip
               refine box_step ?hg (N := 11) ?hd (cs := #[.int .i64 0, .int .i64 0, .slice none 0 0, .int .i64 0, .int .i64 0, .slice none 0 0, .int .i64 0, .int .i64 0]) (t := 41) ?hr ?_; (case hd => rfl); (case hg => rfl); (case hr => first | (go_simp; done) | (go_simp; rfl))
               intro gb163 hg w79 hbox hb
               have n0_ := Aside0.mk (Kd.R_below (rd_ HO_6.out) hb)
               have n1_ := Aside0.mk (Kd.R_below (rd_ HO_8.out) hb)
               have n2_ := Aside0.mk (blk_below (bd_ BK145.out) hb)
               have n3_ := Aside0.mk (blk_below (bd_ BK146.out) hb)
               have n4_ := Aside0.mk (blk_below (bd_ BK147.out) hb)
               have n5_ := Aside0.mk (below_step y30_ hb)
               have BK163 := Aside0.mk (hbox)
               have GW163 := Aside0.mk ((y57_ : w.heap.size ≤ gb163))
               have GE163 := Aside0.mk ((y57_ : w.heap.size ≤ gb163))
               have NB145_163 := Aside0.mk ((y41_ : gb145 ≠ gb163))
               have NB163_145 := Aside0.mk ((y42_ : gb163 ≠ gb145))
               have NB146_163 := Aside0.mk ((y43_ : gb146 ≠ gb163))
               have NB163_146 := Aside0.mk ((y44_ : gb163 ≠ gb146))
               have NB147_163 := Aside0.mk ((y50_ : gb147 ≠ gb163))
               have NB163_147 := Aside0.mk ((y51_ : gb163 ≠ gb147))
               clear HO_6
               clear HO_8
               clear BK145
               clear BK146
               clear BK147
               clear HB
               have HO_6 := n0_
               have HO_8 := n1_
               have BK145 := n2_
               have BK146 := n3_
               have BK147 := n4_
               have HB := n5_
               clear n0_ n1_ n2_ n3_ n4_ n5_
               clear hb hbox hg
               refine hK.out _ _ (k1_ BK145.out (k1e_ BK146.out)) (fun hHeld => ?_)
               clear hK K
               refine norm_ (a' := ?_) ?_ ?_
               rotate_left
               ·
                show Act.put _ (some 11) _ = _
                simp only [Act.put, P0_1, P0_2, P0_3, i64_w, i32_w]
                rfl
               exact norm_ y34_ (hJ28 (gb163) _ ⟨hHeld, rd_ HO_6.out, rd_ HO_8.out, bd_ BK145.out, bd_ BK146.out, bd_ BK147.out, bd_ BK163.out, GW163.out, GE163.out, NB145_163.out, NB163_145.out, NB146_163.out, NB163_146.out, NB147_163.out, NB163_147.out, y35_⟩)
             ·
              skip
              rintro gb163 w80 ⟨hS_, h0_, h1_, h2_, h3_, h4_, h5_, h6_, h7_, h8_, h9_, h10_, h11_, h12_, h13_, h14_⟩
              have n0_ : Aside0 (Kd.R (Kd.int .i64) 3 w80 w.heap.size (fun k_ => some k_ ≠ (v154 : Value).ownBlock) v150 t148) := ⟨h0_⟩
              have n1_ : Aside0 (Kd.R (Kd.int .i64) 3 w80 w.heap.size (fun k_ => some k_ ≠ (v150 : Value).ownBlock) v154 t152) := ⟨h1_⟩
              have n2_ : Aside0 (w80.heap[gb145]? = some (c26_ a0_0 a0_1 A0_2 l0_2.length c0_2 a0_3 a0_4 A0_5 l0_5.length c0_5 a0_6 a0_7)) := ⟨h2_⟩
              have n3_ : Aside0 (w80.heap[gb146]? = some (c26_ a1_0 a1_1 A1_2 l1_2.length c1_2 a1_3 a1_4 A1_5 l1_5.length c1_5 a1_6 a1_7)) := ⟨h3_⟩
              have n4_ : Aside0 (w80.heap[gb147]? = some (c26_ 0 0 none 0 0 0 0 none 0 0 0 0)) := ⟨h4_⟩
              have BK163 : Aside0 (w80.heap[gb163]? = some (c26_ 0 0 none 0 0 0 0 none 0 0 0 0)) := ⟨h5_⟩
              have GW163 : Aside0 (w.heap.size ≤ gb163) := ⟨h6_⟩
              have GE163 : Aside0 (w.heap.size ≤ gb163) := ⟨h7_⟩
              have NB145_163 : Aside0 (gb145 ≠ gb163) := ⟨h8_⟩
              have NB163_145 : Aside0 (gb163 ≠ gb145) := ⟨h9_⟩
              have NB146_163 : Aside0 (gb146 ≠ gb163) := ⟨h10_⟩
              have NB163_146 : Aside0 (gb163 ≠ gb146) := ⟨h11_⟩
              have NB147_163 : Aside0 (gb147 ≠ gb163) := ⟨h12_⟩
              have NB163_147 : Aside0 (gb163 ≠ gb147) := ⟨h13_⟩
              have n14_ : Aside0 (Below w.heap.size w w80) := ⟨h14_⟩
              clear HO_6
              clear HO_8
              clear BK145
              clear BK146
              clear BK147
              clear HB
              clear h0_ h1_ h2_ h3_ h4_ h5_ h6_ h7_ h8_ h9_ h10_ h11_ h12_ h13_ h14_
              have HO_6 := n0_
              have HO_8 := n1_
              have BK145 := n2_
              have BK146 := n3_
              have BK147 := n4_
              have HB := n14_
              clear n0_ n1_ n2_ n3_ n4_ n14_
              have hHeld : q1_ w80 gb145 a0_0 a0_1 A0_2 l0_2.length c0_2 a0_3 a0_4 A0_5 l0_5.length c0_5 a0_6 a0_7 (q1e_ w80 gb146 a1_0 a1_1 A1_2 l1_2.length c1_2 a1_3 a1_4 A1_5 l1_5.length c1_5 a1_6 a1_7) := hS_
              refine norm_ (a' := ?_) ?_ ?_
              rotate_left
              ·
               simp only [putAll, Act.put, List.setIfInBounds_toArray, List.set_cons_zero, List.set_cons_succ]
               rfl
              refine one_ (i := 9) (N := some 68) M0_29 rfl rfl (one_of HT_.out (by kernel_rfl)) (by decide) (fun K hK => ?_)
              refine goes_ Try.func77 (by kernel_rfl) rfl #[.int .i64 a0_3, .int .i64 a1_3] (by rfl) rfl rfl ma_ ?_
              with_reducible refine (spec_Max.calls a0_3 a1_3 t159 _ A67.out).mono ?_
              rintro e w' ⟨rfl, ⟨nd, rfl⟩⟩
              refine ⟨_, rfl, ?_⟩
              refine hK.out _ _ (k1_ BK145.out (k1e_ BK146.out)) (fun hHeld => ?_)
              clear hK K
              refine norm_ (a' := ?_) ?_ ?_
              rotate_left
              ·
               show Act.put _ (some 68) _ = _
               simp only [Act.put, P0_1, P0_2, P0_3, i64_w, i32_w]
               rfl
              exact norm_ y34_ (hJ9_28 (gb163) _ ⟨hHeld, rd_ HO_6.out, rd_ HO_8.out, bd_ BK145.out, bd_ BK146.out, bd_ BK147.out, bd_ BK163.out, GW163.out, GE163.out, NB145_163.out, NB163_145.out, NB146_163.out, NB163_146.out, NB147_163.out, NB163_147.out, y35_⟩)
            ·
             skip
             rintro _ w79 ⟨hS_, h0_, h1_, h2_, h3_, h4_, h5_⟩
             have n0_ : Aside0 (Kd.R (Kd.int .i64) 3 w79 w.heap.size (fun k_ => some k_ ≠ (v154 : Value).ownBlock) v150 t148) := ⟨h0_⟩
             have n1_ : Aside0 (Kd.R (Kd.int .i64) 3 w79 w.heap.size (fun k_ => some k_ ≠ (v150 : Value).ownBlock) v154 t152) := ⟨h1_⟩
             have n2_ : Aside0 (w79.heap[gb145]? = some (c26_ a0_0 a0_1 A0_2 l0_2.length c0_2 a0_3 a0_4 A0_5 l0_5.length c0_5 a0_6 a0_7)) := ⟨h2_⟩
             have n3_ : Aside0 (w79.heap[gb146]? = some (c26_ a1_0 a1_1 A1_2 l1_2.length c1_2 a1_3 a1_4 A1_5 l1_5.length c1_5 a1_6 a1_7)) := ⟨h3_⟩
             have n4_ : Aside0 (w79.heap[gb147]? = some (c26_ 0 0 none 0 0 0 0 none 0 0 0 0)) := ⟨h4_⟩
             have n5_ : Aside0 (Below w.heap.size w w79) := ⟨h5_⟩
             clear HO_6
             clear HO_8
             clear BK145
             clear BK146
             clear BK147
             clear HB
             clear h0_ h1_ h2_ h3_ h4_ h5_
             have HO_6 := n0_
             have HO_8 := n1_
             have BK145 := n2_
             have BK146 := n3_
             have BK147 := n4_
             have HB := n5_
             clear n0_ n1_ n2_ n3_ n4_ n5_
             have hHeld : q1_ w79 gb145 a0_0 a0_1 A0_2 l0_2.length c0_2 a0_3 a0_4 A0_5 l0_5.length c0_5 a0_6 a0_7 (q1e_ w79 gb146 a1_0 a1_1 A1_2 l1_2.length c1_2 a1_3 a1_4 A1_5 l1_5.length c1_5 a1_6 a1_7) := hS_
             refine norm_ (a' := ?_) ?_ ?_
             rotate_left
             ·
              simp only [putAll, Act.put, List.setIfInBounds_toArray, List.set_cons_zero, List.set_cons_succ]
              rfl
             refine two_ (i := 14) (j := 28) (Ni := some 73) (Nj := some 11) M0_28 M0_29 rfl rfl rfl rfl (two_of HT_.out (by kernel_rfl)) (by decide) (by decide) (fun K hK => ?_) (fun K hK => ?_)
             ·
              skip
              refine goes_ Try.func78 (by kernel_rfl) rfl #[.int .i64 a0_4, .int .i64 a1_4] (by rfl) rfl rfl ma_ ?_
              with_reducible refine (spec_Min.calls a0_4 a1_4 t160 _ A68.out).mono ?_
              rintro e w' ⟨rfl, ⟨nd, rfl⟩⟩
              refine ⟨_, rfl, ?_⟩
              refine hK.out _ _ (k1_ BK145.out (k1e_ BK146.out)) (fun hHeld => ?_)
              clear hK K
              refine norm_ (a' := ?_) ?_ ?_
              rotate_left
              ·
               show Act.put _ (some 73) _ = _
               simp only [Act.put, P0_1, P0_2, P0_3, i64_w, i32_w]
               rfl
              exact norm_ y34_ (hJ9_14 () _ ⟨hHeld, rd_ HO_6.out, rd_ HO_8.out, bd_ BK145.out, bd_ BK146.out, bd_ BK147.out, y30_⟩)
             ·
              skip
              refine box_step ?hg (N := 11) ?hd (cs := #[.int .i64 0, .int .i64 0, .slice none 0 0, .int .i64 0, .int .i64 0, .slice none 0 0, .int .i64 0, .int .i64 0]) (t := 41) ?hr ?_; (case hd => rfl); (case hg => rfl); (case hr => first | (go_simp; done) | (go_simp; rfl))
              intro gb163 hg w80 hbox hb
              have n0_ := Aside0.mk (Kd.R_below (rd_ HO_6.out) hb)
              have n1_ := Aside0.mk (Kd.R_below (rd_ HO_8.out) hb)
              have n2_ := Aside0.mk (blk_below (bd_ BK145.out) hb)
              have n3_ := Aside0.mk (blk_below (bd_ BK146.out) hb)
              have n4_ := Aside0.mk (blk_below (bd_ BK147.out) hb)
              have n5_ := Aside0.mk (below_step y30_ hb)
              have BK163 := Aside0.mk (hbox)
              have GW163 := Aside0.mk ((y57_ : w.heap.size ≤ gb163))
              have GE163 := Aside0.mk ((y57_ : w.heap.size ≤ gb163))
              have NB145_163 := Aside0.mk ((y41_ : gb145 ≠ gb163))
              have NB163_145 := Aside0.mk ((y42_ : gb163 ≠ gb145))
              have NB146_163 := Aside0.mk ((y43_ : gb146 ≠ gb163))
              have NB163_146 := Aside0.mk ((y44_ : gb163 ≠ gb146))
              have NB147_163 := Aside0.mk ((y50_ : gb147 ≠ gb163))
              have NB163_147 := Aside0.mk ((y51_ : gb163 ≠ gb147))
              clear HO_6
              clear HO_8
              clear BK145
              clear BK146
              clear BK147
              clear HB
              have HO_6 := n0_
              have HO_8 := n1_
              have BK145 := n2_
              have BK146 := n3_
              have BK147 := n4_
              have HB := n5_
              clear n0_ n1_ n2_ n3_ n4_ n5_
              clear hb hbox hg
              refine hK.out _ _ (k1_ BK145.out (k1e_ BK146.out)) (fun hHeld => ?_)
              clear hK K
              refine norm_ (a' := ?_) ?_ ?_
              rotate_left
              ·
               show Act.put _ (some 11) _ = _
               simp only [Act.put, P0_1, P0_2, P0_3, i64_w, i32_w]
               rfl
              exact norm_ y34_ (hJ9_28 (gb163) _ ⟨hHeld, rd_ HO_6.out, rd_ HO_8.out, bd_ BK145.out, bd_ BK146.out, bd_ BK147.out, bd_ BK163.out, GW163.out, GE163.out, NB145_163.out, NB163_145.out, NB146_163.out, NB163_146.out, NB147_163.out, NB163_147.out, y35_⟩)
           ·
            skip
            rintro gb163 w80 ⟨hS_, h0_, h1_, h2_, h3_, h4_, h5_, h6_, h7_, h8_, h9_, h10_, h11_, h12_, h13_, h14_⟩
            have n0_ : Aside0 (Kd.R (Kd.int .i64) 3 w80 w.heap.size (fun k_ => some k_ ≠ (v154 : Value).ownBlock) v150 t148) := ⟨h0_⟩
            have n1_ : Aside0 (Kd.R (Kd.int .i64) 3 w80 w.heap.size (fun k_ => some k_ ≠ (v150 : Value).ownBlock) v154 t152) := ⟨h1_⟩
            have n2_ : Aside0 (w80.heap[gb145]? = some (c26_ a0_0 a0_1 A0_2 l0_2.length c0_2 a0_3 a0_4 A0_5 l0_5.length c0_5 a0_6 a0_7)) := ⟨h2_⟩
            have n3_ : Aside0 (w80.heap[gb146]? = some (c26_ a1_0 a1_1 A1_2 l1_2.length c1_2 a1_3 a1_4 A1_5 l1_5.length c1_5 a1_6 a1_7)) := ⟨h3_⟩
            have n4_ : Aside0 (w80.heap[gb147]? = some (c26_ 0 0 none 0 0 0 0 none 0 0 0 0)) := ⟨h4_⟩
            have BK163 : Aside0 (w80.heap[gb163]? = some (c26_ 0 0 none 0 0 0 0 none 0 0 0 0)) := ⟨h5_⟩
            have GW163 : Aside0 (w.heap.size ≤ gb163) := ⟨h6_⟩
            have GE163 : Aside0 (w.heap.size ≤ gb163) := ⟨h7_⟩
            have NB145_163 : Aside0 (gb145 ≠ gb163) := ⟨h8_⟩
            have NB163_145 : Aside0 (gb163 ≠ gb145) := ⟨h9_⟩
            have NB146_163 : Aside0 (gb146 ≠ gb163) := ⟨h10_⟩
            have NB163_146 : Aside0 (gb163 ≠ gb146) := ⟨h11_⟩
            have NB147_163 : Aside0 (gb147 ≠ gb163) := ⟨h12_⟩
            have NB163_147 : Aside0 (gb163 ≠ gb147) := ⟨h13_⟩
            have n14_ : Aside0 (Below w.heap.size w w80) := ⟨h14_⟩
            clear HO_6
            clear HO_8
            clear BK145
            clear BK146
            clear BK147
            clear HB
            clear h0_ h1_ h2_ h3_ h4_ h5_ h6_ h7_ h8_ h9_ h10_ h11_ h12_ h13_ h14_
            have HO_6 := n0_
            have HO_8 := n1_
            have BK145 := n2_
            have BK146 := n3_
            have BK147 := n4_
            have HB := n14_
            clear n0_ n1_ n2_ n3_ n4_ n14_
            have hHeld : q1_ w80 gb145 a0_0 a0_1 A0_2 l0_2.length c0_2 a0_3 a0_4 A0_5 l0_5.length c0_5 a0_6 a0_7 (q1e_ w80 gb146 a1_0 a1_1 A1_2 l1_2.length c1_2 a1_3 a1_4 A1_5 l1_5.length c1_5 a1_6 a1_7) := hS_
            refine norm_ (a' := ?_) ?_ ?_
            rotate_left
            ·
             simp only [putAll, Act.put, List.setIfInBounds_toArray, List.set_cons_zero, List.set_cons_succ]
             rfl
            refine one_ (i := 14) (N := some 73) M0_27 rfl rfl (one_of HT_.out (by kernel_rfl)) (by decide) (fun K hK => ?_)
            refine goes_ Try.func78 (by kernel_rfl) rfl #[.int .i64 a0_4, .int .i64 a1_4] (by rfl) rfl rfl ma_ ?_
            with_reducible refine (spec_Min.calls a0_4 a1_4 t160 _ A68.out).mono ?_
            rintro e w' ⟨rfl, ⟨nd, rfl⟩⟩
            refine ⟨_, rfl, ?_⟩
            refine hK.out _ _ (k1_ BK145.out (k1e_ BK146.out)) (fun hHeld => ?_)
            clear hK K
            refine norm_ (a' := ?_) ?_ ?_
            rotate_left
            ·
             show Act.put _ (some 73) _ = _
             simp only [Act.put, P0_1, P0_2, P0_3, i64_w, i32_w]
             rfl
            exact norm_ y34_ (hJ9_14_28 (gb163) _ ⟨hHeld, rd_ HO_6.out, rd_ HO_8.out, bd_ BK145.out, bd_ BK146.out, bd_ BK147.out, bd_ BK163.out, GW163.out, GE163.out, NB145_163.out, NB163_145.out, NB146_163.out, NB163_146.out, NB147_163.out, NB163_147.out, y35_⟩)
          ·
           skip
           rintro _ w79 ⟨hS_, h0_, h1_, h2_, h3_, h4_, h5_⟩
           have n0_ : Aside0 (Kd.R (Kd.int .i64) 3 w79 w.heap.size (fun k_ => some k_ ≠ (v154 : Value).ownBlock) v150 t148) := ⟨h0_⟩
           have n1_ : Aside0 (Kd.R (Kd.int .i64) 3 w79 w.heap.size (fun k_ => some k_ ≠ (v150 : Value).ownBlock) v154 t152) := ⟨h1_⟩
           have n2_ : Aside0 (w79.heap[gb145]? = some (c26_ a0_0 a0_1 A0_2 l0_2.length c0_2 a0_3 a0_4 A0_5 l0_5.length c0_5 a0_6 a0_7)) := ⟨h2_⟩
           have n3_ : Aside0 (w79.heap[gb146]? = some (c26_ a1_0 a1_1 A1_2 l1_2.length c1_2 a1_3 a1_4 A1_5 l1_5.length c1_5 a1_6 a1_7)) := ⟨h3_⟩
           have n4_ : Aside0 (w79.heap[gb147]? = some (c26_ 0 0 none 0 0 0 0 none 0 0 0 0)) := ⟨h4_⟩
           have n5_ : Aside0 (Below w.heap.size w w79) := ⟨h5_⟩
           clear HO_6
           clear HO_8
           clear BK145
           clear BK146
           clear BK147
           clear HB
           clear h0_ h1_ h2_ h3_ h4_ h5_
           have HO_6 := n0_
           have HO_8 := n1_
           have BK145 := n2_
           have BK146 := n3_
           have BK147 := n4_
           have HB := n5_
           clear n0_ n1_ n2_ n3_ n4_ n5_
           have hHeld : q1_ w79 gb145 a0_0 a0_1 A0_2 l0_2.length c0_2 a0_3 a0_4 A0_5 l0_5.length c0_5 a0_6 a0_7 (q1e_ w79 gb146 a1_0 a1_1 A1_2 l1_2.length c1_2 a1_3 a1_4 A1_5 l1_5.length c1_5 a1_6 a1_7) := hS_
           refine norm_ (a' := ?_) ?_ ?_
           rotate_left
           ·
            simp only [putAll, Act.put, List.setIfInBounds_toArray, List.set_cons_zero, List.set_cons_succ]
            rfl
           refine two_ (i := 24) (j := 28) (Ni := some 83) (Nj := some 11) M0_26 M0_27 rfl rfl rfl rfl (two_of HT_.out (by kernel_rfl)) (by decide) (by decide) (fun K hK => ?_) (fun K hK => ?_)
           ·
            skip
            refine goes_ Try.func78 (by kernel_rfl) rfl #[.int .i64 a0_7, .int .i64 a1_7] (by rfl) rfl rfl ma_ ?_
            with_reducible refine (spec_Min.calls a0_7 a1_7 t161 _ A69.out).mono ?_
            rintro e w' ⟨rfl, ⟨nd, rfl⟩⟩
            refine ⟨_, rfl, ?_⟩
            refine hK.out _ _ (k1_ BK145.out (k1e_ BK146.out)) (fun hHeld => ?_)
            clear hK K
            refine norm_ (a' := ?_) ?_ ?_
            rotate_left
            ·
             show Act.put _ (some 83) _ = _
             simp only [Act.put, P0_1, P0_2, P0_3, i64_w, i32_w]
             rfl
            exact norm_ y34_ (hJ9_14_24 () _ ⟨hHeld, rd_ HO_6.out, rd_ HO_8.out, bd_ BK145.out, bd_ BK146.out, bd_ BK147.out, y30_⟩)
           ·
            skip
            refine box_step ?hg (N := 11) ?hd (cs := #[.int .i64 0, .int .i64 0, .slice none 0 0, .int .i64 0, .int .i64 0, .slice none 0 0, .int .i64 0, .int .i64 0]) (t := 41) ?hr ?_; (case hd => rfl); (case hg => rfl); (case hr => first | (go_simp; done) | (go_simp; rfl))
            intro gb163 hg w80 hbox hb
            have n0_ := Aside0.mk (Kd.R_below (rd_ HO_6.out) hb)
            have n1_ := Aside0.mk (Kd.R_below (rd_ HO_8.out) hb)
            have n2_ := Aside0.mk (blk_below (bd_ BK145.out) hb)
            have n3_ := Aside0.mk (blk_below (bd_ BK146.out) hb)
            have n4_ := Aside0.mk (blk_below (bd_ BK147.out) hb)
            have n5_ := Aside0.mk (below_step y30_ hb)
            have BK163 := Aside0.mk (hbox)
            have GW163 := Aside0.mk ((y57_ : w.heap.size ≤ gb163))
            have GE163 := Aside0.mk ((y57_ : w.heap.size ≤ gb163))
            have NB145_163 := Aside0.mk ((y41_ : gb145 ≠ gb163))
            have NB163_145 := Aside0.mk ((y42_ : gb163 ≠ gb145))
            have NB146_163 := Aside0.mk ((y43_ : gb146 ≠ gb163))
            have NB163_146 := Aside0.mk ((y44_ : gb163 ≠ gb146))
            have NB147_163 := Aside0.mk ((y50_ : gb147 ≠ gb163))
            have NB163_147 := Aside0.mk ((y51_ : gb163 ≠ gb147))
            clear HO_6
            clear HO_8
            clear BK145
            clear BK146
            clear BK147
            clear HB
            have HO_6 := n0_
            have HO_8 := n1_
            have BK145 := n2_
            have BK146 := n3_
            have BK147 := n4_
            have HB := n5_
            clear n0_ n1_ n2_ n3_ n4_ n5_
            clear hb hbox hg
            refine hK.out _ _ (k1_ BK145.out (k1e_ BK146.out)) (fun hHeld => ?_)
            clear hK K
            refine norm_ (a' := ?_) ?_ ?_
            rotate_left
            ·
             show Act.put _ (some 11) _ = _
             simp only [Act.put, P0_1, P0_2, P0_3, i64_w, i32_w]
             rfl
            exact norm_ y34_ (hJ9_14_28 (gb163) _ ⟨hHeld, rd_ HO_6.out, rd_ HO_8.out, bd_ BK145.out, bd_ BK146.out, bd_ BK147.out, bd_ BK163.out, GW163.out, GE163.out, NB145_163.out, NB163_145.out, NB146_163.out, NB163_146.out, NB147_163.out, NB163_147.out, y35_⟩)
         ·
          skip
          rintro gb163 w80 ⟨hS_, h0_, h1_, h2_, h3_, h4_, h5_, h6_, h7_, h8_, h9_, h10_, h11_, h12_, h13_, h14_⟩
          have n0_ : Aside0 (Kd.R (Kd.int .i64) 3 w80 w.heap.size (fun k_ => some k_ ≠ (v154 : Value).ownBlock) v150 t148) := ⟨h0_⟩
          have n1_ : Aside0 (Kd.R (Kd.int .i64) 3 w80 w.heap.size (fun k_ => some k_ ≠ (v150 : Value).ownBlock) v154 t152) := ⟨h1_⟩
          have n2_ : Aside0 (w80.heap[gb145]? = some (c26_ a0_0 a0_1 A0_2 l0_2.length c0_2 a0_3 a0_4 A0_5 l0_5.length c0_5 a0_6 a0_7)) := ⟨h2_⟩
          have n3_ : Aside0 (w80.heap[gb146]? = some (c26_ a1_0 a1_1 A1_2 l1_2.length c1_2 a1_3 a1_4 A1_5 l1_5.length c1_5 a1_6 a1_7)) := ⟨h3_⟩
          have n4_ : Aside0 (w80.heap[gb147]? = some (c26_ 0 0 none 0 0 0 0 none 0 0 0 0)) := ⟨h4_⟩
          have BK163 : Aside0 (w80.heap[gb163]? = some (c26_ 0 0 none 0 0 0 0 none 0 0 0 0)) := ⟨h5_⟩
          have GW163 : Aside0 (w.heap.size ≤ gb163) := ⟨h6_⟩
          have GE163 : Aside0 (w.heap.size ≤ gb163) := ⟨h7_⟩
          have NB145_163 : Aside0 (gb145 ≠ gb163) := ⟨h8_⟩
          have NB163_145 : Aside0 (gb163 ≠ gb145) := ⟨h9_⟩
          have NB146_163 : Aside0 (gb146 ≠ gb163) := ⟨h10_⟩
          have NB163_146 : Aside0 (gb163 ≠ gb146) := ⟨h11_⟩
          have NB147_163 : Aside0 (gb147 ≠ gb163) := ⟨h12_⟩
          have NB163_147 : Aside0 (gb163 ≠ gb147) := ⟨h13_⟩
          have n14_ : Aside0 (Below w.heap.size w w80) := ⟨h14_⟩
          clear HO_6
          clear HO_8
          clear BK145
          clear BK146
          clear BK147
          clear HB
          clear h0_ h1_ h2_ h3_ h4_ h5_ h6_ h7_ h8_ h9_ h10_ h11_ h12_ h13_ h14_
          have HO_6 := n0_
          have HO_8 := n1_
          have BK145 := n2_
          have BK146 := n3_
          have BK147 := n4_
          have HB := n14_
          clear n0_ n1_ n2_ n3_ n4_ n14_
          have hHeld : q1_ w80 gb145 a0_0 a0_1 A0_2 l0_2.length c0_2 a0_3 a0_4 A0_5 l0_5.length c0_5 a0_6 a0_7 (q1e_ w80 gb146 a1_0 a1_1 A1_2 l1_2.length c1_2 a1_3 a1_4 A1_5 l1_5.length c1_5 a1_6 a1_7) := hS_
          refine norm_ (a' := ?_) ?_ ?_
          rotate_left
          ·
           simp only [putAll, Act.put, List.setIfInBounds_toArray, List.set_cons_zero, List.set_cons_succ]
           rfl
          refine one_ (i := 24) (N := some 83) M0_25 rfl rfl (one_of HT_.out (by kernel_rfl)) (by decide) (fun K hK => ?_)
          refine goes_ Try.func78 (by kernel_rfl) rfl #[.int .i64 a0_7, .int .i64 a1_7] (by rfl) rfl rfl ma_ ?_
          with_reducible refine (spec_Min.calls a0_7 a1_7 t161 _ A69.out).mono ?_
          rintro e w' ⟨rfl, ⟨nd, rfl⟩⟩
          refine ⟨_, rfl, ?_⟩
          refine hK.out _ _ (k1_ BK145.out (k1e_ BK146.out)) (fun hHeld => ?_)
          clear hK K
          refine norm_ (a' := ?_) ?_ ?_
          rotate_left
          ·
           show Act.put _ (some 83) _ = _
           simp only [Act.put, P0_1, P0_2, P0_3, i64_w, i32_w]
           rfl
          exact norm_ y34_ (hJ9_14_24_28 (gb163) _ ⟨hHeld, rd_ HO_6.out, rd_ HO_8.out, bd_ BK145.out, bd_ BK146.out, bd_ BK147.out, bd_ BK163.out, GW163.out, GE163.out, NB145_163.out, NB163_145.out, NB146_163.out, NB163_146.out, NB147_163.out, NB163_147.out, y35_⟩)
        ·
         skip
         rintro _ w79 ⟨hS_, h0_, h1_, h2_, h3_, h4_, h5_⟩
         have n0_ : Aside0 (Kd.R (Kd.int .i64) 3 w79 w.heap.size (fun k_ => some k_ ≠ (v154 : Value).ownBlock) v150 t148) := ⟨h0_⟩
         have n1_ : Aside0 (Kd.R (Kd.int .i64) 3 w79 w.heap.size (fun k_ => some k_ ≠ (v150 : Value).ownBlock) v154 t152) := ⟨h1_⟩
         have n2_ : Aside0 (w79.heap[gb145]? = some (c26_ a0_0 a0_1 A0_2 l0_2.length c0_2 a0_3 a0_4 A0_5 l0_5.length c0_5 a0_6 a0_7)) := ⟨h2_⟩
         have n3_ : Aside0 (w79.heap[gb146]? = some (c26_ a1_0 a1_1 A1_2 l1_2.length c1_2 a1_3 a1_4 A1_5 l1_5.length c1_5 a1_6 a1_7)) := ⟨h3_⟩
         have n4_ : Aside0 (w79.heap[gb147]? = some (c26_ 0 0 none 0 0 0 0 none 0 0 0 0)) := ⟨h4_⟩
         have n5_ : Aside0 (Below w.heap.size w w79) := ⟨h5_⟩
         clear HO_6
         clear HO_8
         clear BK145
         clear BK146
         clear BK147
         clear HB
         clear h0_ h1_ h2_ h3_ h4_ h5_
         have HO_6 := n0_
         have HO_8 := n1_
         have BK145 := n2_
         have BK146 := n3_
         have BK147 := n4_
         have HB := n5_
         clear n0_ n1_ n2_ n3_ n4_ n5_
         have hHeld : q1_ w79 gb145 a0_0 a0_1 A0_2 l0_2.length c0_2 a0_3 a0_4 A0_5 l0_5.length c0_5 a0_6 a0_7 (q1e_ w79 gb146 a1_0 a1_1 A1_2 l1_2.length c1_2 a1_3 a1_4 A1_5 l1_5.length c1_5 a1_6 a1_7) := hS_
         refine norm_ (a' := ?_) ?_ ?_
         rotate_left
         ·
          simp only [putAll, Act.put, List.setIfInBounds_toArray, List.set_cons_zero, List.set_cons_succ]
          rfl
         refine two_ (i := 25) (j := 28) (Ni := some 84) (Nj := some 11) M0_32 M0_25 rfl rfl rfl rfl (two_of HT_.out (by kernel_rfl)) (by decide) (by decide) (fun K hK => ?_) (fun K hK => ?_)
         ·
          skip
          refine goes_ Try.func77 (by kernel_rfl) rfl #[.int .i64 t158, .int .i64 t161] (by rfl) rfl rfl ma_ ?_
          with_reducible refine (spec_Max.calls t158 t161 t162 _ A70.out).mono ?_
          rintro e w' ⟨rfl, ⟨nd, rfl⟩⟩
          refine ⟨_, rfl, ?_⟩
          have eo79 := EO79.out
          subst eo79
          have eo80 := EO80.out
          subst eo80
          refine hK.out _ _ (k1_ BK145.out (k1e_ BK146.out)) (fun hHeld => ?_)
          clear hK K
          refine norm_ (a' := ?_) ?_ ?_
          rotate_left
          ·
           show Act.put _ (some 84) _ = _
           simp only [Act.put, P0_1, P0_2, P0_3, i64_w, i32_w]
           rfl
          refine pu_ 26 (some 85) M0_33 HT_ ?_
          refine pu_ 27 (some 86) M0_24 HT_ ?_
          exact norm_ y34_ (hJ9_14_24_25 () _ ⟨hHeld, rd_ HO_6.out, rd_ HO_8.out, bd_ BK145.out, bd_ BK146.out, bd_ BK147.out, y30_⟩)
         ·
          skip
          refine box_step ?hg (N := 11) ?hd (cs := #[.int .i64 0, .int .i64 0, .slice none 0 0, .int .i64 0, .int .i64 0, .slice none 0 0, .int .i64 0, .int .i64 0]) (t := 41) ?hr ?_; (case hd => rfl); (case hg => rfl); (case hr => first | (go_simp; done) | (go_simp; rfl))
          intro gb163 hg w80 hbox hb
          have n0_ := Aside0.mk (Kd.R_below (rd_ HO_6.out) hb)
          have n1_ := Aside0.mk (Kd.R_below (rd_ HO_8.out) hb)
          have n2_ := Aside0.mk (blk_below (bd_ BK145.out) hb)
          have n3_ := Aside0.mk (blk_below (bd_ BK146.out) hb)
          have n4_ := Aside0.mk (blk_below (bd_ BK147.out) hb)
          have n5_ := Aside0.mk (below_step y30_ hb)
          have BK163 := Aside0.mk (hbox)
          have GW163 := Aside0.mk ((y57_ : w.heap.size ≤ gb163))
          have GE163 := Aside0.mk ((y57_ : w.heap.size ≤ gb163))
          have NB145_163 := Aside0.mk ((y41_ : gb145 ≠ gb163))
          have NB163_145 := Aside0.mk ((y42_ : gb163 ≠ gb145))
          have NB146_163 := Aside0.mk ((y43_ : gb146 ≠ gb163))
          have NB163_146 := Aside0.mk ((y44_ : gb163 ≠ gb146))
          have NB147_163 := Aside0.mk ((y50_ : gb147 ≠ gb163))
          have NB163_147 := Aside0.mk ((y51_ : gb163 ≠ gb147))
          clear HO_6
          clear HO_8
          clear BK145
          clear BK146
          clear BK147
          clear HB
          have HO_6 := n0_
          have HO_8 := n1_
          have BK145 := n2_
          have BK146 := n3_
          have BK147 := n4_
          have HB := n5_
          clear n0_ n1_ n2_ n3_ n4_ n5_
          clear hb hbox hg
          refine hK.out _ _ (k1_ BK145.out (k1e_ BK146.out)) (fun hHeld => ?_)
          clear hK K
          refine norm_ (a' := ?_) ?_ ?_
          rotate_left
          ·
           show Act.put _ (some 11) _ = _
           simp only [Act.put, P0_1, P0_2, P0_3, i64_w, i32_w]
           rfl
          exact norm_ y34_ (hJ9_14_24_28 (gb163) _ ⟨hHeld, rd_ HO_6.out, rd_ HO_8.out, bd_ BK145.out, bd_ BK146.out, bd_ BK147.out, bd_ BK163.out, GW163.out, GE163.out, NB145_163.out, NB163_145.out, NB146_163.out, NB163_146.out, NB147_163.out, NB163_147.out, y35_⟩)
       ·
        skip
        rintro gb163 w80 ⟨hS_, h0_, h1_, h2_, h3_, h4_, h5_, h6_, h7_, h8_, h9_, h10_, h11_, h12_, h13_, h14_⟩
        have n0_ : Aside0 (Kd.R (Kd.int .i64) 3 w80 w.heap.size (fun k_ => some k_ ≠ (v154 : Value).ownBlock) v150 t148) := ⟨h0_⟩
        have n1_ : Aside0 (Kd.R (Kd.int .i64) 3 w80 w.heap.size (fun k_ => some k_ ≠ (v150 : Value).ownBlock) v154 t152) := ⟨h1_⟩
        have n2_ : Aside0 (w80.heap[gb145]? = some (c26_ a0_0 a0_1 A0_2 l0_2.length c0_2 a0_3 a0_4 A0_5 l0_5.length c0_5 a0_6 a0_7)) := ⟨h2_⟩
        have n3_ : Aside0 (w80.heap[gb146]? = some (c26_ a1_0 a1_1 A1_2 l1_2.length c1_2 a1_3 a1_4 A1_5 l1_5.length c1_5 a1_6 a1_7)) := ⟨h3_⟩
        have n4_ : Aside0 (w80.heap[gb147]? = some (c26_ 0 0 none 0 0 0 0 none 0 0 0 0)) := ⟨h4_⟩
        have BK163 : Aside0 (w80.heap[gb163]? = some (c26_ 0 0 none 0 0 0 0 none 0 0 0 0)) := ⟨h5_⟩
        have GW163 : Aside0 (w.heap.size ≤ gb163) := ⟨h6_⟩
        have GE163 : Aside0 (w.heap.size ≤ gb163) := ⟨h7_⟩
        have NB145_163 : Aside0 (gb145 ≠ gb163) := ⟨h8_⟩
        have NB163_145 : Aside0 (gb163 ≠ gb145) := ⟨h9_⟩
        have NB146_163 : Aside0 (gb146 ≠ gb163) := ⟨h10_⟩
        have NB163_146 : Aside0 (gb163 ≠ gb146) := ⟨h11_⟩
        have NB147_163 : Aside0 (gb147 ≠ gb163) := ⟨h12_⟩
        have NB163_147 : Aside0 (gb163 ≠ gb147) := ⟨h13_⟩
        have n14_ : Aside0 (Below w.heap.size w w80) := ⟨h14_⟩
        clear HO_6
        clear HO_8
        clear BK145
        clear BK146
        clear BK147
        clear HB
        clear h0_ h1_ h2_ h3_ h4_ h5_ h6_ h7_ h8_ h9_ h10_ h11_ h12_ h13_ h14_
        have HO_6 := n0_
        have HO_8 := n1_
        have BK145 := n2_
        have BK146 := n3_
        have BK147 := n4_
        have HB := n14_
        clear n0_ n1_ n2_ n3_ n4_ n14_
        have hHeld : q1_ w80 gb145 a0_0 a0_1 A0_2 l0_2.length c0_2 a0_3 a0_4 A0_5 l0_5.length c0_5 a0_6 a0_7 (q1e_ w80 gb146 a1_0 a1_1 A1_2 l1_2.length c1_2 a1_3 a1_4 A1_5 l1_5.length c1_5 a1_6 a1_7) := hS_
        refine norm_ (a' := ?_) ?_ ?_
        rotate_left
        ·
         simp only [putAll, Act.put, List.setIfInBounds_toArray, List.set_cons_zero, List.set_cons_succ]
         rfl
        refine one_ (i := 25) (N := some 84) M0_34 rfl rfl (one_of HT_.out (by kernel_rfl)) (by decide) (fun K hK => ?_)
        refine goes_ Try.func77 (by kernel_rfl) rfl #[.int .i64 t158, .int .i64 t161] (by rfl) rfl rfl ma_ ?_
        with_reducible refine (spec_Max.calls t158 t161 t162 _ A70.out).mono ?_
        rintro e w' ⟨rfl, ⟨nd, rfl⟩⟩
        refine ⟨_, rfl, ?_⟩
        have eo79 := EO79.out
        subst eo79
        have eo80 := EO80.out
        subst eo80
        refine hK.out _ _ (k1_ BK145.out (k1e_ BK146.out)) (fun hHeld => ?_)
        clear hK K
        refine norm_ (a' := ?_) ?_ ?_
        rotate_left
        ·
         show Act.put _ (some 84) _ = _
         simp only [Act.put, P0_1, P0_2, P0_3, i64_w, i32_w]
         rfl
        refine pu_ 26 (some 85) M0_35 HT_ ?_
        refine pu_ 27 (some 86) M0_23 HT_ ?_
        exact norm_ y34_ (hJ9_14_24_25_28 (gb163) _ ⟨hHeld, rd_ HO_6.out, rd_ HO_8.out, bd_ BK145.out, bd_ BK146.out, bd_ BK147.out, bd_ BK163.out, GW163.out, GE163.out, NB145_163.out, NB163_145.out, NB146_163.out, NB163_146.out, NB147_163.out, NB163_147.out, y35_⟩)
      ·
       skip
       rintro _ w81 ⟨hS_, h0_, h1_, h2_, h3_, h4_, h5_⟩
       have n0_ : Aside0 (Kd.R (Kd.int .i64) 3 w81 w.heap.size (fun k_ => some k_ ≠ (.slice Ao79 t152.length co79 : Value).ownBlock) (.slice Ao80 t148.length co80) t148) := ⟨h0_⟩
       have n1_ : Aside0 (Kd.R (Kd.int .i64) 3 w81 w.heap.size (fun k_ => some k_ ≠ (.slice Ao80 t148.length co80 : Value).ownBlock) (.slice Ao79 t152.length co79) t152) := ⟨h1_⟩
       have n2_ : Aside0 (w81.heap[gb145]? = some (c26_ a0_0 a0_1 A0_2 l0_2.length c0_2 a0_3 a0_4 A0_5 l0_5.length c0_5 a0_6 a0_7)) := ⟨h2_⟩
       have n3_ : Aside0 (w81.heap[gb146]? = some (c26_ a1_0 a1_1 A1_2 l1_2.length c1_2 a1_3 a1_4 A1_5 l1_5.length c1_5 a1_6 a1_7)) := ⟨h3_⟩
       have n4_ : Aside0 (w81.heap[gb147]? = some (c26_ 0 0 none 0 0 0 0 none 0 0 0 0)) := ⟨h4_⟩
       have n5_ : Aside0 (Below w.heap.size w w81) := ⟨h5_⟩
       clear HO_6
       clear HO_8
       clear BK145
       clear BK146
       clear BK147
       clear HB
       clear h0_ h1_ h2_ h3_ h4_ h5_
       have HO_6 := n0_
       have HO_8 := n1_
       have BK145 := n2_
       have BK146 := n3_
       have BK147 := n4_
       have HB := n5_
       clear n0_ n1_ n2_ n3_ n4_ n5_
       have hHeld : q1_ w81 gb145 a0_0 a0_1 A0_2 l0_2.length c0_2 a0_3 a0_4 A0_5 l0_5.length c0_5 a0_6 a0_7 (q1e_ w81 gb146 a1_0 a1_1 A1_2 l1_2.length c1_2 a1_3 a1_4 A1_5 l1_5.length c1_5 a1_6 a1_7) := hS_
       refine norm_ (a' := ?_) ?_ ?_
       rotate_left
       ·
        simp only [putAll, Act.put, List.setIfInBounds_toArray, List.set_cons_zero, List.set_cons_succ]
        rfl
       refine one_ (i := 28) (N := some 11) M0_23 rfl rfl (one_of HT_.out (by kernel_rfl)) (by decide) (fun K hK => ?_)
       refine box_step ?hg (N := 11) ?hd (cs := #[.int .i64 0, .int .i64 0, .slice none 0 0, .int .i64 0, .int .i64 0, .slice none 0 0, .int .i64 0, .int .i64 0]) (t := 41) ?hr ?_; (case hd => rfl); (case hg => rfl); (case hr => first | (go_simp; done) | (go_simp; rfl))
       intro gb163 hg w82 hbox hb
       have n0_ := Aside0.mk (Kd.R_below (rd_ HO_6.out) hb)
       have n1_ := Aside0.mk (Kd.R_below (rd_ HO_8.out) hb)
       have n2_ := Aside0.mk (blk_below (bd_ BK145.out) hb)
       have n3_ := Aside0.mk (blk_below (bd_ BK146.out) hb)
       have n4_ := Aside0.mk (blk_below (bd_ BK147.out) hb)
       have n5_ := Aside0.mk (below_step y30_ hb)
       have BK163 := Aside0.mk (hbox)
       have GW163 := Aside0.mk ((y57_ : w.heap.size ≤ gb163))
       have GE163 := Aside0.mk ((y57_ : w.heap.size ≤ gb163))
       have NB145_163 := Aside0.mk ((y41_ : gb145 ≠ gb163))
       have NB163_145 := Aside0.mk ((y42_ : gb163 ≠ gb145))
       have NB146_163 := Aside0.mk ((y43_ : gb146 ≠ gb163))
       have NB163_146 := Aside0.mk ((y44_ : gb163 ≠ gb146))
       have NB147_163 := Aside0.mk ((y50_ : gb147 ≠ gb163))
       have NB163_147 := Aside0.mk ((y51_ : gb163 ≠ gb147))
       clear HO_6
       clear HO_8
       clear BK145
       clear BK146
       clear BK147
       clear HB
       have HO_6 := n0_
       have HO_8 := n1_
       have BK145 := n2_
       have BK146 := n3_
       have BK147 := n4_
       have HB := n5_
       clear n0_ n1_ n2_ n3_ n4_ n5_
       clear hb hbox hg
       refine hK.out _ _ (k1_ BK145.out (k1e_ BK146.out)) (fun hHeld => ?_)
       clear hK K
       refine norm_ (a' := ?_) ?_ ?_
       rotate_left
       ·
        show Act.put _ (some 11) _ = _
        simp only [Act.put, P0_1, P0_2, P0_3, i64_w, i32_w]
        rfl
       exact norm_ y34_ (hJ9_14_24_25_28 (gb163) _ ⟨hHeld, rd_ HO_6.out, rd_ HO_8.out, bd_ BK145.out, bd_ BK146.out, bd_ BK147.out, bd_ BK163.out, GW163.out, GE163.out, NB145_163.out, NB163_145.out, NB146_163.out, NB163_146.out, NB147_163.out, NB163_147.out, y35_⟩)
     rintro gb163 w82 ⟨hS_, h0_, h1_, h2_, h3_, h4_, h5_, h6_, h7_, h8_, h9_, h10_, h11_, h12_, h13_, h14_⟩
     have n0_ : Aside0 (Kd.R (Kd.int .i64) 3 w82 w.heap.size (fun k_ => some k_ ≠ (.slice Ao79 t152.length co79 : Value).ownBlock) (.slice Ao80 t148.length co80) t148) := ⟨h0_⟩
     have n1_ : Aside0 (Kd.R (Kd.int .i64) 3 w82 w.heap.size (fun k_ => some k_ ≠ (.slice Ao80 t148.length co80 : Value).ownBlock) (.slice Ao79 t152.length co79) t152) := ⟨h1_⟩
     have n2_ : Aside0 (w82.heap[gb145]? = some (c26_ a0_0 a0_1 A0_2 l0_2.length c0_2 a0_3 a0_4 A0_5 l0_5.length c0_5 a0_6 a0_7)) := ⟨h2_⟩
     have n3_ : Aside0 (w82.heap[gb146]? = some (c26_ a1_0 a1_1 A1_2 l1_2.length c1_2 a1_3 a1_4 A1_5 l1_5.length c1_5 a1_6 a1_7)) := ⟨h3_⟩
     have n4_ : Aside0 (w82.heap[gb147]? = some (c26_ 0 0 none 0 0 0 0 none 0 0 0 0)) := ⟨h4_⟩
     have BK163 : Aside0 (w82.heap[gb163]? = some (c26_ 0 0 none 0 0 0 0 none 0 0 0 0)) := ⟨h5_⟩
     have GW163 : Aside0 (w.heap.size ≤ gb163) := ⟨h6_⟩
     have GE163 : Aside0 (w.heap.size ≤ gb163) := ⟨h7_⟩
     have NB145_163 : Aside0 (gb145 ≠ gb163) := ⟨h8_⟩
     have NB163_145 : Aside0 (gb163 ≠ gb145) := ⟨h9_⟩
     have NB146_163 : Aside0 (gb146 ≠ gb163) := ⟨h10_⟩
     have NB163_146 : Aside0 (gb163 ≠ gb146) := ⟨h11_⟩
     have NB147_163 : Aside0 (gb147 ≠ gb163) := ⟨h12_⟩
     have NB163_147 : Aside0 (gb163 ≠ gb147) := ⟨h13_⟩
     have n14_ : Aside0 (Below w.heap.size w w82) := ⟨h14_⟩
     clear HO_6
     clear HO_8
     clear BK145
     clear BK146
     clear BK147
     clear HB
     clear h0_ h1_ h2_ h3_ h4_ h5_ h6_ h7_ h8_ h9_ h10_ h11_ h12_ h13_ h14_
     have HO_6 := n0_
     have HO_8 := n1_
     have BK145 := n2_
     have BK146 := n3_
     have BK147 := n4_
     have HB := n14_
     clear n0_ n1_ n2_ n3_ n4_ n14_
     have hHeld : q1_ w82 gb145 a0_0 a0_1 A0_2 l0_2.length c0_2 a0_3 a0_4 A0_5 l0_5.length c0_5 a0_6 a0_7 (q1e_ w82 gb146 a1_0 a1_1 A1_2 l1_2.length c1_2 a1_3 a1_4 A1_5 l1_5.length c1_5 a1_6 a1_7) := hS_
     refine norm_ (a' := ?_) ?_ ?_
     rotate_left
     ·
      simp only [putAll, Act.put, List.setIfInBounds_toArray, List.set_cons_zero, List.set_cons_succ]
      rfl
     refine one_ (i := 29) (N := none) M0_36 rfl rfl (one_of HT_.out (by kernel_rfl)) (by decide) (fun K hK => ?_)
     have hs83 : w82.cell? ⟨gb163, 0, none⟩ = some (.int .i64 0) := (blk_cell BK163.out 0).trans rfl
     have hfs83 := blk_frozen BK163.out 0
     have hns83_0 := NB145_163.out
     have hns83_1 := NB146_163.out
     have hns83_2 := NB147_163.out
     have hms83_0 := NB163_145.out
     have hms83_1 := NB163_146.out
     have hms83_2 := NB163_147.out
     have hs84 : w82.cell? ⟨gb163, 1, none⟩ = some (.int .i64 0) := (blk_cell BK163.out 1).trans rfl
     have hfs84 := blk_frozen BK163.out 1
     have hns84_0 := NB145_163.out
     have hns84_1 := NB146_163.out
     have hns84_2 := NB147_163.out
     have hms84_0 := NB163_145.out
     have hms84_1 := NB163_146.out
     have hms84_2 := NB163_147.out
     have hs85 : w82.cell? ⟨gb163, 2, none⟩ = some (.slice none 0 0) := (blk_cell BK163.out 2).trans rfl
     have hfs85 := blk_frozen BK163.out 2
     have hns85_0 := NB145_163.out
     have hns85_1 := NB146_163.out
     have hns85_2 := NB147_163.out
     have hms85_0 := NB163_145.out
     have hms85_1 := NB163_146.out
     have hms85_2 := NB163_147.out
     have hs86 : w82.cell? ⟨gb163, 3, none⟩ = some (.int .i64 0) := (blk_cell BK163.out 3).trans rfl
     have hfs86 := blk_frozen BK163.out 3
     have hns86_0 := NB145_163.out
     have hns86_1 := NB146_163.out
     have hns86_2 := NB147_163.out
     have hms86_0 := NB163_145.out
     have hms86_1 := NB163_146.out
     have hms86_2 := NB163_147.out
     have hs87 : w82.cell? ⟨gb163, 4, none⟩ = some (.int .i64 0) := (blk_cell BK163.out 4).trans rfl
     have hfs87 := blk_frozen BK163.out 4
     have hns87_0 := NB145_163.out
     have hns87_1 := NB146_163.out
     have hns87_2 := NB147_163.out
     have hms87_0 := NB163_145.out
     have hms87_1 := NB163_146.out
     have hms87_2 := NB163_147.out
     have hs88 : w82.cell? ⟨gb163, 5, none⟩ = some (.slice none 0 0) := (blk_cell BK163.out 5).trans rfl
     have hfs88 := blk_frozen BK163.out 5
     have hns88_0 := NB145_163.out
     have hns88_1 := NB146_163.out
     have hns88_2 := NB147_163.out
     have hms88_0 := NB163_145.out
     have hms88_1 := NB163_146.out
     have hms88_2 := NB163_147.out
     have hs89 : w82.cell? ⟨gb163, 6, none⟩ = some (.int .i64 0) := (blk_cell BK163.out 6).trans rfl
     have hfs89 := blk_frozen BK163.out 6
     have hns89_0 := NB145_163.out
     have hns89_1 := NB146_163.out
     have hns89_2 := NB147_163.out
     have hms89_0 := NB163_145.out
     have hms89_1 := NB163_146.out
     have hms89_2 := NB163_147.out
     have hs90 : w82.cell? ⟨gb163, 7, none⟩ = some (.int .i64 0) := (blk_cell BK163.out 7).trans rfl
     have hfs90 := blk_frozen BK163.out 7
     have hns90_0 := NB145_163.out
     have hns90_1 := NB146_163.out
     have hns90_2 := NB147_163.out
     have hms90_0 := NB163_145.out
     have hms90_1 := NB163_146.out
     have hms90_2 := NB163_147.out
     refine skip_ (w1 := ?_) (by rfl) rfl ?_ ?_
     rotate_left
     ·
      go_simp
      rfl
     refine hK.out _ _ ⟨(f29_ hHeld.1 NB145_163.out), (f29_ hHeld.2.1 NB145_163.out), (f29_ hHeld.2.2.1 NB145_163.out), (f29_ hHeld.2.2.2.1 NB145_163.out), (f29_ hHeld.2.2.2.2.1 NB145_163.out), (f29_ hHeld.2.2.2.2.2.1 NB145_163.out), (f29_ hHeld.2.2.2.2.2.2.1 NB145_163.out), (f29_ hHeld.2.2.2.2.2.2.2.1 NB145_163.out), (f29_ hHeld.2.2.2.2.2.2.2.2.1 NB146_163.out), (f29_ hHeld.2.2.2.2.2.2.2.2.2.1 NB146_163.out), (f29_ hHeld.2.2.2.2.2.2.2.2.2.2.1 NB146_163.out), (f29_ hHeld.2.2.2.2.2.2.2.2.2.2.2.1 NB146_163.out), (f29_ hHeld.2.2.2.2.2.2.2.2.2.2.2.2.1 NB146_163.out), (f29_ hHeld.2.2.2.2.2.2.2.2.2.2.2.2.2.1 NB146_163.out), (f29_ hHeld.2.2.2.2.2.2.2.2.2.2.2.2.2.2.1 NB146_163.out), (f29_ hHeld.2.2.2.2.2.2.2.2.2.2.2.2.2.2.2 NB146_163.out)⟩ (fun hHeld => ?_)
     clear hK K
     refine done_ (done_of HT_.out (by kernel_rfl)) ?_
     have hnb91 := NB163_145.out
     have hnc91 := NB145_163.out
     have hnb92 := NB163_146.out
     have hnc92 := NB146_163.out
     have hnb93 := NB163_147.out
     have hnc93 := NB147_163.out
     obtain ⟨hcz94_0, hcz94_1, hcz94_2, hcz94_3, hcz94_4, hcz94_5, hcz94_6, hcz94_7⟩ := e27_ BK163.out
     obtain ⟨hfz94_0, hfz94_1, hfz94_2, hfz94_3, hfz94_4, hfz94_5, hfz94_6, hfz94_7⟩ := z28_ BK163.out
     try go_wp2_with (first | ((with_reducible refine gate_callee (f := 76) rfl ?_); refine goesL_ (some 88) rfl rfl Try.func76 (by kernel_rfl) rfl #[.agg #[.int .i64 a0_0, .int .i64 a0_1, .slice Ao80 t148.length co80, .int .i64 t159, .int .i64 t160, .slice Ao79 t152.length co79, .int .i64 t158, .int .i64 t162]] rfl ma_ ?_; (with_reducible refine (spec_IsReport.calls kj4 a0_0 a0_1 _ _ t148 t159 t160 _ _ t152 t158 t162 true _ ?side1 ?side2 ?side3 ?side4 A71.out).mono ?_); (case side1 => refine (Kd.R_reads' (e := 3) (base := w.heap.size) (ok := fun k_ => some k_ ≠ (.slice Ao79 t152.length co79 : Value).ownBlock) (n := t148.length) (c := co80) ?_).2.2; exact y55_); (case side2 => exact (Kd.R_reads' HO_6.out).2.1); (case side3 => refine (Kd.R_reads' (e := 3) (base := w.heap.size) (ok := fun k_ => some k_ ≠ (.slice Ao80 t148.length co80 : Value).ownBlock) (n := t152.length) (c := co79) ?_).2.2; exact y56_); (case side4 => exact (Kd.R_reads' HO_8.out).2.1); rintro e w95 ⟨rfl, hb⟩; refine ⟨_, rfl, ?_⟩; have n0_ := Aside0.mk (Kd.R_below y55_ hb); have n1_ := Aside0.mk (Kd.R_below y56_ hb); have n2_ := Aside0.mk (blk_below (g := gb145) (o := c26_ a0_0 a0_1 A0_2 l0_2.length c0_2 a0_3 a0_4 A0_5 l0_5.length c0_5 a0_6 a0_7) y45_ hb); have n3_ := Aside0.mk (blk_below (g := gb146) (o := c26_ a1_0 a1_1 A1_2 l1_2.length c1_2 a1_3 a1_4 A1_5 l1_5.length c1_5 a1_6 a1_7) y46_ hb); have n4_ := Aside0.mk (blk_below (g := gb147) (o := c26_ 0 0 none 0 0 0 0 none 0 0 0 0) y47_ hb); have n5_ := Aside0.mk (blk_below (g := gb163) (o := .cells #[.int .i64 a0_0, .int .i64 a0_1, .slice Ao80 t148.length co80, .int .i64 t159, .int .i64 t160, .slice Ao79 t152.length co79, .int .i64 t158, .int .i64 t162] 41 (0, 0)) (by (with_reducible repeat (first | refine blk_drewN ?_ _ | refine blk_drew ?_ | refine blk_alloc ?_ _)); refine blk_put (cs := #[.int .i64 a0_0, .int .i64 a0_1, .slice Ao80 t148.length co80, .int .i64 t159, .int .i64 t160, .slice Ao79 t152.length co79, .int .i64 t158, .int .i64 0]) ?_ 7 _ rfl; (with_reducible repeat (first | refine blk_drewN ?_ _ | refine blk_drew ?_ | refine blk_alloc ?_ _)); refine blk_put (cs := #[.int .i64 a0_0, .int .i64 a0_1, .slice Ao80 t148.length co80, .int .i64 t159, .int .i64 t160, .slice Ao79 t152.length co79, .int .i64 0, .int .i64 0]) ?_ 6 _ rfl; (with_reducible repeat (first | refine blk_drewN ?_ _ | refine blk_drew ?_ | refine blk_alloc ?_ _)); refine blk_put (cs := #[.int .i64 a0_0, .int .i64 a0_1, .slice Ao80 t148.length co80, .int .i64 t159, .int .i64 t160, .slice none 0 0, .int .i64 0, .int .i64 0]) ?_ 5 _ rfl; (with_reducible repeat (first | refine blk_drewN ?_ _ | refine blk_drew ?_ | refine blk_alloc ?_ _)); refine blk_put (cs := #[.int .i64 a0_0, .int .i64 a0_1, .slice Ao80 t148.length co80, .int .i64 t159, .int .i64 0, .slice none 0 0, .int .i64 0, .int .i64 0]) ?_ 4 _ rfl; (with_reducible repeat (first | refine blk_drewN ?_ _ | refine blk_drew ?_ | refine blk_alloc ?_ _)); refine blk_put (cs := #[.int .i64 a0_0, .int .i64 a0_1, .slice Ao80 t148.length co80, .int .i64 0, .int .i64 0, .slice none 0 0, .int .i64 0, .int .i64 0]) ?_ 3 _ rfl; (with_reducible repeat (first | refine blk_drewN ?_ _ | refine blk_drew ?_ | refine blk_alloc ?_ _)); refine blk_put (cs := #[.int .i64 a0_0, .int .i64 a0_1, .slice none 0 0, .int .i64 0, .int .i64 0, .slice none 0 0, .int .i64 0, .int .i64 0]) ?_ 2 _ rfl; (with_reducible repeat (first | refine blk_drewN ?_ _ | refine blk_drew ?_ | refine blk_alloc ?_ _)); refine blk_put (cs := #[.int .i64 a0_0, .int .i64 0, .slice none 0 0, .int .i64 0, .int .i64 0, .slice none 0 0, .int .i64 0, .int .i64 0]) ?_ 1 _ rfl; (with_reducible repeat (first | refine blk_drewN ?_ _ | refine blk_drew ?_ | refine blk_alloc ?_ _)); refine blk_put (cs := #[.int .i64 0, .int .i64 0, .slice none 0 0, .int .i64 0, .int .i64 0, .slice none 0 0, .int .i64 0, .int .i64 0]) ?_ 0 _ rfl; (with_reducible repeat (first | refine blk_drewN ?_ _ | refine blk_drew ?_ | refine blk_alloc ?_ _)); exact BK163.out) hb); have n6_ := Aside0.mk (below_step y35_ hb); clear HO_6; clear HO_8; clear BK145; clear BK146; clear BK147; clear BK163; clear HB; have HO_6 := n0_; have HO_8 := n1_; have BK145 := n2_; have BK146 := n3_; have BK147 := n4_; have BK163 := n5_; have HB := n6_; clear n0_ n1_ n2_ n3_ n4_ n5_ n6_; (try clear hb); (try clear hb2); (try clear hk); (try clear hi); obtain ⟨hcz96_0, hcz96_1, hcz96_2, hcz96_3, hcz96_4, hcz96_5, hcz96_6, hcz96_7⟩ := e27_ BK163.out; obtain ⟨hfz96_0, hfz96_1, hfz96_2, hfz96_3, hfz96_4, hfz96_5, hfz96_6, hfz96_7⟩ := z28_ BK163.out; obtain ⟨hcz97_0, hcz97_1, hcz97_2, hcz97_3, hcz97_4, hcz97_5, hcz97_6, hcz97_7⟩ := e27_ BK147.out; obtain ⟨hfz97_0, hfz97_1, hfz97_2, hfz97_3, hfz97_4, hfz97_5, hfz97_6, hfz97_7⟩ := z28_ BK147.out))
     refine bodyPost_ret (results_ct rfl _ _ gb147 41 #[.int .i64 a0_0, .int .i64 a0_1, .slice Ao80 t148.length co80, .int .i64 t159, .int .i64 t160, .slice Ao79 t152.length co79, .int .i64 t158, .int .i64 t162] (0, 0) _ rfl (by (with_reducible repeat (first | refine blk_drewN ?_ _ | refine blk_drew ?_ | refine blk_alloc ?_ _)); refine blk_put (cs := #[.int .i64 a0_0, .int .i64 a0_1, .slice Ao80 t148.length co80, .int .i64 t159, .int .i64 t160, .slice Ao79 t152.length co79, .int .i64 t158, .int .i64 0]) ?_ 7 _ rfl; (with_reducible repeat (first | refine blk_drewN ?_ _ | refine blk_drew ?_ | refine blk_alloc ?_ _)); refine blk_put (cs := #[.int .i64 a0_0, .int .i64 a0_1, .slice Ao80 t148.length co80, .int .i64 t159, .int .i64 t160, .slice Ao79 t152.length co79, .int .i64 0, .int .i64 0]) ?_ 6 _ rfl; (with_reducible repeat (first | refine blk_drewN ?_ _ | refine blk_drew ?_ | refine blk_alloc ?_ _)); refine blk_put (cs := #[.int .i64 a0_0, .int .i64 a0_1, .slice Ao80 t148.length co80, .int .i64 t159, .int .i64 t160, .slice none 0 0, .int .i64 0, .int .i64 0]) ?_ 5 _ rfl; (with_reducible repeat (first | refine blk_drewN ?_ _ | refine blk_drew ?_ | refine blk_alloc ?_ _)); refine blk_put (cs := #[.int .i64 a0_0, .int .i64 a0_1, .slice Ao80 t148.length co80, .int .i64 t159, .int .i64 0, .slice none 0 0, .int .i64 0, .int .i64 0]) ?_ 4 _ rfl; (with_reducible repeat (first | refine blk_drewN ?_ _ | refine blk_drew ?_ | refine blk_alloc ?_ _)); refine blk_put (cs := #[.int .i64 a0_0, .int .i64 a0_1, .slice Ao80 t148.length co80, .int .i64 0, .int .i64 0, .slice none 0 0, .int .i64 0, .int .i64 0]) ?_ 3 _ rfl; (with_reducible repeat (first | refine blk_drewN ?_ _ | refine blk_drew ?_ | refine blk_alloc ?_ _)); refine blk_put (cs := #[.int .i64 a0_0, .int .i64 a0_1, .slice none 0 0, .int .i64 0, .int .i64 0, .slice none 0 0, .int .i64 0, .int .i64 0]) ?_ 2 _ rfl; (with_reducible repeat (first | refine blk_drewN ?_ _ | refine blk_drew ?_ | refine blk_alloc ?_ _)); refine blk_put (cs := #[.int .i64 a0_0, .int .i64 0, .slice none 0 0, .int .i64 0, .int .i64 0, .slice none 0 0, .int .i64 0, .int .i64 0]) ?_ 1 _ rfl; (with_reducible repeat (first | refine blk_drewN ?_ _ | refine blk_drew ?_ | refine blk_alloc ?_ _)); refine blk_put (cs := #[.int .i64 0, .int .i64 0, .slice none 0 0, .int .i64 0, .int .i64 0, .slice none 0 0, .int .i64 0, .int .i64 0]) ?_ 0 _ rfl; (with_reducible repeat (first | refine blk_drewN ?_ _ | refine blk_drew ?_ | refine blk_alloc ?_ _)); exact BK147.out) Try.underlying41 rfl (by kernel_rfl)) rfl ?_
     exact ⟨_, _, by first | rfl | (simp [errW_none, errW_some] <;> rfl) | (simp [*, errW_none, errW_some] <;> rfl), by (with_reducible repeat (first | apply Kd.R_alloc | apply Kd.R_drewN | apply Kd.R_drew)); exact Kd.R_mono (Kd.R_far (p := ⟨gb147, 7, none⟩) (Kd.R_far (p := ⟨gb147, 6, none⟩) (Kd.R_far (p := ⟨gb147, 5, none⟩) (Kd.R_far (p := ⟨gb147, 4, none⟩) (Kd.R_far (p := ⟨gb147, 3, none⟩) (Kd.R_far (p := ⟨gb147, 2, none⟩) (Kd.R_far (p := ⟨gb147, 1, none⟩) (Kd.R_far (p := ⟨gb147, 0, none⟩) (Kd.R_types HO_6.out BK147.out (by decide)) (fun _ hk => hk.2) (.int .i64 a0_0)) (fun _ hk => hk.2) (.int .i64 a0_1)) (fun _ hk => hk.2) (.slice Ao80 t148.length co80)) (fun _ hk => hk.2) (.int .i64 t159)) (fun _ hk => hk.2) (.int .i64 t160)) (fun _ hk => hk.2) (.slice Ao79 t152.length co79)) (fun _ hk => hk.2) (.int .i64 t158)) (fun _ hk => hk.2) (.int .i64 t162)) (fun _ hk => hk.1), by (with_reducible repeat (first | apply Kd.R_alloc | apply Kd.R_drewN | apply Kd.R_drew)); exact Kd.R_mono (Kd.R_far (p := ⟨gb147, 7, none⟩) (Kd.R_far (p := ⟨gb147, 6, none⟩) (Kd.R_far (p := ⟨gb147, 5, none⟩) (Kd.R_far (p := ⟨gb147, 4, none⟩) (Kd.R_far (p := ⟨gb147, 3, none⟩) (Kd.R_far (p := ⟨gb147, 2, none⟩) (Kd.R_far (p := ⟨gb147, 1, none⟩) (Kd.R_far (p := ⟨gb147, 0, none⟩) (Kd.R_types HO_8.out BK147.out (by decide)) (fun _ hk => hk.2) (.int .i64 a0_0)) (fun _ hk => hk.2) (.int .i64 a0_1)) (fun _ hk => hk.2) (.slice Ao80 t148.length co80)) (fun _ hk => hk.2) (.int .i64 t159)) (fun _ hk => hk.2) (.int .i64 t160)) (fun _ hk => hk.2) (.slice Ao79 t152.length co79)) (fun _ hk => hk.2) (.int .i64 t158)) (fun _ hk => hk.2) (.int .i64 t162)) (fun _ hk => hk.1), y61_⟩
    ·
     replace c72 := Bool.eq_false_iff.mpr c72
     subst c72
     have H1 : (some (0, 0, ([] : List Int), 0, 0, ([] : List Int), 0, 0, false)) = some (r1, r2, r3, r4, r5, r6, r7, r8, r9) := by rw [if_neg (show ¬ (false = true) by decide)] at H; exact H
     clear H
     have H := H1
     clear H1
     simp only [Option.some.injEq, Prod.mk.injEq] at H
     obtain ⟨rfl, rfl, rfl, rfl, rfl, rfl, rfl, rfl, rfl⟩ := H
     have hnb98 := NB145_146.out
     have hnc98 := NB146_145.out
     have hnb99 := NB145_147.out
     have hnc99 := NB147_145.out
     obtain ⟨hcz100_0, hcz100_1, hcz100_2, hcz100_3, hcz100_4, hcz100_5, hcz100_6, hcz100_7⟩ := e27_ BK145.out
     obtain ⟨hfz100_0, hfz100_1, hfz100_2, hfz100_3, hfz100_4, hfz100_5, hfz100_6, hfz100_7⟩ := z28_ BK145.out
     have hnb101 := NB146_147.out
     have hnc101 := NB147_146.out
     obtain ⟨hcz102_0, hcz102_1, hcz102_2, hcz102_3, hcz102_4, hcz102_5, hcz102_6, hcz102_7⟩ := e27_ BK146.out
     obtain ⟨hfz102_0, hfz102_1, hfz102_2, hfz102_3, hfz102_4, hfz102_5, hfz102_6, hfz102_7⟩ := z28_ BK146.out
     try go_wp2_with (first | ((with_reducible refine gate_callee (f := 77) rfl ?_); refine goesL_ (some 58) rfl rfl Try.func77 (by kernel_rfl) rfl #[.int .i64 a0_6, .int .i64 a1_6] rfl ma_ ?_; (with_reducible refine (spec_Max.calls a0_6 a1_6 t158 _ A66.out).mono ?_); rintro e w' ⟨rfl, ⟨nd, rfl⟩⟩; refine ⟨_, rfl, ?_⟩; (try (rw [drewN_self wc]; generalize hq_ : World.drewN wc _ = wc; have n0_ : Aside0 (Kd.R (Kd.int .i64) 3 wc w.heap.size (fun k_ => some k_ ≠ (v154 : Value).ownBlock) v150 t148) := ⟨by rw [← hq_]; exact rd_ HO_6.out⟩; have n1_ : Aside0 (Kd.R (Kd.int .i64) 3 wc w.heap.size (fun k_ => some k_ ≠ (v150 : Value).ownBlock) v154 t152) := ⟨by rw [← hq_]; exact rd_ HO_8.out⟩; have n2_ : Aside0 (wc.heap[gb145]? = some (c26_ a0_0 a0_1 A0_2 l0_2.length c0_2 a0_3 a0_4 A0_5 l0_5.length c0_5 a0_6 a0_7)) := ⟨by rw [← hq_]; exact bd_ BK145.out⟩; have n3_ : Aside0 (wc.heap[gb146]? = some (c26_ a1_0 a1_1 A1_2 l1_2.length c1_2 a1_3 a1_4 A1_5 l1_5.length c1_5 a1_6 a1_7)) := ⟨by rw [← hq_]; exact bd_ BK146.out⟩; have n4_ : Aside0 (wc.heap[gb147]? = some (c26_ 0 0 none 0 0 0 0 none 0 0 0 0)) := ⟨by rw [← hq_]; exact bd_ BK147.out⟩; have n5_ : Aside0 (Below w.heap.size w wc) := ⟨by rw [← hq_]; exact y30_⟩; clear HO_6 HO_8 BK145 BK146 BK147 HB hq_; have HO_6 := n0_; have HO_8 := n1_; have BK145 := n2_; have BK146 := n3_; have BK147 := n4_; have HB := n5_; clear n0_ n1_ n2_ n3_ n4_ n5_))))
     have n0_ := Aside0.mk (Kd.R_drew HO_6.out)
     have n1_ := Aside0.mk (Kd.R_drew HO_8.out)
     have n2_ := Aside0.mk (blk_drew BK145.out)
     have n3_ := Aside0.mk (blk_drew BK146.out)
     have n4_ := Aside0.mk (blk_drew BK147.out)
     have n5_ := Aside0.mk (below_drew1 HB.out)
     clear HO_6
     clear HO_8
     clear BK145
     clear BK146
     clear BK147
     clear HB
     have HO_6 := n0_
     have HO_8 := n1_
     have BK145 := n2_
     have BK146 := n3_
     have BK147 := n4_
     have HB := n5_
     clear n0_ n1_ n2_ n3_ n4_ n5_
     refine start_ (n := 30) (S := fun w' => q1_ w' gb145 a0_0 a0_1 A0_2 l0_2.length c0_2 a0_3 a0_4 A0_5 l0_5.length c0_5 a0_6 a0_7 (q1e_ w' gb146 a1_0 a1_1 A1_2 l1_2.length c1_2 a1_3 a1_4 A1_5 l1_5.length c1_5 a1_6 a1_7)) (ds := []) M0_0 (by kernel_rfl) rfl rfl (k1_ BK145.out (k1e_ BK146.out)) (fun hHeld => ?_); refine with_tabW spec_Sharpen.tab6 spec_Sharpen.bits6 (fun HT_ HW_ => ?_)
     generalize wc.drew = w103 at HO_6 HO_8 BK145 BK146 BK147 HB hHeld ⊢
     refine pu_ 0 (some 59) M0_1 HT_ ?_
     refine pu_ 2 (some 61) M0_2 HT_ ?_
     refine pu_ 4 (some 63) M0_3 HT_ ?_
     refine pu_ 5 (some 64) M0_4 HT_ ?_
     refine pu_ 7 (some 66) M0_5 HT_ ?_
     refine pu_ 10 (some 69) M0_6 HT_ ?_
     refine pu_ 12 (some 71) M0_7 HT_ ?_
     refine pu_ 15 (some 74) M0_8 HT_ ?_
     refine pu_ 16 (some 75) M0_9 HT_ ?_
     refine pu_ 17 (some 76) M0_10 HT_ ?_
     refine pu_ 18 (some 77) M0_11 HT_ ?_
     refine pu_ 19 (some 78) M0_12 HT_ ?_
     refine pu_ 21 (some 80) M0_13 HT_ ?_
     refine pu_ 22 (some 81) M0_14 HT_ ?_
     refine tk_ 1 (some 60) M0_15 HT_ HW_ hHeld ?_
     refine tk_ 3 (some 62) M0_16 HT_ HW_ hHeld ?_
     refine tk_ 6 (some 65) M0_17 HT_ HW_ hHeld ?_
     refine tk_ 8 (some 67) M0_18 HT_ HW_ hHeld ?_
     refine tk_ 11 (some 70) M0_19 HT_ HW_ hHeld ?_
     refine tk_ 13 (some 72) M0_20 HT_ HW_ hHeld ?_
     refine tk_ 20 (some 79) M0_21 HT_ HW_ hHeld ?_
     refine tk_ 23 (some 82) M0_22 HT_ HW_ hHeld ?_
     obtain ⟨Ao104, co104, eo104⟩ := Kd.R_slice HO_8.out
     have EO104 := Aside0.mk eo104
     clear eo104
     obtain ⟨Ao105, co105, eo105⟩ := Kd.R_slice HO_6.out
     have EO105 := Aside0.mk eo105
     clear eo105
     refine join_ (σ := Nat) 1 M0_23 (fun s_ => [(68, .int .i64 t159), (73, .int .i64 t160), (83, .int .i64 t161), (84, .int .i64 t162), (11, .pointer (some ⟨s_, 0, none⟩)), (85, .agg #[.int .i64 t158, .int .i64 t162]), (86, .agg #[.int .i64 a0_0, .int .i64 a0_1, .slice Ao105 t148.length co105, .int .i64 t159, .int .i64 t160, .slice Ao104 t152.length co104, .int .i64 t158, .int .i64 t162])]) (fun s_ w' => (q1_ w' gb145 a0_0 a0_1 A0_2 l0_2.length c0_2 a0_3 a0_4 A0_5 l0_5.length c0_5 a0_6 a0_7 (q1e_ w' gb146 a1_0 a1_1 A1_2 l1_2.length c1_2 a1_3 a1_4 A1_5 l1_5.length c1_5 a1_6 a1_7)) ∧ (Kd.R (Kd.int .i64) 3 w' w.heap.size (fun k_ => some k_ ≠ (.slice Ao104 t152.length co104 : Value).ownBlock) (.slice Ao105 t148.length co105) t148) ∧ (Kd.R (Kd.int .i64) 3 w' w.heap.size (fun k_ => some k_ ≠ (.slice Ao105 t148.length co105 : Value).ownBlock) (.slice Ao104 t152.length co104) t152) ∧ (w'.heap[gb145]? = some (c26_ a0_0 a0_1 A0_2 l0_2.length c0_2 a0_3 a0_4 A0_5 l0_5.length c0_5 a0_6 a0_7)) ∧ (w'.heap[gb146]? = some (c26_ a1_0 a1_1 A1_2 l1_2.length c1_2 a1_3 a1_4 A1_5 l1_5.length c1_5 a1_6 a1_7)) ∧ (w'.heap[gb147]? = some (c26_ 0 0 none 0 0 0 0 none 0 0 0 0)) ∧ (w'.heap[s_]? = some (c26_ 0 0 none 0 0 0 0 none 0 0 0 0)) ∧ (w.heap.size ≤ s_) ∧ (w.heap.size ≤ s_) ∧ (gb145 ≠ s_) ∧ (s_ ≠ gb145) ∧ (gb146 ≠ s_) ∧ (s_ ≠ gb146) ∧ (gb147 ≠ s_) ∧ (s_ ≠ gb147) ∧ (Below w.heap.size w w')) ?_ ?_
     rotate_left
     ·
      intro hJ9_14_24_25_28
      refine join_ (σ := Unit) 2 M0_24 (fun s_ => [(68, .int .i64 t159), (73, .int .i64 t160), (83, .int .i64 t161), (84, .int .i64 t162), (85, .agg #[.int .i64 t158, .int .i64 t162]), (86, .agg #[.int .i64 a0_0, .int .i64 a0_1, .slice Ao105 t148.length co105, .int .i64 t159, .int .i64 t160, .slice Ao104 t152.length co104, .int .i64 t158, .int .i64 t162])]) (fun s_ w' => (q1_ w' gb145 a0_0 a0_1 A0_2 l0_2.length c0_2 a0_3 a0_4 A0_5 l0_5.length c0_5 a0_6 a0_7 (q1e_ w' gb146 a1_0 a1_1 A1_2 l1_2.length c1_2 a1_3 a1_4 A1_5 l1_5.length c1_5 a1_6 a1_7)) ∧ (Kd.R (Kd.int .i64) 3 w' w.heap.size (fun k_ => some k_ ≠ (.slice Ao104 t152.length co104 : Value).ownBlock) (.slice Ao105 t148.length co105) t148) ∧ (Kd.R (Kd.int .i64) 3 w' w.heap.size (fun k_ => some k_ ≠ (.slice Ao105 t148.length co105 : Value).ownBlock) (.slice Ao104 t152.length co104) t152) ∧ (w'.heap[gb145]? = some (c26_ a0_0 a0_1 A0_2 l0_2.length c0_2 a0_3 a0_4 A0_5 l0_5.length c0_5 a0_6 a0_7)) ∧ (w'.heap[gb146]? = some (c26_ a1_0 a1_1 A1_2 l1_2.length c1_2 a1_3 a1_4 A1_5 l1_5.length c1_5 a1_6 a1_7)) ∧ (w'.heap[gb147]? = some (c26_ 0 0 none 0 0 0 0 none 0 0 0 0)) ∧ (Below w.heap.size w w')) ?_ ?_
      rotate_left
      ·
       intro hJ9_14_24_25
       refine join_ (σ := Nat) 4 M0_25 (fun s_ => [(68, .int .i64 t159), (73, .int .i64 t160), (83, .int .i64 t161), (11, .pointer (some ⟨s_, 0, none⟩))]) (fun s_ w' => (q1_ w' gb145 a0_0 a0_1 A0_2 l0_2.length c0_2 a0_3 a0_4 A0_5 l0_5.length c0_5 a0_6 a0_7 (q1e_ w' gb146 a1_0 a1_1 A1_2 l1_2.length c1_2 a1_3 a1_4 A1_5 l1_5.length c1_5 a1_6 a1_7)) ∧ (Kd.R (Kd.int .i64) 3 w' w.heap.size (fun k_ => some k_ ≠ (v154 : Value).ownBlock) v150 t148) ∧ (Kd.R (Kd.int .i64) 3 w' w.heap.size (fun k_ => some k_ ≠ (v150 : Value).ownBlock) v154 t152) ∧ (w'.heap[gb145]? = some (c26_ a0_0 a0_1 A0_2 l0_2.length c0_2 a0_3 a0_4 A0_5 l0_5.length c0_5 a0_6 a0_7)) ∧ (w'.heap[gb146]? = some (c26_ a1_0 a1_1 A1_2 l1_2.length c1_2 a1_3 a1_4 A1_5 l1_5.length c1_5 a1_6 a1_7)) ∧ (w'.heap[gb147]? = some (c26_ 0 0 none 0 0 0 0 none 0 0 0 0)) ∧ (w'.heap[s_]? = some (c26_ 0 0 none 0 0 0 0 none 0 0 0 0)) ∧ (w.heap.size ≤ s_) ∧ (w.heap.size ≤ s_) ∧ (gb145 ≠ s_) ∧ (s_ ≠ gb145) ∧ (gb146 ≠ s_) ∧ (s_ ≠ gb146) ∧ (gb147 ≠ s_) ∧ (s_ ≠ gb147) ∧ (Below w.heap.size w w')) ?_ ?_
       rotate_left
       ·
        intro hJ9_14_24_28
        refine join_ (σ := Unit) 5 M0_26 (fun s_ => [(68, .int .i64 t159), (73, .int .i64 t160), (83, .int .i64 t161)]) (fun s_ w' => (q1_ w' gb145 a0_0 a0_1 A0_2 l0_2.length c0_2 a0_3 a0_4 A0_5 l0_5.length c0_5 a0_6 a0_7 (q1e_ w' gb146 a1_0 a1_1 A1_2 l1_2.length c1_2 a1_3 a1_4 A1_5 l1_5.length c1_5 a1_6 a1_7)) ∧ (Kd.R (Kd.int .i64) 3 w' w.heap.size (fun k_ => some k_ ≠ (v154 : Value).ownBlock) v150 t148) ∧ (Kd.R (Kd.int .i64) 3 w' w.heap.size (fun k_ => some k_ ≠ (v150 : Value).ownBlock) v154 t152) ∧ (w'.heap[gb145]? = some (c26_ a0_0 a0_1 A0_2 l0_2.length c0_2 a0_3 a0_4 A0_5 l0_5.length c0_5 a0_6 a0_7)) ∧ (w'.heap[gb146]? = some (c26_ a1_0 a1_1 A1_2 l1_2.length c1_2 a1_3 a1_4 A1_5 l1_5.length c1_5 a1_6 a1_7)) ∧ (w'.heap[gb147]? = some (c26_ 0 0 none 0 0 0 0 none 0 0 0 0)) ∧ (Below w.heap.size w w')) ?_ ?_
        rotate_left
        ·
         intro hJ9_14_24
         refine join_ (σ := Nat) 5 M0_27 (fun s_ => [(68, .int .i64 t159), (73, .int .i64 t160), (11, .pointer (some ⟨s_, 0, none⟩))]) (fun s_ w' => (q1_ w' gb145 a0_0 a0_1 A0_2 l0_2.length c0_2 a0_3 a0_4 A0_5 l0_5.length c0_5 a0_6 a0_7 (q1e_ w' gb146 a1_0 a1_1 A1_2 l1_2.length c1_2 a1_3 a1_4 A1_5 l1_5.length c1_5 a1_6 a1_7)) ∧ (Kd.R (Kd.int .i64) 3 w' w.heap.size (fun k_ => some k_ ≠ (v154 : Value).ownBlock) v150 t148) ∧ (Kd.R (Kd.int .i64) 3 w' w.heap.size (fun k_ => some k_ ≠ (v150 : Value).ownBlock) v154 t152) ∧ (w'.heap[gb145]? = some (c26_ a0_0 a0_1 A0_2 l0_2.length c0_2 a0_3 a0_4 A0_5 l0_5.length c0_5 a0_6 a0_7)) ∧ (w'.heap[gb146]? = some (c26_ a1_0 a1_1 A1_2 l1_2.length c1_2 a1_3 a1_4 A1_5 l1_5.length c1_5 a1_6 a1_7)) ∧ (w'.heap[gb147]? = some (c26_ 0 0 none 0 0 0 0 none 0 0 0 0)) ∧ (w'.heap[s_]? = some (c26_ 0 0 none 0 0 0 0 none 0 0 0 0)) ∧ (w.heap.size ≤ s_) ∧ (w.heap.size ≤ s_) ∧ (gb145 ≠ s_) ∧ (s_ ≠ gb145) ∧ (gb146 ≠ s_) ∧ (s_ ≠ gb146) ∧ (gb147 ≠ s_) ∧ (s_ ≠ gb147) ∧ (Below w.heap.size w w')) ?_ ?_
         rotate_left
         ·
          intro hJ9_14_28
          refine join_ (σ := Unit) 6 M0_28 (fun s_ => [(68, .int .i64 t159), (73, .int .i64 t160)]) (fun s_ w' => (q1_ w' gb145 a0_0 a0_1 A0_2 l0_2.length c0_2 a0_3 a0_4 A0_5 l0_5.length c0_5 a0_6 a0_7 (q1e_ w' gb146 a1_0 a1_1 A1_2 l1_2.length c1_2 a1_3 a1_4 A1_5 l1_5.length c1_5 a1_6 a1_7)) ∧ (Kd.R (Kd.int .i64) 3 w' w.heap.size (fun k_ => some k_ ≠ (v154 : Value).ownBlock) v150 t148) ∧ (Kd.R (Kd.int .i64) 3 w' w.heap.size (fun k_ => some k_ ≠ (v150 : Value).ownBlock) v154 t152) ∧ (w'.heap[gb145]? = some (c26_ a0_0 a0_1 A0_2 l0_2.length c0_2 a0_3 a0_4 A0_5 l0_5.length c0_5 a0_6 a0_7)) ∧ (w'.heap[gb146]? = some (c26_ a1_0 a1_1 A1_2 l1_2.length c1_2 a1_3 a1_4 A1_5 l1_5.length c1_5 a1_6 a1_7)) ∧ (w'.heap[gb147]? = some (c26_ 0 0 none 0 0 0 0 none 0 0 0 0)) ∧ (Below w.heap.size w w')) ?_ ?_
          rotate_left
          ·
           intro hJ9_14
           refine join_ (σ := Nat) 6 M0_29 (fun s_ => [(68, .int .i64 t159), (11, .pointer (some ⟨s_, 0, none⟩))]) (fun s_ w' => (q1_ w' gb145 a0_0 a0_1 A0_2 l0_2.length c0_2 a0_3 a0_4 A0_5 l0_5.length c0_5 a0_6 a0_7 (q1e_ w' gb146 a1_0 a1_1 A1_2 l1_2.length c1_2 a1_3 a1_4 A1_5 l1_5.length c1_5 a1_6 a1_7)) ∧ (Kd.R (Kd.int .i64) 3 w' w.heap.size (fun k_ => some k_ ≠ (v154 : Value).ownBlock) v150 t148) ∧ (Kd.R (Kd.int .i64) 3 w' w.heap.size (fun k_ => some k_ ≠ (v150 : Value).ownBlock) v154 t152) ∧ (w'.heap[gb145]? = some (c26_ a0_0 a0_1 A0_2 l0_2.length c0_2 a0_3 a0_4 A0_5 l0_5.length c0_5 a0_6 a0_7)) ∧ (w'.heap[gb146]? = some (c26_ a1_0 a1_1 A1_2 l1_2.length c1_2 a1_3 a1_4 A1_5 l1_5.length c1_5 a1_6 a1_7)) ∧ (w'.heap[gb147]? = some (c26_ 0 0 none 0 0 0 0 none 0 0 0 0)) ∧ (w'.heap[s_]? = some (c26_ 0 0 none 0 0 0 0 none 0 0 0 0)) ∧ (w.heap.size ≤ s_) ∧ (w.heap.size ≤ s_) ∧ (gb145 ≠ s_) ∧ (s_ ≠ gb145) ∧ (gb146 ≠ s_) ∧ (s_ ≠ gb146) ∧ (gb147 ≠ s_) ∧ (s_ ≠ gb147) ∧ (Below w.heap.size w w')) ?_ ?_
           rotate_left
           ·
            intro hJ9_28
            refine join_ (σ := Unit) 7 M0_30 (fun s_ => [(68, .int .i64 t159)]) (fun s_ w' => (q1_ w' gb145 a0_0 a0_1 A0_2 l0_2.length c0_2 a0_3 a0_4 A0_5 l0_5.length c0_5 a0_6 a0_7 (q1e_ w' gb146 a1_0 a1_1 A1_2 l1_2.length c1_2 a1_3 a1_4 A1_5 l1_5.length c1_5 a1_6 a1_7)) ∧ (Kd.R (Kd.int .i64) 3 w' w.heap.size (fun k_ => some k_ ≠ (v154 : Value).ownBlock) v150 t148) ∧ (Kd.R (Kd.int .i64) 3 w' w.heap.size (fun k_ => some k_ ≠ (v150 : Value).ownBlock) v154 t152) ∧ (w'.heap[gb145]? = some (c26_ a0_0 a0_1 A0_2 l0_2.length c0_2 a0_3 a0_4 A0_5 l0_5.length c0_5 a0_6 a0_7)) ∧ (w'.heap[gb146]? = some (c26_ a1_0 a1_1 A1_2 l1_2.length c1_2 a1_3 a1_4 A1_5 l1_5.length c1_5 a1_6 a1_7)) ∧ (w'.heap[gb147]? = some (c26_ 0 0 none 0 0 0 0 none 0 0 0 0)) ∧ (Below w.heap.size w w')) ?_ ?_
            rotate_left
            ·
             intro hJ9
             refine join_ (σ := Nat) 7 M0_31 (fun s_ => [(11, .pointer (some ⟨s_, 0, none⟩))]) (fun s_ w' => (q1_ w' gb145 a0_0 a0_1 A0_2 l0_2.length c0_2 a0_3 a0_4 A0_5 l0_5.length c0_5 a0_6 a0_7 (q1e_ w' gb146 a1_0 a1_1 A1_2 l1_2.length c1_2 a1_3 a1_4 A1_5 l1_5.length c1_5 a1_6 a1_7)) ∧ (Kd.R (Kd.int .i64) 3 w' w.heap.size (fun k_ => some k_ ≠ (v154 : Value).ownBlock) v150 t148) ∧ (Kd.R (Kd.int .i64) 3 w' w.heap.size (fun k_ => some k_ ≠ (v150 : Value).ownBlock) v154 t152) ∧ (w'.heap[gb145]? = some (c26_ a0_0 a0_1 A0_2 l0_2.length c0_2 a0_3 a0_4 A0_5 l0_5.length c0_5 a0_6 a0_7)) ∧ (w'.heap[gb146]? = some (c26_ a1_0 a1_1 A1_2 l1_2.length c1_2 a1_3 a1_4 A1_5 l1_5.length c1_5 a1_6 a1_7)) ∧ (w'.heap[gb147]? = some (c26_ 0 0 none 0 0 0 0 none 0 0 0 0)) ∧ (w'.heap[s_]? = some (c26_ 0 0 none 0 0 0 0 none 0 0 0 0)) ∧ (w.heap.size ≤ s_) ∧ (w.heap.size ≤ s_) ∧ (gb145 ≠ s_) ∧ (s_ ≠ gb145) ∧ (gb146 ≠ s_) ∧ (s_ ≠ gb146) ∧ (gb147 ≠ s_) ∧ (s_ ≠ gb147) ∧ (Below w.heap.size w w')) ?_ ?_
             rotate_left
             ·
              intro hJ28
              refine two_ (i := 9) (j := 28) (Ni := some 68) (Nj := some 11) M0_30 M0_31 rfl rfl rfl rfl (two_of HT_.out (by kernel_rfl)) (by decide) (by decide) (fun K hK => ?_) (fun K hK => ?_)
              ·
               skip
               refine goes_ Try.func77 (by kernel_rfl) rfl #[.int .i64 a0_3, .int .i64 a1_3] (by rfl) rfl rfl ma_ ?_
               with_reducible refine (spec_Max.calls a0_3 a1_3 t159 _ A67.out).mono ?_
               rintro e w' ⟨rfl, ⟨nd, rfl⟩⟩
               refine ⟨_, rfl, ?_⟩
               refine hK.out _ _ (k1_ BK145.out (k1e_ BK146.out)) (fun hHeld => ?_)
               clear hK K
               refine norm_ (a' := ?_) ?_ ?_
               rotate_left
               ·
                show Act.put _ (some 68) _ = _
                simp only [Act.put, P0_1, P0_2, P0_3, i64_w, i32_w]
                rfl
               exact norm_ y34_ (hJ9 () _ ⟨hHeld, rd_ HO_6.out, rd_ HO_8.out, bd_ BK145.out, bd_ BK146.out, bd_ BK147.out, y30_⟩)
              ·
               skip
               refine box_step ?hg (N := 11) ?hd (cs := #[.int .i64 0, .int .i64 0, .slice none 0 0, .int .i64 0, .int .i64 0, .slice none 0 0, .int .i64 0, .int .i64 0]) (t := 41) ?hr ?_; (case hd => rfl); (case hg => rfl); (case hr => first | (go_simp; done) | (go_simp; rfl))
               intro gb163 hg w104 hbox hb
               have n0_ := Aside0.mk (Kd.R_below (rd_ HO_6.out) hb)
               have n1_ := Aside0.mk (Kd.R_below (rd_ HO_8.out) hb)
               have n2_ := Aside0.mk (blk_below (bd_ BK145.out) hb)
               have n3_ := Aside0.mk (blk_below (bd_ BK146.out) hb)
               have n4_ := Aside0.mk (blk_below (bd_ BK147.out) hb)
               have n5_ := Aside0.mk (below_step y30_ hb)
               have BK163 := Aside0.mk (hbox)
               have GW163 := Aside0.mk ((y57_ : w.heap.size ≤ gb163))
               have GE163 := Aside0.mk ((y57_ : w.heap.size ≤ gb163))
               have NB145_163 := Aside0.mk ((y41_ : gb145 ≠ gb163))
               have NB163_145 := Aside0.mk ((y42_ : gb163 ≠ gb145))
               have NB146_163 := Aside0.mk ((y43_ : gb146 ≠ gb163))
               have NB163_146 := Aside0.mk ((y44_ : gb163 ≠ gb146))
               have NB147_163 := Aside0.mk ((y50_ : gb147 ≠ gb163))
               have NB163_147 := Aside0.mk ((y51_ : gb163 ≠ gb147))
               clear HO_6
               clear HO_8
               clear BK145
               clear BK146
               clear BK147
               clear HB
               have HO_6 := n0_
               have HO_8 := n1_
               have BK145 := n2_
               have BK146 := n3_
               have BK147 := n4_
               have HB := n5_
               clear n0_ n1_ n2_ n3_ n4_ n5_
               clear hb hbox hg
               refine hK.out _ _ (k1_ BK145.out (k1e_ BK146.out)) (fun hHeld => ?_)
               clear hK K
               refine norm_ (a' := ?_) ?_ ?_
               rotate_left
               ·
                show Act.put _ (some 11) _ = _
                simp only [Act.put, P0_1, P0_2, P0_3, i64_w, i32_w]
                rfl
               exact norm_ y34_ (hJ28 (gb163) _ ⟨hHeld, rd_ HO_6.out, rd_ HO_8.out, bd_ BK145.out, bd_ BK146.out, bd_ BK147.out, bd_ BK163.out, GW163.out, GE163.out, NB145_163.out, NB163_145.out, NB146_163.out, NB163_146.out, NB147_163.out, NB163_147.out, y35_⟩)
             ·
              skip
              rintro gb163 w105 ⟨hS_, h0_, h1_, h2_, h3_, h4_, h5_, h6_, h7_, h8_, h9_, h10_, h11_, h12_, h13_, h14_⟩
              have n0_ : Aside0 (Kd.R (Kd.int .i64) 3 w105 w.heap.size (fun k_ => some k_ ≠ (v154 : Value).ownBlock) v150 t148) := ⟨h0_⟩
              have n1_ : Aside0 (Kd.R (Kd.int .i64) 3 w105 w.heap.size (fun k_ => some k_ ≠ (v150 : Value).ownBlock) v154 t152) := ⟨h1_⟩
              have n2_ : Aside0 (w105.heap[gb145]? = some (c26_ a0_0 a0_1 A0_2 l0_2.length c0_2 a0_3 a0_4 A0_5 l0_5.length c0_5 a0_6 a0_7)) := ⟨h2_⟩
              have n3_ : Aside0 (w105.heap[gb146]? = some (c26_ a1_0 a1_1 A1_2 l1_2.length c1_2 a1_3 a1_4 A1_5 l1_5.length c1_5 a1_6 a1_7)) := ⟨h3_⟩
              have n4_ : Aside0 (w105.heap[gb147]? = some (c26_ 0 0 none 0 0 0 0 none 0 0 0 0)) := ⟨h4_⟩
              have BK163 : Aside0 (w105.heap[gb163]? = some (c26_ 0 0 none 0 0 0 0 none 0 0 0 0)) := ⟨h5_⟩
              have GW163 : Aside0 (w.heap.size ≤ gb163) := ⟨h6_⟩
              have GE163 : Aside0 (w.heap.size ≤ gb163) := ⟨h7_⟩
              have NB145_163 : Aside0 (gb145 ≠ gb163) := ⟨h8_⟩
              have NB163_145 : Aside0 (gb163 ≠ gb145) := ⟨h9_⟩
              have NB146_163 : Aside0 (gb146 ≠ gb163) := ⟨h10_⟩
              have NB163_146 : Aside0 (gb163 ≠ gb146) := ⟨h11_⟩
              have NB147_163 : Aside0 (gb147 ≠ gb163) := ⟨h12_⟩
              have NB163_147 : Aside0 (gb163 ≠ gb147) := ⟨h13_⟩
              have n14_ : Aside0 (Below w.heap.size w w105) := ⟨h14_⟩
              clear HO_6
              clear HO_8
              clear BK145
              clear BK146
              clear BK147
              clear HB
              clear h0_ h1_ h2_ h3_ h4_ h5_ h6_ h7_ h8_ h9_ h10_ h11_ h12_ h13_ h14_
              have HO_6 := n0_
              have HO_8 := n1_
              have BK145 := n2_
              have BK146 := n3_
              have BK147 := n4_
              have HB := n14_
              clear n0_ n1_ n2_ n3_ n4_ n14_
              have hHeld : q1_ w105 gb145 a0_0 a0_1 A0_2 l0_2.length c0_2 a0_3 a0_4 A0_5 l0_5.length c0_5 a0_6 a0_7 (q1e_ w105 gb146 a1_0 a1_1 A1_2 l1_2.length c1_2 a1_3 a1_4 A1_5 l1_5.length c1_5 a1_6 a1_7) := hS_
              refine norm_ (a' := ?_) ?_ ?_
              rotate_left
              ·
               simp only [putAll, Act.put, List.setIfInBounds_toArray, List.set_cons_zero, List.set_cons_succ]
               rfl
              refine one_ (i := 9) (N := some 68) M0_29 rfl rfl (one_of HT_.out (by kernel_rfl)) (by decide) (fun K hK => ?_)
              refine goes_ Try.func77 (by kernel_rfl) rfl #[.int .i64 a0_3, .int .i64 a1_3] (by rfl) rfl rfl ma_ ?_
              with_reducible refine (spec_Max.calls a0_3 a1_3 t159 _ A67.out).mono ?_
              rintro e w' ⟨rfl, ⟨nd, rfl⟩⟩
              refine ⟨_, rfl, ?_⟩
              refine hK.out _ _ (k1_ BK145.out (k1e_ BK146.out)) (fun hHeld => ?_)
              clear hK K
              refine norm_ (a' := ?_) ?_ ?_
              rotate_left
              ·
               show Act.put _ (some 68) _ = _
               simp only [Act.put, P0_1, P0_2, P0_3, i64_w, i32_w]
               rfl
              exact norm_ y34_ (hJ9_28 (gb163) _ ⟨hHeld, rd_ HO_6.out, rd_ HO_8.out, bd_ BK145.out, bd_ BK146.out, bd_ BK147.out, bd_ BK163.out, GW163.out, GE163.out, NB145_163.out, NB163_145.out, NB146_163.out, NB163_146.out, NB147_163.out, NB163_147.out, y35_⟩)
            ·
             skip
             rintro _ w104 ⟨hS_, h0_, h1_, h2_, h3_, h4_, h5_⟩
             have n0_ : Aside0 (Kd.R (Kd.int .i64) 3 w104 w.heap.size (fun k_ => some k_ ≠ (v154 : Value).ownBlock) v150 t148) := ⟨h0_⟩
             have n1_ : Aside0 (Kd.R (Kd.int .i64) 3 w104 w.heap.size (fun k_ => some k_ ≠ (v150 : Value).ownBlock) v154 t152) := ⟨h1_⟩
             have n2_ : Aside0 (w104.heap[gb145]? = some (c26_ a0_0 a0_1 A0_2 l0_2.length c0_2 a0_3 a0_4 A0_5 l0_5.length c0_5 a0_6 a0_7)) := ⟨h2_⟩
             have n3_ : Aside0 (w104.heap[gb146]? = some (c26_ a1_0 a1_1 A1_2 l1_2.length c1_2 a1_3 a1_4 A1_5 l1_5.length c1_5 a1_6 a1_7)) := ⟨h3_⟩
             have n4_ : Aside0 (w104.heap[gb147]? = some (c26_ 0 0 none 0 0 0 0 none 0 0 0 0)) := ⟨h4_⟩
             have n5_ : Aside0 (Below w.heap.size w w104) := ⟨h5_⟩
             clear HO_6
             clear HO_8
             clear BK145
             clear BK146
             clear BK147
             clear HB
             clear h0_ h1_ h2_ h3_ h4_ h5_
             have HO_6 := n0_
             have HO_8 := n1_
             have BK145 := n2_
             have BK146 := n3_
             have BK147 := n4_
             have HB := n5_
             clear n0_ n1_ n2_ n3_ n4_ n5_
             have hHeld : q1_ w104 gb145 a0_0 a0_1 A0_2 l0_2.length c0_2 a0_3 a0_4 A0_5 l0_5.length c0_5 a0_6 a0_7 (q1e_ w104 gb146 a1_0 a1_1 A1_2 l1_2.length c1_2 a1_3 a1_4 A1_5 l1_5.length c1_5 a1_6 a1_7) := hS_
             refine norm_ (a' := ?_) ?_ ?_
             rotate_left
             ·
              simp only [putAll, Act.put, List.setIfInBounds_toArray, List.set_cons_zero, List.set_cons_succ]
              rfl
             refine two_ (i := 14) (j := 28) (Ni := some 73) (Nj := some 11) M0_28 M0_29 rfl rfl rfl rfl (two_of HT_.out (by kernel_rfl)) (by decide) (by decide) (fun K hK => ?_) (fun K hK => ?_)
             ·
              skip
              refine goes_ Try.func78 (by kernel_rfl) rfl #[.int .i64 a0_4, .int .i64 a1_4] (by rfl) rfl rfl ma_ ?_
              with_reducible refine (spec_Min.calls a0_4 a1_4 t160 _ A68.out).mono ?_
              rintro e w' ⟨rfl, ⟨nd, rfl⟩⟩
              refine ⟨_, rfl, ?_⟩
              refine hK.out _ _ (k1_ BK145.out (k1e_ BK146.out)) (fun hHeld => ?_)
              clear hK K
              refine norm_ (a' := ?_) ?_ ?_
              rotate_left
              ·
               show Act.put _ (some 73) _ = _
               simp only [Act.put, P0_1, P0_2, P0_3, i64_w, i32_w]
               rfl
              exact norm_ y34_ (hJ9_14 () _ ⟨hHeld, rd_ HO_6.out, rd_ HO_8.out, bd_ BK145.out, bd_ BK146.out, bd_ BK147.out, y30_⟩)
             ·
              skip
              refine box_step ?hg (N := 11) ?hd (cs := #[.int .i64 0, .int .i64 0, .slice none 0 0, .int .i64 0, .int .i64 0, .slice none 0 0, .int .i64 0, .int .i64 0]) (t := 41) ?hr ?_; (case hd => rfl); (case hg => rfl); (case hr => first | (go_simp; done) | (go_simp; rfl))
              intro gb163 hg w105 hbox hb
              have n0_ := Aside0.mk (Kd.R_below (rd_ HO_6.out) hb)
              have n1_ := Aside0.mk (Kd.R_below (rd_ HO_8.out) hb)
              have n2_ := Aside0.mk (blk_below (bd_ BK145.out) hb)
              have n3_ := Aside0.mk (blk_below (bd_ BK146.out) hb)
              have n4_ := Aside0.mk (blk_below (bd_ BK147.out) hb)
              have n5_ := Aside0.mk (below_step y30_ hb)
              have BK163 := Aside0.mk (hbox)
              have GW163 := Aside0.mk ((y57_ : w.heap.size ≤ gb163))
              have GE163 := Aside0.mk ((y57_ : w.heap.size ≤ gb163))
              have NB145_163 := Aside0.mk ((y41_ : gb145 ≠ gb163))
              have NB163_145 := Aside0.mk ((y42_ : gb163 ≠ gb145))
              have NB146_163 := Aside0.mk ((y43_ : gb146 ≠ gb163))
              have NB163_146 := Aside0.mk ((y44_ : gb163 ≠ gb146))
              have NB147_163 := Aside0.mk ((y50_ : gb147 ≠ gb163))
              have NB163_147 := Aside0.mk ((y51_ : gb163 ≠ gb147))
              clear HO_6
              clear HO_8
              clear BK145
              clear BK146
              clear BK147
              clear HB
              have HO_6 := n0_
              have HO_8 := n1_
              have BK145 := n2_
              have BK146 := n3_
              have BK147 := n4_
              have HB := n5_
              clear n0_ n1_ n2_ n3_ n4_ n5_
              clear hb hbox hg
              refine hK.out _ _ (k1_ BK145.out (k1e_ BK146.out)) (fun hHeld => ?_)
              clear hK K
              refine norm_ (a' := ?_) ?_ ?_
              rotate_left
              ·
               show Act.put _ (some 11) _ = _
               simp only [Act.put, P0_1, P0_2, P0_3, i64_w, i32_w]
               rfl
              exact norm_ y34_ (hJ9_28 (gb163) _ ⟨hHeld, rd_ HO_6.out, rd_ HO_8.out, bd_ BK145.out, bd_ BK146.out, bd_ BK147.out, bd_ BK163.out, GW163.out, GE163.out, NB145_163.out, NB163_145.out, NB146_163.out, NB163_146.out, NB147_163.out, NB163_147.out, y35_⟩)
           ·
            skip
            rintro gb163 w105 ⟨hS_, h0_, h1_, h2_, h3_, h4_, h5_, h6_, h7_, h8_, h9_, h10_, h11_, h12_, h13_, h14_⟩
            have n0_ : Aside0 (Kd.R (Kd.int .i64) 3 w105 w.heap.size (fun k_ => some k_ ≠ (v154 : Value).ownBlock) v150 t148) := ⟨h0_⟩
            have n1_ : Aside0 (Kd.R (Kd.int .i64) 3 w105 w.heap.size (fun k_ => some k_ ≠ (v150 : Value).ownBlock) v154 t152) := ⟨h1_⟩
            have n2_ : Aside0 (w105.heap[gb145]? = some (c26_ a0_0 a0_1 A0_2 l0_2.length c0_2 a0_3 a0_4 A0_5 l0_5.length c0_5 a0_6 a0_7)) := ⟨h2_⟩
            have n3_ : Aside0 (w105.heap[gb146]? = some (c26_ a1_0 a1_1 A1_2 l1_2.length c1_2 a1_3 a1_4 A1_5 l1_5.length c1_5 a1_6 a1_7)) := ⟨h3_⟩
            have n4_ : Aside0 (w105.heap[gb147]? = some (c26_ 0 0 none 0 0 0 0 none 0 0 0 0)) := ⟨h4_⟩
            have BK163 : Aside0 (w105.heap[gb163]? = some (c26_ 0 0 none 0 0 0 0 none 0 0 0 0)) := ⟨h5_⟩
            have GW163 : Aside0 (w.heap.size ≤ gb163) := ⟨h6_⟩
            have GE163 : Aside0 (w.heap.size ≤ gb163) := ⟨h7_⟩
            have NB145_163 : Aside0 (gb145 ≠ gb163) := ⟨h8_⟩
            have NB163_145 : Aside0 (gb163 ≠ gb145) := ⟨h9_⟩
            have NB146_163 : Aside0 (gb146 ≠ gb163) := ⟨h10_⟩
            have NB163_146 : Aside0 (gb163 ≠ gb146) := ⟨h11_⟩
            have NB147_163 : Aside0 (gb147 ≠ gb163) := ⟨h12_⟩
            have NB163_147 : Aside0 (gb163 ≠ gb147) := ⟨h13_⟩
            have n14_ : Aside0 (Below w.heap.size w w105) := ⟨h14_⟩
            clear HO_6
            clear HO_8
            clear BK145
            clear BK146
            clear BK147
            clear HB
            clear h0_ h1_ h2_ h3_ h4_ h5_ h6_ h7_ h8_ h9_ h10_ h11_ h12_ h13_ h14_
            have HO_6 := n0_
            have HO_8 := n1_
            have BK145 := n2_
            have BK146 := n3_
            have BK147 := n4_
            have HB := n14_
            clear n0_ n1_ n2_ n3_ n4_ n14_
            have hHeld : q1_ w105 gb145 a0_0 a0_1 A0_2 l0_2.length c0_2 a0_3 a0_4 A0_5 l0_5.length c0_5 a0_6 a0_7 (q1e_ w105 gb146 a1_0 a1_1 A1_2 l1_2.length c1_2 a1_3 a1_4 A1_5 l1_5.length c1_5 a1_6 a1_7) := hS_
            refine norm_ (a' := ?_) ?_ ?_
            rotate_left
            ·
             simp only [putAll, Act.put, List.setIfInBounds_toArray, List.set_cons_zero, List.set_cons_succ]
             rfl
            refine one_ (i := 14) (N := some 73) M0_27 rfl rfl (one_of HT_.out (by kernel_rfl)) (by decide) (fun K hK => ?_)
            refine goes_ Try.func78 (by kernel_rfl) rfl #[.int .i64 a0_4, .int .i64 a1_4] (by rfl) rfl rfl ma_ ?_
            with_reducible refine (spec_Min.calls a0_4 a1_4 t160 _ A68.out).mono ?_
            rintro e w' ⟨rfl, ⟨nd, rfl⟩⟩
            refine ⟨_, rfl, ?_⟩
            refine hK.out _ _ (k1_ BK145.out (k1e_ BK146.out)) (fun hHeld => ?_)
            clear hK K
            refine norm_ (a' := ?_) ?_ ?_
            rotate_left
            ·
             show Act.put _ (some 73) _ = _
             simp only [Act.put, P0_1, P0_2, P0_3, i64_w, i32_w]
             rfl
            exact norm_ y34_ (hJ9_14_28 (gb163) _ ⟨hHeld, rd_ HO_6.out, rd_ HO_8.out, bd_ BK145.out, bd_ BK146.out, bd_ BK147.out, bd_ BK163.out, GW163.out, GE163.out, NB145_163.out, NB163_145.out, NB146_163.out, NB163_146.out, NB147_163.out, NB163_147.out, y35_⟩)
          ·
           skip
           rintro _ w104 ⟨hS_, h0_, h1_, h2_, h3_, h4_, h5_⟩
           have n0_ : Aside0 (Kd.R (Kd.int .i64) 3 w104 w.heap.size (fun k_ => some k_ ≠ (v154 : Value).ownBlock) v150 t148) := ⟨h0_⟩
           have n1_ : Aside0 (Kd.R (Kd.int .i64) 3 w104 w.heap.size (fun k_ => some k_ ≠ (v150 : Value).ownBlock) v154 t152) := ⟨h1_⟩
           have n2_ : Aside0 (w104.heap[gb145]? = some (c26_ a0_0 a0_1 A0_2 l0_2.length c0_2 a0_3 a0_4 A0_5 l0_5.length c0_5 a0_6 a0_7)) := ⟨h2_⟩
           have n3_ : Aside0 (w104.heap[gb146]? = some (c26_ a1_0 a1_1 A1_2 l1_2.length c1_2 a1_3 a1_4 A1_5 l1_5.length c1_5 a1_6 a1_7)) := ⟨h3_⟩
           have n4_ : Aside0 (w104.heap[gb147]? = some (c26_ 0 0 none 0 0 0 0 none 0 0 0 0)) := ⟨h4_⟩
           have n5_ : Aside0 (Below w.heap.size w w104) := ⟨h5_⟩
           clear HO_6
           clear HO_8
           clear BK145
           clear BK146
           clear BK147
           clear HB
           clear h0_ h1_ h2_ h3_ h4_ h5_
           have HO_6 := n0_
           have HO_8 := n1_
           have BK145 := n2_
           have BK146 := n3_
           have BK147 := n4_
           have HB := n5_
           clear n0_ n1_ n2_ n3_ n4_ n5_
           have hHeld : q1_ w104 gb145 a0_0 a0_1 A0_2 l0_2.length c0_2 a0_3 a0_4 A0_5 l0_5.length c0_5 a0_6 a0_7 (q1e_ w104 gb146 a1_0 a1_1 A1_2 l1_2.length c1_2 a1_3 a1_4 A1_5 l1_5.length c1_5 a1_6 a1_7) := hS_
           refine norm_ (a' := ?_) ?_ ?_
           rotate_left
           ·
            simp only [putAll, Act.put, List.setIfInBounds_toArray, List.set_cons_zero, List.set_cons_succ]
            rfl
           refine two_ (i := 24) (j := 28) (Ni := some 83) (Nj := some 11) M0_26 M0_27 rfl rfl rfl rfl (two_of HT_.out (by kernel_rfl)) (by decide) (by decide) (fun K hK => ?_) (fun K hK => ?_)
           ·
            skip
            refine goes_ Try.func78 (by kernel_rfl) rfl #[.int .i64 a0_7, .int .i64 a1_7] (by rfl) rfl rfl ma_ ?_
            with_reducible refine (spec_Min.calls a0_7 a1_7 t161 _ A69.out).mono ?_
            rintro e w' ⟨rfl, ⟨nd, rfl⟩⟩
            refine ⟨_, rfl, ?_⟩
            refine hK.out _ _ (k1_ BK145.out (k1e_ BK146.out)) (fun hHeld => ?_)
            clear hK K
            refine norm_ (a' := ?_) ?_ ?_
            rotate_left
            ·
             show Act.put _ (some 83) _ = _
             simp only [Act.put, P0_1, P0_2, P0_3, i64_w, i32_w]
             rfl
            exact norm_ y34_ (hJ9_14_24 () _ ⟨hHeld, rd_ HO_6.out, rd_ HO_8.out, bd_ BK145.out, bd_ BK146.out, bd_ BK147.out, y30_⟩)
           ·
            skip
            refine box_step ?hg (N := 11) ?hd (cs := #[.int .i64 0, .int .i64 0, .slice none 0 0, .int .i64 0, .int .i64 0, .slice none 0 0, .int .i64 0, .int .i64 0]) (t := 41) ?hr ?_; (case hd => rfl); (case hg => rfl); (case hr => first | (go_simp; done) | (go_simp; rfl))
            intro gb163 hg w105 hbox hb
            have n0_ := Aside0.mk (Kd.R_below (rd_ HO_6.out) hb)
            have n1_ := Aside0.mk (Kd.R_below (rd_ HO_8.out) hb)
            have n2_ := Aside0.mk (blk_below (bd_ BK145.out) hb)
            have n3_ := Aside0.mk (blk_below (bd_ BK146.out) hb)
            have n4_ := Aside0.mk (blk_below (bd_ BK147.out) hb)
            have n5_ := Aside0.mk (below_step y30_ hb)
            have BK163 := Aside0.mk (hbox)
            have GW163 := Aside0.mk ((y57_ : w.heap.size ≤ gb163))
            have GE163 := Aside0.mk ((y57_ : w.heap.size ≤ gb163))
            have NB145_163 := Aside0.mk ((y41_ : gb145 ≠ gb163))
            have NB163_145 := Aside0.mk ((y42_ : gb163 ≠ gb145))
            have NB146_163 := Aside0.mk ((y43_ : gb146 ≠ gb163))
            have NB163_146 := Aside0.mk ((y44_ : gb163 ≠ gb146))
            have NB147_163 := Aside0.mk ((y50_ : gb147 ≠ gb163))
            have NB163_147 := Aside0.mk ((y51_ : gb163 ≠ gb147))
            clear HO_6
            clear HO_8
            clear BK145
            clear BK146
            clear BK147
            clear HB
            have HO_6 := n0_
            have HO_8 := n1_
            have BK145 := n2_
            have BK146 := n3_
            have BK147 := n4_
            have HB := n5_
            clear n0_ n1_ n2_ n3_ n4_ n5_
            clear hb hbox hg
            refine hK.out _ _ (k1_ BK145.out (k1e_ BK146.out)) (fun hHeld => ?_)
            clear hK K
            refine norm_ (a' := ?_) ?_ ?_
            rotate_left
            ·
             show Act.put _ (some 11) _ = _
             simp only [Act.put, P0_1, P0_2, P0_3, i64_w, i32_w]
             rfl
            exact norm_ y34_ (hJ9_14_28 (gb163) _ ⟨hHeld, rd_ HO_6.out, rd_ HO_8.out, bd_ BK145.out, bd_ BK146.out, bd_ BK147.out, bd_ BK163.out, GW163.out, GE163.out, NB145_163.out, NB163_145.out, NB146_163.out, NB163_146.out, NB147_163.out, NB163_147.out, y35_⟩)
         ·
          skip
          rintro gb163 w105 ⟨hS_, h0_, h1_, h2_, h3_, h4_, h5_, h6_, h7_, h8_, h9_, h10_, h11_, h12_, h13_, h14_⟩
          have n0_ : Aside0 (Kd.R (Kd.int .i64) 3 w105 w.heap.size (fun k_ => some k_ ≠ (v154 : Value).ownBlock) v150 t148) := ⟨h0_⟩
          have n1_ : Aside0 (Kd.R (Kd.int .i64) 3 w105 w.heap.size (fun k_ => some k_ ≠ (v150 : Value).ownBlock) v154 t152) := ⟨h1_⟩
          have n2_ : Aside0 (w105.heap[gb145]? = some (c26_ a0_0 a0_1 A0_2 l0_2.length c0_2 a0_3 a0_4 A0_5 l0_5.length c0_5 a0_6 a0_7)) := ⟨h2_⟩
          have n3_ : Aside0 (w105.heap[gb146]? = some (c26_ a1_0 a1_1 A1_2 l1_2.length c1_2 a1_3 a1_4 A1_5 l1_5.length c1_5 a1_6 a1_7)) := ⟨h3_⟩
          have n4_ : Aside0 (w105.heap[gb147]? = some (c26_ 0 0 none 0 0 0 0 none 0 0 0 0)) := ⟨h4_⟩
          have BK163 : Aside0 (w105.heap[gb163]? = some (c26_ 0 0 none 0 0 0 0 none 0 0 0 0)) := ⟨h5_⟩
          have GW163 : Aside0 (w.heap.size ≤ gb163) := ⟨h6_⟩
          have GE163 : Aside0 (w.heap.size ≤ gb163) := ⟨h7_⟩
          have NB145_163 : Aside0 (gb145 ≠ gb163) := ⟨h8_⟩
          have NB163_145 : Aside0 (gb163 ≠ gb145) := ⟨h9_⟩
          have NB146_163 : Aside0 (gb146 ≠ gb163) := ⟨h10_⟩
          have NB163_146 : Aside0 (gb163 ≠ gb146) := ⟨h11_⟩
          have NB147_163 : Aside0 (gb147 ≠ gb163) := ⟨h12_⟩
          have NB163_147 : Aside0 (gb163 ≠ gb147) := ⟨h13_⟩
          have n14_ : Aside0 (Below w.heap.size w w105) := ⟨h14_⟩
          clear HO_6
          clear HO_8
          clear BK145
          clear BK146
          clear BK147
          clear HB
          clear h0_ h1_ h2_ h3_ h4_ h5_ h6_ h7_ h8_ h9_ h10_ h11_ h12_ h13_ h14_
          have HO_6 := n0_
          have HO_8 := n1_
          have BK145 := n2_
          have BK146 := n3_
          have BK147 := n4_
          have HB := n14_
          clear n0_ n1_ n2_ n3_ n4_ n14_
          have hHeld : q1_ w105 gb145 a0_0 a0_1 A0_2 l0_2.length c0_2 a0_3 a0_4 A0_5 l0_5.length c0_5 a0_6 a0_7 (q1e_ w105 gb146 a1_0 a1_1 A1_2 l1_2.length c1_2 a1_3 a1_4 A1_5 l1_5.length c1_5 a1_6 a1_7) := hS_
          refine norm_ (a' := ?_) ?_ ?_
          rotate_left
          ·
           simp only [putAll, Act.put, List.setIfInBounds_toArray, List.set_cons_zero, List.set_cons_succ]
           rfl
          refine one_ (i := 24) (N := some 83) M0_25 rfl rfl (one_of HT_.out (by kernel_rfl)) (by decide) (fun K hK => ?_)
          refine goes_ Try.func78 (by kernel_rfl) rfl #[.int .i64 a0_7, .int .i64 a1_7] (by rfl) rfl rfl ma_ ?_
          with_reducible refine (spec_Min.calls a0_7 a1_7 t161 _ A69.out).mono ?_
          rintro e w' ⟨rfl, ⟨nd, rfl⟩⟩
          refine ⟨_, rfl, ?_⟩
          refine hK.out _ _ (k1_ BK145.out (k1e_ BK146.out)) (fun hHeld => ?_)
          clear hK K
          refine norm_ (a' := ?_) ?_ ?_
          rotate_left
          ·
           show Act.put _ (some 83) _ = _
           simp only [Act.put, P0_1, P0_2, P0_3, i64_w, i32_w]
           rfl
          exact norm_ y34_ (hJ9_14_24_28 (gb163) _ ⟨hHeld, rd_ HO_6.out, rd_ HO_8.out, bd_ BK145.out, bd_ BK146.out, bd_ BK147.out, bd_ BK163.out, GW163.out, GE163.out, NB145_163.out, NB163_145.out, NB146_163.out, NB163_146.out, NB147_163.out, NB163_147.out, y35_⟩)
        ·
         skip
         rintro _ w104 ⟨hS_, h0_, h1_, h2_, h3_, h4_, h5_⟩
         have n0_ : Aside0 (Kd.R (Kd.int .i64) 3 w104 w.heap.size (fun k_ => some k_ ≠ (v154 : Value).ownBlock) v150 t148) := ⟨h0_⟩
         have n1_ : Aside0 (Kd.R (Kd.int .i64) 3 w104 w.heap.size (fun k_ => some k_ ≠ (v150 : Value).ownBlock) v154 t152) := ⟨h1_⟩
         have n2_ : Aside0 (w104.heap[gb145]? = some (c26_ a0_0 a0_1 A0_2 l0_2.length c0_2 a0_3 a0_4 A0_5 l0_5.length c0_5 a0_6 a0_7)) := ⟨h2_⟩
         have n3_ : Aside0 (w104.heap[gb146]? = some (c26_ a1_0 a1_1 A1_2 l1_2.length c1_2 a1_3 a1_4 A1_5 l1_5.length c1_5 a1_6 a1_7)) := ⟨h3_⟩
         have n4_ : Aside0 (w104.heap[gb147]? = some (c26_ 0 0 none 0 0 0 0 none 0 0 0 0)) := ⟨h4_⟩
         have n5_ : Aside0 (Below w.heap.size w w104) := ⟨h5_⟩
         clear HO_6
         clear HO_8
         clear BK145
         clear BK146
         clear BK147
         clear HB
         clear h0_ h1_ h2_ h3_ h4_ h5_
         have HO_6 := n0_
         have HO_8 := n1_
         have BK145 := n2_
         have BK146 := n3_
         have BK147 := n4_
         have HB := n5_
         clear n0_ n1_ n2_ n3_ n4_ n5_
         have hHeld : q1_ w104 gb145 a0_0 a0_1 A0_2 l0_2.length c0_2 a0_3 a0_4 A0_5 l0_5.length c0_5 a0_6 a0_7 (q1e_ w104 gb146 a1_0 a1_1 A1_2 l1_2.length c1_2 a1_3 a1_4 A1_5 l1_5.length c1_5 a1_6 a1_7) := hS_
         refine norm_ (a' := ?_) ?_ ?_
         rotate_left
         ·
          simp only [putAll, Act.put, List.setIfInBounds_toArray, List.set_cons_zero, List.set_cons_succ]
          rfl
         refine two_ (i := 25) (j := 28) (Ni := some 84) (Nj := some 11) M0_32 M0_25 rfl rfl rfl rfl (two_of HT_.out (by kernel_rfl)) (by decide) (by decide) (fun K hK => ?_) (fun K hK => ?_)
         ·
          skip
          refine goes_ Try.func77 (by kernel_rfl) rfl #[.int .i64 t158, .int .i64 t161] (by rfl) rfl rfl ma_ ?_
          with_reducible refine (spec_Max.calls t158 t161 t162 _ A70.out).mono ?_
          rintro e w' ⟨rfl, ⟨nd, rfl⟩⟩
          refine ⟨_, rfl, ?_⟩
          have eo104 := EO104.out
          subst eo104
          have eo105 := EO105.out
          subst eo105
          refine hK.out _ _ (k1_ BK145.out (k1e_ BK146.out)) (fun hHeld => ?_)
          clear hK K
          refine norm_ (a' := ?_) ?_ ?_
          rotate_left
          ·
           show Act.put _ (some 84) _ = _
           simp only [Act.put, P0_1, P0_2, P0_3, i64_w, i32_w]
           rfl
          refine pu_ 26 (some 85) M0_33 HT_ ?_
          refine pu_ 27 (some 86) M0_24 HT_ ?_
          exact norm_ y34_ (hJ9_14_24_25 () _ ⟨hHeld, rd_ HO_6.out, rd_ HO_8.out, bd_ BK145.out, bd_ BK146.out, bd_ BK147.out, y30_⟩)
         ·
          skip
          refine box_step ?hg (N := 11) ?hd (cs := #[.int .i64 0, .int .i64 0, .slice none 0 0, .int .i64 0, .int .i64 0, .slice none 0 0, .int .i64 0, .int .i64 0]) (t := 41) ?hr ?_; (case hd => rfl); (case hg => rfl); (case hr => first | (go_simp; done) | (go_simp; rfl))
          intro gb163 hg w105 hbox hb
          have n0_ := Aside0.mk (Kd.R_below (rd_ HO_6.out) hb)
          have n1_ := Aside0.mk (Kd.R_below (rd_ HO_8.out) hb)
          have n2_ := Aside0.mk (blk_below (bd_ BK145.out) hb)
          have n3_ := Aside0.mk (blk_below (bd_ BK146.out) hb)
          have n4_ := Aside0.mk (blk_below (bd_ BK147.out) hb)
          have n5_ := Aside0.mk (below_step y30_ hb)
          have BK163 := Aside0.mk (hbox)
          have GW163 := Aside0.mk ((y57_ : w.heap.size ≤ gb163))
          have GE163 := Aside0.mk ((y57_ : w.heap.size ≤ gb163))
          have NB145_163 := Aside0.mk ((y41_ : gb145 ≠ gb163))
          have NB163_145 := Aside0.mk ((y42_ : gb163 ≠ gb145))
          have NB146_163 := Aside0.mk ((y43_ : gb146 ≠ gb163))
          have NB163_146 := Aside0.mk ((y44_ : gb163 ≠ gb146))
          have NB147_163 := Aside0.mk ((y50_ : gb147 ≠ gb163))
          have NB163_147 := Aside0.mk ((y51_ : gb163 ≠ gb147))
          clear HO_6
          clear HO_8
          clear BK145
          clear BK146
          clear BK147
          clear HB
          have HO_6 := n0_
          have HO_8 := n1_
          have BK145 := n2_
          have BK146 := n3_
          have BK147 := n4_
          have HB := n5_
          clear n0_ n1_ n2_ n3_ n4_ n5_
          clear hb hbox hg
          refine hK.out _ _ (k1_ BK145.out (k1e_ BK146.out)) (fun hHeld => ?_)
          clear hK K
          refine norm_ (a' := ?_) ?_ ?_
          rotate_left
          ·
           show Act.put _ (some 11) _ = _
           simp only [Act.put, P0_1, P0_2, P0_3, i64_w, i32_w]
           rfl
          exact norm_ y34_ (hJ9_14_24_28 (gb163) _ ⟨hHeld, rd_ HO_6.out, rd_ HO_8.out, bd_ BK145.out, bd_ BK146.out, bd_ BK147.out, bd_ BK163.out, GW163.out, GE163.out, NB145_163.out, NB163_145.out, NB146_163.out, NB163_146.out, NB147_163.out, NB163_147.out, y35_⟩)
       ·
        skip
        rintro gb163 w105 ⟨hS_, h0_, h1_, h2_, h3_, h4_, h5_, h6_, h7_, h8_, h9_, h10_, h11_, h12_, h13_, h14_⟩
        have n0_ : Aside0 (Kd.R (Kd.int .i64) 3 w105 w.heap.size (fun k_ => some k_ ≠ (v154 : Value).ownBlock) v150 t148) := ⟨h0_⟩
        have n1_ : Aside0 (Kd.R (Kd.int .i64) 3 w105 w.heap.size (fun k_ => some k_ ≠ (v150 : Value).ownBlock) v154 t152) := ⟨h1_⟩
        have n2_ : Aside0 (w105.heap[gb145]? = some (c26_ a0_0 a0_1 A0_2 l0_2.length c0_2 a0_3 a0_4 A0_5 l0_5.length c0_5 a0_6 a0_7)) := ⟨h2_⟩
        have n3_ : Aside0 (w105.heap[gb146]? = some (c26_ a1_0 a1_1 A1_2 l1_2.length c1_2 a1_3 a1_4 A1_5 l1_5.length c1_5 a1_6 a1_7)) := ⟨h3_⟩
        have n4_ : Aside0 (w105.heap[gb147]? = some (c26_ 0 0 none 0 0 0 0 none 0 0 0 0)) := ⟨h4_⟩
        have BK163 : Aside0 (w105.heap[gb163]? = some (c26_ 0 0 none 0 0 0 0 none 0 0 0 0)) := ⟨h5_⟩
        have GW163 : Aside0 (w.heap.size ≤ gb163) := ⟨h6_⟩
        have GE163 : Aside0 (w.heap.size ≤ gb163) := ⟨h7_⟩
        have NB145_163 : Aside0 (gb145 ≠ gb163) := ⟨h8_⟩
        have NB163_145 : Aside0 (gb163 ≠ gb145) := ⟨h9_⟩
        have NB146_163 : Aside0 (gb146 ≠ gb163) := ⟨h10_⟩
        have NB163_146 : Aside0 (gb163 ≠ gb146) := ⟨h11_⟩
        have NB147_163 : Aside0 (gb147 ≠ gb163) := ⟨h12_⟩
        have NB163_147 : Aside0 (gb163 ≠ gb147) := ⟨h13_⟩
        have n14_ : Aside0 (Below w.heap.size w w105) := ⟨h14_⟩
        clear HO_6
        clear HO_8
        clear BK145
        clear BK146
        clear BK147
        clear HB
        clear h0_ h1_ h2_ h3_ h4_ h5_ h6_ h7_ h8_ h9_ h10_ h11_ h12_ h13_ h14_
        have HO_6 := n0_
        have HO_8 := n1_
        have BK145 := n2_
        have BK146 := n3_
        have BK147 := n4_
        have HB := n14_
        clear n0_ n1_ n2_ n3_ n4_ n14_
        have hHeld : q1_ w105 gb145 a0_0 a0_1 A0_2 l0_2.length c0_2 a0_3 a0_4 A0_5 l0_5.length c0_5 a0_6 a0_7 (q1e_ w105 gb146 a1_0 a1_1 A1_2 l1_2.length c1_2 a1_3 a1_4 A1_5 l1_5.length c1_5 a1_6 a1_7) := hS_
        refine norm_ (a' := ?_) ?_ ?_
        rotate_left
        ·
         simp only [putAll, Act.put, List.setIfInBounds_toArray, List.set_cons_zero, List.set_cons_succ]
         rfl
        refine one_ (i := 25) (N := some 84) M0_34 rfl rfl (one_of HT_.out (by kernel_rfl)) (by decide) (fun K hK => ?_)
        refine goes_ Try.func77 (by kernel_rfl) rfl #[.int .i64 t158, .int .i64 t161] (by rfl) rfl rfl ma_ ?_
        with_reducible refine (spec_Max.calls t158 t161 t162 _ A70.out).mono ?_
        rintro e w' ⟨rfl, ⟨nd, rfl⟩⟩
        refine ⟨_, rfl, ?_⟩
        have eo104 := EO104.out
        subst eo104
        have eo105 := EO105.out
        subst eo105
        refine hK.out _ _ (k1_ BK145.out (k1e_ BK146.out)) (fun hHeld => ?_)
        clear hK K
        refine norm_ (a' := ?_) ?_ ?_
        rotate_left
        ·
         show Act.put _ (some 84) _ = _
         simp only [Act.put, P0_1, P0_2, P0_3, i64_w, i32_w]
         rfl
        refine pu_ 26 (some 85) M0_35 HT_ ?_
        refine pu_ 27 (some 86) M0_23 HT_ ?_
        exact norm_ y34_ (hJ9_14_24_25_28 (gb163) _ ⟨hHeld, rd_ HO_6.out, rd_ HO_8.out, bd_ BK145.out, bd_ BK146.out, bd_ BK147.out, bd_ BK163.out, GW163.out, GE163.out, NB145_163.out, NB163_145.out, NB146_163.out, NB163_146.out, NB147_163.out, NB163_147.out, y35_⟩)
      ·
       skip
       rintro _ w106 ⟨hS_, h0_, h1_, h2_, h3_, h4_, h5_⟩
       have n0_ : Aside0 (Kd.R (Kd.int .i64) 3 w106 w.heap.size (fun k_ => some k_ ≠ (.slice Ao104 t152.length co104 : Value).ownBlock) (.slice Ao105 t148.length co105) t148) := ⟨h0_⟩
       have n1_ : Aside0 (Kd.R (Kd.int .i64) 3 w106 w.heap.size (fun k_ => some k_ ≠ (.slice Ao105 t148.length co105 : Value).ownBlock) (.slice Ao104 t152.length co104) t152) := ⟨h1_⟩
       have n2_ : Aside0 (w106.heap[gb145]? = some (c26_ a0_0 a0_1 A0_2 l0_2.length c0_2 a0_3 a0_4 A0_5 l0_5.length c0_5 a0_6 a0_7)) := ⟨h2_⟩
       have n3_ : Aside0 (w106.heap[gb146]? = some (c26_ a1_0 a1_1 A1_2 l1_2.length c1_2 a1_3 a1_4 A1_5 l1_5.length c1_5 a1_6 a1_7)) := ⟨h3_⟩
       have n4_ : Aside0 (w106.heap[gb147]? = some (c26_ 0 0 none 0 0 0 0 none 0 0 0 0)) := ⟨h4_⟩
       have n5_ : Aside0 (Below w.heap.size w w106) := ⟨h5_⟩
       clear HO_6
       clear HO_8
       clear BK145
       clear BK146
       clear BK147
       clear HB
       clear h0_ h1_ h2_ h3_ h4_ h5_
       have HO_6 := n0_
       have HO_8 := n1_
       have BK145 := n2_
       have BK146 := n3_
       have BK147 := n4_
       have HB := n5_
       clear n0_ n1_ n2_ n3_ n4_ n5_
       have hHeld : q1_ w106 gb145 a0_0 a0_1 A0_2 l0_2.length c0_2 a0_3 a0_4 A0_5 l0_5.length c0_5 a0_6 a0_7 (q1e_ w106 gb146 a1_0 a1_1 A1_2 l1_2.length c1_2 a1_3 a1_4 A1_5 l1_5.length c1_5 a1_6 a1_7) := hS_
       refine norm_ (a' := ?_) ?_ ?_
       rotate_left
       ·
        simp only [putAll, Act.put, List.setIfInBounds_toArray, List.set_cons_zero, List.set_cons_succ]
        rfl
       refine one_ (i := 28) (N := some 11) M0_23 rfl rfl (one_of HT_.out (by kernel_rfl)) (by decide) (fun K hK => ?_)
       refine box_step ?hg (N := 11) ?hd (cs := #[.int .i64 0, .int .i64 0, .slice none 0 0, .int .i64 0, .int .i64 0, .slice none 0 0, .int .i64 0, .int .i64 0]) (t := 41) ?hr ?_; (case hd => rfl); (case hg => rfl); (case hr => first | (go_simp; done) | (go_simp; rfl))
       intro gb163 hg w107 hbox hb
       have n0_ := Aside0.mk (Kd.R_below (rd_ HO_6.out) hb)
       have n1_ := Aside0.mk (Kd.R_below (rd_ HO_8.out) hb)
       have n2_ := Aside0.mk (blk_below (bd_ BK145.out) hb)
       have n3_ := Aside0.mk (blk_below (bd_ BK146.out) hb)
       have n4_ := Aside0.mk (blk_below (bd_ BK147.out) hb)
       have n5_ := Aside0.mk (below_step y30_ hb)
       have BK163 := Aside0.mk (hbox)
       have GW163 := Aside0.mk ((y57_ : w.heap.size ≤ gb163))
       have GE163 := Aside0.mk ((y57_ : w.heap.size ≤ gb163))
       have NB145_163 := Aside0.mk ((y41_ : gb145 ≠ gb163))
       have NB163_145 := Aside0.mk ((y42_ : gb163 ≠ gb145))
       have NB146_163 := Aside0.mk ((y43_ : gb146 ≠ gb163))
       have NB163_146 := Aside0.mk ((y44_ : gb163 ≠ gb146))
       have NB147_163 := Aside0.mk ((y50_ : gb147 ≠ gb163))
       have NB163_147 := Aside0.mk ((y51_ : gb163 ≠ gb147))
       clear HO_6
       clear HO_8
       clear BK145
       clear BK146
       clear BK147
       clear HB
       have HO_6 := n0_
       have HO_8 := n1_
       have BK145 := n2_
       have BK146 := n3_
       have BK147 := n4_
       have HB := n5_
       clear n0_ n1_ n2_ n3_ n4_ n5_
       clear hb hbox hg
       refine hK.out _ _ (k1_ BK145.out (k1e_ BK146.out)) (fun hHeld => ?_)
       clear hK K
       refine norm_ (a' := ?_) ?_ ?_
       rotate_left
       ·
        show Act.put _ (some 11) _ = _
        simp only [Act.put, P0_1, P0_2, P0_3, i64_w, i32_w]
        rfl
       exact norm_ y34_ (hJ9_14_24_25_28 (gb163) _ ⟨hHeld, rd_ HO_6.out, rd_ HO_8.out, bd_ BK145.out, bd_ BK146.out, bd_ BK147.out, bd_ BK163.out, GW163.out, GE163.out, NB145_163.out, NB163_145.out, NB146_163.out, NB163_146.out, NB147_163.out, NB163_147.out, y35_⟩)
     rintro gb163 w107 ⟨hS_, h0_, h1_, h2_, h3_, h4_, h5_, h6_, h7_, h8_, h9_, h10_, h11_, h12_, h13_, h14_⟩
     have n0_ : Aside0 (Kd.R (Kd.int .i64) 3 w107 w.heap.size (fun k_ => some k_ ≠ (.slice Ao104 t152.length co104 : Value).ownBlock) (.slice Ao105 t148.length co105) t148) := ⟨h0_⟩
     have n1_ : Aside0 (Kd.R (Kd.int .i64) 3 w107 w.heap.size (fun k_ => some k_ ≠ (.slice Ao105 t148.length co105 : Value).ownBlock) (.slice Ao104 t152.length co104) t152) := ⟨h1_⟩
     have n2_ : Aside0 (w107.heap[gb145]? = some (c26_ a0_0 a0_1 A0_2 l0_2.length c0_2 a0_3 a0_4 A0_5 l0_5.length c0_5 a0_6 a0_7)) := ⟨h2_⟩
     have n3_ : Aside0 (w107.heap[gb146]? = some (c26_ a1_0 a1_1 A1_2 l1_2.length c1_2 a1_3 a1_4 A1_5 l1_5.length c1_5 a1_6 a1_7)) := ⟨h3_⟩
     have n4_ : Aside0 (w107.heap[gb147]? = some (c26_ 0 0 none 0 0 0 0 none 0 0 0 0)) := ⟨h4_⟩
     have BK163 : Aside0 (w107.heap[gb163]? = some (c26_ 0 0 none 0 0 0 0 none 0 0 0 0)) := ⟨h5_⟩
     have GW163 : Aside0 (w.heap.size ≤ gb163) := ⟨h6_⟩
     have GE163 : Aside0 (w.heap.size ≤ gb163) := ⟨h7_⟩
     have NB145_163 : Aside0 (gb145 ≠ gb163) := ⟨h8_⟩
     have NB163_145 : Aside0 (gb163 ≠ gb145) := ⟨h9_⟩
     have NB146_163 : Aside0 (gb146 ≠ gb163) := ⟨h10_⟩
     have NB163_146 : Aside0 (gb163 ≠ gb146) := ⟨h11_⟩
     have NB147_163 : Aside0 (gb147 ≠ gb163) := ⟨h12_⟩
     have NB163_147 : Aside0 (gb163 ≠ gb147) := ⟨h13_⟩
     have n14_ : Aside0 (Below w.heap.size w w107) := ⟨h14_⟩
     clear HO_6
     clear HO_8
     clear BK145
     clear BK146
     clear BK147
     clear HB
     clear h0_ h1_ h2_ h3_ h4_ h5_ h6_ h7_ h8_ h9_ h10_ h11_ h12_ h13_ h14_
     have HO_6 := n0_
     have HO_8 := n1_
     have BK145 := n2_
     have BK146 := n3_
     have BK147 := n4_
     have HB := n14_
     clear n0_ n1_ n2_ n3_ n4_ n14_
     have hHeld : q1_ w107 gb145 a0_0 a0_1 A0_2 l0_2.length c0_2 a0_3 a0_4 A0_5 l0_5.length c0_5 a0_6 a0_7 (q1e_ w107 gb146 a1_0 a1_1 A1_2 l1_2.length c1_2 a1_3 a1_4 A1_5 l1_5.length c1_5 a1_6 a1_7) := hS_
     refine norm_ (a' := ?_) ?_ ?_
     rotate_left
     ·
      simp only [putAll, Act.put, List.setIfInBounds_toArray, List.set_cons_zero, List.set_cons_succ]
      rfl
     refine one_ (i := 29) (N := none) M0_36 rfl rfl (one_of HT_.out (by kernel_rfl)) (by decide) (fun K hK => ?_)
     have hs108 : w107.cell? ⟨gb163, 0, none⟩ = some (.int .i64 0) := (blk_cell BK163.out 0).trans rfl
     have hfs108 := blk_frozen BK163.out 0
     have hns108_0 := NB145_163.out
     have hns108_1 := NB146_163.out
     have hns108_2 := NB147_163.out
     have hms108_0 := NB163_145.out
     have hms108_1 := NB163_146.out
     have hms108_2 := NB163_147.out
     have hs109 : w107.cell? ⟨gb163, 1, none⟩ = some (.int .i64 0) := (blk_cell BK163.out 1).trans rfl
     have hfs109 := blk_frozen BK163.out 1
     have hns109_0 := NB145_163.out
     have hns109_1 := NB146_163.out
     have hns109_2 := NB147_163.out
     have hms109_0 := NB163_145.out
     have hms109_1 := NB163_146.out
     have hms109_2 := NB163_147.out
     have hs110 : w107.cell? ⟨gb163, 2, none⟩ = some (.slice none 0 0) := (blk_cell BK163.out 2).trans rfl
     have hfs110 := blk_frozen BK163.out 2
     have hns110_0 := NB145_163.out
     have hns110_1 := NB146_163.out
     have hns110_2 := NB147_163.out
     have hms110_0 := NB163_145.out
     have hms110_1 := NB163_146.out
     have hms110_2 := NB163_147.out
     have hs111 : w107.cell? ⟨gb163, 3, none⟩ = some (.int .i64 0) := (blk_cell BK163.out 3).trans rfl
     have hfs111 := blk_frozen BK163.out 3
     have hns111_0 := NB145_163.out
     have hns111_1 := NB146_163.out
     have hns111_2 := NB147_163.out
     have hms111_0 := NB163_145.out
     have hms111_1 := NB163_146.out
     have hms111_2 := NB163_147.out
     have hs112 : w107.cell? ⟨gb163, 4, none⟩ = some (.int .i64 0) := (blk_cell BK163.out 4).trans rfl
     have hfs112 := blk_frozen BK163.out 4
     have hns112_0 := NB145_163.out
     have hns112_1 := NB146_163.out
     have hns112_2 := NB147_163.out
     have hms112_0 := NB163_145.out
     have hms112_1 := NB163_146.out
     have hms112_2 := NB163_147.out
     have hs113 : w107.cell? ⟨gb163, 5, none⟩ = some (.slice none 0 0) := (blk_cell BK163.out 5).trans rfl
     have hfs113 := blk_frozen BK163.out 5
     have hns113_0 := NB145_163.out
     have hns113_1 := NB146_163.out
     have hns113_2 := NB147_163.out
     have hms113_0 := NB163_145.out
     have hms113_1 := NB163_146.out
     have hms113_2 := NB163_147.out
     have hs114 : w107.cell? ⟨gb163, 6, none⟩ = some (.int .i64 0) := (blk_cell BK163.out 6).trans rfl
     have hfs114 := blk_frozen BK163.out 6
     have hns114_0 := NB145_163.out
     have hns114_1 := NB146_163.out
     have hns114_2 := NB147_163.out
     have hms114_0 := NB163_145.out
     have hms114_1 := NB163_146.out
     have hms114_2 := NB163_147.out
     have hs115 : w107.cell? ⟨gb163, 7, none⟩ = some (.int .i64 0) := (blk_cell BK163.out 7).trans rfl
     have hfs115 := blk_frozen BK163.out 7
     have hns115_0 := NB145_163.out
     have hns115_1 := NB146_163.out
     have hns115_2 := NB147_163.out
     have hms115_0 := NB163_145.out
     have hms115_1 := NB163_146.out
     have hms115_2 := NB163_147.out
     refine skip_ (w1 := ?_) (by rfl) rfl ?_ ?_
     rotate_left
     ·
      go_simp
      rfl
     refine hK.out _ _ ⟨(f29_ hHeld.1 NB145_163.out), (f29_ hHeld.2.1 NB145_163.out), (f29_ hHeld.2.2.1 NB145_163.out), (f29_ hHeld.2.2.2.1 NB145_163.out), (f29_ hHeld.2.2.2.2.1 NB145_163.out), (f29_ hHeld.2.2.2.2.2.1 NB145_163.out), (f29_ hHeld.2.2.2.2.2.2.1 NB145_163.out), (f29_ hHeld.2.2.2.2.2.2.2.1 NB145_163.out), (f29_ hHeld.2.2.2.2.2.2.2.2.1 NB146_163.out), (f29_ hHeld.2.2.2.2.2.2.2.2.2.1 NB146_163.out), (f29_ hHeld.2.2.2.2.2.2.2.2.2.2.1 NB146_163.out), (f29_ hHeld.2.2.2.2.2.2.2.2.2.2.2.1 NB146_163.out), (f29_ hHeld.2.2.2.2.2.2.2.2.2.2.2.2.1 NB146_163.out), (f29_ hHeld.2.2.2.2.2.2.2.2.2.2.2.2.2.1 NB146_163.out), (f29_ hHeld.2.2.2.2.2.2.2.2.2.2.2.2.2.2.1 NB146_163.out), (f29_ hHeld.2.2.2.2.2.2.2.2.2.2.2.2.2.2.2 NB146_163.out)⟩ (fun hHeld => ?_)
     clear hK K
     refine done_ (done_of HT_.out (by kernel_rfl)) ?_
     have hnb116 := NB163_145.out
     have hnc116 := NB145_163.out
     have hnb117 := NB163_146.out
     have hnc117 := NB146_163.out
     have hnb118 := NB163_147.out
     have hnc118 := NB147_163.out
     obtain ⟨hcz119_0, hcz119_1, hcz119_2, hcz119_3, hcz119_4, hcz119_5, hcz119_6, hcz119_7⟩ := e27_ BK163.out
     obtain ⟨hfz119_0, hfz119_1, hfz119_2, hfz119_3, hfz119_4, hfz119_5, hfz119_6, hfz119_7⟩ := z28_ BK163.out
     try go_wp2_with (first | ((with_reducible refine gate_callee (f := 76) rfl ?_); refine goesL_ (some 88) rfl rfl Try.func76 (by kernel_rfl) rfl #[.agg #[.int .i64 a0_0, .int .i64 a0_1, .slice Ao105 t148.length co105, .int .i64 t159, .int .i64 t160, .slice Ao104 t152.length co104, .int .i64 t158, .int .i64 t162]] rfl ma_ ?_; (with_reducible refine (spec_IsReport.calls kj4 a0_0 a0_1 _ _ t148 t159 t160 _ _ t152 t158 t162 false _ ?side1 ?side2 ?side3 ?side4 A71.out).mono ?_); (case side1 => refine (Kd.R_reads' (e := 3) (base := w.heap.size) (ok := fun k_ => some k_ ≠ (.slice Ao104 t152.length co104 : Value).ownBlock) (n := t148.length) (c := co105) ?_).2.2; exact y53_); (case side2 => exact (Kd.R_reads' HO_6.out).2.1); (case side3 => refine (Kd.R_reads' (e := 3) (base := w.heap.size) (ok := fun k_ => some k_ ≠ (.slice Ao105 t148.length co105 : Value).ownBlock) (n := t152.length) (c := co104) ?_).2.2; exact y54_); (case side4 => exact (Kd.R_reads' HO_8.out).2.1); rintro e w120 ⟨rfl, hb⟩; refine ⟨_, rfl, ?_⟩; have n0_ := Aside0.mk (Kd.R_below y53_ hb); have n1_ := Aside0.mk (Kd.R_below y54_ hb); have n2_ := Aside0.mk (blk_below (g := gb145) (o := c26_ a0_0 a0_1 A0_2 l0_2.length c0_2 a0_3 a0_4 A0_5 l0_5.length c0_5 a0_6 a0_7) y45_ hb); have n3_ := Aside0.mk (blk_below (g := gb146) (o := c26_ a1_0 a1_1 A1_2 l1_2.length c1_2 a1_3 a1_4 A1_5 l1_5.length c1_5 a1_6 a1_7) y46_ hb); have n4_ := Aside0.mk (blk_below (g := gb147) (o := c26_ 0 0 none 0 0 0 0 none 0 0 0 0) y47_ hb); have n5_ := Aside0.mk (blk_below (g := gb163) (o := .cells #[.int .i64 a0_0, .int .i64 a0_1, .slice Ao105 t148.length co105, .int .i64 t159, .int .i64 t160, .slice Ao104 t152.length co104, .int .i64 t158, .int .i64 t162] 41 (0, 0)) (by (with_reducible repeat (first | refine blk_drewN ?_ _ | refine blk_drew ?_ | refine blk_alloc ?_ _)); refine blk_put (cs := #[.int .i64 a0_0, .int .i64 a0_1, .slice Ao105 t148.length co105, .int .i64 t159, .int .i64 t160, .slice Ao104 t152.length co104, .int .i64 t158, .int .i64 0]) ?_ 7 _ rfl; (with_reducible repeat (first | refine blk_drewN ?_ _ | refine blk_drew ?_ | refine blk_alloc ?_ _)); refine blk_put (cs := #[.int .i64 a0_0, .int .i64 a0_1, .slice Ao105 t148.length co105, .int .i64 t159, .int .i64 t160, .slice Ao104 t152.length co104, .int .i64 0, .int .i64 0]) ?_ 6 _ rfl; (with_reducible repeat (first | refine blk_drewN ?_ _ | refine blk_drew ?_ | refine blk_alloc ?_ _)); refine blk_put (cs := #[.int .i64 a0_0, .int .i64 a0_1, .slice Ao105 t148.length co105, .int .i64 t159, .int .i64 t160, .slice none 0 0, .int .i64 0, .int .i64 0]) ?_ 5 _ rfl; (with_reducible repeat (first | refine blk_drewN ?_ _ | refine blk_drew ?_ | refine blk_alloc ?_ _)); refine blk_put (cs := #[.int .i64 a0_0, .int .i64 a0_1, .slice Ao105 t148.length co105, .int .i64 t159, .int .i64 0, .slice none 0 0, .int .i64 0, .int .i64 0]) ?_ 4 _ rfl; (with_reducible repeat (first | refine blk_drewN ?_ _ | refine blk_drew ?_ | refine blk_alloc ?_ _)); refine blk_put (cs := #[.int .i64 a0_0, .int .i64 a0_1, .slice Ao105 t148.length co105, .int .i64 0, .int .i64 0, .slice none 0 0, .int .i64 0, .int .i64 0]) ?_ 3 _ rfl; (with_reducible repeat (first | refine blk_drewN ?_ _ | refine blk_drew ?_ | refine blk_alloc ?_ _)); refine blk_put (cs := #[.int .i64 a0_0, .int .i64 a0_1, .slice none 0 0, .int .i64 0, .int .i64 0, .slice none 0 0, .int .i64 0, .int .i64 0]) ?_ 2 _ rfl; (with_reducible repeat (first | refine blk_drewN ?_ _ | refine blk_drew ?_ | refine blk_alloc ?_ _)); refine blk_put (cs := #[.int .i64 a0_0, .int .i64 0, .slice none 0 0, .int .i64 0, .int .i64 0, .slice none 0 0, .int .i64 0, .int .i64 0]) ?_ 1 _ rfl; (with_reducible repeat (first | refine blk_drewN ?_ _ | refine blk_drew ?_ | refine blk_alloc ?_ _)); refine blk_put (cs := #[.int .i64 0, .int .i64 0, .slice none 0 0, .int .i64 0, .int .i64 0, .slice none 0 0, .int .i64 0, .int .i64 0]) ?_ 0 _ rfl; (with_reducible repeat (first | refine blk_drewN ?_ _ | refine blk_drew ?_ | refine blk_alloc ?_ _)); exact BK163.out) hb); have n6_ := Aside0.mk (below_step y35_ hb); clear HO_6; clear HO_8; clear BK145; clear BK146; clear BK147; clear BK163; clear HB; have HO_6 := n0_; have HO_8 := n1_; have BK145 := n2_; have BK146 := n3_; have BK147 := n4_; have BK163 := n5_; have HB := n6_; clear n0_ n1_ n2_ n3_ n4_ n5_ n6_; (try clear hb); (try clear hb2); (try clear hk); (try clear hi); obtain ⟨hcz121_0, hcz121_1, hcz121_2, hcz121_3, hcz121_4, hcz121_5, hcz121_6, hcz121_7⟩ := e27_ BK147.out; obtain ⟨hfz121_0, hfz121_1, hfz121_2, hfz121_3, hfz121_4, hfz121_5, hfz121_6, hfz121_7⟩ := z28_ BK147.out))
     refine bodyPost_ret (results_ct rfl _ _ gb147 41 #[.int .i64 0, .int .i64 0, .slice none 0 0, .int .i64 0, .int .i64 0, .slice none 0 0, .int .i64 0, .int .i64 0] (0, 0) _ rfl y39_ Try.underlying41 rfl (by kernel_rfl)) rfl ?_
     exact ⟨_, _, by first | rfl | (simp [errW_none, errW_some] <;> rfl) | (simp [*, errW_none, errW_some] <;> rfl), by first | exact Kd.R_nil _ _ _ _ _ | exact Kd.N_nil _ _ _ _ _ | exact Kd.V_nil _ _ _ _ _ | exact Kd.Q_nil _ _ _ _ _ | exact Kd.S_nil _ _ _ _ _, by first | exact Kd.R_nil _ _ _ _ _ | exact Kd.N_nil _ _ _ _ _ | exact Kd.V_nil _ _ _ _ _ | exact Kd.Q_nil _ _ _ _ _ | exact Kd.S_nil _ _ _ _ _, y61_⟩

end Go.Proofs.Ytglpmjcknhcjcaa.PFnExactGroupReports
