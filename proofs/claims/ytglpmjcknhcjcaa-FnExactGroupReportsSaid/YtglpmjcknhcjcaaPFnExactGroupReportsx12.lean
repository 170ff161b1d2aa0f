-- Written for this claim by a program (a printer turned to this claim); Lean checks it.
import Derived.Test.YtglpmjcknhcjcaaPFnExactGroupReportsx0
import Derived.Test.YtglpmjcknhcjcaaPFnExactGroupReportsx10
import Derived.Test.YtglpmjcknhcjcaaPFnExactGroupReportsx11
namespace Go.Proofs.Ytglpmjcknhcjcaa.PFnExactGroupReports
open Go.RowKit Go.Proofs.YtglpmjcknhcjcaaW.PrintWords Go.Proofs.YtglpmjcknhcjcaaW.PrintLast Go.Proofs.YtglpmjcknhcjcaaW.PrintMore
attribute [local go_sem] max2_int min2_int max_two min_two max_three min_three max_four min_four   -- for this text's walks alone
set_option linter.unusedVariables false
set_option linter.unusedSimpArgs false

/-! ### impl_GroupReports: function 28 -/
mutual
def impl_GroupReports.l0 : Nat → List (S41) → List Int → List (S41) → Int → Int → Option (List Int)
 | 0, _, _, _, _, _ => none
 | k + 1, x0, x3, x13, x14, x15 => if x15 < x14 then (if 0 ≤ x15 then (if x15 < (x13.length : Int) then (impl_GroupReports.l1 k x0 x3 ((rd_T41 x13 x15).f0) x13 x14 x15 x15 0 ((rd_T41 x13 x15).f0) ((rd_T41 x13 x15).f1) ((rd_T41 x13 x15).f2) ((rd_T41 x13 x15).f3) ((rd_T41 x13 x15).f4) ((rd_T41 x13 x15).f5) ((rd_T41 x13 x15).f6.f0) ((rd_T41 x13 x15).f6.f1)) else (none)) else (none)) else (some x3)
def impl_GroupReports.l1 : Nat → List (S41) → List Int → Int → List (S41) → Int → Int → Int → Int → Int → Int → List Int → Int → Int → List Int → Int → Int → Option (List Int)
 | 0, _, _, _, _, _, _, _, _, _, _, _, _, _, _, _, _ => none
 | k + 1, x0, x3, x6, x13, x14, x15, x22, x23, x328000, x328001, x328002, x328003, x328004, x328005, x328006, x328007 => if x23 < x22 then (if 0 ≤ x23 then (if x23 < (x3.length : Int) then (if x23 < (x0.length : Int) then (if (rd x3 x23) = ((rd_T41 x0 x23).f0) then ((impl_SameOwner.f k ((rd_T41 x0 x23).f0) ((rd_T41 x0 x23).f1) ((rd_T41 x0 x23).f2) ((rd_T41 x0 x23).f3) ((rd_T41 x0 x23).f4) ((rd_T41 x0 x23).f5) ((rd_T41 x0 x23).f6.f0) ((rd_T41 x0 x23).f6.f1) x328000 x328001 x328002 x328003 x328004 x328005 x328006 x328007).bind fun t331 => (if t331 = true then (if x3.length < 17592186044416 then (impl_GroupReports.l0 k x0 (x3 ++ [(rd_T41 x0 x23).f0]) x13 x14 (wrap64 (x15 + 1))) else (none)) else (impl_GroupReports.l1 k x0 x3 x6 x13 x14 x15 x22 (wrap64 (x23 + 1)) x328000 x328001 x328002 x328003 x328004 x328005 x328006 x328007))) else (impl_GroupReports.l1 k x0 x3 x6 x13 x14 x15 x22 (wrap64 (x23 + 1)) x328000 x328001 x328002 x328003 x328004 x328005 x328006 x328007)) else (none)) else (none)) else (none)) else (if x3.length < 17592186044416 then (impl_GroupReports.l0 k x0 (x3 ++ [x6]) x13 x14 (wrap64 (x15 + 1))) else (none))
end
def impl_GroupReports.f (k : Nat) (l0 : List (S41)) : Option (List Int) := (some (([] : List Int) : List Int)).bind fun y322 => ((impl_AreReports.f k l0).bind fun t325 => (if t325 = true then (impl_GroupReports.l0 k l0 y322 l0 (l0.length : Int) 0) else (some y322)))
theorem impl_GroupReports.mono_l : ∀ k, (∀ y0 y1 y2 y3 y4, LeO (impl_GroupReports.l0 k y0 y1 y2 y3 y4) (impl_GroupReports.l0 (k + 1) y0 y1 y2 y3 y4)) ∧ (∀ y0 y1 y2 y3 y4 y5 y6 y7 y8 y9 y10 y11 y12 y13 y14 y15, LeO (impl_GroupReports.l1 k y0 y1 y2 y3 y4 y5 y6 y7 y8 y9 y10 y11 y12 y13 y14 y15) (impl_GroupReports.l1 (k + 1) y0 y1 y2 y3 y4 y5 y6 y7 y8 y9 y10 y11 y12 y13 y14 y15))
 | 0 => ⟨fun _ _ _ _ _ r h => by simp [impl_GroupReports.l0] at h, fun _ _ _ _ _ _ _ _ _ _ _ _ _ _ _ _ r h => by simp [impl_GroupReports.l1] at h⟩
 | k + 1 => by
  obtain ⟨ih0, ih1⟩ := impl_GroupReports.mono_l k
  refine ⟨?_, ?_⟩
  ·
   intro y0 y1 y2 y3 y4
   unfold impl_GroupReports.l0
   repeat' first
   | (with_reducible exact ih0 _ _ _ _ _)
   | (with_reducible exact ih1 _ _ _ _ _ _ _ _ _ _ _ _ _ _ _ _)
   | (with_reducible exact impl_AreReports.mono _ _)
   | (with_reducible exact impl_SameOwner.mono _ _ _ _ _ _ _ _ _ _ _ _ _ _ _ _ _)
   | (with_reducible exact LeO.refl _)
   | (with_reducible exact LeO.none _)
   | (with_reducible refine LeO.ite ?_ ?_)
   | (with_reducible refine LeO.bind ?_ (fun _ => ?_))
   | exact ih0 _ _ _ _ _
   | exact ih1 _ _ _ _ _ _ _ _ _ _ _ _ _ _ _ _
   | exact impl_AreReports.mono _ _
   | exact impl_SameOwner.mono _ _ _ _ _ _ _ _ _ _ _ _ _ _ _ _ _
   | exact LeO.none _
   | refine LeO.ite ?_ ?_
   | refine LeO.bind ?_ (fun _ => ?_)
  ·
   intro y0 y1 y2 y3 y4 y5 y6 y7 y8 y9 y10 y11 y12 y13 y14 y15
   unfold impl_GroupReports.l1
   repeat' first
   | (with_reducible exact ih0 _ _ _ _ _)
   | (with_reducible exact ih1 _ _ _ _ _ _ _ _ _ _ _ _ _ _ _ _)
   | (with_reducible exact impl_AreReports.mono _ _)
   | (with_reducible exact impl_SameOwner.mono _ _ _ _ _ _ _ _ _ _ _ _ _ _ _ _ _)
   | (with_reducible exact LeO.refl _)
   | (with_reducible exact LeO.none _)
   | (with_reducible refine LeO.ite ?_ ?_)
   | (with_reducible refine LeO.bind ?_ (fun _ => ?_))
   | exact ih0 _ _ _ _ _
   | exact ih1 _ _ _ _ _ _ _ _ _ _ _ _ _ _ _ _
   | exact impl_AreReports.mono _ _
   | exact impl_SameOwner.mono _ _ _ _ _ _ _ _ _ _ _ _ _ _ _ _ _
   | exact LeO.none _
   | refine LeO.ite ?_ ?_
   | refine LeO.bind ?_ (fun _ => ?_)
theorem impl_GroupReports.mono : ∀ a0 k, LeO (impl_GroupReports.f k a0) (impl_GroupReports.f (k + 1) a0) := by
 intro a0 k
 obtain ⟨ih0, ih1⟩ := impl_GroupReports.mono_l k
 unfold impl_GroupReports.f
 repeat' first
   | (with_reducible exact ih0 _ _ _ _ _)
   | (with_reducible exact ih1 _ _ _ _ _ _ _ _ _ _ _ _ _ _ _ _)
   | (with_reducible exact impl_AreReports.mono _ _)
   | (with_reducible exact impl_SameOwner.mono _ _ _ _ _ _ _ _ _ _ _ _ _ _ _ _ _)
   | (with_reducible exact LeO.refl _)
   | (with_reducible exact LeO.none _)
   | (with_reducible refine LeO.ite ?_ ?_)
   | (with_reducible refine LeO.bind ?_ (fun _ => ?_))
   | exact ih0 _ _ _ _ _
   | exact ih1 _ _ _ _ _ _ _ _ _ _ _ _ _ _ _ _
   | exact impl_AreReports.mono _ _
   | exact impl_SameOwner.mono _ _ _ _ _ _ _ _ _ _ _ _ _ _ _ _ _
   | exact LeO.none _
   | refine LeO.ite ?_ ?_
   | refine LeO.bind ?_ (fun _ => ?_)
def impl_GroupReports.T11 : Bool × List (List Nat × List Nat) := (true, [([], []), ([], []), ([0, 1], [0, 1]), ([2], [2]), ([], []), ([], []), ([4, 5], [4, 5]), ([6], [6]), ([7], [7]), ([3, 8], [3, 8]), ([9], [9]), ([10], [10]), ([10], [10]), ([11, 12, 10], [10, 11, 12]), ([13, 10], [10, 13]), ([10], [10]), ([14, 15, 10, 10], [10, 14, 15]), ([10, 16], [10, 16])])
def impl_GroupReports.B11 : List Nat := [0, 0, 3, 7, 0, 0, 48, 112, 240, 511, 1023, 2047, 2047, 8191, 16383, 2047, 65535, 131071]
theorem impl_GroupReports.tab11 : rtab .any (opsOf Try.f28 11) = impl_GroupReports.T11 := by kernel_rfl
theorem impl_GroupReports.bits11 : waitsOk impl_GroupReports.T11.2 impl_GroupReports.B11 = true := by kernel_rfl
abbrev M6_0 : Array Bool := #[false, false, false, false, false, false, false, false, false, false, false, false, false, false, false, false, false, false]
abbrev M6_1 : Array Bool := #[true, false, false, false, false, false, false, false, false, false, false, false, false, false, false, false, false, false]
abbrev M6_2 : Array Bool := #[true, true, false, false, false, false, false, false, false, false, false, false, false, false, false, false, false, false]
abbrev M6_3 : Array Bool := #[true, true, true, false, false, false, false, false, false, false, false, false, false, false, false, false, false, false]
abbrev M6_4 : Array Bool := #[true, true, true, false, true, false, false, false, false, false, false, false, false, false, false, false, false, false]
abbrev M6_5 : Array Bool := #[true, true, true, false, true, true, false, false, false, false, false, false, false, false, false, false, false, false]
abbrev M6_6 : Array Bool := #[true, true, true, false, true, true, true, false, false, false, false, false, false, false, false, false, false, false]
abbrev M6_7 : Array Bool := #[true, true, true, false, true, true, true, true, false, false, false, false, false, false, false, false, false, false]
abbrev M6_8 : Array Bool := #[true, true, true, true, true, true, true, true, false, false, false, false, false, false, false, false, false, false]
abbrev M6_9 : Array Bool := #[true, true, true, true, true, true, true, true, true, false, false, false, false, false, false, false, false, false]
abbrev M6_10 : Array Bool := #[true, true, true, true, true, true, true, true, true, true, false, false, false, false, false, false, false, false]
abbrev M6_11 : Array Bool := #[true, true, true, true, true, true, true, true, true, true, true, false, false, false, false, false, false, false]
abbrev M6_12 : Array Bool := #[true, true, true, true, true, true, true, true, true, true, true, true, false, false, false, false, false, false]
abbrev M6_13 : Array Bool := #[true, true, true, true, true, true, true, true, true, true, true, true, true, false, false, false, false, false]
abbrev M6_14 : Array Bool := #[true, true, true, true, true, true, true, true, true, true, true, true, true, true, false, false, false, false]
abbrev M6_15 : Array Bool := #[true, true, true, true, true, true, true, true, true, true, true, true, true, true, true, false, false, false]
abbrev M6_16 : Array Bool := #[true, true, true, true, true, true, true, true, true, true, true, true, true, true, true, true, false, false]
abbrev M6_17 : Array Bool := #[true, true, true, true, true, true, true, true, true, true, true, true, true, true, true, true, true, false]
abbrev M6_18 : Array Bool := #[true, true, true, true, true, true, true, true, true, true, true, true, true, true, true, true, true, true]
theorem P6_1 {α : Type} (l : List α) (i : Nat) (a : α) : l.toArray.setIfInBounds i a = (l.set i a).toArray := List.setIfInBounds_toArray l i a
theorem P6_2 {α : Type} (x : α) (l : List α) (a : α) : (x :: l).set 0 a = a :: l := List.set_cons_zero
theorem P6_3 {α : Type} (x : α) (l : List α) (n : Nat) (a : α) : (x :: l).set (n + 1) a = x :: l.set n a := List.set_cons_succ
theorem e243_ {w : World} {g : Nat} {t : TypeId} {i0 : Int} {i1 : Int} {A2 : Option Addr} {n2 c2 : Nat} {i3 : Int} {i4 : Int} {A5 : Option Addr} {n5 c5 : Nat} {i6 : Int} {i7 : Int} (h : w.heap[g]? = some (.cells #[.int .i64 i0, .int .i64 i1, .slice A2 n2 c2, .int .i64 i3, .int .i64 i4, .slice A5 n5 c5, .int .i64 i6, .int .i64 i7] t (0, 0))) : w.cell? ⟨g, 0, none⟩ = some (.int .i64 i0) ∧ w.cell? ⟨g, 1, none⟩ = some (.int .i64 i1) ∧ w.cell? ⟨g, 2, none⟩ = some (.slice A2 n2 c2) ∧ w.cell? ⟨g, 3, none⟩ = some (.int .i64 i3) ∧ w.cell? ⟨g, 4, none⟩ = some (.int .i64 i4) ∧ w.cell? ⟨g, 5, none⟩ = some (.slice A5 n5 c5) ∧ w.cell? ⟨g, 6, none⟩ = some (.int .i64 i6) ∧ w.cell? ⟨g, 7, none⟩ = some (.int .i64 i7) := ⟨(blk_cell h 0).trans rfl, (blk_cell h 1).trans rfl, (blk_cell h 2).trans rfl, (blk_cell h 3).trans rfl, (blk_cell h 4).trans rfl, (blk_cell h 5).trans rfl, (blk_cell h 6).trans rfl, (blk_cell h 7).trans rfl⟩
theorem z244_ {w : World} {g : Nat} {t : TypeId} {cs : Array Value} (h : w.heap[g]? = some (.cells cs t (0, 0))) : w.frozen? ⟨g, 0, none⟩ = false ∧ w.frozen? ⟨g, 1, none⟩ = false ∧ w.frozen? ⟨g, 2, none⟩ = false ∧ w.frozen? ⟨g, 3, none⟩ = false ∧ w.frozen? ⟨g, 4, none⟩ = false ∧ w.frozen? ⟨g, 5, none⟩ = false ∧ w.frozen? ⟨g, 6, none⟩ = false ∧ w.frozen? ⟨g, 7, none⟩ = false := ⟨blk_frozen h 0, blk_frozen h 1, blk_frozen h 2, blk_frozen h 3, blk_frozen h 4, blk_frozen h 5, blk_frozen h 6, blk_frozen h 7⟩
theorem y247_ {P : Prop} (h : P := by repeat (first | (with_reducible first | exact HB.out | apply below_alloc | apply pw_below_drewN | apply below_drew1 | refine below_set ?_ GE327.out) | exact HB.out)) : P := h
theorem y248_ {P : Prop} (h : P := by repeat (first | (with_reducible first | exact HB.out | apply below_alloc | apply pw_below_drewN | apply below_drew1 | refine below_set ?_ GE327.out) | exact HB.out)) : P := h
theorem y251_ {P : Prop} (h : P := by first | rfl | (simp; done) | (simp [*]; done)) : P := h
set_option maxHeartbeats 8000000 in
set_option maxRecDepth 100000 in
theorem impl_GroupReports.calls (k : Nat) (A0 : Option Addr) (c0 : Nat) (l0 : List (S41)) (r : List Int) (w : World) (hr0 : Kd.C k41 w A0 l0.length l0) (hc0 : l0.length ≤ c0) (h : impl_GroupReports.f k l0 = some r) :
  Calls Try.prog 28 #[.slice A0 l0.length c0] w fun e w' => ∃ v0_ : Value, e = .returned (v0_) ∧ Kd.R (Kd.int .i64) 3 w' w.heap.size (fun _ => True) v0_ r ∧ Below w.heap.size w w' := by
 have hu41 := Try.underlying41
 have HR0 := Aside0.mk hr0
 have HC0 := Aside0.mk hc0
 clear hr0 hc0
 have HB := Aside0.mk (Below.refl w.heap.size w)
 have H : ((some (([] : List Int) : List Int)).bind fun y322 => ((impl_AreReports.f k l0).bind fun t325 => (if t325 = true then (impl_GroupReports.l0 k l0 y322 l0 (l0.length : Int) 0) else (some y322)))) = some r := h
 clear h
 obtain ⟨y322, hy322⟩ : ∃ y_ : List Int, y_ = (([] : List Int)) := ⟨_, rfl⟩
 replace H : ((impl_AreReports.f k l0).bind fun t325 => (if t325 = true then (impl_GroupReports.l0 k l0 y322 l0 (l0.length : Int) 0) else (some y322))) = some r := by first | (rw [hy322]; with_reducible exact H) | (have H2_ := (Option.bind_some _ _).symm.trans H; rw [hy322]; with_reducible exact H2_) | (have H2_ := (Option.bind_some _ _).symm.trans H; with_reducible exact H2_) | with_reducible exact H | (rw [hy322]; exact H) | exact H
 have Ny322 := Aside0.mk hy322
 clear hy322
 replace H := Option.bind_eq_some_iff.mp H
 obtain ⟨t325, A20, H⟩ := H
 replace H : (if t325 = true then (impl_GroupReports.l0 k l0 y322 l0 (l0.length : Int) 0) else (some y322)) = some r := H
 have A2 := Aside0.mk A20
 clear A20
 by_cases c3 : t325 = true
 ·
  subst c3
  have H1 : (impl_GroupReports.l0 k l0 y322 l0 (l0.length : Int) 0) = some r := by rw [if_pos rfl] at H; exact H
  clear H
  have H := H1
  clear H1
  have H' := Aside0.mk H
  clear H
  go_enter Try.func28, Try.ntmps28
  go_wp2_with (first | ((with_reducible refine gate_dst (N := 8) rfl ?_); refine Kd.R_lit (Kd.int .i64) _ 3 ?hg (N := 8) ?hd (xs := ([] : List Int)) (inner := []) (ok := fun _ => True) (okp := fun _ => True) ?hr ?hp (fun _ hk => hk) trivial (Below.refl _ _) (Nat.le_refl _) (by simp) ?_; (case hd => rfl); (case hg => rfl); (case hr => first | (go_simp; done) | (go_simp; rfl)); (case hp => exact (Reps.none _ _)); intro v323 w4 ho5 hb hg_ hnew_; clear hg_ hnew_; (first | rw [← Ny322.out] at ho5 | (simp only [Int.reduceToNat] at ho5; rw [← Ny322.out] at ho5)); have HO324 := Aside0.mk (Kd.R_lower ho5 (below_size (hd_ HB.out))); have n1_ := Aside0.mk (below_step (hd_ HB.out) hb); clear HB; have HB := n1_; clear n1_; clear hb ho5) | ((with_reducible refine gate_callee (f := 57) rfl ?_); refine goesL_ (some 10) rfl rfl Try.func57 (by kernel_rfl) rfl #[.slice A0 l0.length c0] rfl ma_ ?_; (with_reducible refine (impl_AreReports.calls k _ _ l0 true _ ?side1 ?side2 A2.out).mono ?_); (case side1 => exact cd_ (Kd.C_below HR0.out HB.out)); (case side2 => exact HC0.out); rintro e w6 ⟨rfl, hb⟩; refine ⟨_, rfl, ?_⟩; have n0_ := Aside0.mk (Kd.R_below (rd_ HO324.out) hb); have n1_ := Aside0.mk (below_step (hd_ HB.out) hb); clear HO324; clear HB; have HO324 := n0_; have HB := n1_; clear n0_ n1_; (try clear hb); (try clear hb2); (try clear hk); (try clear hi)))
  go_loopg [3, 15] k (fun kq v3 v15 w' => ∃ (x3_1 : List Int) (x15_1 : Int), v15 = .int .i64 x15_1 ∧ Aside0 (impl_GroupReports.l0 kq l0 x3_1 l0 (l0.length : Int) x15_1 = some r) ∧ Aside0 (kq ≤ k) ∧ Aside0 (Kd.R (Kd.int .i64) 3 w' w.heap.size (fun _ => True) v3 x3_1) ∧ Aside0 (Below w.heap.size w w'))
  case atStart => exact ⟨(y322), (0), y251_, H', ⟨Nat.le_refl _⟩, ⟨rd_ HO324.out⟩, ⟨hd_ HB.out⟩⟩
  case round =>
   clear H'
   try clear c2
   try clear p2
   try clear c3
   try clear c5
   obtain ⟨x3_1, x15_1, rfl, HA, HK1, HO_3, HB⟩ := hrel
   cases gk with
   | zero => exact absurd HA.out (by simp [impl_GroupReports.l0])
   | succ k1 =>
    have H := HA.out
    clear HA
    simp only [impl_GroupReports.l0] at H
    by_cases c7 : x15_1 < (l0.length : Int)
    ·
     rw [if_pos c7] at H
     have c7b0 : decide (x15_1 < (l0.length : Int)) = true := decide_eq_true c7
     clear c7
     by_cases c8 : 0 ≤ x15_1
     ·
      rw [if_pos c8] at H
      have c8b0 : decide (0 ≤ x15_1) = true := decide_eq_true c8
      clear c8
      by_cases c9 : x15_1 < (l0.length : Int)
      ·
       rw [if_pos c9] at H
       have c9b0 : decide (x15_1 < (l0.length : Int)) = true := decide_eq_true c9
       clear c9
       have H' := Aside0.mk H
       clear H
       have p326 : 0 ≤ (x15_1 : Int) := of_decide_eq_true as_
       have q326 : x15_1 < (l0.length : Int) := of_decide_eq_true as_
       obtain ⟨ad326, A326_2, c326_2, A326_5, c326_5, e326, hx326_0, hx326_1, hx326_2, hx326_3, hx326_4, hx326_5, hx326_6, hx326_7, hl326_2, hi326_2, hl326_5, hi326_5⟩ := at_T41 HR0.out x15_1 p326 q326
       cases e326
       replace hx326_0 := cb_ HB.out hx326_0
       replace hx326_1 := cb_ HB.out hx326_1
       replace hx326_2 := cb_ HB.out hx326_2
       replace hx326_3 := cb_ HB.out hx326_3
       replace hx326_4 := cb_ HB.out hx326_4
       replace hx326_5 := cb_ HB.out hx326_5
       replace hx326_6 := cb_ HB.out hx326_6
       replace hx326_7 := cb_ HB.out hx326_7
       have HR326_2 := Aside0.mk hi326_2
       have HC326_2 := Aside0.mk hl326_2
       clear hi326_2 hl326_2
       have HR326_5 := Aside0.mk hi326_5
       have HC326_5 := Aside0.mk hl326_5
       clear hi326_5 hl326_5
       replace p326 := eq_true p326
       replace q326 := eq_true q326
       go_wp2_with (first | ((with_reducible refine gate_dst (N := 5) rfl ?_); refine box_event ?hg (N := 5) ?hd (cs := #[.int .i64 0, .int .i64 0, .slice none 0 0, .int .i64 0, .int .i64 0, .slice none 0 0, .int .i64 0, .int .i64 0]) (t := 41) ?hr ?_; (case hd => rfl); (case hg => rfl); (case hr => first | (go_simp; done) | (go_simp; rfl)); intro gb327 hg w10 hbox hb; have n0_ := Aside0.mk (Kd.R_below (rd_ HO_3.out) hb); have n1_ := Aside0.mk (below_step (hd_ HB.out) hb); have BK327 := Aside0.mk (hbox); have GW327 := Aside0.mk ((by rw [hg]; exact (below_size (hd_ HB.out)) : w.heap.size ≤ gb327)); have GE327 := Aside0.mk ((by rw [hg]; exact (below_size (hd_ HB.out)) : w.heap.size ≤ gb327)); clear HO_3; clear HB; have HO_3 := n0_; have HB := n1_; clear n0_ n1_; clear hb hbox hg; obtain ⟨hcz11_0, hcz11_1, hcz11_2, hcz11_3, hcz11_4, hcz11_5, hcz11_6, hcz11_7⟩ := e243_ BK327.out; obtain ⟨hfz11_0, hfz11_1, hfz11_2, hfz11_3, hfz11_4, hfz11_5, hfz11_6, hfz11_7⟩ := z244_ BK327.out))
       go_loopg [6, 23] k1 (fun kq v6 v23 w' => ∃ (x6_2 : Int) (x23_2 : Int), v6 = .int .i64 x6_2 ∧ v23 = .int .i64 x23_2 ∧ Aside0 (impl_GroupReports.l1 kq l0 x3_1 x6_2 l0 (l0.length : Int) x15_1 x15_1 x23_2 ((rd_T41 l0 x15_1).f0) ((rd_T41 l0 x15_1).f1) ((rd_T41 l0 x15_1).f2) ((rd_T41 l0 x15_1).f3) ((rd_T41 l0 x15_1).f4) ((rd_T41 l0 x15_1).f5) ((rd_T41 l0 x15_1).f6.f0) ((rd_T41 l0 x15_1).f6.f1) = some r) ∧ Aside0 (kq ≤ k1) ∧ Aside0 (Kd.R (Kd.int .i64) 3 w' w.heap.size (fun _ => True) u3 x3_1) ∧ Aside0 (w'.heap[gb327]? = some (.cells #[.int .i64 ((rd_T41 l0 x15_1).f0), .int .i64 ((rd_T41 l0 x15_1).f1), (.slice A326_2 ((rd_T41 l0 x15_1).f2).length c326_2), .int .i64 ((rd_T41 l0 x15_1).f3), .int .i64 ((rd_T41 l0 x15_1).f4), (.slice A326_5 ((rd_T41 l0 x15_1).f5).length c326_5), .int .i64 ((rd_T41 l0 x15_1).f6.f0), .int .i64 ((rd_T41 l0 x15_1).f6.f1)] 41 (0, 0))) ∧ Aside0 (Below w.heap.size w w'))
       case atStart => exact ⟨((rd_T41 l0 x15_1).f0), (0), y251_, y251_, H', ⟨Nat.le_refl _⟩, ⟨by (with_reducible repeat (first | apply Kd.R_alloc | apply Kd.R_drewN | apply Kd.R_drew)); exact Kd.R_mono (Kd.R_far (p := ⟨gb327, 7, none⟩) (Kd.R_far (p := ⟨gb327, 6, none⟩) (Kd.R_far (p := ⟨gb327, 5, none⟩) (Kd.R_far (p := ⟨gb327, 4, none⟩) (Kd.R_far (p := ⟨gb327, 3, none⟩) (Kd.R_far (p := ⟨gb327, 2, none⟩) (Kd.R_far (p := ⟨gb327, 1, none⟩) (Kd.R_far (p := ⟨gb327, 0, none⟩) (Kd.R_types HO_3.out BK327.out (by decide)) (fun _ hk => hk.2) (.int .i64 ((rd_T41 l0 x15_1).f0))) (fun _ hk => hk.2) (.int .i64 ((rd_T41 l0 x15_1).f1))) (fun _ hk => hk.2) (.slice A326_2 ((rd_T41 l0 x15_1).f2).length c326_2)) (fun _ hk => hk.2) (.int .i64 ((rd_T41 l0 x15_1).f3))) (fun _ hk => hk.2) (.int .i64 ((rd_T41 l0 x15_1).f4))) (fun _ hk => hk.2) (.slice A326_5 ((rd_T41 l0 x15_1).f5).length c326_5)) (fun _ hk => hk.2) (.int .i64 ((rd_T41 l0 x15_1).f6.f0))) (fun _ hk => hk.2) (.int .i64 ((rd_T41 l0 x15_1).f6.f1))) (fun _ hk => trivial)⟩, ⟨by (with_reducible repeat (first | refine blk_drewN ?_ _ | refine blk_drew ?_ | refine blk_alloc ?_ _)); refine blk_put (cs := #[.int .i64 ((rd_T41 l0 x15_1).f0), .int .i64 ((rd_T41 l0 x15_1).f1), .slice A326_2 ((rd_T41 l0 x15_1).f2).length c326_2, .int .i64 ((rd_T41 l0 x15_1).f3), .int .i64 ((rd_T41 l0 x15_1).f4), .slice A326_5 ((rd_T41 l0 x15_1).f5).length c326_5, .int .i64 ((rd_T41 l0 x15_1).f6.f0), .int .i64 0]) ?_ 7 _ rfl; (with_reducible repeat (first | refine blk_drewN ?_ _ | refine blk_drew ?_ | refine blk_alloc ?_ _)); refine blk_put (cs := #[.int .i64 ((rd_T41 l0 x15_1).f0), .int .i64 ((rd_T41 l0 x15_1).f1), .slice A326_2 ((rd_T41 l0 x15_1).f2).length c326_2, .int .i64 ((rd_T41 l0 x15_1).f3), .int .i64 ((rd_T41 l0 x15_1).f4), .slice A326_5 ((rd_T41 l0 x15_1).f5).length c326_5, .int .i64 0, .int .i64 0]) ?_ 6 _ rfl; (with_reducible repeat (first | refine blk_drewN ?_ _ | refine blk_drew ?_ | refine blk_alloc ?_ _)); refine blk_put (cs := #[.int .i64 ((rd_T41 l0 x15_1).f0), .int .i64 ((rd_T41 l0 x15_1).f1), .slice A326_2 ((rd_T41 l0 x15_1).f2).length c326_2, .int .i64 ((rd_T41 l0 x15_1).f3), .int .i64 ((rd_T41 l0 x15_1).f4), .slice none 0 0, .int .i64 0, .int .i64 0]) ?_ 5 _ rfl; (with_reducible repeat (first | refine blk_drewN ?_ _ | refine blk_drew ?_ | refine blk_alloc ?_ _)); refine blk_put (cs := #[.int .i64 ((rd_T41 l0 x15_1).f0), .int .i64 ((rd_T41 l0 x15_1).f1), .slice A326_2 ((rd_T41 l0 x15_1).f2).length c326_2, .int .i64 ((rd_T41 l0 x15_1).f3), .int .i64 0, .slice none 0 0, .int .i64 0, .int .i64 0]) ?_ 4 _ rfl; (with_reducible repeat (first | refine blk_drewN ?_ _ | refine blk_drew ?_ | refine blk_alloc ?_ _)); refine blk_put (cs := #[.int .i64 ((rd_T41 l0 x15_1).f0), .int .i64 ((rd_T41 l0 x15_1).f1), .slice A326_2 ((rd_T41 l0 x15_1).f2).length c326_2, .int .i64 0, .int .i64 0, .slice none 0 0, .int .i64 0, .int .i64 0]) ?_ 3 _ rfl; (with_reducible repeat (first | refine blk_drewN ?_ _ | refine blk_drew ?_ | refine blk_alloc ?_ _)); refine blk_put (cs := #[.int .i64 ((rd_T41 l0 x15_1).f0), .int .i64 ((rd_T41 l0 x15_1).f1), .slice none 0 0, .int .i64 0, .int .i64 0, .slice none 0 0, .int .i64 0, .int .i64 0]) ?_ 2 _ rfl; (with_reducible repeat (first | refine blk_drewN ?_ _ | refine blk_drew ?_ | refine blk_alloc ?_ _)); refine blk_put (cs := #[.int .i64 ((rd_T41 l0 x15_1).f0), .int .i64 0, .slice none 0 0, .int .i64 0, .int .i64 0, .slice none 0 0, .int .i64 0, .int .i64 0]) ?_ 1 _ rfl; (with_reducible repeat (first | refine blk_drewN ?_ _ | refine blk_drew ?_ | refine blk_alloc ?_ _)); refine blk_put (cs := #[.int .i64 0, .int .i64 0, .slice none 0 0, .int .i64 0, .int .i64 0, .slice none 0 0, .int .i64 0, .int .i64 0]) ?_ 0 _ rfl; (with_reducible repeat (first | refine blk_drewN ?_ _ | refine blk_drew ?_ | refine blk_alloc ?_ _)); exact BK327.out⟩, ⟨y248_⟩⟩
       case round =>
        clear H'
        try clear c2
        try clear p2
        try clear c3
        try clear p3
        try clear q3
        try clear hx3
        try clear c5
        try clear c7
        try clear c7b0
        try clear c8
        try clear c8b0
        try clear c9
        try clear c9b0
        try clear hx326_0
        try clear hx326_1
        try clear hx326_2
        try clear hx326_3
        try clear hx326_4
        try clear hx326_5
        try clear hx326_6
        try clear hx326_7
        try clear p2
        try clear p326
        try clear q326
        obtain ⟨x6_2, x23_2, rfl, rfl, HA, HK2, HO_3, BK327, HB⟩ := hrel
        cases gk with
        | zero => exact absurd HA.out (by simp [impl_GroupReports.l1])
        | succ k2 =>
         have H := HA.out
         clear HA
         simp only [impl_GroupReports.l1] at H
         by_cases c12 : x23_2 < x15_1
         ·
          rw [if_pos c12] at H
          have c12b0 : decide (x23_2 < x15_1) = true := decide_eq_true c12
          clear c12
          by_cases c13 : 0 ≤ x23_2
          ·
           rw [if_pos c13] at H
           have c13b0 : decide (0 ≤ x23_2) = true := decide_eq_true c13
           clear c13
           by_cases c14 : x23_2 < (x3_1.length : Int)
           ·
            rw [if_pos c14] at H
            have c14b0 : decide (x23_2 < (x3_1.length : Int)) = true := decide_eq_true c14
            clear c14
            by_cases c15 : x23_2 < (l0.length : Int)
            ·
             rw [if_pos c15] at H
             have c15b0 : decide (x23_2 < (l0.length : Int)) = true := decide_eq_true c15
             clear c15
             by_cases c16 : (rd x3_1 x23_2) = ((rd_T41 l0 x23_2).f0)
             ·
              rw [if_pos c16] at H
              have c16b0 : ((rd x3_1 x23_2) == ((rd_T41 l0 x23_2).f0)) = true := beq_iff_eq.mpr c16
              have c16b1 : ((rd x3_1 x23_2) != ((rd_T41 l0 x23_2).f0)) = false := bne_eq_false_iff_eq.mpr c16
              clear c16
              replace H := Option.bind_eq_some_iff.mp H
              obtain ⟨t331, A170, H⟩ := H
              replace H : (if t331 = true then (if x3_1.length < 17592186044416 then (impl_GroupReports.l0 k2 l0 (x3_1 ++ [(rd_T41 l0 x23_2).f0]) l0 (l0.length : Int) (wrap64 (x15_1 + 1))) else (none)) else (impl_GroupReports.l1 k2 l0 x3_1 x6_2 l0 (l0.length : Int) x15_1 x15_1 (wrap64 (x23_2 + 1)) ((rd_T41 l0 x15_1).f0) ((rd_T41 l0 x15_1).f1) ((rd_T41 l0 x15_1).f2) ((rd_T41 l0 x15_1).f3) ((rd_T41 l0 x15_1).f4) ((rd_T41 l0 x15_1).f5) ((rd_T41 l0 x15_1).f6.f0) ((rd_T41 l0 x15_1).f6.f1))) = some r := H
              have A17 := Aside0.mk A170
              clear A170
              by_cases c18 : t331 = true
              ·
               subst c18
               have H1 : (if x3_1.length < 17592186044416 then (impl_GroupReports.l0 k2 l0 (x3_1 ++ [(rd_T41 l0 x23_2).f0]) l0 (l0.length : Int) (wrap64 (x15_1 + 1))) else (none)) = some r := by rw [if_pos rfl] at H; exact H
               clear H
               have H := H1
               clear H1
               by_cases c19 : x3_1.length < 17592186044416
               ·
                rw [if_pos c19] at H
                have LMc19 := Aside0.mk c19
                clear c19
                obtain ⟨y333, hy333⟩ : ∃ y_ : List Int, y_ = (x3_1 ++ [(rd_T41 l0 x23_2).f0]) := ⟨_, rfl⟩
                replace H : (impl_GroupReports.l0 k2 l0 y333 l0 (l0.length : Int) (wrap64 (x15_1 + 1))) = some r := by first | (rw [hy333]; with_reducible exact H) | (have H2_ := (Option.bind_some _ _).symm.trans H; rw [hy333]; with_reducible exact H2_) | (have H2_ := (Option.bind_some _ _).symm.trans H; with_reducible exact H2_) | with_reducible exact H | (rw [hy333]; exact H) | exact H
                have Ny333 := Aside0.mk hy333
                clear hy333
                have H' := Aside0.mk H
                clear H
                try go_wp2
                have n0_ := Aside0.mk (Kd.R_drew HO_3.out)
                have n1_ := Aside0.mk (blk_drew BK327.out)
                have n2_ := Aside0.mk (below_drew1 HB.out)
                clear HO_3
                clear BK327
                clear HB
                have HO_3 := n0_
                have BK327 := n1_
                have HB := n2_
                clear n0_ n1_ n2_
                obtain ⟨Ao21, co21, eo21⟩ := Kd.R_slice HO_3.out
                (first | subst eo21 | (injection eo21 with f1_ f2_ f3_; have f4_ := f1_.symm; have f5_ := f3_.symm; clear f1_ f2_ f3_; subst f4_; subst f5_))
                have p328 : 0 ≤ (x23_2 : Int) := of_decide_eq_true as_
                have q328 : x23_2 < (x3_1.length : Int) := of_decide_eq_true as_
                obtain ⟨ad328, e328, hx328_0⟩ := Kd.at_int (Kd.R_reads' HO_3.out).2.2 x23_2 p328 q328
                cases e328
                replace p328 := eq_true p328
                replace q328 := eq_true q328
                have p329 : 0 ≤ (x23_2 : Int) := of_decide_eq_true as_
                have q329 : x23_2 < (l0.length : Int) := of_decide_eq_true as_
                obtain ⟨ad329, A329_2, c329_2, A329_5, c329_5, e329, hx329_0, hx329_1, hx329_2, hx329_3, hx329_4, hx329_5, hx329_6, hx329_7, hl329_2, hi329_2, hl329_5, hi329_5⟩ := at_T41 HR0.out x23_2 p329 q329
                have hw329_7 := hx329_7
                have hw329_6 := hx329_6
                have hw329_5 := hx329_5
                have hw329_4 := hx329_4
                have hw329_3 := hx329_3
                have hw329_2 := hx329_2
                have hw329_1 := hx329_1
                have hw329_0 := hx329_0
                obtain rfl : ad326 = ad329 := (by injection e329)
                replace hx329_0 := cb_ HB.out hx329_0
                replace hx329_1 := cb_ HB.out hx329_1
                replace hx329_2 := cb_ HB.out hx329_2
                replace hx329_3 := cb_ HB.out hx329_3
                replace hx329_4 := cb_ HB.out hx329_4
                replace hx329_5 := cb_ HB.out hx329_5
                replace hx329_6 := cb_ HB.out hx329_6
                replace hx329_7 := cb_ HB.out hx329_7
                have HR329_2 := Aside0.mk hi329_2
                have HC329_2 := Aside0.mk hl329_2
                clear hi329_2 hl329_2
                have HR329_5 := Aside0.mk hi329_5
                have HC329_5 := Aside0.mk hl329_5
                clear hi329_5 hl329_5
                replace p329 := eq_true p329
                replace q329 := eq_true q329
                have p330 : 0 ≤ (x23_2 : Int) := of_decide_eq_true as_
                have q330 : x23_2 < (l0.length : Int) := of_decide_eq_true as_
                obtain ⟨ad330, A330_2, c330_2, A330_5, c330_5, e330, hx330_0, hx330_1, hx330_2, hx330_3, hx330_4, hx330_5, hx330_6, hx330_7, hl330_2, hi330_2, hl330_5, hi330_5⟩ := at_T41 HR0.out x23_2 p330 q330
                have hw330_7 := hx330_7
                have hw330_6 := hx330_6
                have hw330_5 := hx330_5
                have hw330_4 := hx330_4
                have hw330_3 := hx330_3
                have hw330_2 := hx330_2
                have hw330_1 := hx330_1
                have hw330_0 := hx330_0
                obtain rfl : ad326 = ad330 := (by injection e330)
                replace hx330_0 := cb_ HB.out hx330_0
                replace hx330_1 := cb_ HB.out hx330_1
                replace hx330_2 := cb_ HB.out hx330_2
                replace hx330_3 := cb_ HB.out hx330_3
                replace hx330_4 := cb_ HB.out hx330_4
                replace hx330_5 := cb_ HB.out hx330_5
                replace hx330_6 := cb_ HB.out hx330_6
                replace hx330_7 := cb_ HB.out hx330_7
                have HR330_2 := Aside0.mk hi330_2
                have HC330_2 := Aside0.mk hl330_2
                clear hi330_2 hl330_2
                have HR330_5 := Aside0.mk hi330_5
                have HC330_5 := Aside0.mk hl330_5
                clear hi330_5 hl330_5
                replace p330 := eq_true p330
                replace q330 := eq_true q330
                have ea_ := Option.some.inj (hx329_2.symm.trans hx330_2)
                injection ea_ with ea_ en_ ec_
                subst ea_
                subst ec_
                clear en_
                have ea_ := Option.some.inj (hx329_5.symm.trans hx330_5)
                injection ea_ with ea_ en_ ec_
                subst ea_
                subst ec_
                clear en_
                refine start_ (n := 18) (S := fun w' => q1_ w' gb327 ((rd_T41 l0 x15_1).f0) ((rd_T41 l0 x15_1).f1) A326_2 ((rd_T41 l0 x15_1).f2).length c326_2 ((rd_T41 l0 x15_1).f3) ((rd_T41 l0 x15_1).f4) A326_5 ((rd_T41 l0 x15_1).f5).length c326_5 ((rd_T41 l0 x15_1).f6.f0) ((rd_T41 l0 x15_1).f6.f1) (w'.cell? (ad328.add (x23_2).toNat) = some (.int .i64 (rd x3_1 x23_2)) ∧ q2_ w' (ad326.add ((x23_2).toNat * 8)) ((rd_T41 l0 x23_2).f0) ((rd_T41 l0 x23_2).f1) A329_2 ((rd_T41 l0 x23_2).f2).length c329_2 ((rd_T41 l0 x23_2).f3) ((rd_T41 l0 x23_2).f4) A329_5 ((rd_T41 l0 x23_2).f5).length c329_5 ((rd_T41 l0 x23_2).f6.f0) ((rd_T41 l0 x23_2).f6.f1) (q2e_ w' (ad326.add ((x23_2).toNat * 8)) ((rd_T41 l0 x23_2).f0) ((rd_T41 l0 x23_2).f1) A329_2 ((rd_T41 l0 x23_2).f2).length c329_2 ((rd_T41 l0 x23_2).f3) ((rd_T41 l0 x23_2).f4) A329_5 ((rd_T41 l0 x23_2).f5).length c329_5 ((rd_T41 l0 x23_2).f6.f0) ((rd_T41 l0 x23_2).f6.f1)))) (ds := []) M6_0 (by kernel_rfl) rfl rfl (k1_ BK327.out ⟨hx328_0, (cb_ HB.out hw329_0), (cb_ HB.out hw329_1), (cb_ HB.out hw329_2), (cb_ HB.out hw329_3), (cb_ HB.out hw329_4), (cb_ HB.out hw329_5), (cb_ HB.out hw329_6), (cb_ HB.out hw329_7), (cb_ HB.out hw330_0), (cb_ HB.out hw330_1), (cb_ HB.out hw330_2), (cb_ HB.out hw330_3), (cb_ HB.out hw330_4), (cb_ HB.out hw330_5), (cb_ HB.out hw330_6), (cb_ HB.out hw330_7)⟩) (fun hHeld => ?_); refine with_tabW impl_GroupReports.tab11 impl_GroupReports.bits11 (fun HT_ HW_ => ?_)
                generalize wr.drew = w20 at HO_3 BK327 HB HR329_2 HR329_5 HR330_2 HR330_5 hx328_0 hx329_0 hx329_1 hx329_2 hx329_3 hx329_4 hx329_5 hx329_6 hx329_7 hx330_0 hx330_1 hx330_2 hx330_3 hx330_4 hx330_5 hx330_6 hx330_7 hHeld ⊢
                refine pu_ 0 (some 26) M6_1 HT_ ?_
                refine pu_ 1 (some 27) M6_2 HT_ ?_
                refine pu_ 2 (some 28) M6_3 HT_ ?_
                refine pu_ 4 (some 30) M6_4 HT_ ?_
                refine pu_ 5 (some 31) M6_5 HT_ ?_
                refine pu_ 6 (some 32) M6_6 HT_ ?_
                refine pu_ 7 (some 33) M6_7 HT_ ?_
                refine tk_ 3 (some 29) M6_8 HT_ HW_ hHeld ?_
                refine tk_ 8 (some 34) M6_9 HT_ HW_ hHeld ?_
                refine pu_ 9 (some 35) M6_10 HT_ ?_
                refine pu_ 10 (some 36) M6_11 HT_ ?_
                refine pu_ 11 (some 37) M6_12 HT_ ?_
                refine pu_ 12 (some 38) M6_13 HT_ ?_
                refine pu_ 13 (some 39) M6_14 HT_ ?_
                refine tk_ 14 (some 40) M6_15 HT_ HW_ hHeld ?_
                refine tk_ 15 (some 41) M6_16 HT_ HW_ hHeld ?_
                refine one_ (i := 16) (N := some 42) M6_17 rfl rfl (one_of HT_.out (by kernel_rfl)) (by decide) (fun K hK => ?_)
                refine goes_ Try.func20 (by kernel_rfl) rfl #[.agg #[.int .i64 ((rd_T41 l0 x23_2).f0), .int .i64 ((rd_T41 l0 x23_2).f1), .slice A329_2 ((rd_T41 l0 x23_2).f2).length c329_2, .int .i64 ((rd_T41 l0 x23_2).f3), .int .i64 ((rd_T41 l0 x23_2).f4), .slice A329_5 ((rd_T41 l0 x23_2).f5).length c329_5, .int .i64 ((rd_T41 l0 x23_2).f6.f0), .int .i64 ((rd_T41 l0 x23_2).f6.f1)], .agg #[.int .i64 ((rd_T41 l0 x15_1).f0), .int .i64 ((rd_T41 l0 x15_1).f1), .slice A326_2 ((rd_T41 l0 x15_1).f2).length c326_2, .int .i64 ((rd_T41 l0 x15_1).f3), .int .i64 ((rd_T41 l0 x15_1).f4), .slice A326_5 ((rd_T41 l0 x15_1).f5).length c326_5, .int .i64 ((rd_T41 l0 x15_1).f6.f0), .int .i64 ((rd_T41 l0 x15_1).f6.f1)]] (by rfl) rfl rfl ma_ ?_
                with_reducible refine (impl_SameOwner.calls k2 ((rd_T41 l0 x23_2).f0) ((rd_T41 l0 x23_2).f1) _ _ ((rd_T41 l0 x23_2).f2) ((rd_T41 l0 x23_2).f3) ((rd_T41 l0 x23_2).f4) _ _ ((rd_T41 l0 x23_2).f5) ((rd_T41 l0 x23_2).f6.f0) ((rd_T41 l0 x23_2).f6.f1) ((rd_T41 l0 x15_1).f0) ((rd_T41 l0 x15_1).f1) _ _ ((rd_T41 l0 x15_1).f2) ((rd_T41 l0 x15_1).f3) ((rd_T41 l0 x15_1).f4) _ _ ((rd_T41 l0 x15_1).f5) ((rd_T41 l0 x15_1).f6.f0) ((rd_T41 l0 x15_1).f6.f1) true _ ?side1 ?side2 ?side3 ?side4 ?side5 ?side6 ?side7 ?side8 A17.out).mono ?_
                (case side1 => exact cd_ (Kd.C_below HR330_2.out HB.out))
                (case side2 => exact HC330_2.out)
                (case side3 => exact cd_ (Kd.C_below HR330_5.out HB.out))
                (case side4 => exact HC330_5.out)
                (case side5 => exact cd_ (Kd.C_below HR326_2.out HB.out))
                (case side6 => exact HC326_2.out)
                (case side7 => exact cd_ (Kd.C_below HR326_5.out HB.out))
                (case side8 => exact HC326_5.out)
                rintro e w22 ⟨rfl, hb⟩
                have HS8_ := (hb.cell (World.block_lt_of_cell? _ _ (hHeld.2.2.2.2.2.2.2.2.1))).trans (hHeld.2.2.2.2.2.2.2.2.1)
                refine ⟨_, rfl, ?_⟩
                have n0_ := Aside0.mk (Kd.R_below (rd_ HO_3.out) hb)
                have n1_ := Aside0.mk (blk_below (bd_ BK327.out) hb)
                have n2_ := Aside0.mk (below_step y247_ hb)
                clear HO_3
                clear BK327
                clear HB
                have HO_3 := n0_
                have BK327 := n1_
                have HB := n2_
                clear n0_ n1_ n2_
                (try clear hb)
                (try clear hb2)
                (try clear hk)
                (try clear hi)
                refine hK.out _ _ (k1_ BK327.out ⟨HS8_, (cb_ HB.out hw329_0), (cb_ HB.out hw329_1), (cb_ HB.out hw329_2), (cb_ HB.out hw329_3), (cb_ HB.out hw329_4), (cb_ HB.out hw329_5), (cb_ HB.out hw329_6), (cb_ HB.out hw329_7), (cb_ HB.out hw330_0), (cb_ HB.out hw330_1), (cb_ HB.out hw330_2), (cb_ HB.out hw330_3), (cb_ HB.out hw330_4), (cb_ HB.out hw330_5), (cb_ HB.out hw330_6), (cb_ HB.out hw330_7)⟩) (fun hHeld => ?_)
                clear hK K
                refine norm_ (a' := ?_) ?_ ?_
                rotate_left
                ·
                 show Act.put _ (some 42) _ = _
                 simp only [Act.put, P6_1, P6_2, P6_3, i64_w, i32_w]
                 rfl
                refine pu_ 17 (some 43) M6_18 HT_ ?_
                refine done_ (done_of HT_.out (by kernel_rfl)) ?_
                have p332 : 0 ≤ (x23_2 : Int) := of_decide_eq_true as_
                have q332 : x23_2 < (l0.length : Int) := of_decide_eq_true as_
                obtain ⟨ad332, A332_2, c332_2, A332_5, c332_5, e332, hx332_0, hx332_1, hx332_2, hx332_3, hx332_4, hx332_5, hx332_6, hx332_7, hl332_2, hi332_2, hl332_5, hi332_5⟩ := at_T41 HR0.out x23_2 p332 q332
                obtain rfl : ad326 = ad332 := (by injection e332)
                replace hx332_0 := cb_ HB.out hx332_0
                replace hx332_1 := cb_ HB.out hx332_1
                replace hx332_2 := cb_ HB.out hx332_2
                replace hx332_3 := cb_ HB.out hx332_3
                replace hx332_4 := cb_ HB.out hx332_4
                replace hx332_5 := cb_ HB.out hx332_5
                replace hx332_6 := cb_ HB.out hx332_6
                replace hx332_7 := cb_ HB.out hx332_7
                have HR332_2 := Aside0.mk hi332_2
                have HC332_2 := Aside0.mk hl332_2
                clear hi332_2 hl332_2
                have HR332_5 := Aside0.mk hi332_5
                have HC332_5 := Aside0.mk hl332_5
                clear hi332_5 hl332_5
                replace p332 := eq_true p332
                replace q332 := eq_true q332
                try go_wp2_with (first | ((with_reducible refine gate_builtin (b := .append) (xs := #[.tmp 50, .tmp 52]) rfl ?_); at_builtin; refine Kd.R_append (Kd.int .i64) (w0 := w) w.heap.size rfl (.tmp 50) (.tmp 52) 24 3 (.int .i64 0) 8 rfl Try.underlying24 info3 rfl (by decide) (by omega) (.slice (some ad328) x3_1.length co21) x3_1 ((rd_T41 l0 x23_2).f0) [.int .i64 ((rd_T41 l0 x23_2).f0)] (fun _ => True) (fun _ => False) rfl rfl ?aP (fun _ hk => hk.elim) ?aF ?aO ?aB ?aS ?aL ?_; (case aP => exact rfl); (case aB => exact y247_); (case aF => exact (fun _ _ => trivial)); (case aO => exact rd_ HO_3.out); (case aS => exact (below_size y247_)); (case aL => have := LMc19.out; omega); intro v334 w23 ho hb hg hat; rw [← Ny333.out] at ho; have n0_ := Aside0.mk (blk_grown (g := gb327) (o := .cells #[.int .i64 ((rd_T41 l0 x15_1).f0), .int .i64 ((rd_T41 l0 x15_1).f1), .slice A326_2 ((rd_T41 l0 x15_1).f2).length c326_2, .int .i64 ((rd_T41 l0 x15_1).f3), .int .i64 ((rd_T41 l0 x15_1).f4), .slice A326_5 ((rd_T41 l0 x15_1).f5).length c326_5, .int .i64 ((rd_T41 l0 x15_1).f6.f0), .int .i64 ((rd_T41 l0 x15_1).f6.f1)] 41 (0, 0)) (bd_ BK327.out) hg (Kd.R_ne HO_3.out BK327.out (by decide))); have n1_ := Aside0.mk (hb); have HO335 := Aside0.mk (ho); clear BK327; clear HB; clear HO_3; have BK327 := n0_; have HB := n1_; clear n0_ n1_; clear ho hb hg hat))
                go_roundg k2
                case measure => have := HK1.out; have := HK2.out; omega
                case rel => exact ⟨(y333), (wrap64 (x15_1 + 1)), y251_, H', ⟨by have := HK1.out; have := HK2.out; omega⟩, ⟨rd_ HO335.out⟩, ⟨y248_⟩⟩
               ·
                rw [if_neg c19] at H
                exact absurd H (by simp)
              ·
               replace c18 := Bool.eq_false_iff.mpr c18
               subst c18
               have H1 : (impl_GroupReports.l1 k2 l0 x3_1 x6_2 l0 (l0.length : Int) x15_1 x15_1 (wrap64 (x23_2 + 1)) ((rd_T41 l0 x15_1).f0) ((rd_T41 l0 x15_1).f1) ((rd_T41 l0 x15_1).f2) ((rd_T41 l0 x15_1).f3) ((rd_T41 l0 x15_1).f4) ((rd_T41 l0 x15_1).f5) ((rd_T41 l0 x15_1).f6.f0) ((rd_T41 l0 x15_1).f6.f1)) = some r := by rw [if_neg (show ¬ (false = true) by decide)] at H; exact H
               clear H
               have H := H1
               clear H1
               have H' := Aside0.mk H
               clear H
               try go_wp2
               have n0_ := Aside0.mk (Kd.R_drew HO_3.out)
               have n1_ := Aside0.mk (blk_drew BK327.out)
               have n2_ := Aside0.mk (below_drew1 HB.out)
               clear HO_3
               clear BK327
               clear HB
               have HO_3 := n0_
               have BK327 := n1_
               have HB := n2_
               clear n0_ n1_ n2_
               obtain ⟨Ao25, co25, eo25⟩ := Kd.R_slice HO_3.out
               (first | subst eo25 | (injection eo25 with f1_ f2_ f3_; have f4_ := f1_.symm; have f5_ := f3_.symm; clear f1_ f2_ f3_; subst f4_; subst f5_))
               have p328 : 0 ≤ (x23_2 : Int) := of_decide_eq_true as_
               have q328 : x23_2 < (x3_1.length : Int) := of_decide_eq_true as_
               obtain ⟨ad328, e328, hx328_0⟩ := Kd.at_int (Kd.R_reads' HO_3.out).2.2 x23_2 p328 q328
               cases e328
               replace p328 := eq_true p328
               replace q328 := eq_true q328
               have p329 : 0 ≤ (x23_2 : Int) := of_decide_eq_true as_
               have q329 : x23_2 < (l0.length : Int) := of_decide_eq_true as_
               obtain ⟨ad329, A329_2, c329_2, A329_5, c329_5, e329, hx329_0, hx329_1, hx329_2, hx329_3, hx329_4, hx329_5, hx329_6, hx329_7, hl329_2, hi329_2, hl329_5, hi329_5⟩ := at_T41 HR0.out x23_2 p329 q329
               have hw329_7 := hx329_7
               have hw329_6 := hx329_6
               have hw329_5 := hx329_5
               have hw329_4 := hx329_4
               have hw329_3 := hx329_3
               have hw329_2 := hx329_2
               have hw329_1 := hx329_1
               have hw329_0 := hx329_0
               obtain rfl : ad326 = ad329 := (by injection e329)
               replace hx329_0 := cb_ HB.out hx329_0
               replace hx329_1 := cb_ HB.out hx329_1
               replace hx329_2 := cb_ HB.out hx329_2
               replace hx329_3 := cb_ HB.out hx329_3
               replace hx329_4 := cb_ HB.out hx329_4
               replace hx329_5 := cb_ HB.out hx329_5
               replace hx329_6 := cb_ HB.out hx329_6
               replace hx329_7 := cb_ HB.out hx329_7
               have HR329_2 := Aside0.mk hi329_2
               have HC329_2 := Aside0.mk hl329_2
               clear hi329_2 hl329_2
               have HR329_5 := Aside0.mk hi329_5
               have HC329_5 := Aside0.mk hl329_5
               clear hi329_5 hl329_5
               replace p329 := eq_true p329
               replace q329 := eq_true q329
               have p330 : 0 ≤ (x23_2 : Int) := of_decide_eq_true as_
               have q330 : x23_2 < (l0.length : Int) := of_decide_eq_true as_
               obtain ⟨ad330, A330_2, c330_2, A330_5, c330_5, e330, hx330_0, hx330_1, hx330_2, hx330_3, hx330_4, hx330_5, hx330_6, hx330_7, hl330_2, hi330_2, hl330_5, hi330_5⟩ := at_T41 HR0.out x23_2 p330 q330
               have hw330_7 := hx330_7
               have hw330_6 := hx330_6
               have hw330_5 := hx330_5
               have hw330_4 := hx330_4
               have hw330_3 := hx330_3
               have hw330_2 := hx330_2
               have hw330_1 := hx330_1
               have hw330_0 := hx330_0
               obtain rfl : ad326 = ad330 := (by injection e330)
               replace hx330_0 := cb_ HB.out hx330_0
               replace hx330_1 := cb_ HB.out hx330_1
               replace hx330_2 := cb_ HB.out hx330_2
               replace hx330_3 := cb_ HB.out hx330_3
               replace hx330_4 := cb_ HB.out hx330_4
               replace hx330_5 := cb_ HB.out hx330_5
               replace hx330_6 := cb_ HB.out hx330_6
               replace hx330_7 := cb_ HB.out hx330_7
               have HR330_2 := Aside0.mk hi330_2
               have HC330_2 := Aside0.mk hl330_2
               clear hi330_2 hl330_2
               have HR330_5 := Aside0.mk hi330_5
               have HC330_5 := Aside0.mk hl330_5
               clear hi330_5 hl330_5
               replace p330 := eq_true p330
               replace q330 := eq_true q330
               have ea_ := Option.some.inj (hx329_2.symm.trans hx330_2)
               injection ea_ with ea_ en_ ec_
               subst ea_
               subst ec_
               clear en_
               have ea_ := Option.some.inj (hx329_5.symm.trans hx330_5)
               injection ea_ with ea_ en_ ec_
               subst ea_
               subst ec_
               clear en_
               refine start_ (n := 18) (S := fun w' => q1_ w' gb327 ((rd_T41 l0 x15_1).f0) ((rd_T41 l0 x15_1).f1) A326_2 ((rd_T41 l0 x15_1).f2).length c326_2 ((rd_T41 l0 x15_1).f3) ((rd_T41 l0 x15_1).f4) A326_5 ((rd_T41 l0 x15_1).f5).length c326_5 ((rd_T41 l0 x15_1).f6.f0) ((rd_T41 l0 x15_1).f6.f1) (w'.cell? (ad328.add (x23_2).toNat) = some (.int .i64 (rd x3_1 x23_2)) ∧ q2_ w' (ad326.add ((x23_2).toNat * 8)) ((rd_T41 l0 x23_2).f0) ((rd_T41 l0 x23_2).f1) A329_2 ((rd_T41 l0 x23_2).f2).length c329_2 ((rd_T41 l0 x23_2).f3) ((rd_T41 l0 x23_2).f4) A329_5 ((rd_T41 l0 x23_2).f5).length c329_5 ((rd_T41 l0 x23_2).f6.f0) ((rd_T41 l0 x23_2).f6.f1) (q2e_ w' (ad326.add ((x23_2).toNat * 8)) ((rd_T41 l0 x23_2).f0) ((rd_T41 l0 x23_2).f1) A329_2 ((rd_T41 l0 x23_2).f2).length c329_2 ((rd_T41 l0 x23_2).f3) ((rd_T41 l0 x23_2).f4) A329_5 ((rd_T41 l0 x23_2).f5).length c329_5 ((rd_T41 l0 x23_2).f6.f0) ((rd_T41 l0 x23_2).f6.f1)))) (ds := []) M6_0 (by kernel_rfl) rfl rfl (k1_ BK327.out ⟨hx328_0, (cb_ HB.out hw329_0), (cb_ HB.out hw329_1), (cb_ HB.out hw329_2), (cb_ HB.out hw329_3), (cb_ HB.out hw329_4), (cb_ HB.out hw329_5), (cb_ HB.out hw329_6), (cb_ HB.out hw329_7), (cb_ HB.out hw330_0), (cb_ HB.out hw330_1), (cb_ HB.out hw330_2), (cb_ HB.out hw330_3), (cb_ HB.out hw330_4), (cb_ HB.out hw330_5), (cb_ HB.out hw330_6), (cb_ HB.out hw330_7)⟩) (fun hHeld => ?_); refine with_tabW impl_GroupReports.tab11 impl_GroupReports.bits11 (fun HT_ HW_ => ?_)
               generalize wr.drew = w24 at HO_3 BK327 HB HR329_2 HR329_5 HR330_2 HR330_5 hx328_0 hx329_0 hx329_1 hx329_2 hx329_3 hx329_4 hx329_5 hx329_6 hx329_7 hx330_0 hx330_1 hx330_2 hx330_3 hx330_4 hx330_5 hx330_6 hx330_7 hHeld ⊢
               refine pu_ 0 (some 26) M6_1 HT_ ?_
               refine pu_ 1 (some 27) M6_2 HT_ ?_
               refine pu_ 2 (some 28) M6_3 HT_ ?_
               refine pu_ 4 (some 30) M6_4 HT_ ?_
               refine pu_ 5 (some 31) M6_5 HT_ ?_
               refine pu_ 6 (some 32) M6_6 HT_ ?_
               refine pu_ 7 (some 33) M6_7 HT_ ?_
               refine tk_ 3 (some 29) M6_8 HT_ HW_ hHeld ?_
               refine tk_ 8 (some 34) M6_9 HT_ HW_ hHeld ?_
               refine pu_ 9 (some 35) M6_10 HT_ ?_
               refine pu_ 10 (some 36) M6_11 HT_ ?_
               refine pu_ 11 (some 37) M6_12 HT_ ?_
               refine pu_ 12 (some 38) M6_13 HT_ ?_
               refine pu_ 13 (some 39) M6_14 HT_ ?_
               refine tk_ 14 (some 40) M6_15 HT_ HW_ hHeld ?_
               refine tk_ 15 (some 41) M6_16 HT_ HW_ hHeld ?_
               refine one_ (i := 16) (N := some 42) M6_17 rfl rfl (one_of HT_.out (by kernel_rfl)) (by decide) (fun K hK => ?_)
               refine goes_ Try.func20 (by kernel_rfl) rfl #[.agg #[.int .i64 ((rd_T41 l0 x23_2).f0), .int .i64 ((rd_T41 l0 x23_2).f1), .slice A329_2 ((rd_T41 l0 x23_2).f2).length c329_2, .int .i64 ((rd_T41 l0 x23_2).f3), .int .i64 ((rd_T41 l0 x23_2).f4), .slice A329_5 ((rd_T41 l0 x23_2).f5).length c329_5, .int .i64 ((rd_T41 l0 x23_2).f6.f0), .int .i64 ((rd_T41 l0 x23_2).f6.f1)], .agg #[.int .i64 ((rd_T41 l0 x15_1).f0), .int .i64 ((rd_T41 l0 x15_1).f1), .slice A326_2 ((rd_T41 l0 x15_1).f2).length c326_2, .int .i64 ((rd_T41 l0 x15_1).f3), .int .i64 ((rd_T41 l0 x15_1).f4), .slice A326_5 ((rd_T41 l0 x15_1).f5).length c326_5, .int .i64 ((rd_T41 l0 x15_1).f6.f0), .int .i64 ((rd_T41 l0 x15_1).f6.f1)]] (by rfl) rfl rfl ma_ ?_
               with_reducible refine (impl_SameOwner.calls k2 ((rd_T41 l0 x23_2).f0) ((rd_T41 l0 x23_2).f1) _ _ ((rd_T41 l0 x23_2).f2) ((rd_T41 l0 x23_2).f3) ((rd_T41 l0 x23_2).f4) _ _ ((rd_T41 l0 x23_2).f5) ((rd_T41 l0 x23_2).f6.f0) ((rd_T41 l0 x23_2).f6.f1) ((rd_T41 l0 x15_1).f0) ((rd_T41 l0 x15_1).f1) _ _ ((rd_T41 l0 x15_1).f2) ((rd_T41 l0 x15_1).f3) ((rd_T41 l0 x15_1).f4) _ _ ((rd_T41 l0 x15_1).f5) ((rd_T41 l0 x15_1).f6.f0) ((rd_T41 l0 x15_1).f6.f1) false _ ?side1 ?side2 ?side3 ?side4 ?side5 ?side6 ?side7 ?side8 A17.out).mono ?_
               (case side1 => exact cd_ (Kd.C_below HR330_2.out HB.out))
               (case side2 => exact HC330_2.out)
               (case side3 => exact cd_ (Kd.C_below HR330_5.out HB.out))
               (case side4 => exact HC330_5.out)
               (case side5 => exact cd_ (Kd.C_below HR326_2.out HB.out))
               (case side6 => exact HC326_2.out)
               (case side7 => exact cd_ (Kd.C_below HR326_5.out HB.out))
               (case side8 => exact HC326_5.out)
               rintro e w26 ⟨rfl, hb⟩
               have HS8_ := (hb.cell (World.block_lt_of_cell? _ _ (hHeld.2.2.2.2.2.2.2.2.1))).trans (hHeld.2.2.2.2.2.2.2.2.1)
               refine ⟨_, rfl, ?_⟩
               have n0_ := Aside0.mk (Kd.R_below (rd_ HO_3.out) hb)
               have n1_ := Aside0.mk (blk_below (bd_ BK327.out) hb)
               have n2_ := Aside0.mk (below_step y247_ hb)
               clear HO_3
               clear BK327
               clear HB
               have HO_3 := n0_
               have BK327 := n1_
               have HB := n2_
               clear n0_ n1_ n2_
               (try clear hb)
               (try clear hb2)
               (try clear hk)
               (try clear hi)
               refine hK.out _ _ (k1_ BK327.out ⟨HS8_, (cb_ HB.out hw329_0), (cb_ HB.out hw329_1), (cb_ HB.out hw329_2), (cb_ HB.out hw329_3), (cb_ HB.out hw329_4), (cb_ HB.out hw329_5), (cb_ HB.out hw329_6), (cb_ HB.out hw329_7), (cb_ HB.out hw330_0), (cb_ HB.out hw330_1), (cb_ HB.out hw330_2), (cb_ HB.out hw330_3), (cb_ HB.out hw330_4), (cb_ HB.out hw330_5), (cb_ HB.out hw330_6), (cb_ HB.out hw330_7)⟩) (fun hHeld => ?_)
               clear hK K
               refine norm_ (a' := ?_) ?_ ?_
               rotate_left
               ·
                show Act.put _ (some 42) _ = _
                simp only [Act.put, P6_1, P6_2, P6_3, i64_w, i32_w]
                rfl
               refine pu_ 17 (some 43) M6_18 HT_ ?_
               refine done_ (done_of HT_.out (by kernel_rfl)) ?_
               try go_wp2
               go_roundg k2
               case measure => have := HK1.out; have := HK2.out; omega
               case rel => exact ⟨(x6_2), (wrap64 (x23_2 + 1)), y251_, y251_, H', ⟨by have := HK1.out; have := HK2.out; omega⟩, ⟨rd_ HO_3.out⟩, ⟨bd_ BK327.out⟩, ⟨y248_⟩⟩
             ·
              rw [if_neg c16] at H
              have c16b0 : ((rd x3_1 x23_2) == ((rd_T41 l0 x23_2).f0)) = false := beq_eq_false_iff_ne.mpr c16
              have c16b1 : ((rd x3_1 x23_2) != ((rd_T41 l0 x23_2).f0)) = true := bne_iff_ne.mpr c16
              have H' := Aside0.mk H
              clear H
              try go_wp2
              have n0_ := Aside0.mk (Kd.R_drew HO_3.out)
              have n1_ := Aside0.mk (blk_drew BK327.out)
              have n2_ := Aside0.mk (below_drew1 HB.out)
              clear HO_3
              clear BK327
              clear HB
              have HO_3 := n0_
              have BK327 := n1_
              have HB := n2_
              clear n0_ n1_ n2_
              obtain ⟨Ao28, co28, eo28⟩ := Kd.R_slice HO_3.out
              (first | subst eo28 | (injection eo28 with f1_ f2_ f3_; have f4_ := f1_.symm; have f5_ := f3_.symm; clear f1_ f2_ f3_; subst f4_; subst f5_))
              have p328 : 0 ≤ (x23_2 : Int) := of_decide_eq_true as_
              have q328 : x23_2 < (x3_1.length : Int) := of_decide_eq_true as_
              obtain ⟨ad328, e328, hx328_0⟩ := Kd.at_int (Kd.R_reads' HO_3.out).2.2 x23_2 p328 q328
              cases e328
              replace p328 := eq_true p328
              replace q328 := eq_true q328
              have p329 : 0 ≤ (x23_2 : Int) := of_decide_eq_true as_
              have q329 : x23_2 < (l0.length : Int) := of_decide_eq_true as_
              obtain ⟨ad329, A329_2, c329_2, A329_5, c329_5, e329, hx329_0, hx329_1, hx329_2, hx329_3, hx329_4, hx329_5, hx329_6, hx329_7, hl329_2, hi329_2, hl329_5, hi329_5⟩ := at_T41 HR0.out x23_2 p329 q329
              have hw329_7 := hx329_7
              have hw329_6 := hx329_6
              have hw329_5 := hx329_5
              have hw329_4 := hx329_4
              have hw329_3 := hx329_3
              have hw329_2 := hx329_2
              have hw329_1 := hx329_1
              have hw329_0 := hx329_0
              obtain rfl : ad326 = ad329 := (by injection e329)
              replace hx329_0 := cb_ HB.out hx329_0
              replace hx329_1 := cb_ HB.out hx329_1
              replace hx329_2 := cb_ HB.out hx329_2
              replace hx329_3 := cb_ HB.out hx329_3
              replace hx329_4 := cb_ HB.out hx329_4
              replace hx329_5 := cb_ HB.out hx329_5
              replace hx329_6 := cb_ HB.out hx329_6
              replace hx329_7 := cb_ HB.out hx329_7
              have HR329_2 := Aside0.mk hi329_2
              have HC329_2 := Aside0.mk hl329_2
              clear hi329_2 hl329_2
              have HR329_5 := Aside0.mk hi329_5
              have HC329_5 := Aside0.mk hl329_5
              clear hi329_5 hl329_5
              replace p329 := eq_true p329
              replace q329 := eq_true q329
              refine start_ (n := 18) (S := fun w' => w'.cell? (ad328.add (x23_2).toNat) = some (.int .i64 (rd x3_1 x23_2)) ∧ q2e_ w' (ad326.add ((x23_2).toNat * 8)) ((rd_T41 l0 x23_2).f0) ((rd_T41 l0 x23_2).f1) A329_2 ((rd_T41 l0 x23_2).f2).length c329_2 ((rd_T41 l0 x23_2).f3) ((rd_T41 l0 x23_2).f4) A329_5 ((rd_T41 l0 x23_2).f5).length c329_5 ((rd_T41 l0 x23_2).f6.f0) ((rd_T41 l0 x23_2).f6.f1)) (ds := []) M6_0 (by kernel_rfl) rfl rfl ⟨hx328_0, (cb_ HB.out hw329_0), (cb_ HB.out hw329_1), (cb_ HB.out hw329_2), (cb_ HB.out hw329_3), (cb_ HB.out hw329_4), (cb_ HB.out hw329_5), (cb_ HB.out hw329_6), (cb_ HB.out hw329_7)⟩ (fun hHeld => ?_); refine with_tabW impl_GroupReports.tab11 impl_GroupReports.bits11 (fun HT_ HW_ => ?_)
              generalize wr.drew = w27 at HO_3 BK327 HB HR329_2 HR329_5 hx328_0 hx329_0 hx329_1 hx329_2 hx329_3 hx329_4 hx329_5 hx329_6 hx329_7 hHeld ⊢
              refine pu_ 0 (some 26) M6_1 HT_ ?_
              refine pu_ 1 (some 27) M6_2 HT_ ?_
              refine pu_ 2 (some 28) M6_3 HT_ ?_
              refine pu_ 4 (some 30) M6_4 HT_ ?_
              refine pu_ 5 (some 31) M6_5 HT_ ?_
              refine pu_ 6 (some 32) M6_6 HT_ ?_
              refine pu_ 7 (some 33) M6_7 HT_ ?_
              refine tk_ 3 (some 29) M6_8 HT_ HW_ hHeld ?_
              refine tk_ 8 (some 34) M6_9 HT_ HW_ hHeld ?_
              refine pu_ 9 (some 35) M6_10 HT_ ?_
              refine pu_ 10 (some 36) M6_11 HT_ ?_
              refine pn_ 11 (some 37) M6_12 HT_ ?_
              refine pn_ 12 (some 38) M6_13 HT_ ?_
              refine pn_ 13 (some 39) M6_14 HT_ ?_
              refine pn_ 14 (some 40) M6_15 HT_ ?_
              refine pn_ 15 (some 41) M6_16 HT_ ?_
              refine pn_ 16 (some 42) M6_17 HT_ ?_
              refine pu_ 17 (some 43) M6_18 HT_ ?_
              refine done_ (done_of HT_.out (by kernel_rfl)) ?_
              try go_wp2
              go_roundg k2
              case measure => have := HK1.out; have := HK2.out; omega
              case rel => exact ⟨(x6_2), (wrap64 (x23_2 + 1)), y251_, y251_, H', ⟨by have := HK1.out; have := HK2.out; omega⟩, ⟨rd_ HO_3.out⟩, ⟨bd_ BK327.out⟩, ⟨y248_⟩⟩
            ·
             rw [if_neg c15] at H
             exact absurd H (by simp)
           ·
            rw [if_neg c14] at H
            exact absurd H (by simp)
          ·
           rw [if_neg c13] at H
           exact absurd H (by simp)
         ·
          rw [if_neg c12] at H
          have c12b0 : decide (x23_2 < x15_1) = false := decide_eq_false c12
          clear c12
          by_cases c29 : x3_1.length < 17592186044416
          ·
           rw [if_pos c29] at H
           have LMc29 := Aside0.mk c29
           clear c29
           obtain ⟨y336, hy336⟩ : ∃ y_ : List Int, y_ = (x3_1 ++ [x6_2]) := ⟨_, rfl⟩
           replace H : (impl_GroupReports.l0 k2 l0 y336 l0 (l0.length : Int) (wrap64 (x15_1 + 1))) = some r := by first | (rw [hy336]; with_reducible exact H) | (have H2_ := (Option.bind_some _ _).symm.trans H; rw [hy336]; with_reducible exact H2_) | (have H2_ := (Option.bind_some _ _).symm.trans H; with_reducible exact H2_) | with_reducible exact H | (rw [hy336]; exact H) | exact H
           have Ny336 := Aside0.mk hy336
           clear hy336
           have H' := Aside0.mk H
           clear H
           go_wp2_with (first | ((with_reducible refine gate_builtin (b := .append) (xs := #[.tmp 50, .tmp 52]) rfl ?_); at_builtin; refine Kd.R_append (Kd.int .i64) (w0 := w) w.heap.size rfl (.tmp 50) (.tmp 52) 24 3 (.int .i64 0) 8 rfl Try.underlying24 info3 rfl (by decide) (by omega) u3 x3_1 x6_2 [.int .i64 x6_2] (fun _ => True) (fun _ => False) rfl rfl ?aP (fun _ hk => hk.elim) ?aF ?aO ?aB ?aS ?aL ?_; (case aP => exact rfl); (case aB => exact y247_); (case aF => exact (fun _ _ => trivial)); (case aO => exact rd_ HO_3.out); (case aS => exact (below_size y247_)); (case aL => have := LMc29.out; omega); intro v337 w30 ho hb hg hat; rw [← Ny336.out] at ho; have n0_ := Aside0.mk (blk_grown (g := gb327) (o := .cells #[.int .i64 ((rd_T41 l0 x15_1).f0), .int .i64 ((rd_T41 l0 x15_1).f1), .slice A326_2 ((rd_T41 l0 x15_1).f2).length c326_2, .int .i64 ((rd_T41 l0 x15_1).f3), .int .i64 ((rd_T41 l0 x15_1).f4), .slice A326_5 ((rd_T41 l0 x15_1).f5).length c326_5, .int .i64 ((rd_T41 l0 x15_1).f6.f0), .int .i64 ((rd_T41 l0 x15_1).f6.f1)] 41 (0, 0)) (bd_ BK327.out) hg (Kd.R_ne HO_3.out BK327.out (by decide))); have n1_ := Aside0.mk (hb); have HO338 := Aside0.mk (ho); clear BK327; clear HB; clear HO_3; have BK327 := n0_; have HB := n1_; clear n0_ n1_; clear ho hb hg hat))
           go_roundg k2
           case measure => have := HK1.out; have := HK2.out; omega
           case rel => exact ⟨(y336), (wrap64 (x15_1 + 1)), y251_, H', ⟨by have := HK1.out; have := HK2.out; omega⟩, ⟨rd_ HO338.out⟩, ⟨y248_⟩⟩
          ·
           rw [if_neg c29] at H
           exact absurd H (by simp)
      ·
       rw [if_neg c9] at H
       exact absurd H (by simp)
     ·
      rw [if_neg c8] at H
      exact absurd H (by simp)
    ·
     rw [if_neg c7] at H
     have c7b0 : decide (x15_1 < (l0.length : Int)) = false := decide_eq_false c7
     clear c7
     obtain rfl := Option.some.inj H
     go_wp2
     go_ret
     exact ⟨_, by first | rfl | (simp [errW_none, errW_some] <;> rfl) | (simp [*, errW_none, errW_some] <;> rfl), rd_ HO_3.out, hd_ HB.out⟩
 ·
  replace c3 := Bool.eq_false_iff.mpr c3
  subst c3
  have H1 : (some y322) = some r := by rw [if_neg (show ¬ (false = true) by decide)] at H; exact H
  clear H
  have H := H1
  clear H1
  obtain rfl := Option.some.inj H
  go_enter Try.func28, Try.ntmps28
  go_wp2_with (first | ((with_reducible refine gate_dst (N := 8) rfl ?_); refine Kd.R_lit (Kd.int .i64) _ 3 ?hg (N := 8) ?hd (xs := ([] : List Int)) (inner := []) (ok := fun _ => True) (okp := fun _ => True) ?hr ?hp (fun _ hk => hk) trivial (Below.refl _ _) (Nat.le_refl _) (by simp) ?_; (case hd => rfl); (case hg => rfl); (case hr => first | (go_simp; done) | (go_simp; rfl)); (case hp => exact (Reps.none _ _)); intro v323 w31 ho32 hb hg_ hnew_; clear hg_ hnew_; (first | rw [← Ny322.out] at ho32 | (simp only [Int.reduceToNat] at ho32; rw [← Ny322.out] at ho32)); have HO324 := Aside0.mk (Kd.R_lower ho32 (below_size (hd_ HB.out))); have n1_ := Aside0.mk (below_step (hd_ HB.out) hb); clear HB; have HB := n1_; clear n1_; clear hb ho32) | ((with_reducible refine gate_callee (f := 57) rfl ?_); refine goesL_ (some 10) rfl rfl Try.func57 (by kernel_rfl) rfl #[.slice A0 l0.length c0] rfl ma_ ?_; (with_reducible refine (impl_AreReports.calls k _ _ l0 false _ ?side1 ?side2 A2.out).mono ?_); (case side1 => exact cd_ (Kd.C_below HR0.out HB.out)); (case side2 => exact HC0.out); rintro e w33 ⟨rfl, hb⟩; refine ⟨_, rfl, ?_⟩; have n0_ := Aside0.mk (Kd.R_below (rd_ HO324.out) hb); have n1_ := Aside0.mk (below_step (hd_ HB.out) hb); clear HO324; clear HB; have HO324 := n0_; have HB := n1_; clear n0_ n1_; (try clear hb); (try clear hb2); (try clear hk); (try clear hi)))
  go_ret
  exact ⟨_, by first | rfl | (simp [errW_none, errW_some] <;> rfl) | (simp [*, errW_none, errW_some] <;> rfl), rd_ HO324.out, hd_ HB.out⟩

/-! ### laws_eqSpan: function 53 -/
def laws_eqSpan.f (a0_0 : Int) (a0_1 : Int) (a1_0 : Int) (a1_1 : Int) : Option (Bool) := if a0_0 = a1_0 then (if a0_1 = a1_1 then (some true) else (some false)) else (some false)
theorem y254_ {P : Prop} (h : P := by repeat (first | (with_reducible first | exact HB.out | apply below_alloc | apply pw_below_drewN | apply below_drew1 | refine below_set ?_ GE339.out) | exact HB.out)) : P := h
theorem y257_ {P : Prop} (h : P := by repeat (first | (with_reducible first | exact HB.out | apply below_alloc | apply pw_below_drewN | apply below_drew1 | refine below_set ?_ GE339.out | refine below_set ?_ GE340.out) | exact HB.out)) : P := h
theorem y258_ {P : Prop} (h : P := by rw [hg]; exact Nat.ne_of_lt (blk_lt (bd_ BK339.out))) : P := h
theorem y259_ {P : Prop} (h : P := by rw [hg]; exact Nat.ne_of_gt (blk_lt (bd_ BK339.out))) : P := h
set_option maxHeartbeats 8000000 in
set_option maxRecDepth 100000 in
theorem laws_eqSpan.calls (a0_0 : Int) (a0_1 : Int) (a1_0 : Int) (a1_1 : Int) (r : Bool) (w : World) (h : laws_eqSpan.f a0_0 a0_1 a1_0 a1_1 = some r) :
    Calls Try.prog 53 #[.agg #[.int .i64 a0_0, .int .i64 a0_1], .agg #[.int .i64 a1_0, .int .i64 a1_1]] w fun e w' => e = .returned (.bool r) ∧ Below w.heap.size w w' := by
  have hu39 := Try.underlying39
  have HB := Aside0.mk (Below.refl w.heap.size w)
  have H : (if a0_0 = a1_0 then (if a0_1 = a1_1 then (some true) else (some false)) else (some false)) = some r := h
  clear h
  by_cases c3 : a0_0 = a1_0
  · rw [if_pos c3] at H
    have c3b0 : (a0_0 == a1_0) = true := beq_iff_eq.mpr c3
    have c3b1 : (a0_0 != a1_0) = false := bne_eq_false_iff_eq.mpr c3
    clear c3
    by_cases c4 : a0_1 = a1_1
    · rw [if_pos c4] at H
      have c4b0 : (a0_1 == a1_1) = true := beq_iff_eq.mpr c4
      have c4b1 : (a0_1 != a1_1) = false := bne_eq_false_iff_eq.mpr c4
      clear c4
      obtain rfl := Option.some.inj H
      go_enter Try.func53, Try.ntmps53
      go_wp2_with (first | ((with_reducible refine gate_dst (N := 2) rfl ?_); refine box_event ?hg (N := 2) ?hd (cs := #[.int .i64 a0_0, .int .i64 a0_1]) (t := 39) ?hr ?_; (case hd => rfl); (case hg => rfl); (case hr => first | (go_simp; done) | (go_simp; rfl)); intro gb339 hg w5 hbox hb; have n0_ := Aside0.mk (below_step (hd_ HB.out) hb); have BK339 := Aside0.mk (hbox); have GW339 := Aside0.mk ((by rw [hg]; exact (below_size (hd_ HB.out)) : w.heap.size ≤ gb339)); have GE339 := Aside0.mk ((by rw [hg]; exact (below_size (hd_ HB.out)) : w.heap.size ≤ gb339)); clear HB; have HB := n0_; clear n0_; clear hb hbox hg) | ((with_reducible refine gate_dst (N := 3) rfl ?_); refine box_event ?hg (N := 3) ?hd (cs := #[.int .i64 a1_0, .int .i64 a1_1]) (t := 39) ?hr ?_; (case hd => rfl); (case hg => rfl); (case hr => first | (go_simp; done) | (go_simp; rfl)); intro gb340 hg w6 hbox hb; have n0_ := Aside0.mk (blk_below (bd_ BK339.out) hb); have n1_ := Aside0.mk (below_step y254_ hb); have BK340 := Aside0.mk (hbox); have GW340 := Aside0.mk ((by rw [hg]; exact (below_size y254_) : w.heap.size ≤ gb340)); have GE340 := Aside0.mk ((by rw [hg]; exact (below_size y254_) : w.heap.size ≤ gb340)); have NB339_340 := Aside0.mk ((y258_ : gb339 ≠ gb340)); have NB340_339 := Aside0.mk ((y259_ : gb340 ≠ gb339)); clear BK339; clear HB; have BK339 := n0_; have HB := n1_; clear n0_ n1_; clear hb hbox hg; have hnb7 := NB339_340.out; have hnc7 := NB340_339.out; have hcz8_0 : w6.cell? ⟨gb339, 0, none⟩ = some (.int .i64 a0_0) := (blk_cell BK339.out 0).trans rfl; have hcz8_1 : w6.cell? ⟨gb339, 1, none⟩ = some (.int .i64 a0_1) := (blk_cell BK339.out 1).trans rfl; have hfz8_0 := blk_frozen BK339.out 0; have hfz8_1 := blk_frozen BK339.out 1; have hcz9_0 : w6.cell? ⟨gb340, 0, none⟩ = some (.int .i64 a1_0) := (blk_cell BK340.out 0).trans rfl; have hcz9_1 : w6.cell? ⟨gb340, 1, none⟩ = some (.int .i64 a1_1) := (blk_cell BK340.out 1).trans rfl; have hfz9_0 := blk_frozen BK340.out 0; have hfz9_1 := blk_frozen BK340.out 1))
      go_ret
      exact ⟨by first | rfl | (simp [errW_none, errW_some] <;> rfl) | (simp [*, errW_none, errW_some] <;> rfl), y257_⟩
    · rw [if_neg c4] at H
      have c4b0 : (a0_1 == a1_1) = false := beq_eq_false_iff_ne.mpr c4
      have c4b1 : (a0_1 != a1_1) = true := bne_iff_ne.mpr c4
      obtain rfl := Option.some.inj H
      go_enter Try.func53, Try.ntmps53
      go_wp2_with (first | ((with_reducible refine gate_dst (N := 2) rfl ?_); refine box_event ?hg (N := 2) ?hd (cs := #[.int .i64 a0_0, .int .i64 a0_1]) (t := 39) ?hr ?_; (case hd => rfl); (case hg => rfl); (case hr => first | (go_simp; done) | (go_simp; rfl)); intro gb339 hg w10 hbox hb; have n0_ := Aside0.mk (below_step (hd_ HB.out) hb); have BK339 := Aside0.mk (hbox); have GW339 := Aside0.mk ((by rw [hg]; exact (below_size (hd_ HB.out)) : w.heap.size ≤ gb339)); have GE339 := Aside0.mk ((by rw [hg]; exact (below_size (hd_ HB.out)) : w.heap.size ≤ gb339)); clear HB; have HB := n0_; clear n0_; clear hb hbox hg) | ((with_reducible refine gate_dst (N := 3) rfl ?_); refine box_event ?hg (N := 3) ?hd (cs := #[.int .i64 a1_0, .int .i64 a1_1]) (t := 39) ?hr ?_; (case hd => rfl); (case hg => rfl); (case hr => first | (go_simp; done) | (go_simp; rfl)); intro gb340 hg w11 hbox hb; have n0_ := Aside0.mk (blk_below (bd_ BK339.out) hb); have n1_ := Aside0.mk (below_step y254_ hb); have BK340 := Aside0.mk (hbox); have GW340 := Aside0.mk ((by rw [hg]; exact (below_size y254_) : w.heap.size ≤ gb340)); have GE340 := Aside0.mk ((by rw [hg]; exact (below_size y254_) : w.heap.size ≤ gb340)); have NB339_340 := Aside0.mk ((y258_ : gb339 ≠ gb340)); have NB340_339 := Aside0.mk ((y259_ : gb340 ≠ gb339)); clear BK339; clear HB; have BK339 := n0_; have HB := n1_; clear n0_ n1_; clear hb hbox hg; have hnb12 := NB339_340.out; have hnc12 := NB340_339.out; have hcz13_0 : w11.cell? ⟨gb339, 0, none⟩ = some (.int .i64 a0_0) := (blk_cell BK339.out 0).trans rfl; have hcz13_1 : w11.cell? ⟨gb339, 1, none⟩ = some (.int .i64 a0_1) := (blk_cell BK339.out 1).trans rfl; have hfz13_0 := blk_frozen BK339.out 0; have hfz13_1 := blk_frozen BK339.out 1; have hcz14_0 : w11.cell? ⟨gb340, 0, none⟩ = some (.int .i64 a1_0) := (blk_cell BK340.out 0).trans rfl; have hcz14_1 : w11.cell? ⟨gb340, 1, none⟩ = some (.int .i64 a1_1) := (blk_cell BK340.out 1).trans rfl; have hfz14_0 := blk_frozen BK340.out 0; have hfz14_1 := blk_frozen BK340.out 1))
      go_ret
      exact ⟨by first | rfl | (simp [errW_none, errW_some] <;> rfl) | (simp [*, errW_none, errW_some] <;> rfl), y257_⟩
  · rw [if_neg c3] at H
    have c3b0 : (a0_0 == a1_0) = false := beq_eq_false_iff_ne.mpr c3
    have c3b1 : (a0_0 != a1_0) = true := bne_iff_ne.mpr c3
    obtain rfl := Option.some.inj H
    go_enter Try.func53, Try.ntmps53
    go_wp2_with (first | ((with_reducible refine gate_dst (N := 2) rfl ?_); refine box_event ?hg (N := 2) ?hd (cs := #[.int .i64 a0_0, .int .i64 a0_1]) (t := 39) ?hr ?_; (case hd => rfl); (case hg => rfl); (case hr => first | (go_simp; done) | (go_simp; rfl)); intro gb339 hg w15 hbox hb; have n0_ := Aside0.mk (below_step (hd_ HB.out) hb); have BK339 := Aside0.mk (hbox); have GW339 := Aside0.mk ((by rw [hg]; exact (below_size (hd_ HB.out)) : w.heap.size ≤ gb339)); have GE339 := Aside0.mk ((by rw [hg]; exact (below_size (hd_ HB.out)) : w.heap.size ≤ gb339)); clear HB; have HB := n0_; clear n0_; clear hb hbox hg) | ((with_reducible refine gate_dst (N := 3) rfl ?_); refine box_event ?hg (N := 3) ?hd (cs := #[.int .i64 a1_0, .int .i64 a1_1]) (t := 39) ?hr ?_; (case hd => rfl); (case hg => rfl); (case hr => first | (go_simp; done) | (go_simp; rfl)); intro gb340 hg w16 hbox hb; have n0_ := Aside0.mk (blk_below (bd_ BK339.out) hb); have n1_ := Aside0.mk (below_step y254_ hb); have BK340 := Aside0.mk (hbox); have GW340 := Aside0.mk ((by rw [hg]; exact (below_size y254_) : w.heap.size ≤ gb340)); have GE340 := Aside0.mk ((by rw [hg]; exact (below_size y254_) : w.heap.size ≤ gb340)); have NB339_340 := Aside0.mk ((y258_ : gb339 ≠ gb340)); have NB340_339 := Aside0.mk ((y259_ : gb340 ≠ gb339)); clear BK339; clear HB; have BK339 := n0_; have HB := n1_; clear n0_ n1_; clear hb hbox hg; have hnb17 := NB339_340.out; have hnc17 := NB340_339.out; have hcz18_0 : w16.cell? ⟨gb339, 0, none⟩ = some (.int .i64 a0_0) := (blk_cell BK339.out 0).trans rfl; have hcz18_1 : w16.cell? ⟨gb339, 1, none⟩ = some (.int .i64 a0_1) := (blk_cell BK339.out 1).trans rfl; have hfz18_0 := blk_frozen BK339.out 0; have hfz18_1 := blk_frozen BK339.out 1; have hcz19_0 : w16.cell? ⟨gb340, 0, none⟩ = some (.int .i64 a1_0) := (blk_cell BK340.out 0).trans rfl; have hcz19_1 : w16.cell? ⟨gb340, 1, none⟩ = some (.int .i64 a1_1) := (blk_cell BK340.out 1).trans rfl; have hfz19_0 := blk_frozen BK340.out 0; have hfz19_1 := blk_frozen BK340.out 1))
    go_ret
    exact ⟨by first | rfl | (simp [errW_none, errW_some] <;> rfl) | (simp [*, errW_none, errW_some] <;> rfl), y257_⟩

end Go.Proofs.Ytglpmjcknhcjcaa.PFnExactGroupReports
