-- Written for this claim by a program (a printer turned to this claim); Lean checks it.
import Derived.Test.YtglpmjcknhcjcaaPFnExactGroupReportsx0
import Derived.Test.YtglpmjcknhcjcaaPFnExactGroupReportsx5
namespace Go.Proofs.Ytglpmjcknhcjcaa.PFnExactGroupReports
open Go.RowKit Go.Proofs.YtglpmjcknhcjcaaW.PrintWords Go.Proofs.YtglpmjcknhcjcaaW.PrintLast Go.Proofs.YtglpmjcknhcjcaaW.PrintMore
attribute [local go_sem] max2_int min2_int max_two min_two max_three min_three max_four min_four   -- for this text's walks alone
set_option linter.unusedVariables false
set_option linter.unusedSimpArgs false

/-! ### spec_GroupReports: function 26 -/
mutual
def spec_GroupReports.l0 : Nat → List (S41) → List Int → Int → Option (List Int)
 | 0, _, _, _ => none
 | k + 1, x0, x3, x4 => if x4 < (x0.length : Int) then ((spec_AreReports.f k x0).bind fun t201 => (spec_GroupReports.j1 k x0 x3 x4 t201)) else (spec_GroupReports.j1 k x0 x3 x4 false)
def spec_GroupReports.j1 : Nat → List (S41) → List Int → Int → Bool → Option (List Int)
 | 0, _, _, _, _ => none
 | k + 1, x0, x3, x4, x15 => if x15 = true then (if 0 ≤ x4 then (if x4 < (x0.length : Int) then (spec_GroupReports.l1 k x0 x3 x4 ((rd_T41 x0 x4).f0) 0) else (none)) else (none)) else (some x3)
def spec_GroupReports.l1 : Nat → List (S41) → List Int → Int → Int → Int → Option (List Int)
 | 0, _, _, _, _, _ => none
 | k + 1, x0, x3, x4, x5, x6 => if x6 < x4 then (if 0 ≤ x6 then (if x6 < (x3.length : Int) then (if x6 < (x0.length : Int) then (if (rd x3 x6) = ((rd_T41 x0 x6).f0) then (if 0 ≤ x4 then (if x4 < (x0.length : Int) then (if x5 = ((rd_T41 x0 x4).f0) then ((spec_SameOwner.f k ((rd_T41 x0 x6).f0) ((rd_T41 x0 x6).f1) ((rd_T41 x0 x6).f2) ((rd_T41 x0 x6).f3) ((rd_T41 x0 x6).f4) ((rd_T41 x0 x6).f5) ((rd_T41 x0 x6).f6.f0) ((rd_T41 x0 x6).f6.f1) ((rd_T41 x0 x4).f0) ((rd_T41 x0 x4).f1) ((rd_T41 x0 x4).f2) ((rd_T41 x0 x4).f3) ((rd_T41 x0 x4).f4) ((rd_T41 x0 x4).f5) ((rd_T41 x0 x4).f6.f0) ((rd_T41 x0 x4).f6.f1)).bind fun t208 => (if t208 = true then (spec_GroupReports.l1 k x0 x3 x4 ((rd_T41 x0 x6).f0) (wrap64 (x6 + 1))) else (spec_GroupReports.l1 k x0 x3 x4 x5 (wrap64 (x6 + 1))))) else (spec_GroupReports.l1 k x0 x3 x4 x5 (wrap64 (x6 + 1)))) else (none)) else (none)) else (spec_GroupReports.l1 k x0 x3 x4 x5 (wrap64 (x6 + 1)))) else (none)) else (none)) else (none)) else (if x3.length < 17592186044416 then (spec_GroupReports.l0 k x0 (x3 ++ [x5]) (wrap64 (x4 + 1))) else (none))
end
def spec_GroupReports.f (k : Nat) (l0 : List (S41)) : Option (List Int) := spec_GroupReports.l0 k l0 (([] : List Int)) 0
theorem spec_GroupReports.mono_l : ∀ k, (∀ y0 y1 y2, LeO (spec_GroupReports.l0 k y0 y1 y2) (spec_GroupReports.l0 (k + 1) y0 y1 y2)) ∧ (∀ y0 y1 y2 y3, LeO (spec_GroupReports.j1 k y0 y1 y2 y3) (spec_GroupReports.j1 (k + 1) y0 y1 y2 y3)) ∧ (∀ y0 y1 y2 y3 y4, LeO (spec_GroupReports.l1 k y0 y1 y2 y3 y4) (spec_GroupReports.l1 (k + 1) y0 y1 y2 y3 y4))
 | 0 => ⟨fun _ _ _ r h => by simp [spec_GroupReports.l0] at h, fun _ _ _ _ r h => by simp [spec_GroupReports.j1] at h, fun _ _ _ _ _ r h => by simp [spec_GroupReports.l1] at h⟩
 | k + 1 => by
  obtain ⟨ih0, ih1, ih2⟩ := spec_GroupReports.mono_l k
  refine ⟨?_, ?_, ?_⟩
  ·
   intro y0 y1 y2
   unfold spec_GroupReports.l0
   repeat' first
   | (with_reducible exact ih0 _ _ _)
   | (with_reducible exact ih1 _ _ _ _)
   | (with_reducible exact ih2 _ _ _ _ _)
   | (with_reducible exact spec_AreReports.mono _ _)
   | (with_reducible exact spec_SameOwner.mono _ _ _ _ _ _ _ _ _ _ _ _ _ _ _ _ _)
   | (with_reducible exact LeO.refl _)
   | (with_reducible exact LeO.none _)
   | (with_reducible refine LeO.ite ?_ ?_)
   | (with_reducible refine LeO.bind ?_ (fun _ => ?_))
   | exact ih0 _ _ _
   | exact ih1 _ _ _ _
   | exact ih2 _ _ _ _ _
   | exact spec_AreReports.mono _ _
   | exact spec_SameOwner.mono _ _ _ _ _ _ _ _ _ _ _ _ _ _ _ _ _
   | exact LeO.none _
   | refine LeO.ite ?_ ?_
   | refine LeO.bind ?_ (fun _ => ?_)
  ·
   intro y0 y1 y2 y3
   unfold spec_GroupReports.j1
   repeat' first
   | (with_reducible exact ih0 _ _ _)
   | (with_reducible exact ih1 _ _ _ _)
   | (with_reducible exact ih2 _ _ _ _ _)
   | (with_reducible exact spec_AreReports.mono _ _)
   | (with_reducible exact spec_SameOwner.mono _ _ _ _ _ _ _ _ _ _ _ _ _ _ _ _ _)
   | (with_reducible exact LeO.refl _)
   | (with_reducible exact LeO.none _)
   | (with_reducible refine LeO.ite ?_ ?_)
   | (with_reducible refine LeO.bind ?_ (fun _ => ?_))
   | exact ih0 _ _ _
   | exact ih1 _ _ _ _
   | exact ih2 _ _ _ _ _
   | exact spec_AreReports.mono _ _
   | exact spec_SameOwner.mono _ _ _ _ _ _ _ _ _ _ _ _ _ _ _ _ _
   | exact LeO.none _
   | refine LeO.ite ?_ ?_
   | refine LeO.bind ?_ (fun _ => ?_)
  ·
   intro y0 y1 y2 y3 y4
   unfold spec_GroupReports.l1
   repeat' first
   | (with_reducible exact ih0 _ _ _)
   | (with_reducible exact ih1 _ _ _ _)
   | (with_reducible exact ih2 _ _ _ _ _)
   | (with_reducible exact spec_AreReports.mono _ _)
   | (with_reducible exact spec_SameOwner.mono _ _ _ _ _ _ _ _ _ _ _ _ _ _ _ _ _)
   | (with_reducible exact LeO.refl _)
   | (with_reducible exact LeO.none _)
   | (with_reducible refine LeO.ite ?_ ?_)
   | (with_reducible refine LeO.bind ?_ (fun _ => ?_))
   | exact ih0 _ _ _
   | exact ih1 _ _ _ _
   | exact ih2 _ _ _ _ _
   | exact spec_AreReports.mono _ _
   | exact spec_SameOwner.mono _ _ _ _ _ _ _ _ _ _ _ _ _ _ _ _ _
   | exact LeO.none _
   | refine LeO.ite ?_ ?_
   | refine LeO.bind ?_ (fun _ => ?_)
theorem spec_GroupReports.mono : ∀ a0 k, LeO (spec_GroupReports.f k a0) (spec_GroupReports.f (k + 1) a0) := by
 intro a0 k
 obtain ⟨ih0, ih1, ih2⟩ := spec_GroupReports.mono_l k
 unfold spec_GroupReports.f
 repeat' first
   | (with_reducible exact ih0 _ _ _)
   | (with_reducible exact ih1 _ _ _ _)
   | (with_reducible exact ih2 _ _ _ _ _)
   | (with_reducible exact spec_AreReports.mono _ _)
   | (with_reducible exact spec_SameOwner.mono _ _ _ _ _ _ _ _ _ _ _ _ _ _ _ _ _)
   | (with_reducible exact LeO.refl _)
   | (with_reducible exact LeO.none _)
   | (with_reducible refine LeO.ite ?_ ?_)
   | (with_reducible refine LeO.bind ?_ (fun _ => ?_))
   | exact ih0 _ _ _
   | exact ih1 _ _ _ _
   | exact ih2 _ _ _ _ _
   | exact spec_AreReports.mono _ _
   | exact spec_SameOwner.mono _ _ _ _ _ _ _ _ _ _ _ _ _ _ _ _ _
   | exact LeO.none _
   | refine LeO.ite ?_ ?_
   | refine LeO.bind ?_ (fun _ => ?_)
def spec_GroupReports.T9 : Bool × List (List Nat × List Nat) := (true, [([], []), ([], []), ([0, 1], [0, 1]), ([2], [2]), ([], []), ([], []), ([4, 5], [4, 5]), ([6], [6]), ([7], [7]), ([3, 8], [3, 8]), ([9], [9]), ([10], [10]), ([10], [10]), ([10], [10]), ([12, 13, 10], [10, 12, 13]), ([14, 10], [10, 14]), ([15, 10], [10, 15]), ([11, 16, 10], [10, 11, 16]), ([10, 17], [10, 17]), ([18, 10], [18]), ([19], [19]), ([19], [19]), ([20, 21, 19], [19, 20, 21]), ([22, 19], [19, 22]), ([19], [19]), ([19], [19]), ([24, 25, 19], [19, 24, 25]), ([26, 19], [19, 26]), ([23, 27, 19, 19], [19, 23, 27]), ([19, 28], [19, 28])])
def spec_GroupReports.B9 : List Nat := [0, 0, 3, 7, 0, 0, 48, 112, 240, 511, 1023, 2047, 2047, 2047, 14335, 30719, 63487, 131071, 262143, 524287, 1048575, 1048575, 4194303, 8388607, 1048575, 1048575, 51380223, 118489087, 268435455, 536870911]
theorem spec_GroupReports.tab9 : rtab .any (opsOf Try.f26 9) = spec_GroupReports.T9 := by kernel_rfl
theorem spec_GroupReports.bits9 : waitsOk spec_GroupReports.T9.2 spec_GroupReports.B9 = true := by kernel_rfl
abbrev M3_0 : Array Bool := #[false, false, false, false, false, false, false, false, false, false, false, false, false, false, false, false, false, false, false, false, false, false, false, false, false, false, false, false, false, false]
abbrev M3_1 : Array Bool := #[true, false, false, false, false, false, false, false, false, false, false, false, false, false, false, false, false, false, false, false, false, false, false, false, false, false, false, false, false, false]
abbrev M3_2 : Array Bool := #[true, true, false, false, false, false, false, false, false, false, false, false, false, false, false, false, false, false, false, false, false, false, false, false, false, false, false, false, false, false]
abbrev M3_3 : Array Bool := #[true, true, true, false, false, false, false, false, false, false, false, false, false, false, false, false, false, false, false, false, false, false, false, false, false, false, false, false, false, false]
abbrev M3_4 : Array Bool := #[true, true, true, false, true, false, false, false, false, false, false, false, false, false, false, false, false, false, false, false, false, false, false, false, false, false, false, false, false, false]
abbrev M3_5 : Array Bool := #[true, true, true, false, true, true, false, false, false, false, false, false, false, false, false, false, false, false, false, false, false, false, false, false, false, false, false, false, false, false]
abbrev M3_6 : Array Bool := #[true, true, true, false, true, true, true, false, false, false, false, false, false, false, false, false, false, false, false, false, false, false, false, false, false, false, false, false, false, false]
abbrev M3_7 : Array Bool := #[true, true, true, false, true, true, true, true, false, false, false, false, false, false, false, false, false, false, false, false, false, false, false, false, false, false, false, false, false, false]
abbrev M3_8 : Array Bool := #[true, true, true, true, true, true, true, true, false, false, false, false, false, false, false, false, false, false, false, false, false, false, false, false, false, false, false, false, false, false]
abbrev M3_9 : Array Bool := #[true, true, true, true, true, true, true, true, true, false, false, false, false, false, false, false, false, false, false, false, false, false, false, false, false, false, false, false, false, false]
abbrev M3_10 : Array Bool := #[true, true, true, true, true, true, true, true, true, true, false, false, false, false, false, false, false, false, false, false, false, false, false, false, false, false, false, false, false, false]
abbrev M3_11 : Array Bool := #[true, true, true, true, true, true, true, true, true, true, true, false, false, false, false, false, false, false, false, false, false, false, false, false, false, false, false, false, false, false]
abbrev M3_12 : Array Bool := #[true, true, true, true, true, true, true, true, true, true, true, true, false, false, false, false, false, false, false, false, false, false, false, false, false, false, false, false, false, false]
abbrev M3_13 : Array Bool := #[true, true, true, true, true, true, true, true, true, true, true, true, true, false, false, false, false, false, false, false, false, false, false, false, false, false, false, false, false, false]
abbrev M3_14 : Array Bool := #[true, true, true, true, true, true, true, true, true, true, true, true, true, true, false, false, false, false, false, false, false, false, false, false, false, false, false, false, false, false]
abbrev M3_15 : Array Bool := #[true, true, true, true, true, true, true, true, true, true, true, true, true, true, true, false, false, false, false, false, false, false, false, false, false, false, false, false, false, false]
abbrev M3_16 : Array Bool := #[true, true, true, true, true, true, true, true, true, true, true, true, true, true, true, true, false, false, false, false, false, false, false, false, false, false, false, false, false, false]
abbrev M3_17 : Array Bool := #[true, true, true, true, true, true, true, true, true, true, true, true, true, true, true, true, true, false, false, false, false, false, false, false, false, false, false, false, false, false]
abbrev M3_18 : Array Bool := #[true, true, true, true, true, true, true, true, true, true, true, true, true, true, true, true, true, true, false, false, false, false, false, false, false, false, false, false, false, false]
abbrev M3_19 : Array Bool := #[true, true, true, true, true, true, true, true, true, true, true, true, true, true, true, true, true, true, true, false, false, false, false, false, false, false, false, false, false, false]
abbrev M3_20 : Array Bool := #[true, true, true, true, true, true, true, true, true, true, true, true, true, true, true, true, true, true, true, true, false, false, false, false, false, false, false, false, false, false]
abbrev M3_21 : Array Bool := #[true, true, true, true, true, true, true, true, true, true, true, true, true, true, true, true, true, true, true, true, true, false, false, false, false, false, false, false, false, false]
abbrev M3_22 : Array Bool := #[true, true, true, true, true, true, true, true, true, true, true, true, true, true, true, true, true, true, true, true, true, true, false, false, false, false, false, false, false, false]
abbrev M3_23 : Array Bool := #[true, true, true, true, true, true, true, true, true, true, true, true, true, true, true, true, true, true, true, true, true, true, true, false, false, false, false, false, false, false]
abbrev M3_24 : Array Bool := #[true, true, true, true, true, true, true, true, true, true, true, true, true, true, true, true, true, true, true, true, true, true, true, false, true, false, false, false, false, false]
abbrev M3_25 : Array Bool := #[true, true, true, true, true, true, true, true, true, true, true, true, true, true, true, true, true, true, true, true, true, true, true, false, true, true, false, false, false, false]
abbrev M3_26 : Array Bool := #[true, true, true, true, true, true, true, true, true, true, true, true, true, true, true, true, true, true, true, true, true, true, true, false, true, true, true, false, false, false]
abbrev M3_27 : Array Bool := #[true, true, true, true, true, true, true, true, true, true, true, true, true, true, true, true, true, true, true, true, true, true, true, true, true, true, true, false, false, false]
abbrev M3_28 : Array Bool := #[true, true, true, true, true, true, true, true, true, true, true, true, true, true, true, true, true, true, true, true, true, true, true, true, true, true, true, true, false, false]
abbrev M3_29 : Array Bool := #[true, true, true, true, true, true, true, true, true, true, true, true, true, true, true, true, true, true, true, true, true, true, true, true, true, true, true, true, true, false]
abbrev M3_30 : Array Bool := #[true, true, true, true, true, true, true, true, true, true, true, true, true, true, true, true, true, true, true, true, true, true, true, true, true, true, true, true, true, true]
abbrev M3_31 : Array Bool := #[true, true, true, true, true, true, true, true, true, true, true, true, true, true, true, true, true, true, true, true, true, true, true, true, false, false, false, false, false, false]
abbrev M3_32 : Array Bool := #[true, true, true, true, true, true, true, true, true, true, true, true, true, true, true, true, true, true, true, true, true, true, true, true, true, false, false, false, false, false]
abbrev M3_33 : Array Bool := #[true, true, true, true, true, true, true, true, true, true, true, true, true, true, true, true, true, true, true, true, true, true, true, true, true, true, false, false, false, false]
theorem P3_1 {α : Type} (l : List α) (i : Nat) (a : α) : l.toArray.setIfInBounds i a = (l.set i a).toArray := List.setIfInBounds_toArray l i a
theorem P3_2 {α : Type} (x : α) (l : List α) (a : α) : (x :: l).set 0 a = a :: l := List.set_cons_zero
theorem P3_3 {α : Type} (x : α) (l : List α) (n : Nat) (a : α) : (x :: l).set (n + 1) a = x :: l.set n a := List.set_cons_succ
theorem y114_ {P : Prop} (h : P := by first | rfl | (simp; done) | (simp [*]; done)) : P := h
set_option maxHeartbeats 8000000 in
set_option maxRecDepth 100000 in
theorem spec_GroupReports.calls (k : Nat) (A0 : Option Addr) (c0 : Nat) (l0 : List (S41)) (r : List Int) (w : World) (hr0 : Kd.C k41 w A0 l0.length l0) (hc0 : l0.length ≤ c0) (h : spec_GroupReports.f k l0 = some r) :
  Calls Try.prog 26 #[.slice A0 l0.length c0] w fun e w' => ∃ v0_ : Value, e = .returned (v0_) ∧ Kd.R (Kd.int .i64) 3 w' w.heap.size (fun _ => True) v0_ r ∧ Below w.heap.size w w' := by
 have hu41 := Try.underlying41
 have HR0 := Aside0.mk hr0
 have HC0 := Aside0.mk hc0
 clear hr0 hc0
 have HB := Aside0.mk (Below.refl w.heap.size w)
 have H : (spec_GroupReports.l0 k l0 (([] : List Int)) 0) = some r := h
 clear h
 obtain ⟨y198, hy198⟩ : ∃ y_ : List Int, y_ = (([] : List Int)) := ⟨_, rfl⟩
 replace H : (spec_GroupReports.l0 k l0 y198 0) = some r := by first | (rw [hy198]; with_reducible exact H) | (have H2_ := (Option.bind_some _ _).symm.trans H; rw [hy198]; with_reducible exact H2_) | (have H2_ := (Option.bind_some _ _).symm.trans H; with_reducible exact H2_) | with_reducible exact H | (rw [hy198]; exact H) | exact H
 have Ny198 := Aside0.mk hy198
 clear hy198
 have H' := Aside0.mk H
 clear H
 go_enter Try.func26, Try.ntmps26
 go_wp2_with (first | ((with_reducible refine gate_dst (N := 7) rfl ?_); refine Kd.R_lit (Kd.int .i64) _ 3 ?hg (N := 7) ?hd (xs := ([] : List Int)) (inner := []) (ok := fun _ => True) (okp := fun _ => True) ?hr ?hp (fun _ hk => hk) trivial (Below.refl _ _) (Nat.le_refl _) (by simp) ?_; (case hd => rfl); (case hg => rfl); (case hr => first | (go_simp; done) | (go_simp; rfl)); (case hp => exact (Reps.none _ _)); intro v199 w2 ho3 hb hg_ hnew_; clear hg_ hnew_; (first | rw [← Ny198.out] at ho3 | (simp only [Int.reduceToNat] at ho3; rw [← Ny198.out] at ho3)); have HO200 := Aside0.mk (Kd.R_lower ho3 (below_size (hd_ HB.out))); have n1_ := Aside0.mk (below_step (hd_ HB.out) hb); clear HB; have HB := n1_; clear n1_; clear hb ho3))
 go_loopg [3, 4] k (fun kq v3 v4 w' => ∃ (x3_1 : List Int) (x4_1 : Int), v4 = .int .i64 x4_1 ∧ Aside0 (spec_GroupReports.l0 kq l0 x3_1 x4_1 = some r) ∧ Aside0 (kq ≤ k) ∧ Aside0 (Kd.R (Kd.int .i64) 3 w' w.heap.size (fun _ => True) v3 x3_1) ∧ Aside0 (Below w.heap.size w w'))
 case atStart => exact ⟨(y198), (0), y114_, H', ⟨Nat.le_refl _⟩, ⟨rd_ HO200.out⟩, ⟨hd_ HB.out⟩⟩
 case round =>
  clear H'
  try clear c2
  try clear p2
  obtain ⟨x3_1, x4_1, rfl, HA, HK1, HO_3, HB⟩ := hrel
  cases gk with
  | zero => exact absurd HA.out (by simp [spec_GroupReports.l0])
  | succ k1 =>
   have H := HA.out
   clear HA
   simp only [spec_GroupReports.l0] at H
   have HC4 := Aside0.mk H
   clear H
   go_upto_region 3 with (fail)
   go_cut [15] (fun v15 wc => ∃ (kq : Nat) (x15_3 : Bool), v15 = .bool x15_3 ∧ Aside0 (spec_GroupReports.j1 kq l0 x3_1 x4_1 x15_3 = some r) ∧ Aside0 (kq ≤ k1) ∧ Aside0 (Kd.R (Kd.int .i64) 3 wc w.heap.size (fun _ => True) u3 x3_1) ∧ Aside0 (Below w.heap.size w wc))
   case first =>
    have H := HC4.out
    clear HC4
    by_cases c5 : x4_1 < (l0.length : Int)
    ·
     rw [if_pos c5] at H
     have c5b0 : decide (x4_1 < (l0.length : Int)) = true := decide_eq_true c5
     clear c5
     (first | rw [c5b0] | (simp only [i64_w, i32_w]; rw [c5b0]) | skip)
     replace H := Option.bind_eq_some_iff.mp H
     obtain ⟨t201, A60, H⟩ := H
     replace H : (spec_GroupReports.j1 k1 l0 x3_1 x4_1 t201) = some r := H
     have A6 := Aside0.mk A60
     clear A60
     have H' := Aside0.mk H
     clear H
     go_wp2_with (first | (go_at_call 56; (with_reducible refine (spec_AreReports.calls k1 _ _ l0 t201 _ ?side1 ?side2 A6.out).mono ?_); (case side1 => exact cd_ (Kd.C_below HR0.out HB.out)); (case side2 => exact HC0.out); rintro e w7 ⟨rfl, hb⟩; have n0_ := Aside0.mk (Kd.R_below (rd_ HO_3.out) hb); have n1_ := Aside0.mk (below_step (hd_ HB.out) hb); clear HO_3; clear HB; have HO_3 := n0_; have HB := n1_; clear n0_ n1_; (try clear hb); (try clear hb2); (try clear hk); (try clear hi)))
     go_meet
     case rel => exact ⟨_, (t201), y114_, H', ⟨by have := HK1.out; first | omega | exact Nat.le_refl _⟩, ⟨rd_ HO_3.out⟩, ⟨hd_ HB.out⟩⟩
    ·
     rw [if_neg c5] at H
     have c5b0 : decide (x4_1 < (l0.length : Int)) = false := decide_eq_false c5
     clear c5
     (first | rw [c5b0] | (simp only [i64_w, i32_w]; rw [c5b0]) | skip)
     have H' := Aside0.mk H
     clear H
     go_wp2
     go_meet
     case rel => exact ⟨_, (false), y114_, H', ⟨by have := HK1.out; first | omega | exact Nat.le_refl _⟩, ⟨rd_ HO_3.out⟩, ⟨hd_ HB.out⟩⟩
   case rest =>
    clear HC4
    try clear c2
    try clear p2
    try clear c5
    try clear c5b0
    try clear p2
    obtain ⟨kq, x15_3, rfl, HA, HJ3, HO_3, HB⟩ := hcut
    cases kq with
    | zero => exact absurd HA.out (by simp [spec_GroupReports.j1])
    | succ kj3 =>
     have H := HA.out
     clear HA
     simp only [spec_GroupReports.j1] at H
     by_cases c8 : x15_3 = true
     ·
      subst c8
      have H1 : (if 0 ≤ x4_1 then (if x4_1 < (l0.length : Int) then (spec_GroupReports.l1 kj3 l0 x3_1 x4_1 ((rd_T41 l0 x4_1).f0) 0) else (none)) else (none)) = some r := by rw [if_pos rfl] at H; exact H
      clear H
      have H := H1
      clear H1
      by_cases c9 : 0 ≤ x4_1
      ·
       rw [if_pos c9] at H
       have c9b0 : decide (0 ≤ x4_1) = true := decide_eq_true c9
       clear c9
       by_cases c10 : x4_1 < (l0.length : Int)
       ·
        rw [if_pos c10] at H
        have c10b0 : decide (x4_1 < (l0.length : Int)) = true := decide_eq_true c10
        clear c10
        have H' := Aside0.mk H
        clear H
        have p202 : 0 ≤ (x4_1 : Int) := of_decide_eq_true as_
        have q202 : x4_1 < (l0.length : Int) := of_decide_eq_true as_
        obtain ⟨ad202, A202_2, c202_2, A202_5, c202_5, e202, hx202_0, hx202_1, hx202_2, hx202_3, hx202_4, hx202_5, hx202_6, hx202_7, hl202_2, hi202_2, hl202_5, hi202_5⟩ := at_T41 HR0.out x4_1 p202 q202
        cases e202
        replace hx202_0 := cb_ HB.out hx202_0
        replace hx202_1 := cb_ HB.out hx202_1
        replace hx202_2 := cb_ HB.out hx202_2
        replace hx202_3 := cb_ HB.out hx202_3
        replace hx202_4 := cb_ HB.out hx202_4
        replace hx202_5 := cb_ HB.out hx202_5
        replace hx202_6 := cb_ HB.out hx202_6
        replace hx202_7 := cb_ HB.out hx202_7
        have HR202_2 := Aside0.mk hi202_2
        have HC202_2 := Aside0.mk hl202_2
        clear hi202_2 hl202_2
        have HR202_5 := Aside0.mk hi202_5
        have HC202_5 := Aside0.mk hl202_5
        clear hi202_5 hl202_5
        replace p202 := eq_true p202
        replace q202 := eq_true q202
        go_wp2
        go_loopg [5, 6] kj3 (fun kq v5 v6 w' => ∃ (x5_3 : Int) (x6_3 : Int), v5 = .int .i64 x5_3 ∧ v6 = .int .i64 x6_3 ∧ Aside0 (spec_GroupReports.l1 kq l0 x3_1 x4_1 x5_3 x6_3 = some r) ∧ Aside0 (kq ≤ kj3) ∧ Aside0 (Kd.R (Kd.int .i64) 3 w' w.heap.size (fun _ => True) u3 x3_1) ∧ Aside0 (Below w.heap.size w w'))
        case atStart => exact ⟨((rd_T41 l0 x4_1).f0), (0), y114_, y114_, H', ⟨Nat.le_refl _⟩, ⟨rd_ HO_3.out⟩, ⟨hd_ HB.out⟩⟩
        case round =>
         clear H'
         try clear c1
         try clear c2
         try clear p2
         try clear q2
         try clear hx2
         try clear c5
         try clear c5b0
         try clear c8
         try clear c9
         try clear c9b0
         try clear c10
         try clear c10b0
         try clear hx202_0
         try clear hx202_1
         try clear hx202_2
         try clear hx202_3
         try clear hx202_4
         try clear hx202_5
         try clear hx202_6
         try clear hx202_7
         try clear p2
         try clear p202
         try clear q202
         obtain ⟨x5_3, x6_3, rfl, rfl, HA, HK3, HO_3, HB⟩ := hrel
         cases gk with
         | zero => exact absurd HA.out (by simp [spec_GroupReports.l1])
         | succ k3 =>
          have H := HA.out
          clear HA
          simp only [spec_GroupReports.l1] at H
          by_cases c11 : x6_3 < x4_1
          ·
           rw [if_pos c11] at H
           have c11b0 : decide (x6_3 < x4_1) = true := decide_eq_true c11
           clear c11
           by_cases c12 : 0 ≤ x6_3
           ·
            rw [if_pos c12] at H
            have c12b0 : decide (0 ≤ x6_3) = true := decide_eq_true c12
            clear c12
            by_cases c13 : x6_3 < (x3_1.length : Int)
            ·
             rw [if_pos c13] at H
             have c13b0 : decide (x6_3 < (x3_1.length : Int)) = true := decide_eq_true c13
             clear c13
             by_cases c14 : x6_3 < (l0.length : Int)
             ·
              rw [if_pos c14] at H
              have c14b0 : decide (x6_3 < (l0.length : Int)) = true := decide_eq_true c14
              clear c14
              by_cases c15 : (rd x3_1 x6_3) = ((rd_T41 l0 x6_3).f0)
              ·
               rw [if_pos c15] at H
               have c15b0 : ((rd x3_1 x6_3) == ((rd_T41 l0 x6_3).f0)) = true := beq_iff_eq.mpr c15
               have c15b1 : ((rd x3_1 x6_3) != ((rd_T41 l0 x6_3).f0)) = false := bne_eq_false_iff_eq.mpr c15
               clear c15
               by_cases c16 : 0 ≤ x4_1
               ·
                rw [if_pos c16] at H
                have c16b0 : decide (0 ≤ x4_1) = true := decide_eq_true c16
                clear c16
                by_cases c17 : x4_1 < (l0.length : Int)
                ·
                 rw [if_pos c17] at H
                 have c17b0 : decide (x4_1 < (l0.length : Int)) = true := decide_eq_true c17
                 clear c17
                 by_cases c18 : x5_3 = ((rd_T41 l0 x4_1).f0)
                 ·
                  rw [if_pos c18] at H
                  have c18b0 : (x5_3 == ((rd_T41 l0 x4_1).f0)) = true := beq_iff_eq.mpr c18
                  have c18b1 : (x5_3 != ((rd_T41 l0 x4_1).f0)) = false := bne_eq_false_iff_eq.mpr c18
                  clear c18
                  replace H := Option.bind_eq_some_iff.mp H
                  obtain ⟨t208, A190, H⟩ := H
                  replace H : (if t208 = true then (spec_GroupReports.l1 k3 l0 x3_1 x4_1 ((rd_T41 l0 x6_3).f0) (wrap64 (x6_3 + 1))) else (spec_GroupReports.l1 k3 l0 x3_1 x4_1 x5_3 (wrap64 (x6_3 + 1)))) = some r := H
                  have A19 := Aside0.mk A190
                  clear A190
                  by_cases c20 : t208 = true
                  ·
                   subst c20
                   have H1 : (spec_GroupReports.l1 k3 l0 x3_1 x4_1 ((rd_T41 l0 x6_3).f0) (wrap64 (x6_3 + 1))) = some r := by rw [if_pos rfl] at H; exact H
                   clear H
                   have H := H1
                   clear H1
                   have H' := Aside0.mk H
                   clear H
                   try go_wp2
                   have n0_ := Aside0.mk (Kd.R_drew HO_3.out)
                   have n1_ := Aside0.mk (below_drew1 HB.out)
                   clear HO_3
                   clear HB
                   have HO_3 := n0_
                   have HB := n1_
                   clear n0_ n1_
                   obtain ⟨Ao22, co22, eo22⟩ := Kd.R_slice HO_3.out
                   (first | subst eo22 | (injection eo22 with f1_ f2_ f3_; have f4_ := f1_.symm; have f5_ := f3_.symm; clear f1_ f2_ f3_; subst f4_; subst f5_))
                   have p203 : 0 ≤ (x6_3 : Int) := of_decide_eq_true as_
                   have q203 : x6_3 < (x3_1.length : Int) := of_decide_eq_true as_
                   obtain ⟨ad203, e203, hx203_0⟩ := Kd.at_int (Kd.R_reads' HO_3.out).2.2 x6_3 p203 q203
                   cases e203
                   replace p203 := eq_true p203
                   replace q203 := eq_true q203
                   have p204 : 0 ≤ (x6_3 : Int) := of_decide_eq_true as_
                   have q204 : x6_3 < (l0.length : Int) := of_decide_eq_true as_
                   obtain ⟨ad204, A204_2, c204_2, A204_5, c204_5, e204, hx204_0, hx204_1, hx204_2, hx204_3, hx204_4, hx204_5, hx204_6, hx204_7, hl204_2, hi204_2, hl204_5, hi204_5⟩ := at_T41 HR0.out x6_3 p204 q204
                   have hw204_7 := hx204_7
                   have hw204_6 := hx204_6
                   have hw204_5 := hx204_5
                   have hw204_4 := hx204_4
                   have hw204_3 := hx204_3
                   have hw204_2 := hx204_2
                   have hw204_1 := hx204_1
                   have hw204_0 := hx204_0
                   obtain rfl : ad202 = ad204 := (by injection e204)
                   replace hx204_0 := cb_ HB.out hx204_0
                   replace hx204_1 := cb_ HB.out hx204_1
                   replace hx204_2 := cb_ HB.out hx204_2
                   replace hx204_3 := cb_ HB.out hx204_3
                   replace hx204_4 := cb_ HB.out hx204_4
                   replace hx204_5 := cb_ HB.out hx204_5
                   replace hx204_6 := cb_ HB.out hx204_6
                   replace hx204_7 := cb_ HB.out hx204_7
                   have HR204_2 := Aside0.mk hi204_2
                   have HC204_2 := Aside0.mk hl204_2
                   clear hi204_2 hl204_2
                   have HR204_5 := Aside0.mk hi204_5
                   have HC204_5 := Aside0.mk hl204_5
                   clear hi204_5 hl204_5
                   replace p204 := eq_true p204
                   replace q204 := eq_true q204
                   have p205 : 0 ≤ (x4_1 : Int) := of_decide_eq_true as_
                   have q205 : x4_1 < (l0.length : Int) := of_decide_eq_true as_
                   obtain ⟨ad205, A205_2, c205_2, A205_5, c205_5, e205, hx205_0, hx205_1, hx205_2, hx205_3, hx205_4, hx205_5, hx205_6, hx205_7, hl205_2, hi205_2, hl205_5, hi205_5⟩ := at_T41 HR0.out x4_1 p205 q205
                   have hw205_7 := hx205_7
                   have hw205_6 := hx205_6
                   have hw205_5 := hx205_5
                   have hw205_4 := hx205_4
                   have hw205_3 := hx205_3
                   have hw205_2 := hx205_2
                   have hw205_1 := hx205_1
                   have hw205_0 := hx205_0
                   obtain rfl : ad202 = ad205 := (by injection e205)
                   replace hx205_0 := cb_ HB.out hx205_0
                   replace hx205_1 := cb_ HB.out hx205_1
                   replace hx205_2 := cb_ HB.out hx205_2
                   replace hx205_3 := cb_ HB.out hx205_3
                   replace hx205_4 := cb_ HB.out hx205_4
                   replace hx205_5 := cb_ HB.out hx205_5
                   replace hx205_6 := cb_ HB.out hx205_6
                   replace hx205_7 := cb_ HB.out hx205_7
                   have HR205_2 := Aside0.mk hi205_2
                   have HC205_2 := Aside0.mk hl205_2
                   clear hi205_2 hl205_2
                   have HR205_5 := Aside0.mk hi205_5
                   have HC205_5 := Aside0.mk hl205_5
                   clear hi205_5 hl205_5
                   replace p205 := eq_true p205
                   replace q205 := eq_true q205
                   have p206 : 0 ≤ (x6_3 : Int) := of_decide_eq_true as_
                   have q206 : x6_3 < (l0.length : Int) := of_decide_eq_true as_
                   obtain ⟨ad206, A206_2, c206_2, A206_5, c206_5, e206, hx206_0, hx206_1, hx206_2, hx206_3, hx206_4, hx206_5, hx206_6, hx206_7, hl206_2, hi206_2, hl206_5, hi206_5⟩ := at_T41 HR0.out x6_3 p206 q206
                   have hw206_7 := hx206_7
                   have hw206_6 := hx206_6
                   have hw206_5 := hx206_5
                   have hw206_4 := hx206_4
                   have hw206_3 := hx206_3
                   have hw206_2 := hx206_2
                   have hw206_1 := hx206_1
                   have hw206_0 := hx206_0
                   obtain rfl : ad202 = ad206 := (by injection e206)
                   replace hx206_0 := cb_ HB.out hx206_0
                   replace hx206_1 := cb_ HB.out hx206_1
                   replace hx206_2 := cb_ HB.out hx206_2
                   replace hx206_3 := cb_ HB.out hx206_3
                   replace hx206_4 := cb_ HB.out hx206_4
                   replace hx206_5 := cb_ HB.out hx206_5
                   replace hx206_6 := cb_ HB.out hx206_6
                   replace hx206_7 := cb_ HB.out hx206_7
                   have HR206_2 := Aside0.mk hi206_2
                   have HC206_2 := Aside0.mk hl206_2
                   clear hi206_2 hl206_2
                   have HR206_5 := Aside0.mk hi206_5
                   have HC206_5 := Aside0.mk hl206_5
                   clear hi206_5 hl206_5
                   replace p206 := eq_true p206
                   replace q206 := eq_true q206
                   have ea_ := Option.some.inj (hx204_2.symm.trans hx206_2)
                   injection ea_ with ea_ en_ ec_
                   subst ea_
                   subst ec_
                   clear en_
                   have ea_ := Option.some.inj (hx204_5.symm.trans hx206_5)
                   injection ea_ with ea_ en_ ec_
                   subst ea_
                   subst ec_
                   clear en_
                   have p207 : 0 ≤ (x4_1 : Int) := of_decide_eq_true as_
                   have q207 : x4_1 < (l0.length : Int) := of_decide_eq_true as_
                   obtain ⟨ad207, A207_2, c207_2, A207_5, c207_5, e207, hx207_0, hx207_1, hx207_2, hx207_3, hx207_4, hx207_5, hx207_6, hx207_7, hl207_2, hi207_2, hl207_5, hi207_5⟩ := at_T41 HR0.out x4_1 p207 q207
                   have hw207_7 := hx207_7
                   have hw207_6 := hx207_6
                   have hw207_5 := hx207_5
                   have hw207_4 := hx207_4
                   have hw207_3 := hx207_3
                   have hw207_2 := hx207_2
                   have hw207_1 := hx207_1
                   have hw207_0 := hx207_0
                   obtain rfl : ad202 = ad207 := (by injection e207)
                   replace hx207_0 := cb_ HB.out hx207_0
                   replace hx207_1 := cb_ HB.out hx207_1
                   replace hx207_2 := cb_ HB.out hx207_2
                   replace hx207_3 := cb_ HB.out hx207_3
                   replace hx207_4 := cb_ HB.out hx207_4
                   replace hx207_5 := cb_ HB.out hx207_5
                   replace hx207_6 := cb_ HB.out hx207_6
                   replace hx207_7 := cb_ HB.out hx207_7
                   have HR207_2 := Aside0.mk hi207_2
                   have HC207_2 := Aside0.mk hl207_2
                   clear hi207_2 hl207_2
                   have HR207_5 := Aside0.mk hi207_5
                   have HC207_5 := Aside0.mk hl207_5
                   clear hi207_5 hl207_5
                   replace p207 := eq_true p207
                   replace q207 := eq_true q207
                   have ea_ := Option.some.inj (hx205_2.symm.trans hx207_2)
                   injection ea_ with ea_ en_ ec_
                   subst ea_
                   subst ec_
                   clear en_
                   have ea_ := Option.some.inj (hx205_5.symm.trans hx207_5)
                   injection ea_ with ea_ en_ ec_
                   subst ea_
                   subst ec_
                   clear en_
                   refine start_ (n := 30) (S := fun w' => w'.cell? (ad203.add (x6_3).toNat) = some (.int .i64 (rd x3_1 x6_3)) ∧ q2_ w' (ad202.add ((x6_3).toNat * 8)) ((rd_T41 l0 x6_3).f0) ((rd_T41 l0 x6_3).f1) A204_2 ((rd_T41 l0 x6_3).f2).length c204_2 ((rd_T41 l0 x6_3).f3) ((rd_T41 l0 x6_3).f4) A204_5 ((rd_T41 l0 x6_3).f5).length c204_5 ((rd_T41 l0 x6_3).f6.f0) ((rd_T41 l0 x6_3).f6.f1) (q2_ w' (ad202.add ((x4_1).toNat * 8)) ((rd_T41 l0 x4_1).f0) ((rd_T41 l0 x4_1).f1) A205_2 ((rd_T41 l0 x4_1).f2).length c205_2 ((rd_T41 l0 x4_1).f3) ((rd_T41 l0 x4_1).f4) A205_5 ((rd_T41 l0 x4_1).f5).length c205_5 ((rd_T41 l0 x4_1).f6.f0) ((rd_T41 l0 x4_1).f6.f1) (q2_ w' (ad202.add ((x6_3).toNat * 8)) ((rd_T41 l0 x6_3).f0) ((rd_T41 l0 x6_3).f1) A204_2 ((rd_T41 l0 x6_3).f2).length c204_2 ((rd_T41 l0 x6_3).f3) ((rd_T41 l0 x6_3).f4) A204_5 ((rd_T41 l0 x6_3).f5).length c204_5 ((rd_T41 l0 x6_3).f6.f0) ((rd_T41 l0 x6_3).f6.f1) (q2e_ w' (ad202.add ((x4_1).toNat * 8)) ((rd_T41 l0 x4_1).f0) ((rd_T41 l0 x4_1).f1) A205_2 ((rd_T41 l0 x4_1).f2).length c205_2 ((rd_T41 l0 x4_1).f3) ((rd_T41 l0 x4_1).f4) A205_5 ((rd_T41 l0 x4_1).f5).length c205_5 ((rd_T41 l0 x4_1).f6.f0) ((rd_T41 l0 x4_1).f6.f1))))) (ds := []) M3_0 (by kernel_rfl) rfl rfl ⟨hx203_0, (cb_ HB.out hw204_0), (cb_ HB.out hw204_1), (cb_ HB.out hw204_2), (cb_ HB.out hw204_3), (cb_ HB.out hw204_4), (cb_ HB.out hw204_5), (cb_ HB.out hw204_6), (cb_ HB.out hw204_7), (cb_ HB.out hw205_0), (cb_ HB.out hw205_1), (cb_ HB.out hw205_2), (cb_ HB.out hw205_3), (cb_ HB.out hw205_4), (cb_ HB.out hw205_5), (cb_ HB.out hw205_6), (cb_ HB.out hw205_7), (cb_ HB.out hw206_0), (cb_ HB.out hw206_1), (cb_ HB.out hw206_2), (cb_ HB.out hw206_3), (cb_ HB.out hw206_4), (cb_ HB.out hw206_5), (cb_ HB.out hw206_6), (cb_ HB.out hw206_7), (cb_ HB.out hw207_0), (cb_ HB.out hw207_1), (cb_ HB.out hw207_2), (cb_ HB.out hw207_3), (cb_ HB.out hw207_4), (cb_ HB.out hw207_5), (cb_ HB.out hw207_6), (cb_ HB.out hw207_7)⟩ (fun hHeld => ?_); refine with_tabW spec_GroupReports.tab9 spec_GroupReports.bits9 (fun HT_ HW_ => ?_)
                   generalize wr.drew = w21 at HO_3 HB HR204_2 HR204_5 HR205_2 HR205_5 HR206_2 HR206_5 HR207_2 HR207_5 hx203_0 hx204_0 hx204_1 hx204_2 hx204_3 hx204_4 hx204_5 hx204_6 hx204_7 hx205_0 hx205_1 hx205_2 hx205_3 hx205_4 hx205_5 hx205_6 hx205_7 hx206_0 hx206_1 hx206_2 hx206_3 hx206_4 hx206_5 hx206_6 hx206_7 hx207_0 hx207_1 hx207_2 hx207_3 hx207_4 hx207_5 hx207_6 hx207_7 hHeld ⊢
                   refine pu_ 0 (some 28) M3_1 HT_ ?_
                   refine pu_ 1 (some 29) M3_2 HT_ ?_
                   refine pu_ 2 (some 30) M3_3 HT_ ?_
                   refine pu_ 4 (some 32) M3_4 HT_ ?_
                   refine pu_ 5 (some 33) M3_5 HT_ ?_
                   refine pu_ 6 (some 34) M3_6 HT_ ?_
                   refine pu_ 7 (some 35) M3_7 HT_ ?_
                   refine tk_ 3 (some 31) M3_8 HT_ HW_ hHeld ?_
                   refine tk_ 8 (some 36) M3_9 HT_ HW_ hHeld ?_
                   refine pu_ 9 (some 37) M3_10 HT_ ?_
                   refine pu_ 10 (some 38) M3_11 HT_ ?_
                   refine pu_ 11 (some 39) M3_12 HT_ ?_
                   refine pu_ 12 (some 40) M3_13 HT_ ?_
                   refine pu_ 13 (some 41) M3_14 HT_ ?_
                   refine pu_ 14 (some 42) M3_15 HT_ ?_
                   refine pu_ 15 (some 43) M3_16 HT_ ?_
                   refine tk_ 16 (some 44) M3_17 HT_ HW_ hHeld ?_
                   refine pu_ 17 (some 45) M3_18 HT_ ?_
                   refine pu_ 18 (some 46) M3_19 HT_ ?_
                   refine pu_ 19 (some 47) M3_20 HT_ ?_
                   refine pu_ 20 (some 48) M3_21 HT_ ?_
                   refine pu_ 21 (some 49) M3_22 HT_ ?_
                   refine pu_ 22 (some 50) M3_23 HT_ ?_
                   refine pu_ 24 (some 52) M3_24 HT_ ?_
                   refine pu_ 25 (some 53) M3_25 HT_ ?_
                   refine pu_ 26 (some 54) M3_26 HT_ ?_
                   refine tk_ 23 (some 51) M3_27 HT_ HW_ hHeld ?_
                   refine tk_ 27 (some 55) M3_28 HT_ HW_ hHeld ?_
                   refine one_ (i := 28) (N := some 56) M3_29 rfl rfl (one_of HT_.out (by kernel_rfl)) (by decide) (fun K hK => ?_)
                   refine goes_ Try.func18 (by kernel_rfl) rfl #[.agg #[.int .i64 ((rd_T41 l0 x6_3).f0), .int .i64 ((rd_T41 l0 x6_3).f1), .slice A204_2 ((rd_T41 l0 x6_3).f2).length c204_2, .int .i64 ((rd_T41 l0 x6_3).f3), .int .i64 ((rd_T41 l0 x6_3).f4), .slice A204_5 ((rd_T41 l0 x6_3).f5).length c204_5, .int .i64 ((rd_T41 l0 x6_3).f6.f0), .int .i64 ((rd_T41 l0 x6_3).f6.f1)], .agg #[.int .i64 ((rd_T41 l0 x4_1).f0), .int .i64 ((rd_T41 l0 x4_1).f1), .slice A205_2 ((rd_T41 l0 x4_1).f2).length c205_2, .int .i64 ((rd_T41 l0 x4_1).f3), .int .i64 ((rd_T41 l0 x4_1).f4), .slice A205_5 ((rd_T41 l0 x4_1).f5).length c205_5, .int .i64 ((rd_T41 l0 x4_1).f6.f0), .int .i64 ((rd_T41 l0 x4_1).f6.f1)]] (by rfl) rfl rfl ma_ ?_
                   with_reducible refine (spec_SameOwner.calls k3 ((rd_T41 l0 x6_3).f0) ((rd_T41 l0 x6_3).f1) _ _ ((rd_T41 l0 x6_3).f2) ((rd_T41 l0 x6_3).f3) ((rd_T41 l0 x6_3).f4) _ _ ((rd_T41 l0 x6_3).f5) ((rd_T41 l0 x6_3).f6.f0) ((rd_T41 l0 x6_3).f6.f1) ((rd_T41 l0 x4_1).f0) ((rd_T41 l0 x4_1).f1) _ _ ((rd_T41 l0 x4_1).f2) ((rd_T41 l0 x4_1).f3) ((rd_T41 l0 x4_1).f4) _ _ ((rd_T41 l0 x4_1).f5) ((rd_T41 l0 x4_1).f6.f0) ((rd_T41 l0 x4_1).f6.f1) true _ ?side1 ?side2 ?side3 ?side4 ?side5 ?side6 ?side7 ?side8 A19.out).mono ?_
                   (case side1 => exact cd_ (Kd.C_below HR206_2.out HB.out))
                   (case side2 => exact HC206_2.out)
                   (case side3 => exact cd_ (Kd.C_below HR206_5.out HB.out))
                   (case side4 => exact HC206_5.out)
                   (case side5 => exact cd_ (Kd.C_below HR207_2.out HB.out))
                   (case side6 => exact HC207_2.out)
                   (case side7 => exact cd_ (Kd.C_below HR207_5.out HB.out))
                   (case side8 => exact HC207_5.out)
                   rintro e w23 ⟨rfl, hb⟩
                   have HS0_ := (hb.cell (World.block_lt_of_cell? _ _ (hHeld.1))).trans (hHeld.1)
                   refine ⟨_, rfl, ?_⟩
                   have n0_ := Aside0.mk (Kd.R_below (rd_ HO_3.out) hb)
                   have n1_ := Aside0.mk (below_step (hd_ HB.out) hb)
                   clear HO_3
                   clear HB
                   have HO_3 := n0_
                   have HB := n1_
                   clear n0_ n1_
                   (try clear hb)
                   (try clear hb2)
                   (try clear hk)
                   (try clear hi)
                   refine hK.out _ _ ⟨HS0_, (cb_ HB.out hw204_0), (cb_ HB.out hw204_1), (cb_ HB.out hw204_2), (cb_ HB.out hw204_3), (cb_ HB.out hw204_4), (cb_ HB.out hw204_5), (cb_ HB.out hw204_6), (cb_ HB.out hw204_7), (cb_ HB.out hw205_0), (cb_ HB.out hw205_1), (cb_ HB.out hw205_2), (cb_ HB.out hw205_3), (cb_ HB.out hw205_4), (cb_ HB.out hw205_5), (cb_ HB.out hw205_6), (cb_ HB.out hw205_7), (cb_ HB.out hw206_0), (cb_ HB.out hw206_1), (cb_ HB.out hw206_2), (cb_ HB.out hw206_3), (cb_ HB.out hw206_4), (cb_ HB.out hw206_5), (cb_ HB.out hw206_6), (cb_ HB.out hw206_7), (cb_ HB.out hw207_0), (cb_ HB.out hw207_1), (cb_ HB.out hw207_2), (cb_ HB.out hw207_3), (cb_ HB.out hw207_4), (cb_ HB.out hw207_5), (cb_ HB.out hw207_6), (cb_ HB.out hw207_7)⟩ (fun hHeld => ?_)
                   clear hK K
                   refine norm_ (a' := ?_) ?_ ?_
                   rotate_left
                   ·
                    show Act.put _ (some 56) _ = _
                    simp only [Act.put, P3_1, P3_2, P3_3, i64_w, i32_w]
                    rfl
                   refine pu_ 29 (some 57) M3_30 HT_ ?_
                   refine done_ (done_of HT_.out (by kernel_rfl)) ?_
                   have p209 : 0 ≤ (x6_3 : Int) := of_decide_eq_true as_
                   have q209 : x6_3 < (l0.length : Int) := of_decide_eq_true as_
                   obtain ⟨ad209, A209_2, c209_2, A209_5, c209_5, e209, hx209_0, hx209_1, hx209_2, hx209_3, hx209_4, hx209_5, hx209_6, hx209_7, hl209_2, hi209_2, hl209_5, hi209_5⟩ := at_T41 HR0.out x6_3 p209 q209
                   obtain rfl : ad202 = ad209 := (by injection e209)
                   replace hx209_0 := cb_ HB.out hx209_0
                   replace hx209_1 := cb_ HB.out hx209_1
                   replace hx209_2 := cb_ HB.out hx209_2
                   replace hx209_3 := cb_ HB.out hx209_3
                   replace hx209_4 := cb_ HB.out hx209_4
                   replace hx209_5 := cb_ HB.out hx209_5
                   replace hx209_6 := cb_ HB.out hx209_6
                   replace hx209_7 := cb_ HB.out hx209_7
                   have HR209_2 := Aside0.mk hi209_2
                   have HC209_2 := Aside0.mk hl209_2
                   clear hi209_2 hl209_2
                   have HR209_5 := Aside0.mk hi209_5
                   have HC209_5 := Aside0.mk hl209_5
                   clear hi209_5 hl209_5
                   replace p209 := eq_true p209
                   replace q209 := eq_true q209
                   try go_wp2
                   go_roundg k3
                   case measure => have := HK1.out; have := HJ3.out; have := HK3.out; omega
                   case rel => exact ⟨((rd_T41 l0 x6_3).f0), (wrap64 (x6_3 + 1)), y114_, y114_, H', ⟨by have := HK1.out; have := HJ3.out; have := HK3.out; omega⟩, ⟨rd_ HO_3.out⟩, ⟨hd_ HB.out⟩⟩
                  ·
                   replace c20 := Bool.eq_false_iff.mpr c20
                   subst c20
                   have H1 : (spec_GroupReports.l1 k3 l0 x3_1 x4_1 x5_3 (wrap64 (x6_3 + 1))) = some r := by rw [if_neg (show ¬ (false = true) by decide)] at H; exact H
                   clear H
                   have H := H1
                   clear H1
                   have H' := Aside0.mk H
                   clear H
                   try go_wp2
                   have n0_ := Aside0.mk (Kd.R_drew HO_3.out)
                   have n1_ := Aside0.mk (below_drew1 HB.out)
                   clear HO_3
                   clear HB
                   have HO_3 := n0_
                   have HB := n1_
                   clear n0_ n1_
                   obtain ⟨Ao25, co25, eo25⟩ := Kd.R_slice HO_3.out
                   (first | subst eo25 | (injection eo25 with f1_ f2_ f3_; have f4_ := f1_.symm; have f5_ := f3_.symm; clear f1_ f2_ f3_; subst f4_; subst f5_))
                   have p203 : 0 ≤ (x6_3 : Int) := of_decide_eq_true as_
                   have q203 : x6_3 < (x3_1.length : Int) := of_decide_eq_true as_
                   obtain ⟨ad203, e203, hx203_0⟩ := Kd.at_int (Kd.R_reads' HO_3.out).2.2 x6_3 p203 q203
                   cases e203
                   replace p203 := eq_true p203
                   replace q203 := eq_true q203
                   have p204 : 0 ≤ (x6_3 : Int) := of_decide_eq_true as_
                   have q204 : x6_3 < (l0.length : Int) := of_decide_eq_true as_
                   obtain ⟨ad204, A204_2, c204_2, A204_5, c204_5, e204, hx204_0, hx204_1, hx204_2, hx204_3, hx204_4, hx204_5, hx204_6, hx204_7, hl204_2, hi204_2, hl204_5, hi204_5⟩ := at_T41 HR0.out x6_3 p204 q204
                   have hw204_7 := hx204_7
                   have hw204_6 := hx204_6
                   have hw204_5 := hx204_5
                   have hw204_4 := hx204_4
                   have hw204_3 := hx204_3
                   have hw204_2 := hx204_2
                   have hw204_1 := hx204_1
                   have hw204_0 := hx204_0
                   obtain rfl : ad202 = ad204 := (by injection e204)
                   replace hx204_0 := cb_ HB.out hx204_0
                   replace hx204_1 := cb_ HB.out hx204_1
                   replace hx204_2 := cb_ HB.out hx204_2
                   replace hx204_3 := cb_ HB.out hx204_3
                   replace hx204_4 := cb_ HB.out hx204_4
                   replace hx204_5 := cb_ HB.out hx204_5
                   replace hx204_6 := cb_ HB.out hx204_6
                   replace hx204_7 := cb_ HB.out hx204_7
                   have HR204_2 := Aside0.mk hi204_2
                   have HC204_2 := Aside0.mk hl204_2
                   clear hi204_2 hl204_2
                   have HR204_5 := Aside0.mk hi204_5
                   have HC204_5 := Aside0.mk hl204_5
                   clear hi204_5 hl204_5
                   replace p204 := eq_true p204
                   replace q204 := eq_true q204
                   have p205 : 0 ≤ (x4_1 : Int) := of_decide_eq_true as_
                   have q205 : x4_1 < (l0.length : Int) := of_decide_eq_true as_
                   obtain ⟨ad205, A205_2, c205_2, A205_5, c205_5, e205, hx205_0, hx205_1, hx205_2, hx205_3, hx205_4, hx205_5, hx205_6, hx205_7, hl205_2, hi205_2, hl205_5, hi205_5⟩ := at_T41 HR0.out x4_1 p205 q205
                   have hw205_7 := hx205_7
                   have hw205_6 := hx205_6
                   have hw205_5 := hx205_5
                   have hw205_4 := hx205_4
                   have hw205_3 := hx205_3
                   have hw205_2 := hx205_2
                   have hw205_1 := hx205_1
                   have hw205_0 := hx205_0
                   obtain rfl : ad202 = ad205 := (by injection e205)
                   replace hx205_0 := cb_ HB.out hx205_0
                   replace hx205_1 := cb_ HB.out hx205_1
                   replace hx205_2 := cb_ HB.out hx205_2
                   replace hx205_3 := cb_ HB.out hx205_3
                   replace hx205_4 := cb_ HB.out hx205_4
                   replace hx205_5 := cb_ HB.out hx205_5
                   replace hx205_6 := cb_ HB.out hx205_6
                   replace hx205_7 := cb_ HB.out hx205_7
                   have HR205_2 := Aside0.mk hi205_2
                   have HC205_2 := Aside0.mk hl205_2
                   clear hi205_2 hl205_2
                   have HR205_5 := Aside0.mk hi205_5
                   have HC205_5 := Aside0.mk hl205_5
                   clear hi205_5 hl205_5
                   replace p205 := eq_true p205
                   replace q205 := eq_true q205
                   have p206 : 0 ≤ (x6_3 : Int) := of_decide_eq_true as_
                   have q206 : x6_3 < (l0.length : Int) := of_decide_eq_true as_
                   obtain ⟨ad206, A206_2, c206_2, A206_5, c206_5, e206, hx206_0, hx206_1, hx206_2, hx206_3, hx206_4, hx206_5, hx206_6, hx206_7, hl206_2, hi206_2, hl206_5, hi206_5⟩ := at_T41 HR0.out x6_3 p206 q206
                   have hw206_7 := hx206_7
                   have hw206_6 := hx206_6
                   have hw206_5 := hx206_5
                   have hw206_4 := hx206_4
                   have hw206_3 := hx206_3
                   have hw206_2 := hx206_2
                   have hw206_1 := hx206_1
                   have hw206_0 := hx206_0
                   obtain rfl : ad202 = ad206 := (by injection e206)
                   replace hx206_0 := cb_ HB.out hx206_0
                   replace hx206_1 := cb_ HB.out hx206_1
                   replace hx206_2 := cb_ HB.out hx206_2
                   replace hx206_3 := cb_ HB.out hx206_3
                   replace hx206_4 := cb_ HB.out hx206_4
                   replace hx206_5 := cb_ HB.out hx206_5
                   replace hx206_6 := cb_ HB.out hx206_6
                   replace hx206_7 := cb_ HB.out hx206_7
                   have HR206_2 := Aside0.mk hi206_2
                   have HC206_2 := Aside0.mk hl206_2
                   clear hi206_2 hl206_2
                   have HR206_5 := Aside0.mk hi206_5
                   have HC206_5 := Aside0.mk hl206_5
                   clear hi206_5 hl206_5
                   replace p206 := eq_true p206
                   replace q206 := eq_true q206
                   have ea_ := Option.some.inj (hx204_2.symm.trans hx206_2)
                   injection ea_ with ea_ en_ ec_
                   subst ea_
                   subst ec_
                   clear en_
                   have ea_ := Option.some.inj (hx204_5.symm.trans hx206_5)
                   injection ea_ with ea_ en_ ec_
                   subst ea_
                   subst ec_
                   clear en_
                   have p207 : 0 ≤ (x4_1 : Int) := of_decide_eq_true as_
                   have q207 : x4_1 < (l0.length : Int) := of_decide_eq_true as_
                   obtain ⟨ad207, A207_2, c207_2, A207_5, c207_5, e207, hx207_0, hx207_1, hx207_2, hx207_3, hx207_4, hx207_5, hx207_6, hx207_7, hl207_2, hi207_2, hl207_5, hi207_5⟩ := at_T41 HR0.out x4_1 p207 q207
                   have hw207_7 := hx207_7
                   have hw207_6 := hx207_6
                   have hw207_5 := hx207_5
                   have hw207_4 := hx207_4
                   have hw207_3 := hx207_3
                   have hw207_2 := hx207_2
                   have hw207_1 := hx207_1
                   have hw207_0 := hx207_0
                   obtain rfl : ad202 = ad207 := (by injection e207)
                   replace hx207_0 := cb_ HB.out hx207_0
                   replace hx207_1 := cb_ HB.out hx207_1
                   replace hx207_2 := cb_ HB.out hx207_2
                   replace hx207_3 := cb_ HB.out hx207_3
                   replace hx207_4 := cb_ HB.out hx207_4
                   replace hx207_5 := cb_ HB.out hx207_5
                   replace hx207_6 := cb_ HB.out hx207_6
                   replace hx207_7 := cb_ HB.out hx207_7
                   have HR207_2 := Aside0.mk hi207_2
                   have HC207_2 := Aside0.mk hl207_2
                   clear hi207_2 hl207_2
                   have HR207_5 := Aside0.mk hi207_5
                   have HC207_5 := Aside0.mk hl207_5
                   clear hi207_5 hl207_5
                   replace p207 := eq_true p207
                   replace q207 := eq_true q207
                   have ea_ := Option.some.inj (hx205_2.symm.trans hx207_2)
                   injection ea_ with ea_ en_ ec_
                   subst ea_
                   subst ec_
                   clear en_
                   have ea_ := Option.some.inj (hx205_5.symm.trans hx207_5)
                   injection ea_ with ea_ en_ ec_
                   subst ea_
                   subst ec_
                   clear en_
                   refine start_ (n := 30) (S := fun w' => w'.cell? (ad203.add (x6_3).toNat) = some (.int .i64 (rd x3_1 x6_3)) ∧ q2_ w' (ad202.add ((x6_3).toNat * 8)) ((rd_T41 l0 x6_3).f0) ((rd_T41 l0 x6_3).f1) A204_2 ((rd_T41 l0 x6_3).f2).length c204_2 ((rd_T41 l0 x6_3).f3) ((rd_T41 l0 x6_3).f4) A204_5 ((rd_T41 l0 x6_3).f5).length c204_5 ((rd_T41 l0 x6_3).f6.f0) ((rd_T41 l0 x6_3).f6.f1) (q2_ w' (ad202.add ((x4_1).toNat * 8)) ((rd_T41 l0 x4_1).f0) ((rd_T41 l0 x4_1).f1) A205_2 ((rd_T41 l0 x4_1).f2).length c205_2 ((rd_T41 l0 x4_1).f3) ((rd_T41 l0 x4_1).f4) A205_5 ((rd_T41 l0 x4_1).f5).length c205_5 ((rd_T41 l0 x4_1).f6.f0) ((rd_T41 l0 x4_1).f6.f1) (q2_ w' (ad202.add ((x6_3).toNat * 8)) ((rd_T41 l0 x6_3).f0) ((rd_T41 l0 x6_3).f1) A204_2 ((rd_T41 l0 x6_3).f2).length c204_2 ((rd_T41 l0 x6_3).f3) ((rd_T41 l0 x6_3).f4) A204_5 ((rd_T41 l0 x6_3).f5).length c204_5 ((rd_T41 l0 x6_3).f6.f0) ((rd_T41 l0 x6_3).f6.f1) (q2e_ w' (ad202.add ((x4_1).toNat * 8)) ((rd_T41 l0 x4_1).f0) ((rd_T41 l0 x4_1).f1) A205_2 ((rd_T41 l0 x4_1).f2).length c205_2 ((rd_T41 l0 x4_1).f3) ((rd_T41 l0 x4_1).f4) A205_5 ((rd_T41 l0 x4_1).f5).length c205_5 ((rd_T41 l0 x4_1).f6.f0) ((rd_T41 l0 x4_1).f6.f1))))) (ds := []) M3_0 (by kernel_rfl) rfl rfl ⟨hx203_0, (cb_ HB.out hw204_0), (cb_ HB.out hw204_1), (cb_ HB.out hw204_2), (cb_ HB.out hw204_3), (cb_ HB.out hw204_4), (cb_ HB.out hw204_5), (cb_ HB.out hw204_6), (cb_ HB.out hw204_7), (cb_ HB.out hw205_0), (cb_ HB.out hw205_1), (cb_ HB.out hw205_2), (cb_ HB.out hw205_3), (cb_ HB.out hw205_4), (cb_ HB.out hw205_5), (cb_ HB.out hw205_6), (cb_ HB.out hw205_7), (cb_ HB.out hw206_0), (cb_ HB.out hw206_1), (cb_ HB.out hw206_2), (cb_ HB.out hw206_3), (cb_ HB.out hw206_4), (cb_ HB.out hw206_5), (cb_ HB.out hw206_6), (cb_ HB.out hw206_7), (cb_ HB.out hw207_0), (cb_ HB.out hw207_1), (cb_ HB.out hw207_2), (cb_ HB.out hw207_3), (cb_ HB.out hw207_4), (cb_ HB.out hw207_5), (cb_ HB.out hw207_6), (cb_ HB.out hw207_7)⟩ (fun hHeld => ?_); refine with_tabW spec_GroupReports.tab9 spec_GroupReports.bits9 (fun HT_ HW_ => ?_)
                   generalize wr.drew = w24 at HO_3 HB HR204_2 HR204_5 HR205_2 HR205_5 HR206_2 HR206_5 HR207_2 HR207_5 hx203_0 hx204_0 hx204_1 hx204_2 hx204_3 hx204_4 hx204_5 hx204_6 hx204_7 hx205_0 hx205_1 hx205_2 hx205_3 hx205_4 hx205_5 hx205_6 hx205_7 hx206_0 hx206_1 hx206_2 hx206_3 hx206_4 hx206_5 hx206_6 hx206_7 hx207_0 hx207_1 hx207_2 hx207_3 hx207_4 hx207_5 hx207_6 hx207_7 hHeld ⊢
                   refine pu_ 0 (some 28) M3_1 HT_ ?_
                   refine pu_ 1 (some 29) M3_2 HT_ ?_
                   refine pu_ 2 (some 30) M3_3 HT_ ?_
                   refine pu_ 4 (some 32) M3_4 HT_ ?_
                   refine pu_ 5 (some 33) M3_5 HT_ ?_
                   refine pu_ 6 (some 34) M3_6 HT_ ?_
                   refine pu_ 7 (some 35) M3_7 HT_ ?_
                   refine tk_ 3 (some 31) M3_8 HT_ HW_ hHeld ?_
                   refine tk_ 8 (some 36) M3_9 HT_ HW_ hHeld ?_
                   refine pu_ 9 (some 37) M3_10 HT_ ?_
                   refine pu_ 10 (some 38) M3_11 HT_ ?_
                   refine pu_ 11 (some 39) M3_12 HT_ ?_
                   refine pu_ 12 (some 40) M3_13 HT_ ?_
                   refine pu_ 13 (some 41) M3_14 HT_ ?_
                   refine pu_ 14 (some 42) M3_15 HT_ ?_
                   refine pu_ 15 (some 43) M3_16 HT_ ?_
                   refine tk_ 16 (some 44) M3_17 HT_ HW_ hHeld ?_
                   refine pu_ 17 (some 45) M3_18 HT_ ?_
                   refine pu_ 18 (some 46) M3_19 HT_ ?_
                   refine pu_ 19 (some 47) M3_20 HT_ ?_
                   refine pu_ 20 (some 48) M3_21 HT_ ?_
                   refine pu_ 21 (some 49) M3_22 HT_ ?_
                   refine pu_ 22 (some 50) M3_23 HT_ ?_
                   refine pu_ 24 (some 52) M3_24 HT_ ?_
                   refine pu_ 25 (some 53) M3_25 HT_ ?_
                   refine pu_ 26 (some 54) M3_26 HT_ ?_
                   refine tk_ 23 (some 51) M3_27 HT_ HW_ hHeld ?_
                   refine tk_ 27 (some 55) M3_28 HT_ HW_ hHeld ?_
                   refine one_ (i := 28) (N := some 56) M3_29 rfl rfl (one_of HT_.out (by kernel_rfl)) (by decide) (fun K hK => ?_)
                   refine goes_ Try.func18 (by kernel_rfl) rfl #[.agg #[.int .i64 ((rd_T41 l0 x6_3).f0), .int .i64 ((rd_T41 l0 x6_3).f1), .slice A204_2 ((rd_T41 l0 x6_3).f2).length c204_2, .int .i64 ((rd_T41 l0 x6_3).f3), .int .i64 ((rd_T41 l0 x6_3).f4), .slice A204_5 ((rd_T41 l0 x6_3).f5).length c204_5, .int .i64 ((rd_T41 l0 x6_3).f6.f0), .int .i64 ((rd_T41 l0 x6_3).f6.f1)], .agg #[.int .i64 ((rd_T41 l0 x4_1).f0), .int .i64 ((rd_T41 l0 x4_1).f1), .slice A205_2 ((rd_T41 l0 x4_1).f2).length c205_2, .int .i64 ((rd_T41 l0 x4_1).f3), .int .i64 ((rd_T41 l0 x4_1).f4), .slice A205_5 ((rd_T41 l0 x4_1).f5).length c205_5, .int .i64 ((rd_T41 l0 x4_1).f6.f0), .int .i64 ((rd_T41 l0 x4_1).f6.f1)]] (by rfl) rfl rfl ma_ ?_
                   with_reducible refine (spec_SameOwner.calls k3 ((rd_T41 l0 x6_3).f0) ((rd_T41 l0 x6_3).f1) _ _ ((rd_T41 l0 x6_3).f2) ((rd_T41 l0 x6_3).f3) ((rd_T41 l0 x6_3).f4) _ _ ((rd_T41 l0 x6_3).f5) ((rd_T41 l0 x6_3).f6.f0) ((rd_T41 l0 x6_3).f6.f1) ((rd_T41 l0 x4_1).f0) ((rd_T41 l0 x4_1).f1) _ _ ((rd_T41 l0 x4_1).f2) ((rd_T41 l0 x4_1).f3) ((rd_T41 l0 x4_1).f4) _ _ ((rd_T41 l0 x4_1).f5) ((rd_T41 l0 x4_1).f6.f0) ((rd_T41 l0 x4_1).f6.f1) false _ ?side1 ?side2 ?side3 ?side4 ?side5 ?side6 ?side7 ?side8 A19.out).mono ?_
                   (case side1 => exact cd_ (Kd.C_below HR206_2.out HB.out))
                   (case side2 => exact HC206_2.out)
                   (case side3 => exact cd_ (Kd.C_below HR206_5.out HB.out))
                   (case side4 => exact HC206_5.out)
                   (case side5 => exact cd_ (Kd.C_below HR207_2.out HB.out))
                   (case side6 => exact HC207_2.out)
                   (case side7 => exact cd_ (Kd.C_below HR207_5.out HB.out))
                   (case side8 => exact HC207_5.out)
                   rintro e w26 ⟨rfl, hb⟩
                   have HS0_ := (hb.cell (World.block_lt_of_cell? _ _ (hHeld.1))).trans (hHeld.1)
                   refine ⟨_, rfl, ?_⟩
                   have n0_ := Aside0.mk (Kd.R_below (rd_ HO_3.out) hb)
                   have n1_ := Aside0.mk (below_step (hd_ HB.out) hb)
                   clear HO_3
                   clear HB
                   have HO_3 := n0_
                   have HB := n1_
                   clear n0_ n1_
                   (try clear hb)
                   (try clear hb2)
                   (try clear hk)
                   (try clear hi)
                   refine hK.out _ _ ⟨HS0_, (cb_ HB.out hw204_0), (cb_ HB.out hw204_1), (cb_ HB.out hw204_2), (cb_ HB.out hw204_3), (cb_ HB.out hw204_4), (cb_ HB.out hw204_5), (cb_ HB.out hw204_6), (cb_ HB.out hw204_7), (cb_ HB.out hw205_0), (cb_ HB.out hw205_1), (cb_ HB.out hw205_2), (cb_ HB.out hw205_3), (cb_ HB.out hw205_4), (cb_ HB.out hw205_5), (cb_ HB.out hw205_6), (cb_ HB.out hw205_7), (cb_ HB.out hw206_0), (cb_ HB.out hw206_1), (cb_ HB.out hw206_2), (cb_ HB.out hw206_3), (cb_ HB.out hw206_4), (cb_ HB.out hw206_5), (cb_ HB.out hw206_6), (cb_ HB.out hw206_7), (cb_ HB.out hw207_0), (cb_ HB.out hw207_1), (cb_ HB.out hw207_2), (cb_ HB.out hw207_3), (cb_ HB.out hw207_4), (cb_ HB.out hw207_5), (cb_ HB.out hw207_6), (cb_ HB.out hw207_7)⟩ (fun hHeld => ?_)
                   clear hK K
                   refine norm_ (a' := ?_) ?_ ?_
                   rotate_left
                   ·
                    show Act.put _ (some 56) _ = _
                    simp only [Act.put, P3_1, P3_2, P3_3, i64_w, i32_w]
                    rfl
                   refine pu_ 29 (some 57) M3_30 HT_ ?_
                   refine done_ (done_of HT_.out (by kernel_rfl)) ?_
                   try go_wp2
                   go_roundg k3
                   case measure => have := HK1.out; have := HJ3.out; have := HK3.out; omega
                   case rel => exact ⟨(x5_3), (wrap64 (x6_3 + 1)), y114_, y114_, H', ⟨by have := HK1.out; have := HJ3.out; have := HK3.out; omega⟩, ⟨rd_ HO_3.out⟩, ⟨hd_ HB.out⟩⟩
                 ·
                  rw [if_neg c18] at H
                  have c18b0 : (x5_3 == ((rd_T41 l0 x4_1).f0)) = false := beq_eq_false_iff_ne.mpr c18
                  have c18b1 : (x5_3 != ((rd_T41 l0 x4_1).f0)) = true := bne_iff_ne.mpr c18
                  have H' := Aside0.mk H
                  clear H
                  try go_wp2
                  have n0_ := Aside0.mk (Kd.R_drew HO_3.out)
                  have n1_ := Aside0.mk (below_drew1 HB.out)
                  clear HO_3
                  clear HB
                  have HO_3 := n0_
                  have HB := n1_
                  clear n0_ n1_
                  obtain ⟨Ao28, co28, eo28⟩ := Kd.R_slice HO_3.out
                  (first | subst eo28 | (injection eo28 with f1_ f2_ f3_; have f4_ := f1_.symm; have f5_ := f3_.symm; clear f1_ f2_ f3_; subst f4_; subst f5_))
                  have p203 : 0 ≤ (x6_3 : Int) := of_decide_eq_true as_
                  have q203 : x6_3 < (x3_1.length : Int) := of_decide_eq_true as_
                  obtain ⟨ad203, e203, hx203_0⟩ := Kd.at_int (Kd.R_reads' HO_3.out).2.2 x6_3 p203 q203
                  cases e203
                  replace p203 := eq_true p203
                  replace q203 := eq_true q203
                  have p204 : 0 ≤ (x6_3 : Int) := of_decide_eq_true as_
                  have q204 : x6_3 < (l0.length : Int) := of_decide_eq_true as_
                  obtain ⟨ad204, A204_2, c204_2, A204_5, c204_5, e204, hx204_0, hx204_1, hx204_2, hx204_3, hx204_4, hx204_5, hx204_6, hx204_7, hl204_2, hi204_2, hl204_5, hi204_5⟩ := at_T41 HR0.out x6_3 p204 q204
                  have hw204_7 := hx204_7
                  have hw204_6 := hx204_6
                  have hw204_5 := hx204_5
                  have hw204_4 := hx204_4
                  have hw204_3 := hx204_3
                  have hw204_2 := hx204_2
                  have hw204_1 := hx204_1
                  have hw204_0 := hx204_0
                  obtain rfl : ad202 = ad204 := (by injection e204)
                  replace hx204_0 := cb_ HB.out hx204_0
                  replace hx204_1 := cb_ HB.out hx204_1
                  replace hx204_2 := cb_ HB.out hx204_2
                  replace hx204_3 := cb_ HB.out hx204_3
                  replace hx204_4 := cb_ HB.out hx204_4
                  replace hx204_5 := cb_ HB.out hx204_5
                  replace hx204_6 := cb_ HB.out hx204_6
                  replace hx204_7 := cb_ HB.out hx204_7
                  have HR204_2 := Aside0.mk hi204_2
                  have HC204_2 := Aside0.mk hl204_2
                  clear hi204_2 hl204_2
                  have HR204_5 := Aside0.mk hi204_5
                  have HC204_5 := Aside0.mk hl204_5
                  clear hi204_5 hl204_5
                  replace p204 := eq_true p204
                  replace q204 := eq_true q204
                  have p205 : 0 ≤ (x4_1 : Int) := of_decide_eq_true as_
                  have q205 : x4_1 < (l0.length : Int) := of_decide_eq_true as_
                  obtain ⟨ad205, A205_2, c205_2, A205_5, c205_5, e205, hx205_0, hx205_1, hx205_2, hx205_3, hx205_4, hx205_5, hx205_6, hx205_7, hl205_2, hi205_2, hl205_5, hi205_5⟩ := at_T41 HR0.out x4_1 p205 q205
                  have hw205_7 := hx205_7
                  have hw205_6 := hx205_6
                  have hw205_5 := hx205_5
                  have hw205_4 := hx205_4
                  have hw205_3 := hx205_3
                  have hw205_2 := hx205_2
                  have hw205_1 := hx205_1
                  have hw205_0 := hx205_0
                  obtain rfl : ad202 = ad205 := (by injection e205)
                  replace hx205_0 := cb_ HB.out hx205_0
                  replace hx205_1 := cb_ HB.out hx205_1
                  replace hx205_2 := cb_ HB.out hx205_2
                  replace hx205_3 := cb_ HB.out hx205_3
                  replace hx205_4 := cb_ HB.out hx205_4
                  replace hx205_5 := cb_ HB.out hx205_5
                  replace hx205_6 := cb_ HB.out hx205_6
                  replace hx205_7 := cb_ HB.out hx205_7
                  have HR205_2 := Aside0.mk hi205_2
                  have HC205_2 := Aside0.mk hl205_2
                  clear hi205_2 hl205_2
                  have HR205_5 := Aside0.mk hi205_5
                  have HC205_5 := Aside0.mk hl205_5
                  clear hi205_5 hl205_5
                  replace p205 := eq_true p205
                  replace q205 := eq_true q205
                  refine start_ (n := 30) (S := fun w' => w'.cell? (ad203.add (x6_3).toNat) = some (.int .i64 (rd x3_1 x6_3)) ∧ q2_ w' (ad202.add ((x6_3).toNat * 8)) ((rd_T41 l0 x6_3).f0) ((rd_T41 l0 x6_3).f1) A204_2 ((rd_T41 l0 x6_3).f2).length c204_2 ((rd_T41 l0 x6_3).f3) ((rd_T41 l0 x6_3).f4) A204_5 ((rd_T41 l0 x6_3).f5).length c204_5 ((rd_T41 l0 x6_3).f6.f0) ((rd_T41 l0 x6_3).f6.f1) (q2e_ w' (ad202.add ((x4_1).toNat * 8)) ((rd_T41 l0 x4_1).f0) ((rd_T41 l0 x4_1).f1) A205_2 ((rd_T41 l0 x4_1).f2).length c205_2 ((rd_T41 l0 x4_1).f3) ((rd_T41 l0 x4_1).f4) A205_5 ((rd_T41 l0 x4_1).f5).length c205_5 ((rd_T41 l0 x4_1).f6.f0) ((rd_T41 l0 x4_1).f6.f1))) (ds := []) M3_0 (by kernel_rfl) rfl rfl ⟨hx203_0, (cb_ HB.out hw204_0), (cb_ HB.out hw204_1), (cb_ HB.out hw204_2), (cb_ HB.out hw204_3), (cb_ HB.out hw204_4), (cb_ HB.out hw204_5), (cb_ HB.out hw204_6), (cb_ HB.out hw204_7), (cb_ HB.out hw205_0), (cb_ HB.out hw205_1), (cb_ HB.out hw205_2), (cb_ HB.out hw205_3), (cb_ HB.out hw205_4), (cb_ HB.out hw205_5), (cb_ HB.out hw205_6), (cb_ HB.out hw205_7)⟩ (fun hHeld => ?_); refine with_tabW spec_GroupReports.tab9 spec_GroupReports.bits9 (fun HT_ HW_ => ?_)
                  generalize wr.drew = w27 at HO_3 HB HR204_2 HR204_5 HR205_2 HR205_5 hx203_0 hx204_0 hx204_1 hx204_2 hx204_3 hx204_4 hx204_5 hx204_6 hx204_7 hx205_0 hx205_1 hx205_2 hx205_3 hx205_4 hx205_5 hx205_6 hx205_7 hHeld ⊢
                  refine pu_ 0 (some 28) M3_1 HT_ ?_
                  refine pu_ 1 (some 29) M3_2 HT_ ?_
                  refine pu_ 2 (some 30) M3_3 HT_ ?_
                  refine pu_ 4 (some 32) M3_4 HT_ ?_
                  refine pu_ 5 (some 33) M3_5 HT_ ?_
                  refine pu_ 6 (some 34) M3_6 HT_ ?_
                  refine pu_ 7 (some 35) M3_7 HT_ ?_
                  refine tk_ 3 (some 31) M3_8 HT_ HW_ hHeld ?_
                  refine tk_ 8 (some 36) M3_9 HT_ HW_ hHeld ?_
                  refine pu_ 9 (some 37) M3_10 HT_ ?_
                  refine pu_ 10 (some 38) M3_11 HT_ ?_
                  refine pu_ 11 (some 39) M3_12 HT_ ?_
                  refine pu_ 12 (some 40) M3_13 HT_ ?_
                  refine pu_ 13 (some 41) M3_14 HT_ ?_
                  refine pu_ 14 (some 42) M3_15 HT_ ?_
                  refine pu_ 15 (some 43) M3_16 HT_ ?_
                  refine tk_ 16 (some 44) M3_17 HT_ HW_ hHeld ?_
                  refine pu_ 17 (some 45) M3_18 HT_ ?_
                  refine pu_ 18 (some 46) M3_19 HT_ ?_
                  refine pu_ 19 (some 47) M3_20 HT_ ?_
                  refine pn_ 20 (some 48) M3_21 HT_ ?_
                  refine pn_ 21 (some 49) M3_22 HT_ ?_
                  refine pn_ 22 (some 50) M3_23 HT_ ?_
                  refine pn_ 23 (some 51) M3_31 HT_ ?_
                  refine pn_ 24 (some 52) M3_32 HT_ ?_
                  refine pn_ 25 (some 53) M3_33 HT_ ?_
                  refine pn_ 26 (some 54) M3_27 HT_ ?_
                  refine pn_ 27 (some 55) M3_28 HT_ ?_
                  refine pn_ 28 (some 56) M3_29 HT_ ?_
                  refine pu_ 29 (some 57) M3_30 HT_ ?_
                  refine done_ (done_of HT_.out (by kernel_rfl)) ?_
                  try go_wp2
                  go_roundg k3
                  case measure => have := HK1.out; have := HJ3.out; have := HK3.out; omega
                  case rel => exact ⟨(x5_3), (wrap64 (x6_3 + 1)), y114_, y114_, H', ⟨by have := HK1.out; have := HJ3.out; have := HK3.out; omega⟩, ⟨rd_ HO_3.out⟩, ⟨hd_ HB.out⟩⟩
                ·
                 rw [if_neg c17] at H
                 exact absurd H (by simp)
               ·
                rw [if_neg c16] at H
                exact absurd H (by simp)
              ·
               rw [if_neg c15] at H
               have c15b0 : ((rd x3_1 x6_3) == ((rd_T41 l0 x6_3).f0)) = false := beq_eq_false_iff_ne.mpr c15
               have c15b1 : ((rd x3_1 x6_3) != ((rd_T41 l0 x6_3).f0)) = true := bne_iff_ne.mpr c15
               have H' := Aside0.mk H
               clear H
               try go_wp2
               have n0_ := Aside0.mk (Kd.R_drew HO_3.out)
               have n1_ := Aside0.mk (below_drew1 HB.out)
               clear HO_3
               clear HB
               have HO_3 := n0_
               have HB := n1_
               clear n0_ n1_
               obtain ⟨Ao30, co30, eo30⟩ := Kd.R_slice HO_3.out
               (first | subst eo30 | (injection eo30 with f1_ f2_ f3_; have f4_ := f1_.symm; have f5_ := f3_.symm; clear f1_ f2_ f3_; subst f4_; subst f5_))
               have p203 : 0 ≤ (x6_3 : Int) := of_decide_eq_true as_
               have q203 : x6_3 < (x3_1.length : Int) := of_decide_eq_true as_
               obtain ⟨ad203, e203, hx203_0⟩ := Kd.at_int (Kd.R_reads' HO_3.out).2.2 x6_3 p203 q203
               cases e203
               replace p203 := eq_true p203
               replace q203 := eq_true q203
               have p204 : 0 ≤ (x6_3 : Int) := of_decide_eq_true as_
               have q204 : x6_3 < (l0.length : Int) := of_decide_eq_true as_
               obtain ⟨ad204, A204_2, c204_2, A204_5, c204_5, e204, hx204_0, hx204_1, hx204_2, hx204_3, hx204_4, hx204_5, hx204_6, hx204_7, hl204_2, hi204_2, hl204_5, hi204_5⟩ := at_T41 HR0.out x6_3 p204 q204
               have hw204_7 := hx204_7
               have hw204_6 := hx204_6
               have hw204_5 := hx204_5
               have hw204_4 := hx204_4
               have hw204_3 := hx204_3
               have hw204_2 := hx204_2
               have hw204_1 := hx204_1
               have hw204_0 := hx204_0
               obtain rfl : ad202 = ad204 := (by injection e204)
               replace hx204_0 := cb_ HB.out hx204_0
               replace hx204_1 := cb_ HB.out hx204_1
               replace hx204_2 := cb_ HB.out hx204_2
               replace hx204_3 := cb_ HB.out hx204_3
               replace hx204_4 := cb_ HB.out hx204_4
               replace hx204_5 := cb_ HB.out hx204_5
               replace hx204_6 := cb_ HB.out hx204_6
               replace hx204_7 := cb_ HB.out hx204_7
               have HR204_2 := Aside0.mk hi204_2
               have HC204_2 := Aside0.mk hl204_2
               clear hi204_2 hl204_2
               have HR204_5 := Aside0.mk hi204_5
               have HC204_5 := Aside0.mk hl204_5
               clear hi204_5 hl204_5
               replace p204 := eq_true p204
               replace q204 := eq_true q204
               refine start_ (n := 30) (S := fun w' => w'.cell? (ad203.add (x6_3).toNat) = some (.int .i64 (rd x3_1 x6_3)) ∧ q2e_ w' (ad202.add ((x6_3).toNat * 8)) ((rd_T41 l0 x6_3).f0) ((rd_T41 l0 x6_3).f1) A204_2 ((rd_T41 l0 x6_3).f2).length c204_2 ((rd_T41 l0 x6_3).f3) ((rd_T41 l0 x6_3).f4) A204_5 ((rd_T41 l0 x6_3).f5).length c204_5 ((rd_T41 l0 x6_3).f6.f0) ((rd_T41 l0 x6_3).f6.f1)) (ds := []) M3_0 (by kernel_rfl) rfl rfl ⟨hx203_0, (cb_ HB.out hw204_0), (cb_ HB.out hw204_1), (cb_ HB.out hw204_2), (cb_ HB.out hw204_3), (cb_ HB.out hw204_4), (cb_ HB.out hw204_5), (cb_ HB.out hw204_6), (cb_ HB.out hw204_7)⟩ (fun hHeld => ?_); refine with_tabW spec_GroupReports.tab9 spec_GroupReports.bits9 (fun HT_ HW_ => ?_)
               generalize wr.drew = w29 at HO_3 HB HR204_2 HR204_5 hx203_0 hx204_0 hx204_1 hx204_2 hx204_3 hx204_4 hx204_5 hx204_6 hx204_7 hHeld ⊢
               refine pu_ 0 (some 28) M3_1 HT_ ?_
               refine pu_ 1 (some 29) M3_2 HT_ ?_
               refine pu_ 2 (some 30) M3_3 HT_ ?_
               refine pu_ 4 (some 32) M3_4 HT_ ?_
               refine pu_ 5 (some 33) M3_5 HT_ ?_
               refine pu_ 6 (some 34) M3_6 HT_ ?_
               refine pu_ 7 (some 35) M3_7 HT_ ?_
               refine tk_ 3 (some 31) M3_8 HT_ HW_ hHeld ?_
               refine tk_ 8 (some 36) M3_9 HT_ HW_ hHeld ?_
               refine pu_ 9 (some 37) M3_10 HT_ ?_
               refine pu_ 10 (some 38) M3_11 HT_ ?_
               refine pn_ 11 (some 39) M3_12 HT_ ?_
               refine pn_ 12 (some 40) M3_13 HT_ ?_
               refine pn_ 13 (some 41) M3_14 HT_ ?_
               refine pn_ 14 (some 42) M3_15 HT_ ?_
               refine pn_ 15 (some 43) M3_16 HT_ ?_
               refine pn_ 16 (some 44) M3_17 HT_ ?_
               refine pn_ 17 (some 45) M3_18 HT_ ?_
               refine pu_ 18 (some 46) M3_19 HT_ ?_
               refine pu_ 19 (some 47) M3_20 HT_ ?_
               refine pn_ 20 (some 48) M3_21 HT_ ?_
               refine pn_ 21 (some 49) M3_22 HT_ ?_
               refine pn_ 22 (some 50) M3_23 HT_ ?_
               refine pn_ 23 (some 51) M3_31 HT_ ?_
               refine pn_ 24 (some 52) M3_32 HT_ ?_
               refine pn_ 25 (some 53) M3_33 HT_ ?_
               refine pn_ 26 (some 54) M3_27 HT_ ?_
               refine pn_ 27 (some 55) M3_28 HT_ ?_
               refine pn_ 28 (some 56) M3_29 HT_ ?_
               refine pu_ 29 (some 57) M3_30 HT_ ?_
               refine done_ (done_of HT_.out (by kernel_rfl)) ?_
               try go_wp2
               go_roundg k3
               case measure => have := HK1.out; have := HJ3.out; have := HK3.out; omega
               case rel => exact ⟨(x5_3), (wrap64 (x6_3 + 1)), y114_, y114_, H', ⟨by have := HK1.out; have := HJ3.out; have := HK3.out; omega⟩, ⟨rd_ HO_3.out⟩, ⟨hd_ HB.out⟩⟩
             ·
              rw [if_neg c14] at H
              exact absurd H (by simp)
            ·
             rw [if_neg c13] at H
             exact absurd H (by simp)
           ·
            rw [if_neg c12] at H
            exact absurd H (by simp)
          ·
           rw [if_neg c11] at H
           have c11b0 : decide (x6_3 < x4_1) = false := decide_eq_false c11
           clear c11
           by_cases c31 : x3_1.length < 17592186044416
           ·
            rw [if_pos c31] at H
            have LMc31 := Aside0.mk c31
            clear c31
            obtain ⟨y210, hy210⟩ : ∃ y_ : List Int, y_ = (x3_1 ++ [x5_3]) := ⟨_, rfl⟩
            replace H : (spec_GroupReports.l0 k3 l0 y210 (wrap64 (x4_1 + 1))) = some r := by first | (rw [hy210]; with_reducible exact H) | (have H2_ := (Option.bind_some _ _).symm.trans H; rw [hy210]; with_reducible exact H2_) | (have H2_ := (Option.bind_some _ _).symm.trans H; with_reducible exact H2_) | with_reducible exact H | (rw [hy210]; exact H) | exact H
            have Ny210 := Aside0.mk hy210
            clear hy210
            have H' := Aside0.mk H
            clear H
            go_wp2_with (first | ((with_reducible refine gate_builtin (b := .append) (xs := #[.tmp 63, .tmp 65]) rfl ?_); at_builtin; refine Kd.R_append (Kd.int .i64) (w0 := w) w.heap.size rfl (.tmp 63) (.tmp 65) 24 3 (.int .i64 0) 8 rfl Try.underlying24 info3 rfl (by decide) (by omega) u3 x3_1 x5_3 [.int .i64 x5_3] (fun _ => True) (fun _ => False) rfl rfl ?aP (fun _ hk => hk.elim) ?aF ?aO ?aB ?aS ?aL ?_; (case aP => exact rfl); (case aB => exact (hd_ HB.out)); (case aF => exact (fun _ _ => trivial)); (case aO => exact rd_ HO_3.out); (case aS => exact (below_size (hd_ HB.out))); (case aL => have := LMc31.out; omega); intro v211 w32 ho hb hg hat; rw [← Ny210.out] at ho; have n0_ := Aside0.mk (hb); have HO212 := Aside0.mk (ho); clear HB; clear HO_3; have HB := n0_; clear n0_; clear ho hb hg hat))
            go_roundg k3
            case measure => have := HK1.out; have := HJ3.out; have := HK3.out; omega
            case rel => exact ⟨(y210), (wrap64 (x4_1 + 1)), y114_, H', ⟨by have := HK1.out; have := HJ3.out; have := HK3.out; omega⟩, ⟨rd_ HO212.out⟩, ⟨hd_ HB.out⟩⟩
           ·
            rw [if_neg c31] at H
            exact absurd H (by simp)
       ·
        rw [if_neg c10] at H
        exact absurd H (by simp)
      ·
       rw [if_neg c9] at H
       exact absurd H (by simp)
     ·
      replace c8 := Bool.eq_false_iff.mpr c8
      subst c8
      have H1 : (some x3_1) = some r := by rw [if_neg (show ¬ (false = true) by decide)] at H; exact H
      clear H
      have H := H1
      clear H1
      obtain rfl := Option.some.inj H
      go_wp2
      go_ret
      exact ⟨_, by first | rfl | (simp [errW_none, errW_some] <;> rfl) | (simp [*, errW_none, errW_some] <;> rfl), rd_ HO_3.out, hd_ HB.out⟩

end Go.Proofs.Ytglpmjcknhcjcaa.PFnExactGroupReports
