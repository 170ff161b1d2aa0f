-- Written for this claim by a program (a printer turned to this claim); Lean checks it.
import Derived.Test.YtfghapankndioaaPFnSecretsx0
import Derived.Test.YtfghapankndioaaPFnSecretsx7
namespace Go.Proofs.Ytfghapankndioaa.PFnSecrets
open Go.RowKit Go.Proofs.YtfghapankndioaaW.PrintWords Go.Proofs.YtfghapankndioaaW.PrintLast Go.Proofs.YtfghapankndioaaW.PrintMore
attribute [local go_sem] max2_int min2_int max_two min_two max_three min_three max_four min_four   -- for this text's walks alone
set_option linter.unusedVariables false
set_option linter.unusedSimpArgs false

/-! ### spec_PutMark: function 81 -/
mutual
def spec_PutMark.j1 : Nat → List (S67) → Int → Int → Int → Option ((List (S67)) × Bool)
 | 0, _, _, _, _ => none
 | k + 1, x0, x6, x185000, x185001 => if 0 ≤ x6 then (if x6 ≤ (x0.length : Int) then ((some (x0.drop (x6 : Int).toNat : List (S67))).bind fun y186 => (if (y186.length : Int) > 0 then (if 0 < (y186.length : Int) then (spec_PutMark.j2 k x0 x6 y186 (((rd_T67 y186 0).f0) == x185000) x185000 x185001) else (none)) else (spec_PutMark.j2 k x0 x6 y186 false x185000 x185001))) else (none)) else (none)
def spec_PutMark.j2 : Nat → List (S67) → Int → List (S67) → Bool → Int → Int → Option ((List (S67)) × Bool)
 | 0, _, _, _, _, _, _ => none
 | k + 1, x0, x6, x7, x39, x185000, x185001 => if x39 = true then (if 1 ≤ (x7.length : Int) then ((some (x7.drop 1 : List (S67))).bind fun y191 => ((some (([] : List (S67)) : List (S67))).bind fun y195 => (if 0 ≤ x6 then (if x6 ≤ (x0.length : Int) then ((some (x0.take (x6 : Int).toNat : List (S67))).bind fun y198 => (if y195.length + y198.length < 8796093022208 then ((some (y195 ++ y198 : List (S67))).bind fun y202 => ((some (([(⟨x185000, x185001⟩ : S67)] : List (S67)) : List (S67))).bind fun y205 => (if y202.length + y205.length < 8796093022208 then ((some (y202 ++ y205 : List (S67))).bind fun y208 => (if y208.length + y191.length < 8796093022208 then ((some (y208 ++ y191 : List (S67))).bind fun y211 => ((spec_AreMarks.f k y211).bind fun t214 => (if t214 = true then (some (y211, true)) else ((some (([] : List (S67)) : List (S67))).bind fun y215 => (if y215.length + x0.length < 8796093022208 then (some ((y215 ++ x0), false)) else (none)))))) else (none))) else (none)))) else (none))) else (none)) else (none)))) else (none)) else ((some (([] : List (S67)) : List (S67))).bind fun y221 => (if 0 ≤ x6 then (if x6 ≤ (x0.length : Int) then ((some (x0.take (x6 : Int).toNat : List (S67))).bind fun y224 => (if y221.length + y224.length < 8796093022208 then ((some (y221 ++ y224 : List (S67))).bind fun y228 => ((some (([(⟨x185000, x185001⟩ : S67)] : List (S67)) : List (S67))).bind fun y231 => (if y228.length + y231.length < 8796093022208 then ((some (y228 ++ y231 : List (S67))).bind fun y234 => (if y234.length + x7.length < 8796093022208 then ((some (y234 ++ x7 : List (S67))).bind fun y237 => ((spec_AreMarks.f k y237).bind fun t240 => (if t240 = true then (some (y237, true)) else ((some (([] : List (S67)) : List (S67))).bind fun y241 => (if y241.length + x0.length < 8796093022208 then (some ((y241 ++ x0), false)) else (none)))))) else (none))) else (none)))) else (none))) else (none)) else (none)))
def spec_PutMark.l0 : Nat → List (S67) → Int → Int → Int → Option ((List (S67)) × Bool)
 | 0, _, _, _, _ => none
 | k + 1, x0, x6, x185000, x185001 => if x6 < (x0.length : Int) then (if 0 ≤ x6 then (if ((rd_T67 x0 x6).f0) < x185000 then (spec_PutMark.l0 k x0 (wrap64 (x6 + 1)) x185000 x185001) else (spec_PutMark.j1 k x0 x6 x185000 x185001)) else (none)) else (spec_PutMark.j1 k x0 x6 x185000 x185001)
end
def spec_PutMark.f (k : Nat) (l0 : List (S67)) (a1_0 : Int) (a1_1 : Int) : Option ((List (S67)) × Bool) := spec_PutMark.l0 k l0 0 a1_0 a1_1
theorem spec_PutMark.mono_l : ∀ k, (∀ y0 y1 y2 y3, LeO (spec_PutMark.j1 k y0 y1 y2 y3) (spec_PutMark.j1 (k + 1) y0 y1 y2 y3)) ∧ (∀ y0 y1 y2 y3 y4 y5, LeO (spec_PutMark.j2 k y0 y1 y2 y3 y4 y5) (spec_PutMark.j2 (k + 1) y0 y1 y2 y3 y4 y5)) ∧ (∀ y0 y1 y2 y3, LeO (spec_PutMark.l0 k y0 y1 y2 y3) (spec_PutMark.l0 (k + 1) y0 y1 y2 y3))
 | 0 => ⟨fun _ _ _ _ r h => by simp [spec_PutMark.j1] at h, fun _ _ _ _ _ _ r h => by simp [spec_PutMark.j2] at h, fun _ _ _ _ r h => by simp [spec_PutMark.l0] at h⟩
 | k + 1 => by
  obtain ⟨ih0, ih1, ih2⟩ := spec_PutMark.mono_l k
  refine ⟨?_, ?_, ?_⟩
  ·
   intro y0 y1 y2 y3
   unfold spec_PutMark.j1
   repeat' first
   | (with_reducible exact ih0 _ _ _ _)
   | (with_reducible exact ih1 _ _ _ _ _ _)
   | (with_reducible exact ih2 _ _ _ _)
   | (with_reducible exact spec_AreMarks.mono _ _)
   | (with_reducible exact LeO.refl _)
   | (with_reducible exact LeO.none _)
   | (with_reducible refine LeO.ite ?_ ?_)
   | (with_reducible refine LeO.bind ?_ (fun _ => ?_))
   | exact ih0 _ _ _ _
   | exact ih1 _ _ _ _ _ _
   | exact ih2 _ _ _ _
   | exact spec_AreMarks.mono _ _
   | exact LeO.none _
   | refine LeO.ite ?_ ?_
   | refine LeO.bind ?_ (fun _ => ?_)
  ·
   intro y0 y1 y2 y3 y4 y5
   unfold spec_PutMark.j2
   repeat' first
   | (with_reducible exact ih0 _ _ _ _)
   | (with_reducible exact ih1 _ _ _ _ _ _)
   | (with_reducible exact ih2 _ _ _ _)
   | (with_reducible exact spec_AreMarks.mono _ _)
   | (with_reducible exact LeO.refl _)
   | (with_reducible exact LeO.none _)
   | (with_reducible refine LeO.ite ?_ ?_)
   | (with_reducible refine LeO.bind ?_ (fun _ => ?_))
   | exact ih0 _ _ _ _
   | exact ih1 _ _ _ _ _ _
   | exact ih2 _ _ _ _
   | exact spec_AreMarks.mono _ _
   | exact LeO.none _
   | refine LeO.ite ?_ ?_
   | refine LeO.bind ?_ (fun _ => ?_)
  ·
   intro y0 y1 y2 y3
   unfold spec_PutMark.l0
   repeat' first
   | (with_reducible exact ih0 _ _ _ _)
   | (with_reducible exact ih1 _ _ _ _ _ _)
   | (with_reducible exact ih2 _ _ _ _)
   | (with_reducible exact spec_AreMarks.mono _ _)
   | (with_reducible exact LeO.refl _)
   | (with_reducible exact LeO.none _)
   | (with_reducible refine LeO.ite ?_ ?_)
   | (with_reducible refine LeO.bind ?_ (fun _ => ?_))
   | exact ih0 _ _ _ _
   | exact ih1 _ _ _ _ _ _
   | exact ih2 _ _ _ _
   | exact spec_AreMarks.mono _ _
   | exact LeO.none _
   | refine LeO.ite ?_ ?_
   | refine LeO.bind ?_ (fun _ => ?_)
theorem spec_PutMark.mono : ∀ a0 a1 a2 k, LeO (spec_PutMark.f k a0 a1 a2) (spec_PutMark.f (k + 1) a0 a1 a2) := by
 intro a0 a1 a2 k
 obtain ⟨ih0, ih1, ih2⟩ := spec_PutMark.mono_l k
 unfold spec_PutMark.f
 repeat' first
   | (with_reducible exact ih0 _ _ _ _)
   | (with_reducible exact ih1 _ _ _ _ _ _)
   | (with_reducible exact ih2 _ _ _ _)
   | (with_reducible exact spec_AreMarks.mono _ _)
   | (with_reducible exact LeO.refl _)
   | (with_reducible exact LeO.none _)
   | (with_reducible refine LeO.ite ?_ ?_)
   | (with_reducible refine LeO.bind ?_ (fun _ => ?_))
   | exact ih0 _ _ _ _
   | exact ih1 _ _ _ _ _ _
   | exact ih2 _ _ _ _
   | exact spec_AreMarks.mono _ _
   | exact LeO.none _
   | refine LeO.ite ?_ ?_
   | refine LeO.bind ?_ (fun _ => ?_)
def spec_PutMark.T2 : Bool × List (List Nat × List Nat) := (true, [([], []), ([], []), ([1], [1]), ([0, 2], [0, 2]), ([3], [3]), ([4], [4]), ([4], [4]), ([5, 6, 4], [4, 5, 6]), ([7, 4], [4, 7]), ([8, 4], [4, 8]), ([4], [4]), ([10, 4], [4, 10]), ([9, 11, 4], [4, 9, 11]), ([4, 12], [4, 12])])
def spec_PutMark.B2 : List Nat := [0, 0, 2, 7, 15, 31, 31, 127, 255, 511, 31, 1055, 4095, 8191]
theorem spec_PutMark.tab2 : rtab .any (opsOf Try.f81 2) = spec_PutMark.T2 := by kernel_rfl
theorem spec_PutMark.bits2 : waitsOk spec_PutMark.T2.2 spec_PutMark.B2 = true := by kernel_rfl
def spec_PutMark.T5 : Bool × List (List Nat × List Nat) := (true, [([], []), ([0], [0]), ([1], [1]), ([2], [2]), ([3], [3]), ([4, 3], [3, 4]), ([5, 3], [3, 5]), ([6, 3], [3, 6]), ([3], [3]), ([8, 3], [3, 8]), ([7, 9, 3], [3, 7, 9]), ([3, 10], [3, 10])])
def spec_PutMark.B5 : List Nat := [0, 1, 3, 7, 15, 31, 63, 127, 15, 271, 1023, 2047]
theorem spec_PutMark.tab5 : rtab .any (opsOf Try.f81 5) = spec_PutMark.T5 := by kernel_rfl
theorem spec_PutMark.bits5 : waitsOk spec_PutMark.T5.2 spec_PutMark.B5 = true := by kernel_rfl
def spec_PutMark.T7 : Bool × List (List Nat × List Nat) := (true, [([], []), ([], []), ([], []), ([1, 2], [1, 2]), ([0, 3], [0, 3]), ([], []), ([5], [5]), ([4, 6, 4], [4, 6]), ([], []), ([7, 8, 7], [7, 8]), ([9, 9, 0, 1, 2, 3, 4, 5, 6, 7, 8, 9], [9])])
def spec_PutMark.B7 : List Nat := [0, 0, 0, 6, 15, 0, 32, 127, 0, 511, 1023]
theorem spec_PutMark.tab7 : rtab .any (opsOf Try.f81 7) = spec_PutMark.T7 := by kernel_rfl
theorem spec_PutMark.bits7 : waitsOk spec_PutMark.T7.2 spec_PutMark.B7 = true := by kernel_rfl
abbrev M3_0 : Array Bool := #[false, false, false, false, false, false, false, false, false, false, false, false, false, false]
abbrev M3_1 : Array Bool := #[true, false, false, false, false, false, false, false, false, false, false, false, false, false]
abbrev M3_2 : Array Bool := #[true, true, false, false, false, false, false, false, false, false, false, false, false, false]
abbrev M3_3 : Array Bool := #[true, true, true, false, false, false, false, false, false, false, false, false, false, false]
abbrev M3_4 : Array Bool := #[true, true, true, true, false, false, false, false, false, false, false, false, false, false]
abbrev M3_5 : Array Bool := #[true, true, true, true, true, false, false, false, false, false, false, false, false, false]
abbrev M3_6 : Array Bool := #[true, true, true, true, true, true, false, false, false, false, false, false, false, false]
abbrev M3_7 : Array Bool := #[true, true, true, true, true, true, true, false, false, false, false, false, false, false]
abbrev M3_8 : Array Bool := #[true, true, true, true, true, true, true, true, false, false, false, false, false, false]
abbrev M3_9 : Array Bool := #[true, true, true, true, true, true, true, true, true, false, false, false, false, false]
abbrev M3_10 : Array Bool := #[true, true, true, true, true, true, true, true, true, false, true, false, false, false]
abbrev M3_11 : Array Bool := #[true, true, true, true, true, true, true, true, true, true, true, false, false, false]
abbrev M3_12 : Array Bool := #[true, true, true, true, true, true, true, true, true, true, true, true, false, false]
abbrev M3_13 : Array Bool := #[true, true, true, true, true, true, true, true, true, true, true, true, true, false]
abbrev M3_14 : Array Bool := #[true, true, true, true, true, true, true, true, true, true, true, true, true, true]
abbrev M3_15 : Array Bool := #[true, true, true, true, true, true, true, true, true, true, false, false, false, false]
abbrev M3_16 : Array Bool := #[false, false, false, false, false, false, false, false, false, false, false, false]
abbrev M3_17 : Array Bool := #[true, false, false, false, false, false, false, false, false, false, false, false]
abbrev M3_18 : Array Bool := #[true, true, false, false, false, false, false, false, false, false, false, false]
abbrev M3_19 : Array Bool := #[true, true, true, false, false, false, false, false, false, false, false, false]
abbrev M3_20 : Array Bool := #[true, true, true, true, false, false, false, false, false, false, false, false]
abbrev M3_21 : Array Bool := #[true, true, true, true, true, false, false, false, false, false, false, false]
abbrev M3_22 : Array Bool := #[true, true, true, true, true, true, false, false, false, false, false, false]
abbrev M3_23 : Array Bool := #[true, true, true, true, true, true, true, false, false, false, false, false]
abbrev M3_24 : Array Bool := #[true, true, true, true, true, true, true, false, true, false, false, false]
abbrev M3_25 : Array Bool := #[true, true, true, true, true, true, true, true, true, false, false, false]
abbrev M3_26 : Array Bool := #[true, true, true, true, true, true, true, true, true, true, false, false]
abbrev M3_27 : Array Bool := #[true, true, true, true, true, true, true, true, true, true, true, false]
abbrev M3_28 : Array Bool := #[true, true, true, true, true, true, true, true, true, true, true, true]
abbrev M3_29 : Array Bool := #[true, true, true, true, true, true, true, true, false, false, false, false]
abbrev M3_30 : Array Bool := #[false, false, false, false, false, false, false, false, false, false, false]
abbrev M3_31 : Array Bool := #[false, true, false, false, false, false, false, false, false, false, false]
abbrev M3_32 : Array Bool := #[false, true, true, false, false, false, false, false, false, false, false]
abbrev M3_33 : Array Bool := #[false, true, true, true, false, false, false, false, false, false, false]
abbrev M3_34 : Array Bool := #[false, true, true, true, false, false, false, false, true, false, false]
abbrev M3_35 : Array Bool := #[false, true, true, true, false, true, false, false, true, false, false]
abbrev M3_36 : Array Bool := #[true, true, true, true, true, true, true, false, true, false, false]
abbrev M3_37 : Array Bool := #[true, true, true, true, false, true, false, false, true, false, false]
abbrev M3_38 : Array Bool := #[false, true, true, true, false, true, true, false, true, false, false]
abbrev M3_39 : Array Bool := #[true, true, true, true, true, true, false, false, true, false, false]
abbrev M3_40 : Array Bool := #[true, true, true, true, false, true, true, false, true, false, false]
abbrev M3_41 : Array Bool := #[true, true, true, true, true, true, true, true, true, false, false]
abbrev M3_42 : Array Bool := #[true, true, true, true, true, true, true, true, true, true, false]
abbrev M3_43 : Array Bool := #[true, true, true, true, true, true, true, true, true, true, true]
theorem P3_1 {α : Type} (l : List α) (i : Nat) (a : α) : l.toArray.setIfInBounds i a = (l.set i a).toArray := List.setIfInBounds_toArray l i a
theorem P3_2 {α : Type} (x : α) (l : List α) (a : α) : (x :: l).set 0 a = a :: l := List.set_cons_zero
theorem P3_3 {α : Type} (x : α) (l : List α) (n : Nat) (a : α) : (x :: l).set (n + 1) a = x :: l.set n a := List.set_cons_succ
theorem y52_ {P : Prop} (h : P := by repeat (first | (with_reducible first | exact HB.out | apply below_alloc | apply pw_below_drewN | apply below_drew1 | refine below_set ?_ GE184.out) | exact HB.out)) : P := h
theorem y56_ {P : Prop} (h : P := by repeat (first | (with_reducible first | exact HB.out | apply below_alloc | apply pw_below_drewN | apply below_drew1 | refine below_set ?_ GE184.out) | exact HB.out)) : P := h
theorem y57_ {P : Prop} (h : P := by simp only [putAll, Act.put, List.setIfInBounds_toArray, List.set_cons_zero, List.set_cons_succ]) : P := h
theorem y61_ {P : Prop} (h : P := by (with_reducible repeat (first | apply Kd.R_alloc | apply Kd.R_drewN | apply Kd.R_drew)); exact Kd.R_mono HO207.out (fun _ hk => ⟨hk.2, hk.1⟩)) : P := h
theorem y62_ {P : Prop} (h : P := by (with_reducible repeat (first | apply Kd.R_alloc | apply Kd.R_drewN | apply Kd.R_drew)); exact Kd.R_mono HO233.out (fun _ hk => ⟨hk.2, hk.1⟩)) : P := h
theorem y65_ {P : Prop} (h : P := by (with_reducible repeat (first | apply Kd.R_alloc | apply Kd.R_drewN | apply Kd.R_drew)); exact Kd.R_mono HO207.out (fun _ hk => ⟨hk.1.2, hk.2⟩)) : P := h
theorem y66_ {P : Prop} (h : P := by (with_reducible repeat (first | apply Kd.R_alloc | apply Kd.R_drewN | apply Kd.R_drew)); exact Kd.R_mono HO233.out (fun _ hk => ⟨hk.1.2, hk.2⟩)) : P := h
theorem y71_ {P : Prop} (h : P := by first | rfl | (simp; done) | (simp [*]; done)) : P := h
set_option maxHeartbeats 8000000 in
set_option maxRecDepth 100000 in
theorem spec_PutMark.calls (k : Nat) (A0 : Option Addr) (c0 : Nat) (l0 : List (S67)) (a1_0 : Int) (a1_1 : Int) (r1 : List (S67)) (r2 : Bool) (w : World) (hr0 : Kd.C k67 w A0 l0.length l0) (hc0 : l0.length ≤ c0) (h : spec_PutMark.f k l0 a1_0 a1_1 = some (r1, r2)) :
  Calls Try.prog 81 #[.slice A0 l0.length c0, .agg #[.int .i64 a1_0, .int .i64 a1_1]] w fun e w' => ∃ v0_ : Value, e = .returned (.tuple #[v0_, .bool r2]) ∧ Kd.R k67 67 w' w.heap.size (fun _ => True) v0_ r1 ∧ Below w.heap.size w w' := by
 have hu67 := Try.underlying67
 have HR0 := Aside0.mk hr0
 have HC0 := Aside0.mk hc0
 clear hr0 hc0
 have HB := Aside0.mk (Below.refl w.heap.size w)
 have H : (spec_PutMark.l0 k l0 0 a1_0 a1_1) = some (r1, r2) := h
 clear h
 have HC3 := Aside0.mk H
 clear H
 go_enter Try.func81, Try.ntmps81
 go_upto_block 0 with (first | ((with_reducible refine gate_dst (N := 3) rfl ?_); refine box_event ?hg (N := 3) ?hd (cs := #[.int .i64 a1_0, .int .i64 a1_1]) (t := 67) ?hr ?_; (case hd => rfl); (case hg => rfl); (case hr => first | (go_simp; done) | (go_simp; rfl)); intro gb184 hg w4 hbox hb; have n0_ := Aside0.mk (below_step (hd_ HB.out) hb); have BK184 := Aside0.mk (hbox); have GW184 := Aside0.mk ((by rw [hg]; exact (below_size (hd_ HB.out)) : w.heap.size ≤ gb184)); have GE184 := Aside0.mk ((by rw [hg]; exact (below_size (hd_ HB.out)) : w.heap.size ≤ gb184)); clear HB; have HB := n0_; clear n0_; clear hb hbox hg))
 (try simp only [Act.put, List.setIfInBounds_toArray, List.set_cons_zero, List.set_cons_succ])
 go_cut [6] (fun v6 wc => ∃ (kq : Nat) (x6_2 : Int), v6 = .int .i64 x6_2 ∧ Aside0 (spec_PutMark.j1 kq l0 x6_2 a1_0 a1_1 = some (r1, r2)) ∧ Aside0 (kq ≤ k) ∧ Aside0 (wc.heap[gb184]? = some (.cells #[.int .i64 a1_0, .int .i64 a1_1] 67 (0, 0))) ∧ Aside0 (Below w.heap.size w wc))
 case first =>
  have H := HC3.out
  clear HC3
  have H' := Aside0.mk H
  clear H
  go_wp2
  go_loopg [6] k (fun kq v6 w' => ∃ (x6_1 : Int), v6 = .int .i64 x6_1 ∧ Aside0 (spec_PutMark.l0 kq l0 x6_1 a1_0 a1_1 = some (r1, r2)) ∧ Aside0 (kq ≤ k) ∧ Aside0 (w'.heap[gb184]? = some (.cells #[.int .i64 a1_0, .int .i64 a1_1] 67 (0, 0))) ∧ Aside0 (Below w.heap.size w w'))
  case atStart => exact ⟨(0), y71_, H', ⟨Nat.le_refl _⟩, ⟨bd_ BK184.out⟩, ⟨y56_⟩⟩
  case round =>
   clear H'
   try clear p2
   obtain ⟨x6_1, rfl, HA, HK1, BK184, HB⟩ := hrel
   cases gk with
   | zero => exact absurd HA.out (by simp [spec_PutMark.l0])
   | succ k1 =>
    have H := HA.out
    clear HA
    simp only [spec_PutMark.l0] at H
    by_cases c5 : x6_1 < (l0.length : Int)
    ·
     rw [if_pos c5] at H
     have c5b0 : decide (x6_1 < (l0.length : Int)) = true := decide_eq_true c5
     clear c5
     (first | rw [c5b0] | (simp only [i64_w, i32_w]; rw [c5b0]) | skip)
     by_cases c6 : 0 ≤ x6_1
     ·
      rw [if_pos c6] at H
      have c6b0 : decide (0 ≤ x6_1) = true := decide_eq_true c6
      clear c6
      by_cases c7 : ((rd_T67 l0 x6_1).f0) < a1_0
      ·
       rw [if_pos c7] at H
       have c7b0 : decide (((rd_T67 l0 x6_1).f0) < a1_0) = true := decide_eq_true c7
       clear c7
       have H' := Aside0.mk H
       clear H
       try go_wp2
       have n0_ := Aside0.mk (blk_drew BK184.out)
       have n1_ := Aside0.mk (below_drew1 HB.out)
       clear BK184
       clear HB
       have BK184 := n0_
       have HB := n1_
       clear n0_ n1_
       have p185 : 0 ≤ (x6_1 : Int) := of_decide_eq_true as_
       have q185 : x6_1 < (l0.length : Int) := of_decide_eq_true as_
       obtain ⟨ad185, e185, hx185_0, hx185_1⟩ := at_T67 HR0.out x6_1 p185 q185
       have hw185_1 := hx185_1
       have hw185_0 := hx185_0
       cases e185
       replace hx185_0 := cb_ HB.out hx185_0
       replace hx185_1 := cb_ HB.out hx185_1
       replace p185 := eq_true p185
       replace q185 := eq_true q185
       refine start_ (n := 14) (S := fun w' => w'.cell? ⟨gb184, 0, none⟩ = some (.int .i64 a1_0) ∧ w'.cell? ⟨gb184, 1, none⟩ = some (.int .i64 a1_1) ∧ w'.cell? (ad185.add ((x6_1).toNat * 2)) = some (.int .i64 ((rd_T67 l0 x6_1).f0)) ∧ w'.cell? ⟨(ad185.add ((x6_1).toNat * 2)).block, (ad185.add ((x6_1).toNat * 2)).off + 1, none⟩ = some (.int .i64 ((rd_T67 l0 x6_1).f1))) (ds := []) M3_0 (by kernel_rfl) rfl rfl ⟨(blk_cell BK184.out 0).trans rfl, (blk_cell BK184.out 1).trans rfl, (cb_ HB.out hw185_0), (cb_ HB.out hw185_1)⟩ (fun hHeld => ?_); refine with_tabW spec_PutMark.tab2 spec_PutMark.bits2 (fun HT_ HW_ => ?_)
       generalize wr.drew = w8 at BK184 HB hx185_0 hx185_1 hHeld ⊢
       refine pu_ 0 (some 9) M3_1 HT_ ?_
       refine pu_ 1 (some 10) M3_2 HT_ ?_
       refine pu_ 2 (some 11) M3_3 HT_ ?_
       refine pu_ 3 (some 12) M3_4 HT_ ?_
       refine pu_ 4 (some 13) M3_5 HT_ ?_
       refine pu_ 5 (some 14) M3_6 HT_ ?_
       refine pu_ 6 (some 15) M3_7 HT_ ?_
       refine pu_ 7 (some 16) M3_8 HT_ ?_
       refine pu_ 8 (some 17) M3_9 HT_ ?_
       refine pu_ 10 (some 19) M3_10 HT_ ?_
       refine tk_ 9 (some 18) M3_11 HT_ HW_ hHeld ?_
       refine tk_ 11 (some 20) M3_12 HT_ HW_ hHeld ?_
       refine pu_ 12 (some 21) M3_13 HT_ ?_
       refine pu_ 13 (some 22) M3_14 HT_ ?_
       refine done_ (done_of HT_.out (by kernel_rfl)) ?_
       try go_wp2
       go_roundg k1
       case measure => have := HK1.out; omega
       case rel => exact ⟨(wrap64 (x6_1 + 1)), y71_, H', ⟨by have := HK1.out; omega⟩, ⟨bd_ BK184.out⟩, ⟨y56_⟩⟩
      ·
       rw [if_neg c7] at H
       have c7b0 : decide (((rd_T67 l0 x6_1).f0) < a1_0) = false := decide_eq_false c7
       clear c7
       have H' := Aside0.mk H
       clear H
       try go_wp2
       have n0_ := Aside0.mk (blk_drew BK184.out)
       have n1_ := Aside0.mk (below_drew1 HB.out)
       clear BK184
       clear HB
       have BK184 := n0_
       have HB := n1_
       clear n0_ n1_
       have p185 : 0 ≤ (x6_1 : Int) := of_decide_eq_true as_
       have q185 : x6_1 < (l0.length : Int) := of_decide_eq_true as_
       obtain ⟨ad185, e185, hx185_0, hx185_1⟩ := at_T67 HR0.out x6_1 p185 q185
       have hw185_1 := hx185_1
       have hw185_0 := hx185_0
       cases e185
       replace hx185_0 := cb_ HB.out hx185_0
       replace hx185_1 := cb_ HB.out hx185_1
       replace p185 := eq_true p185
       replace q185 := eq_true q185
       refine start_ (n := 14) (S := fun w' => w'.cell? ⟨gb184, 0, none⟩ = some (.int .i64 a1_0) ∧ w'.cell? ⟨gb184, 1, none⟩ = some (.int .i64 a1_1) ∧ w'.cell? (ad185.add ((x6_1).toNat * 2)) = some (.int .i64 ((rd_T67 l0 x6_1).f0)) ∧ w'.cell? ⟨(ad185.add ((x6_1).toNat * 2)).block, (ad185.add ((x6_1).toNat * 2)).off + 1, none⟩ = some (.int .i64 ((rd_T67 l0 x6_1).f1))) (ds := []) M3_0 (by kernel_rfl) rfl rfl ⟨(blk_cell BK184.out 0).trans rfl, (blk_cell BK184.out 1).trans rfl, (cb_ HB.out hw185_0), (cb_ HB.out hw185_1)⟩ (fun hHeld => ?_); refine with_tabW spec_PutMark.tab2 spec_PutMark.bits2 (fun HT_ HW_ => ?_)
       generalize wr.drew = w9 at BK184 HB hx185_0 hx185_1 hHeld ⊢
       refine pu_ 0 (some 9) M3_1 HT_ ?_
       refine pu_ 1 (some 10) M3_2 HT_ ?_
       refine pu_ 2 (some 11) M3_3 HT_ ?_
       refine pu_ 3 (some 12) M3_4 HT_ ?_
       refine pu_ 4 (some 13) M3_5 HT_ ?_
       refine pu_ 5 (some 14) M3_6 HT_ ?_
       refine pu_ 6 (some 15) M3_7 HT_ ?_
       refine pu_ 7 (some 16) M3_8 HT_ ?_
       refine pu_ 8 (some 17) M3_9 HT_ ?_
       refine pu_ 10 (some 19) M3_10 HT_ ?_
       refine tk_ 9 (some 18) M3_11 HT_ HW_ hHeld ?_
       refine tk_ 11 (some 20) M3_12 HT_ HW_ hHeld ?_
       refine pu_ 12 (some 21) M3_13 HT_ ?_
       refine pu_ 13 (some 22) M3_14 HT_ ?_
       refine done_ (done_of HT_.out (by kernel_rfl)) ?_
       try go_wp2
       go_meet
       case rel => exact ⟨_, (x6_1), y71_, H', ⟨by have := HK1.out; first | omega | exact Nat.le_refl _⟩, ⟨bd_ BK184.out⟩, ⟨y56_⟩⟩
     ·
      rw [if_neg c6] at H
      exact absurd H (by simp)
    ·
     rw [if_neg c5] at H
     have c5b0 : decide (x6_1 < (l0.length : Int)) = false := decide_eq_false c5
     clear c5
     (first | rw [c5b0] | (simp only [i64_w, i32_w]; rw [c5b0]) | skip)
     have H' := Aside0.mk H
     clear H
     try go_wp2
     have n0_ := Aside0.mk (blk_drew BK184.out)
     have n1_ := Aside0.mk (below_drew1 HB.out)
     clear BK184
     clear HB
     have BK184 := n0_
     have HB := n1_
     clear n0_ n1_
     refine start_ (n := 14) (S := fun w' => True) (ds := []) M3_0 (by kernel_rfl) rfl rfl trivial (fun hHeld => ?_); refine with_tabW spec_PutMark.tab2 spec_PutMark.bits2 (fun HT_ HW_ => ?_)
     generalize wr.drew = w10 at BK184 HB hHeld ⊢
     refine pu_ 0 (some 9) M3_1 HT_ ?_
     refine pu_ 1 (some 10) M3_2 HT_ ?_
     refine pu_ 2 (some 11) M3_3 HT_ ?_
     refine pu_ 3 (some 12) M3_4 HT_ ?_
     refine pu_ 4 (some 13) M3_5 HT_ ?_
     refine pn_ 5 (some 14) M3_6 HT_ ?_
     refine pn_ 6 (some 15) M3_7 HT_ ?_
     refine pn_ 7 (some 16) M3_8 HT_ ?_
     refine pn_ 8 (some 17) M3_9 HT_ ?_
     refine pn_ 9 (some 18) M3_15 HT_ ?_
     refine pn_ 10 (some 19) M3_11 HT_ ?_
     refine pn_ 11 (some 20) M3_12 HT_ ?_
     refine pn_ 12 (some 21) M3_13 HT_ ?_
     refine pu_ 13 (some 22) M3_14 HT_ ?_
     refine done_ (done_of HT_.out (by kernel_rfl)) ?_
     try go_wp2
     go_meet
     case rel => exact ⟨_, (x6_1), y71_, H', ⟨by have := HK1.out; first | omega | exact Nat.le_refl _⟩, ⟨bd_ BK184.out⟩, ⟨y56_⟩⟩
 case rest =>
  clear HC3
  try clear p1
  try clear q1
  try clear hx1
  try clear p2
  try clear c5
  try clear c5b0
  try clear c6
  try clear c6b0
  try clear p6
  try clear c7
  try clear c7b0
  try clear c8
  try clear hx185_0
  try clear hx185_1
  try clear p185
  try clear p2
  try clear q185
  obtain ⟨kq, x6_2, rfl, HA, HJ2, BK184, HB⟩ := hcut
  cases kq with
  | zero => exact absurd HA.out (by simp [spec_PutMark.j1])
  | succ kj2 =>
   have H := HA.out
   clear HA
   simp only [spec_PutMark.j1] at H
   by_cases c11 : 0 ≤ x6_2
   ·
    rw [if_pos c11] at H
    have c11b0 := eq_true c11
    have c11b1 : decide (0 ≤ x6_2) = true := decide_eq_true c11
    clear c11
    by_cases c12 : x6_2 ≤ (l0.length : Int)
    ·
     rw [if_pos c12] at H
     have c12b0 := eq_true c12
     have c12b1 : decide (x6_2 ≤ (l0.length : Int)) = true := decide_eq_true c12
     clear c12
     obtain ⟨y186, hy186⟩ : ∃ y_ : List (S67), y_ = (l0.drop (x6_2 : Int).toNat) := ⟨_, rfl⟩
     replace H : (if (y186.length : Int) > 0 then (if 0 < (y186.length : Int) then (spec_PutMark.j2 kj2 l0 x6_2 y186 (((rd_T67 y186 0).f0) == a1_0) a1_0 a1_1) else (none)) else (spec_PutMark.j2 kj2 l0 x6_2 y186 false a1_0 a1_1)) = some (r1, r2) := by first | (rw [hy186]; with_reducible exact H) | (have H2_ := (Option.bind_some _ _).symm.trans H; rw [hy186]; with_reducible exact H2_) | (have H2_ := (Option.bind_some _ _).symm.trans H; with_reducible exact H2_) | with_reducible exact H | (rw [hy186]; exact H) | exact H
     have Ny186 := Aside0.mk hy186
     clear hy186
     have HC13 := Aside0.mk H
     clear H
     have q14 : (x6_2 : Int) ≤ ((l0.length : Int) : Int) := of_decide_eq_true as_
     obtain ⟨i014, hi014, _, hsz14, _⟩ := info_parts info67
     have hroom14 : l0.length ≤ c0 := HC0.out
     have hC14 : Kd.C k67 _ A0 l0.length l0 := HR0.out
     have q014 : (0 : Int) ≤ (x6_2 : Int) := of_decide_eq_true as_
     have hcut14 := cut_from (P := Try.prog) 34 67 .i64 Try.underlying34 hi014 2 hsz14 A0 l0.length c0 x6_2 q014 q14
     have hr14 := Kd.C_drop (m := (x6_2 : Int).toNat) (c := c0) hC14 (by omega) hroom14
     obtain ⟨A14, hA14⟩ : ∃ A1, A1 = (if c0 = (x6_2 : Int).toNat then A0 else (A0 : Option Addr).map (·.add ((x6_2 : Int).toNat * 2))) := ⟨_, rfl⟩
     obtain ⟨c14, hc14⟩ : ∃ c1, c1 = c0 - (x6_2 : Int).toNat := ⟨_, rfl⟩
     have hy14 : y186.length = l0.length - (x6_2 : Int).toNat := (by rw [Ny186.out, List.length_drop] <;> omega)
     rw [show (l0).drop (x6_2 : Int).toNat = y186 from Ny186.out.symm] at hr14
     replace hr14 : Kd.C k67 _ A14 y186.length y186 := (by rw [hA14]; exact hr14)
     rw [← hy14, ← hA14, ← hc14] at hcut14
     have HR189 := Aside0.mk hr14
     have HC189 := Aside0.mk (show y186.length ≤ c14 from by rw [hy14, hc14]; exact Nat.sub_le_sub_right hroom14 _)
     clear hr14 hC14 hroom14 hi014 hsz14 hc14
     have KY14 := Aside0.mk hy14
     have KA14 := Aside0.mk hA14
     clear hy14 hA14
     replace q14 := eq_true q14
     go_upto_region 5 with (fail)
     go_cut [39] (fun v39 wc => ∃ (kq : Nat) (x39_12 : Bool), v39 = .bool x39_12 ∧ Aside0 (spec_PutMark.j2 kq l0 x6_2 y186 x39_12 a1_0 a1_1 = some (r1, r2)) ∧ Aside0 (kq ≤ kj2) ∧ Aside0 (wc.heap[gb184]? = some (.cells #[.int .i64 a1_0, .int .i64 a1_1] 67 (0, 0))) ∧ Aside0 (Below w.heap.size w wc))
     case first =>
      have H := HC13.out
      clear HC13
      by_cases c15 : (y186.length : Int) > 0
      ·
       rw [if_pos c15] at H
       have c15b0 : decide (0 < (y186.length : Int)) = true := decide_eq_true c15
       have c15b1 : decide (0 < y186.length) = true := decide_eq_true (by omega)
       clear c15
       (first | rw [c15b0] | (simp only [i64_w, i32_w]; rw [c15b0]) | skip)
       by_cases c16 : 0 < (y186.length : Int)
       ·
        rw [if_pos c16] at H
        have c16b0 : decide (0 < (y186.length : Int)) = true := decide_eq_true c16
        have c16b1 : decide (0 < y186.length) = true := decide_eq_true (by omega)
        clear c16
        have H' := Aside0.mk H
        clear H
        try go_wp2
        have n0_ := Aside0.mk (blk_drew BK184.out)
        have n1_ := Aside0.mk (below_drew1 HB.out)
        clear BK184
        clear HB
        have BK184 := n0_
        have HB := n1_
        clear n0_ n1_
        have p190 : 0 ≤ (0 : Int) := (by omega)
        have q190 : 0 < (y186.length : Int) := of_decide_eq_true as_
        obtain ⟨ad190, e190, hx190_0, hx190_1⟩ := at_T67 HR189.out 0 p190 q190
        have hw190_1 := hx190_1
        (try rw [show ((0 : Int)).toNat = 0 from rfl] at hw190_1)
        (try rw [show 0 * 2 = 0 from rfl] at hw190_1)
        (try rw [Addr.add_zero'] at hw190_1)
        have hw190_0 := hx190_0
        (try rw [show ((0 : Int)).toNat = 0 from rfl] at hw190_0)
        (try rw [show 0 * 2 = 0 from rfl] at hw190_0)
        (try rw [Addr.add_zero'] at hw190_0)
        cases e190
        have qi190 : (0 < y186.length) = True := eq_true (by omega)
        (try rw [show ((0 : Int)).toNat = 0 from rfl] at hx190_0)
        (try rw [show 0 * 2 = 0 from rfl] at hx190_0)
        (try rw [Addr.add_zero'] at hx190_0)
        (try rw [show ((0 : Int)).toNat = 0 from rfl] at hx190_1)
        (try rw [show 0 * 2 = 0 from rfl] at hx190_1)
        (try rw [Addr.add_zero'] at hx190_1)
        replace hx190_0 := cb_ HB.out hx190_0
        replace hx190_1 := cb_ HB.out hx190_1
        replace p190 := eq_true p190
        replace q190 := eq_true q190
        refine start_ (n := 12) (S := fun w' => w'.cell? ⟨gb184, 0, none⟩ = some (.int .i64 a1_0) ∧ w'.cell? ⟨gb184, 1, none⟩ = some (.int .i64 a1_1) ∧ w'.cell? ad190 = some (.int .i64 ((rd_T67 y186 0).f0)) ∧ w'.cell? ⟨ad190.block, ad190.off + 1, none⟩ = some (.int .i64 ((rd_T67 y186 0).f1))) (ds := []) M3_16 (by kernel_rfl) rfl rfl ⟨(blk_cell BK184.out 0).trans rfl, (blk_cell BK184.out 1).trans rfl, (cb_ HB.out hw190_0), (cb_ HB.out hw190_1)⟩ (fun hHeld => ?_); refine with_tabW spec_PutMark.tab5 spec_PutMark.bits5 (fun HT_ HW_ => ?_)
        generalize wc.drew = w17 at BK184 HB hx190_0 hx190_1 hHeld ⊢
        refine pu_ 0 (some 28) M3_17 HT_ ?_
        refine pu_ 1 (some 29) M3_18 HT_ ?_
        refine pu_ 2 (some 30) M3_19 HT_ ?_
        refine pu_ 3 (some 31) M3_20 HT_ ?_
        refine pu_ 4 (some 32) M3_21 HT_ ?_
        refine pu_ 5 (some 33) M3_22 HT_ ?_
        refine pu_ 6 (some 34) M3_23 HT_ ?_
        refine pu_ 8 (some 36) M3_24 HT_ ?_
        refine tk_ 7 (some 35) M3_25 HT_ HW_ hHeld ?_
        refine tk_ 9 (some 37) M3_26 HT_ HW_ hHeld ?_
        refine pu_ 10 (some 38) M3_27 HT_ ?_
        refine pu_ 11 (some 39) M3_28 HT_ ?_
        refine done_ (done_of HT_.out (by kernel_rfl)) ?_
        try go_wp2
        go_meet
        case rel => exact ⟨_, ((((rd_T67 y186 0).f0) == a1_0)), y71_, H', ⟨by have := HJ2.out; first | omega | exact Nat.le_refl _⟩, ⟨bd_ BK184.out⟩, ⟨y56_⟩⟩
       ·
        rw [if_neg c16] at H
        exact absurd H (by simp)
      ·
       rw [if_neg c15] at H
       have c15b0 : decide (0 < (y186.length : Int)) = false := decide_eq_false c15
       have c15b1 : decide (0 < y186.length) = false := decide_eq_false (by omega)
       clear c15
       (first | rw [c15b0] | (simp only [i64_w, i32_w]; rw [c15b0]) | skip)
       have H' := Aside0.mk H
       clear H
       try go_wp2
       have n0_ := Aside0.mk (blk_drew BK184.out)
       have n1_ := Aside0.mk (below_drew1 HB.out)
       clear BK184
       clear HB
       have BK184 := n0_
       have HB := n1_
       clear n0_ n1_
       refine start_ (n := 12) (S := fun w' => True) (ds := []) M3_16 (by kernel_rfl) rfl rfl trivial (fun hHeld => ?_); refine with_tabW spec_PutMark.tab5 spec_PutMark.bits5 (fun HT_ HW_ => ?_)
       generalize wc.drew = w18 at BK184 HB hHeld ⊢
       refine pu_ 0 (some 28) M3_17 HT_ ?_
       refine pu_ 1 (some 29) M3_18 HT_ ?_
       refine pu_ 2 (some 30) M3_19 HT_ ?_
       refine pu_ 3 (some 31) M3_20 HT_ ?_
       refine pn_ 4 (some 32) M3_21 HT_ ?_
       refine pn_ 5 (some 33) M3_22 HT_ ?_
       refine pn_ 6 (some 34) M3_23 HT_ ?_
       refine pn_ 7 (some 35) M3_29 HT_ ?_
       refine pn_ 8 (some 36) M3_25 HT_ ?_
       refine pn_ 9 (some 37) M3_26 HT_ ?_
       refine pn_ 10 (some 38) M3_27 HT_ ?_
       refine pu_ 11 (some 39) M3_28 HT_ ?_
       refine done_ (done_of HT_.out (by kernel_rfl)) ?_
       try go_wp2
       go_meet
       case rel => exact ⟨_, (false), y71_, H', ⟨by have := HJ2.out; first | omega | exact Nat.le_refl _⟩, ⟨bd_ BK184.out⟩, ⟨y56_⟩⟩
     case rest =>
      clear HC13
      try clear c1
      try clear p1
      try clear q1
      try clear hx1
      try clear qi1
      try clear p2
      try clear c5
      try clear c5b0
      try clear c6
      try clear c6b0
      try clear p6
      try clear c7
      try clear c7b0
      try clear c8
      try clear c11
      try clear c11b0
      try clear c11b1
      try clear c12
      try clear c12b0
      try clear c12b1
      try clear c14
      try clear q14
      try clear c15
      try clear c15b0
      try clear c15b1
      try clear c16
      try clear c16b0
      try clear c16b1
      try clear p18
      try clear q18
      try clear hx18
      try clear hx185_0
      try clear hx185_1
      try clear hx190_0
      try clear hx190_1
      try clear p1
      try clear p185
      try clear p190
      try clear p2
      try clear p6
      try clear q014
      try clear q1
      try clear q14
      try clear q185
      try clear q190
      obtain ⟨kq, x39_12, rfl, HA, HJ12, BK184, HB⟩ := hcut
      cases kq with
      | zero => exact absurd HA.out (by simp [spec_PutMark.j2])
      | succ kj12 =>
       have H := HA.out
       clear HA
       simp only [spec_PutMark.j2] at H
       by_cases c19 : x39_12 = true
       ·
        subst c19
        have H1 : (if 1 ≤ (y186.length : Int) then ((some (y186.drop 1 : List (S67))).bind fun y191 => ((some (([] : List (S67)) : List (S67))).bind fun y195 => (if 0 ≤ x6_2 then (if x6_2 ≤ (l0.length : Int) then ((some (l0.take (x6_2 : Int).toNat : List (S67))).bind fun y198 => (if y195.length + y198.length < 8796093022208 then ((some (y195 ++ y198 : List (S67))).bind fun y202 => ((some (([(⟨a1_0, a1_1⟩ : S67)] : List (S67)) : List (S67))).bind fun y205 => (if y202.length + y205.length < 8796093022208 then ((some (y202 ++ y205 : List (S67))).bind fun y208 => (if y208.length + y191.length < 8796093022208 then ((some (y208 ++ y191 : List (S67))).bind fun y211 => ((spec_AreMarks.f kj12 y211).bind fun t214 => (if t214 = true then (some (y211, true)) else ((some (([] : List (S67)) : List (S67))).bind fun y215 => (if y215.length + l0.length < 8796093022208 then (some ((y215 ++ l0), false)) else (none)))))) else (none))) else (none)))) else (none))) else (none)) else (none)))) else (none)) = some (r1, r2) := by rw [if_pos rfl] at H; exact H
        clear H
        have H := H1
        clear H1
        by_cases c20 : 1 ≤ (y186.length : Int)
        ·
         rw [if_pos c20] at H
         have c20b0 := eq_true c20
         have c20b1 : decide (1 ≤ (y186.length : Int)) = true := decide_eq_true c20
         clear c20
         obtain ⟨y191, hy191⟩ : ∃ y_ : List (S67), y_ = (y186.drop 1) := ⟨_, rfl⟩
         replace H : ((some (([] : List (S67)) : List (S67))).bind fun y195 => (if 0 ≤ x6_2 then (if x6_2 ≤ (l0.length : Int) then ((some (l0.take (x6_2 : Int).toNat : List (S67))).bind fun y198 => (if y195.length + y198.length < 8796093022208 then ((some (y195 ++ y198 : List (S67))).bind fun y202 => ((some (([(⟨a1_0, a1_1⟩ : S67)] : List (S67)) : List (S67))).bind fun y205 => (if y202.length + y205.length < 8796093022208 then ((some (y202 ++ y205 : List (S67))).bind fun y208 => (if y208.length + y191.length < 8796093022208 then ((some (y208 ++ y191 : List (S67))).bind fun y211 => ((spec_AreMarks.f kj12 y211).bind fun t214 => (if t214 = true then (some (y211, true)) else ((some (([] : List (S67)) : List (S67))).bind fun y215 => (if y215.length + l0.length < 8796093022208 then (some ((y215 ++ l0), false)) else (none)))))) else (none))) else (none)))) else (none))) else (none)) else (none))) = some (r1, r2) := by first | (rw [hy191]; with_reducible exact H) | (have H2_ := (Option.bind_some _ _).symm.trans H; rw [hy191]; with_reducible exact H2_) | (have H2_ := (Option.bind_some _ _).symm.trans H; with_reducible exact H2_) | with_reducible exact H | (rw [hy191]; exact H) | exact H
         have Ny191 := Aside0.mk hy191
         clear hy191
         obtain ⟨y195, hy195⟩ : ∃ y_ : List (S67), y_ = (([] : List (S67))) := ⟨_, rfl⟩
         replace H : (if 0 ≤ x6_2 then (if x6_2 ≤ (l0.length : Int) then ((some (l0.take (x6_2 : Int).toNat : List (S67))).bind fun y198 => (if y195.length + y198.length < 8796093022208 then ((some (y195 ++ y198 : List (S67))).bind fun y202 => ((some (([(⟨a1_0, a1_1⟩ : S67)] : List (S67)) : List (S67))).bind fun y205 => (if y202.length + y205.length < 8796093022208 then ((some (y202 ++ y205 : List (S67))).bind fun y208 => (if y208.length + y191.length < 8796093022208 then ((some (y208 ++ y191 : List (S67))).bind fun y211 => ((spec_AreMarks.f kj12 y211).bind fun t214 => (if t214 = true then (some (y211, true)) else ((some (([] : List (S67)) : List (S67))).bind fun y215 => (if y215.length + l0.length < 8796093022208 then (some ((y215 ++ l0), false)) else (none)))))) else (none))) else (none)))) else (none))) else (none)) else (none)) = some (r1, r2) := by first | (rw [hy195]; with_reducible exact H) | (have H2_ := (Option.bind_some _ _).symm.trans H; rw [hy195]; with_reducible exact H2_) | (have H2_ := (Option.bind_some _ _).symm.trans H; with_reducible exact H2_) | with_reducible exact H | (rw [hy195]; exact H) | exact H
         have Ny195 := Aside0.mk hy195
         clear hy195
         by_cases c21 : 0 ≤ x6_2
         ·
          rw [if_pos c21] at H
          have c21b0 := eq_true c21
          have c21b1 : decide (0 ≤ x6_2) = true := decide_eq_true c21
          clear c21
          by_cases c22 : x6_2 ≤ (l0.length : Int)
          ·
           rw [if_pos c22] at H
           have c22b0 := eq_true c22
           have c22b1 : decide (x6_2 ≤ (l0.length : Int)) = true := decide_eq_true c22
           clear c22
           obtain ⟨y198, hy198⟩ : ∃ y_ : List (S67), y_ = (l0.take (x6_2 : Int).toNat) := ⟨_, rfl⟩
           replace H : (if y195.length + y198.length < 8796093022208 then ((some (y195 ++ y198 : List (S67))).bind fun y202 => ((some (([(⟨a1_0, a1_1⟩ : S67)] : List (S67)) : List (S67))).bind fun y205 => (if y202.length + y205.length < 8796093022208 then ((some (y202 ++ y205 : List (S67))).bind fun y208 => (if y208.length + y191.length < 8796093022208 then ((some (y208 ++ y191 : List (S67))).bind fun y211 => ((spec_AreMarks.f kj12 y211).bind fun t214 => (if t214 = true then (some (y211, true)) else ((some (([] : List (S67)) : List (S67))).bind fun y215 => (if y215.length + l0.length < 8796093022208 then (some ((y215 ++ l0), false)) else (none)))))) else (none))) else (none)))) else (none)) = some (r1, r2) := by first | (rw [hy198]; with_reducible exact H) | (have H2_ := (Option.bind_some _ _).symm.trans H; rw [hy198]; with_reducible exact H2_) | (have H2_ := (Option.bind_some _ _).symm.trans H; with_reducible exact H2_) | with_reducible exact H | (rw [hy198]; exact H) | exact H
           have Ny198 := Aside0.mk hy198
           clear hy198
           by_cases c23 : y195.length + y198.length < 8796093022208
           ·
            rw [if_pos c23] at H
            have LMc23 := Aside0.mk c23
            clear c23
            obtain ⟨y202, hy202⟩ : ∃ y_ : List (S67), y_ = (y195 ++ y198) := ⟨_, rfl⟩
            replace H : ((some (([(⟨a1_0, a1_1⟩ : S67)] : List (S67)) : List (S67))).bind fun y205 => (if y202.length + y205.length < 8796093022208 then ((some (y202 ++ y205 : List (S67))).bind fun y208 => (if y208.length + y191.length < 8796093022208 then ((some (y208 ++ y191 : List (S67))).bind fun y211 => ((spec_AreMarks.f kj12 y211).bind fun t214 => (if t214 = true then (some (y211, true)) else ((some (([] : List (S67)) : List (S67))).bind fun y215 => (if y215.length + l0.length < 8796093022208 then (some ((y215 ++ l0), false)) else (none)))))) else (none))) else (none))) = some (r1, r2) := by first | (rw [hy202]; with_reducible exact H) | (have H2_ := (Option.bind_some _ _).symm.trans H; rw [hy202]; with_reducible exact H2_) | (have H2_ := (Option.bind_some _ _).symm.trans H; with_reducible exact H2_) | with_reducible exact H | (rw [hy202]; exact H) | exact H
            have Ny202 := Aside0.mk hy202
            clear hy202
            obtain ⟨y205, hy205⟩ : ∃ y_ : List (S67), y_ = (([(⟨a1_0, a1_1⟩ : S67)] : List (S67))) := ⟨_, rfl⟩
            replace H : (if y202.length + y205.length < 8796093022208 then ((some (y202 ++ y205 : List (S67))).bind fun y208 => (if y208.length + y191.length < 8796093022208 then ((some (y208 ++ y191 : List (S67))).bind fun y211 => ((spec_AreMarks.f kj12 y211).bind fun t214 => (if t214 = true then (some (y211, true)) else ((some (([] : List (S67)) : List (S67))).bind fun y215 => (if y215.length + l0.length < 8796093022208 then (some ((y215 ++ l0), false)) else (none)))))) else (none))) else (none)) = some (r1, r2) := by first | (rw [hy205]; with_reducible exact H) | (have H2_ := (Option.bind_some _ _).symm.trans H; rw [hy205]; with_reducible exact H2_) | (have H2_ := (Option.bind_some _ _).symm.trans H; with_reducible exact H2_) | with_reducible exact H | (rw [hy205]; exact H) | exact H
            have Ny205 := Aside0.mk hy205
            clear hy205
            by_cases c24 : y202.length + y205.length < 8796093022208
            ·
             rw [if_pos c24] at H
             have LMc24 := Aside0.mk c24
             clear c24
             obtain ⟨y208, hy208⟩ : ∃ y_ : List (S67), y_ = (y202 ++ y205) := ⟨_, rfl⟩
             replace H : (if y208.length + y191.length < 8796093022208 then ((some (y208 ++ y191 : List (S67))).bind fun y211 => ((spec_AreMarks.f kj12 y211).bind fun t214 => (if t214 = true then (some (y211, true)) else ((some (([] : List (S67)) : List (S67))).bind fun y215 => (if y215.length + l0.length < 8796093022208 then (some ((y215 ++ l0), false)) else (none)))))) else (none)) = some (r1, r2) := by first | (rw [hy208]; with_reducible exact H) | (have H2_ := (Option.bind_some _ _).symm.trans H; rw [hy208]; with_reducible exact H2_) | (have H2_ := (Option.bind_some _ _).symm.trans H; with_reducible exact H2_) | with_reducible exact H | (rw [hy208]; exact H) | exact H
             have Ny208 := Aside0.mk hy208
             clear hy208
             by_cases c25 : y208.length + y191.length < 8796093022208
             ·
              rw [if_pos c25] at H
              have LMc25 := Aside0.mk c25
              clear c25
              obtain ⟨y211, hy211⟩ : ∃ y_ : List (S67), y_ = (y208 ++ y191) := ⟨_, rfl⟩
              replace H : ((spec_AreMarks.f kj12 y211).bind fun t214 => (if t214 = true then (some (y211, true)) else ((some (([] : List (S67)) : List (S67))).bind fun y215 => (if y215.length + l0.length < 8796093022208 then (some ((y215 ++ l0), false)) else (none))))) = some (r1, r2) := by first | (rw [hy211]; with_reducible exact H) | (have H2_ := (Option.bind_some _ _).symm.trans H; rw [hy211]; with_reducible exact H2_) | (have H2_ := (Option.bind_some _ _).symm.trans H; with_reducible exact H2_) | with_reducible exact H | (rw [hy211]; exact H) | exact H
              have Ny211 := Aside0.mk hy211
              clear hy211
              replace H := Option.bind_eq_some_iff.mp H
              obtain ⟨t214, A260, H⟩ := H
              replace H : (if t214 = true then (some (y211, true)) else ((some (([] : List (S67)) : List (S67))).bind fun y215 => (if y215.length + l0.length < 8796093022208 then (some ((y215 ++ l0), false)) else (none)))) = some (r1, r2) := H
              have A26 := Aside0.mk A260
              clear A260
              by_cases c27 : t214 = true
              ·
               subst c27
               have H1 : (some (y211, true)) = some (r1, r2) := by rw [if_pos rfl] at H; exact H
               clear H
               have H := H1
               clear H1
               simp only [Option.some.injEq, Prod.mk.injEq] at H
               obtain ⟨rfl, rfl⟩ := H
               have q28 : (1 : Int) ≤ ((y186.length : Int) : Int) := of_decide_eq_true as_
               obtain ⟨i028, hi028, _, hsz28, _⟩ := info_parts info67
               have hroom28 : y186.length ≤ c14 := HC189.out
               have hC28 : Kd.C k67 _ A14 y186.length y186 := HR189.out
               have hcut28 := cut_from (P := Try.prog) 34 67 .i64 Try.underlying34 hi028 2 hsz28 A14 y186.length c14 1 (by omega) q28
               have hr28 := Kd.C_drop (m := (1 : Int).toNat) (c := c14) hC28 (by omega) hroom28
               obtain ⟨A28, hA28⟩ : ∃ A1, A1 = (if c14 = (1 : Int).toNat then A14 else (A14 : Option Addr).map (·.add ((1 : Int).toNat * 2))) := ⟨_, rfl⟩
               obtain ⟨c28, hc28⟩ : ∃ c1, c1 = c14 - (1 : Int).toNat := ⟨_, rfl⟩
               have hy28 : y191.length = y186.length - (1 : Int).toNat := (by rw [Ny191.out, List.length_drop] <;> omega)
               rw [show (y186).drop (1 : Int).toNat = y191 from Ny191.out.symm] at hr28
               replace hr28 : Kd.C k67 _ A28 y191.length y191 := (by rw [hA28]; exact hr28)
               rw [← hy28, ← hA28, ← hc28] at hcut28
               have HR194 := Aside0.mk hr28
               have HC194 := Aside0.mk (show y191.length ≤ c28 from by rw [hy28, hc28]; exact Nat.sub_le_sub_right hroom28 _)
               clear hr28 hC28 hroom28 hi028 hsz28 hc28
               have KY28 := Aside0.mk hy28
               have KA28 := Aside0.mk hA28
               clear hy28 hA28
               replace q28 := eq_true q28
               try go_wp2
               have n0_ := Aside0.mk (blk_drew BK184.out)
               have n1_ := Aside0.mk (below_drew1 HB.out)
               clear BK184
               clear HB
               have BK184 := n0_
               have HB := n1_
               clear n0_ n1_
               have q30 : (x6_2 : Int) ≤ ((l0.length : Int) : Int) := of_decide_eq_true as_
               obtain ⟨i030, hi030, _, hsz30, _⟩ := info_parts info67
               have hroom30 : l0.length ≤ c0 := HC0.out
               have hC30 : Kd.C k67 _ A0 l0.length l0 := HR0.out
               have hcut30 := cut_to (P := Try.prog) 34 67 .i64 Try.underlying34 hi030 A0 l0.length c0 x6_2 (of_decide_eq_true as_) q30 hroom30
               have hr30 := Kd.C_take (m := (x6_2 : Int).toNat) hC30 (by omega)
               have hy30 : y198.length = (x6_2 : Int).toNat := (by rw [Ny198.out, List.length_take]; omega)
               rw [← Ny198.out] at hr30
               rw [← hy30] at hcut30
               have HR201 := Aside0.mk hr30
               have HC201 := Aside0.mk (show y198.length ≤ c0 from by omega)
               clear hr30 hC30 hroom30 hi030 hsz30
               have KY30 := Aside0.mk hy30
               clear hy30
               replace q30 := eq_true q30
               refine start_ (n := 11) (S := fun w' => w'.cell? ⟨gb184, 0, none⟩ = some (.int .i64 a1_0) ∧ w'.cell? ⟨gb184, 1, none⟩ = some (.int .i64 a1_1)) (ds := []) M3_30 (by kernel_rfl) rfl rfl ⟨(blk_cell BK184.out 0).trans rfl, (blk_cell BK184.out 1).trans rfl⟩ (fun hHeld => ?_); refine with_tabW spec_PutMark.tab7 spec_PutMark.bits7 (fun HT_ HW_ => ?_)
               generalize wc.drew = w29 at BK184 HB HR201 hHeld ⊢
               refine pu_ 1 (some 43) M3_31 HT_ ?_
               refine pu_ 2 (some 44) M3_32 HT_ ?_
               refine pu_ 3 (some 45) M3_33 HT_ ?_
               refine pu_ 8 (some 50) M3_34 HT_ ?_
               refine tk_ 5 (some 47) M3_35 HT_ HW_ hHeld ?_
               refine join_ (σ := Value × Value × Value) 3 M3_36 (fun s_ => [(42, s_.1), (46, s_.2.1), (48, s_.2.2)]) (fun s_ w' => (w'.cell? ⟨gb184, 0, none⟩ = some (.int .i64 a1_0) ∧ w'.cell? ⟨gb184, 1, none⟩ = some (.int .i64 a1_1)) ∧ (Kd.R k67 67 w' w.heap.size (fun k_ => some k_ ≠ (s_.2.2 : Value).ownBlock ∧ k_ ≠ gb184) s_.2.1 y202) ∧ (Kd.R k67 67 w' w.heap.size (fun k_ => some k_ ≠ (s_.2.1 : Value).ownBlock ∧ k_ ≠ gb184) s_.2.2 y205) ∧ (w'.heap[gb184]? = some (.cells #[.int .i64 a1_0, .int .i64 a1_1] 67 (0, 0))) ∧ (Below w.heap.size w w')) ?_ ?_
               rotate_left
               ·
                intro hCont
                refine two_ (i := 0) (j := 6) (Ni := some 42) (Nj := some 48) M3_37 M3_38 rfl rfl rfl rfl (two_of HT_.out (by kernel_rfl)) (by decide) (by decide) (fun K hK => ?_) (fun K hK => ?_)
                ·
                 skip
                 refine Kd.R_lit_step k67 _ 67 ?hg (N := 42) ?hd (xs := ([] : List (S67))) (inner := []) (ok := fun _ => True) (okp := fun _ => True) ?hr ?hp (fun _ hk => hk) trivial (Below.refl _ _) (Nat.le_refl _) (by simp) ?_; (case hd => rfl); (case hg => rfl); (case hr => first | (go_simp; done) | (go_simp; rfl)); (case hp => exact (Reps.none _ _))
                 intro v196 w31 ho32 hb hg_ hnew_
                 clear hg_ hnew_
                 (first | rw [← Ny195.out] at ho32 | (simp only [Int.reduceToNat] at ho32; rw [← Ny195.out] at ho32))
                 have HO197 := Aside0.mk (Kd.R_lower (Kd.R_newB ho32 (g := gb184) (o := .cells #[.int .i64 a1_0, .int .i64 a1_1] 67 (0, 0)) (bd_ BK184.out)) (below_size y52_))
                 have n1_ := Aside0.mk (blk_below (bd_ BK184.out) hb)
                 have n2_ := Aside0.mk (below_step y52_ hb)
                 clear BK184
                 clear HB
                 have BK184 := n1_
                 have HB := n2_
                 clear n1_ n2_
                 clear hb ho32
                 refine hK.out _ _ ⟨(blk_cell BK184.out 0).trans rfl, (blk_cell BK184.out 1).trans rfl⟩ (fun hHeld => ?_)
                 clear hK K
                 refine norm_ (a' := ?_) ?_ ?_
                 rotate_left
                 ·
                  show Act.put _ (some 42) _ = _
                  simp only [Act.put, P3_1, P3_2, P3_3, i64_w, i32_w]
                  rfl
                 refine two_ (i := 4) (j := 6) (Ni := some 46) (Nj := some 48) M3_39 M3_40 rfl rfl rfl rfl (two_of HT_.out (by kernel_rfl)) (by decide) (by decide) (fun K hK => ?_) (fun K hK => ?_)
                 ·
                  skip
                  refine Kd.R_append_rows_step k67 (w0 := w) w.heap.size (by rfl) (.tmp 42) (.tmp 45) 34 67 (.agg #[(.int .i64 0), (.int .i64 0)]) 16 rfl Try.underlying34 info67 rfl (by decide) (by omega) v196 y195 y198 _ _ _ (fun k_ => k_ ≠ gb184) (fun _ => False) rfl rfl ?aO ?aR (fun _ _ h => h) (fun _ h => h.elim) ?aF ?aB ?aS ?aL ?_
                  (case aR => repeat (first | exact (Kd.C_below HR201.out HB.out) | (with_reducible refine Kd.C_alloc ?_ _) | (with_reducible refine Kd.C_drewN ?_ _) | (with_reducible refine Kd.C_drew ?_)))
                  (case aB => exact y52_)
                  (case aF => exact (fun k_ hk => Kd.freshB (g := gb184) (o := .cells #[.int .i64 a1_0, .int .i64 a1_1] 67 (0, 0)) (bd_ BK184.out) k_ hk))
                  (case aO => exact (by (with_reducible repeat (first | apply Kd.R_alloc | apply Kd.R_drewN | apply Kd.R_drew)); exact Kd.R_mono HO197.out (fun _ hk => hk.2)))
                  (case aS => exact (below_size y52_))
                  (case aL => have := LMc23.out; omega)
                  intro v203 w33 ho hb hg hat
                  rw [← Ny202.out] at ho
                  have n0_ := Aside0.mk (blk_grown (g := gb184) (o := .cells #[.int .i64 a1_0, .int .i64 a1_1] 67 (0, 0)) (bd_ BK184.out) hg (Kd.R_away HO197.out (fun _ hk => hk.2)))
                  have n1_ := Aside0.mk (hb)
                  have HO204 := Aside0.mk (ho)
                  clear BK184
                  clear HB
                  clear HO197
                  have BK184 := n0_
                  have HB := n1_
                  clear n0_ n1_
                  clear ho hb hg hat
                  refine hK.out _ _ ⟨(blk_cell BK184.out 0).trans rfl, (blk_cell BK184.out 1).trans rfl⟩ (fun hHeld => ?_)
                  clear hK K
                  refine norm_ (a' := ?_) ?_ ?_
                  rotate_left
                  ·
                   show Act.put _ (some 46) _ = _
                   simp only [Act.put, P3_1, P3_2, P3_3, i64_w, i32_w]
                   rfl
                  refine one_ (i := 6) (N := some 48) M3_36 rfl rfl (one_of HT_.out (by kernel_rfl)) (by decide) (fun K hK => ?_)
                  refine Kd.R_lit_step k67 _ 67 ?hg (N := 48) ?hd (xs := ([(⟨a1_0, a1_1⟩ : S67)] : List (S67))) (inner := [.int .i64 a1_0, .int .i64 a1_1]) (ok := fun _ => True) (okp := fun _ => True) ?hr ?hp (fun _ hk => hk) trivial (Below.refl _ _) (Nat.le_refl _) (by simp) ?_; (case hd => rfl); (case hg => rfl); (case hr => first | (go_simp; done) | (go_simp; rfl)); (case hp => exact (Reps.c2 (show Kd.M k67 _ _ _ (⟨a1_0, a1_1⟩ : S67) [.int .i64 a1_0, .int .i64 a1_1] from (k67_mkM _ _ _ (⟨a1_0, a1_1⟩ : S67) )) (Reps.none _ _)))
                  intro v206 w34 ho35 hb hg_ hnew_
                  clear hg_ hnew_
                  (first | rw [← Ny205.out] at ho35 | (simp only [Int.reduceToNat] at ho35; rw [← Ny205.out] at ho35))
                  have n0_ := Aside0.mk (Kd.R_elder' (rd_ HO204.out) (Kd.R_base ho35) hb)
                  have HO207 := Aside0.mk (Kd.R_lower (Kd.R_newB (Kd.R_new' ho35 (Kd.R_lt (rd_ HO204.out))) (g := gb184) (o := .cells #[.int .i64 a1_0, .int .i64 a1_1] 67 (0, 0)) (bd_ BK184.out)) (below_size y52_))
                  have n2_ := Aside0.mk (blk_below (bd_ BK184.out) hb)
                  have n3_ := Aside0.mk (below_step y52_ hb)
                  clear HO204
                  clear BK184
                  clear HB
                  have HO204 := n0_
                  have BK184 := n2_
                  have HB := n3_
                  clear n0_ n2_ n3_
                  clear hb ho35
                  refine hK.out _ _ ⟨(blk_cell BK184.out 0).trans rfl, (blk_cell BK184.out 1).trans rfl⟩ (fun hHeld => ?_)
                  clear hK K
                  refine norm_ (a' := ?_) ?_ ?_
                  rotate_left
                  ·
                   show Act.put _ (some 48) _ = _
                   simp only [Act.put, P3_1, P3_2, P3_3, i64_w, i32_w]
                   rfl
                  exact norm_ y57_ (hCont (v196, v203, v206) _ ⟨hHeld, (by (with_reducible repeat (first | apply Kd.R_alloc | apply Kd.R_drewN | apply Kd.R_drew)); exact Kd.R_mono HO204.out (fun _ hk => ⟨hk.2, hk.1⟩)), y65_, bd_ BK184.out, y52_⟩)
                 ·
                  skip
                  refine Kd.R_lit_step k67 _ 67 ?hg (N := 48) ?hd (xs := ([(⟨a1_0, a1_1⟩ : S67)] : List (S67))) (inner := [.int .i64 a1_0, .int .i64 a1_1]) (ok := fun _ => True) (okp := fun _ => True) ?hr ?hp (fun _ hk => hk) trivial (Below.refl _ _) (Nat.le_refl _) (by simp) ?_; (case hd => rfl); (case hg => rfl); (case hr => first | (go_simp; done) | (go_simp; rfl)); (case hp => exact (Reps.c2 (show Kd.M k67 _ _ _ (⟨a1_0, a1_1⟩ : S67) [.int .i64 a1_0, .int .i64 a1_1] from (k67_mkM _ _ _ (⟨a1_0, a1_1⟩ : S67) )) (Reps.none _ _)))
                  intro v206 w33 ho34 hb hg_ hnew_
                  clear hg_ hnew_
                  (first | rw [← Ny205.out] at ho34 | (simp only [Int.reduceToNat] at ho34; rw [← Ny205.out] at ho34))
                  have n0_ := Aside0.mk (Kd.R_elder' (rd_ HO197.out) (Kd.R_base ho34) hb)
                  have HO207 := Aside0.mk (Kd.R_lower (Kd.R_newB (Kd.R_new' ho34 (Kd.R_lt (rd_ HO197.out))) (g := gb184) (o := .cells #[.int .i64 a1_0, .int .i64 a1_1] 67 (0, 0)) (bd_ BK184.out)) (below_size y52_))
                  have n2_ := Aside0.mk (blk_below (bd_ BK184.out) hb)
                  have n3_ := Aside0.mk (below_step y52_ hb)
                  clear HO197
                  clear BK184
                  clear HB
                  have HO197 := n0_
                  have BK184 := n2_
                  have HB := n3_
                  clear n0_ n2_ n3_
                  clear hb ho34
                  refine hK.out _ _ ⟨(blk_cell BK184.out 0).trans rfl, (blk_cell BK184.out 1).trans rfl⟩ (fun hHeld => ?_)
                  clear hK K
                  refine norm_ (a' := ?_) ?_ ?_
                  rotate_left
                  ·
                   show Act.put _ (some 48) _ = _
                   simp only [Act.put, P3_1, P3_2, P3_3, i64_w, i32_w]
                   rfl
                  refine one_ (i := 4) (N := some 46) M3_36 rfl rfl (one_of HT_.out (by kernel_rfl)) (by decide) (fun K hK => ?_)
                  refine Kd.R_append_rows_step k67 (w0 := w) w.heap.size (by rfl) (.tmp 42) (.tmp 45) 34 67 (.agg #[(.int .i64 0), (.int .i64 0)]) 16 rfl Try.underlying34 info67 rfl (by decide) (by omega) v196 y195 y198 _ _ _ (fun k_ => some k_ ≠ (v206 : Value).ownBlock ∧ k_ ≠ gb184) (fun _ => False) rfl rfl ?aO ?aR (fun _ _ h => h) (fun _ h => h.elim) ?aF ?aB ?aS ?aL ?_
                  (case aR => repeat (first | exact (Kd.C_below HR201.out HB.out) | (with_reducible refine Kd.C_alloc ?_ _) | (with_reducible refine Kd.C_drewN ?_ _) | (with_reducible refine Kd.C_drew ?_)))
                  (case aB => exact y52_)
                  (case aF => exact (fun k_ hk => ⟨Kd.fresh' (Kd.R_lt (rd_ HO207.out)) k_ hk, Kd.freshB (g := gb184) (o := .cells #[.int .i64 a1_0, .int .i64 a1_1] 67 (0, 0)) (bd_ BK184.out) k_ hk⟩))
                  (case aO => exact (by (with_reducible repeat (first | apply Kd.R_alloc | apply Kd.R_drewN | apply Kd.R_drew)); exact Kd.R_mono HO197.out (fun _ hk => ⟨hk.2, hk.1.2⟩)))
                  (case aS => exact (below_size y52_))
                  (case aL => have := LMc23.out; omega)
                  intro v203 w35 ho hb hg hat
                  rw [← Ny202.out] at ho
                  have n0_ := Aside0.mk (blk_grown (g := gb184) (o := .cells #[.int .i64 a1_0, .int .i64 a1_1] 67 (0, 0)) (bd_ BK184.out) hg (Kd.R_away HO197.out (fun _ hk => hk.1.2)))
                  have n1_ := Aside0.mk (Kd.R_after (ok := (fun k_ => k_ ≠ gb184)) (by (with_reducible repeat (first | apply Kd.R_alloc | apply Kd.R_drewN | apply Kd.R_drew)); exact Kd.R_mono HO207.out (fun _ hk => ⟨hk.2, hk.1.2⟩)) hg hat)
                  have n2_ := Aside0.mk (hb)
                  have HO204 := Aside0.mk (ho)
                  clear BK184
                  clear HO207
                  clear HB
                  clear HO197
                  have BK184 := n0_
                  have HO207 := n1_
                  have HB := n2_
                  clear n0_ n1_ n2_
                  clear ho hb hg hat
                  refine hK.out _ _ ⟨(blk_cell BK184.out 0).trans rfl, (blk_cell BK184.out 1).trans rfl⟩ (fun hHeld => ?_)
                  clear hK K
                  refine norm_ (a' := ?_) ?_ ?_
                  rotate_left
                  ·
                   show Act.put _ (some 46) _ = _
                   simp only [Act.put, P3_1, P3_2, P3_3, i64_w, i32_w]
                   rfl
                  exact norm_ y57_ (hCont (v196, v203, v206) _ ⟨hHeld, rd_ HO204.out, y61_, bd_ BK184.out, y52_⟩)
                ·
                 skip
                 refine Kd.R_lit_step k67 _ 67 ?hg (N := 48) ?hd (xs := ([(⟨a1_0, a1_1⟩ : S67)] : List (S67))) (inner := [.int .i64 a1_0, .int .i64 a1_1]) (ok := fun _ => True) (okp := fun _ => True) ?hr ?hp (fun _ hk => hk) trivial (Below.refl _ _) (Nat.le_refl _) (by simp) ?_; (case hd => rfl); (case hg => rfl); (case hr => first | (go_simp; done) | (go_simp; rfl)); (case hp => exact (Reps.c2 (show Kd.M k67 _ _ _ (⟨a1_0, a1_1⟩ : S67) [.int .i64 a1_0, .int .i64 a1_1] from (k67_mkM _ _ _ (⟨a1_0, a1_1⟩ : S67) )) (Reps.none _ _)))
                 intro v206 w31 ho32 hb hg_ hnew_
                 clear hg_ hnew_
                 (first | rw [← Ny205.out] at ho32 | (simp only [Int.reduceToNat] at ho32; rw [← Ny205.out] at ho32))
                 have HO207 := Aside0.mk (Kd.R_lower (Kd.R_newB ho32 (g := gb184) (o := .cells #[.int .i64 a1_0, .int .i64 a1_1] 67 (0, 0)) (bd_ BK184.out)) (below_size y52_))
                 have n1_ := Aside0.mk (blk_below (bd_ BK184.out) hb)
                 have n2_ := Aside0.mk (below_step y52_ hb)
                 clear BK184
                 clear HB
                 have BK184 := n1_
                 have HB := n2_
                 clear n1_ n2_
                 clear hb ho32
                 refine hK.out _ _ ⟨(blk_cell BK184.out 0).trans rfl, (blk_cell BK184.out 1).trans rfl⟩ (fun hHeld => ?_)
                 clear hK K
                 refine norm_ (a' := ?_) ?_ ?_
                 rotate_left
                 ·
                  show Act.put _ (some 48) _ = _
                  simp only [Act.put, P3_1, P3_2, P3_3, i64_w, i32_w]
                  rfl
                 refine one_ (i := 0) (N := some 42) M3_40 rfl rfl (one_of HT_.out (by kernel_rfl)) (by decide) (fun K hK => ?_)
                 refine Kd.R_lit_step k67 _ 67 ?hg (N := 42) ?hd (xs := ([] : List (S67))) (inner := []) (ok := fun _ => True) (okp := fun _ => True) ?hr ?hp (fun _ hk => hk) trivial (Below.refl _ _) (Nat.le_refl _) (by simp) ?_; (case hd => rfl); (case hg => rfl); (case hr => first | (go_simp; done) | (go_simp; rfl)); (case hp => exact (Reps.none _ _))
                 intro v196 w33 ho34 hb hg_ hnew_
                 clear hg_ hnew_
                 (first | rw [← Ny195.out] at ho34 | (simp only [Int.reduceToNat] at ho34; rw [← Ny195.out] at ho34))
                 have n0_ := Aside0.mk (Kd.R_elder' (rd_ HO207.out) (Kd.R_base ho34) hb)
                 have HO197 := Aside0.mk (Kd.R_lower (Kd.R_newB (Kd.R_new' ho34 (Kd.R_lt (rd_ HO207.out))) (g := gb184) (o := .cells #[.int .i64 a1_0, .int .i64 a1_1] 67 (0, 0)) (bd_ BK184.out)) (below_size y52_))
                 have n2_ := Aside0.mk (blk_below (bd_ BK184.out) hb)
                 have n3_ := Aside0.mk (below_step y52_ hb)
                 clear HO207
                 clear BK184
                 clear HB
                 have HO207 := n0_
                 have BK184 := n2_
                 have HB := n3_
                 clear n0_ n2_ n3_
                 clear hb ho34
                 refine hK.out _ _ ⟨(blk_cell BK184.out 0).trans rfl, (blk_cell BK184.out 1).trans rfl⟩ (fun hHeld => ?_)
                 clear hK K
                 refine norm_ (a' := ?_) ?_ ?_
                 rotate_left
                 ·
                  show Act.put _ (some 42) _ = _
                  simp only [Act.put, P3_1, P3_2, P3_3, i64_w, i32_w]
                  rfl
                 refine one_ (i := 4) (N := some 46) M3_36 rfl rfl (one_of HT_.out (by kernel_rfl)) (by decide) (fun K hK => ?_)
                 refine Kd.R_append_rows_step k67 (w0 := w) w.heap.size (by rfl) (.tmp 42) (.tmp 45) 34 67 (.agg #[(.int .i64 0), (.int .i64 0)]) 16 rfl Try.underlying34 info67 rfl (by decide) (by omega) v196 y195 y198 _ _ _ (fun k_ => some k_ ≠ (v206 : Value).ownBlock ∧ k_ ≠ gb184) (fun _ => False) rfl rfl ?aO ?aR (fun _ _ h => h) (fun _ h => h.elim) ?aF ?aB ?aS ?aL ?_
                 (case aR => repeat (first | exact (Kd.C_below HR201.out HB.out) | (with_reducible refine Kd.C_alloc ?_ _) | (with_reducible refine Kd.C_drewN ?_ _) | (with_reducible refine Kd.C_drew ?_)))
                 (case aB => exact y52_)
                 (case aF => exact (fun k_ hk => ⟨Kd.fresh' (Kd.R_lt (rd_ HO207.out)) k_ hk, Kd.freshB (g := gb184) (o := .cells #[.int .i64 a1_0, .int .i64 a1_1] 67 (0, 0)) (bd_ BK184.out) k_ hk⟩))
                 (case aO => exact (by (with_reducible repeat (first | apply Kd.R_alloc | apply Kd.R_drewN | apply Kd.R_drew)); exact Kd.R_mono HO197.out (fun _ hk => ⟨hk.1.2, hk.2⟩)))
                 (case aS => exact (below_size y52_))
                 (case aL => have := LMc23.out; omega)
                 intro v203 w35 ho hb hg hat
                 rw [← Ny202.out] at ho
                 have n0_ := Aside0.mk (blk_grown (g := gb184) (o := .cells #[.int .i64 a1_0, .int .i64 a1_1] 67 (0, 0)) (bd_ BK184.out) hg (Kd.R_away HO197.out (fun _ hk => hk.2)))
                 have n1_ := Aside0.mk (Kd.R_after (ok := (fun k_ => k_ ≠ gb184)) y65_ hg hat)
                 have n2_ := Aside0.mk (hb)
                 have HO204 := Aside0.mk (ho)
                 clear BK184
                 clear HO207
                 clear HB
                 clear HO197
                 have BK184 := n0_
                 have HO207 := n1_
                 have HB := n2_
                 clear n0_ n1_ n2_
                 clear ho hb hg hat
                 refine hK.out _ _ ⟨(blk_cell BK184.out 0).trans rfl, (blk_cell BK184.out 1).trans rfl⟩ (fun hHeld => ?_)
                 clear hK K
                 refine norm_ (a' := ?_) ?_ ?_
                 rotate_left
                 ·
                  show Act.put _ (some 46) _ = _
                  simp only [Act.put, P3_1, P3_2, P3_3, i64_w, i32_w]
                  rfl
                 exact norm_ y57_ (hCont (v196, v203, v206) _ ⟨hHeld, rd_ HO204.out, y61_, bd_ BK184.out, y52_⟩)
               rintro ⟨v196, v203, v206⟩ w36 ⟨hS_, h0_, h1_, h2_, h3_⟩
               have HO204 : Aside0 (Kd.R k67 67 w36 w.heap.size (fun k_ => some k_ ≠ (v206 : Value).ownBlock ∧ k_ ≠ gb184) v203 y202) := ⟨h0_⟩
               have HO207 : Aside0 (Kd.R k67 67 w36 w.heap.size (fun k_ => some k_ ≠ (v203 : Value).ownBlock ∧ k_ ≠ gb184) v206 y205) := ⟨h1_⟩
               have n2_ : Aside0 (w36.heap[gb184]? = some (.cells #[.int .i64 a1_0, .int .i64 a1_1] 67 (0, 0))) := ⟨h2_⟩
               have n3_ : Aside0 (Below w.heap.size w w36) := ⟨h3_⟩
               clear BK184
               clear HB
               clear h0_ h1_ h2_ h3_
               have BK184 := n2_
               have HB := n3_
               clear n2_ n3_
               have hHeld : w36.cell? ⟨gb184, 0, none⟩ = some (.int .i64 a1_0) ∧ w36.cell? ⟨gb184, 1, none⟩ = some (.int .i64 a1_1) := hS_
               obtain ⟨Ao38, co38, eo38⟩ := Kd.R_slice HO207.out
               (first | subst eo38 | (injection eo38 with f1_ f2_ f3_; have f4_ := f1_.symm; have f5_ := f3_.symm; clear f1_ f2_ f3_; subst f4_; subst f5_))
               refine norm_ (a' := ?_) ?_ ?_
               rotate_left
               ·
                simp only [putAll, Act.put, List.setIfInBounds_toArray, List.set_cons_zero, List.set_cons_succ]
                rfl
               refine one_ (i := 7) (N := some 49) M3_41 rfl rfl (one_of HT_.out (by kernel_rfl)) (by decide) (fun K hK => ?_)
               refine Kd.R_append_rows_step k67 (w0 := w) w.heap.size (by rfl) (.tmp 46) (.tmp 48) 34 67 (.agg #[(.int .i64 0), (.int .i64 0)]) 16 rfl Try.underlying34 info67 rfl (by decide) (by omega) v203 y202 y205 _ _ _ (fun k_ => some k_ ≠ (.slice Ao38 y205.length co38 : Value).ownBlock ∧ k_ ≠ gb184) (fun _ => False) rfl rfl ?aO ?aR (fun _ _ h => h) (fun _ h => h.elim) ?aF ?aB ?aS ?aL ?_
               (case aR => repeat (first | exact (Kd.R_reads' HO207.out).2.2 | (with_reducible refine Kd.C_alloc ?_ _) | (with_reducible refine Kd.C_drewN ?_ _) | (with_reducible refine Kd.C_drew ?_)))
               (case aB => exact y52_)
               (case aF => exact (fun k_ hk => ⟨Kd.fresh' (Kd.R_lt (rd_ HO207.out)) k_ hk, Kd.freshB (g := gb184) (o := .cells #[.int .i64 a1_0, .int .i64 a1_1] 67 (0, 0)) (bd_ BK184.out) k_ hk⟩))
               (case aO => exact rd_ HO204.out)
               (case aS => exact (below_size y52_))
               (case aL => have := LMc24.out; omega)
               intro v209 w37 ho hb hg hat
               rw [← Ny208.out] at ho
               have n0_ := Aside0.mk (blk_grown (g := gb184) (o := .cells #[.int .i64 a1_0, .int .i64 a1_1] 67 (0, 0)) (bd_ BK184.out) hg (Kd.R_away HO204.out (fun _ hk => hk.2)))
               have n1_ := Aside0.mk (Kd.R_after (ok := (fun k_ => k_ ≠ gb184)) y61_ hg hat)
               have n2_ := Aside0.mk (hb)
               have HO210 := Aside0.mk (ho)
               clear BK184
               clear HO207
               clear HB
               clear HO204
               have BK184 := n0_
               have HO207 := n1_
               have HB := n2_
               clear n0_ n1_ n2_
               clear ho hb hg hat
               refine hK.out _ _ ⟨(blk_cell BK184.out 0).trans rfl, (blk_cell BK184.out 1).trans rfl⟩ (fun hHeld => ?_)
               clear hK K
               refine norm_ (a' := ?_) ?_ ?_
               rotate_left
               ·
                show Act.put _ (some 49) _ = _
                simp only [Act.put, P3_1, P3_2, P3_3, i64_w, i32_w]
                rfl
               refine one_ (i := 9) (N := some 51) M3_42 rfl rfl (one_of HT_.out (by kernel_rfl)) (by decide) (fun K hK => ?_)
               refine Kd.R_append_rows_step k67 (w0 := w) w.heap.size (by rfl) (.tmp 49) (.tmp 50) 34 67 (.agg #[(.int .i64 0), (.int .i64 0)]) 16 rfl Try.underlying34 info67 rfl (by decide) (by omega) v209 y208 y191 _ _ _ (fun k_ => some k_ ≠ (.slice Ao38 y205.length co38 : Value).ownBlock ∧ k_ ≠ gb184) (fun _ => False) rfl rfl ?aO ?aR (fun _ _ h => h) (fun _ h => h.elim) ?aF ?aB ?aS ?aL ?_
               (case aR => repeat (first | exact (Kd.C_below HR194.out HB.out) | (with_reducible refine Kd.C_alloc ?_ _) | (with_reducible refine Kd.C_drewN ?_ _) | (with_reducible refine Kd.C_drew ?_)))
               (case aB => exact y52_)
               (case aF => exact (fun k_ hk => ⟨Kd.fresh' (Kd.R_lt (rd_ HO207.out)) k_ hk, Kd.freshB (g := gb184) (o := .cells #[.int .i64 a1_0, .int .i64 a1_1] 67 (0, 0)) (bd_ BK184.out) k_ hk⟩))
               (case aO => exact (rd_ HO210.out))
               (case aS => exact (below_size y52_))
               (case aL => have := LMc25.out; omega)
               intro v212 w39 ho hb hg hat
               rw [← Ny211.out] at ho
               have n0_ := Aside0.mk (blk_grown (g := gb184) (o := .cells #[.int .i64 a1_0, .int .i64 a1_1] 67 (0, 0)) (bd_ BK184.out) hg (Kd.R_away HO210.out (fun _ hk => hk.2)))
               have n1_ := Aside0.mk (Kd.R_after (ok := (fun k_ => k_ ≠ gb184)) (rd_ HO207.out) hg hat)
               have n2_ := Aside0.mk (hb)
               have HO213 := Aside0.mk (ho)
               clear BK184
               clear HO207
               clear HB
               clear HO210
               have BK184 := n0_
               have HO207 := n1_
               have HB := n2_
               clear n0_ n1_ n2_
               clear ho hb hg hat
               refine hK.out _ _ ⟨(blk_cell BK184.out 0).trans rfl, (blk_cell BK184.out 1).trans rfl⟩ (fun hHeld => ?_)
               clear hK K
               refine norm_ (a' := ?_) ?_ ?_
               rotate_left
               ·
                show Act.put _ (some 51) _ = _
                simp only [Act.put, P3_1, P3_2, P3_3, i64_w, i32_w]
                rfl
               refine pu_ 10 (some 8) M3_43 HT_ ?_
               refine done_ (done_of HT_.out (by kernel_rfl)) ?_
               obtain ⟨Ao40, co40, eo40⟩ := Kd.R_slice HO213.out
               subst eo40
               try go_wp2_with (first | ((with_reducible refine gate_callee (f := 43) rfl ?_); refine goesL_ (some 53) rfl rfl Try.func43 (by kernel_rfl) rfl #[.slice Ao40 y211.length co40] rfl ma_ ?_; (with_reducible refine (spec_AreMarks.calls kj12 _ _ y211 true _ ?side1 ?side2 A26.out).mono ?_); (case side1 => exact cd_ (Kd.R_reads' HO213.out).2.2); (case side2 => exact (Kd.R_reads' HO213.out).2.1); rintro e w41 ⟨rfl, hb⟩; refine ⟨_, rfl, ?_⟩; have n0_ := Aside0.mk (Kd.R_below (rd_ HO207.out) hb); have n1_ := Aside0.mk (Kd.R_below (rd_ HO213.out) hb); have n2_ := Aside0.mk (blk_below (bd_ BK184.out) hb); have n3_ := Aside0.mk (below_step y52_ hb); clear HO207; clear HO213; clear BK184; clear HB; have HO207 := n0_; have HO213 := n1_; have BK184 := n2_; have HB := n3_; clear n0_ n1_ n2_ n3_; (try clear hb); (try clear hb2); (try clear hk); (try clear hi)))
               go_ret2
               exact ⟨_, by first | rfl | (simp [errW_none, errW_some] <;> rfl) | (simp [*, errW_none, errW_some] <;> rfl), by (with_reducible repeat (first | apply Kd.R_alloc | apply Kd.R_drewN | apply Kd.R_drew)); exact Kd.R_mono HO213.out (fun _ hk => trivial), y56_⟩
              ·
               replace c27 := Bool.eq_false_iff.mpr c27
               subst c27
               have H1 : ((some (([] : List (S67)) : List (S67))).bind fun y215 => (if y215.length + l0.length < 8796093022208 then (some ((y215 ++ l0), false)) else (none))) = some (r1, r2) := by rw [if_neg (show ¬ (false = true) by decide)] at H; exact H
               clear H
               have H := H1
               clear H1
               obtain ⟨y215, hy215⟩ : ∃ y_ : List (S67), y_ = (([] : List (S67))) := ⟨_, rfl⟩
               replace H : (if y215.length + l0.length < 8796093022208 then (some ((y215 ++ l0), false)) else (none)) = some (r1, r2) := by first | (rw [hy215]; with_reducible exact H) | (have H2_ := (Option.bind_some _ _).symm.trans H; rw [hy215]; with_reducible exact H2_) | (have H2_ := (Option.bind_some _ _).symm.trans H; with_reducible exact H2_) | with_reducible exact H | (rw [hy215]; exact H) | exact H
               have Ny215 := Aside0.mk hy215
               clear hy215
               by_cases c42 : y215.length + l0.length < 8796093022208
               ·
                rw [if_pos c42] at H
                have LMc42 := Aside0.mk c42
                clear c42
                obtain ⟨y218, hy218⟩ : ∃ y_ : List (S67), y_ = (y215 ++ l0) := ⟨_, rfl⟩
                replace H : (some (y218, false)) = some (r1, r2) := by first | (rw [hy218]; with_reducible exact H) | (have H2_ := (Option.bind_some _ _).symm.trans H; rw [hy218]; with_reducible exact H2_) | (have H2_ := (Option.bind_some _ _).symm.trans H; with_reducible exact H2_) | with_reducible exact H | (rw [hy218]; exact H) | exact H
                have Ny218 := Aside0.mk hy218
                clear hy218
                simp only [Option.some.injEq, Prod.mk.injEq] at H
                obtain ⟨rfl, rfl⟩ := H
                have q43 : (1 : Int) ≤ ((y186.length : Int) : Int) := of_decide_eq_true as_
                obtain ⟨i043, hi043, _, hsz43, _⟩ := info_parts info67
                have hroom43 : y186.length ≤ c14 := HC189.out
                have hC43 : Kd.C k67 _ A14 y186.length y186 := HR189.out
                have hcut43 := cut_from (P := Try.prog) 34 67 .i64 Try.underlying34 hi043 2 hsz43 A14 y186.length c14 1 (by omega) q43
                have hr43 := Kd.C_drop (m := (1 : Int).toNat) (c := c14) hC43 (by omega) hroom43
                obtain ⟨A43, hA43⟩ : ∃ A1, A1 = (if c14 = (1 : Int).toNat then A14 else (A14 : Option Addr).map (·.add ((1 : Int).toNat * 2))) := ⟨_, rfl⟩
                obtain ⟨c43, hc43⟩ : ∃ c1, c1 = c14 - (1 : Int).toNat := ⟨_, rfl⟩
                have hy43 : y191.length = y186.length - (1 : Int).toNat := (by rw [Ny191.out, List.length_drop] <;> omega)
                rw [show (y186).drop (1 : Int).toNat = y191 from Ny191.out.symm] at hr43
                replace hr43 : Kd.C k67 _ A43 y191.length y191 := (by rw [hA43]; exact hr43)
                rw [← hy43, ← hA43, ← hc43] at hcut43
                have HR194 := Aside0.mk hr43
                have HC194 := Aside0.mk (show y191.length ≤ c43 from by rw [hy43, hc43]; exact Nat.sub_le_sub_right hroom43 _)
                clear hr43 hC43 hroom43 hi043 hsz43 hc43
                have KY43 := Aside0.mk hy43
                have KA43 := Aside0.mk hA43
                clear hy43 hA43
                replace q43 := eq_true q43
                try go_wp2
                have n0_ := Aside0.mk (blk_drew BK184.out)
                have n1_ := Aside0.mk (below_drew1 HB.out)
                clear BK184
                clear HB
                have BK184 := n0_
                have HB := n1_
                clear n0_ n1_
                have q45 : (x6_2 : Int) ≤ ((l0.length : Int) : Int) := of_decide_eq_true as_
                obtain ⟨i045, hi045, _, hsz45, _⟩ := info_parts info67
                have hroom45 : l0.length ≤ c0 := HC0.out
                have hC45 : Kd.C k67 _ A0 l0.length l0 := HR0.out
                have hcut45 := cut_to (P := Try.prog) 34 67 .i64 Try.underlying34 hi045 A0 l0.length c0 x6_2 (of_decide_eq_true as_) q45 hroom45
                have hr45 := Kd.C_take (m := (x6_2 : Int).toNat) hC45 (by omega)
                have hy45 : y198.length = (x6_2 : Int).toNat := (by rw [Ny198.out, List.length_take]; omega)
                rw [← Ny198.out] at hr45
                rw [← hy45] at hcut45
                have HR201 := Aside0.mk hr45
                have HC201 := Aside0.mk (show y198.length ≤ c0 from by omega)
                clear hr45 hC45 hroom45 hi045 hsz45
                have KY45 := Aside0.mk hy45
                clear hy45
                replace q45 := eq_true q45
                refine start_ (n := 11) (S := fun w' => w'.cell? ⟨gb184, 0, none⟩ = some (.int .i64 a1_0) ∧ w'.cell? ⟨gb184, 1, none⟩ = some (.int .i64 a1_1)) (ds := []) M3_30 (by kernel_rfl) rfl rfl ⟨(blk_cell BK184.out 0).trans rfl, (blk_cell BK184.out 1).trans rfl⟩ (fun hHeld => ?_); refine with_tabW spec_PutMark.tab7 spec_PutMark.bits7 (fun HT_ HW_ => ?_)
                generalize wc.drew = w44 at BK184 HB HR201 hHeld ⊢
                refine pu_ 1 (some 43) M3_31 HT_ ?_
                refine pu_ 2 (some 44) M3_32 HT_ ?_
                refine pu_ 3 (some 45) M3_33 HT_ ?_
                refine pu_ 8 (some 50) M3_34 HT_ ?_
                refine tk_ 5 (some 47) M3_35 HT_ HW_ hHeld ?_
                refine join_ (σ := Value × Value × Value) 3 M3_36 (fun s_ => [(42, s_.1), (46, s_.2.1), (48, s_.2.2)]) (fun s_ w' => (w'.cell? ⟨gb184, 0, none⟩ = some (.int .i64 a1_0) ∧ w'.cell? ⟨gb184, 1, none⟩ = some (.int .i64 a1_1)) ∧ (Kd.R k67 67 w' w.heap.size (fun k_ => some k_ ≠ (s_.2.2 : Value).ownBlock ∧ k_ ≠ gb184) s_.2.1 y202) ∧ (Kd.R k67 67 w' w.heap.size (fun k_ => some k_ ≠ (s_.2.1 : Value).ownBlock ∧ k_ ≠ gb184) s_.2.2 y205) ∧ (w'.heap[gb184]? = some (.cells #[.int .i64 a1_0, .int .i64 a1_1] 67 (0, 0))) ∧ (Below w.heap.size w w')) ?_ ?_
                rotate_left
                ·
                 intro hCont
                 refine two_ (i := 0) (j := 6) (Ni := some 42) (Nj := some 48) M3_37 M3_38 rfl rfl rfl rfl (two_of HT_.out (by kernel_rfl)) (by decide) (by decide) (fun K hK => ?_) (fun K hK => ?_)
                 ·
                  skip
                  refine Kd.R_lit_step k67 _ 67 ?hg (N := 42) ?hd (xs := ([] : List (S67))) (inner := []) (ok := fun _ => True) (okp := fun _ => True) ?hr ?hp (fun _ hk => hk) trivial (Below.refl _ _) (Nat.le_refl _) (by simp) ?_; (case hd => rfl); (case hg => rfl); (case hr => first | (go_simp; done) | (go_simp; rfl)); (case hp => exact (Reps.none _ _))
                  intro v196 w46 ho47 hb hg_ hnew_
                  clear hg_ hnew_
                  (first | rw [← Ny195.out] at ho47 | (simp only [Int.reduceToNat] at ho47; rw [← Ny195.out] at ho47))
                  have HO197 := Aside0.mk (Kd.R_lower (Kd.R_newB ho47 (g := gb184) (o := .cells #[.int .i64 a1_0, .int .i64 a1_1] 67 (0, 0)) (bd_ BK184.out)) (below_size y52_))
                  have n1_ := Aside0.mk (blk_below (bd_ BK184.out) hb)
                  have n2_ := Aside0.mk (below_step y52_ hb)
                  clear BK184
                  clear HB
                  have BK184 := n1_
                  have HB := n2_
                  clear n1_ n2_
                  clear hb ho47
                  refine hK.out _ _ ⟨(blk_cell BK184.out 0).trans rfl, (blk_cell BK184.out 1).trans rfl⟩ (fun hHeld => ?_)
                  clear hK K
                  refine norm_ (a' := ?_) ?_ ?_
                  rotate_left
                  ·
                   show Act.put _ (some 42) _ = _
                   simp only [Act.put, P3_1, P3_2, P3_3, i64_w, i32_w]
                   rfl
                  refine two_ (i := 4) (j := 6) (Ni := some 46) (Nj := some 48) M3_39 M3_40 rfl rfl rfl rfl (two_of HT_.out (by kernel_rfl)) (by decide) (by decide) (fun K hK => ?_) (fun K hK => ?_)
                  ·
                   skip
                   refine Kd.R_append_rows_step k67 (w0 := w) w.heap.size (by rfl) (.tmp 42) (.tmp 45) 34 67 (.agg #[(.int .i64 0), (.int .i64 0)]) 16 rfl Try.underlying34 info67 rfl (by decide) (by omega) v196 y195 y198 _ _ _ (fun k_ => k_ ≠ gb184) (fun _ => False) rfl rfl ?aO ?aR (fun _ _ h => h) (fun _ h => h.elim) ?aF ?aB ?aS ?aL ?_
                   (case aR => repeat (first | exact (Kd.C_below HR201.out HB.out) | (with_reducible refine Kd.C_alloc ?_ _) | (with_reducible refine Kd.C_drewN ?_ _) | (with_reducible refine Kd.C_drew ?_)))
                   (case aB => exact y52_)
                   (case aF => exact (fun k_ hk => Kd.freshB (g := gb184) (o := .cells #[.int .i64 a1_0, .int .i64 a1_1] 67 (0, 0)) (bd_ BK184.out) k_ hk))
                   (case aO => exact (by (with_reducible repeat (first | apply Kd.R_alloc | apply Kd.R_drewN | apply Kd.R_drew)); exact Kd.R_mono HO197.out (fun _ hk => hk.2)))
                   (case aS => exact (below_size y52_))
                   (case aL => have := LMc23.out; omega)
                   intro v203 w48 ho hb hg hat
                   rw [← Ny202.out] at ho
                   have n0_ := Aside0.mk (blk_grown (g := gb184) (o := .cells #[.int .i64 a1_0, .int .i64 a1_1] 67 (0, 0)) (bd_ BK184.out) hg (Kd.R_away HO197.out (fun _ hk => hk.2)))
                   have n1_ := Aside0.mk (hb)
                   have HO204 := Aside0.mk (ho)
                   clear BK184
                   clear HB
                   clear HO197
                   have BK184 := n0_
                   have HB := n1_
                   clear n0_ n1_
                   clear ho hb hg hat
                   refine hK.out _ _ ⟨(blk_cell BK184.out 0).trans rfl, (blk_cell BK184.out 1).trans rfl⟩ (fun hHeld => ?_)
                   clear hK K
                   refine norm_ (a' := ?_) ?_ ?_
                   rotate_left
                   ·
                    show Act.put _ (some 46) _ = _
                    simp only [Act.put, P3_1, P3_2, P3_3, i64_w, i32_w]
                    rfl
                   refine one_ (i := 6) (N := some 48) M3_36 rfl rfl (one_of HT_.out (by kernel_rfl)) (by decide) (fun K hK => ?_)
                   refine Kd.R_lit_step k67 _ 67 ?hg (N := 48) ?hd (xs := ([(⟨a1_0, a1_1⟩ : S67)] : List (S67))) (inner := [.int .i64 a1_0, .int .i64 a1_1]) (ok := fun _ => True) (okp := fun _ => True) ?hr ?hp (fun _ hk => hk) trivial (Below.refl _ _) (Nat.le_refl _) (by simp) ?_; (case hd => rfl); (case hg => rfl); (case hr => first | (go_simp; done) | (go_simp; rfl)); (case hp => exact (Reps.c2 (show Kd.M k67 _ _ _ (⟨a1_0, a1_1⟩ : S67) [.int .i64 a1_0, .int .i64 a1_1] from (k67_mkM _ _ _ (⟨a1_0, a1_1⟩ : S67) )) (Reps.none _ _)))
                   intro v206 w49 ho50 hb hg_ hnew_
                   clear hg_ hnew_
                   (first | rw [← Ny205.out] at ho50 | (simp only [Int.reduceToNat] at ho50; rw [← Ny205.out] at ho50))
                   have n0_ := Aside0.mk (Kd.R_elder' (rd_ HO204.out) (Kd.R_base ho50) hb)
                   have HO207 := Aside0.mk (Kd.R_lower (Kd.R_newB (Kd.R_new' ho50 (Kd.R_lt (rd_ HO204.out))) (g := gb184) (o := .cells #[.int .i64 a1_0, .int .i64 a1_1] 67 (0, 0)) (bd_ BK184.out)) (below_size y52_))
                   have n2_ := Aside0.mk (blk_below (bd_ BK184.out) hb)
                   have n3_ := Aside0.mk (below_step y52_ hb)
                   clear HO204
                   clear BK184
                   clear HB
                   have HO204 := n0_
                   have BK184 := n2_
                   have HB := n3_
                   clear n0_ n2_ n3_
                   clear hb ho50
                   refine hK.out _ _ ⟨(blk_cell BK184.out 0).trans rfl, (blk_cell BK184.out 1).trans rfl⟩ (fun hHeld => ?_)
                   clear hK K
                   refine norm_ (a' := ?_) ?_ ?_
                   rotate_left
                   ·
                    show Act.put _ (some 48) _ = _
                    simp only [Act.put, P3_1, P3_2, P3_3, i64_w, i32_w]
                    rfl
                   exact norm_ y57_ (hCont (v196, v203, v206) _ ⟨hHeld, (by (with_reducible repeat (first | apply Kd.R_alloc | apply Kd.R_drewN | apply Kd.R_drew)); exact Kd.R_mono HO204.out (fun _ hk => ⟨hk.2, hk.1⟩)), y65_, bd_ BK184.out, y52_⟩)
                  ·
                   skip
                   refine Kd.R_lit_step k67 _ 67 ?hg (N := 48) ?hd (xs := ([(⟨a1_0, a1_1⟩ : S67)] : List (S67))) (inner := [.int .i64 a1_0, .int .i64 a1_1]) (ok := fun _ => True) (okp := fun _ => True) ?hr ?hp (fun _ hk => hk) trivial (Below.refl _ _) (Nat.le_refl _) (by simp) ?_; (case hd => rfl); (case hg => rfl); (case hr => first | (go_simp; done) | (go_simp; rfl)); (case hp => exact (Reps.c2 (show Kd.M k67 _ _ _ (⟨a1_0, a1_1⟩ : S67) [.int .i64 a1_0, .int .i64 a1_1] from (k67_mkM _ _ _ (⟨a1_0, a1_1⟩ : S67) )) (Reps.none _ _)))
                   intro v206 w48 ho49 hb hg_ hnew_
                   clear hg_ hnew_
                   (first | rw [← Ny205.out] at ho49 | (simp only [Int.reduceToNat] at ho49; rw [← Ny205.out] at ho49))
                   have n0_ := Aside0.mk (Kd.R_elder' (rd_ HO197.out) (Kd.R_base ho49) hb)
                   have HO207 := Aside0.mk (Kd.R_lower (Kd.R_newB (Kd.R_new' ho49 (Kd.R_lt (rd_ HO197.out))) (g := gb184) (o := .cells #[.int .i64 a1_0, .int .i64 a1_1] 67 (0, 0)) (bd_ BK184.out)) (below_size y52_))
                   have n2_ := Aside0.mk (blk_below (bd_ BK184.out) hb)
                   have n3_ := Aside0.mk (below_step y52_ hb)
                   clear HO197
                   clear BK184
                   clear HB
                   have HO197 := n0_
                   have BK184 := n2_
                   have HB := n3_
                   clear n0_ n2_ n3_
                   clear hb ho49
                   refine hK.out _ _ ⟨(blk_cell BK184.out 0).trans rfl, (blk_cell BK184.out 1).trans rfl⟩ (fun hHeld => ?_)
                   clear hK K
                   refine norm_ (a' := ?_) ?_ ?_
                   rotate_left
                   ·
                    show Act.put _ (some 48) _ = _
                    simp only [Act.put, P3_1, P3_2, P3_3, i64_w, i32_w]
                    rfl
                   refine one_ (i := 4) (N := some 46) M3_36 rfl rfl (one_of HT_.out (by kernel_rfl)) (by decide) (fun K hK => ?_)
                   refine Kd.R_append_rows_step k67 (w0 := w) w.heap.size (by rfl) (.tmp 42) (.tmp 45) 34 67 (.agg #[(.int .i64 0), (.int .i64 0)]) 16 rfl Try.underlying34 info67 rfl (by decide) (by omega) v196 y195 y198 _ _ _ (fun k_ => some k_ ≠ (v206 : Value).ownBlock ∧ k_ ≠ gb184) (fun _ => False) rfl rfl ?aO ?aR (fun _ _ h => h) (fun _ h => h.elim) ?aF ?aB ?aS ?aL ?_
                   (case aR => repeat (first | exact (Kd.C_below HR201.out HB.out) | (with_reducible refine Kd.C_alloc ?_ _) | (with_reducible refine Kd.C_drewN ?_ _) | (with_reducible refine Kd.C_drew ?_)))
                   (case aB => exact y52_)
                   (case aF => exact (fun k_ hk => ⟨Kd.fresh' (Kd.R_lt (rd_ HO207.out)) k_ hk, Kd.freshB (g := gb184) (o := .cells #[.int .i64 a1_0, .int .i64 a1_1] 67 (0, 0)) (bd_ BK184.out) k_ hk⟩))
                   (case aO => exact (by (with_reducible repeat (first | apply Kd.R_alloc | apply Kd.R_drewN | apply Kd.R_drew)); exact Kd.R_mono HO197.out (fun _ hk => ⟨hk.2, hk.1.2⟩)))
                   (case aS => exact (below_size y52_))
                   (case aL => have := LMc23.out; omega)
                   intro v203 w50 ho hb hg hat
                   rw [← Ny202.out] at ho
                   have n0_ := Aside0.mk (blk_grown (g := gb184) (o := .cells #[.int .i64 a1_0, .int .i64 a1_1] 67 (0, 0)) (bd_ BK184.out) hg (Kd.R_away HO197.out (fun _ hk => hk.1.2)))
                   have n1_ := Aside0.mk (Kd.R_after (ok := (fun k_ => k_ ≠ gb184)) (by (with_reducible repeat (first | apply Kd.R_alloc | apply Kd.R_drewN | apply Kd.R_drew)); exact Kd.R_mono HO207.out (fun _ hk => ⟨hk.2, hk.1.2⟩)) hg hat)
                   have n2_ := Aside0.mk (hb)
                   have HO204 := Aside0.mk (ho)
                   clear BK184
                   clear HO207
                   clear HB
                   clear HO197
                   have BK184 := n0_
                   have HO207 := n1_
                   have HB := n2_
                   clear n0_ n1_ n2_
                   clear ho hb hg hat
                   refine hK.out _ _ ⟨(blk_cell BK184.out 0).trans rfl, (blk_cell BK184.out 1).trans rfl⟩ (fun hHeld => ?_)
                   clear hK K
                   refine norm_ (a' := ?_) ?_ ?_
                   rotate_left
                   ·
                    show Act.put _ (some 46) _ = _
                    simp only [Act.put, P3_1, P3_2, P3_3, i64_w, i32_w]
                    rfl
                   exact norm_ y57_ (hCont (v196, v203, v206) _ ⟨hHeld, rd_ HO204.out, y61_, bd_ BK184.out, y52_⟩)
                 ·
                  skip
                  refine Kd.R_lit_step k67 _ 67 ?hg (N := 48) ?hd (xs := ([(⟨a1_0, a1_1⟩ : S67)] : List (S67))) (inner := [.int .i64 a1_0, .int .i64 a1_1]) (ok := fun _ => True) (okp := fun _ => True) ?hr ?hp (fun _ hk => hk) trivial (Below.refl _ _) (Nat.le_refl _) (by simp) ?_; (case hd => rfl); (case hg => rfl); (case hr => first | (go_simp; done) | (go_simp; rfl)); (case hp => exact (Reps.c2 (show Kd.M k67 _ _ _ (⟨a1_0, a1_1⟩ : S67) [.int .i64 a1_0, .int .i64 a1_1] from (k67_mkM _ _ _ (⟨a1_0, a1_1⟩ : S67) )) (Reps.none _ _)))
                  intro v206 w46 ho47 hb hg_ hnew_
                  clear hg_ hnew_
                  (first | rw [← Ny205.out] at ho47 | (simp only [Int.reduceToNat] at ho47; rw [← Ny205.out] at ho47))
                  have HO207 := Aside0.mk (Kd.R_lower (Kd.R_newB ho47 (g := gb184) (o := .cells #[.int .i64 a1_0, .int .i64 a1_1] 67 (0, 0)) (bd_ BK184.out)) (below_size y52_))
                  have n1_ := Aside0.mk (blk_below (bd_ BK184.out) hb)
                  have n2_ := Aside0.mk (below_step y52_ hb)
                  clear BK184
                  clear HB
                  have BK184 := n1_
                  have HB := n2_
                  clear n1_ n2_
                  clear hb ho47
                  refine hK.out _ _ ⟨(blk_cell BK184.out 0).trans rfl, (blk_cell BK184.out 1).trans rfl⟩ (fun hHeld => ?_)
                  clear hK K
                  refine norm_ (a' := ?_) ?_ ?_
                  rotate_left
                  ·
                   show Act.put _ (some 48) _ = _
                   simp only [Act.put, P3_1, P3_2, P3_3, i64_w, i32_w]
                   rfl
                  refine one_ (i := 0) (N := some 42) M3_40 rfl rfl (one_of HT_.out (by kernel_rfl)) (by decide) (fun K hK => ?_)
                  refine Kd.R_lit_step k67 _ 67 ?hg (N := 42) ?hd (xs := ([] : List (S67))) (inner := []) (ok := fun _ => True) (okp := fun _ => True) ?hr ?hp (fun _ hk => hk) trivial (Below.refl _ _) (Nat.le_refl _) (by simp) ?_; (case hd => rfl); (case hg => rfl); (case hr => first | (go_simp; done) | (go_simp; rfl)); (case hp => exact (Reps.none _ _))
                  intro v196 w48 ho49 hb hg_ hnew_
                  clear hg_ hnew_
                  (first | rw [← Ny195.out] at ho49 | (simp only [Int.reduceToNat] at ho49; rw [← Ny195.out] at ho49))
                  have n0_ := Aside0.mk (Kd.R_elder' (rd_ HO207.out) (Kd.R_base ho49) hb)
                  have HO197 := Aside0.mk (Kd.R_lower (Kd.R_newB (Kd.R_new' ho49 (Kd.R_lt (rd_ HO207.out))) (g := gb184) (o := .cells #[.int .i64 a1_0, .int .i64 a1_1] 67 (0, 0)) (bd_ BK184.out)) (below_size y52_))
                  have n2_ := Aside0.mk (blk_below (bd_ BK184.out) hb)
                  have n3_ := Aside0.mk (below_step y52_ hb)
                  clear HO207
                  clear BK184
                  clear HB
                  have HO207 := n0_
                  have BK184 := n2_
                  have HB := n3_
                  clear n0_ n2_ n3_
                  clear hb ho49
                  refine hK.out _ _ ⟨(blk_cell BK184.out 0).trans rfl, (blk_cell BK184.out 1).trans rfl⟩ (fun hHeld => ?_)
                  clear hK K
                  refine norm_ (a' := ?_) ?_ ?_
                  rotate_left
                  ·
                   show Act.put _ (some 42) _ = _
                   simp only [Act.put, P3_1, P3_2, P3_3, i64_w, i32_w]
                   rfl
                  refine one_ (i := 4) (N := some 46) M3_36 rfl rfl (one_of HT_.out (by kernel_rfl)) (by decide) (fun K hK => ?_)
                  refine Kd.R_append_rows_step k67 (w0 := w) w.heap.size (by rfl) (.tmp 42) (.tmp 45) 34 67 (.agg #[(.int .i64 0), (.int .i64 0)]) 16 rfl Try.underlying34 info67 rfl (by decide) (by omega) v196 y195 y198 _ _ _ (fun k_ => some k_ ≠ (v206 : Value).ownBlock ∧ k_ ≠ gb184) (fun _ => False) rfl rfl ?aO ?aR (fun _ _ h => h) (fun _ h => h.elim) ?aF ?aB ?aS ?aL ?_
                  (case aR => repeat (first | exact (Kd.C_below HR201.out HB.out) | (with_reducible refine Kd.C_alloc ?_ _) | (with_reducible refine Kd.C_drewN ?_ _) | (with_reducible refine Kd.C_drew ?_)))
                  (case aB => exact y52_)
                  (case aF => exact (fun k_ hk => ⟨Kd.fresh' (Kd.R_lt (rd_ HO207.out)) k_ hk, Kd.freshB (g := gb184) (o := .cells #[.int .i64 a1_0, .int .i64 a1_1] 67 (0, 0)) (bd_ BK184.out) k_ hk⟩))
                  (case aO => exact (by (with_reducible repeat (first | apply Kd.R_alloc | apply Kd.R_drewN | apply Kd.R_drew)); exact Kd.R_mono HO197.out (fun _ hk => ⟨hk.1.2, hk.2⟩)))
                  (case aS => exact (below_size y52_))
                  (case aL => have := LMc23.out; omega)
                  intro v203 w50 ho hb hg hat
                  rw [← Ny202.out] at ho
                  have n0_ := Aside0.mk (blk_grown (g := gb184) (o := .cells #[.int .i64 a1_0, .int .i64 a1_1] 67 (0, 0)) (bd_ BK184.out) hg (Kd.R_away HO197.out (fun _ hk => hk.2)))
                  have n1_ := Aside0.mk (Kd.R_after (ok := (fun k_ => k_ ≠ gb184)) y65_ hg hat)
                  have n2_ := Aside0.mk (hb)
                  have HO204 := Aside0.mk (ho)
                  clear BK184
                  clear HO207
                  clear HB
                  clear HO197
                  have BK184 := n0_
                  have HO207 := n1_
                  have HB := n2_
                  clear n0_ n1_ n2_
                  clear ho hb hg hat
                  refine hK.out _ _ ⟨(blk_cell BK184.out 0).trans rfl, (blk_cell BK184.out 1).trans rfl⟩ (fun hHeld => ?_)
                  clear hK K
                  refine norm_ (a' := ?_) ?_ ?_
                  rotate_left
                  ·
                   show Act.put _ (some 46) _ = _
                   simp only [Act.put, P3_1, P3_2, P3_3, i64_w, i32_w]
                   rfl
                  exact norm_ y57_ (hCont (v196, v203, v206) _ ⟨hHeld, rd_ HO204.out, y61_, bd_ BK184.out, y52_⟩)
                rintro ⟨v196, v203, v206⟩ w51 ⟨hS_, h0_, h1_, h2_, h3_⟩
                have HO204 : Aside0 (Kd.R k67 67 w51 w.heap.size (fun k_ => some k_ ≠ (v206 : Value).ownBlock ∧ k_ ≠ gb184) v203 y202) := ⟨h0_⟩
                have HO207 : Aside0 (Kd.R k67 67 w51 w.heap.size (fun k_ => some k_ ≠ (v203 : Value).ownBlock ∧ k_ ≠ gb184) v206 y205) := ⟨h1_⟩
                have n2_ : Aside0 (w51.heap[gb184]? = some (.cells #[.int .i64 a1_0, .int .i64 a1_1] 67 (0, 0))) := ⟨h2_⟩
                have n3_ : Aside0 (Below w.heap.size w w51) := ⟨h3_⟩
                clear BK184
                clear HB
                clear h0_ h1_ h2_ h3_
                have BK184 := n2_
                have HB := n3_
                clear n2_ n3_
                have hHeld : w51.cell? ⟨gb184, 0, none⟩ = some (.int .i64 a1_0) ∧ w51.cell? ⟨gb184, 1, none⟩ = some (.int .i64 a1_1) := hS_
                obtain ⟨Ao53, co53, eo53⟩ := Kd.R_slice HO207.out
                (first | subst eo53 | (injection eo53 with f1_ f2_ f3_; have f4_ := f1_.symm; have f5_ := f3_.symm; clear f1_ f2_ f3_; subst f4_; subst f5_))
                refine norm_ (a' := ?_) ?_ ?_
                rotate_left
                ·
                 simp only [putAll, Act.put, List.setIfInBounds_toArray, List.set_cons_zero, List.set_cons_succ]
                 rfl
                refine one_ (i := 7) (N := some 49) M3_41 rfl rfl (one_of HT_.out (by kernel_rfl)) (by decide) (fun K hK => ?_)
                refine Kd.R_append_rows_step k67 (w0 := w) w.heap.size (by rfl) (.tmp 46) (.tmp 48) 34 67 (.agg #[(.int .i64 0), (.int .i64 0)]) 16 rfl Try.underlying34 info67 rfl (by decide) (by omega) v203 y202 y205 _ _ _ (fun k_ => some k_ ≠ (.slice Ao53 y205.length co53 : Value).ownBlock ∧ k_ ≠ gb184) (fun _ => False) rfl rfl ?aO ?aR (fun _ _ h => h) (fun _ h => h.elim) ?aF ?aB ?aS ?aL ?_
                (case aR => repeat (first | exact (Kd.R_reads' HO207.out).2.2 | (with_reducible refine Kd.C_alloc ?_ _) | (with_reducible refine Kd.C_drewN ?_ _) | (with_reducible refine Kd.C_drew ?_)))
                (case aB => exact y52_)
                (case aF => exact (fun k_ hk => ⟨Kd.fresh' (Kd.R_lt (rd_ HO207.out)) k_ hk, Kd.freshB (g := gb184) (o := .cells #[.int .i64 a1_0, .int .i64 a1_1] 67 (0, 0)) (bd_ BK184.out) k_ hk⟩))
                (case aO => exact rd_ HO204.out)
                (case aS => exact (below_size y52_))
                (case aL => have := LMc24.out; omega)
                intro v209 w52 ho hb hg hat
                rw [← Ny208.out] at ho
                have n0_ := Aside0.mk (blk_grown (g := gb184) (o := .cells #[.int .i64 a1_0, .int .i64 a1_1] 67 (0, 0)) (bd_ BK184.out) hg (Kd.R_away HO204.out (fun _ hk => hk.2)))
                have n1_ := Aside0.mk (Kd.R_after (ok := (fun k_ => k_ ≠ gb184)) y61_ hg hat)
                have n2_ := Aside0.mk (hb)
                have HO210 := Aside0.mk (ho)
                clear BK184
                clear HO207
                clear HB
                clear HO204
                have BK184 := n0_
                have HO207 := n1_
                have HB := n2_
                clear n0_ n1_ n2_
                clear ho hb hg hat
                refine hK.out _ _ ⟨(blk_cell BK184.out 0).trans rfl, (blk_cell BK184.out 1).trans rfl⟩ (fun hHeld => ?_)
                clear hK K
                refine norm_ (a' := ?_) ?_ ?_
                rotate_left
                ·
                 show Act.put _ (some 49) _ = _
                 simp only [Act.put, P3_1, P3_2, P3_3, i64_w, i32_w]
                 rfl
                refine one_ (i := 9) (N := some 51) M3_42 rfl rfl (one_of HT_.out (by kernel_rfl)) (by decide) (fun K hK => ?_)
                refine Kd.R_append_rows_step k67 (w0 := w) w.heap.size (by rfl) (.tmp 49) (.tmp 50) 34 67 (.agg #[(.int .i64 0), (.int .i64 0)]) 16 rfl Try.underlying34 info67 rfl (by decide) (by omega) v209 y208 y191 _ _ _ (fun k_ => some k_ ≠ (.slice Ao53 y205.length co53 : Value).ownBlock ∧ k_ ≠ gb184) (fun _ => False) rfl rfl ?aO ?aR (fun _ _ h => h) (fun _ h => h.elim) ?aF ?aB ?aS ?aL ?_
                (case aR => repeat (first | exact (Kd.C_below HR194.out HB.out) | (with_reducible refine Kd.C_alloc ?_ _) | (with_reducible refine Kd.C_drewN ?_ _) | (with_reducible refine Kd.C_drew ?_)))
                (case aB => exact y52_)
                (case aF => exact (fun k_ hk => ⟨Kd.fresh' (Kd.R_lt (rd_ HO207.out)) k_ hk, Kd.freshB (g := gb184) (o := .cells #[.int .i64 a1_0, .int .i64 a1_1] 67 (0, 0)) (bd_ BK184.out) k_ hk⟩))
                (case aO => exact (rd_ HO210.out))
                (case aS => exact (below_size y52_))
                (case aL => have := LMc25.out; omega)
                intro v212 w54 ho hb hg hat
                rw [← Ny211.out] at ho
                have n0_ := Aside0.mk (blk_grown (g := gb184) (o := .cells #[.int .i64 a1_0, .int .i64 a1_1] 67 (0, 0)) (bd_ BK184.out) hg (Kd.R_away HO210.out (fun _ hk => hk.2)))
                have n1_ := Aside0.mk (Kd.R_after (ok := (fun k_ => k_ ≠ gb184)) (rd_ HO207.out) hg hat)
                have n2_ := Aside0.mk (hb)
                have HO213 := Aside0.mk (ho)
                clear BK184
                clear HO207
                clear HB
                clear HO210
                have BK184 := n0_
                have HO207 := n1_
                have HB := n2_
                clear n0_ n1_ n2_
                clear ho hb hg hat
                refine hK.out _ _ ⟨(blk_cell BK184.out 0).trans rfl, (blk_cell BK184.out 1).trans rfl⟩ (fun hHeld => ?_)
                clear hK K
                refine norm_ (a' := ?_) ?_ ?_
                rotate_left
                ·
                 show Act.put _ (some 51) _ = _
                 simp only [Act.put, P3_1, P3_2, P3_3, i64_w, i32_w]
                 rfl
                refine pu_ 10 (some 8) M3_43 HT_ ?_
                refine done_ (done_of HT_.out (by kernel_rfl)) ?_
                obtain ⟨Ao55, co55, eo55⟩ := Kd.R_slice HO213.out
                subst eo55
                try go_wp2_with (first | ((with_reducible refine gate_callee (f := 43) rfl ?_); refine goesL_ (some 53) rfl rfl Try.func43 (by kernel_rfl) rfl #[.slice Ao55 y211.length co55] rfl ma_ ?_; (with_reducible refine (spec_AreMarks.calls kj12 _ _ y211 false _ ?side1 ?side2 A26.out).mono ?_); (case side1 => exact cd_ (Kd.R_reads' HO213.out).2.2); (case side2 => exact (Kd.R_reads' HO213.out).2.1); rintro e w56 ⟨rfl, hb⟩; refine ⟨_, rfl, ?_⟩; have n0_ := Aside0.mk (Kd.R_below (rd_ HO207.out) hb); have n1_ := Aside0.mk (Kd.R_below (rd_ HO213.out) hb); have n2_ := Aside0.mk (blk_below (bd_ BK184.out) hb); have n3_ := Aside0.mk (below_step y52_ hb); clear HO207; clear HO213; clear BK184; clear HB; have HO207 := n0_; have HO213 := n1_; have BK184 := n2_; have HB := n3_; clear n0_ n1_ n2_ n3_; (try clear hb); (try clear hb2); (try clear hk); (try clear hi)) | ((with_reducible refine gate_dst (N := 55) rfl ?_); refine Kd.R_lit k67 _ 67 ?hg (N := 55) ?hd (xs := ([] : List (S67))) (inner := []) (ok := fun _ => True) (okp := fun _ => True) ?hr ?hp (fun _ hk => hk) trivial (Below.refl _ _) (Nat.le_refl _) (by simp) ?_; (case hd => rfl); (case hg => rfl); (case hr => first | (go_simp; done) | (go_simp; rfl)); (case hp => exact (Reps.none _ _)); intro v216 w57 ho58 hb hg_ hnew_; clear hg_ hnew_; (first | rw [← Ny215.out] at ho58 | (simp only [Int.reduceToNat] at ho58; rw [← Ny215.out] at ho58)); have n0_ := Aside0.mk (Kd.R_elder' (rd_ HO207.out) (Kd.R_base ho58) hb); have n1_ := Aside0.mk (Kd.R_elder' (rd_ HO213.out) (Kd.R_base ho58) hb); have HO217 := Aside0.mk (Kd.R_lower (Kd.R_newB (Kd.R_new' (Kd.R_new' ho58 (Kd.R_lt (rd_ HO207.out))) (Kd.R_lt (rd_ HO213.out))) (g := gb184) (o := .cells #[.int .i64 a1_0, .int .i64 a1_1] 67 (0, 0)) (bd_ BK184.out)) (below_size y52_)); have n3_ := Aside0.mk (blk_below (bd_ BK184.out) hb); have n4_ := Aside0.mk (below_step y52_ hb); clear HO207; clear HO213; clear BK184; clear HB; have HO207 := n0_; have HO213 := n1_; have BK184 := n3_; have HB := n4_; clear n0_ n1_ n3_ n4_; clear hb ho58) | ((with_reducible refine gate_builtin (b := .append) (xs := #[.tmp 55, .tmp 56]) rfl ?_); at_builtin; refine Kd.R_append_rows k67 (w0 := w) w.heap.size rfl (.tmp 55) (.tmp 56) 34 67 (.agg #[(.int .i64 0), (.int .i64 0)]) 16 rfl Try.underlying34 info67 rfl (by decide) (by omega) v216 y215 l0 _ _ _ (fun k_ => some k_ ≠ (.slice Ao53 y205.length co53 : Value).ownBlock ∧ some k_ ≠ (.slice Ao55 y211.length co55 : Value).ownBlock ∧ k_ ≠ gb184) (fun _ => False) rfl rfl ?aO ?aR (fun _ _ h => h) (fun _ h => h.elim) ?aF ?aB ?aS ?aL ?_; (case aR => repeat (first | exact (Kd.C_below HR0.out HB.out) | (with_reducible refine Kd.C_alloc ?_ _) | (with_reducible refine Kd.C_drewN ?_ _) | (with_reducible refine Kd.C_drew ?_))); (case aB => exact y52_); (case aF => exact (fun k_ hk => ⟨Kd.fresh' (Kd.R_lt (rd_ HO207.out)) k_ hk, Kd.fresh' (Kd.R_lt (rd_ HO213.out)) k_ hk, Kd.freshB (g := gb184) (o := .cells #[.int .i64 a1_0, .int .i64 a1_1] 67 (0, 0)) (bd_ BK184.out) k_ hk⟩)); (case aO => exact (by (with_reducible repeat (first | apply Kd.R_alloc | apply Kd.R_drewN | apply Kd.R_drew)); exact Kd.R_mono HO217.out (fun _ hk => ⟨hk.1.1.2, ⟨hk.1.2, hk.2⟩⟩))); (case aS => exact (below_size y52_)); (case aL => have := LMc42.out; omega); intro v219 w59 ho hb hg hat; rw [← Ny218.out] at ho; have n0_ := Aside0.mk (blk_grown (g := gb184) (o := .cells #[.int .i64 a1_0, .int .i64 a1_1] 67 (0, 0)) (bd_ BK184.out) hg (Kd.R_away HO217.out (fun _ hk => hk.2))); have n1_ := Aside0.mk (Kd.R_after (ok := (fun k_ => some k_ ≠ (.slice Ao55 y211.length co55 : Value).ownBlock ∧ k_ ≠ gb184)) (by (with_reducible repeat (first | apply Kd.R_alloc | apply Kd.R_drewN | apply Kd.R_drew)); exact Kd.R_mono HO207.out (fun _ hk => ⟨⟨hk.1.2, hk.1.1⟩, hk.2⟩)) hg hat); have n2_ := Aside0.mk (Kd.R_after (ok := (fun k_ => some k_ ≠ (.slice Ao53 y205.length co53 : Value).ownBlock ∧ k_ ≠ gb184)) (rd_ HO213.out) hg hat); have n3_ := Aside0.mk (hb); have HO220 := Aside0.mk (ho); clear BK184; clear HO207; clear HO213; clear HB; clear HO217; have BK184 := n0_; have HO207 := n1_; have HO213 := n2_; have HB := n3_; clear n0_ n1_ n2_ n3_; clear ho hb hg hat))
                go_ret2
                exact ⟨_, by first | rfl | (simp [errW_none, errW_some] <;> rfl) | (simp [*, errW_none, errW_some] <;> rfl), by (with_reducible repeat (first | apply Kd.R_alloc | apply Kd.R_drewN | apply Kd.R_drew)); exact Kd.R_mono HO220.out (fun _ hk => trivial), y56_⟩
               ·
                rw [if_neg c42] at H
                exact absurd H (by simp)
             ·
              rw [if_neg c25] at H
              exact absurd H (by simp)
            ·
             rw [if_neg c24] at H
             exact absurd H (by simp)
           ·
            rw [if_neg c23] at H
            exact absurd H (by simp)
          ·
           rw [if_neg c22] at H
           exact absurd H (by simp)
         ·
          rw [if_neg c21] at H
          exact absurd H (by simp)
        ·
         rw [if_neg c20] at H
         exact absurd H (by simp)
       ·
        replace c19 := Bool.eq_false_iff.mpr c19
        subst c19
        have H1 : ((some (([] : List (S67)) : List (S67))).bind fun y221 => (if 0 ≤ x6_2 then (if x6_2 ≤ (l0.length : Int) then ((some (l0.take (x6_2 : Int).toNat : List (S67))).bind fun y224 => (if y221.length + y224.length < 8796093022208 then ((some (y221 ++ y224 : List (S67))).bind fun y228 => ((some (([(⟨a1_0, a1_1⟩ : S67)] : List (S67)) : List (S67))).bind fun y231 => (if y228.length + y231.length < 8796093022208 then ((some (y228 ++ y231 : List (S67))).bind fun y234 => (if y234.length + y186.length < 8796093022208 then ((some (y234 ++ y186 : List (S67))).bind fun y237 => ((spec_AreMarks.f kj12 y237).bind fun t240 => (if t240 = true then (some (y237, true)) else ((some (([] : List (S67)) : List (S67))).bind fun y241 => (if y241.length + l0.length < 8796093022208 then (some ((y241 ++ l0), false)) else (none)))))) else (none))) else (none)))) else (none))) else (none)) else (none))) = some (r1, r2) := by rw [if_neg (show ¬ (false = true) by decide)] at H; exact H
        clear H
        have H := H1
        clear H1
        obtain ⟨y221, hy221⟩ : ∃ y_ : List (S67), y_ = (([] : List (S67))) := ⟨_, rfl⟩
        replace H : (if 0 ≤ x6_2 then (if x6_2 ≤ (l0.length : Int) then ((some (l0.take (x6_2 : Int).toNat : List (S67))).bind fun y224 => (if y221.length + y224.length < 8796093022208 then ((some (y221 ++ y224 : List (S67))).bind fun y228 => ((some (([(⟨a1_0, a1_1⟩ : S67)] : List (S67)) : List (S67))).bind fun y231 => (if y228.length + y231.length < 8796093022208 then ((some (y228 ++ y231 : List (S67))).bind fun y234 => (if y234.length + y186.length < 8796093022208 then ((some (y234 ++ y186 : List (S67))).bind fun y237 => ((spec_AreMarks.f kj12 y237).bind fun t240 => (if t240 = true then (some (y237, true)) else ((some (([] : List (S67)) : List (S67))).bind fun y241 => (if y241.length + l0.length < 8796093022208 then (some ((y241 ++ l0), false)) else (none)))))) else (none))) else (none)))) else (none))) else (none)) else (none)) = some (r1, r2) := by first | (rw [hy221]; with_reducible exact H) | (have H2_ := (Option.bind_some _ _).symm.trans H; rw [hy221]; with_reducible exact H2_) | (have H2_ := (Option.bind_some _ _).symm.trans H; with_reducible exact H2_) | with_reducible exact H | (rw [hy221]; exact H) | exact H
        have Ny221 := Aside0.mk hy221
        clear hy221
        by_cases c60 : 0 ≤ x6_2
        ·
         rw [if_pos c60] at H
         have c60b0 := eq_true c60
         have c60b1 : decide (0 ≤ x6_2) = true := decide_eq_true c60
         clear c60
         by_cases c61 : x6_2 ≤ (l0.length : Int)
         ·
          rw [if_pos c61] at H
          have c61b0 := eq_true c61
          have c61b1 : decide (x6_2 ≤ (l0.length : Int)) = true := decide_eq_true c61
          clear c61
          obtain ⟨y224, hy224⟩ : ∃ y_ : List (S67), y_ = (l0.take (x6_2 : Int).toNat) := ⟨_, rfl⟩
          replace H : (if y221.length + y224.length < 8796093022208 then ((some (y221 ++ y224 : List (S67))).bind fun y228 => ((some (([(⟨a1_0, a1_1⟩ : S67)] : List (S67)) : List (S67))).bind fun y231 => (if y228.length + y231.length < 8796093022208 then ((some (y228 ++ y231 : List (S67))).bind fun y234 => (if y234.length + y186.length < 8796093022208 then ((some (y234 ++ y186 : List (S67))).bind fun y237 => ((spec_AreMarks.f kj12 y237).bind fun t240 => (if t240 = true then (some (y237, true)) else ((some (([] : List (S67)) : List (S67))).bind fun y241 => (if y241.length + l0.length < 8796093022208 then (some ((y241 ++ l0), false)) else (none)))))) else (none))) else (none)))) else (none)) = some (r1, r2) := by first | (rw [hy224]; with_reducible exact H) | (have H2_ := (Option.bind_some _ _).symm.trans H; rw [hy224]; with_reducible exact H2_) | (have H2_ := (Option.bind_some _ _).symm.trans H; with_reducible exact H2_) | with_reducible exact H | (rw [hy224]; exact H) | exact H
          have Ny224 := Aside0.mk hy224
          clear hy224
          by_cases c62 : y221.length + y224.length < 8796093022208
          ·
           rw [if_pos c62] at H
           have LMc62 := Aside0.mk c62
           clear c62
           obtain ⟨y228, hy228⟩ : ∃ y_ : List (S67), y_ = (y221 ++ y224) := ⟨_, rfl⟩
           replace H : ((some (([(⟨a1_0, a1_1⟩ : S67)] : List (S67)) : List (S67))).bind fun y231 => (if y228.length + y231.length < 8796093022208 then ((some (y228 ++ y231 : List (S67))).bind fun y234 => (if y234.length + y186.length < 8796093022208 then ((some (y234 ++ y186 : List (S67))).bind fun y237 => ((spec_AreMarks.f kj12 y237).bind fun t240 => (if t240 = true then (some (y237, true)) else ((some (([] : List (S67)) : List (S67))).bind fun y241 => (if y241.length + l0.length < 8796093022208 then (some ((y241 ++ l0), false)) else (none)))))) else (none))) else (none))) = some (r1, r2) := by first | (rw [hy228]; with_reducible exact H) | (have H2_ := (Option.bind_some _ _).symm.trans H; rw [hy228]; with_reducible exact H2_) | (have H2_ := (Option.bind_some _ _).symm.trans H; with_reducible exact H2_) | with_reducible exact H | (rw [hy228]; exact H) | exact H
           have Ny228 := Aside0.mk hy228
           clear hy228
           obtain ⟨y231, hy231⟩ : ∃ y_ : List (S67), y_ = (([(⟨a1_0, a1_1⟩ : S67)] : List (S67))) := ⟨_, rfl⟩
           replace H : (if y228.length + y231.length < 8796093022208 then ((some (y228 ++ y231 : List (S67))).bind fun y234 => (if y234.length + y186.length < 8796093022208 then ((some (y234 ++ y186 : List (S67))).bind fun y237 => ((spec_AreMarks.f kj12 y237).bind fun t240 => (if t240 = true then (some (y237, true)) else ((some (([] : List (S67)) : List (S67))).bind fun y241 => (if y241.length + l0.length < 8796093022208 then (some ((y241 ++ l0), false)) else (none)))))) else (none))) else (none)) = some (r1, r2) := by first | (rw [hy231]; with_reducible exact H) | (have H2_ := (Option.bind_some _ _).symm.trans H; rw [hy231]; with_reducible exact H2_) | (have H2_ := (Option.bind_some _ _).symm.trans H; with_reducible exact H2_) | with_reducible exact H | (rw [hy231]; exact H) | exact H
           have Ny231 := Aside0.mk hy231
           clear hy231
           by_cases c63 : y228.length + y231.length < 8796093022208
           ·
            rw [if_pos c63] at H
            have LMc63 := Aside0.mk c63
            clear c63
            obtain ⟨y234, hy234⟩ : ∃ y_ : List (S67), y_ = (y228 ++ y231) := ⟨_, rfl⟩
            replace H : (if y234.length + y186.length < 8796093022208 then ((some (y234 ++ y186 : List (S67))).bind fun y237 => ((spec_AreMarks.f kj12 y237).bind fun t240 => (if t240 = true then (some (y237, true)) else ((some (([] : List (S67)) : List (S67))).bind fun y241 => (if y241.length + l0.length < 8796093022208 then (some ((y241 ++ l0), false)) else (none)))))) else (none)) = some (r1, r2) := by first | (rw [hy234]; with_reducible exact H) | (have H2_ := (Option.bind_some _ _).symm.trans H; rw [hy234]; with_reducible exact H2_) | (have H2_ := (Option.bind_some _ _).symm.trans H; with_reducible exact H2_) | with_reducible exact H | (rw [hy234]; exact H) | exact H
            have Ny234 := Aside0.mk hy234
            clear hy234
            by_cases c64 : y234.length + y186.length < 8796093022208
            ·
             rw [if_pos c64] at H
             have LMc64 := Aside0.mk c64
             clear c64
             obtain ⟨y237, hy237⟩ : ∃ y_ : List (S67), y_ = (y234 ++ y186) := ⟨_, rfl⟩
             replace H : ((spec_AreMarks.f kj12 y237).bind fun t240 => (if t240 = true then (some (y237, true)) else ((some (([] : List (S67)) : List (S67))).bind fun y241 => (if y241.length + l0.length < 8796093022208 then (some ((y241 ++ l0), false)) else (none))))) = some (r1, r2) := by first | (rw [hy237]; with_reducible exact H) | (have H2_ := (Option.bind_some _ _).symm.trans H; rw [hy237]; with_reducible exact H2_) | (have H2_ := (Option.bind_some _ _).symm.trans H; with_reducible exact H2_) | with_reducible exact H | (rw [hy237]; exact H) | exact H
             have Ny237 := Aside0.mk hy237
             clear hy237
             replace H := Option.bind_eq_some_iff.mp H
             obtain ⟨t240, A650, H⟩ := H
             replace H : (if t240 = true then (some (y237, true)) else ((some (([] : List (S67)) : List (S67))).bind fun y241 => (if y241.length + l0.length < 8796093022208 then (some ((y241 ++ l0), false)) else (none)))) = some (r1, r2) := H
             have A65 := Aside0.mk A650
             clear A650
             by_cases c66 : t240 = true
             ·
              subst c66
              have H1 : (some (y237, true)) = some (r1, r2) := by rw [if_pos rfl] at H; exact H
              clear H
              have H := H1
              clear H1
              simp only [Option.some.injEq, Prod.mk.injEq] at H
              obtain ⟨rfl, rfl⟩ := H
              try go_wp2
              have n0_ := Aside0.mk (blk_drew BK184.out)
              have n1_ := Aside0.mk (below_drew1 HB.out)
              clear BK184
              clear HB
              have BK184 := n0_
              have HB := n1_
              clear n0_ n1_
              have q68 : (x6_2 : Int) ≤ ((l0.length : Int) : Int) := of_decide_eq_true as_
              obtain ⟨i068, hi068, _, hsz68, _⟩ := info_parts info67
              have hroom68 : l0.length ≤ c0 := HC0.out
              have hC68 : Kd.C k67 _ A0 l0.length l0 := HR0.out
              have hcut68 := cut_to (P := Try.prog) 34 67 .i64 Try.underlying34 hi068 A0 l0.length c0 x6_2 (of_decide_eq_true as_) q68 hroom68
              have hr68 := Kd.C_take (m := (x6_2 : Int).toNat) hC68 (by omega)
              have hy68 : y224.length = (x6_2 : Int).toNat := (by rw [Ny224.out, List.length_take]; omega)
              rw [← Ny224.out] at hr68
              rw [← hy68] at hcut68
              have HR227 := Aside0.mk hr68
              have HC227 := Aside0.mk (show y224.length ≤ c0 from by omega)
              clear hr68 hC68 hroom68 hi068 hsz68
              have KY68 := Aside0.mk hy68
              clear hy68
              replace q68 := eq_true q68
              refine start_ (n := 11) (S := fun w' => w'.cell? ⟨gb184, 0, none⟩ = some (.int .i64 a1_0) ∧ w'.cell? ⟨gb184, 1, none⟩ = some (.int .i64 a1_1)) (ds := []) M3_30 (by kernel_rfl) rfl rfl ⟨(blk_cell BK184.out 0).trans rfl, (blk_cell BK184.out 1).trans rfl⟩ (fun hHeld => ?_); refine with_tabW spec_PutMark.tab7 spec_PutMark.bits7 (fun HT_ HW_ => ?_)
              generalize wc.drew = w67 at BK184 HB HR227 hHeld ⊢
              refine pu_ 1 (some 43) M3_31 HT_ ?_
              refine pu_ 2 (some 44) M3_32 HT_ ?_
              refine pu_ 3 (some 45) M3_33 HT_ ?_
              refine pu_ 8 (some 50) M3_34 HT_ ?_
              refine tk_ 5 (some 47) M3_35 HT_ HW_ hHeld ?_
              refine join_ (σ := Value × Value × Value) 3 M3_36 (fun s_ => [(42, s_.1), (46, s_.2.1), (48, s_.2.2)]) (fun s_ w' => (w'.cell? ⟨gb184, 0, none⟩ = some (.int .i64 a1_0) ∧ w'.cell? ⟨gb184, 1, none⟩ = some (.int .i64 a1_1)) ∧ (Kd.R k67 67 w' w.heap.size (fun k_ => some k_ ≠ (s_.2.2 : Value).ownBlock ∧ k_ ≠ gb184) s_.2.1 y228) ∧ (Kd.R k67 67 w' w.heap.size (fun k_ => some k_ ≠ (s_.2.1 : Value).ownBlock ∧ k_ ≠ gb184) s_.2.2 y231) ∧ (w'.heap[gb184]? = some (.cells #[.int .i64 a1_0, .int .i64 a1_1] 67 (0, 0))) ∧ (Below w.heap.size w w')) ?_ ?_
              rotate_left
              ·
               intro hCont
               refine two_ (i := 0) (j := 6) (Ni := some 42) (Nj := some 48) M3_37 M3_38 rfl rfl rfl rfl (two_of HT_.out (by kernel_rfl)) (by decide) (by decide) (fun K hK => ?_) (fun K hK => ?_)
               ·
                skip
                refine Kd.R_lit_step k67 _ 67 ?hg (N := 42) ?hd (xs := ([] : List (S67))) (inner := []) (ok := fun _ => True) (okp := fun _ => True) ?hr ?hp (fun _ hk => hk) trivial (Below.refl _ _) (Nat.le_refl _) (by simp) ?_; (case hd => rfl); (case hg => rfl); (case hr => first | (go_simp; done) | (go_simp; rfl)); (case hp => exact (Reps.none _ _))
                intro v222 w69 ho70 hb hg_ hnew_
                clear hg_ hnew_
                (first | rw [← Ny221.out] at ho70 | (simp only [Int.reduceToNat] at ho70; rw [← Ny221.out] at ho70))
                have HO223 := Aside0.mk (Kd.R_lower (Kd.R_newB ho70 (g := gb184) (o := .cells #[.int .i64 a1_0, .int .i64 a1_1] 67 (0, 0)) (bd_ BK184.out)) (below_size y52_))
                have n1_ := Aside0.mk (blk_below (bd_ BK184.out) hb)
                have n2_ := Aside0.mk (below_step y52_ hb)
                clear BK184
                clear HB
                have BK184 := n1_
                have HB := n2_
                clear n1_ n2_
                clear hb ho70
                refine hK.out _ _ ⟨(blk_cell BK184.out 0).trans rfl, (blk_cell BK184.out 1).trans rfl⟩ (fun hHeld => ?_)
                clear hK K
                refine norm_ (a' := ?_) ?_ ?_
                rotate_left
                ·
                 show Act.put _ (some 42) _ = _
                 simp only [Act.put, P3_1, P3_2, P3_3, i64_w, i32_w]
                 rfl
                refine two_ (i := 4) (j := 6) (Ni := some 46) (Nj := some 48) M3_39 M3_40 rfl rfl rfl rfl (two_of HT_.out (by kernel_rfl)) (by decide) (by decide) (fun K hK => ?_) (fun K hK => ?_)
                ·
                 skip
                 refine Kd.R_append_rows_step k67 (w0 := w) w.heap.size (by rfl) (.tmp 42) (.tmp 45) 34 67 (.agg #[(.int .i64 0), (.int .i64 0)]) 16 rfl Try.underlying34 info67 rfl (by decide) (by omega) v222 y221 y224 _ _ _ (fun k_ => k_ ≠ gb184) (fun _ => False) rfl rfl ?aO ?aR (fun _ _ h => h) (fun _ h => h.elim) ?aF ?aB ?aS ?aL ?_
                 (case aR => repeat (first | exact (Kd.C_below HR227.out HB.out) | (with_reducible refine Kd.C_alloc ?_ _) | (with_reducible refine Kd.C_drewN ?_ _) | (with_reducible refine Kd.C_drew ?_)))
                 (case aB => exact y52_)
                 (case aF => exact (fun k_ hk => Kd.freshB (g := gb184) (o := .cells #[.int .i64 a1_0, .int .i64 a1_1] 67 (0, 0)) (bd_ BK184.out) k_ hk))
                 (case aO => exact (by (with_reducible repeat (first | apply Kd.R_alloc | apply Kd.R_drewN | apply Kd.R_drew)); exact Kd.R_mono HO223.out (fun _ hk => hk.2)))
                 (case aS => exact (below_size y52_))
                 (case aL => have := LMc62.out; omega)
                 intro v229 w71 ho hb hg hat
                 rw [← Ny228.out] at ho
                 have n0_ := Aside0.mk (blk_grown (g := gb184) (o := .cells #[.int .i64 a1_0, .int .i64 a1_1] 67 (0, 0)) (bd_ BK184.out) hg (Kd.R_away HO223.out (fun _ hk => hk.2)))
                 have n1_ := Aside0.mk (hb)
                 have HO230 := Aside0.mk (ho)
                 clear BK184
                 clear HB
                 clear HO223
                 have BK184 := n0_
                 have HB := n1_
                 clear n0_ n1_
                 clear ho hb hg hat
                 refine hK.out _ _ ⟨(blk_cell BK184.out 0).trans rfl, (blk_cell BK184.out 1).trans rfl⟩ (fun hHeld => ?_)
                 clear hK K
                 refine norm_ (a' := ?_) ?_ ?_
                 rotate_left
                 ·
                  show Act.put _ (some 46) _ = _
                  simp only [Act.put, P3_1, P3_2, P3_3, i64_w, i32_w]
                  rfl
                 refine one_ (i := 6) (N := some 48) M3_36 rfl rfl (one_of HT_.out (by kernel_rfl)) (by decide) (fun K hK => ?_)
                 refine Kd.R_lit_step k67 _ 67 ?hg (N := 48) ?hd (xs := ([(⟨a1_0, a1_1⟩ : S67)] : List (S67))) (inner := [.int .i64 a1_0, .int .i64 a1_1]) (ok := fun _ => True) (okp := fun _ => True) ?hr ?hp (fun _ hk => hk) trivial (Below.refl _ _) (Nat.le_refl _) (by simp) ?_; (case hd => rfl); (case hg => rfl); (case hr => first | (go_simp; done) | (go_simp; rfl)); (case hp => exact (Reps.c2 (show Kd.M k67 _ _ _ (⟨a1_0, a1_1⟩ : S67) [.int .i64 a1_0, .int .i64 a1_1] from (k67_mkM _ _ _ (⟨a1_0, a1_1⟩ : S67) )) (Reps.none _ _)))
                 intro v232 w72 ho73 hb hg_ hnew_
                 clear hg_ hnew_
                 (first | rw [← Ny231.out] at ho73 | (simp only [Int.reduceToNat] at ho73; rw [← Ny231.out] at ho73))
                 have n0_ := Aside0.mk (Kd.R_elder' (rd_ HO230.out) (Kd.R_base ho73) hb)
                 have HO233 := Aside0.mk (Kd.R_lower (Kd.R_newB (Kd.R_new' ho73 (Kd.R_lt (rd_ HO230.out))) (g := gb184) (o := .cells #[.int .i64 a1_0, .int .i64 a1_1] 67 (0, 0)) (bd_ BK184.out)) (below_size y52_))
                 have n2_ := Aside0.mk (blk_below (bd_ BK184.out) hb)
                 have n3_ := Aside0.mk (below_step y52_ hb)
                 clear HO230
                 clear BK184
                 clear HB
                 have HO230 := n0_
                 have BK184 := n2_
                 have HB := n3_
                 clear n0_ n2_ n3_
                 clear hb ho73
                 refine hK.out _ _ ⟨(blk_cell BK184.out 0).trans rfl, (blk_cell BK184.out 1).trans rfl⟩ (fun hHeld => ?_)
                 clear hK K
                 refine norm_ (a' := ?_) ?_ ?_
                 rotate_left
                 ·
                  show Act.put _ (some 48) _ = _
                  simp only [Act.put, P3_1, P3_2, P3_3, i64_w, i32_w]
                  rfl
                 exact norm_ y57_ (hCont (v222, v229, v232) _ ⟨hHeld, (by (with_reducible repeat (first | apply Kd.R_alloc | apply Kd.R_drewN | apply Kd.R_drew)); exact Kd.R_mono HO230.out (fun _ hk => ⟨hk.2, hk.1⟩)), y66_, bd_ BK184.out, y52_⟩)
                ·
                 skip
                 refine Kd.R_lit_step k67 _ 67 ?hg (N := 48) ?hd (xs := ([(⟨a1_0, a1_1⟩ : S67)] : List (S67))) (inner := [.int .i64 a1_0, .int .i64 a1_1]) (ok := fun _ => True) (okp := fun _ => True) ?hr ?hp (fun _ hk => hk) trivial (Below.refl _ _) (Nat.le_refl _) (by simp) ?_; (case hd => rfl); (case hg => rfl); (case hr => first | (go_simp; done) | (go_simp; rfl)); (case hp => exact (Reps.c2 (show Kd.M k67 _ _ _ (⟨a1_0, a1_1⟩ : S67) [.int .i64 a1_0, .int .i64 a1_1] from (k67_mkM _ _ _ (⟨a1_0, a1_1⟩ : S67) )) (Reps.none _ _)))
                 intro v232 w71 ho72 hb hg_ hnew_
                 clear hg_ hnew_
                 (first | rw [← Ny231.out] at ho72 | (simp only [Int.reduceToNat] at ho72; rw [← Ny231.out] at ho72))
                 have n0_ := Aside0.mk (Kd.R_elder' (rd_ HO223.out) (Kd.R_base ho72) hb)
                 have HO233 := Aside0.mk (Kd.R_lower (Kd.R_newB (Kd.R_new' ho72 (Kd.R_lt (rd_ HO223.out))) (g := gb184) (o := .cells #[.int .i64 a1_0, .int .i64 a1_1] 67 (0, 0)) (bd_ BK184.out)) (below_size y52_))
                 have n2_ := Aside0.mk (blk_below (bd_ BK184.out) hb)
                 have n3_ := Aside0.mk (below_step y52_ hb)
                 clear HO223
                 clear BK184
                 clear HB
                 have HO223 := n0_
                 have BK184 := n2_
                 have HB := n3_
                 clear n0_ n2_ n3_
                 clear hb ho72
                 refine hK.out _ _ ⟨(blk_cell BK184.out 0).trans rfl, (blk_cell BK184.out 1).trans rfl⟩ (fun hHeld => ?_)
                 clear hK K
                 refine norm_ (a' := ?_) ?_ ?_
                 rotate_left
                 ·
                  show Act.put _ (some 48) _ = _
                  simp only [Act.put, P3_1, P3_2, P3_3, i64_w, i32_w]
                  rfl
                 refine one_ (i := 4) (N := some 46) M3_36 rfl rfl (one_of HT_.out (by kernel_rfl)) (by decide) (fun K hK => ?_)
                 refine Kd.R_append_rows_step k67 (w0 := w) w.heap.size (by rfl) (.tmp 42) (.tmp 45) 34 67 (.agg #[(.int .i64 0), (.int .i64 0)]) 16 rfl Try.underlying34 info67 rfl (by decide) (by omega) v222 y221 y224 _ _ _ (fun k_ => some k_ ≠ (v232 : Value).ownBlock ∧ k_ ≠ gb184) (fun _ => False) rfl rfl ?aO ?aR (fun _ _ h => h) (fun _ h => h.elim) ?aF ?aB ?aS ?aL ?_
                 (case aR => repeat (first | exact (Kd.C_below HR227.out HB.out) | (with_reducible refine Kd.C_alloc ?_ _) | (with_reducible refine Kd.C_drewN ?_ _) | (with_reducible refine Kd.C_drew ?_)))
                 (case aB => exact y52_)
                 (case aF => exact (fun k_ hk => ⟨Kd.fresh' (Kd.R_lt (rd_ HO233.out)) k_ hk, Kd.freshB (g := gb184) (o := .cells #[.int .i64 a1_0, .int .i64 a1_1] 67 (0, 0)) (bd_ BK184.out) k_ hk⟩))
                 (case aO => exact (by (with_reducible repeat (first | apply Kd.R_alloc | apply Kd.R_drewN | apply Kd.R_drew)); exact Kd.R_mono HO223.out (fun _ hk => ⟨hk.2, hk.1.2⟩)))
                 (case aS => exact (below_size y52_))
                 (case aL => have := LMc62.out; omega)
                 intro v229 w73 ho hb hg hat
                 rw [← Ny228.out] at ho
                 have n0_ := Aside0.mk (blk_grown (g := gb184) (o := .cells #[.int .i64 a1_0, .int .i64 a1_1] 67 (0, 0)) (bd_ BK184.out) hg (Kd.R_away HO223.out (fun _ hk => hk.1.2)))
                 have n1_ := Aside0.mk (Kd.R_after (ok := (fun k_ => k_ ≠ gb184)) (by (with_reducible repeat (first | apply Kd.R_alloc | apply Kd.R_drewN | apply Kd.R_drew)); exact Kd.R_mono HO233.out (fun _ hk => ⟨hk.2, hk.1.2⟩)) hg hat)
                 have n2_ := Aside0.mk (hb)
                 have HO230 := Aside0.mk (ho)
                 clear BK184
                 clear HO233
                 clear HB
                 clear HO223
                 have BK184 := n0_
                 have HO233 := n1_
                 have HB := n2_
                 clear n0_ n1_ n2_
                 clear ho hb hg hat
                 refine hK.out _ _ ⟨(blk_cell BK184.out 0).trans rfl, (blk_cell BK184.out 1).trans rfl⟩ (fun hHeld => ?_)
                 clear hK K
                 refine norm_ (a' := ?_) ?_ ?_
                 rotate_left
                 ·
                  show Act.put _ (some 46) _ = _
                  simp only [Act.put, P3_1, P3_2, P3_3, i64_w, i32_w]
                  rfl
                 exact norm_ y57_ (hCont (v222, v229, v232) _ ⟨hHeld, rd_ HO230.out, y62_, bd_ BK184.out, y52_⟩)
               ·
                skip
                refine Kd.R_lit_step k67 _ 67 ?hg (N := 48) ?hd (xs := ([(⟨a1_0, a1_1⟩ : S67)] : List (S67))) (inner := [.int .i64 a1_0, .int .i64 a1_1]) (ok := fun _ => True) (okp := fun _ => True) ?hr ?hp (fun _ hk => hk) trivial (Below.refl _ _) (Nat.le_refl _) (by simp) ?_; (case hd => rfl); (case hg => rfl); (case hr => first | (go_simp; done) | (go_simp; rfl)); (case hp => exact (Reps.c2 (show Kd.M k67 _ _ _ (⟨a1_0, a1_1⟩ : S67) [.int .i64 a1_0, .int .i64 a1_1] from (k67_mkM _ _ _ (⟨a1_0, a1_1⟩ : S67) )) (Reps.none _ _)))
                intro v232 w69 ho70 hb hg_ hnew_
                clear hg_ hnew_
                (first | rw [← Ny231.out] at ho70 | (simp only [Int.reduceToNat] at ho70; rw [← Ny231.out] at ho70))
                have HO233 := Aside0.mk (Kd.R_lower (Kd.R_newB ho70 (g := gb184) (o := .cells #[.int .i64 a1_0, .int .i64 a1_1] 67 (0, 0)) (bd_ BK184.out)) (below_size y52_))
                have n1_ := Aside0.mk (blk_below (bd_ BK184.out) hb)
                have n2_ := Aside0.mk (below_step y52_ hb)
                clear BK184
                clear HB
                have BK184 := n1_
                have HB := n2_
                clear n1_ n2_
                clear hb ho70
                refine hK.out _ _ ⟨(blk_cell BK184.out 0).trans rfl, (blk_cell BK184.out 1).trans rfl⟩ (fun hHeld => ?_)
                clear hK K
                refine norm_ (a' := ?_) ?_ ?_
                rotate_left
                ·
                 show Act.put _ (some 48) _ = _
                 simp only [Act.put, P3_1, P3_2, P3_3, i64_w, i32_w]
                 rfl
                refine one_ (i := 0) (N := some 42) M3_40 rfl rfl (one_of HT_.out (by kernel_rfl)) (by decide) (fun K hK => ?_)
                refine Kd.R_lit_step k67 _ 67 ?hg (N := 42) ?hd (xs := ([] : List (S67))) (inner := []) (ok := fun _ => True) (okp := fun _ => True) ?hr ?hp (fun _ hk => hk) trivial (Below.refl _ _) (Nat.le_refl _) (by simp) ?_; (case hd => rfl); (case hg => rfl); (case hr => first | (go_simp; done) | (go_simp; rfl)); (case hp => exact (Reps.none _ _))
                intro v222 w71 ho72 hb hg_ hnew_
                clear hg_ hnew_
                (first | rw [← Ny221.out] at ho72 | (simp only [Int.reduceToNat] at ho72; rw [← Ny221.out] at ho72))
                have n0_ := Aside0.mk (Kd.R_elder' (rd_ HO233.out) (Kd.R_base ho72) hb)
                have HO223 := Aside0.mk (Kd.R_lower (Kd.R_newB (Kd.R_new' ho72 (Kd.R_lt (rd_ HO233.out))) (g := gb184) (o := .cells #[.int .i64 a1_0, .int .i64 a1_1] 67 (0, 0)) (bd_ BK184.out)) (below_size y52_))
                have n2_ := Aside0.mk (blk_below (bd_ BK184.out) hb)
                have n3_ := Aside0.mk (below_step y52_ hb)
                clear HO233
                clear BK184
                clear HB
                have HO233 := n0_
                have BK184 := n2_
                have HB := n3_
                clear n0_ n2_ n3_
                clear hb ho72
                refine hK.out _ _ ⟨(blk_cell BK184.out 0).trans rfl, (blk_cell BK184.out 1).trans rfl⟩ (fun hHeld => ?_)
                clear hK K
                refine norm_ (a' := ?_) ?_ ?_
                rotate_left
                ·
                 show Act.put _ (some 42) _ = _
                 simp only [Act.put, P3_1, P3_2, P3_3, i64_w, i32_w]
                 rfl
                refine one_ (i := 4) (N := some 46) M3_36 rfl rfl (one_of HT_.out (by kernel_rfl)) (by decide) (fun K hK => ?_)
                refine Kd.R_append_rows_step k67 (w0 := w) w.heap.size (by rfl) (.tmp 42) (.tmp 45) 34 67 (.agg #[(.int .i64 0), (.int .i64 0)]) 16 rfl Try.underlying34 info67 rfl (by decide) (by omega) v222 y221 y224 _ _ _ (fun k_ => some k_ ≠ (v232 : Value).ownBlock ∧ k_ ≠ gb184) (fun _ => False) rfl rfl ?aO ?aR (fun _ _ h => h) (fun _ h => h.elim) ?aF ?aB ?aS ?aL ?_
                (case aR => repeat (first | exact (Kd.C_below HR227.out HB.out) | (with_reducible refine Kd.C_alloc ?_ _) | (with_reducible refine Kd.C_drewN ?_ _) | (with_reducible refine Kd.C_drew ?_)))
                (case aB => exact y52_)
                (case aF => exact (fun k_ hk => ⟨Kd.fresh' (Kd.R_lt (rd_ HO233.out)) k_ hk, Kd.freshB (g := gb184) (o := .cells #[.int .i64 a1_0, .int .i64 a1_1] 67 (0, 0)) (bd_ BK184.out) k_ hk⟩))
                (case aO => exact (by (with_reducible repeat (first | apply Kd.R_alloc | apply Kd.R_drewN | apply Kd.R_drew)); exact Kd.R_mono HO223.out (fun _ hk => ⟨hk.1.2, hk.2⟩)))
                (case aS => exact (below_size y52_))
                (case aL => have := LMc62.out; omega)
                intro v229 w73 ho hb hg hat
                rw [← Ny228.out] at ho
                have n0_ := Aside0.mk (blk_grown (g := gb184) (o := .cells #[.int .i64 a1_0, .int .i64 a1_1] 67 (0, 0)) (bd_ BK184.out) hg (Kd.R_away HO223.out (fun _ hk => hk.2)))
                have n1_ := Aside0.mk (Kd.R_after (ok := (fun k_ => k_ ≠ gb184)) y66_ hg hat)
                have n2_ := Aside0.mk (hb)
                have HO230 := Aside0.mk (ho)
                clear BK184
                clear HO233
                clear HB
                clear HO223
                have BK184 := n0_
                have HO233 := n1_
                have HB := n2_
                clear n0_ n1_ n2_
                clear ho hb hg hat
                refine hK.out _ _ ⟨(blk_cell BK184.out 0).trans rfl, (blk_cell BK184.out 1).trans rfl⟩ (fun hHeld => ?_)
                clear hK K
                refine norm_ (a' := ?_) ?_ ?_
                rotate_left
                ·
                 show Act.put _ (some 46) _ = _
                 simp only [Act.put, P3_1, P3_2, P3_3, i64_w, i32_w]
                 rfl
                exact norm_ y57_ (hCont (v222, v229, v232) _ ⟨hHeld, rd_ HO230.out, y62_, bd_ BK184.out, y52_⟩)
              rintro ⟨v222, v229, v232⟩ w74 ⟨hS_, h0_, h1_, h2_, h3_⟩
              have HO230 : Aside0 (Kd.R k67 67 w74 w.heap.size (fun k_ => some k_ ≠ (v232 : Value).ownBlock ∧ k_ ≠ gb184) v229 y228) := ⟨h0_⟩
              have HO233 : Aside0 (Kd.R k67 67 w74 w.heap.size (fun k_ => some k_ ≠ (v229 : Value).ownBlock ∧ k_ ≠ gb184) v232 y231) := ⟨h1_⟩
              have n2_ : Aside0 (w74.heap[gb184]? = some (.cells #[.int .i64 a1_0, .int .i64 a1_1] 67 (0, 0))) := ⟨h2_⟩
              have n3_ : Aside0 (Below w.heap.size w w74) := ⟨h3_⟩
              clear BK184
              clear HB
              clear h0_ h1_ h2_ h3_
              have BK184 := n2_
              have HB := n3_
              clear n2_ n3_
              have hHeld : w74.cell? ⟨gb184, 0, none⟩ = some (.int .i64 a1_0) ∧ w74.cell? ⟨gb184, 1, none⟩ = some (.int .i64 a1_1) := hS_
              obtain ⟨Ao76, co76, eo76⟩ := Kd.R_slice HO233.out
              (first | subst eo76 | (injection eo76 with f1_ f2_ f3_; have f4_ := f1_.symm; have f5_ := f3_.symm; clear f1_ f2_ f3_; subst f4_; subst f5_))
              refine norm_ (a' := ?_) ?_ ?_
              rotate_left
              ·
               simp only [putAll, Act.put, List.setIfInBounds_toArray, List.set_cons_zero, List.set_cons_succ]
               rfl
              refine one_ (i := 7) (N := some 49) M3_41 rfl rfl (one_of HT_.out (by kernel_rfl)) (by decide) (fun K hK => ?_)
              refine Kd.R_append_rows_step k67 (w0 := w) w.heap.size (by rfl) (.tmp 46) (.tmp 48) 34 67 (.agg #[(.int .i64 0), (.int .i64 0)]) 16 rfl Try.underlying34 info67 rfl (by decide) (by omega) v229 y228 y231 _ _ _ (fun k_ => some k_ ≠ (.slice Ao76 y231.length co76 : Value).ownBlock ∧ k_ ≠ gb184) (fun _ => False) rfl rfl ?aO ?aR (fun _ _ h => h) (fun _ h => h.elim) ?aF ?aB ?aS ?aL ?_
              (case aR => repeat (first | exact (Kd.R_reads' HO233.out).2.2 | (with_reducible refine Kd.C_alloc ?_ _) | (with_reducible refine Kd.C_drewN ?_ _) | (with_reducible refine Kd.C_drew ?_)))
              (case aB => exact y52_)
              (case aF => exact (fun k_ hk => ⟨Kd.fresh' (Kd.R_lt (rd_ HO233.out)) k_ hk, Kd.freshB (g := gb184) (o := .cells #[.int .i64 a1_0, .int .i64 a1_1] 67 (0, 0)) (bd_ BK184.out) k_ hk⟩))
              (case aO => exact rd_ HO230.out)
              (case aS => exact (below_size y52_))
              (case aL => have := LMc63.out; omega)
              intro v235 w75 ho hb hg hat
              rw [← Ny234.out] at ho
              have n0_ := Aside0.mk (blk_grown (g := gb184) (o := .cells #[.int .i64 a1_0, .int .i64 a1_1] 67 (0, 0)) (bd_ BK184.out) hg (Kd.R_away HO230.out (fun _ hk => hk.2)))
              have n1_ := Aside0.mk (Kd.R_after (ok := (fun k_ => k_ ≠ gb184)) y62_ hg hat)
              have n2_ := Aside0.mk (hb)
              have HO236 := Aside0.mk (ho)
              clear BK184
              clear HO233
              clear HB
              clear HO230
              have BK184 := n0_
              have HO233 := n1_
              have HB := n2_
              clear n0_ n1_ n2_
              clear ho hb hg hat
              refine hK.out _ _ ⟨(blk_cell BK184.out 0).trans rfl, (blk_cell BK184.out 1).trans rfl⟩ (fun hHeld => ?_)
              clear hK K
              refine norm_ (a' := ?_) ?_ ?_
              rotate_left
              ·
               show Act.put _ (some 49) _ = _
               simp only [Act.put, P3_1, P3_2, P3_3, i64_w, i32_w]
               rfl
              refine one_ (i := 9) (N := some 51) M3_42 rfl rfl (one_of HT_.out (by kernel_rfl)) (by decide) (fun K hK => ?_)
              refine Kd.R_append_rows_step k67 (w0 := w) w.heap.size (by rfl) (.tmp 49) (.tmp 50) 34 67 (.agg #[(.int .i64 0), (.int .i64 0)]) 16 rfl Try.underlying34 info67 rfl (by decide) (by omega) v235 y234 y186 _ _ _ (fun k_ => some k_ ≠ (.slice Ao76 y231.length co76 : Value).ownBlock ∧ k_ ≠ gb184) (fun _ => False) rfl rfl ?aO ?aR (fun _ _ h => h) (fun _ h => h.elim) ?aF ?aB ?aS ?aL ?_
              (case aR => repeat (first | exact (Kd.C_below HR189.out HB.out) | (with_reducible refine Kd.C_alloc ?_ _) | (with_reducible refine Kd.C_drewN ?_ _) | (with_reducible refine Kd.C_drew ?_)))
              (case aB => exact y52_)
              (case aF => exact (fun k_ hk => ⟨Kd.fresh' (Kd.R_lt (rd_ HO233.out)) k_ hk, Kd.freshB (g := gb184) (o := .cells #[.int .i64 a1_0, .int .i64 a1_1] 67 (0, 0)) (bd_ BK184.out) k_ hk⟩))
              (case aO => exact (rd_ HO236.out))
              (case aS => exact (below_size y52_))
              (case aL => have := LMc64.out; omega)
              intro v238 w77 ho hb hg hat
              rw [← Ny237.out] at ho
              have n0_ := Aside0.mk (blk_grown (g := gb184) (o := .cells #[.int .i64 a1_0, .int .i64 a1_1] 67 (0, 0)) (bd_ BK184.out) hg (Kd.R_away HO236.out (fun _ hk => hk.2)))
              have n1_ := Aside0.mk (Kd.R_after (ok := (fun k_ => k_ ≠ gb184)) (rd_ HO233.out) hg hat)
              have n2_ := Aside0.mk (hb)
              have HO239 := Aside0.mk (ho)
              clear BK184
              clear HO233
              clear HB
              clear HO236
              have BK184 := n0_
              have HO233 := n1_
              have HB := n2_
              clear n0_ n1_ n2_
              clear ho hb hg hat
              refine hK.out _ _ ⟨(blk_cell BK184.out 0).trans rfl, (blk_cell BK184.out 1).trans rfl⟩ (fun hHeld => ?_)
              clear hK K
              refine norm_ (a' := ?_) ?_ ?_
              rotate_left
              ·
               show Act.put _ (some 51) _ = _
               simp only [Act.put, P3_1, P3_2, P3_3, i64_w, i32_w]
               rfl
              refine pu_ 10 (some 8) M3_43 HT_ ?_
              refine done_ (done_of HT_.out (by kernel_rfl)) ?_
              obtain ⟨Ao78, co78, eo78⟩ := Kd.R_slice HO239.out
              subst eo78
              try go_wp2_with (first | ((with_reducible refine gate_callee (f := 43) rfl ?_); refine goesL_ (some 53) rfl rfl Try.func43 (by kernel_rfl) rfl #[.slice Ao78 y237.length co78] rfl ma_ ?_; (with_reducible refine (spec_AreMarks.calls kj12 _ _ y237 true _ ?side1 ?side2 A65.out).mono ?_); (case side1 => exact cd_ (Kd.R_reads' HO239.out).2.2); (case side2 => exact (Kd.R_reads' HO239.out).2.1); rintro e w79 ⟨rfl, hb⟩; refine ⟨_, rfl, ?_⟩; have n0_ := Aside0.mk (Kd.R_below (rd_ HO233.out) hb); have n1_ := Aside0.mk (Kd.R_below (rd_ HO239.out) hb); have n2_ := Aside0.mk (blk_below (bd_ BK184.out) hb); have n3_ := Aside0.mk (below_step y52_ hb); clear HO233; clear HO239; clear BK184; clear HB; have HO233 := n0_; have HO239 := n1_; have BK184 := n2_; have HB := n3_; clear n0_ n1_ n2_ n3_; (try clear hb); (try clear hb2); (try clear hk); (try clear hi)))
              go_ret2
              exact ⟨_, by first | rfl | (simp [errW_none, errW_some] <;> rfl) | (simp [*, errW_none, errW_some] <;> rfl), by (with_reducible repeat (first | apply Kd.R_alloc | apply Kd.R_drewN | apply Kd.R_drew)); exact Kd.R_mono HO239.out (fun _ hk => trivial), y56_⟩
             ·
              replace c66 := Bool.eq_false_iff.mpr c66
              subst c66
              have H1 : ((some (([] : List (S67)) : List (S67))).bind fun y241 => (if y241.length + l0.length < 8796093022208 then (some ((y241 ++ l0), false)) else (none))) = some (r1, r2) := by rw [if_neg (show ¬ (false = true) by decide)] at H; exact H
              clear H
              have H := H1
              clear H1
              obtain ⟨y241, hy241⟩ : ∃ y_ : List (S67), y_ = (([] : List (S67))) := ⟨_, rfl⟩
              replace H : (if y241.length + l0.length < 8796093022208 then (some ((y241 ++ l0), false)) else (none)) = some (r1, r2) := by first | (rw [hy241]; with_reducible exact H) | (have H2_ := (Option.bind_some _ _).symm.trans H; rw [hy241]; with_reducible exact H2_) | (have H2_ := (Option.bind_some _ _).symm.trans H; with_reducible exact H2_) | with_reducible exact H | (rw [hy241]; exact H) | exact H
              have Ny241 := Aside0.mk hy241
              clear hy241
              by_cases c80 : y241.length + l0.length < 8796093022208
              ·
               rw [if_pos c80] at H
               have LMc80 := Aside0.mk c80
               clear c80
               obtain ⟨y244, hy244⟩ : ∃ y_ : List (S67), y_ = (y241 ++ l0) := ⟨_, rfl⟩
               replace H : (some (y244, false)) = some (r1, r2) := by first | (rw [hy244]; with_reducible exact H) | (have H2_ := (Option.bind_some _ _).symm.trans H; rw [hy244]; with_reducible exact H2_) | (have H2_ := (Option.bind_some _ _).symm.trans H; with_reducible exact H2_) | with_reducible exact H | (rw [hy244]; exact H) | exact H
               have Ny244 := Aside0.mk hy244
               clear hy244
               simp only [Option.some.injEq, Prod.mk.injEq] at H
               obtain ⟨rfl, rfl⟩ := H
               try go_wp2
               have n0_ := Aside0.mk (blk_drew BK184.out)
               have n1_ := Aside0.mk (below_drew1 HB.out)
               clear BK184
               clear HB
               have BK184 := n0_
               have HB := n1_
               clear n0_ n1_
               have q82 : (x6_2 : Int) ≤ ((l0.length : Int) : Int) := of_decide_eq_true as_
               obtain ⟨i082, hi082, _, hsz82, _⟩ := info_parts info67
               have hroom82 : l0.length ≤ c0 := HC0.out
               have hC82 : Kd.C k67 _ A0 l0.length l0 := HR0.out
               have hcut82 := cut_to (P := Try.prog) 34 67 .i64 Try.underlying34 hi082 A0 l0.length c0 x6_2 (of_decide_eq_true as_) q82 hroom82
               have hr82 := Kd.C_take (m := (x6_2 : Int).toNat) hC82 (by omega)
               have hy82 : y224.length = (x6_2 : Int).toNat := (by rw [Ny224.out, List.length_take]; omega)
               rw [← Ny224.out] at hr82
               rw [← hy82] at hcut82
               have HR227 := Aside0.mk hr82
               have HC227 := Aside0.mk (show y224.length ≤ c0 from by omega)
               clear hr82 hC82 hroom82 hi082 hsz82
               have KY82 := Aside0.mk hy82
               clear hy82
               replace q82 := eq_true q82
               refine start_ (n := 11) (S := fun w' => w'.cell? ⟨gb184, 0, none⟩ = some (.int .i64 a1_0) ∧ w'.cell? ⟨gb184, 1, none⟩ = some (.int .i64 a1_1)) (ds := []) M3_30 (by kernel_rfl) rfl rfl ⟨(blk_cell BK184.out 0).trans rfl, (blk_cell BK184.out 1).trans rfl⟩ (fun hHeld => ?_); refine with_tabW spec_PutMark.tab7 spec_PutMark.bits7 (fun HT_ HW_ => ?_)
               generalize wc.drew = w81 at BK184 HB HR227 hHeld ⊢
               refine pu_ 1 (some 43) M3_31 HT_ ?_
               refine pu_ 2 (some 44) M3_32 HT_ ?_
               refine pu_ 3 (some 45) M3_33 HT_ ?_
               refine pu_ 8 (some 50) M3_34 HT_ ?_
               refine tk_ 5 (some 47) M3_35 HT_ HW_ hHeld ?_
               refine join_ (σ := Value × Value × Value) 3 M3_36 (fun s_ => [(42, s_.1), (46, s_.2.1), (48, s_.2.2)]) (fun s_ w' => (w'.cell? ⟨gb184, 0, none⟩ = some (.int .i64 a1_0) ∧ w'.cell? ⟨gb184, 1, none⟩ = some (.int .i64 a1_1)) ∧ (Kd.R k67 67 w' w.heap.size (fun k_ => some k_ ≠ (s_.2.2 : Value).ownBlock ∧ k_ ≠ gb184) s_.2.1 y228) ∧ (Kd.R k67 67 w' w.heap.size (fun k_ => some k_ ≠ (s_.2.1 : Value).ownBlock ∧ k_ ≠ gb184) s_.2.2 y231) ∧ (w'.heap[gb184]? = some (.cells #[.int .i64 a1_0, .int .i64 a1_1] 67 (0, 0))) ∧ (Below w.heap.size w w')) ?_ ?_
               rotate_left
               ·
                intro hCont
                refine two_ (i := 0) (j := 6) (Ni := some 42) (Nj := some 48) M3_37 M3_38 rfl rfl rfl rfl (two_of HT_.out (by kernel_rfl)) (by decide) (by decide) (fun K hK => ?_) (fun K hK => ?_)
                ·
                 skip
                 refine Kd.R_lit_step k67 _ 67 ?hg (N := 42) ?hd (xs := ([] : List (S67))) (inner := []) (ok := fun _ => True) (okp := fun _ => True) ?hr ?hp (fun _ hk => hk) trivial (Below.refl _ _) (Nat.le_refl _) (by simp) ?_; (case hd => rfl); (case hg => rfl); (case hr => first | (go_simp; done) | (go_simp; rfl)); (case hp => exact (Reps.none _ _))
                 intro v222 w83 ho84 hb hg_ hnew_
                 clear hg_ hnew_
                 (first | rw [← Ny221.out] at ho84 | (simp only [Int.reduceToNat] at ho84; rw [← Ny221.out] at ho84))
                 have HO223 := Aside0.mk (Kd.R_lower (Kd.R_newB ho84 (g := gb184) (o := .cells #[.int .i64 a1_0, .int .i64 a1_1] 67 (0, 0)) (bd_ BK184.out)) (below_size y52_))
                 have n1_ := Aside0.mk (blk_below (bd_ BK184.out) hb)
                 have n2_ := Aside0.mk (below_step y52_ hb)
                 clear BK184
                 clear HB
                 have BK184 := n1_
                 have HB := n2_
                 clear n1_ n2_
                 clear hb ho84
                 refine hK.out _ _ ⟨(blk_cell BK184.out 0).trans rfl, (blk_cell BK184.out 1).trans rfl⟩ (fun hHeld => ?_)
                 clear hK K
                 refine norm_ (a' := ?_) ?_ ?_
                 rotate_left
                 ·
                  show Act.put _ (some 42) _ = _
                  simp only [Act.put, P3_1, P3_2, P3_3, i64_w, i32_w]
                  rfl
                 refine two_ (i := 4) (j := 6) (Ni := some 46) (Nj := some 48) M3_39 M3_40 rfl rfl rfl rfl (two_of HT_.out (by kernel_rfl)) (by decide) (by decide) (fun K hK => ?_) (fun K hK => ?_)
                 ·
                  skip
                  refine Kd.R_append_rows_step k67 (w0 := w) w.heap.size (by rfl) (.tmp 42) (.tmp 45) 34 67 (.agg #[(.int .i64 0), (.int .i64 0)]) 16 rfl Try.underlying34 info67 rfl (by decide) (by omega) v222 y221 y224 _ _ _ (fun k_ => k_ ≠ gb184) (fun _ => False) rfl rfl ?aO ?aR (fun _ _ h => h) (fun _ h => h.elim) ?aF ?aB ?aS ?aL ?_
                  (case aR => repeat (first | exact (Kd.C_below HR227.out HB.out) | (with_reducible refine Kd.C_alloc ?_ _) | (with_reducible refine Kd.C_drewN ?_ _) | (with_reducible refine Kd.C_drew ?_)))
                  (case aB => exact y52_)
                  (case aF => exact (fun k_ hk => Kd.freshB (g := gb184) (o := .cells #[.int .i64 a1_0, .int .i64 a1_1] 67 (0, 0)) (bd_ BK184.out) k_ hk))
                  (case aO => exact (by (with_reducible repeat (first | apply Kd.R_alloc | apply Kd.R_drewN | apply Kd.R_drew)); exact Kd.R_mono HO223.out (fun _ hk => hk.2)))
                  (case aS => exact (below_size y52_))
                  (case aL => have := LMc62.out; omega)
                  intro v229 w85 ho hb hg hat
                  rw [← Ny228.out] at ho
                  have n0_ := Aside0.mk (blk_grown (g := gb184) (o := .cells #[.int .i64 a1_0, .int .i64 a1_1] 67 (0, 0)) (bd_ BK184.out) hg (Kd.R_away HO223.out (fun _ hk => hk.2)))
                  have n1_ := Aside0.mk (hb)
                  have HO230 := Aside0.mk (ho)
                  clear BK184
                  clear HB
                  clear HO223
                  have BK184 := n0_
                  have HB := n1_
                  clear n0_ n1_
                  clear ho hb hg hat
                  refine hK.out _ _ ⟨(blk_cell BK184.out 0).trans rfl, (blk_cell BK184.out 1).trans rfl⟩ (fun hHeld => ?_)
                  clear hK K
                  refine norm_ (a' := ?_) ?_ ?_
                  rotate_left
                  ·
                   show Act.put _ (some 46) _ = _
                   simp only [Act.put, P3_1, P3_2, P3_3, i64_w, i32_w]
                   rfl
                  refine one_ (i := 6) (N := some 48) M3_36 rfl rfl (one_of HT_.out (by kernel_rfl)) (by decide) (fun K hK => ?_)
                  refine Kd.R_lit_step k67 _ 67 ?hg (N := 48) ?hd (xs := ([(⟨a1_0, a1_1⟩ : S67)] : List (S67))) (inner := [.int .i64 a1_0, .int .i64 a1_1]) (ok := fun _ => True) (okp := fun _ => True) ?hr ?hp (fun _ hk => hk) trivial (Below.refl _ _) (Nat.le_refl _) (by simp) ?_; (case hd => rfl); (case hg => rfl); (case hr => first | (go_simp; done) | (go_simp; rfl)); (case hp => exact (Reps.c2 (show Kd.M k67 _ _ _ (⟨a1_0, a1_1⟩ : S67) [.int .i64 a1_0, .int .i64 a1_1] from (k67_mkM _ _ _ (⟨a1_0, a1_1⟩ : S67) )) (Reps.none _ _)))
                  intro v232 w86 ho87 hb hg_ hnew_
                  clear hg_ hnew_
                  (first | rw [← Ny231.out] at ho87 | (simp only [Int.reduceToNat] at ho87; rw [← Ny231.out] at ho87))
                  have n0_ := Aside0.mk (Kd.R_elder' (rd_ HO230.out) (Kd.R_base ho87) hb)
                  have HO233 := Aside0.mk (Kd.R_lower (Kd.R_newB (Kd.R_new' ho87 (Kd.R_lt (rd_ HO230.out))) (g := gb184) (o := .cells #[.int .i64 a1_0, .int .i64 a1_1] 67 (0, 0)) (bd_ BK184.out)) (below_size y52_))
                  have n2_ := Aside0.mk (blk_below (bd_ BK184.out) hb)
                  have n3_ := Aside0.mk (below_step y52_ hb)
                  clear HO230
                  clear BK184
                  clear HB
                  have HO230 := n0_
                  have BK184 := n2_
                  have HB := n3_
                  clear n0_ n2_ n3_
                  clear hb ho87
                  refine hK.out _ _ ⟨(blk_cell BK184.out 0).trans rfl, (blk_cell BK184.out 1).trans rfl⟩ (fun hHeld => ?_)
                  clear hK K
                  refine norm_ (a' := ?_) ?_ ?_
                  rotate_left
                  ·
                   show Act.put _ (some 48) _ = _
                   simp only [Act.put, P3_1, P3_2, P3_3, i64_w, i32_w]
                   rfl
                  exact norm_ y57_ (hCont (v222, v229, v232) _ ⟨hHeld, (by (with_reducible repeat (first | apply Kd.R_alloc | apply Kd.R_drewN | apply Kd.R_drew)); exact Kd.R_mono HO230.out (fun _ hk => ⟨hk.2, hk.1⟩)), y66_, bd_ BK184.out, y52_⟩)
                 ·
                  skip
                  refine Kd.R_lit_step k67 _ 67 ?hg (N := 48) ?hd (xs := ([(⟨a1_0, a1_1⟩ : S67)] : List (S67))) (inner := [.int .i64 a1_0, .int .i64 a1_1]) (ok := fun _ => True) (okp := fun _ => True) ?hr ?hp (fun _ hk => hk) trivial (Below.refl _ _) (Nat.le_refl _) (by simp) ?_; (case hd => rfl); (case hg => rfl); (case hr => first | (go_simp; done) | (go_simp; rfl)); (case hp => exact (Reps.c2 (show Kd.M k67 _ _ _ (⟨a1_0, a1_1⟩ : S67) [.int .i64 a1_0, .int .i64 a1_1] from (k67_mkM _ _ _ (⟨a1_0, a1_1⟩ : S67) )) (Reps.none _ _)))
                  intro v232 w85 ho86 hb hg_ hnew_
                  clear hg_ hnew_
                  (first | rw [← Ny231.out] at ho86 | (simp only [Int.reduceToNat] at ho86; rw [← Ny231.out] at ho86))
                  have n0_ := Aside0.mk (Kd.R_elder' (rd_ HO223.out) (Kd.R_base ho86) hb)
                  have HO233 := Aside0.mk (Kd.R_lower (Kd.R_newB (Kd.R_new' ho86 (Kd.R_lt (rd_ HO223.out))) (g := gb184) (o := .cells #[.int .i64 a1_0, .int .i64 a1_1] 67 (0, 0)) (bd_ BK184.out)) (below_size y52_))
                  have n2_ := Aside0.mk (blk_below (bd_ BK184.out) hb)
                  have n3_ := Aside0.mk (below_step y52_ hb)
                  clear HO223
                  clear BK184
                  clear HB
                  have HO223 := n0_
                  have BK184 := n2_
                  have HB := n3_
                  clear n0_ n2_ n3_
                  clear hb ho86
                  refine hK.out _ _ ⟨(blk_cell BK184.out 0).trans rfl, (blk_cell BK184.out 1).trans rfl⟩ (fun hHeld => ?_)
                  clear hK K
                  refine norm_ (a' := ?_) ?_ ?_
                  rotate_left
                  ·
                   show Act.put _ (some 48) _ = _
                   simp only [Act.put, P3_1, P3_2, P3_3, i64_w, i32_w]
                   rfl
                  refine one_ (i := 4) (N := some 46) M3_36 rfl rfl (one_of HT_.out (by kernel_rfl)) (by decide) (fun K hK => ?_)
                  refine Kd.R_append_rows_step k67 (w0 := w) w.heap.size (by rfl) (.tmp 42) (.tmp 45) 34 67 (.agg #[(.int .i64 0), (.int .i64 0)]) 16 rfl Try.underlying34 info67 rfl (by decide) (by omega) v222 y221 y224 _ _ _ (fun k_ => some k_ ≠ (v232 : Value).ownBlock ∧ k_ ≠ gb184) (fun _ => False) rfl rfl ?aO ?aR (fun _ _ h => h) (fun _ h => h.elim) ?aF ?aB ?aS ?aL ?_
                  (case aR => repeat (first | exact (Kd.C_below HR227.out HB.out) | (with_reducible refine Kd.C_alloc ?_ _) | (with_reducible refine Kd.C_drewN ?_ _) | (with_reducible refine Kd.C_drew ?_)))
                  (case aB => exact y52_)
                  (case aF => exact (fun k_ hk => ⟨Kd.fresh' (Kd.R_lt (rd_ HO233.out)) k_ hk, Kd.freshB (g := gb184) (o := .cells #[.int .i64 a1_0, .int .i64 a1_1] 67 (0, 0)) (bd_ BK184.out) k_ hk⟩))
                  (case aO => exact (by (with_reducible repeat (first | apply Kd.R_alloc | apply Kd.R_drewN | apply Kd.R_drew)); exact Kd.R_mono HO223.out (fun _ hk => ⟨hk.2, hk.1.2⟩)))
                  (case aS => exact (below_size y52_))
                  (case aL => have := LMc62.out; omega)
                  intro v229 w87 ho hb hg hat
                  rw [← Ny228.out] at ho
                  have n0_ := Aside0.mk (blk_grown (g := gb184) (o := .cells #[.int .i64 a1_0, .int .i64 a1_1] 67 (0, 0)) (bd_ BK184.out) hg (Kd.R_away HO223.out (fun _ hk => hk.1.2)))
                  have n1_ := Aside0.mk (Kd.R_after (ok := (fun k_ => k_ ≠ gb184)) (by (with_reducible repeat (first | apply Kd.R_alloc | apply Kd.R_drewN | apply Kd.R_drew)); exact Kd.R_mono HO233.out (fun _ hk => ⟨hk.2, hk.1.2⟩)) hg hat)
                  have n2_ := Aside0.mk (hb)
                  have HO230 := Aside0.mk (ho)
                  clear BK184
                  clear HO233
                  clear HB
                  clear HO223
                  have BK184 := n0_
                  have HO233 := n1_
                  have HB := n2_
                  clear n0_ n1_ n2_
                  clear ho hb hg hat
                  refine hK.out _ _ ⟨(blk_cell BK184.out 0).trans rfl, (blk_cell BK184.out 1).trans rfl⟩ (fun hHeld => ?_)
                  clear hK K
                  refine norm_ (a' := ?_) ?_ ?_
                  rotate_left
                  ·
                   show Act.put _ (some 46) _ = _
                   simp only [Act.put, P3_1, P3_2, P3_3, i64_w, i32_w]
                   rfl
                  exact norm_ y57_ (hCont (v222, v229, v232) _ ⟨hHeld, rd_ HO230.out, y62_, bd_ BK184.out, y52_⟩)
                ·
                 skip
                 refine Kd.R_lit_step k67 _ 67 ?hg (N := 48) ?hd (xs := ([(⟨a1_0, a1_1⟩ : S67)] : List (S67))) (inner := [.int .i64 a1_0, .int .i64 a1_1]) (ok := fun _ => True) (okp := fun _ => True) ?hr ?hp (fun _ hk => hk) trivial (Below.refl _ _) (Nat.le_refl _) (by simp) ?_; (case hd => rfl); (case hg => rfl); (case hr => first | (go_simp; done) | (go_simp; rfl)); (case hp => exact (Reps.c2 (show Kd.M k67 _ _ _ (⟨a1_0, a1_1⟩ : S67) [.int .i64 a1_0, .int .i64 a1_1] from (k67_mkM _ _ _ (⟨a1_0, a1_1⟩ : S67) )) (Reps.none _ _)))
                 intro v232 w83 ho84 hb hg_ hnew_
                 clear hg_ hnew_
                 (first | rw [← Ny231.out] at ho84 | (simp only [Int.reduceToNat] at ho84; rw [← Ny231.out] at ho84))
                 have HO233 := Aside0.mk (Kd.R_lower (Kd.R_newB ho84 (g := gb184) (o := .cells #[.int .i64 a1_0, .int .i64 a1_1] 67 (0, 0)) (bd_ BK184.out)) (below_size y52_))
                 have n1_ := Aside0.mk (blk_below (bd_ BK184.out) hb)
                 have n2_ := Aside0.mk (below_step y52_ hb)
                 clear BK184
                 clear HB
                 have BK184 := n1_
                 have HB := n2_
                 clear n1_ n2_
                 clear hb ho84
                 refine hK.out _ _ ⟨(blk_cell BK184.out 0).trans rfl, (blk_cell BK184.out 1).trans rfl⟩ (fun hHeld => ?_)
                 clear hK K
                 refine norm_ (a' := ?_) ?_ ?_
                 rotate_left
                 ·
                  show Act.put _ (some 48) _ = _
                  simp only [Act.put, P3_1, P3_2, P3_3, i64_w, i32_w]
                  rfl
                 refine one_ (i := 0) (N := some 42) M3_40 rfl rfl (one_of HT_.out (by kernel_rfl)) (by decide) (fun K hK => ?_)
                 refine Kd.R_lit_step k67 _ 67 ?hg (N := 42) ?hd (xs := ([] : List (S67))) (inner := []) (ok := fun _ => True) (okp := fun _ => True) ?hr ?hp (fun _ hk => hk) trivial (Below.refl _ _) (Nat.le_refl _) (by simp) ?_; (case hd => rfl); (case hg => rfl); (case hr => first | (go_simp; done) | (go_simp; rfl)); (case hp => exact (Reps.none _ _))
                 intro v222 w85 ho86 hb hg_ hnew_
                 clear hg_ hnew_
                 (first | rw [← Ny221.out] at ho86 | (simp only [Int.reduceToNat] at ho86; rw [← Ny221.out] at ho86))
                 have n0_ := Aside0.mk (Kd.R_elder' (rd_ HO233.out) (Kd.R_base ho86) hb)
                 have HO223 := Aside0.mk (Kd.R_lower (Kd.R_newB (Kd.R_new' ho86 (Kd.R_lt (rd_ HO233.out))) (g := gb184) (o := .cells #[.int .i64 a1_0, .int .i64 a1_1] 67 (0, 0)) (bd_ BK184.out)) (below_size y52_))
                 have n2_ := Aside0.mk (blk_below (bd_ BK184.out) hb)
                 have n3_ := Aside0.mk (below_step y52_ hb)
                 clear HO233
                 clear BK184
                 clear HB
                 have HO233 := n0_
                 have BK184 := n2_
                 have HB := n3_
                 clear n0_ n2_ n3_
                 clear hb ho86
                 refine hK.out _ _ ⟨(blk_cell BK184.out 0).trans rfl, (blk_cell BK184.out 1).trans rfl⟩ (fun hHeld => ?_)
                 clear hK K
                 refine norm_ (a' := ?_) ?_ ?_
                 rotate_left
                 ·
                  show Act.put _ (some 42) _ = _
                  simp only [Act.put, P3_1, P3_2, P3_3, i64_w, i32_w]
                  rfl
                 refine one_ (i := 4) (N := some 46) M3_36 rfl rfl (one_of HT_.out (by kernel_rfl)) (by decide) (fun K hK => ?_)
                 refine Kd.R_append_rows_step k67 (w0 := w) w.heap.size (by rfl) (.tmp 42) (.tmp 45) 34 67 (.agg #[(.int .i64 0), (.int .i64 0)]) 16 rfl Try.underlying34 info67 rfl (by decide) (by omega) v222 y221 y224 _ _ _ (fun k_ => some k_ ≠ (v232 : Value).ownBlock ∧ k_ ≠ gb184) (fun _ => False) rfl rfl ?aO ?aR (fun _ _ h => h) (fun _ h => h.elim) ?aF ?aB ?aS ?aL ?_
                 (case aR => repeat (first | exact (Kd.C_below HR227.out HB.out) | (with_reducible refine Kd.C_alloc ?_ _) | (with_reducible refine Kd.C_drewN ?_ _) | (with_reducible refine Kd.C_drew ?_)))
                 (case aB => exact y52_)
                 (case aF => exact (fun k_ hk => ⟨Kd.fresh' (Kd.R_lt (rd_ HO233.out)) k_ hk, Kd.freshB (g := gb184) (o := .cells #[.int .i64 a1_0, .int .i64 a1_1] 67 (0, 0)) (bd_ BK184.out) k_ hk⟩))
                 (case aO => exact (by (with_reducible repeat (first | apply Kd.R_alloc | apply Kd.R_drewN | apply Kd.R_drew)); exact Kd.R_mono HO223.out (fun _ hk => ⟨hk.1.2, hk.2⟩)))
                 (case aS => exact (below_size y52_))
                 (case aL => have := LMc62.out; omega)
                 intro v229 w87 ho hb hg hat
                 rw [← Ny228.out] at ho
                 have n0_ := Aside0.mk (blk_grown (g := gb184) (o := .cells #[.int .i64 a1_0, .int .i64 a1_1] 67 (0, 0)) (bd_ BK184.out) hg (Kd.R_away HO223.out (fun _ hk => hk.2)))
                 have n1_ := Aside0.mk (Kd.R_after (ok := (fun k_ => k_ ≠ gb184)) y66_ hg hat)
                 have n2_ := Aside0.mk (hb)
                 have HO230 := Aside0.mk (ho)
                 clear BK184
                 clear HO233
                 clear HB
                 clear HO223
                 have BK184 := n0_
                 have HO233 := n1_
                 have HB := n2_
                 clear n0_ n1_ n2_
                 clear ho hb hg hat
                 refine hK.out _ _ ⟨(blk_cell BK184.out 0).trans rfl, (blk_cell BK184.out 1).trans rfl⟩ (fun hHeld => ?_)
                 clear hK K
                 refine norm_ (a' := ?_) ?_ ?_
                 rotate_left
                 ·
                  show Act.put _ (some 46) _ = _
                  simp only [Act.put, P3_1, P3_2, P3_3, i64_w, i32_w]
                  rfl
                 exact norm_ y57_ (hCont (v222, v229, v232) _ ⟨hHeld, rd_ HO230.out, y62_, bd_ BK184.out, y52_⟩)
               rintro ⟨v222, v229, v232⟩ w88 ⟨hS_, h0_, h1_, h2_, h3_⟩
               have HO230 : Aside0 (Kd.R k67 67 w88 w.heap.size (fun k_ => some k_ ≠ (v232 : Value).ownBlock ∧ k_ ≠ gb184) v229 y228) := ⟨h0_⟩
               have HO233 : Aside0 (Kd.R k67 67 w88 w.heap.size (fun k_ => some k_ ≠ (v229 : Value).ownBlock ∧ k_ ≠ gb184) v232 y231) := ⟨h1_⟩
               have n2_ : Aside0 (w88.heap[gb184]? = some (.cells #[.int .i64 a1_0, .int .i64 a1_1] 67 (0, 0))) := ⟨h2_⟩
               have n3_ : Aside0 (Below w.heap.size w w88) := ⟨h3_⟩
               clear BK184
               clear HB
               clear h0_ h1_ h2_ h3_
               have BK184 := n2_
               have HB := n3_
               clear n2_ n3_
               have hHeld : w88.cell? ⟨gb184, 0, none⟩ = some (.int .i64 a1_0) ∧ w88.cell? ⟨gb184, 1, none⟩ = some (.int .i64 a1_1) := hS_
               obtain ⟨Ao90, co90, eo90⟩ := Kd.R_slice HO233.out
               (first | subst eo90 | (injection eo90 with f1_ f2_ f3_; have f4_ := f1_.symm; have f5_ := f3_.symm; clear f1_ f2_ f3_; subst f4_; subst f5_))
               refine norm_ (a' := ?_) ?_ ?_
               rotate_left
               ·
                simp only [putAll, Act.put, List.setIfInBounds_toArray, List.set_cons_zero, List.set_cons_succ]
                rfl
               refine one_ (i := 7) (N := some 49) M3_41 rfl rfl (one_of HT_.out (by kernel_rfl)) (by decide) (fun K hK => ?_)
               refine Kd.R_append_rows_step k67 (w0 := w) w.heap.size (by rfl) (.tmp 46) (.tmp 48) 34 67 (.agg #[(.int .i64 0), (.int .i64 0)]) 16 rfl Try.underlying34 info67 rfl (by decide) (by omega) v229 y228 y231 _ _ _ (fun k_ => some k_ ≠ (.slice Ao90 y231.length co90 : Value).ownBlock ∧ k_ ≠ gb184) (fun _ => False) rfl rfl ?aO ?aR (fun _ _ h => h) (fun _ h => h.elim) ?aF ?aB ?aS ?aL ?_
               (case aR => repeat (first | exact (Kd.R_reads' HO233.out).2.2 | (with_reducible refine Kd.C_alloc ?_ _) | (with_reducible refine Kd.C_drewN ?_ _) | (with_reducible refine Kd.C_drew ?_)))
               (case aB => exact y52_)
               (case aF => exact (fun k_ hk => ⟨Kd.fresh' (Kd.R_lt (rd_ HO233.out)) k_ hk, Kd.freshB (g := gb184) (o := .cells #[.int .i64 a1_0, .int .i64 a1_1] 67 (0, 0)) (bd_ BK184.out) k_ hk⟩))
               (case aO => exact rd_ HO230.out)
               (case aS => exact (below_size y52_))
               (case aL => have := LMc63.out; omega)
               intro v235 w89 ho hb hg hat
               rw [← Ny234.out] at ho
               have n0_ := Aside0.mk (blk_grown (g := gb184) (o := .cells #[.int .i64 a1_0, .int .i64 a1_1] 67 (0, 0)) (bd_ BK184.out) hg (Kd.R_away HO230.out (fun _ hk => hk.2)))
               have n1_ := Aside0.mk (Kd.R_after (ok := (fun k_ => k_ ≠ gb184)) y62_ hg hat)
               have n2_ := Aside0.mk (hb)
               have HO236 := Aside0.mk (ho)
               clear BK184
               clear HO233
               clear HB
               clear HO230
               have BK184 := n0_
               have HO233 := n1_
               have HB := n2_
               clear n0_ n1_ n2_
               clear ho hb hg hat
               refine hK.out _ _ ⟨(blk_cell BK184.out 0).trans rfl, (blk_cell BK184.out 1).trans rfl⟩ (fun hHeld => ?_)
               clear hK K
               refine norm_ (a' := ?_) ?_ ?_
               rotate_left
               ·
                show Act.put _ (some 49) _ = _
                simp only [Act.put, P3_1, P3_2, P3_3, i64_w, i32_w]
                rfl
               refine one_ (i := 9) (N := some 51) M3_42 rfl rfl (one_of HT_.out (by kernel_rfl)) (by decide) (fun K hK => ?_)
               refine Kd.R_append_rows_step k67 (w0 := w) w.heap.size (by rfl) (.tmp 49) (.tmp 50) 34 67 (.agg #[(.int .i64 0), (.int .i64 0)]) 16 rfl Try.underlying34 info67 rfl (by decide) (by omega) v235 y234 y186 _ _ _ (fun k_ => some k_ ≠ (.slice Ao90 y231.length co90 : Value).ownBlock ∧ k_ ≠ gb184) (fun _ => False) rfl rfl ?aO ?aR (fun _ _ h => h) (fun _ h => h.elim) ?aF ?aB ?aS ?aL ?_
               (case aR => repeat (first | exact (Kd.C_below HR189.out HB.out) | (with_reducible refine Kd.C_alloc ?_ _) | (with_reducible refine Kd.C_drewN ?_ _) | (with_reducible refine Kd.C_drew ?_)))
               (case aB => exact y52_)
               (case aF => exact (fun k_ hk => ⟨Kd.fresh' (Kd.R_lt (rd_ HO233.out)) k_ hk, Kd.freshB (g := gb184) (o := .cells #[.int .i64 a1_0, .int .i64 a1_1] 67 (0, 0)) (bd_ BK184.out) k_ hk⟩))
               (case aO => exact (rd_ HO236.out))
               (case aS => exact (below_size y52_))
               (case aL => have := LMc64.out; omega)
               intro v238 w91 ho hb hg hat
               rw [← Ny237.out] at ho
               have n0_ := Aside0.mk (blk_grown (g := gb184) (o := .cells #[.int .i64 a1_0, .int .i64 a1_1] 67 (0, 0)) (bd_ BK184.out) hg (Kd.R_away HO236.out (fun _ hk => hk.2)))
               have n1_ := Aside0.mk (Kd.R_after (ok := (fun k_ => k_ ≠ gb184)) (rd_ HO233.out) hg hat)
               have n2_ := Aside0.mk (hb)
               have HO239 := Aside0.mk (ho)
               clear BK184
               clear HO233
               clear HB
               clear HO236
               have BK184 := n0_
               have HO233 := n1_
               have HB := n2_
               clear n0_ n1_ n2_
               clear ho hb hg hat
               refine hK.out _ _ ⟨(blk_cell BK184.out 0).trans rfl, (blk_cell BK184.out 1).trans rfl⟩ (fun hHeld => ?_)
               clear hK K
               refine norm_ (a' := ?_) ?_ ?_
               rotate_left
               ·
                show Act.put _ (some 51) _ = _
                simp only [Act.put, P3_1, P3_2, P3_3, i64_w, i32_w]
                rfl
               refine pu_ 10 (some 8) M3_43 HT_ ?_
               refine done_ (done_of HT_.out (by kernel_rfl)) ?_
               obtain ⟨Ao92, co92, eo92⟩ := Kd.R_slice HO239.out
               subst eo92
               try go_wp2_with (first | ((with_reducible refine gate_callee (f := 43) rfl ?_); refine goesL_ (some 53) rfl rfl Try.func43 (by kernel_rfl) rfl #[.slice Ao92 y237.length co92] rfl ma_ ?_; (with_reducible refine (spec_AreMarks.calls kj12 _ _ y237 false _ ?side1 ?side2 A65.out).mono ?_); (case side1 => exact cd_ (Kd.R_reads' HO239.out).2.2); (case side2 => exact (Kd.R_reads' HO239.out).2.1); rintro e w93 ⟨rfl, hb⟩; refine ⟨_, rfl, ?_⟩; have n0_ := Aside0.mk (Kd.R_below (rd_ HO233.out) hb); have n1_ := Aside0.mk (Kd.R_below (rd_ HO239.out) hb); have n2_ := Aside0.mk (blk_below (bd_ BK184.out) hb); have n3_ := Aside0.mk (below_step y52_ hb); clear HO233; clear HO239; clear BK184; clear HB; have HO233 := n0_; have HO239 := n1_; have BK184 := n2_; have HB := n3_; clear n0_ n1_ n2_ n3_; (try clear hb); (try clear hb2); (try clear hk); (try clear hi)) | ((with_reducible refine gate_dst (N := 55) rfl ?_); refine Kd.R_lit k67 _ 67 ?hg (N := 55) ?hd (xs := ([] : List (S67))) (inner := []) (ok := fun _ => True) (okp := fun _ => True) ?hr ?hp (fun _ hk => hk) trivial (Below.refl _ _) (Nat.le_refl _) (by simp) ?_; (case hd => rfl); (case hg => rfl); (case hr => first | (go_simp; done) | (go_simp; rfl)); (case hp => exact (Reps.none _ _)); intro v242 w94 ho95 hb hg_ hnew_; clear hg_ hnew_; (first | rw [← Ny241.out] at ho95 | (simp only [Int.reduceToNat] at ho95; rw [← Ny241.out] at ho95)); have n0_ := Aside0.mk (Kd.R_elder' (rd_ HO233.out) (Kd.R_base ho95) hb); have n1_ := Aside0.mk (Kd.R_elder' (rd_ HO239.out) (Kd.R_base ho95) hb); have HO243 := Aside0.mk (Kd.R_lower (Kd.R_newB (Kd.R_new' (Kd.R_new' ho95 (Kd.R_lt (rd_ HO233.out))) (Kd.R_lt (rd_ HO239.out))) (g := gb184) (o := .cells #[.int .i64 a1_0, .int .i64 a1_1] 67 (0, 0)) (bd_ BK184.out)) (below_size y52_)); have n3_ := Aside0.mk (blk_below (bd_ BK184.out) hb); have n4_ := Aside0.mk (below_step y52_ hb); clear HO233; clear HO239; clear BK184; clear HB; have HO233 := n0_; have HO239 := n1_; have BK184 := n3_; have HB := n4_; clear n0_ n1_ n3_ n4_; clear hb ho95) | ((with_reducible refine gate_builtin (b := .append) (xs := #[.tmp 55, .tmp 56]) rfl ?_); at_builtin; refine Kd.R_append_rows k67 (w0 := w) w.heap.size rfl (.tmp 55) (.tmp 56) 34 67 (.agg #[(.int .i64 0), (.int .i64 0)]) 16 rfl Try.underlying34 info67 rfl (by decide) (by omega) v242 y241 l0 _ _ _ (fun k_ => some k_ ≠ (.slice Ao90 y231.length co90 : Value).ownBlock ∧ some k_ ≠ (.slice Ao92 y237.length co92 : Value).ownBlock ∧ k_ ≠ gb184) (fun _ => False) rfl rfl ?aO ?aR (fun _ _ h => h) (fun _ h => h.elim) ?aF ?aB ?aS ?aL ?_; (case aR => repeat (first | exact (Kd.C_below HR0.out HB.out) | (with_reducible refine Kd.C_alloc ?_ _) | (with_reducible refine Kd.C_drewN ?_ _) | (with_reducible refine Kd.C_drew ?_))); (case aB => exact y52_); (case aF => exact (fun k_ hk => ⟨Kd.fresh' (Kd.R_lt (rd_ HO233.out)) k_ hk, Kd.fresh' (Kd.R_lt (rd_ HO239.out)) k_ hk, Kd.freshB (g := gb184) (o := .cells #[.int .i64 a1_0, .int .i64 a1_1] 67 (0, 0)) (bd_ BK184.out) k_ hk⟩)); (case aO => exact (by (with_reducible repeat (first | apply Kd.R_alloc | apply Kd.R_drewN | apply Kd.R_drew)); exact Kd.R_mono HO243.out (fun _ hk => ⟨hk.1.1.2, ⟨hk.1.2, hk.2⟩⟩))); (case aS => exact (below_size y52_)); (case aL => have := LMc80.out; omega); intro v245 w96 ho hb hg hat; rw [← Ny244.out] at ho; have n0_ := Aside0.mk (blk_grown (g := gb184) (o := .cells #[.int .i64 a1_0, .int .i64 a1_1] 67 (0, 0)) (bd_ BK184.out) hg (Kd.R_away HO243.out (fun _ hk => hk.2))); have n1_ := Aside0.mk (Kd.R_after (ok := (fun k_ => some k_ ≠ (.slice Ao92 y237.length co92 : Value).ownBlock ∧ k_ ≠ gb184)) (by (with_reducible repeat (first | apply Kd.R_alloc | apply Kd.R_drewN | apply Kd.R_drew)); exact Kd.R_mono HO233.out (fun _ hk => ⟨⟨hk.1.2, hk.1.1⟩, hk.2⟩)) hg hat); have n2_ := Aside0.mk (Kd.R_after (ok := (fun k_ => some k_ ≠ (.slice Ao90 y231.length co90 : Value).ownBlock ∧ k_ ≠ gb184)) (rd_ HO239.out) hg hat); have n3_ := Aside0.mk (hb); have HO246 := Aside0.mk (ho); clear BK184; clear HO233; clear HO239; clear HB; clear HO243; have BK184 := n0_; have HO233 := n1_; have HO239 := n2_; have HB := n3_; clear n0_ n1_ n2_ n3_; clear ho hb hg hat))
               go_ret2
               exact ⟨_, by first | rfl | (simp [errW_none, errW_some] <;> rfl) | (simp [*, errW_none, errW_some] <;> rfl), by (with_reducible repeat (first | apply Kd.R_alloc | apply Kd.R_drewN | apply Kd.R_drew)); exact Kd.R_mono HO246.out (fun _ hk => trivial), y56_⟩
              ·
               rw [if_neg c80] at H
               exact absurd H (by simp)
            ·
             rw [if_neg c64] at H
             exact absurd H (by simp)
           ·
            rw [if_neg c63] at H
            exact absurd H (by simp)
          ·
           rw [if_neg c62] at H
           exact absurd H (by simp)
         ·
          rw [if_neg c61] at H
          exact absurd H (by simp)
        ·
         rw [if_neg c60] at H
         exact absurd H (by simp)
    ·
     rw [if_neg c12] at H
     exact absurd H (by simp)
   ·
    rw [if_neg c11] at H
    exact absurd H (by simp)

end Go.Proofs.Ytfghapankndioaa.PFnSecrets
