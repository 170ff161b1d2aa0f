-- Written for this claim by a program (a printer turned to this claim); Lean checks it.
import Derived.Test.YtnlgilmbmoiniaaPFnExactTasksForx0
import Derived.Test.YtnlgilmbmoiniaaPFnExactTasksForx2
import Derived.Test.YtnlgilmbmoiniaaPFnExactTasksForx5
import Derived.Test.YtnlgilmbmoiniaaPFnExactTasksForx6
import Derived.Test.YtnlgilmbmoiniaaPFnExactTasksForx7
namespace Go.Proofs.Ytnlgilmbmoiniaa.PFnExactTasksFor
open Go.RowKit Go.Proofs.YtnlgilmbmoiniaaW.PrintWords Go.Proofs.YtnlgilmbmoiniaaW.PrintLast Go.Proofs.YtnlgilmbmoiniaaW.PrintMore
attribute [local go_sem] max2_int min2_int max_two min_two max_three min_three max_four min_four   -- for this text's walks alone
set_option linter.unusedVariables false
set_option linter.unusedSimpArgs false

/-! ### spec_TasksFor: function 14 -/
mutual
def spec_TasksFor.l0 : Nat → List (S58) → List (S69) → List Bool → Int → List (S54) → Int → Option ((List (S54)))
 | 0, _, _, _, _, _, _ => none
 | k + 1, x0, x1, x2, x3, x9, x10 => if x10 < (x0.length : Int) then ((spec_AreFinds.f k x0).bind fun t160 => (if t160 = true then ((spec_AreClaims.f x1).bind fun t161 => (if t161 = true then ((spec_IsCalendar.f k x2).bind fun t162 => (if t162 = true then ((spec_l1In.f x3 0 100000).bind fun t163 => (spec_TasksFor.j1 k x0 x1 x2 x3 x9 x10 t163)) else (spec_TasksFor.j1 k x0 x1 x2 x3 x9 x10 false))) else (spec_TasksFor.j1 k x0 x1 x2 x3 x9 x10 false))) else (spec_TasksFor.j1 k x0 x1 x2 x3 x9 x10 false))) else (spec_TasksFor.j1 k x0 x1 x2 x3 x9 x10 false)
def spec_TasksFor.j1 : Nat → List (S58) → List (S69) → List Bool → Int → List (S54) → Int → Bool → Option ((List (S54)))
 | 0, _, _, _, _, _, _, _ => none
 | k + 1, x0, x1, x2, x3, x9, x10, x33 => if x33 = true then (if 0 ≤ x10 then (if x10 < (x0.length : Int) then ((spec_TaskOf.f k ((rd_T58 x0 x10).f0.f0) ((rd_T58 x0 x10).f0.f1) ((rd_T58 x0 x10).f0.f2) ((rd_T58 x0 x10).f0.f3) ((rd_T58 x0 x10).f0.f4) ((rd_T58 x0 x10).f1) ((rd_T58 x0 x10).f2) ((rd_T58 x0 x10).f3) x1 x2 x3).bind fun bt165 => (spec_TasksFor.l1 k x0 x1 x2 x3 x9 x10 (x9.length : Int) bt165.1 bt165.2.1 bt165.2.2)) else (none)) else (none)) else (some x9)
def spec_TasksFor.l1 : Nat → List (S58) → List (S69) → List Bool → Int → List (S54) → Int → Int → Int → Int → Int → Option ((List (S54)))
 | 0, _, _, _, _, _, _, _, _, _, _ => none
 | k + 1, x0, x1, x2, x3, x9, x10, x12, x169000, x169001, x169002 => if x12 > 0 then (if 0 ≤ (wrap64 (x12 - 1)) then (if (wrap64 (x12 - 1)) < (x9.length : Int) then ((spec_l30Before.f x169000 x169001 x169002 ((rd_T54 x9 (wrap64 (x12 - 1))).f0) ((rd_T54 x9 (wrap64 (x12 - 1))).f1) ((rd_T54 x9 (wrap64 (x12 - 1))).f2)).bind fun t170 => (if t170 = true then (spec_TasksFor.l1 k x0 x1 x2 x3 x9 x10 (wrap64 (x12 - 1)) x169000 x169001 x169002) else ((some (([] : List (S54)) : List (S54))).bind fun y171 => (if 0 ≤ x12 then (if x12 ≤ (x9.length : Int) then ((some (x9.take (x12 : Int).toNat : List (S54))).bind fun y174 => (if y171.length + y174.length < 5864062014805 then ((some (y171 ++ y174 : List (S54))).bind fun y178 => ((some (([(⟨x169000, x169001, x169002⟩ : S54)] : List (S54)) : List (S54))).bind fun y181 => (if y178.length + y181.length < 5864062014805 then ((some (y178 ++ y181 : List (S54))).bind fun y184 => ((some (x9.drop (x12 : Int).toNat : List (S54))).bind fun y187 => (if y184.length + y187.length < 5864062014805 then (spec_TasksFor.l0 k x0 x1 x2 x3 (y184 ++ y187) (wrap64 (x10 + 1))) else (none)))) else (none)))) else (none))) else (none)) else (none))))) else (none)) else (none)) else ((some (([] : List (S54)) : List (S54))).bind fun y194 => (if 0 ≤ x12 then (if x12 ≤ (x9.length : Int) then ((some (x9.take (x12 : Int).toNat : List (S54))).bind fun y197 => (if y194.length + y197.length < 5864062014805 then ((some (y194 ++ y197 : List (S54))).bind fun y201 => ((some (([(⟨x169000, x169001, x169002⟩ : S54)] : List (S54)) : List (S54))).bind fun y204 => (if y201.length + y204.length < 5864062014805 then ((some (y201 ++ y204 : List (S54))).bind fun y207 => ((some (x9.drop (x12 : Int).toNat : List (S54))).bind fun y210 => (if y207.length + y210.length < 5864062014805 then (spec_TasksFor.l0 k x0 x1 x2 x3 (y207 ++ y210) (wrap64 (x10 + 1))) else (none)))) else (none)))) else (none))) else (none)) else (none)))
end
def spec_TasksFor.f (k : Nat) (l0 : List (S58)) (l1 : List (S69)) (l2 : List Bool) (a3 : Int) : Option ((List (S54))) := spec_TasksFor.l0 k l0 l1 l2 a3 (([] : List (S54))) 0
theorem spec_TasksFor.mono_l : ∀ k, (∀ y0 y1 y2 y3 y4 y5, LeO (spec_TasksFor.l0 k y0 y1 y2 y3 y4 y5) (spec_TasksFor.l0 (k + 1) y0 y1 y2 y3 y4 y5)) ∧ (∀ y0 y1 y2 y3 y4 y5 y6, LeO (spec_TasksFor.j1 k y0 y1 y2 y3 y4 y5 y6) (spec_TasksFor.j1 (k + 1) y0 y1 y2 y3 y4 y5 y6)) ∧ (∀ y0 y1 y2 y3 y4 y5 y6 y7 y8 y9, LeO (spec_TasksFor.l1 k y0 y1 y2 y3 y4 y5 y6 y7 y8 y9) (spec_TasksFor.l1 (k + 1) y0 y1 y2 y3 y4 y5 y6 y7 y8 y9))
 | 0 => ⟨fun _ _ _ _ _ _ r h => by simp [spec_TasksFor.l0] at h, fun _ _ _ _ _ _ _ r h => by simp [spec_TasksFor.j1] at h, fun _ _ _ _ _ _ _ _ _ _ r h => by simp [spec_TasksFor.l1] at h⟩
 | k + 1 => by
  obtain ⟨ih0, ih1, ih2⟩ := spec_TasksFor.mono_l k
  refine ⟨?_, ?_, ?_⟩
  ·
   intro y0 y1 y2 y3 y4 y5
   unfold spec_TasksFor.l0
   have jh0 := @spec_AreFinds.mono
   have jh1 := @spec_IsCalendar.mono
   have jh2 := @spec_TaskOf.mono
   exact mo_
  ·
   intro y0 y1 y2 y3 y4 y5 y6
   unfold spec_TasksFor.j1
   have jh0 := @spec_AreFinds.mono
   have jh1 := @spec_IsCalendar.mono
   have jh2 := @spec_TaskOf.mono
   exact mo_
  ·
   intro y0 y1 y2 y3 y4 y5 y6 y7 y8 y9
   unfold spec_TasksFor.l1
   have jh0 := @spec_AreFinds.mono
   have jh1 := @spec_IsCalendar.mono
   have jh2 := @spec_TaskOf.mono
   exact mo_
theorem spec_TasksFor.mono : ∀ a0 a1 a2 a3 k, LeO (spec_TasksFor.f k a0 a1 a2 a3) (spec_TasksFor.f (k + 1) a0 a1 a2 a3) := by
 intro a0 a1 a2 a3 k
 obtain ⟨ih0, ih1, ih2⟩ := spec_TasksFor.mono_l k
 unfold spec_TasksFor.f
 have jh0 := @spec_AreFinds.mono
 have jh1 := @spec_IsCalendar.mono
 have jh2 := @spec_TaskOf.mono
 exact mo_
def spec_TasksFor.T7 : Bool × List (List Nat × List Nat) := (true, [([], []), ([0], [0]), ([1], [1]), ([2], [2]), ([2], [2]), ([2], [2]), ([5, 2], [2, 5]), ([4, 6, 2], [2, 4, 6]), ([7, 2], [2, 7]), ([3, 8, 2, 2], [2, 3, 8]), ([2, 9], [2, 9])])
def spec_TasksFor.B7 : List Nat := [0, 1, 3, 7, 7, 7, 39, 119, 247, 511, 1023]
theorem spec_TasksFor.tab7 : rtab .any (opsOf Try.f14 7) = spec_TasksFor.T7 := by kernel_rfl
theorem spec_TasksFor.bits7 : waitsOk spec_TasksFor.T7.2 spec_TasksFor.B7 = true := by kernel_rfl
def spec_TasksFor.T9 : Bool × List (List Nat × List Nat) := (true, [([], []), ([], []), ([], []), ([1, 2], [1, 2]), ([0, 3], [0, 3]), ([], []), ([5], [5]), ([4, 6, 4], [4, 6]), ([], []), ([], []), ([8, 9], [8, 9]), ([7, 10, 7], [7, 10]), ([11, 11, 0, 1, 2, 3, 4, 5, 6, 7, 8, 9, 10, 11], [1, 8, 11])])
def spec_TasksFor.B9 : List Nat := [0, 0, 0, 6, 15, 0, 32, 127, 0, 0, 768, 2047, 4095]
theorem spec_TasksFor.tab9 : rtab .any (opsOf Try.f14 9) = spec_TasksFor.T9 := by kernel_rfl
theorem spec_TasksFor.bits9 : waitsOk spec_TasksFor.T9.2 spec_TasksFor.B9 = true := by kernel_rfl
abbrev M3_0 := bm_ 11 0
abbrev M3_1 := bm_ 11 1
abbrev M3_2 := bm_ 11 3
abbrev M3_3 := bm_ 11 7
abbrev M3_4 := bm_ 11 23
abbrev M3_5 := bm_ 11 55
abbrev M3_6 := bm_ 11 119
abbrev M3_7 := bm_ 11 247
abbrev M3_8 := bm_ 11 255
abbrev M3_9 := bm_ 11 511
abbrev M3_10 := bm_ 11 1023
abbrev M3_11 := bm_ 11 2047
abbrev M3_12 := bm_ 13 0
abbrev M3_13 := bm_ 13 2
abbrev M3_14 := bm_ 13 6
abbrev M3_15 := bm_ 13 14
abbrev M3_16 := bm_ 13 270
abbrev M3_17 := bm_ 13 782
abbrev M3_18 := bm_ 13 1806
abbrev M3_19 := bm_ 13 1838
abbrev M3_20 := bm_ 13 1919
abbrev M3_21 := bm_ 13 1839
abbrev M3_22 := bm_ 13 1902
abbrev M3_23 := bm_ 13 1855
abbrev M3_24 := bm_ 13 1903
abbrev M3_25 := bm_ 13 2047
abbrev M3_26 := bm_ 13 4095
abbrev M3_27 := bm_ 13 8191
abbrev M3_28 := bm_ 11 15
abbrev M3_29 := bm_ 11 31
abbrev M3_30 := bm_ 11 63
abbrev M3_31 := bm_ 11 127
theorem P3_1 {α : Type} (l : List α) (i : Nat) (a : α) : l.toArray.setIfInBounds i a = (l.set i a).toArray := List.setIfInBounds_toArray l i a
theorem P3_2 {α : Type} (x : α) (l : List α) (a : α) : (x :: l).set 0 a = a :: l := List.set_cons_zero
theorem P3_3 {α : Type} (x : α) (l : List α) (n : Nat) (a : α) : (x :: l).set (n + 1) a = x :: l.set n a := List.set_cons_succ
theorem e96_ {w : World} {g : Nat} {t : TypeId} {i0 : Int} {i1 : Int} {i2 : Int} (h : w.heap[g]? = some (.cells #[.int .i64 i0, .int .i64 i1, .int .i64 i2] t (0, 0))) : w.cell? ⟨g, 0, none⟩ = some (.int .i64 i0) ∧ w.cell? ⟨g, 1, none⟩ = some (.int .i64 i1) ∧ w.cell? ⟨g, 2, none⟩ = some (.int .i64 i2) := ⟨(blk_cell h 0).trans rfl, (blk_cell h 1).trans rfl, (blk_cell h 2).trans rfl⟩
theorem z97_ {w : World} {g : Nat} {t : TypeId} {cs : Array Value} (h : w.heap[g]? = some (.cells cs t (0, 0))) : w.frozen? ⟨g, 0, none⟩ = false ∧ w.frozen? ⟨g, 1, none⟩ = false ∧ w.frozen? ⟨g, 2, none⟩ = false := ⟨blk_frozen h 0, blk_frozen h 1, blk_frozen h 2⟩
theorem y98_ {P : Prop} (h : P := by repeat (first | (with_reducible first | exact HB.out | apply below_alloc | apply pw_below_drewN | apply below_drew1 | refine below_set ?_ GE168.out) | exact HB.out)) : P := h
theorem y102_ {P : Prop} (h : P := by repeat (first | (with_reducible exact HR177.out) | (with_reducible refine Kd.C_alloc ?_ _) | (with_reducible refine Kd.C_drewN ?_ _) | (with_reducible refine Kd.C_drew ?_) | exact HR177.out)) : P := h
theorem y103_ {P : Prop} (h : P := by repeat (first | (with_reducible exact HR200.out) | (with_reducible refine Kd.C_alloc ?_ _) | (with_reducible refine Kd.C_drewN ?_ _) | (with_reducible refine Kd.C_drew ?_) | exact HR200.out)) : P := h
theorem y104_ {P : Prop} (h : P := by (with_reducible repeat (first | apply Kd.R_alloc | apply Kd.R_drewN | apply Kd.R_drew)); exact Kd.R_mono HO_9.out (fun _ hk => ⟨⟨hk.2, hk.1.1⟩, hk.1.2⟩)) : P := h
theorem y105_ {P : Prop} (h : P := by (with_reducible repeat (first | apply Kd.R_alloc | apply Kd.R_drewN | apply Kd.R_drew)); exact Kd.R_mono HO_9.out (fun _ hk => ⟨⟨hk.1.2, hk.1.1⟩, hk.2⟩)) : P := h
theorem y108_ {P : Prop} (h : P := by repeat (first | (with_reducible exact HR190.out) | (with_reducible refine Kd.C_alloc ?_ _) | (with_reducible refine Kd.C_drewN ?_ _) | (with_reducible refine Kd.C_drew ?_) | exact HR190.out)) : P := h
theorem y109_ {P : Prop} (h : P := by repeat (first | (with_reducible exact HR213.out) | (with_reducible refine Kd.C_alloc ?_ _) | (with_reducible refine Kd.C_drewN ?_ _) | (with_reducible refine Kd.C_drew ?_) | exact HR213.out)) : P := h
theorem y112_ {P : Prop} (h : P := by repeat (first | (with_reducible first | exact HB.out | apply below_alloc | apply pw_below_drewN | apply below_drew1 | refine below_set ?_ GE168.out) | exact HB.out)) : P := h
theorem y113_ {P : Prop} (h : P := by simp only [putAll, Act.put, List.setIfInBounds_toArray, List.set_cons_zero, List.set_cons_succ]) : P := h
theorem y114_ {P : Prop} (h : P := by (with_reducible repeat (first | apply Kd.R_alloc | apply Kd.R_drewN | apply Kd.R_drew)); exact Kd.R_mono HO_9.out (fun _ hk => ⟨hk.2, ⟨hk.1.1, hk.1.2⟩⟩)) : P := h
theorem y115_ {P : Prop} (h : P := by first | rfl | (simp; done) | (simp [*]; done)) : P := h
theorem y116_ {P : Prop} (h : P := by (with_reducible repeat (first | apply Kd.R_alloc | apply Kd.R_drewN | apply Kd.R_drew)); exact Kd.R_mono HO180.out (fun _ hk => ⟨hk.2.1, ⟨hk.1, hk.2.2⟩⟩)) : P := h
theorem y117_ {P : Prop} (h : P := by (with_reducible repeat (first | apply Kd.R_alloc | apply Kd.R_drewN | apply Kd.R_drew)); exact Kd.R_mono HO203.out (fun _ hk => ⟨hk.2.1, ⟨hk.1, hk.2.2⟩⟩)) : P := h
theorem spec_TasksFor.rest_ (k3 : Nat) (l0 : List S58) (l1 : List S69) (l2 : List Bool) (a3 : Int) (x9_1 : List S54) (x10_1 x12_3 t165 t166 t167 : Int) (r : List S54) (h : ((some (([] : List (S54)) : List (S54))).bind fun y171 => (if 0 ≤ x12_3 then (if x12_3 ≤ (x9_1.length : Int) then ((some (x9_1.take (x12_3 : Int).toNat : List (S54))).bind fun y174 => (if y171.length + y174.length < 5864062014805 then ((some (y171 ++ y174 : List (S54))).bind fun y178 => ((some (([(⟨t165, t166, t167⟩ : S54)] : List (S54)) : List (S54))).bind fun y181 => (if y178.length + y181.length < 5864062014805 then ((some (y178 ++ y181 : List (S54))).bind fun y184 => ((some (x9_1.drop (x12_3 : Int).toNat : List (S54))).bind fun y187 => (if y184.length + y187.length < 5864062014805 then (spec_TasksFor.l0 k3 l0 l1 l2 a3 (y184 ++ y187) (wrap64 (x10_1 + 1))) else (none)))) else (none)))) else (none))) else (none)) else (none))) = some r) : 0 ≤ x12_3 ∧ x12_3 ≤ (x9_1.length : Int) ∧ x9_1.length + 1 < 5864062014805 ∧ spec_TasksFor.l0 k3 l0 l1 l2 a3 (((([] : List S54) ++ x9_1.take x12_3.toNat) ++ [(⟨t165, t166, t167⟩ : S54)]) ++ x9_1.drop x12_3.toNat) (wrap64 (x10_1 + 1)) = some r := by
  simp only [Option.bind_some] at h
  split at h
  next h1 =>
    split at h
    next h2 =>
      split at h
      next h3 =>
        split at h
        next h4 =>
          split at h
          next h5 =>
            refine ⟨h1, h2, ?_, h⟩
            simp only [List.length_append, List.length_nil, List.length_cons, List.length_take, List.length_drop] at h5
            omega
          next => exact absurd h (by simp)
        next => exact absurd h (by simp)
      next => exact absurd h (by simp)
    next => exact absurd h (by simp)
  next => exact absurd h (by simp)
set_option maxHeartbeats 8000000 in
set_option maxRecDepth 100000 in
theorem spec_TasksFor.calls (k : Nat) (A0 : Option Addr) (c0 : Nat) (l0 : List (S58)) (A1 : Option Addr) (c1 : Nat) (l1 : List (S69)) (A2 : Option Addr) (c2 : Nat) (l2 : List Bool) (a3 : Int) (r : List (S54)) (w : World) (hr0 : Kd.C k58 w A0 l0.length l0) (hc0 : l0.length ≤ c0) (hr1 : Kd.C k69 w A1 l1.length l1) (hc1 : l1.length ≤ c1) (hr2 : Kd.C Kd.bool w A2 l2.length l2) (hc2 : l2.length ≤ c2) (h : spec_TasksFor.f k l0 l1 l2 a3 = some r) :
  Calls Try.prog 14 #[.slice A0 l0.length c0, .slice A1 l1.length c1, .slice A2 l2.length c2, .int .i64 a3] w fun e w' => ∃ v0_ : Value, e = .returned (v0_) ∧ Kd.R k54 54 w' w.heap.size (fun _ => True) v0_ r ∧ Below w.heap.size w w' := by
 have hu58 := Try.underlying58
 have hu54 := Try.underlying54
 have HR0 := Aside0.mk hr0
 have HC0 := Aside0.mk hc0
 clear hr0 hc0
 have HR1 := Aside0.mk hr1
 have HC1 := Aside0.mk hc1
 clear hr1 hc1
 have HR2 := Aside0.mk hr2
 have HC2 := Aside0.mk hc2
 clear hr2 hc2
 have HB := Aside0.mk (Below.refl w.heap.size w)
 have H : (spec_TasksFor.l0 k l0 l1 l2 a3 (([] : List (S54))) 0) = some r := h
 clear h
 obtain ⟨y157, hy157⟩ : ∃ y_ : List (S54), y_ = (([] : List (S54))) := ⟨_, rfl⟩
 replace H : (spec_TasksFor.l0 k l0 l1 l2 a3 y157 0) = some r := by first | (rw [hy157]; with_reducible exact H) | (have H2_ := (Option.bind_some _ _).symm.trans H; rw [hy157]; with_reducible exact H2_) | (have H2_ := (Option.bind_some _ _).symm.trans H; with_reducible exact H2_) | with_reducible exact H | (rw [hy157]; exact H) | exact H
 have Ny157 := Aside0.mk hy157
 clear hy157
 have H' := Aside0.mk H
 clear H
 go_enter Try.func14, Try.ntmps14
 go_wp2_with (first | ((with_reducible refine gate_dst (N := 13) rfl ?_); refine Kd.R_lit k54 _ 54 ?hg (N := 13) ?hd (xs := ([] : List (S54))) (inner := []) (ok := fun _ => True) (okp := fun _ => True) ?hr ?hp (fun _ hk => hk) trivial (Below.refl _ _) (Nat.le_refl _) (by simp) ?_; (case hd => rfl); (case hg => rfl); (case hr => first | (go_simp; done) | (go_simp; rfl)); (case hp => exact (Reps.none _ _)); intro v158 w5 ho6 hb hg_ hnew_; clear hg_ hnew_; (first | rw [← Ny157.out] at ho6 | (simp only [Int.reduceToNat] at ho6; rw [← Ny157.out] at ho6)); have HO159 := Aside0.mk (Kd.R_lower ho6 (below_size (hd_ HB.out))); have n1_ := Aside0.mk (below_step (hd_ HB.out) hb); clear HB; have HB := n1_; clear n1_; clear hb ho6))
 go_loopg [9, 10] k (fun kq v9 v10 w' => ∃ (x9_1 : List (S54)) (x10_1 : Int), v10 = .int .i64 x10_1 ∧ Aside0 (spec_TasksFor.l0 kq l0 l1 l2 a3 x9_1 x10_1 = some r) ∧ Aside0 (kq ≤ k) ∧ Aside0 (Kd.R k54 54 w' w.heap.size (fun _ => True) v9 x9_1) ∧ Aside0 (Below w.heap.size w w'))
 case atStart => exact ⟨(y157), (0), y115_, H', ⟨Nat.le_refl _⟩, ⟨rd_ HO159.out⟩, ⟨hd_ HB.out⟩⟩
 case round =>
  clear H'
  try clear c1
  try clear c2
  try clear p2
  obtain ⟨x9_1, x10_1, rfl, HA, HK1, HO_9, HB⟩ := hrel
  cases gk with
  | zero => exact absurd HA.out (by simp [spec_TasksFor.l0])
  | succ k1 =>
   have H := HA.out
   clear HA
   simp only [spec_TasksFor.l0] at H
   have HC7 := Aside0.mk H
   clear H
   go_upto_region 3 with (fail)
   go_cut [33] (fun v33 wc => ∃ (kq : Nat) (x33_6 : Bool), v33 = .bool x33_6 ∧ Aside0 (spec_TasksFor.j1 kq l0 l1 l2 a3 x9_1 x10_1 x33_6 = some r) ∧ Aside0 (kq ≤ k1) ∧ Aside0 (Kd.R k54 54 wc w.heap.size (fun _ => True) u9 x9_1) ∧ Aside0 (Below w.heap.size w wc))
   case first =>
    have H := HC7.out
    clear HC7
    by_cases c8 : x10_1 < (l0.length : Int)
    ·
     rw [if_pos c8] at H
     have c8b0 : decide (x10_1 < (l0.length : Int)) = true := decide_eq_true c8
     clear c8
     (first | rw [c8b0] | (simp only [i64_w, i32_w]; rw [c8b0]) | skip)
     replace H := Option.bind_eq_some_iff.mp H
     obtain ⟨t160, A90, H⟩ := H
     replace H : (if t160 = true then ((spec_AreClaims.f l1).bind fun t161 => (if t161 = true then ((spec_IsCalendar.f k1 l2).bind fun t162 => (if t162 = true then ((spec_l1In.f a3 0 100000).bind fun t163 => (spec_TasksFor.j1 k1 l0 l1 l2 a3 x9_1 x10_1 t163)) else (spec_TasksFor.j1 k1 l0 l1 l2 a3 x9_1 x10_1 false))) else (spec_TasksFor.j1 k1 l0 l1 l2 a3 x9_1 x10_1 false))) else (spec_TasksFor.j1 k1 l0 l1 l2 a3 x9_1 x10_1 false)) = some r := H
     have A9 := Aside0.mk A90
     clear A90
     by_cases c10 : t160 = true
     ·
      subst c10
      have H1 : ((spec_AreClaims.f l1).bind fun t161 => (if t161 = true then ((spec_IsCalendar.f k1 l2).bind fun t162 => (if t162 = true then ((spec_l1In.f a3 0 100000).bind fun t163 => (spec_TasksFor.j1 k1 l0 l1 l2 a3 x9_1 x10_1 t163)) else (spec_TasksFor.j1 k1 l0 l1 l2 a3 x9_1 x10_1 false))) else (spec_TasksFor.j1 k1 l0 l1 l2 a3 x9_1 x10_1 false))) = some r := by rw [if_pos rfl] at H; exact H
      clear H
      have H := H1
      clear H1
      replace H := Option.bind_eq_some_iff.mp H
      obtain ⟨t161, A110, H⟩ := H
      replace H : (if t161 = true then ((spec_IsCalendar.f k1 l2).bind fun t162 => (if t162 = true then ((spec_l1In.f a3 0 100000).bind fun t163 => (spec_TasksFor.j1 k1 l0 l1 l2 a3 x9_1 x10_1 t163)) else (spec_TasksFor.j1 k1 l0 l1 l2 a3 x9_1 x10_1 false))) else (spec_TasksFor.j1 k1 l0 l1 l2 a3 x9_1 x10_1 false)) = some r := H
      have A11 := Aside0.mk A110
      clear A110
      by_cases c12 : t161 = true
      ·
       subst c12
       have H1 : ((spec_IsCalendar.f k1 l2).bind fun t162 => (if t162 = true then ((spec_l1In.f a3 0 100000).bind fun t163 => (spec_TasksFor.j1 k1 l0 l1 l2 a3 x9_1 x10_1 t163)) else (spec_TasksFor.j1 k1 l0 l1 l2 a3 x9_1 x10_1 false))) = some r := by rw [if_pos rfl] at H; exact H
       clear H
       have H := H1
       clear H1
       replace H := Option.bind_eq_some_iff.mp H
       obtain ⟨t162, A130, H⟩ := H
       replace H : (if t162 = true then ((spec_l1In.f a3 0 100000).bind fun t163 => (spec_TasksFor.j1 k1 l0 l1 l2 a3 x9_1 x10_1 t163)) else (spec_TasksFor.j1 k1 l0 l1 l2 a3 x9_1 x10_1 false)) = some r := H
       have A13 := Aside0.mk A130
       clear A130
       by_cases c14 : t162 = true
       ·
        subst c14
        have H1 : ((spec_l1In.f a3 0 100000).bind fun t163 => (spec_TasksFor.j1 k1 l0 l1 l2 a3 x9_1 x10_1 t163)) = some r := by rw [if_pos rfl] at H; exact H
        clear H
        have H := H1
        clear H1
        replace H := Option.bind_eq_some_iff.mp H
        obtain ⟨t163, A150, H⟩ := H
        replace H : (spec_TasksFor.j1 k1 l0 l1 l2 a3 x9_1 x10_1 t163) = some r := H
        have A15 := Aside0.mk A150
        clear A150
        have H' := Aside0.mk H
        clear H
        go_wp2_with (first | (go_at_call 34; (with_reducible refine (spec_AreFinds.calls k1 _ _ l0 true _ ?side1 ?side2 A9.out).mono ?_); (case side1 => exact cd_ (Kd.C_below HR0.out HB.out)); (case side2 => exact HC0.out); rintro e w16 ⟨rfl, hb⟩; have n0_ := Aside0.mk (Kd.R_below (rd_ HO_9.out) hb); have n1_ := Aside0.mk (below_step (hd_ HB.out) hb); clear HO_9; clear HB; have HO_9 := n0_; have HB := n1_; clear n0_ n1_; (try clear hb)) | (go_at_call 35; (with_reducible refine (spec_AreClaims.calls _ _ l1 true _ ?side1 ?side2 A11.out).mono ?_); (case side1 => exact cd_ (Kd.C_below HR1.out HB.out)); (case side2 => exact HC1.out); rintro e w17 ⟨rfl, hb⟩; have n0_ := Aside0.mk (Kd.R_below (rd_ HO_9.out) hb); have n1_ := Aside0.mk (below_step (hd_ HB.out) hb); clear HO_9; clear HB; have HO_9 := n0_; have HB := n1_; clear n0_ n1_; (try clear hb)) | (go_at_call 36; (with_reducible refine (spec_IsCalendar.calls k1 _ _ l2 true _ ?side1 ?side2 A13.out).mono ?_); (case side1 => exact cd_ (Kd.C_below HR2.out HB.out)); (case side2 => exact HC2.out); rintro e w' ⟨rfl, ⟨nd, rfl⟩⟩) | (go_at_call 37; (with_reducible refine (spec_l1In.calls a3 0 100000 t163 _ A15.out).mono ?_); rintro e w' ⟨rfl, ⟨nd, rfl⟩⟩))
        go_meet
        case rel => exact ⟨_, (t163), y115_, H', ⟨by have := HK1.out; first | omega | exact Nat.le_refl _⟩, ⟨rd_ HO_9.out⟩, ⟨hd_ HB.out⟩⟩
       ·
        replace c14 := Bool.eq_false_iff.mpr c14
        subst c14
        have H1 : (spec_TasksFor.j1 k1 l0 l1 l2 a3 x9_1 x10_1 false) = some r := by rw [if_neg (show ¬ (false = true) by decide)] at H; exact H
        clear H
        have H := H1
        clear H1
        have H' := Aside0.mk H
        clear H
        go_wp2_with (first | (go_at_call 34; (with_reducible refine (spec_AreFinds.calls k1 _ _ l0 true _ ?side1 ?side2 A9.out).mono ?_); (case side1 => exact cd_ (Kd.C_below HR0.out HB.out)); (case side2 => exact HC0.out); rintro e w18 ⟨rfl, hb⟩; have n0_ := Aside0.mk (Kd.R_below (rd_ HO_9.out) hb); have n1_ := Aside0.mk (below_step (hd_ HB.out) hb); clear HO_9; clear HB; have HO_9 := n0_; have HB := n1_; clear n0_ n1_; (try clear hb)) | (go_at_call 35; (with_reducible refine (spec_AreClaims.calls _ _ l1 true _ ?side1 ?side2 A11.out).mono ?_); (case side1 => exact cd_ (Kd.C_below HR1.out HB.out)); (case side2 => exact HC1.out); rintro e w19 ⟨rfl, hb⟩; have n0_ := Aside0.mk (Kd.R_below (rd_ HO_9.out) hb); have n1_ := Aside0.mk (below_step (hd_ HB.out) hb); clear HO_9; clear HB; have HO_9 := n0_; have HB := n1_; clear n0_ n1_; (try clear hb)) | (go_at_call 36; (with_reducible refine (spec_IsCalendar.calls k1 _ _ l2 false _ ?side1 ?side2 A13.out).mono ?_); (case side1 => exact cd_ (Kd.C_below HR2.out HB.out)); (case side2 => exact HC2.out); rintro e w' ⟨rfl, ⟨nd, rfl⟩⟩))
        go_meet
        case rel => exact ⟨_, (false), y115_, H', ⟨by have := HK1.out; first | omega | exact Nat.le_refl _⟩, ⟨rd_ HO_9.out⟩, ⟨hd_ HB.out⟩⟩
      ·
       replace c12 := Bool.eq_false_iff.mpr c12
       subst c12
       have H1 : (spec_TasksFor.j1 k1 l0 l1 l2 a3 x9_1 x10_1 false) = some r := by rw [if_neg (show ¬ (false = true) by decide)] at H; exact H
       clear H
       have H := H1
       clear H1
       have H' := Aside0.mk H
       clear H
       go_wp2_with (first | (go_at_call 34; (with_reducible refine (spec_AreFinds.calls k1 _ _ l0 true _ ?side1 ?side2 A9.out).mono ?_); (case side1 => exact cd_ (Kd.C_below HR0.out HB.out)); (case side2 => exact HC0.out); rintro e w20 ⟨rfl, hb⟩; have n0_ := Aside0.mk (Kd.R_below (rd_ HO_9.out) hb); have n1_ := Aside0.mk (below_step (hd_ HB.out) hb); clear HO_9; clear HB; have HO_9 := n0_; have HB := n1_; clear n0_ n1_; (try clear hb)) | (go_at_call 35; (with_reducible refine (spec_AreClaims.calls _ _ l1 false _ ?side1 ?side2 A11.out).mono ?_); (case side1 => exact cd_ (Kd.C_below HR1.out HB.out)); (case side2 => exact HC1.out); rintro e w21 ⟨rfl, hb⟩; have n0_ := Aside0.mk (Kd.R_below (rd_ HO_9.out) hb); have n1_ := Aside0.mk (below_step (hd_ HB.out) hb); clear HO_9; clear HB; have HO_9 := n0_; have HB := n1_; clear n0_ n1_; (try clear hb)))
       go_meet
       case rel => exact ⟨_, (false), y115_, H', ⟨by have := HK1.out; first | omega | exact Nat.le_refl _⟩, ⟨rd_ HO_9.out⟩, ⟨hd_ HB.out⟩⟩
     ·
      replace c10 := Bool.eq_false_iff.mpr c10
      subst c10
      have H1 : (spec_TasksFor.j1 k1 l0 l1 l2 a3 x9_1 x10_1 false) = some r := by rw [if_neg (show ¬ (false = true) by decide)] at H; exact H
      clear H
      have H := H1
      clear H1
      have H' := Aside0.mk H
      clear H
      go_wp2_with (first | (go_at_call 34; (with_reducible refine (spec_AreFinds.calls k1 _ _ l0 false _ ?side1 ?side2 A9.out).mono ?_); (case side1 => exact cd_ (Kd.C_below HR0.out HB.out)); (case side2 => exact HC0.out); rintro e w22 ⟨rfl, hb⟩; have n0_ := Aside0.mk (Kd.R_below (rd_ HO_9.out) hb); have n1_ := Aside0.mk (below_step (hd_ HB.out) hb); clear HO_9; clear HB; have HO_9 := n0_; have HB := n1_; clear n0_ n1_; (try clear hb)))
      go_meet
      case rel => exact ⟨_, (false), y115_, H', ⟨by have := HK1.out; first | omega | exact Nat.le_refl _⟩, ⟨rd_ HO_9.out⟩, ⟨hd_ HB.out⟩⟩
    ·
     rw [if_neg c8] at H
     have c8b0 : decide (x10_1 < (l0.length : Int)) = false := decide_eq_false c8
     clear c8
     (first | rw [c8b0] | (simp only [i64_w, i32_w]; rw [c8b0]) | skip)
     have H' := Aside0.mk H
     clear H
     go_wp2
     go_meet
     case rel => exact ⟨_, (false), y115_, H', ⟨by have := HK1.out; first | omega | exact Nat.le_refl _⟩, ⟨rd_ HO_9.out⟩, ⟨hd_ HB.out⟩⟩
   case rest =>
    clear HC7
    try clear c1
    try clear c2
    try clear p2
    try clear c8
    try clear c8b0
    try clear c10
    try clear c12
    try clear c14
    try clear p2
    obtain ⟨kq, x33_6, rfl, HA, HJ6, HO_9, HB⟩ := hcut
    cases kq with
    | zero => exact absurd HA.out (by simp [spec_TasksFor.j1])
    | succ kj6 =>
     have H := HA.out
     clear HA
     simp only [spec_TasksFor.j1] at H
     by_cases c23 : x33_6 = true
     ·
      subst c23
      have H1 : (if 0 ≤ x10_1 then (if x10_1 < (l0.length : Int) then ((spec_TaskOf.f kj6 ((rd_T58 l0 x10_1).f0.f0) ((rd_T58 l0 x10_1).f0.f1) ((rd_T58 l0 x10_1).f0.f2) ((rd_T58 l0 x10_1).f0.f3) ((rd_T58 l0 x10_1).f0.f4) ((rd_T58 l0 x10_1).f1) ((rd_T58 l0 x10_1).f2) ((rd_T58 l0 x10_1).f3) l1 l2 a3).bind fun bt165 => (spec_TasksFor.l1 kj6 l0 l1 l2 a3 x9_1 x10_1 (x9_1.length : Int) bt165.1 bt165.2.1 bt165.2.2)) else (none)) else (none)) = some r := by rw [if_pos rfl] at H; exact H
      clear H
      have H := H1
      clear H1
      by_cases c24 : 0 ≤ x10_1
      ·
       rw [if_pos c24] at H
       have c24b0 : decide (0 ≤ x10_1) = true := decide_eq_true c24
       clear c24
       by_cases c25 : x10_1 < (l0.length : Int)
       ·
        rw [if_pos c25] at H
        have c25b0 : decide (x10_1 < (l0.length : Int)) = true := decide_eq_true c25
        clear c25
        replace H := Option.bind_eq_some_iff.mp H
        obtain ⟨⟨t165, t166, t167⟩, A260, H⟩ := H
        replace H : (spec_TasksFor.l1 kj6 l0 l1 l2 a3 x9_1 x10_1 (x9_1.length : Int) t165 t166 t167) = some r := H
        have A26 := Aside0.mk A260
        clear A260
        have H' := Aside0.mk H
        clear H
        have p164 : 0 ≤ (x10_1 : Int) := of_decide_eq_true as_
        have q164 : x10_1 < (l0.length : Int) := of_decide_eq_true as_
        obtain ⟨ad164, e164, hx164_0, hx164_1, hx164_2, hx164_3, hx164_4, hx164_5, hx164_6, hx164_7⟩ := at_T58 HR0.out x10_1 p164 q164
        cases e164
        replace hx164_0 := cb_ HB.out hx164_0
        replace hx164_1 := cb_ HB.out hx164_1
        replace hx164_2 := cb_ HB.out hx164_2
        replace hx164_3 := cb_ HB.out hx164_3
        replace hx164_4 := cb_ HB.out hx164_4
        replace hx164_5 := cb_ HB.out hx164_5
        replace hx164_6 := cb_ HB.out hx164_6
        replace hx164_7 := cb_ HB.out hx164_7
        replace p164 := eq_true p164
        replace q164 := eq_true q164
        go_wp2_with (first | ((with_reducible refine gate_callee (f := 29) rfl ?_); refine goesL_ (some 43) rfl rfl Try.func29 (by kernel_rfl) rfl #[.agg #[.int .i64 ((rd_T58 l0 x10_1).f0.f0), .int .i64 ((rd_T58 l0 x10_1).f0.f1), .int .i64 ((rd_T58 l0 x10_1).f0.f2), .int .i64 ((rd_T58 l0 x10_1).f0.f3), .int .i64 ((rd_T58 l0 x10_1).f0.f4), .int .i64 ((rd_T58 l0 x10_1).f1), .int .i64 ((rd_T58 l0 x10_1).f2), .int .i64 ((rd_T58 l0 x10_1).f3)], .slice A1 l1.length c1, .slice A2 l2.length c2, .int .i64 a3] rfl ma_ ?_; (with_reducible refine (spec_TaskOf.calls kj6 ((rd_T58 l0 x10_1).f0.f0) ((rd_T58 l0 x10_1).f0.f1) ((rd_T58 l0 x10_1).f0.f2) ((rd_T58 l0 x10_1).f0.f3) ((rd_T58 l0 x10_1).f0.f4) ((rd_T58 l0 x10_1).f1) ((rd_T58 l0 x10_1).f2) ((rd_T58 l0 x10_1).f3) _ _ l1 _ _ l2 a3 t165 t166 t167 _ ?side1 ?side2 ?side3 ?side4 A26.out).mono ?_); (case side1 => exact cd_ (Kd.C_below HR1.out HB.out)); (case side2 => exact HC1.out); (case side3 => exact cd_ (Kd.C_below HR2.out HB.out)); (case side4 => exact HC2.out); rintro e w27 ⟨rfl, hb⟩; refine ⟨_, rfl, ?_⟩; have n0_ := Aside0.mk (Kd.R_below (rd_ HO_9.out) hb); have n1_ := Aside0.mk (below_step (hd_ HB.out) hb); clear HO_9; clear HB; have HO_9 := n0_; have HB := n1_; clear n0_ n1_; (try clear hb)) | (refine bx_ 11 #[.int .i64 0, .int .i64 0, .int .i64 0] 54 ?_; intro gb168 hg w28 hbox hb; have n0_ := Aside0.mk (Kd.R_below (Kd.R_elderB (rd_ HO_9.out) gb168 (Nat.le_of_eq hg.symm)) hb); have n1_ := Aside0.mk (below_step (hd_ HB.out) hb); have BK168 := Aside0.mk (hbox); have GW168 := Aside0.mk ((by rw [hg]; exact (below_size (hd_ HB.out)) : w.heap.size ≤ gb168)); have GE168 := GW168; clear HO_9; clear HB; have HO_9 := n0_; have HB := n1_; clear n0_ n1_; clear hb hbox hg; obtain ⟨hcz29_0, hcz29_1, hcz29_2⟩ := e96_ BK168.out; obtain ⟨hfz29_0, hfz29_1, hfz29_2⟩ := z97_ BK168.out; obtain ⟨Ao30, co30, eo30⟩ := Kd.R_slice HO_9.out; subst eo30))
        go_loopg [12] kj6 (fun kq v12 w' => ∃ (x12_3 : Int), v12 = .int .i64 x12_3 ∧ Aside0 (spec_TasksFor.l1 kq l0 l1 l2 a3 x9_1 x10_1 x12_3 t165 t166 t167 = some r) ∧ Aside0 (kq ≤ kj6) ∧ Aside0 (Kd.R k54 54 w' w.heap.size (fun k_ => k_ ≠ gb168) (.slice Ao30 x9_1.length co30) x9_1) ∧ Aside0 (w'.heap[gb168]? = some (.cells #[.int .i64 t165, .int .i64 t166, .int .i64 t167] 54 (0, 0))) ∧ Aside0 (Below w.heap.size w w'))
        case atStart => exact ⟨((x9_1.length : Int)), y115_, H', ⟨Nat.le_refl _⟩, ⟨by (with_reducible repeat (first | apply Kd.R_alloc | apply Kd.R_drewN | apply Kd.R_drew)); exact Kd.R_mono (Kd.R_far (p := ⟨gb168, 2, none⟩) (Kd.R_far (p := ⟨gb168, 1, none⟩) (Kd.R_far (p := ⟨gb168, 0, none⟩) (Kd.R_mono HO_9.out (fun k_ hk => (⟨hk, hk.2⟩ : _ ∧ k_ ≠ gb168))) (fun _ hk => hk.2) (.int .i64 t165)) (fun _ hk => hk.2) (.int .i64 t166)) (fun _ hk => hk.2) (.int .i64 t167)) (fun _ hk => hk.1.2)⟩, ⟨by (with_reducible repeat (first | refine blk_drewN ?_ _ | refine blk_drew ?_ | refine blk_alloc ?_ _)); refine blk_put (cs := #[.int .i64 t165, .int .i64 t166, .int .i64 0]) ?_ 2 _ rfl; (with_reducible repeat (first | refine blk_drewN ?_ _ | refine blk_drew ?_ | refine blk_alloc ?_ _)); refine blk_put (cs := #[.int .i64 t165, .int .i64 0, .int .i64 0]) ?_ 1 _ rfl; (with_reducible repeat (first | refine blk_drewN ?_ _ | refine blk_drew ?_ | refine blk_alloc ?_ _)); refine blk_put (cs := #[.int .i64 0, .int .i64 0, .int .i64 0]) ?_ 0 _ rfl; (with_reducible repeat (first | refine blk_drewN ?_ _ | refine blk_drew ?_ | refine blk_alloc ?_ _)); exact BK168.out⟩, ⟨y112_⟩⟩
        case round =>
         clear H'
         try clear c1
         try clear p1
         try clear q1
         try clear hx1
         try clear c2
         try clear p2
         try clear c8
         try clear c8b0
         try clear c10
         try clear c12
         try clear c14
         try clear p16
         try clear q16
         try clear hx16
         try clear c23
         try clear c24
         try clear c24b0
         try clear c25
         try clear c25b0
         try clear c29
         try clear hx164_0
         try clear hx164_1
         try clear hx164_2
         try clear hx164_3
         try clear hx164_4
         try clear hx164_5
         try clear hx164_6
         try clear hx164_7
         try clear p164
         try clear p2
         try clear q164
         obtain ⟨x12_3, rfl, HA, HK3, HO_9, BK168, HB⟩ := hrel
         cases gk with
         | zero => exact absurd HA.out (by simp [spec_TasksFor.l1])
         | succ k3 =>
          have H := HA.out
          clear HA
          simp only [spec_TasksFor.l1] at H
          have HC_ := Aside0.mk H
          clear H
          go_upto_region 7 with (fail)
          (try simp only [Act.put, List.setIfInBounds_toArray, List.set_cons_zero, List.set_cons_succ])
          go_cut [56] (fun v56 wc => ∃ b_ : Bool, v56 = .bool b_ ∧ Aside0 (b_ = true → ∃ j_ : Int, IntKind.i64.wrap (x12_3 - 1) = j_ ∧ spec_TasksFor.l1 k3 l0 l1 l2 a3 x9_1 x10_1 j_ t165 t166 t167 = some r) ∧ Aside0 (b_ = false → 0 ≤ x12_3 ∧ x12_3 ≤ (x9_1.length : Int) ∧ x9_1.length + 1 < 5864062014805 ∧ spec_TasksFor.l0 k3 l0 l1 l2 a3 (((([] : List S54) ++ x9_1.take x12_3.toNat) ++ [(⟨t165, t166, t167⟩ : S54)]) ++ x9_1.drop x12_3.toNat) (wrap64 (x10_1 + 1)) = some r) ∧ Aside0 (Kd.R k54 54 wc w.heap.size (fun k_ => k_ ≠ gb168) (.slice Ao30 x9_1.length co30) x9_1) ∧ Aside0 (wc.heap[gb168]? = some (.cells #[.int .i64 t165, .int .i64 t166, .int .i64 t167] 54 (0, 0))) ∧ Aside0 (Below w.heap.size w wc))
          case first =>
           have H := HC_.out
           clear HC_
           by_cases c31 : x12_3 > 0
           ·
            rw [if_pos c31] at H
            have c31b0 : decide (0 < x12_3) = true := decide_eq_true c31
            clear c31
            obtain ⟨ji32, hji32⟩ : ∃ j_ : Int, (wrap64 (x12_3 - 1)) = j_ := ⟨_, rfl⟩
            replace H : (if 0 ≤ (ji32) then (if (ji32) < (x9_1.length : Int) then ((spec_l30Before.f t165 t166 t167 ((rd_T54 x9_1 (ji32)).f0) ((rd_T54 x9_1 (ji32)).f1) ((rd_T54 x9_1 (ji32)).f2)).bind fun t170 => (if t170 = true then (spec_TasksFor.l1 k3 l0 l1 l2 a3 x9_1 x10_1 ji32 t165 t166 t167) else ((some (([] : List (S54)) : List (S54))).bind fun y171 => (if 0 ≤ x12_3 then (if x12_3 ≤ (x9_1.length : Int) then ((some (x9_1.take (x12_3 : Int).toNat : List (S54))).bind fun y174 => (if y171.length + y174.length < 5864062014805 then ((some (y171 ++ y174 : List (S54))).bind fun y178 => ((some (([(⟨t165, t166, t167⟩ : S54)] : List (S54)) : List (S54))).bind fun y181 => (if y178.length + y181.length < 5864062014805 then ((some (y178 ++ y181 : List (S54))).bind fun y184 => ((some (x9_1.drop (x12_3 : Int).toNat : List (S54))).bind fun y187 => (if y184.length + y187.length < 5864062014805 then (spec_TasksFor.l0 k3 l0 l1 l2 a3 (y184 ++ y187) (wrap64 (x10_1 + 1))) else (none)))) else (none)))) else (none))) else (none)) else (none))))) else (none)) else (none)) = some r := by first | (rw [hji32] at H; exact H) | (simp only [hji32] at H ⊢; exact H)
            have hji32w : (IntKind.i64.wrap (x12_3 - 1)) = ji32 := (i64_w _).trans hji32
            by_cases c33 : 0 ≤ (ji32)
            ·
             rw [if_pos c33] at H
             have c33b0 : decide (0 ≤ (ji32)) = true := decide_eq_true c33
             clear c33
             by_cases c34 : (ji32) < (x9_1.length : Int)
             ·
              rw [if_pos c34] at H
              have c34b0 : decide ((ji32) < (x9_1.length : Int)) = true := decide_eq_true c34
              clear c34
              replace H := Option.bind_eq_some_iff.mp H
              obtain ⟨t170, A350, H⟩ := H
              have A35 := Aside0.mk A350
              clear A350
              have HT_1 : Aside0 (t170 = true → ∃ j_ : Int, IntKind.i64.wrap (x12_3 - 1) = j_ ∧ spec_TasksFor.l1 k3 l0 l1 l2 a3 x9_1 x10_1 j_ t165 t166 t167 = some r) := ⟨fun e_ => ⟨ji32, hji32w, by subst e_; rw [if_pos rfl] at H; exact H⟩⟩
              have HT_2 := Aside0.mk (fun e_ : t170 = false => spec_TasksFor.rest_ k3 l0 l1 l2 a3 x9_1 x10_1 x12_3 t165 t166 t167 r (by subst e_; rw [if_neg (by decide)] at H; exact H))
              clear H
              try go_wp2
              have n0_ := Aside0.mk (Kd.R_drew HO_9.out)
              have n1_ := Aside0.mk (blk_drew BK168.out)
              have n2_ := Aside0.mk (below_drew1 HB.out)
              clear HO_9
              clear BK168
              clear HB
              have HO_9 := n0_
              have BK168 := n1_
              have HB := n2_
              clear n0_ n1_ n2_
              have p169 : 0 ≤ ((ji32) : Int) := of_decide_eq_true as_
              have q169 : (ji32) < (x9_1.length : Int) := of_decide_eq_true as_
              obtain ⟨ad169, e169, hx169_0, hx169_1, hx169_2⟩ := at_T54 (Kd.R_reads' HO_9.out).2.2 (ji32) p169 q169
              cases e169
              replace p169 := eq_true p169
              replace q169 := eq_true q169
              refine start_ (n := 11) (S := fun w' => q4_ w' gb168 t165 t166 t167 (q1e_ w' (ad169.add (((ji32)).toNat * 3)) ((rd_T54 x9_1 (ji32)).f0) ((rd_T54 x9_1 (ji32)).f1) ((rd_T54 x9_1 (ji32)).f2))) (ds := []) M3_0 (by kernel_rfl) rfl rfl (k4_ BK168.out ⟨hx169_0, hx169_1, hx169_2⟩) (fun hHeld => ?_); refine with_tabW spec_TasksFor.tab7 spec_TasksFor.bits7 (fun HT_ HW_ => ?_)
              generalize wr.drew = w37 at HO_9 BK168 HB hx169_0 hx169_1 hx169_2 hHeld ⊢
              refine pu_ 0 (some 46) M3_1 HT_ ?_
              refine pu_ 1 (some 47) M3_2 HT_ ?_
              refine pu_ 2 (some 48) M3_3 HT_ ?_
              refine pu_ 4 (some 50) M3_4 HT_ ?_
              refine pu_ 5 (some 51) M3_5 HT_ ?_
              refine pu_ 6 (some 52) M3_6 HT_ ?_
              refine pu_ 7 (some 53) M3_7 HT_ ?_
              refine tk_ 3 (some 49) M3_8 HT_ HW_ hHeld ?_
              refine tk_ 8 (some 54) M3_9 HT_ HW_ hHeld ?_
              refine one_ (i := 9) (N := some 55) M3_10 rfl rfl (one_of HT_.out (by kernel_rfl)) (by decide) (fun K hK => ?_)
              refine goes_ Try.func38 (by kernel_rfl) rfl #[.agg #[.int .i64 t165, .int .i64 t166, .int .i64 t167], .agg #[.int .i64 ((rd_T54 x9_1 (ji32)).f0), .int .i64 ((rd_T54 x9_1 (ji32)).f1), .int .i64 ((rd_T54 x9_1 (ji32)).f2)]] (by rfl) rfl rfl (by (try simp only [List.map_toArray, List.map_cons, List.map_nil]); first | done | (simp only [hji32]; rfl) | rfl | (simp only [List.length_drop, List.length_take]; rfl)) ?_
              with_reducible refine (spec_l30Before.calls t165 t166 t167 ((rd_T54 x9_1 (ji32)).f0) ((rd_T54 x9_1 (ji32)).f1) ((rd_T54 x9_1 (ji32)).f2) t170 _ A35.out).mono ?_
              rintro e w38 ⟨rfl, hb⟩
              have HS3_ := (hb.cell (World.block_lt_of_cell? _ _ (hHeld.2.2.2.1))).trans (hHeld.2.2.2.1)
              have HS4_ := (hb.cell (World.block_lt_of_cell? _ _ (hHeld.2.2.2.2.1))).trans (hHeld.2.2.2.2.1)
              have HS5_ := (hb.cell (World.block_lt_of_cell? _ _ (hHeld.2.2.2.2.2))).trans (hHeld.2.2.2.2.2)
              refine ⟨_, rfl, ?_⟩
              have n0_ := Aside0.mk (Kd.R_below (rd_ HO_9.out) hb)
              have n1_ := Aside0.mk (blk_below (bd_ BK168.out) hb)
              have n2_ := Aside0.mk (below_step y98_ hb)
              clear HO_9
              clear BK168
              clear HB
              have HO_9 := n0_
              have BK168 := n1_
              have HB := n2_
              clear n0_ n1_ n2_
              (try clear hb)
              (try clear hb2)
              (try clear hk)
              (try clear hi)
              refine hK.out _ _ (k4_ BK168.out ⟨HS3_, HS4_, HS5_⟩) (fun hHeld => ?_)
              clear hK K
              refine norm_ (a' := ?_) ?_ ?_
              rotate_left
              ·
               show Act.put _ (some 55) _ = _
               simp only [Act.put, P3_1, P3_2, P3_3, i64_w, i32_w]
               rfl
              refine pu_ 10 (some 56) M3_11 HT_ ?_
              refine done_ (done_of HT_.out (by kernel_rfl)) ?_
              try go_wp2
              go_meet
              exact ⟨t170, (by first | rfl | (simp; done)), HT_1, HT_2, ⟨rd_ HO_9.out⟩, ⟨bd_ BK168.out⟩, ⟨hd_ HB.out⟩⟩
             ·
              rw [if_neg c34] at H
              exact absurd H (by simp)
            ·
             rw [if_neg c33] at H
             exact absurd H (by simp)
           ·
            rw [if_neg c31] at H
            have c31b0 : decide (0 < x12_3) = false := decide_eq_false c31
            clear c31
            have HT_2 := Aside0.mk (spec_TasksFor.rest_ k3 l0 l1 l2 a3 x9_1 x10_1 x12_3 t165 t166 t167 r H)
            clear H
            try go_wp2
            have n0_ := Aside0.mk (Kd.R_drew HO_9.out)
            have n1_ := Aside0.mk (blk_drew BK168.out)
            have n2_ := Aside0.mk (below_drew1 HB.out)
            clear HO_9
            clear BK168
            clear HB
            have HO_9 := n0_
            have BK168 := n1_
            have HB := n2_
            clear n0_ n1_ n2_
            refine start_ (n := 11) (S := fun w' => True) (ds := []) M3_0 (by kernel_rfl) rfl rfl trivial (fun hHeld => ?_); refine with_tabW spec_TasksFor.tab7 spec_TasksFor.bits7 (fun HT_ HW_ => ?_)
            generalize wr.drew = w67 at HO_9 BK168 HB hHeld ⊢
            refine pu_ 0 (some 46) M3_1 HT_ ?_
            refine pu_ 1 (some 47) M3_2 HT_ ?_
            refine pu_ 2 (some 48) M3_3 HT_ ?_
            refine pn_ 3 (some 49) M3_28 HT_ ?_
            refine pn_ 4 (some 50) M3_29 HT_ ?_
            refine pn_ 5 (some 51) M3_30 HT_ ?_
            refine pn_ 6 (some 52) M3_31 HT_ ?_
            refine pn_ 7 (some 53) M3_8 HT_ ?_
            refine pn_ 8 (some 54) M3_9 HT_ ?_
            refine pn_ 9 (some 55) M3_10 HT_ ?_
            refine pu_ 10 (some 56) M3_11 HT_ ?_
            refine done_ (done_of HT_.out (by kernel_rfl)) ?_
            try go_wp2
            go_meet
            exact ⟨false, rfl, ⟨fun e_ => absurd e_ (by decide)⟩, ⟨fun _ => HT_2.out⟩, ⟨rd_ HO_9.out⟩, ⟨bd_ BK168.out⟩, ⟨hd_ HB.out⟩⟩
          case rest =>
           clear HC_
           obtain ⟨b_, rfl, HT_1, HT_2, HO_9, BK168, HB⟩ := hcut
           cases b_ with
           | true =>
             obtain ⟨j_, hj_, H⟩ := HT_1.out rfl
             have H' := Aside0.mk H
             clear H HT_1 HT_2
             go_wp2
             go_roundg k3
             case measure => have := HK1.out; have := HJ6.out; have := HK3.out; omega
             case rel => exact ⟨j_, (by first | rfl | (simp [*]; done) | (simp [hj_, ← hj_]; done) | (rw [← hj_, i64_w])), H', ⟨by have := HK1.out; have := HJ6.out; have := HK3.out; omega⟩, ⟨rd_ HO_9.out⟩, ⟨bd_ BK168.out⟩, ⟨hd_ HB.out⟩⟩
           | false =>
             obtain ⟨x0_, x1_, x2_, H⟩ := HT_2.out rfl
             clear HT_1 HT_2
             have c60b0 := eq_true x0_
             have c60b1 : decide (0 ≤ x12_3) = true := decide_eq_true x0_
             have c61b0 := eq_true x1_
             have c61b1 : decide (x12_3 ≤ (x9_1.length : Int)) = true := decide_eq_true x1_
             obtain ⟨y194, hy194⟩ : ∃ y_ : List S54, y_ = ([] : List S54) := ⟨_, rfl⟩
             obtain ⟨y197, hy197⟩ : ∃ y_ : List S54, y_ = x9_1.take (x12_3 : Int).toNat := ⟨_, rfl⟩
             obtain ⟨y201, hy201⟩ : ∃ y_ : List S54, y_ = y194 ++ y197 := ⟨_, rfl⟩
             obtain ⟨y204, hy204⟩ : ∃ y_ : List S54, y_ = [(⟨t165, t166, t167⟩ : S54)] := ⟨_, rfl⟩
             obtain ⟨y207, hy207⟩ : ∃ y_ : List S54, y_ = y201 ++ y204 := ⟨_, rfl⟩
             obtain ⟨y210, hy210⟩ : ∃ y_ : List S54, y_ = x9_1.drop (x12_3 : Int).toNat := ⟨_, rfl⟩
             obtain ⟨y214, hy214⟩ : ∃ y_ : List S54, y_ = y207 ++ y210 := ⟨_, rfl⟩
             have LMc62 := Aside0.mk (show y194.length + y197.length < 5864062014805 from by rw [hy194, hy197, List.length_take]; simp only [List.length_nil]; omega)
             have LMc63 := Aside0.mk (show y201.length + y204.length < 5864062014805 from by rw [hy201, hy204, hy194, hy197, List.length_append, List.length_take]; simp only [List.length_nil, List.length_cons]; omega)
             have LMc66 := Aside0.mk (show y207.length + y210.length < 5864062014805 from by rw [hy207, hy210, hy201, hy204, hy194, hy197, List.length_append, List.length_append, List.length_take, List.length_drop]; simp only [List.length_nil, List.length_cons]; omega)
             replace H : (spec_TasksFor.l0 k3 l0 l1 l2 a3 y214 (wrap64 (x10_1 + 1))) = some r := by rw [hy214, hy207, hy210, hy201, hy204, hy194, hy197]; exact H
             have Ny194 := Aside0.mk hy194
             have Ny197 := Aside0.mk hy197
             have Ny201 := Aside0.mk hy201
             have Ny204 := Aside0.mk hy204
             have Ny207 := Aside0.mk hy207
             have Ny210 := Aside0.mk hy210
             have Ny214 := Aside0.mk hy214
             clear hy194 hy197 hy201 hy204 hy207 hy210 hy214 x0_ x1_ x2_
             have H' := Aside0.mk H
             clear H
             try go_wp2
             have n0_ := Aside0.mk (Kd.R_drew HO_9.out)
             have n1_ := Aside0.mk (blk_drew BK168.out)
             have n2_ := Aside0.mk (below_drew1 HB.out)
             clear HO_9 BK168 HB
             have HO_9 := n0_
             have BK168 := n1_
             have HB := n2_
             clear n0_ n1_ n2_
             have q69 : (x12_3 : Int) ≤ ((x9_1.length : Int) : Int) := of_decide_eq_true as_
             obtain ⟨i069, hi069, _, hsz69, _⟩ := info_parts info54
             have hroom69 : x9_1.length ≤ co30 := (Kd.R_reads' HO_9.out).2.1
             have hC69 : Kd.C k54 _ Ao30 x9_1.length x9_1 := (Kd.R_reads' HO_9.out).2.2
             have hcut69 := cut_to (P := Try.prog) 25 54 .i64 Try.underlying25 hi069 Ao30 x9_1.length co30 x12_3 (of_decide_eq_true as_) q69 hroom69
             have hr69 := Kd.C_take (m := (x12_3 : Int).toNat) hC69 (by omega)
             have hy69 : y197.length = (x12_3 : Int).toNat := (by rw [Ny197.out, List.length_take]; omega)
             rw [← Ny197.out] at hr69
             rw [← hy69] at hcut69
             have HR200 := Aside0.mk hr69
             have HC200 := Aside0.mk (show y197.length ≤ co30 from by omega)
             clear hr69 hC69 hroom69 hi069 hsz69
             have KY69 := Aside0.mk hy69
             clear hy69
             have KL69 := Aside0.mk (show (x12_3 : Int).toNat ≤ x9_1.length from by omega)
             replace q69 := eq_true q69
             have q70 : (x12_3 : Int) ≤ ((x9_1.length : Int) : Int) := of_decide_eq_true as_
             obtain ⟨i070, hi070, _, hsz70, _⟩ := info_parts info54
             have hroom70 : x9_1.length ≤ co30 := (Kd.R_reads' HO_9.out).2.1
             have hC70 : Kd.C k54 _ Ao30 x9_1.length x9_1 := (Kd.R_reads' HO_9.out).2.2
             have q070 : (0 : Int) ≤ (x12_3 : Int) := of_decide_eq_true as_
             have hcut70 := cut_from (P := Try.prog) 25 54 .i64 Try.underlying25 hi070 3 hsz70 Ao30 x9_1.length co30 x12_3 q070 q70
             have hr70 := Kd.C_drop (m := (x12_3 : Int).toNat) (c := co30) hC70 (by omega) hroom70
             obtain ⟨A70, hA70⟩ : ∃ A1, A1 = (if co30 = (x12_3 : Int).toNat then Ao30 else (Ao30 : Option Addr).map (·.add ((x12_3 : Int).toNat * 3))) := ⟨_, rfl⟩
             obtain ⟨c70, hc70⟩ : ∃ c1, c1 = co30 - (x12_3 : Int).toNat := ⟨_, rfl⟩
             have hy70 : y210.length = x9_1.length - (x12_3 : Int).toNat := (by rw [Ny210.out, List.length_drop] <;> omega)
             rw [show (x9_1).drop (x12_3 : Int).toNat = y210 from Ny210.out.symm] at hr70
             replace hr70 : Kd.C k54 _ A70 y210.length y210 := (by rw [hA70]; exact hr70)
             rw [← hy70, ← hA70, ← hc70] at hcut70
             have HR213 := Aside0.mk hr70
             have HC213 := Aside0.mk (show y210.length ≤ c70 from by rw [hy70, hc70]; exact Nat.sub_le_sub_right hroom70 _)
             clear hr70 hC70 hroom70 hi070 hsz70 hc70
             have KY70 := Aside0.mk hy70
             have KA70 := Aside0.mk hA70
             clear hy70 hA70
             have KL70 := Aside0.mk (show (x12_3 : Int).toNat ≤ x9_1.length from by omega)
             replace q70 := eq_true q70
             refine start_ (n := 13) (S := fun w' => q4e_ w' gb168 t165 t166 t167) (ds := []) M3_12 (by kernel_rfl) rfl rfl (k4e_ BK168.out) (fun hHeld => ?_); refine with_tabW spec_TasksFor.tab9 spec_TasksFor.bits9 (fun HT_ HW_ => ?_)
             generalize wc.drew = w68 at HO_9 BK168 HB HR200 HR213 hHeld ⊢
             refine pu_ 1 (some 60) M3_13 HT_ ?_
             refine pu_ 2 (some 61) M3_14 HT_ ?_
             refine pu_ 3 (some 62) M3_15 HT_ ?_
             refine pu_ 8 (some 67) M3_16 HT_ ?_
             refine pu_ 9 (some 68) M3_17 HT_ ?_
             refine pu_ 10 (some 69) M3_18 HT_ ?_
             refine tk_ 5 (some 64) M3_19 HT_ HW_ hHeld ?_
             refine join_ (σ := Value × Value × Value) 3 M3_20 (fun s_ => [(59, s_.1), (63, s_.2.1), (65, s_.2.2)]) (fun s_ w' => (q4e_ w' gb168 t165 t166 t167) ∧ (Kd.R k54 54 w' w.heap.size (fun k_ => some k_ ≠ (s_.2.2 : Value).ownBlock ∧ some k_ ≠ (.slice Ao30 x9_1.length co30 : Value).ownBlock ∧ k_ ≠ gb168) s_.2.1 y201) ∧ (Kd.R k54 54 w' w.heap.size (fun k_ => some k_ ≠ (s_.2.1 : Value).ownBlock ∧ some k_ ≠ (.slice Ao30 x9_1.length co30 : Value).ownBlock ∧ k_ ≠ gb168) s_.2.2 y204) ∧ (Kd.R k54 54 w' w.heap.size (fun k_ => some k_ ≠ (s_.2.1 : Value).ownBlock ∧ some k_ ≠ (s_.2.2 : Value).ownBlock ∧ k_ ≠ gb168) (.slice Ao30 x9_1.length co30) x9_1) ∧ (w'.heap[gb168]? = some (.cells #[.int .i64 t165, .int .i64 t166, .int .i64 t167] 54 (0, 0))) ∧ (Below w.heap.size w w')) ?_ ?_
             rotate_left
             ·
              intro hCont
              refine two_ (i := 0) (j := 6) (Ni := some 59) (Nj := some 65) M3_21 M3_22 rfl rfl rfl rfl (two_of HT_.out (by kernel_rfl)) (by decide) (by decide) (fun K hK => ?_) (fun K hK => ?_)
              ·
               skip
               refine Kd.R_lit_step k54 _ 54 ?hg (N := 59) ?hd (xs := ([] : List (S54))) (inner := []) (ok := fun _ => True) (okp := fun _ => True) ?hr ?hp (fun _ hk => hk) trivial (Below.refl _ _) (Nat.le_refl _) (by simp) ?_; (case hd => rfl); (case hg => rfl); (case hr => first | (go_simp; done) | (go_simp; rfl)); (case hp => exact (Reps.none _ _))
               intro v195 w71 ho72 hb hg_ hnew_
               clear hg_ hnew_
               (first | rw [← Ny194.out] at ho72 | (simp only [Int.reduceToNat] at ho72; rw [← Ny194.out] at ho72))
               have n0_ := Aside0.mk (Kd.R_elder' (rd_ HO_9.out) (Kd.R_base ho72) hb)
               have HO196 := Aside0.mk (Kd.R_lower (Kd.R_newB (Kd.R_new' ho72 (Kd.R_lt (rd_ HO_9.out))) (g := gb168) (o := .cells #[.int .i64 t165, .int .i64 t166, .int .i64 t167] 54 (0, 0)) (bd_ BK168.out)) (below_size y98_))
               have n2_ := Aside0.mk (blk_below (bd_ BK168.out) hb)
               have n3_ := Aside0.mk (Kd.C_below y103_ hb)
               have n4_ := Aside0.mk (Kd.C_below y109_ hb)
               have n5_ := Aside0.mk (below_step y98_ hb)
               clear HO_9
               clear BK168
               clear HR200
               clear HR213
               clear HB
               have HO_9 := n0_
               have BK168 := n2_
               have HR200 := n3_
               have HR213 := n4_
               have HB := n5_
               clear n0_ n2_ n3_ n4_ n5_
               clear hb ho72
               refine hK.out _ _ (k4e_ BK168.out) (fun hHeld => ?_)
               clear hK K
               refine norm_ (a' := ?_) ?_ ?_
               rotate_left
               ·
                show Act.put _ (some 59) _ = _
                simp only [Act.put, P3_1, P3_2, P3_3, i64_w, i32_w]
                rfl
               refine two_ (i := 4) (j := 6) (Ni := some 63) (Nj := some 65) M3_23 M3_24 rfl rfl rfl rfl (two_of HT_.out (by kernel_rfl)) (by decide) (by decide) (fun K hK => ?_) (fun K hK => ?_)
               ·
                skip
                refine Kd.R_append_rows_step k54 (w0 := w) w.heap.size (by rfl) (.tmp 59) (.tmp 62) 25 54 (.agg #[(.int .i64 0), (.int .i64 0), (.int .i64 0)]) 24 rfl Try.underlying25 info54 rfl (by decide) (by omega) v195 y194 y197 _ _ _ (fun k_ => some k_ ≠ (.slice Ao30 x9_1.length co30 : Value).ownBlock ∧ k_ ≠ gb168) (fun _ => False) rfl rfl ?aO ?aR (fun _ _ h => h) (fun _ h => h.elim) ?aF ?aB ?aS ?aL ?_
                (case aR => repeat (first | exact y103_ | (with_reducible refine Kd.C_alloc ?_ _) | (with_reducible refine Kd.C_drewN ?_ _) | (with_reducible refine Kd.C_drew ?_)))
                (case aB => exact y98_)
                (case aF => exact (fun k_ hk => ⟨Kd.fresh' (Kd.R_lt (rd_ HO_9.out)) k_ hk, Kd.freshB (g := gb168) (o := .cells #[.int .i64 t165, .int .i64 t166, .int .i64 t167] 54 (0, 0)) (bd_ BK168.out) k_ hk⟩))
                (case aO => exact (by (with_reducible repeat (first | apply Kd.R_alloc | apply Kd.R_drewN | apply Kd.R_drew)); exact Kd.R_mono HO196.out (fun _ hk => ⟨hk.1.2, hk.2⟩)))
                (case aS => exact (below_size y98_))
                (case aL => have := LMc62.out; omega)
                intro v202 w73 ho hb hg hat
                rw [← Ny201.out] at ho
                have n0_ := Aside0.mk (Kd.R_after (ok := (fun k_ => k_ ≠ gb168)) (rd_ HO_9.out) hg hat)
                have n1_ := Aside0.mk (blk_grown (g := gb168) (o := .cells #[.int .i64 t165, .int .i64 t166, .int .i64 t167] 54 (0, 0)) (bd_ BK168.out) hg (Kd.R_away HO196.out (fun _ hk => hk.2)))
                have n2_ := Aside0.mk (hb)
                have n3_ := Aside0.mk ((show Kd.C k54 w73 Ao30 y197.length y197 from by rw [Ny197.out]; exact Kd.C_take (m := (x12_3 : Int).toNat) ((Kd.R_reads' (Kd.R_after (ok := (fun k_ => k_ ≠ gb168)) (rd_ HO_9.out) hg hat)).2.2) KL69.out))
                have n4_ := Aside0.mk ((show Kd.C k54 w73 A70 y210.length y210 from by rw [Ny210.out, KA70.out]; exact Kd.C_drop (m := (x12_3 : Int).toNat) (c := co30) ((Kd.R_reads' (Kd.R_after (ok := (fun k_ => k_ ≠ gb168)) (rd_ HO_9.out) hg hat)).2.2) KL70.out ((Kd.R_reads' (Kd.R_after (ok := (fun k_ => k_ ≠ gb168)) (rd_ HO_9.out) hg hat)).2.1)))
                have HO203 := Aside0.mk (ho)
                clear HO_9
                clear BK168
                clear HB
                clear HR200
                clear HR213
                clear HO196
                have HO_9 := n0_
                have BK168 := n1_
                have HB := n2_
                have HR200 := n3_
                have HR213 := n4_
                clear n0_ n1_ n2_ n3_ n4_
                clear ho hb hg hat
                refine hK.out _ _ (k4e_ BK168.out) (fun hHeld => ?_)
                clear hK K
                refine norm_ (a' := ?_) ?_ ?_
                rotate_left
                ·
                 show Act.put _ (some 63) _ = _
                 simp only [Act.put, P3_1, P3_2, P3_3, i64_w, i32_w]
                 rfl
                refine one_ (i := 6) (N := some 65) M3_20 rfl rfl (one_of HT_.out (by kernel_rfl)) (by decide) (fun K hK => ?_)
                refine Kd.R_lit_step k54 _ 54 ?hg (N := 65) ?hd (xs := ([(⟨t165, t166, t167⟩ : S54)] : List (S54))) (inner := [.int .i64 t165, .int .i64 t166, .int .i64 t167]) (ok := fun _ => True) (okp := fun _ => True) ?hr ?hp (fun _ hk => hk) trivial (Below.refl _ _) (Nat.le_refl _) (by simp) ?_; (case hd => rfl); (case hg => rfl); (case hr => first | (go_simp; done) | (go_simp; rfl)); (case hp => exact (Reps.c3 (show Kd.M k54 _ _ _ (⟨t165, t166, t167⟩ : S54) [.int .i64 t165, .int .i64 t166, .int .i64 t167] from (k54_mkM _ _ _ (⟨t165, t166, t167⟩ : S54) )) (Reps.none _ _)))
                intro v205 w74 ho75 hb hg_ hnew_
                clear hg_ hnew_
                (first | rw [← Ny204.out] at ho75 | (simp only [Int.reduceToNat] at ho75; rw [← Ny204.out] at ho75))
                have n0_ := Aside0.mk (Kd.R_elder' (rd_ HO_9.out) (Kd.R_base ho75) hb)
                have n1_ := Aside0.mk (Kd.R_elder' (rd_ HO203.out) (Kd.R_base ho75) hb)
                have HO206 := Aside0.mk (Kd.R_lower (Kd.R_newB (Kd.R_new' (Kd.R_new' ho75 (Kd.R_lt (rd_ HO_9.out))) (Kd.R_lt (rd_ HO203.out))) (g := gb168) (o := .cells #[.int .i64 t165, .int .i64 t166, .int .i64 t167] 54 (0, 0)) (bd_ BK168.out)) (below_size y98_))
                have n3_ := Aside0.mk (blk_below (bd_ BK168.out) hb)
                have n4_ := Aside0.mk (Kd.C_below y103_ hb)
                have n5_ := Aside0.mk (Kd.C_below y109_ hb)
                have n6_ := Aside0.mk (below_step y98_ hb)
                clear HO_9
                clear HO203
                clear BK168
                clear HR200
                clear HR213
                clear HB
                have HO_9 := n0_
                have HO203 := n1_
                have BK168 := n3_
                have HR200 := n4_
                have HR213 := n5_
                have HB := n6_
                clear n0_ n1_ n3_ n4_ n5_ n6_
                clear hb ho75
                refine hK.out _ _ (k4e_ BK168.out) (fun hHeld => ?_)
                clear hK K
                refine norm_ (a' := ?_) ?_ ?_
                rotate_left
                ·
                 show Act.put _ (some 65) _ = _
                 simp only [Act.put, P3_1, P3_2, P3_3, i64_w, i32_w]
                 rfl
                exact norm_ y113_ (hCont (v195, v202, v205) _ ⟨hHeld, (by (with_reducible repeat (first | apply Kd.R_alloc | apply Kd.R_drewN | apply Kd.R_drew)); exact Kd.R_mono HO203.out (fun _ hk => ⟨hk.2, ⟨hk.1.1, hk.1.2⟩⟩)), (by (with_reducible repeat (first | apply Kd.R_alloc | apply Kd.R_drewN | apply Kd.R_drew)); exact Kd.R_mono HO206.out (fun _ hk => ⟨hk.1.2, ⟨hk.1.1.2, hk.2⟩⟩)), (by (with_reducible repeat (first | apply Kd.R_alloc | apply Kd.R_drewN | apply Kd.R_drew)); exact Kd.R_mono HO_9.out (fun _ hk => ⟨hk.1.2, ⟨hk.2, hk.1.1⟩⟩)), bd_ BK168.out, y98_⟩)
               ·
                skip
                refine Kd.R_lit_step k54 _ 54 ?hg (N := 65) ?hd (xs := ([(⟨t165, t166, t167⟩ : S54)] : List (S54))) (inner := [.int .i64 t165, .int .i64 t166, .int .i64 t167]) (ok := fun _ => True) (okp := fun _ => True) ?hr ?hp (fun _ hk => hk) trivial (Below.refl _ _) (Nat.le_refl _) (by simp) ?_; (case hd => rfl); (case hg => rfl); (case hr => first | (go_simp; done) | (go_simp; rfl)); (case hp => exact (Reps.c3 (show Kd.M k54 _ _ _ (⟨t165, t166, t167⟩ : S54) [.int .i64 t165, .int .i64 t166, .int .i64 t167] from (k54_mkM _ _ _ (⟨t165, t166, t167⟩ : S54) )) (Reps.none _ _)))
                intro v205 w73 ho74 hb hg_ hnew_
                clear hg_ hnew_
                (first | rw [← Ny204.out] at ho74 | (simp only [Int.reduceToNat] at ho74; rw [← Ny204.out] at ho74))
                have n0_ := Aside0.mk (Kd.R_elder' (rd_ HO_9.out) (Kd.R_base ho74) hb)
                have n1_ := Aside0.mk (Kd.R_elder' (rd_ HO196.out) (Kd.R_base ho74) hb)
                have HO206 := Aside0.mk (Kd.R_lower (Kd.R_newB (Kd.R_new' (Kd.R_new' ho74 (Kd.R_lt (rd_ HO_9.out))) (Kd.R_lt (rd_ HO196.out))) (g := gb168) (o := .cells #[.int .i64 t165, .int .i64 t166, .int .i64 t167] 54 (0, 0)) (bd_ BK168.out)) (below_size y98_))
                have n3_ := Aside0.mk (blk_below (bd_ BK168.out) hb)
                have n4_ := Aside0.mk (Kd.C_below y103_ hb)
                have n5_ := Aside0.mk (Kd.C_below y109_ hb)
                have n6_ := Aside0.mk (below_step y98_ hb)
                clear HO_9
                clear HO196
                clear BK168
                clear HR200
                clear HR213
                clear HB
                have HO_9 := n0_
                have HO196 := n1_
                have BK168 := n3_
                have HR200 := n4_
                have HR213 := n5_
                have HB := n6_
                clear n0_ n1_ n3_ n4_ n5_ n6_
                clear hb ho74
                refine hK.out _ _ (k4e_ BK168.out) (fun hHeld => ?_)
                clear hK K
                refine norm_ (a' := ?_) ?_ ?_
                rotate_left
                ·
                 show Act.put _ (some 65) _ = _
                 simp only [Act.put, P3_1, P3_2, P3_3, i64_w, i32_w]
                 rfl
                refine one_ (i := 4) (N := some 63) M3_20 rfl rfl (one_of HT_.out (by kernel_rfl)) (by decide) (fun K hK => ?_)
                refine Kd.R_append_rows_step k54 (w0 := w) w.heap.size (by rfl) (.tmp 59) (.tmp 62) 25 54 (.agg #[(.int .i64 0), (.int .i64 0), (.int .i64 0)]) 24 rfl Try.underlying25 info54 rfl (by decide) (by omega) v195 y194 y197 _ _ _ (fun k_ => some k_ ≠ (.slice Ao30 x9_1.length co30 : Value).ownBlock ∧ some k_ ≠ (v205 : Value).ownBlock ∧ k_ ≠ gb168) (fun _ => False) rfl rfl ?aO ?aR (fun _ _ h => h) (fun _ h => h.elim) ?aF ?aB ?aS ?aL ?_
                (case aR => repeat (first | exact y103_ | (with_reducible refine Kd.C_alloc ?_ _) | (with_reducible refine Kd.C_drewN ?_ _) | (with_reducible refine Kd.C_drew ?_)))
                (case aB => exact y98_)
                (case aF => exact (fun k_ hk => ⟨Kd.fresh' (Kd.R_lt (rd_ HO_9.out)) k_ hk, Kd.fresh' (Kd.R_lt (rd_ HO206.out)) k_ hk, Kd.freshB (g := gb168) (o := .cells #[.int .i64 t165, .int .i64 t166, .int .i64 t167] 54 (0, 0)) (bd_ BK168.out) k_ hk⟩))
                (case aO => exact (by (with_reducible repeat (first | apply Kd.R_alloc | apply Kd.R_drewN | apply Kd.R_drew)); exact Kd.R_mono HO196.out (fun _ hk => ⟨hk.1.1.2, ⟨hk.2, hk.1.2⟩⟩)))
                (case aS => exact (below_size y98_))
                (case aL => have := LMc62.out; omega)
                intro v202 w75 ho hb hg hat
                rw [← Ny201.out] at ho
                have n0_ := Aside0.mk (Kd.R_after (ok := (fun k_ => some k_ ≠ (v205 : Value).ownBlock ∧ k_ ≠ gb168)) y104_ hg hat)
                have n1_ := Aside0.mk (blk_grown (g := gb168) (o := .cells #[.int .i64 t165, .int .i64 t166, .int .i64 t167] 54 (0, 0)) (bd_ BK168.out) hg (Kd.R_away HO196.out (fun _ hk => hk.1.2)))
                have n2_ := Aside0.mk (Kd.R_after (ok := (fun k_ => some k_ ≠ (.slice Ao30 x9_1.length co30 : Value).ownBlock ∧ k_ ≠ gb168)) (by (with_reducible repeat (first | apply Kd.R_alloc | apply Kd.R_drewN | apply Kd.R_drew)); exact Kd.R_mono HO206.out (fun _ hk => ⟨⟨hk.1.1.2, hk.2⟩, hk.1.2⟩)) hg hat)
                have n3_ := Aside0.mk (hb)
                have n4_ := Aside0.mk ((show Kd.C k54 w75 Ao30 y197.length y197 from by rw [Ny197.out]; exact Kd.C_take (m := (x12_3 : Int).toNat) ((Kd.R_reads' (Kd.R_after (ok := (fun k_ => some k_ ≠ (v205 : Value).ownBlock ∧ k_ ≠ gb168)) y104_ hg hat)).2.2) KL69.out))
                have n5_ := Aside0.mk ((show Kd.C k54 w75 A70 y210.length y210 from by rw [Ny210.out, KA70.out]; exact Kd.C_drop (m := (x12_3 : Int).toNat) (c := co30) ((Kd.R_reads' (Kd.R_after (ok := (fun k_ => some k_ ≠ (v205 : Value).ownBlock ∧ k_ ≠ gb168)) y104_ hg hat)).2.2) KL70.out ((Kd.R_reads' (Kd.R_after (ok := (fun k_ => some k_ ≠ (v205 : Value).ownBlock ∧ k_ ≠ gb168)) y104_ hg hat)).2.1)))
                have HO203 := Aside0.mk (ho)
                clear HO_9
                clear BK168
                clear HO206
                clear HB
                clear HR200
                clear HR213
                clear HO196
                have HO_9 := n0_
                have BK168 := n1_
                have HO206 := n2_
                have HB := n3_
                have HR200 := n4_
                have HR213 := n5_
                clear n0_ n1_ n2_ n3_ n4_ n5_
                clear ho hb hg hat
                refine hK.out _ _ (k4e_ BK168.out) (fun hHeld => ?_)
                clear hK K
                refine norm_ (a' := ?_) ?_ ?_
                rotate_left
                ·
                 show Act.put _ (some 63) _ = _
                 simp only [Act.put, P3_1, P3_2, P3_3, i64_w, i32_w]
                 rfl
                exact norm_ y113_ (hCont (v195, v202, v205) _ ⟨hHeld, y117_, (by (with_reducible repeat (first | apply Kd.R_alloc | apply Kd.R_drewN | apply Kd.R_drew)); exact Kd.R_mono HO206.out (fun _ hk => ⟨hk.2, ⟨hk.1.1, hk.1.2⟩⟩)), y114_, bd_ BK168.out, y98_⟩)
              ·
               skip
               refine Kd.R_lit_step k54 _ 54 ?hg (N := 65) ?hd (xs := ([(⟨t165, t166, t167⟩ : S54)] : List (S54))) (inner := [.int .i64 t165, .int .i64 t166, .int .i64 t167]) (ok := fun _ => True) (okp := fun _ => True) ?hr ?hp (fun _ hk => hk) trivial (Below.refl _ _) (Nat.le_refl _) (by simp) ?_; (case hd => rfl); (case hg => rfl); (case hr => first | (go_simp; done) | (go_simp; rfl)); (case hp => exact (Reps.c3 (show Kd.M k54 _ _ _ (⟨t165, t166, t167⟩ : S54) [.int .i64 t165, .int .i64 t166, .int .i64 t167] from (k54_mkM _ _ _ (⟨t165, t166, t167⟩ : S54) )) (Reps.none _ _)))
               intro v205 w71 ho72 hb hg_ hnew_
               clear hg_ hnew_
               (first | rw [← Ny204.out] at ho72 | (simp only [Int.reduceToNat] at ho72; rw [← Ny204.out] at ho72))
               have n0_ := Aside0.mk (Kd.R_elder' (rd_ HO_9.out) (Kd.R_base ho72) hb)
               have HO206 := Aside0.mk (Kd.R_lower (Kd.R_newB (Kd.R_new' ho72 (Kd.R_lt (rd_ HO_9.out))) (g := gb168) (o := .cells #[.int .i64 t165, .int .i64 t166, .int .i64 t167] 54 (0, 0)) (bd_ BK168.out)) (below_size y98_))
               have n2_ := Aside0.mk (blk_below (bd_ BK168.out) hb)
               have n3_ := Aside0.mk (Kd.C_below y103_ hb)
               have n4_ := Aside0.mk (Kd.C_below y109_ hb)
               have n5_ := Aside0.mk (below_step y98_ hb)
               clear HO_9
               clear BK168
               clear HR200
               clear HR213
               clear HB
               have HO_9 := n0_
               have BK168 := n2_
               have HR200 := n3_
               have HR213 := n4_
               have HB := n5_
               clear n0_ n2_ n3_ n4_ n5_
               clear hb ho72
               refine hK.out _ _ (k4e_ BK168.out) (fun hHeld => ?_)
               clear hK K
               refine norm_ (a' := ?_) ?_ ?_
               rotate_left
               ·
                show Act.put _ (some 65) _ = _
                simp only [Act.put, P3_1, P3_2, P3_3, i64_w, i32_w]
                rfl
               refine one_ (i := 0) (N := some 59) M3_24 rfl rfl (one_of HT_.out (by kernel_rfl)) (by decide) (fun K hK => ?_)
               refine Kd.R_lit_step k54 _ 54 ?hg (N := 59) ?hd (xs := ([] : List (S54))) (inner := []) (ok := fun _ => True) (okp := fun _ => True) ?hr ?hp (fun _ hk => hk) trivial (Below.refl _ _) (Nat.le_refl _) (by simp) ?_; (case hd => rfl); (case hg => rfl); (case hr => first | (go_simp; done) | (go_simp; rfl)); (case hp => exact (Reps.none _ _))
               intro v195 w73 ho74 hb hg_ hnew_
               clear hg_ hnew_
               (first | rw [← Ny194.out] at ho74 | (simp only [Int.reduceToNat] at ho74; rw [← Ny194.out] at ho74))
               have n0_ := Aside0.mk (Kd.R_elder' (rd_ HO_9.out) (Kd.R_base ho74) hb)
               have n1_ := Aside0.mk (Kd.R_elder' (rd_ HO206.out) (Kd.R_base ho74) hb)
               have HO196 := Aside0.mk (Kd.R_lower (Kd.R_newB (Kd.R_new' (Kd.R_new' ho74 (Kd.R_lt (rd_ HO_9.out))) (Kd.R_lt (rd_ HO206.out))) (g := gb168) (o := .cells #[.int .i64 t165, .int .i64 t166, .int .i64 t167] 54 (0, 0)) (bd_ BK168.out)) (below_size y98_))
               have n3_ := Aside0.mk (blk_below (bd_ BK168.out) hb)
               have n4_ := Aside0.mk (Kd.C_below y103_ hb)
               have n5_ := Aside0.mk (Kd.C_below y109_ hb)
               have n6_ := Aside0.mk (below_step y98_ hb)
               clear HO_9
               clear HO206
               clear BK168
               clear HR200
               clear HR213
               clear HB
               have HO_9 := n0_
               have HO206 := n1_
               have BK168 := n3_
               have HR200 := n4_
               have HR213 := n5_
               have HB := n6_
               clear n0_ n1_ n3_ n4_ n5_ n6_
               clear hb ho74
               refine hK.out _ _ (k4e_ BK168.out) (fun hHeld => ?_)
               clear hK K
               refine norm_ (a' := ?_) ?_ ?_
               rotate_left
               ·
                show Act.put _ (some 59) _ = _
                simp only [Act.put, P3_1, P3_2, P3_3, i64_w, i32_w]
                rfl
               refine one_ (i := 4) (N := some 63) M3_20 rfl rfl (one_of HT_.out (by kernel_rfl)) (by decide) (fun K hK => ?_)
               refine Kd.R_append_rows_step k54 (w0 := w) w.heap.size (by rfl) (.tmp 59) (.tmp 62) 25 54 (.agg #[(.int .i64 0), (.int .i64 0), (.int .i64 0)]) 24 rfl Try.underlying25 info54 rfl (by decide) (by omega) v195 y194 y197 _ _ _ (fun k_ => some k_ ≠ (.slice Ao30 x9_1.length co30 : Value).ownBlock ∧ some k_ ≠ (v205 : Value).ownBlock ∧ k_ ≠ gb168) (fun _ => False) rfl rfl ?aO ?aR (fun _ _ h => h) (fun _ h => h.elim) ?aF ?aB ?aS ?aL ?_
               (case aR => repeat (first | exact y103_ | (with_reducible refine Kd.C_alloc ?_ _) | (with_reducible refine Kd.C_drewN ?_ _) | (with_reducible refine Kd.C_drew ?_)))
               (case aB => exact y98_)
               (case aF => exact (fun k_ hk => ⟨Kd.fresh' (Kd.R_lt (rd_ HO_9.out)) k_ hk, Kd.fresh' (Kd.R_lt (rd_ HO206.out)) k_ hk, Kd.freshB (g := gb168) (o := .cells #[.int .i64 t165, .int .i64 t166, .int .i64 t167] 54 (0, 0)) (bd_ BK168.out) k_ hk⟩))
               (case aO => exact (by (with_reducible repeat (first | apply Kd.R_alloc | apply Kd.R_drewN | apply Kd.R_drew)); exact Kd.R_mono HO196.out (fun _ hk => ⟨hk.1.1.2, ⟨hk.1.2, hk.2⟩⟩)))
               (case aS => exact (below_size y98_))
               (case aL => have := LMc62.out; omega)
               intro v202 w75 ho hb hg hat
               rw [← Ny201.out] at ho
               have n0_ := Aside0.mk (Kd.R_after (ok := (fun k_ => some k_ ≠ (v205 : Value).ownBlock ∧ k_ ≠ gb168)) y105_ hg hat)
               have n1_ := Aside0.mk (blk_grown (g := gb168) (o := .cells #[.int .i64 t165, .int .i64 t166, .int .i64 t167] 54 (0, 0)) (bd_ BK168.out) hg (Kd.R_away HO196.out (fun _ hk => hk.2)))
               have n2_ := Aside0.mk (Kd.R_after (ok := (fun k_ => some k_ ≠ (.slice Ao30 x9_1.length co30 : Value).ownBlock ∧ k_ ≠ gb168)) (by (with_reducible repeat (first | apply Kd.R_alloc | apply Kd.R_drewN | apply Kd.R_drew)); exact Kd.R_mono HO206.out (fun _ hk => ⟨⟨hk.1.1.2, hk.1.2⟩, hk.2⟩)) hg hat)
               have n3_ := Aside0.mk (hb)
               have n4_ := Aside0.mk ((show Kd.C k54 w75 Ao30 y197.length y197 from by rw [Ny197.out]; exact Kd.C_take (m := (x12_3 : Int).toNat) ((Kd.R_reads' (Kd.R_after (ok := (fun k_ => some k_ ≠ (v205 : Value).ownBlock ∧ k_ ≠ gb168)) y105_ hg hat)).2.2) KL69.out))
               have n5_ := Aside0.mk ((show Kd.C k54 w75 A70 y210.length y210 from by rw [Ny210.out, KA70.out]; exact Kd.C_drop (m := (x12_3 : Int).toNat) (c := co30) ((Kd.R_reads' (Kd.R_after (ok := (fun k_ => some k_ ≠ (v205 : Value).ownBlock ∧ k_ ≠ gb168)) y105_ hg hat)).2.2) KL70.out ((Kd.R_reads' (Kd.R_after (ok := (fun k_ => some k_ ≠ (v205 : Value).ownBlock ∧ k_ ≠ gb168)) y105_ hg hat)).2.1)))
               have HO203 := Aside0.mk (ho)
               clear HO_9
               clear BK168
               clear HO206
               clear HB
               clear HR200
               clear HR213
               clear HO196
               have HO_9 := n0_
               have BK168 := n1_
               have HO206 := n2_
               have HB := n3_
               have HR200 := n4_
               have HR213 := n5_
               clear n0_ n1_ n2_ n3_ n4_ n5_
               clear ho hb hg hat
               refine hK.out _ _ (k4e_ BK168.out) (fun hHeld => ?_)
               clear hK K
               refine norm_ (a' := ?_) ?_ ?_
               rotate_left
               ·
                show Act.put _ (some 63) _ = _
                simp only [Act.put, P3_1, P3_2, P3_3, i64_w, i32_w]
                rfl
               exact norm_ y113_ (hCont (v195, v202, v205) _ ⟨hHeld, y117_, (by (with_reducible repeat (first | apply Kd.R_alloc | apply Kd.R_drewN | apply Kd.R_drew)); exact Kd.R_mono HO206.out (fun _ hk => ⟨hk.2, ⟨hk.1.1, hk.1.2⟩⟩)), y114_, bd_ BK168.out, y98_⟩)
             rintro ⟨v195, v202, v205⟩ w76 ⟨hS_, h0_, h1_, h2_, h3_, h4_⟩
             have HO203 : Aside0 (Kd.R k54 54 w76 w.heap.size (fun k_ => some k_ ≠ (v205 : Value).ownBlock ∧ some k_ ≠ (.slice Ao30 x9_1.length co30 : Value).ownBlock ∧ k_ ≠ gb168) v202 y201) := ⟨h0_⟩
             have HO206 : Aside0 (Kd.R k54 54 w76 w.heap.size (fun k_ => some k_ ≠ (v202 : Value).ownBlock ∧ some k_ ≠ (.slice Ao30 x9_1.length co30 : Value).ownBlock ∧ k_ ≠ gb168) v205 y204) := ⟨h1_⟩
             have n2_ : Aside0 (Kd.R k54 54 w76 w.heap.size (fun k_ => some k_ ≠ (v202 : Value).ownBlock ∧ some k_ ≠ (v205 : Value).ownBlock ∧ k_ ≠ gb168) (.slice Ao30 x9_1.length co30) x9_1) := ⟨h2_⟩
             have n3_ : Aside0 (w76.heap[gb168]? = some (.cells #[.int .i64 t165, .int .i64 t166, .int .i64 t167] 54 (0, 0))) := ⟨h3_⟩
             have n4_ : Aside0 (Below w.heap.size w w76) := ⟨h4_⟩
             clear HO_9
             clear BK168
             clear HB
             clear h0_ h1_ h2_ h3_ h4_
             have HO_9 := n2_
             have BK168 := n3_
             have HB := n4_
             clear n2_ n3_ n4_
             have hHeld : q4e_ w76 gb168 t165 t166 t167 := hS_
             obtain ⟨Ao78, co78, eo78⟩ := Kd.R_slice HO206.out
             (first | subst eo78 | (injection eo78 with f1_ f2_ f3_; have f4_ := f1_.symm; have f5_ := f3_.symm; clear f1_ f2_ f3_; subst f4_; subst f5_))
             refine norm_ (a' := ?_) ?_ ?_
             rotate_left
             ·
              simp only [putAll, Act.put, List.setIfInBounds_toArray, List.set_cons_zero, List.set_cons_succ]
              rfl
             refine one_ (i := 7) (N := some 66) M3_25 rfl rfl (one_of HT_.out (by kernel_rfl)) (by decide) (fun K hK => ?_)
             refine Kd.R_append_rows_step k54 (w0 := w) w.heap.size (by rfl) (.tmp 63) (.tmp 65) 25 54 (.agg #[(.int .i64 0), (.int .i64 0), (.int .i64 0)]) 24 rfl Try.underlying25 info54 rfl (by decide) (by omega) v202 y201 y204 _ _ _ (fun k_ => some k_ ≠ (.slice Ao30 x9_1.length co30 : Value).ownBlock ∧ some k_ ≠ (.slice Ao78 y204.length co78 : Value).ownBlock ∧ k_ ≠ gb168) (fun _ => False) rfl rfl ?aO ?aR (fun _ _ h => h) (fun _ h => h.elim) ?aF ?aB ?aS ?aL ?_
             (case aR => repeat (first | exact (Kd.R_reads' HO206.out).2.2 | (with_reducible refine Kd.C_alloc ?_ _) | (with_reducible refine Kd.C_drewN ?_ _) | (with_reducible refine Kd.C_drew ?_)))
             (case aB => exact y98_)
             (case aF => exact (fun k_ hk => ⟨Kd.fresh' (Kd.R_lt (rd_ HO_9.out)) k_ hk, Kd.fresh' (Kd.R_lt (rd_ HO206.out)) k_ hk, Kd.freshB (g := gb168) (o := .cells #[.int .i64 t165, .int .i64 t166, .int .i64 t167] 54 (0, 0)) (bd_ BK168.out) k_ hk⟩))
             (case aO => exact y117_)
             (case aS => exact (below_size y98_))
             (case aL => have := LMc63.out; omega)
             intro v208 w77 ho hb hg hat
             rw [← Ny207.out] at ho
             have n0_ := Aside0.mk (Kd.R_after (ok := (fun k_ => some k_ ≠ (.slice Ao78 y204.length co78 : Value).ownBlock ∧ k_ ≠ gb168)) (by (with_reducible repeat (first | apply Kd.R_alloc | apply Kd.R_drewN | apply Kd.R_drew)); exact Kd.R_mono HO_9.out (fun _ hk => ⟨⟨hk.2.1, hk.2.2⟩, hk.1⟩)) hg hat)
             have n1_ := Aside0.mk (blk_grown (g := gb168) (o := .cells #[.int .i64 t165, .int .i64 t166, .int .i64 t167] 54 (0, 0)) (bd_ BK168.out) hg (Kd.R_away HO203.out (fun _ hk => hk.2.2)))
             have n2_ := Aside0.mk (Kd.R_after (ok := (fun k_ => some k_ ≠ (.slice Ao30 x9_1.length co30 : Value).ownBlock ∧ k_ ≠ gb168)) (by (with_reducible repeat (first | apply Kd.R_alloc | apply Kd.R_drewN | apply Kd.R_drew)); exact Kd.R_mono HO206.out (fun _ hk => ⟨⟨hk.2.1, hk.2.2⟩, hk.1⟩)) hg hat)
             have n3_ := Aside0.mk (hb)
             have HO209 := Aside0.mk (ho)
             clear HO_9
             clear BK168
             clear HO206
             clear HB
             clear HO203
             have HO_9 := n0_
             have BK168 := n1_
             have HO206 := n2_
             have HB := n3_
             clear n0_ n1_ n2_ n3_
             clear ho hb hg hat
             refine hK.out _ _ (k4e_ BK168.out) (fun hHeld => ?_)
             clear hK K
             refine norm_ (a' := ?_) ?_ ?_
             rotate_left
             ·
              show Act.put _ (some 66) _ = _
              simp only [Act.put, P3_1, P3_2, P3_3, i64_w, i32_w]
              rfl
             refine one_ (i := 11) (N := some 70) M3_26 rfl rfl (one_of HT_.out (by kernel_rfl)) (by decide) (fun K hK => ?_)
             refine Kd.R_append_rows_step k54 (w0 := w) w.heap.size (by rfl) (.tmp 66) (.tmp 69) 25 54 (.agg #[(.int .i64 0), (.int .i64 0), (.int .i64 0)]) 24 rfl Try.underlying25 info54 rfl (by decide) (by omega) v208 y207 y210 _ _ _ (fun k_ => some k_ ≠ (.slice Ao30 x9_1.length co30 : Value).ownBlock ∧ some k_ ≠ (.slice Ao78 y204.length co78 : Value).ownBlock ∧ k_ ≠ gb168) (fun _ => False) rfl rfl ?aO ?aR (fun _ _ h => h) (fun _ h => h.elim) ?aF ?aB ?aS ?aL ?_
             (case aR => exact (show Kd.C k54 _ A70 y210.length y210 from by rw [Ny210.out, KA70.out]; exact Kd.C_drop (m := (x12_3 : Int).toNat) (c := co30) ((Kd.R_reads' (rd_ HO_9.out)).2.2) KL70.out (Kd.R_reads' HO_9.out).2.1))
             (case aB => exact y98_)
             (case aF => exact (fun k_ hk => ⟨Kd.fresh' (Kd.R_lt (rd_ HO_9.out)) k_ hk, Kd.fresh' (Kd.R_lt (rd_ HO206.out)) k_ hk, Kd.freshB (g := gb168) (o := .cells #[.int .i64 t165, .int .i64 t166, .int .i64 t167] 54 (0, 0)) (bd_ BK168.out) k_ hk⟩))
             (case aO => exact (rd_ HO209.out))
             (case aS => exact (below_size y98_))
             (case aL => have := LMc66.out; omega)
             intro v215 w79 ho hb hg hat
             rw [← Ny214.out] at ho
             have n0_ := Aside0.mk (Kd.R_after (ok := (fun k_ => some k_ ≠ (.slice Ao78 y204.length co78 : Value).ownBlock ∧ k_ ≠ gb168)) (rd_ HO_9.out) hg hat)
             have n1_ := Aside0.mk (blk_grown (g := gb168) (o := .cells #[.int .i64 t165, .int .i64 t166, .int .i64 t167] 54 (0, 0)) (bd_ BK168.out) hg (Kd.R_away HO209.out (fun _ hk => hk.2.2)))
             have n2_ := Aside0.mk (Kd.R_after (ok := (fun k_ => some k_ ≠ (.slice Ao30 x9_1.length co30 : Value).ownBlock ∧ k_ ≠ gb168)) (rd_ HO206.out) hg hat)
             have n3_ := Aside0.mk (hb)
             have HO216 := Aside0.mk (ho)
             clear HO_9
             clear BK168
             clear HO206
             clear HB
             clear HO209
             have HO_9 := n0_
             have BK168 := n1_
             have HO206 := n2_
             have HB := n3_
             clear n0_ n1_ n2_ n3_
             clear ho hb hg hat
             refine hK.out _ _ (k4e_ BK168.out) (fun hHeld => ?_)
             clear hK K
             refine norm_ (a' := ?_) ?_ ?_
             rotate_left
             ·
              show Act.put _ (some 70) _ = _
              simp only [Act.put, P3_1, P3_2, P3_3, i64_w, i32_w]
              rfl
             refine pu_ 12 (some 9) M3_27 HT_ ?_
             refine done_ (done_of HT_.out (by kernel_rfl)) ?_
             try go_wp2
             go_roundg k3
             case measure => have := HK1.out; have := HJ6.out; have := HK3.out; omega
             case rel => exact ⟨(y214), (wrap64 (x10_1 + 1)), y115_, H', ⟨by have := HK1.out; have := HJ6.out; have := HK3.out; omega⟩, ⟨by (with_reducible repeat (first | apply Kd.R_alloc | apply Kd.R_drewN | apply Kd.R_drew)); exact Kd.R_mono HO216.out (fun _ hk => trivial)⟩, ⟨y112_⟩⟩
       ·
        rw [if_neg c25] at H
        exact absurd H (by simp)
      ·
       rw [if_neg c24] at H
       exact absurd H (by simp)
     ·
      replace c23 := Bool.eq_false_iff.mpr c23
      subst c23
      have H1 : (some x9_1) = some r := by rw [if_neg (show ¬ (false = true) by decide)] at H; exact H
      clear H
      have H := H1
      clear H1
      obtain rfl := Option.some.inj H
      go_wp2
      go_ret
      exact ⟨_, by first | rfl | (simp [errW_none, errW_some] <;> rfl) | (simp [*, errW_none, errW_some] <;> rfl), rd_ HO_9.out, hd_ HB.out⟩

end Go.Proofs.Ytnlgilmbmoiniaa.PFnExactTasksFor
