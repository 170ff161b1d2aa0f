-- Written for this claim by a program (a printer turned to this claim); Lean checks it.
import Derived.Test.YtglpmjcknhcjcaaPFnExactGroupReportsx0
import Derived.Test.YtglpmjcknhcjcaaPFnExactGroupReportsx2
namespace Go.Proofs.Ytglpmjcknhcjcaa.PFnExactGroupReports
open Go.RowKit Go.Proofs.YtglpmjcknhcjcaaW.PrintWords Go.Proofs.YtglpmjcknhcjcaaW.PrintLast Go.Proofs.YtglpmjcknhcjcaaW.PrintMore
attribute [local go_sem] max2_int min2_int max_two min_two max_three min_three max_four min_four   -- for this text's walks alone
set_option linter.unusedVariables false
set_option linter.unusedSimpArgs false

/-! ### spec_Meet: function 48 -/
def spec_Meet.f (a0_0 : Int) (a0_1 : Int) (a1_0 : Int) (a1_1 : Int) : Option (Int × Int × Bool) := (spec_Max.f a0_0 a1_0).bind fun t168 => ((spec_Min.f a0_1 a1_1).bind fun t169 => ((spec_IsSpan.f a0_0 a0_1).bind fun t171 => (if t171 = true then ((spec_IsSpan.f a1_0 a1_1).bind fun t172 => (if t172 = true then ((spec_IsSpan.f t168 t169).bind fun t173 => (if t173 = true then (some (t168, t169, true)) else (some (0, 0, false)))) else (some (0, 0, false)))) else (some (0, 0, false)))))
def spec_Meet.T1 : Bool × List (List Nat × List Nat) := (true, [([], []), ([0], [0]), ([], []), ([2], [2]), ([1, 3], [1, 3]), ([], []), ([5], [5]), ([], []), ([7], [7]), ([6, 8, 4], [6, 8]), ([4, 9], [4, 9]), ([], []), ([11, 10, 9, 0, 1, 2, 3, 4, 5, 6, 7, 8, 9, 10, 11], [10, 11])])
def spec_Meet.B1 : List Nat := [0, 1, 0, 4, 15, 0, 32, 0, 128, 511, 1023, 0, 4095]
theorem spec_Meet.tab1 : rtab .any (opsOf Try.f48 1) = spec_Meet.T1 := by kernel_rfl
theorem spec_Meet.bits1 : waitsOk spec_Meet.T1.2 spec_Meet.B1 = true := by kernel_rfl
abbrev M1_0 : Array Bool := #[false, false, false, false, false, false, false, false, false, false, false, false, false]
abbrev M1_1 : Array Bool := #[true, false, false, false, false, false, false, false, false, false, false, false, false]
abbrev M1_2 : Array Bool := #[true, false, true, false, false, false, false, false, false, false, false, false, false]
abbrev M1_3 : Array Bool := #[true, false, true, false, false, true, false, false, false, false, false, false, false]
abbrev M1_4 : Array Bool := #[true, false, true, false, false, true, false, true, false, false, false, false, false]
abbrev M1_5 : Array Bool := #[true, true, true, false, false, true, false, true, false, false, false, false, false]
abbrev M1_6 : Array Bool := #[true, true, true, true, false, true, false, true, false, false, false, false, false]
abbrev M1_7 : Array Bool := #[true, true, true, true, false, true, true, true, false, false, false, false, false]
abbrev M1_8 : Array Bool := #[true, true, true, true, false, true, true, true, true, false, false, false, false]
abbrev M1_9 : Array Bool := #[true, true, true, true, true, true, true, true, true, true, true, true, false]
abbrev M1_10 : Array Bool := #[true, true, true, true, true, true, true, true, true, false, false, false, false]
abbrev M1_11 : Array Bool := #[true, true, true, true, false, true, true, true, true, false, false, true, false]
abbrev M1_12 : Array Bool := #[true, true, true, true, true, true, true, true, true, true, false, false, false]
abbrev M1_13 : Array Bool := #[true, true, true, true, true, true, true, true, true, false, false, true, false]
abbrev M1_14 : Array Bool := #[true, true, true, true, true, true, true, true, true, true, true, false, false]
abbrev M1_15 : Array Bool := #[true, true, true, true, true, true, true, true, true, true, false, true, false]
abbrev M1_16 : Array Bool := #[true, true, true, true, true, true, true, true, true, true, true, true, true]
theorem P1_1 {α : Type} (l : List α) (i : Nat) (a : α) : l.toArray.setIfInBounds i a = (l.set i a).toArray := List.setIfInBounds_toArray l i a
theorem P1_2 {α : Type} (x : α) (l : List α) (a : α) : (x :: l).set 0 a = a :: l := List.set_cons_zero
theorem P1_3 {α : Type} (x : α) (l : List α) (n : Nat) (a : α) : (x :: l).set (n + 1) a = x :: l.set n a := List.set_cons_succ
theorem y63_ {P : Prop} (h : P := by repeat (first | (with_reducible first | exact HB.out | apply below_alloc | apply pw_below_drewN | apply below_drew1 | refine below_set ?_ GE165.out | refine below_set ?_ GE166.out | refine below_set ?_ GE167.out) | exact HB.out)) : P := h
theorem y66_ {P : Prop} (h : P := by repeat (first | (with_reducible first | exact HB.out | apply below_alloc | apply pw_below_drewN | apply below_drew1 | refine below_set ?_ GE165.out | refine below_set ?_ GE166.out | refine below_set ?_ GE167.out | refine below_set ?_ GE170.out) | exact HB.out)) : P := h
theorem y68_ {P : Prop} (h : P := by rw [hg]; exact Nat.ne_of_lt (blk_lt (g := gb165) (o := .cells #[.int .i64 a0_0, .int .i64 a0_1] 39 (0, 0)) (bd_ BK165.out))) : P := h
theorem y69_ {P : Prop} (h : P := by rw [hg]; exact Nat.ne_of_gt (blk_lt (g := gb165) (o := .cells #[.int .i64 a0_0, .int .i64 a0_1] 39 (0, 0)) (bd_ BK165.out))) : P := h
theorem y70_ {P : Prop} (h : P := by repeat (first | (with_reducible first | exact HB.out | apply below_alloc | apply pw_below_drewN | apply below_drew1 | refine below_set ?_ GE165.out | refine below_set ?_ GE166.out) | exact HB.out)) : P := h
theorem y72_ {P : Prop} (h : P := by repeat (first | (with_reducible first | exact HB.out | apply below_alloc | apply pw_below_drewN | apply below_drew1 | refine below_set ?_ GE165.out) | exact HB.out)) : P := h
theorem y73_ {P : Prop} (h : P := by rw [hg]; exact Nat.ne_of_lt (blk_lt (g := gb166) (o := .cells #[.int .i64 a1_0, .int .i64 a1_1] 39 (0, 0)) (bd_ BK166.out))) : P := h
theorem y74_ {P : Prop} (h : P := by rw [hg]; exact Nat.ne_of_gt (blk_lt (g := gb166) (o := .cells #[.int .i64 a1_0, .int .i64 a1_1] 39 (0, 0)) (bd_ BK166.out))) : P := h
theorem y76_ {P : Prop} (h : P := by (with_reducible repeat (first | refine blk_drewN ?_ _ | refine blk_drew ?_ | refine blk_alloc ?_ _)); refine blk_put (cs := #[.int .i64 t168, .int .i64 0]) ?_ 1 _ rfl; (with_reducible repeat (first | refine blk_drewN ?_ _ | refine blk_drew ?_ | refine blk_alloc ?_ _)); refine blk_put (cs := #[.int .i64 0, .int .i64 0]) ?_ 0 _ rfl; (with_reducible repeat (first | refine blk_drewN ?_ _ | refine blk_drew ?_ | refine blk_alloc ?_ _)); exact BK170.out) : P := h
theorem y77_ {P : Prop} (h : P := by rw [hg]; exact Nat.ne_of_lt (blk_lt (g := gb167) (o := .cells #[.int .i64 0, .int .i64 0] 39 (0, 0)) (bd_ BK167.out))) : P := h
theorem y78_ {P : Prop} (h : P := by rw [hg]; exact Nat.ne_of_gt (blk_lt (g := gb167) (o := .cells #[.int .i64 0, .int .i64 0] 39 (0, 0)) (bd_ BK167.out))) : P := h
theorem y79_ {P : Prop} (h : P := by (with_reducible repeat (first | refine blk_drewN ?_ _ | refine blk_drew ?_ | refine blk_alloc ?_ _)); refine blk_far ?_ NB165_170.out _; (with_reducible repeat (first | refine blk_drewN ?_ _ | refine blk_drew ?_ | refine blk_alloc ?_ _)); refine blk_far ?_ NB165_170.out _; (with_reducible repeat (first | refine blk_drewN ?_ _ | refine blk_drew ?_ | refine blk_alloc ?_ _)); exact BK165.out) : P := h
theorem y80_ {P : Prop} (h : P := by (with_reducible repeat (first | refine blk_drewN ?_ _ | refine blk_drew ?_ | refine blk_alloc ?_ _)); refine blk_far ?_ NB166_170.out _; (with_reducible repeat (first | refine blk_drewN ?_ _ | refine blk_drew ?_ | refine blk_alloc ?_ _)); refine blk_far ?_ NB166_170.out _; (with_reducible repeat (first | refine blk_drewN ?_ _ | refine blk_drew ?_ | refine blk_alloc ?_ _)); exact BK166.out) : P := h
theorem y81_ {P : Prop} (h : P := by (with_reducible repeat (first | refine blk_drewN ?_ _ | refine blk_drew ?_ | refine blk_alloc ?_ _)); refine blk_far ?_ NB167_170.out _; (with_reducible repeat (first | refine blk_drewN ?_ _ | refine blk_drew ?_ | refine blk_alloc ?_ _)); refine blk_far ?_ NB167_170.out _; (with_reducible repeat (first | refine blk_drewN ?_ _ | refine blk_drew ?_ | refine blk_alloc ?_ _)); exact BK167.out) : P := h
theorem y82_ {P : Prop} (h : P := by simp only [putAll, Act.put, List.setIfInBounds_toArray, List.set_cons_zero, List.set_cons_succ]) : P := h
theorem y83_ {P : Prop} (h : P := by (with_reducible repeat (first | refine blk_drewN ?_ _ | refine blk_drew ?_ | refine blk_alloc ?_ _)); refine blk_put (cs := #[.int .i64 0, .int .i64 0]) ?_ 1 _ rfl; (with_reducible repeat (first | refine blk_drewN ?_ _ | refine blk_drew ?_ | refine blk_alloc ?_ _)); refine blk_put (cs := #[.int .i64 0, .int .i64 0]) ?_ 0 _ rfl; (with_reducible repeat (first | refine blk_drewN ?_ _ | refine blk_drew ?_ | refine blk_alloc ?_ _)); exact BK167.out) : P := h
theorem y84_ {P : Prop} (h : P := by rw [hg]; exact (below_size y63_)) : P := h
theorem y85_ {P : Prop} (h : P := by repeat (first | (with_reducible first | exact HB.out | apply below_alloc | apply pw_below_drewN | apply below_drew1 | refine below_set ?_ GE165.out | refine below_set ?_ GE166.out | refine below_set ?_ GE167.out | refine below_set ?_ GE170.out) | exact HB.out)) : P := h
theorem y86_ {P : Prop} (h : P := by rw [hg]; exact (below_size (hd_ HB.out))) : P := h
theorem y87_ {P : Prop} (h : P := by rw [hg]; exact (below_size y72_)) : P := h
theorem y88_ {P : Prop} (h : P := by rw [hg]; exact (below_size y70_)) : P := h
set_option maxHeartbeats 8000000 in
set_option maxRecDepth 100000 in
theorem spec_Meet.calls (a0_0 : Int) (a0_1 : Int) (a1_0 : Int) (a1_1 : Int) (r1 : Int) (r2 : Int) (r3 : Bool) (w : World) (h : spec_Meet.f a0_0 a0_1 a1_0 a1_1 = some (r1, r2, r3)) :
  Calls Try.prog 48 #[.agg #[.int .i64 a0_0, .int .i64 a0_1], .agg #[.int .i64 a1_0, .int .i64 a1_1]] w fun e w' => e = .returned (.tuple #[.agg #[.int .i64 r1, .int .i64 r2], .bool r3]) ∧ Below w.heap.size w w' := by
 have hu39 := Try.underlying39
 have HB := Aside0.mk (Below.refl w.heap.size w)
 have H : ((spec_Max.f a0_0 a1_0).bind fun t168 => ((spec_Min.f a0_1 a1_1).bind fun t169 => ((spec_IsSpan.f a0_0 a0_1).bind fun t171 => (if t171 = true then ((spec_IsSpan.f a1_0 a1_1).bind fun t172 => (if t172 = true then ((spec_IsSpan.f t168 t169).bind fun t173 => (if t173 = true then (some (t168, t169, true)) else (some (0, 0, false)))) else (some (0, 0, false)))) else (some (0, 0, false)))))) = some (r1, r2, r3) := h
 clear h
 replace H := Option.bind_eq_some_iff.mp H
 obtain ⟨t168, A30, H⟩ := H
 replace H : ((spec_Min.f a0_1 a1_1).bind fun t169 => ((spec_IsSpan.f a0_0 a0_1).bind fun t171 => (if t171 = true then ((spec_IsSpan.f a1_0 a1_1).bind fun t172 => (if t172 = true then ((spec_IsSpan.f t168 t169).bind fun t173 => (if t173 = true then (some (t168, t169, true)) else (some (0, 0, false)))) else (some (0, 0, false)))) else (some (0, 0, false))))) = some (r1, r2, r3) := H
 have A3 := Aside0.mk A30
 clear A30
 replace H := Option.bind_eq_some_iff.mp H
 obtain ⟨t169, A40, H⟩ := H
 replace H : ((spec_IsSpan.f a0_0 a0_1).bind fun t171 => (if t171 = true then ((spec_IsSpan.f a1_0 a1_1).bind fun t172 => (if t172 = true then ((spec_IsSpan.f t168 t169).bind fun t173 => (if t173 = true then (some (t168, t169, true)) else (some (0, 0, false)))) else (some (0, 0, false)))) else (some (0, 0, false)))) = some (r1, r2, r3) := H
 have A4 := Aside0.mk A40
 clear A40
 replace H := Option.bind_eq_some_iff.mp H
 obtain ⟨t171, A50, H⟩ := H
 replace H : (if t171 = true then ((spec_IsSpan.f a1_0 a1_1).bind fun t172 => (if t172 = true then ((spec_IsSpan.f t168 t169).bind fun t173 => (if t173 = true then (some (t168, t169, true)) else (some (0, 0, false)))) else (some (0, 0, false)))) else (some (0, 0, false))) = some (r1, r2, r3) := H
 have A5 := Aside0.mk A50
 clear A50
 by_cases c6 : t171 = true
 ·
  subst c6
  have H1 : ((spec_IsSpan.f a1_0 a1_1).bind fun t172 => (if t172 = true then ((spec_IsSpan.f t168 t169).bind fun t173 => (if t173 = true then (some (t168, t169, true)) else (some (0, 0, false)))) else (some (0, 0, false)))) = some (r1, r2, r3) := by rw [if_pos rfl] at H; exact H
  clear H
  have H := H1
  clear H1
  replace H := Option.bind_eq_some_iff.mp H
  obtain ⟨t172, A70, H⟩ := H
  replace H : (if t172 = true then ((spec_IsSpan.f t168 t169).bind fun t173 => (if t173 = true then (some (t168, t169, true)) else (some (0, 0, false)))) else (some (0, 0, false))) = some (r1, r2, r3) := H
  have A7 := Aside0.mk A70
  clear A70
  by_cases c8 : t172 = true
  ·
   subst c8
   have H1 : ((spec_IsSpan.f t168 t169).bind fun t173 => (if t173 = true then (some (t168, t169, true)) else (some (0, 0, false)))) = some (r1, r2, r3) := by rw [if_pos rfl] at H; exact H
   clear H
   have H := H1
   clear H1
   replace H := Option.bind_eq_some_iff.mp H
   obtain ⟨t173, A90, H⟩ := H
   replace H : (if t173 = true then (some (t168, t169, true)) else (some (0, 0, false))) = some (r1, r2, r3) := H
   have A9 := Aside0.mk A90
   clear A90
   by_cases c10 : t173 = true
   ·
    subst c10
    have H1 : (some (t168, t169, true)) = some (r1, r2, r3) := by rw [if_pos rfl] at H; exact H
    clear H
    have H := H1
    clear H1
    simp only [Option.some.injEq, Prod.mk.injEq] at H
    obtain ⟨rfl, rfl, rfl⟩ := H
    go_enter Try.func48, Try.ntmps48
    try go_wp2_with (first | ((with_reducible refine gate_dst (N := 2) rfl ?_); refine box_event ?hg (N := 2) ?hd (cs := #[.int .i64 a0_0, .int .i64 a0_1]) (t := 39) ?hr ?_; (case hd => rfl); (case hg => rfl); (case hr => first | (go_simp; done) | (go_simp; rfl)); intro gb165 hg w11 hbox hb; have n0_ := Aside0.mk (below_step (hd_ HB.out) hb); have BK165 := Aside0.mk (hbox); have GW165 := Aside0.mk ((y86_ : w.heap.size ≤ gb165)); have GE165 := Aside0.mk ((y86_ : w.heap.size ≤ gb165)); clear HB; have HB := n0_; clear n0_; clear hb hbox hg) | ((with_reducible refine gate_dst (N := 3) rfl ?_); refine box_event ?hg (N := 3) ?hd (cs := #[.int .i64 a1_0, .int .i64 a1_1]) (t := 39) ?hr ?_; (case hd => rfl); (case hg => rfl); (case hr => first | (go_simp; done) | (go_simp; rfl)); intro gb166 hg w12 hbox hb; have n0_ := Aside0.mk (blk_below (g := gb165) (o := .cells #[.int .i64 a0_0, .int .i64 a0_1] 39 (0, 0)) (bd_ BK165.out) hb); have n1_ := Aside0.mk (below_step y72_ hb); have BK166 := Aside0.mk (hbox); have GW166 := Aside0.mk ((y87_ : w.heap.size ≤ gb166)); have GE166 := Aside0.mk ((y87_ : w.heap.size ≤ gb166)); have NB165_166 := Aside0.mk ((y68_ : gb165 ≠ gb166)); have NB166_165 := Aside0.mk ((y69_ : gb166 ≠ gb165)); clear BK165; clear HB; have BK165 := n0_; have HB := n1_; clear n0_ n1_; clear hb hbox hg) | ((with_reducible refine gate_dst (N := 4) rfl ?_); refine box_event ?hg (N := 4) ?hd (cs := #[.int .i64 0, .int .i64 0]) (t := 39) ?hr ?_; (case hd => rfl); (case hg => rfl); (case hr => first | (go_simp; done) | (go_simp; rfl)); intro gb167 hg w13 hbox hb; have n0_ := Aside0.mk (blk_below (g := gb165) (o := .cells #[.int .i64 a0_0, .int .i64 a0_1] 39 (0, 0)) (bd_ BK165.out) hb); have n1_ := Aside0.mk (blk_below (g := gb166) (o := .cells #[.int .i64 a1_0, .int .i64 a1_1] 39 (0, 0)) (bd_ BK166.out) hb); have n2_ := Aside0.mk (below_step y70_ hb); have BK167 := Aside0.mk (hbox); have GW167 := Aside0.mk ((y88_ : w.heap.size ≤ gb167)); have GE167 := Aside0.mk ((y88_ : w.heap.size ≤ gb167)); have NB165_167 := Aside0.mk ((y68_ : gb165 ≠ gb167)); have NB167_165 := Aside0.mk ((y69_ : gb167 ≠ gb165)); have NB166_167 := Aside0.mk ((y73_ : gb166 ≠ gb167)); have NB167_166 := Aside0.mk ((y74_ : gb167 ≠ gb166)); clear BK165; clear BK166; clear HB; have BK165 := n0_; have BK166 := n1_; have HB := n2_; clear n0_ n1_ n2_; clear hb hbox hg))
    have n0_ := Aside0.mk (blk_drew BK165.out)
    have n1_ := Aside0.mk (blk_drew BK166.out)
    have n2_ := Aside0.mk (blk_drew BK167.out)
    have n3_ := Aside0.mk (below_drew1 HB.out)
    clear BK165
    clear BK166
    clear BK167
    clear HB
    have BK165 := n0_
    have BK166 := n1_
    have BK167 := n2_
    have HB := n3_
    clear n0_ n1_ n2_ n3_
    refine start_ (n := 13) (S := fun w' => w'.cell? ⟨gb165, 0, none⟩ = some (.int .i64 a0_0) ∧ w'.cell? ⟨gb165, 1, none⟩ = some (.int .i64 a0_1) ∧ w'.cell? ⟨gb166, 0, none⟩ = some (.int .i64 a1_0) ∧ w'.cell? ⟨gb166, 1, none⟩ = some (.int .i64 a1_1)) (ds := []) M1_0 (by kernel_rfl) rfl rfl ⟨(blk_cell BK165.out 0).trans rfl, (blk_cell BK165.out 1).trans rfl, (blk_cell BK166.out 0).trans rfl, (blk_cell BK166.out 1).trans rfl⟩ (fun hHeld => ?_); refine with_tabW spec_Meet.tab1 spec_Meet.bits1 (fun HT_ HW_ => ?_)
    generalize w13.drew = w14 at BK165 BK166 BK167 HB hHeld ⊢
    refine pu_ 0 (some 7) M1_1 HT_ ?_
    refine pu_ 2 (some 9) M1_2 HT_ ?_
    refine pu_ 5 (some 12) M1_3 HT_ ?_
    refine pu_ 7 (some 14) M1_4 HT_ ?_
    refine tk_ 1 (some 8) M1_5 HT_ HW_ hHeld ?_
    refine tk_ 3 (some 10) M1_6 HT_ HW_ hHeld ?_
    refine tk_ 6 (some 13) M1_7 HT_ HW_ hHeld ?_
    refine tk_ 8 (some 15) M1_8 HT_ HW_ hHeld ?_
    refine join_ (σ := Nat) 1 M1_9 (fun s_ => [(11, .int .i64 t168), (16, .int .i64 t169), (6, .pointer (some ⟨s_, 0, none⟩)), (17, .agg #[.int .i64 t168, .int .i64 t169])]) (fun s_ w' => (w'.cell? ⟨gb165, 0, none⟩ = some (.int .i64 a0_0) ∧ w'.cell? ⟨gb165, 1, none⟩ = some (.int .i64 a0_1) ∧ w'.cell? ⟨gb166, 0, none⟩ = some (.int .i64 a1_0) ∧ w'.cell? ⟨gb166, 1, none⟩ = some (.int .i64 a1_1)) ∧ (w'.heap[gb165]? = some (.cells #[.int .i64 a0_0, .int .i64 a0_1] 39 (0, 0))) ∧ (w'.heap[gb166]? = some (.cells #[.int .i64 a1_0, .int .i64 a1_1] 39 (0, 0))) ∧ (w'.heap[gb167]? = some (.cells #[.int .i64 0, .int .i64 0] 39 (0, 0))) ∧ (w'.heap[s_]? = some (.cells #[.int .i64 0, .int .i64 0] 39 (0, 0))) ∧ (w.heap.size ≤ s_) ∧ (w.heap.size ≤ s_) ∧ (gb165 ≠ s_) ∧ (s_ ≠ gb165) ∧ (gb166 ≠ s_) ∧ (s_ ≠ gb166) ∧ (gb167 ≠ s_) ∧ (s_ ≠ gb167) ∧ (Below w.heap.size w w')) ?_ ?_
    rotate_left
    ·
     intro hCont
     refine two_ (i := 4) (j := 11) (Ni := some 11) (Nj := some 6) M1_10 M1_11 rfl rfl rfl rfl (two_of HT_.out (by kernel_rfl)) (by decide) (by decide) (fun K hK => ?_) (fun K hK => ?_)
     ·
      skip
      refine goes_ Try.func77 (by kernel_rfl) rfl #[.int .i64 a0_0, .int .i64 a1_0] (by rfl) rfl rfl ma_ ?_
      with_reducible refine (spec_Max.calls a0_0 a1_0 t168 _ A3.out).mono ?_
      rintro e w' ⟨rfl, ⟨nd, rfl⟩⟩
      refine ⟨_, rfl, ?_⟩
      refine hK.out _ _ ⟨(blk_cell BK165.out 0).trans rfl, (blk_cell BK165.out 1).trans rfl, (blk_cell BK166.out 0).trans rfl, (blk_cell BK166.out 1).trans rfl⟩ (fun hHeld => ?_)
      clear hK K
      refine norm_ (a' := ?_) ?_ ?_
      rotate_left
      ·
       show Act.put _ (some 11) _ = _
       simp only [Act.put, P1_1, P1_2, P1_3, i64_w, i32_w]
       rfl
      refine two_ (i := 9) (j := 11) (Ni := some 16) (Nj := some 6) M1_12 M1_13 rfl rfl rfl rfl (two_of HT_.out (by kernel_rfl)) (by decide) (by decide) (fun K hK => ?_) (fun K hK => ?_)
      ·
       skip
       refine goes_ Try.func78 (by kernel_rfl) rfl #[.int .i64 a0_1, .int .i64 a1_1] (by rfl) rfl rfl ma_ ?_
       with_reducible refine (spec_Min.calls a0_1 a1_1 t169 _ A4.out).mono ?_
       rintro e w' ⟨rfl, ⟨nd, rfl⟩⟩
       refine ⟨_, rfl, ?_⟩
       refine hK.out _ _ ⟨(blk_cell BK165.out 0).trans rfl, (blk_cell BK165.out 1).trans rfl, (blk_cell BK166.out 0).trans rfl, (blk_cell BK166.out 1).trans rfl⟩ (fun hHeld => ?_)
       clear hK K
       refine norm_ (a' := ?_) ?_ ?_
       rotate_left
       ·
        show Act.put _ (some 16) _ = _
        simp only [Act.put, P1_1, P1_2, P1_3, i64_w, i32_w]
        rfl
       refine pu_ 10 (some 17) M1_14 HT_ ?_
       refine one_ (i := 11) (N := some 6) M1_9 rfl rfl (one_of HT_.out (by kernel_rfl)) (by decide) (fun K hK => ?_)
       refine box_step ?hg (N := 6) ?hd (cs := #[.int .i64 0, .int .i64 0]) (t := 39) ?hr ?_; (case hd => rfl); (case hg => rfl); (case hr => first | (go_simp; done) | (go_simp; rfl))
       intro gb170 hg w15 hbox hb
       have n0_ := Aside0.mk (blk_below (g := gb165) (o := .cells #[.int .i64 a0_0, .int .i64 a0_1] 39 (0, 0)) (bd_ BK165.out) hb)
       have n1_ := Aside0.mk (blk_below (g := gb166) (o := .cells #[.int .i64 a1_0, .int .i64 a1_1] 39 (0, 0)) (bd_ BK166.out) hb)
       have n2_ := Aside0.mk (blk_below (g := gb167) (o := .cells #[.int .i64 0, .int .i64 0] 39 (0, 0)) (bd_ BK167.out) hb)
       have n3_ := Aside0.mk (below_step y63_ hb)
       have BK170 := Aside0.mk (hbox)
       have GW170 := Aside0.mk ((y84_ : w.heap.size ≤ gb170))
       have GE170 := Aside0.mk ((y84_ : w.heap.size ≤ gb170))
       have NB165_170 := Aside0.mk ((y68_ : gb165 ≠ gb170))
       have NB170_165 := Aside0.mk ((y69_ : gb170 ≠ gb165))
       have NB166_170 := Aside0.mk ((y73_ : gb166 ≠ gb170))
       have NB170_166 := Aside0.mk ((y74_ : gb170 ≠ gb166))
       have NB167_170 := Aside0.mk ((y77_ : gb167 ≠ gb170))
       have NB170_167 := Aside0.mk ((y78_ : gb170 ≠ gb167))
       clear BK165
       clear BK166
       clear BK167
       clear HB
       have BK165 := n0_
       have BK166 := n1_
       have BK167 := n2_
       have HB := n3_
       clear n0_ n1_ n2_ n3_
       clear hb hbox hg
       refine hK.out _ _ ⟨(blk_cell BK165.out 0).trans rfl, (blk_cell BK165.out 1).trans rfl, (blk_cell BK166.out 0).trans rfl, (blk_cell BK166.out 1).trans rfl⟩ (fun hHeld => ?_)
       clear hK K
       refine norm_ (a' := ?_) ?_ ?_
       rotate_left
       ·
        show Act.put _ (some 6) _ = _
        simp only [Act.put, P1_1, P1_2, P1_3, i64_w, i32_w]
        rfl
       exact norm_ y82_ (hCont (gb170) _ ⟨hHeld, bd_ BK165.out, bd_ BK166.out, bd_ BK167.out, bd_ BK170.out, GW170.out, GE170.out, NB165_170.out, NB170_165.out, NB166_170.out, NB170_166.out, NB167_170.out, NB170_167.out, y66_⟩)
      ·
       skip
       refine box_step ?hg (N := 6) ?hd (cs := #[.int .i64 0, .int .i64 0]) (t := 39) ?hr ?_; (case hd => rfl); (case hg => rfl); (case hr => first | (go_simp; done) | (go_simp; rfl))
       intro gb170 hg w15 hbox hb
       have n0_ := Aside0.mk (blk_below (g := gb165) (o := .cells #[.int .i64 a0_0, .int .i64 a0_1] 39 (0, 0)) (bd_ BK165.out) hb)
       have n1_ := Aside0.mk (blk_below (g := gb166) (o := .cells #[.int .i64 a1_0, .int .i64 a1_1] 39 (0, 0)) (bd_ BK166.out) hb)
       have n2_ := Aside0.mk (blk_below (g := gb167) (o := .cells #[.int .i64 0, .int .i64 0] 39 (0, 0)) (bd_ BK167.out) hb)
       have n3_ := Aside0.mk (below_step y63_ hb)
       have BK170 := Aside0.mk (hbox)
       have GW170 := Aside0.mk ((y84_ : w.heap.size ≤ gb170))
       have GE170 := Aside0.mk ((y84_ : w.heap.size ≤ gb170))
       have NB165_170 := Aside0.mk ((y68_ : gb165 ≠ gb170))
       have NB170_165 := Aside0.mk ((y69_ : gb170 ≠ gb165))
       have NB166_170 := Aside0.mk ((y73_ : gb166 ≠ gb170))
       have NB170_166 := Aside0.mk ((y74_ : gb170 ≠ gb166))
       have NB167_170 := Aside0.mk ((y77_ : gb167 ≠ gb170))
       have NB170_167 := Aside0.mk ((y78_ : gb170 ≠ gb167))
       clear BK165
       clear BK166
       clear BK167
       clear HB
       have BK165 := n0_
       have BK166 := n1_
       have BK167 := n2_
       have HB := n3_
       clear n0_ n1_ n2_ n3_
       clear hb hbox hg
       refine hK.out _ _ ⟨(blk_cell BK165.out 0).trans rfl, (blk_cell BK165.out 1).trans rfl, (blk_cell BK166.out 0).trans rfl, (blk_cell BK166.out 1).trans rfl⟩ (fun hHeld => ?_)
       clear hK K
       refine norm_ (a' := ?_) ?_ ?_
       rotate_left
       ·
        show Act.put _ (some 6) _ = _
        simp only [Act.put, P1_1, P1_2, P1_3, i64_w, i32_w]
        rfl
       refine one_ (i := 9) (N := some 16) M1_15 rfl rfl (one_of HT_.out (by kernel_rfl)) (by decide) (fun K hK => ?_)
       refine goes_ Try.func78 (by kernel_rfl) rfl #[.int .i64 a0_1, .int .i64 a1_1] (by rfl) rfl rfl ma_ ?_
       with_reducible refine (spec_Min.calls a0_1 a1_1 t169 _ A4.out).mono ?_
       rintro e w' ⟨rfl, ⟨nd, rfl⟩⟩
       refine ⟨_, rfl, ?_⟩
       refine hK.out _ _ ⟨(blk_cell BK165.out 0).trans rfl, (blk_cell BK165.out 1).trans rfl, (blk_cell BK166.out 0).trans rfl, (blk_cell BK166.out 1).trans rfl⟩ (fun hHeld => ?_)
       clear hK K
       refine norm_ (a' := ?_) ?_ ?_
       rotate_left
       ·
        show Act.put _ (some 16) _ = _
        simp only [Act.put, P1_1, P1_2, P1_3, i64_w, i32_w]
        rfl
       refine pu_ 10 (some 17) M1_9 HT_ ?_
       exact norm_ y82_ (hCont (gb170) _ ⟨hHeld, bd_ BK165.out, bd_ BK166.out, bd_ BK167.out, bd_ BK170.out, GW170.out, GE170.out, NB165_170.out, NB170_165.out, NB166_170.out, NB170_166.out, NB167_170.out, NB170_167.out, y66_⟩)
     ·
      skip
      refine box_step ?hg (N := 6) ?hd (cs := #[.int .i64 0, .int .i64 0]) (t := 39) ?hr ?_; (case hd => rfl); (case hg => rfl); (case hr => first | (go_simp; done) | (go_simp; rfl))
      intro gb170 hg w15 hbox hb
      have n0_ := Aside0.mk (blk_below (g := gb165) (o := .cells #[.int .i64 a0_0, .int .i64 a0_1] 39 (0, 0)) (bd_ BK165.out) hb)
      have n1_ := Aside0.mk (blk_below (g := gb166) (o := .cells #[.int .i64 a1_0, .int .i64 a1_1] 39 (0, 0)) (bd_ BK166.out) hb)
      have n2_ := Aside0.mk (blk_below (g := gb167) (o := .cells #[.int .i64 0, .int .i64 0] 39 (0, 0)) (bd_ BK167.out) hb)
      have n3_ := Aside0.mk (below_step y63_ hb)
      have BK170 := Aside0.mk (hbox)
      have GW170 := Aside0.mk ((y84_ : w.heap.size ≤ gb170))
      have GE170 := Aside0.mk ((y84_ : w.heap.size ≤ gb170))
      have NB165_170 := Aside0.mk ((y68_ : gb165 ≠ gb170))
      have NB170_165 := Aside0.mk ((y69_ : gb170 ≠ gb165))
      have NB166_170 := Aside0.mk ((y73_ : gb166 ≠ gb170))
      have NB170_166 := Aside0.mk ((y74_ : gb170 ≠ gb166))
      have NB167_170 := Aside0.mk ((y77_ : gb167 ≠ gb170))
      have NB170_167 := Aside0.mk ((y78_ : gb170 ≠ gb167))
      clear BK165
      clear BK166
      clear BK167
      clear HB
      have BK165 := n0_
      have BK166 := n1_
      have BK167 := n2_
      have HB := n3_
      clear n0_ n1_ n2_ n3_
      clear hb hbox hg
      refine hK.out _ _ ⟨(blk_cell BK165.out 0).trans rfl, (blk_cell BK165.out 1).trans rfl, (blk_cell BK166.out 0).trans rfl, (blk_cell BK166.out 1).trans rfl⟩ (fun hHeld => ?_)
      clear hK K
      refine norm_ (a' := ?_) ?_ ?_
      rotate_left
      ·
       show Act.put _ (some 6) _ = _
       simp only [Act.put, P1_1, P1_2, P1_3, i64_w, i32_w]
       rfl
      refine one_ (i := 4) (N := some 11) M1_13 rfl rfl (one_of HT_.out (by kernel_rfl)) (by decide) (fun K hK => ?_)
      refine goes_ Try.func77 (by kernel_rfl) rfl #[.int .i64 a0_0, .int .i64 a1_0] (by rfl) rfl rfl ma_ ?_
      with_reducible refine (spec_Max.calls a0_0 a1_0 t168 _ A3.out).mono ?_
      rintro e w' ⟨rfl, ⟨nd, rfl⟩⟩
      refine ⟨_, rfl, ?_⟩
      refine hK.out _ _ ⟨(blk_cell BK165.out 0).trans rfl, (blk_cell BK165.out 1).trans rfl, (blk_cell BK166.out 0).trans rfl, (blk_cell BK166.out 1).trans rfl⟩ (fun hHeld => ?_)
      clear hK K
      refine norm_ (a' := ?_) ?_ ?_
      rotate_left
      ·
       show Act.put _ (some 11) _ = _
       simp only [Act.put, P1_1, P1_2, P1_3, i64_w, i32_w]
       rfl
      refine one_ (i := 9) (N := some 16) M1_15 rfl rfl (one_of HT_.out (by kernel_rfl)) (by decide) (fun K hK => ?_)
      refine goes_ Try.func78 (by kernel_rfl) rfl #[.int .i64 a0_1, .int .i64 a1_1] (by rfl) rfl rfl ma_ ?_
      with_reducible refine (spec_Min.calls a0_1 a1_1 t169 _ A4.out).mono ?_
      rintro e w' ⟨rfl, ⟨nd, rfl⟩⟩
      refine ⟨_, rfl, ?_⟩
      refine hK.out _ _ ⟨(blk_cell BK165.out 0).trans rfl, (blk_cell BK165.out 1).trans rfl, (blk_cell BK166.out 0).trans rfl, (blk_cell BK166.out 1).trans rfl⟩ (fun hHeld => ?_)
      clear hK K
      refine norm_ (a' := ?_) ?_ ?_
      rotate_left
      ·
       show Act.put _ (some 16) _ = _
       simp only [Act.put, P1_1, P1_2, P1_3, i64_w, i32_w]
       rfl
      refine pu_ 10 (some 17) M1_9 HT_ ?_
      exact norm_ y82_ (hCont (gb170) _ ⟨hHeld, bd_ BK165.out, bd_ BK166.out, bd_ BK167.out, bd_ BK170.out, GW170.out, GE170.out, NB165_170.out, NB170_165.out, NB166_170.out, NB170_166.out, NB167_170.out, NB170_167.out, y66_⟩)
    rintro gb170 w16 ⟨hS_, h0_, h1_, h2_, h3_, h4_, h5_, h6_, h7_, h8_, h9_, h10_, h11_, h12_⟩
    have n0_ : Aside0 (w16.heap[gb165]? = some (.cells #[.int .i64 a0_0, .int .i64 a0_1] 39 (0, 0))) := ⟨h0_⟩
    have n1_ : Aside0 (w16.heap[gb166]? = some (.cells #[.int .i64 a1_0, .int .i64 a1_1] 39 (0, 0))) := ⟨h1_⟩
    have n2_ : Aside0 (w16.heap[gb167]? = some (.cells #[.int .i64 0, .int .i64 0] 39 (0, 0))) := ⟨h2_⟩
    have BK170 : Aside0 (w16.heap[gb170]? = some (.cells #[.int .i64 0, .int .i64 0] 39 (0, 0))) := ⟨h3_⟩
    have GW170 : Aside0 (w.heap.size ≤ gb170) := ⟨h4_⟩
    have GE170 : Aside0 (w.heap.size ≤ gb170) := ⟨h5_⟩
    have NB165_170 : Aside0 (gb165 ≠ gb170) := ⟨h6_⟩
    have NB170_165 : Aside0 (gb170 ≠ gb165) := ⟨h7_⟩
    have NB166_170 : Aside0 (gb166 ≠ gb170) := ⟨h8_⟩
    have NB170_166 : Aside0 (gb170 ≠ gb166) := ⟨h9_⟩
    have NB167_170 : Aside0 (gb167 ≠ gb170) := ⟨h10_⟩
    have NB170_167 : Aside0 (gb170 ≠ gb167) := ⟨h11_⟩
    have n12_ : Aside0 (Below w.heap.size w w16) := ⟨h12_⟩
    clear BK165
    clear BK166
    clear BK167
    clear HB
    clear h0_ h1_ h2_ h3_ h4_ h5_ h6_ h7_ h8_ h9_ h10_ h11_ h12_
    have BK165 := n0_
    have BK166 := n1_
    have BK167 := n2_
    have HB := n12_
    clear n0_ n1_ n2_ n12_
    have hHeld : w16.cell? ⟨gb165, 0, none⟩ = some (.int .i64 a0_0) ∧ w16.cell? ⟨gb165, 1, none⟩ = some (.int .i64 a0_1) ∧ w16.cell? ⟨gb166, 0, none⟩ = some (.int .i64 a1_0) ∧ w16.cell? ⟨gb166, 1, none⟩ = some (.int .i64 a1_1) := hS_
    refine norm_ (a' := ?_) ?_ ?_
    rotate_left
    ·
     simp only [putAll, Act.put, List.setIfInBounds_toArray, List.set_cons_zero, List.set_cons_succ]
     rfl
    refine one_ (i := 12) (N := none) M1_16 rfl rfl (one_of HT_.out (by kernel_rfl)) (by decide) (fun K hK => ?_)
    have hs17 : w16.cell? ⟨gb170, 0, none⟩ = some (.int .i64 0) := (blk_cell BK170.out 0).trans rfl
    have hfs17 := blk_frozen BK170.out 0
    have hns17_0 := NB165_170.out
    have hns17_1 := NB166_170.out
    have hns17_2 := NB167_170.out
    have hms17_0 := NB170_165.out
    have hms17_1 := NB170_166.out
    have hms17_2 := NB170_167.out
    have hs18 : w16.cell? ⟨gb170, 1, none⟩ = some (.int .i64 0) := (blk_cell BK170.out 1).trans rfl
    have hfs18 := blk_frozen BK170.out 1
    have hns18_0 := NB165_170.out
    have hns18_1 := NB166_170.out
    have hns18_2 := NB167_170.out
    have hms18_0 := NB170_165.out
    have hms18_1 := NB170_166.out
    have hms18_2 := NB170_167.out
    refine skip_ (w1 := ?_) (by rfl) rfl ?_ ?_
    rotate_left
    ·
     go_simp
     rfl
    refine hK.out _ _ ⟨((cell_far (p := ⟨gb170, _, none⟩) NB165_170.out _).trans (((cell_far (p := ⟨gb170, _, none⟩) NB165_170.out _).trans (hHeld.1)))), ((cell_far (p := ⟨gb170, _, none⟩) NB165_170.out _).trans (((cell_far (p := ⟨gb170, _, none⟩) NB165_170.out _).trans (hHeld.2.1)))), ((cell_far (p := ⟨gb170, _, none⟩) NB166_170.out _).trans (((cell_far (p := ⟨gb170, _, none⟩) NB166_170.out _).trans (hHeld.2.2.1)))), ((cell_far (p := ⟨gb170, _, none⟩) NB166_170.out _).trans (((cell_far (p := ⟨gb170, _, none⟩) NB166_170.out _).trans (hHeld.2.2.2))))⟩ (fun hHeld => ?_)
    clear hK K
    refine done_ (done_of HT_.out (by kernel_rfl)) ?_
    have hnb19 := NB165_166.out
    have hnc19 := NB166_165.out
    have hnb20 := NB165_167.out
    have hnc20 := NB167_165.out
    have hnb21 := NB165_170.out
    have hnc21 := NB170_165.out
    have hcz22_0 : w16.cell? ⟨gb165, 0, none⟩ = some (.int .i64 a0_0) := (blk_cell BK165.out 0).trans rfl
    have hcz22_1 : w16.cell? ⟨gb165, 1, none⟩ = some (.int .i64 a0_1) := (blk_cell BK165.out 1).trans rfl
    have hfz22_0 := blk_frozen BK165.out 0
    have hfz22_1 := blk_frozen BK165.out 1
    try go_wp2_with (first | ((with_reducible refine gate_callee (f := 79) rfl ?_); refine goesL_ (some 19) rfl rfl Try.func79 (by kernel_rfl) rfl #[.agg #[.int .i64 a0_0, .int .i64 a0_1]] rfl ma_ ?_; (with_reducible refine (spec_IsSpan.calls a0_0 a0_1 true _ A5.out).mono ?_); rintro e w23 ⟨rfl, hb⟩; refine ⟨_, rfl, ?_⟩; have n0_ := Aside0.mk (blk_below (g := gb165) (o := .cells #[.int .i64 a0_0, .int .i64 a0_1] 39 (0, 0)) y79_ hb); have n1_ := Aside0.mk (blk_below (g := gb166) (o := .cells #[.int .i64 a1_0, .int .i64 a1_1] 39 (0, 0)) y80_ hb); have n2_ := Aside0.mk (blk_below (g := gb167) (o := .cells #[.int .i64 0, .int .i64 0] 39 (0, 0)) y81_ hb); have n3_ := Aside0.mk (blk_below (g := gb170) (o := .cells #[.int .i64 t168, .int .i64 t169] 39 (0, 0)) y76_ hb); have n4_ := Aside0.mk (below_step y66_ hb); clear BK165; clear BK166; clear BK167; clear BK170; clear HB; have BK165 := n0_; have BK166 := n1_; have BK167 := n2_; have BK170 := n3_; have HB := n4_; clear n0_ n1_ n2_ n3_ n4_; (try clear hb); (try clear hb2); (try clear hk); (try clear hi); have hnb24 := NB166_167.out; have hnc24 := NB167_166.out; have hnb25 := NB166_170.out; have hnc25 := NB170_166.out; have hcz26_0 : w23.cell? ⟨gb166, 0, none⟩ = some (.int .i64 a1_0) := (blk_cell BK166.out 0).trans rfl; have hcz26_1 : w23.cell? ⟨gb166, 1, none⟩ = some (.int .i64 a1_1) := (blk_cell BK166.out 1).trans rfl; have hfz26_0 := blk_frozen BK166.out 0; have hfz26_1 := blk_frozen BK166.out 1) | (go_at_call 79; (with_reducible refine (spec_IsSpan.calls a1_0 a1_1 true _ A7.out).mono ?_); rintro e w27 ⟨rfl, hb⟩; have n0_ := Aside0.mk (blk_below (g := gb165) (o := .cells #[.int .i64 a0_0, .int .i64 a0_1] 39 (0, 0)) (bd_ BK165.out) hb); have n1_ := Aside0.mk (blk_below (g := gb166) (o := .cells #[.int .i64 a1_0, .int .i64 a1_1] 39 (0, 0)) (bd_ BK166.out) hb); have n2_ := Aside0.mk (blk_below (g := gb167) (o := .cells #[.int .i64 0, .int .i64 0] 39 (0, 0)) (bd_ BK167.out) hb); have n3_ := Aside0.mk (blk_below (g := gb170) (o := .cells #[.int .i64 t168, .int .i64 t169] 39 (0, 0)) (bd_ BK170.out) hb); have n4_ := Aside0.mk (below_step y66_ hb); clear BK165; clear BK166; clear BK167; clear BK170; clear HB; have BK165 := n0_; have BK166 := n1_; have BK167 := n2_; have BK170 := n3_; have HB := n4_; clear n0_ n1_ n2_ n3_ n4_; (try clear hb); (try clear hb2); (try clear hk); (try clear hi); have hnb28 := NB170_167.out; have hnc28 := NB167_170.out; have hcz29_0 : w27.cell? ⟨gb170, 0, none⟩ = some (.int .i64 t168) := (blk_cell BK170.out 0).trans rfl; have hcz29_1 : w27.cell? ⟨gb170, 1, none⟩ = some (.int .i64 t169) := (blk_cell BK170.out 1).trans rfl; have hfz29_0 := blk_frozen BK170.out 0; have hfz29_1 := blk_frozen BK170.out 1) | (go_at_call 79; (with_reducible refine (spec_IsSpan.calls t168 t169 true _ A9.out).mono ?_); rintro e w30 ⟨rfl, hb⟩; have n0_ := Aside0.mk (blk_below (g := gb165) (o := .cells #[.int .i64 a0_0, .int .i64 a0_1] 39 (0, 0)) (bd_ BK165.out) hb); have n1_ := Aside0.mk (blk_below (g := gb166) (o := .cells #[.int .i64 a1_0, .int .i64 a1_1] 39 (0, 0)) (bd_ BK166.out) hb); have n2_ := Aside0.mk (blk_below (g := gb167) (o := .cells #[.int .i64 0, .int .i64 0] 39 (0, 0)) (bd_ BK167.out) hb); have n3_ := Aside0.mk (blk_below (g := gb170) (o := .cells #[.int .i64 t168, .int .i64 t169] 39 (0, 0)) (bd_ BK170.out) hb); have n4_ := Aside0.mk (below_step y66_ hb); clear BK165; clear BK166; clear BK167; clear BK170; clear HB; have BK165 := n0_; have BK166 := n1_; have BK167 := n2_; have BK170 := n3_; have HB := n4_; clear n0_ n1_ n2_ n3_ n4_; (try clear hb); (try clear hb2); (try clear hk); (try clear hi); have hcz31_0 : w30.cell? ⟨gb170, 0, none⟩ = some (.int .i64 t168) := (blk_cell BK170.out 0).trans rfl; have hcz31_1 : w30.cell? ⟨gb170, 1, none⟩ = some (.int .i64 t169) := (blk_cell BK170.out 1).trans rfl; have hfz31_0 := blk_frozen BK170.out 0; have hfz31_1 := blk_frozen BK170.out 1; have hcz32_0 : w30.cell? ⟨gb167, 0, none⟩ = some (.int .i64 0) := (blk_cell BK167.out 0).trans rfl; have hcz32_1 : w30.cell? ⟨gb167, 1, none⟩ = some (.int .i64 0) := (blk_cell BK167.out 1).trans rfl; have hfz32_0 := blk_frozen BK167.out 0; have hfz32_1 := blk_frozen BK167.out 1))
    refine bodyPost_ret (results_ct rfl _ _ gb167 39 #[.int .i64 t168, .int .i64 t169] (0, 0) _ rfl (by (with_reducible repeat (first | refine blk_drewN ?_ _ | refine blk_drew ?_ | refine blk_alloc ?_ _)); refine blk_put (cs := #[.int .i64 t168, .int .i64 0]) ?_ 1 _ rfl; (with_reducible repeat (first | refine blk_drewN ?_ _ | refine blk_drew ?_ | refine blk_alloc ?_ _)); refine blk_put (cs := #[.int .i64 0, .int .i64 0]) ?_ 0 _ rfl; (with_reducible repeat (first | refine blk_drewN ?_ _ | refine blk_drew ?_ | refine blk_alloc ?_ _)); exact BK167.out) Try.underlying39 rfl (by kernel_rfl)) rfl ?_
    exact ⟨by first | rfl | (simp [errW_none, errW_some] <;> rfl) | (simp [*, errW_none, errW_some] <;> rfl), y85_⟩
   ·
    replace c10 := Bool.eq_false_iff.mpr c10
    subst c10
    have H1 : (some (0, 0, false)) = some (r1, r2, r3) := by rw [if_neg (show ¬ (false = true) by decide)] at H; exact H
    clear H
    have H := H1
    clear H1
    simp only [Option.some.injEq, Prod.mk.injEq] at H
    obtain ⟨rfl, rfl, rfl⟩ := H
    go_enter Try.func48, Try.ntmps48
    try go_wp2_with (first | ((with_reducible refine gate_dst (N := 2) rfl ?_); refine box_event ?hg (N := 2) ?hd (cs := #[.int .i64 a0_0, .int .i64 a0_1]) (t := 39) ?hr ?_; (case hd => rfl); (case hg => rfl); (case hr => first | (go_simp; done) | (go_simp; rfl)); intro gb165 hg w33 hbox hb; have n0_ := Aside0.mk (below_step (hd_ HB.out) hb); have BK165 := Aside0.mk (hbox); have GW165 := Aside0.mk ((y86_ : w.heap.size ≤ gb165)); have GE165 := Aside0.mk ((y86_ : w.heap.size ≤ gb165)); clear HB; have HB := n0_; clear n0_; clear hb hbox hg) | ((with_reducible refine gate_dst (N := 3) rfl ?_); refine box_event ?hg (N := 3) ?hd (cs := #[.int .i64 a1_0, .int .i64 a1_1]) (t := 39) ?hr ?_; (case hd => rfl); (case hg => rfl); (case hr => first | (go_simp; done) | (go_simp; rfl)); intro gb166 hg w34 hbox hb; have n0_ := Aside0.mk (blk_below (g := gb165) (o := .cells #[.int .i64 a0_0, .int .i64 a0_1] 39 (0, 0)) (bd_ BK165.out) hb); have n1_ := Aside0.mk (below_step y72_ hb); have BK166 := Aside0.mk (hbox); have GW166 := Aside0.mk ((y87_ : w.heap.size ≤ gb166)); have GE166 := Aside0.mk ((y87_ : w.heap.size ≤ gb166)); have NB165_166 := Aside0.mk ((y68_ : gb165 ≠ gb166)); have NB166_165 := Aside0.mk ((y69_ : gb166 ≠ gb165)); clear BK165; clear HB; have BK165 := n0_; have HB := n1_; clear n0_ n1_; clear hb hbox hg) | ((with_reducible refine gate_dst (N := 4) rfl ?_); refine box_event ?hg (N := 4) ?hd (cs := #[.int .i64 0, .int .i64 0]) (t := 39) ?hr ?_; (case hd => rfl); (case hg => rfl); (case hr => first | (go_simp; done) | (go_simp; rfl)); intro gb167 hg w35 hbox hb; have n0_ := Aside0.mk (blk_below (g := gb165) (o := .cells #[.int .i64 a0_0, .int .i64 a0_1] 39 (0, 0)) (bd_ BK165.out) hb); have n1_ := Aside0.mk (blk_below (g := gb166) (o := .cells #[.int .i64 a1_0, .int .i64 a1_1] 39 (0, 0)) (bd_ BK166.out) hb); have n2_ := Aside0.mk (below_step y70_ hb); have BK167 := Aside0.mk (hbox); have GW167 := Aside0.mk ((y88_ : w.heap.size ≤ gb167)); have GE167 := Aside0.mk ((y88_ : w.heap.size ≤ gb167)); have NB165_167 := Aside0.mk ((y68_ : gb165 ≠ gb167)); have NB167_165 := Aside0.mk ((y69_ : gb167 ≠ gb165)); have NB166_167 := Aside0.mk ((y73_ : gb166 ≠ gb167)); have NB167_166 := Aside0.mk ((y74_ : gb167 ≠ gb166)); clear BK165; clear BK166; clear HB; have BK165 := n0_; have BK166 := n1_; have HB := n2_; clear n0_ n1_ n2_; clear hb hbox hg))
    have n0_ := Aside0.mk (blk_drew BK165.out)
    have n1_ := Aside0.mk (blk_drew BK166.out)
    have n2_ := Aside0.mk (blk_drew BK167.out)
    have n3_ := Aside0.mk (below_drew1 HB.out)
    clear BK165
    clear BK166
    clear BK167
    clear HB
    have BK165 := n0_
    have BK166 := n1_
    have BK167 := n2_
    have HB := n3_
    clear n0_ n1_ n2_ n3_
    refine start_ (n := 13) (S := fun w' => w'.cell? ⟨gb165, 0, none⟩ = some (.int .i64 a0_0) ∧ w'.cell? ⟨gb165, 1, none⟩ = some (.int .i64 a0_1) ∧ w'.cell? ⟨gb166, 0, none⟩ = some (.int .i64 a1_0) ∧ w'.cell? ⟨gb166, 1, none⟩ = some (.int .i64 a1_1)) (ds := []) M1_0 (by kernel_rfl) rfl rfl ⟨(blk_cell BK165.out 0).trans rfl, (blk_cell BK165.out 1).trans rfl, (blk_cell BK166.out 0).trans rfl, (blk_cell BK166.out 1).trans rfl⟩ (fun hHeld => ?_); refine with_tabW spec_Meet.tab1 spec_Meet.bits1 (fun HT_ HW_ => ?_)
    generalize w35.drew = w36 at BK165 BK166 BK167 HB hHeld ⊢
    refine pu_ 0 (some 7) M1_1 HT_ ?_
    refine pu_ 2 (some 9) M1_2 HT_ ?_
    refine pu_ 5 (some 12) M1_3 HT_ ?_
    refine pu_ 7 (some 14) M1_4 HT_ ?_
    refine tk_ 1 (some 8) M1_5 HT_ HW_ hHeld ?_
    refine tk_ 3 (some 10) M1_6 HT_ HW_ hHeld ?_
    refine tk_ 6 (some 13) M1_7 HT_ HW_ hHeld ?_
    refine tk_ 8 (some 15) M1_8 HT_ HW_ hHeld ?_
    refine join_ (σ := Nat) 1 M1_9 (fun s_ => [(11, .int .i64 t168), (16, .int .i64 t169), (6, .pointer (some ⟨s_, 0, none⟩)), (17, .agg #[.int .i64 t168, .int .i64 t169])]) (fun s_ w' => (w'.cell? ⟨gb165, 0, none⟩ = some (.int .i64 a0_0) ∧ w'.cell? ⟨gb165, 1, none⟩ = some (.int .i64 a0_1) ∧ w'.cell? ⟨gb166, 0, none⟩ = some (.int .i64 a1_0) ∧ w'.cell? ⟨gb166, 1, none⟩ = some (.int .i64 a1_1)) ∧ (w'.heap[gb165]? = some (.cells #[.int .i64 a0_0, .int .i64 a0_1] 39 (0, 0))) ∧ (w'.heap[gb166]? = some (.cells #[.int .i64 a1_0, .int .i64 a1_1] 39 (0, 0))) ∧ (w'.heap[gb167]? = some (.cells #[.int .i64 0, .int .i64 0] 39 (0, 0))) ∧ (w'.heap[s_]? = some (.cells #[.int .i64 0, .int .i64 0] 39 (0, 0))) ∧ (w.heap.size ≤ s_) ∧ (w.heap.size ≤ s_) ∧ (gb165 ≠ s_) ∧ (s_ ≠ gb165) ∧ (gb166 ≠ s_) ∧ (s_ ≠ gb166) ∧ (gb167 ≠ s_) ∧ (s_ ≠ gb167) ∧ (Below w.heap.size w w')) ?_ ?_
    rotate_left
    ·
     intro hCont
     refine two_ (i := 4) (j := 11) (Ni := some 11) (Nj := some 6) M1_10 M1_11 rfl rfl rfl rfl (two_of HT_.out (by kernel_rfl)) (by decide) (by decide) (fun K hK => ?_) (fun K hK => ?_)
     ·
      skip
      refine goes_ Try.func77 (by kernel_rfl) rfl #[.int .i64 a0_0, .int .i64 a1_0] (by rfl) rfl rfl ma_ ?_
      with_reducible refine (spec_Max.calls a0_0 a1_0 t168 _ A3.out).mono ?_
      rintro e w' ⟨rfl, ⟨nd, rfl⟩⟩
      refine ⟨_, rfl, ?_⟩
      refine hK.out _ _ ⟨(blk_cell BK165.out 0).trans rfl, (blk_cell BK165.out 1).trans rfl, (blk_cell BK166.out 0).trans rfl, (blk_cell BK166.out 1).trans rfl⟩ (fun hHeld => ?_)
      clear hK K
      refine norm_ (a' := ?_) ?_ ?_
      rotate_left
      ·
       show Act.put _ (some 11) _ = _
       simp only [Act.put, P1_1, P1_2, P1_3, i64_w, i32_w]
       rfl
      refine two_ (i := 9) (j := 11) (Ni := some 16) (Nj := some 6) M1_12 M1_13 rfl rfl rfl rfl (two_of HT_.out (by kernel_rfl)) (by decide) (by decide) (fun K hK => ?_) (fun K hK => ?_)
      ·
       skip
       refine goes_ Try.func78 (by kernel_rfl) rfl #[.int .i64 a0_1, .int .i64 a1_1] (by rfl) rfl rfl ma_ ?_
       with_reducible refine (spec_Min.calls a0_1 a1_1 t169 _ A4.out).mono ?_
       rintro e w' ⟨rfl, ⟨nd, rfl⟩⟩
       refine ⟨_, rfl, ?_⟩
       refine hK.out _ _ ⟨(blk_cell BK165.out 0).trans rfl, (blk_cell BK165.out 1).trans rfl, (blk_cell BK166.out 0).trans rfl, (blk_cell BK166.out 1).trans rfl⟩ (fun hHeld => ?_)
       clear hK K
       refine norm_ (a' := ?_) ?_ ?_
       rotate_left
       ·
        show Act.put _ (some 16) _ = _
        simp only [Act.put, P1_1, P1_2, P1_3, i64_w, i32_w]
        rfl
       refine pu_ 10 (some 17) M1_14 HT_ ?_
       refine one_ (i := 11) (N := some 6) M1_9 rfl rfl (one_of HT_.out (by kernel_rfl)) (by decide) (fun K hK => ?_)
       refine box_step ?hg (N := 6) ?hd (cs := #[.int .i64 0, .int .i64 0]) (t := 39) ?hr ?_; (case hd => rfl); (case hg => rfl); (case hr => first | (go_simp; done) | (go_simp; rfl))
       intro gb170 hg w37 hbox hb
       have n0_ := Aside0.mk (blk_below (g := gb165) (o := .cells #[.int .i64 a0_0, .int .i64 a0_1] 39 (0, 0)) (bd_ BK165.out) hb)
       have n1_ := Aside0.mk (blk_below (g := gb166) (o := .cells #[.int .i64 a1_0, .int .i64 a1_1] 39 (0, 0)) (bd_ BK166.out) hb)
       have n2_ := Aside0.mk (blk_below (g := gb167) (o := .cells #[.int .i64 0, .int .i64 0] 39 (0, 0)) (bd_ BK167.out) hb)
       have n3_ := Aside0.mk (below_step y63_ hb)
       have BK170 := Aside0.mk (hbox)
       have GW170 := Aside0.mk ((y84_ : w.heap.size ≤ gb170))
       have GE170 := Aside0.mk ((y84_ : w.heap.size ≤ gb170))
       have NB165_170 := Aside0.mk ((y68_ : gb165 ≠ gb170))
       have NB170_165 := Aside0.mk ((y69_ : gb170 ≠ gb165))
       have NB166_170 := Aside0.mk ((y73_ : gb166 ≠ gb170))
       have NB170_166 := Aside0.mk ((y74_ : gb170 ≠ gb166))
       have NB167_170 := Aside0.mk ((y77_ : gb167 ≠ gb170))
       have NB170_167 := Aside0.mk ((y78_ : gb170 ≠ gb167))
       clear BK165
       clear BK166
       clear BK167
       clear HB
       have BK165 := n0_
       have BK166 := n1_
       have BK167 := n2_
       have HB := n3_
       clear n0_ n1_ n2_ n3_
       clear hb hbox hg
       refine hK.out _ _ ⟨(blk_cell BK165.out 0).trans rfl, (blk_cell BK165.out 1).trans rfl, (blk_cell BK166.out 0).trans rfl, (blk_cell BK166.out 1).trans rfl⟩ (fun hHeld => ?_)
       clear hK K
       refine norm_ (a' := ?_) ?_ ?_
       rotate_left
       ·
        show Act.put _ (some 6) _ = _
        simp only [Act.put, P1_1, P1_2, P1_3, i64_w, i32_w]
        rfl
       exact norm_ y82_ (hCont (gb170) _ ⟨hHeld, bd_ BK165.out, bd_ BK166.out, bd_ BK167.out, bd_ BK170.out, GW170.out, GE170.out, NB165_170.out, NB170_165.out, NB166_170.out, NB170_166.out, NB167_170.out, NB170_167.out, y66_⟩)
      ·
       skip
       refine box_step ?hg (N := 6) ?hd (cs := #[.int .i64 0, .int .i64 0]) (t := 39) ?hr ?_; (case hd => rfl); (case hg => rfl); (case hr => first | (go_simp; done) | (go_simp; rfl))
       intro gb170 hg w37 hbox hb
       have n0_ := Aside0.mk (blk_below (g := gb165) (o := .cells #[.int .i64 a0_0, .int .i64 a0_1] 39 (0, 0)) (bd_ BK165.out) hb)
       have n1_ := Aside0.mk (blk_below (g := gb166) (o := .cells #[.int .i64 a1_0, .int .i64 a1_1] 39 (0, 0)) (bd_ BK166.out) hb)
       have n2_ := Aside0.mk (blk_below (g := gb167) (o := .cells #[.int .i64 0, .int .i64 0] 39 (0, 0)) (bd_ BK167.out) hb)
       have n3_ := Aside0.mk (below_step y63_ hb)
       have BK170 := Aside0.mk (hbox)
       have GW170 := Aside0.mk ((y84_ : w.heap.size ≤ gb170))
       have GE170 := Aside0.mk ((y84_ : w.heap.size ≤ gb170))
       have NB165_170 := Aside0.mk ((y68_ : gb165 ≠ gb170))
       have NB170_165 := Aside0.mk ((y69_ : gb170 ≠ gb165))
       have NB166_170 := Aside0.mk ((y73_ : gb166 ≠ gb170))
       have NB170_166 := Aside0.mk ((y74_ : gb170 ≠ gb166))
       have NB167_170 := Aside0.mk ((y77_ : gb167 ≠ gb170))
       have NB170_167 := Aside0.mk ((y78_ : gb170 ≠ gb167))
       clear BK165
       clear BK166
       clear BK167
       clear HB
       have BK165 := n0_
       have BK166 := n1_
       have BK167 := n2_
       have HB := n3_
       clear n0_ n1_ n2_ n3_
       clear hb hbox hg
       refine hK.out _ _ ⟨(blk_cell BK165.out 0).trans rfl, (blk_cell BK165.out 1).trans rfl, (blk_cell BK166.out 0).trans rfl, (blk_cell BK166.out 1).trans rfl⟩ (fun hHeld => ?_)
       clear hK K
       refine norm_ (a' := ?_) ?_ ?_
       rotate_left
       ·
        show Act.put _ (some 6) _ = _
        simp only [Act.put, P1_1, P1_2, P1_3, i64_w, i32_w]
        rfl
       refine one_ (i := 9) (N := some 16) M1_15 rfl rfl (one_of HT_.out (by kernel_rfl)) (by decide) (fun K hK => ?_)
       refine goes_ Try.func78 (by kernel_rfl) rfl #[.int .i64 a0_1, .int .i64 a1_1] (by rfl) rfl rfl ma_ ?_
       with_reducible refine (spec_Min.calls a0_1 a1_1 t169 _ A4.out).mono ?_
       rintro e w' ⟨rfl, ⟨nd, rfl⟩⟩
       refine ⟨_, rfl, ?_⟩
       refine hK.out _ _ ⟨(blk_cell BK165.out 0).trans rfl, (blk_cell BK165.out 1).trans rfl, (blk_cell BK166.out 0).trans rfl, (blk_cell BK166.out 1).trans rfl⟩ (fun hHeld => ?_)
       clear hK K
       refine norm_ (a' := ?_) ?_ ?_
       rotate_left
       ·
        show Act.put _ (some 16) _ = _
        simp only [Act.put, P1_1, P1_2, P1_3, i64_w, i32_w]
        rfl
       refine pu_ 10 (some 17) M1_9 HT_ ?_
       exact norm_ y82_ (hCont (gb170) _ ⟨hHeld, bd_ BK165.out, bd_ BK166.out, bd_ BK167.out, bd_ BK170.out, GW170.out, GE170.out, NB165_170.out, NB170_165.out, NB166_170.out, NB170_166.out, NB167_170.out, NB170_167.out, y66_⟩)
     ·
      skip
      refine box_step ?hg (N := 6) ?hd (cs := #[.int .i64 0, .int .i64 0]) (t := 39) ?hr ?_; (case hd => rfl); (case hg => rfl); (case hr => first | (go_simp; done) | (go_simp; rfl))
      intro gb170 hg w37 hbox hb
      have n0_ := Aside0.mk (blk_below (g := gb165) (o := .cells #[.int .i64 a0_0, .int .i64 a0_1] 39 (0, 0)) (bd_ BK165.out) hb)
      have n1_ := Aside0.mk (blk_below (g := gb166) (o := .cells #[.int .i64 a1_0, .int .i64 a1_1] 39 (0, 0)) (bd_ BK166.out) hb)
      have n2_ := Aside0.mk (blk_below (g := gb167) (o := .cells #[.int .i64 0, .int .i64 0] 39 (0, 0)) (bd_ BK167.out) hb)
      have n3_ := Aside0.mk (below_step y63_ hb)
      have BK170 := Aside0.mk (hbox)
      have GW170 := Aside0.mk ((y84_ : w.heap.size ≤ gb170))
      have GE170 := Aside0.mk ((y84_ : w.heap.size ≤ gb170))
      have NB165_170 := Aside0.mk ((y68_ : gb165 ≠ gb170))
      have NB170_165 := Aside0.mk ((y69_ : gb170 ≠ gb165))
      have NB166_170 := Aside0.mk ((y73_ : gb166 ≠ gb170))
      have NB170_166 := Aside0.mk ((y74_ : gb170 ≠ gb166))
      have NB167_170 := Aside0.mk ((y77_ : gb167 ≠ gb170))
      have NB170_167 := Aside0.mk ((y78_ : gb170 ≠ gb167))
      clear BK165
      clear BK166
      clear BK167
      clear HB
      have BK165 := n0_
      have BK166 := n1_
      have BK167 := n2_
      have HB := n3_
      clear n0_ n1_ n2_ n3_
      clear hb hbox hg
      refine hK.out _ _ ⟨(blk_cell BK165.out 0).trans rfl, (blk_cell BK165.out 1).trans rfl, (blk_cell BK166.out 0).trans rfl, (blk_cell BK166.out 1).trans rfl⟩ (fun hHeld => ?_)
      clear hK K
      refine norm_ (a' := ?_) ?_ ?_
      rotate_left
      ·
       show Act.put _ (some 6) _ = _
       simp only [Act.put, P1_1, P1_2, P1_3, i64_w, i32_w]
       rfl
      refine one_ (i := 4) (N := some 11) M1_13 rfl rfl (one_of HT_.out (by kernel_rfl)) (by decide) (fun K hK => ?_)
      refine goes_ Try.func77 (by kernel_rfl) rfl #[.int .i64 a0_0, .int .i64 a1_0] (by rfl) rfl rfl ma_ ?_
      with_reducible refine (spec_Max.calls a0_0 a1_0 t168 _ A3.out).mono ?_
      rintro e w' ⟨rfl, ⟨nd, rfl⟩⟩
      refine ⟨_, rfl, ?_⟩
      refine hK.out _ _ ⟨(blk_cell BK165.out 0).trans rfl, (blk_cell BK165.out 1).trans rfl, (blk_cell BK166.out 0).trans rfl, (blk_cell BK166.out 1).trans rfl⟩ (fun hHeld => ?_)
      clear hK K
      refine norm_ (a' := ?_) ?_ ?_
      rotate_left
      ·
       show Act.put _ (some 11) _ = _
       simp only [Act.put, P1_1, P1_2, P1_3, i64_w, i32_w]
       rfl
      refine one_ (i := 9) (N := some 16) M1_15 rfl rfl (one_of HT_.out (by kernel_rfl)) (by decide) (fun K hK => ?_)
      refine goes_ Try.func78 (by kernel_rfl) rfl #[.int .i64 a0_1, .int .i64 a1_1] (by rfl) rfl rfl ma_ ?_
      with_reducible refine (spec_Min.calls a0_1 a1_1 t169 _ A4.out).mono ?_
      rintro e w' ⟨rfl, ⟨nd, rfl⟩⟩
      refine ⟨_, rfl, ?_⟩
      refine hK.out _ _ ⟨(blk_cell BK165.out 0).trans rfl, (blk_cell BK165.out 1).trans rfl, (blk_cell BK166.out 0).trans rfl, (blk_cell BK166.out 1).trans rfl⟩ (fun hHeld => ?_)
      clear hK K
      refine norm_ (a' := ?_) ?_ ?_
      rotate_left
      ·
       show Act.put _ (some 16) _ = _
       simp only [Act.put, P1_1, P1_2, P1_3, i64_w, i32_w]
       rfl
      refine pu_ 10 (some 17) M1_9 HT_ ?_
      exact norm_ y82_ (hCont (gb170) _ ⟨hHeld, bd_ BK165.out, bd_ BK166.out, bd_ BK167.out, bd_ BK170.out, GW170.out, GE170.out, NB165_170.out, NB170_165.out, NB166_170.out, NB170_166.out, NB167_170.out, NB170_167.out, y66_⟩)
    rintro gb170 w38 ⟨hS_, h0_, h1_, h2_, h3_, h4_, h5_, h6_, h7_, h8_, h9_, h10_, h11_, h12_⟩
    have n0_ : Aside0 (w38.heap[gb165]? = some (.cells #[.int .i64 a0_0, .int .i64 a0_1] 39 (0, 0))) := ⟨h0_⟩
    have n1_ : Aside0 (w38.heap[gb166]? = some (.cells #[.int .i64 a1_0, .int .i64 a1_1] 39 (0, 0))) := ⟨h1_⟩
    have n2_ : Aside0 (w38.heap[gb167]? = some (.cells #[.int .i64 0, .int .i64 0] 39 (0, 0))) := ⟨h2_⟩
    have BK170 : Aside0 (w38.heap[gb170]? = some (.cells #[.int .i64 0, .int .i64 0] 39 (0, 0))) := ⟨h3_⟩
    have GW170 : Aside0 (w.heap.size ≤ gb170) := ⟨h4_⟩
    have GE170 : Aside0 (w.heap.size ≤ gb170) := ⟨h5_⟩
    have NB165_170 : Aside0 (gb165 ≠ gb170) := ⟨h6_⟩
    have NB170_165 : Aside0 (gb170 ≠ gb165) := ⟨h7_⟩
    have NB166_170 : Aside0 (gb166 ≠ gb170) := ⟨h8_⟩
    have NB170_166 : Aside0 (gb170 ≠ gb166) := ⟨h9_⟩
    have NB167_170 : Aside0 (gb167 ≠ gb170) := ⟨h10_⟩
    have NB170_167 : Aside0 (gb170 ≠ gb167) := ⟨h11_⟩
    have n12_ : Aside0 (Below w.heap.size w w38) := ⟨h12_⟩
    clear BK165
    clear BK166
    clear BK167
    clear HB
    clear h0_ h1_ h2_ h3_ h4_ h5_ h6_ h7_ h8_ h9_ h10_ h11_ h12_
    have BK165 := n0_
    have BK166 := n1_
    have BK167 := n2_
    have HB := n12_
    clear n0_ n1_ n2_ n12_
    have hHeld : w38.cell? ⟨gb165, 0, none⟩ = some (.int .i64 a0_0) ∧ w38.cell? ⟨gb165, 1, none⟩ = some (.int .i64 a0_1) ∧ w38.cell? ⟨gb166, 0, none⟩ = some (.int .i64 a1_0) ∧ w38.cell? ⟨gb166, 1, none⟩ = some (.int .i64 a1_1) := hS_
    refine norm_ (a' := ?_) ?_ ?_
    rotate_left
    ·
     simp only [putAll, Act.put, List.setIfInBounds_toArray, List.set_cons_zero, List.set_cons_succ]
     rfl
    refine one_ (i := 12) (N := none) M1_16 rfl rfl (one_of HT_.out (by kernel_rfl)) (by decide) (fun K hK => ?_)
    have hs39 : w38.cell? ⟨gb170, 0, none⟩ = some (.int .i64 0) := (blk_cell BK170.out 0).trans rfl
    have hfs39 := blk_frozen BK170.out 0
    have hns39_0 := NB165_170.out
    have hns39_1 := NB166_170.out
    have hns39_2 := NB167_170.out
    have hms39_0 := NB170_165.out
    have hms39_1 := NB170_166.out
    have hms39_2 := NB170_167.out
    have hs40 : w38.cell? ⟨gb170, 1, none⟩ = some (.int .i64 0) := (blk_cell BK170.out 1).trans rfl
    have hfs40 := blk_frozen BK170.out 1
    have hns40_0 := NB165_170.out
    have hns40_1 := NB166_170.out
    have hns40_2 := NB167_170.out
    have hms40_0 := NB170_165.out
    have hms40_1 := NB170_166.out
    have hms40_2 := NB170_167.out
    refine skip_ (w1 := ?_) (by rfl) rfl ?_ ?_
    rotate_left
    ·
     go_simp
     rfl
    refine hK.out _ _ ⟨((cell_far (p := ⟨gb170, _, none⟩) NB165_170.out _).trans (((cell_far (p := ⟨gb170, _, none⟩) NB165_170.out _).trans (hHeld.1)))), ((cell_far (p := ⟨gb170, _, none⟩) NB165_170.out _).trans (((cell_far (p := ⟨gb170, _, none⟩) NB165_170.out _).trans (hHeld.2.1)))), ((cell_far (p := ⟨gb170, _, none⟩) NB166_170.out _).trans (((cell_far (p := ⟨gb170, _, none⟩) NB166_170.out _).trans (hHeld.2.2.1)))), ((cell_far (p := ⟨gb170, _, none⟩) NB166_170.out _).trans (((cell_far (p := ⟨gb170, _, none⟩) NB166_170.out _).trans (hHeld.2.2.2))))⟩ (fun hHeld => ?_)
    clear hK K
    refine done_ (done_of HT_.out (by kernel_rfl)) ?_
    have hnb41 := NB165_166.out
    have hnc41 := NB166_165.out
    have hnb42 := NB165_167.out
    have hnc42 := NB167_165.out
    have hnb43 := NB165_170.out
    have hnc43 := NB170_165.out
    have hcz44_0 : w38.cell? ⟨gb165, 0, none⟩ = some (.int .i64 a0_0) := (blk_cell BK165.out 0).trans rfl
    have hcz44_1 : w38.cell? ⟨gb165, 1, none⟩ = some (.int .i64 a0_1) := (blk_cell BK165.out 1).trans rfl
    have hfz44_0 := blk_frozen BK165.out 0
    have hfz44_1 := blk_frozen BK165.out 1
    try go_wp2_with (first | ((with_reducible refine gate_callee (f := 79) rfl ?_); refine goesL_ (some 19) rfl rfl Try.func79 (by kernel_rfl) rfl #[.agg #[.int .i64 a0_0, .int .i64 a0_1]] rfl ma_ ?_; (with_reducible refine (spec_IsSpan.calls a0_0 a0_1 true _ A5.out).mono ?_); rintro e w45 ⟨rfl, hb⟩; refine ⟨_, rfl, ?_⟩; have n0_ := Aside0.mk (blk_below (g := gb165) (o := .cells #[.int .i64 a0_0, .int .i64 a0_1] 39 (0, 0)) y79_ hb); have n1_ := Aside0.mk (blk_below (g := gb166) (o := .cells #[.int .i64 a1_0, .int .i64 a1_1] 39 (0, 0)) y80_ hb); have n2_ := Aside0.mk (blk_below (g := gb167) (o := .cells #[.int .i64 0, .int .i64 0] 39 (0, 0)) y81_ hb); have n3_ := Aside0.mk (blk_below (g := gb170) (o := .cells #[.int .i64 t168, .int .i64 t169] 39 (0, 0)) y76_ hb); have n4_ := Aside0.mk (below_step y66_ hb); clear BK165; clear BK166; clear BK167; clear BK170; clear HB; have BK165 := n0_; have BK166 := n1_; have BK167 := n2_; have BK170 := n3_; have HB := n4_; clear n0_ n1_ n2_ n3_ n4_; (try clear hb); (try clear hb2); (try clear hk); (try clear hi); have hnb46 := NB166_167.out; have hnc46 := NB167_166.out; have hnb47 := NB166_170.out; have hnc47 := NB170_166.out; have hcz48_0 : w45.cell? ⟨gb166, 0, none⟩ = some (.int .i64 a1_0) := (blk_cell BK166.out 0).trans rfl; have hcz48_1 : w45.cell? ⟨gb166, 1, none⟩ = some (.int .i64 a1_1) := (blk_cell BK166.out 1).trans rfl; have hfz48_0 := blk_frozen BK166.out 0; have hfz48_1 := blk_frozen BK166.out 1) | (go_at_call 79; (with_reducible refine (spec_IsSpan.calls a1_0 a1_1 true _ A7.out).mono ?_); rintro e w49 ⟨rfl, hb⟩; have n0_ := Aside0.mk (blk_below (g := gb165) (o := .cells #[.int .i64 a0_0, .int .i64 a0_1] 39 (0, 0)) (bd_ BK165.out) hb); have n1_ := Aside0.mk (blk_below (g := gb166) (o := .cells #[.int .i64 a1_0, .int .i64 a1_1] 39 (0, 0)) (bd_ BK166.out) hb); have n2_ := Aside0.mk (blk_below (g := gb167) (o := .cells #[.int .i64 0, .int .i64 0] 39 (0, 0)) (bd_ BK167.out) hb); have n3_ := Aside0.mk (blk_below (g := gb170) (o := .cells #[.int .i64 t168, .int .i64 t169] 39 (0, 0)) (bd_ BK170.out) hb); have n4_ := Aside0.mk (below_step y66_ hb); clear BK165; clear BK166; clear BK167; clear BK170; clear HB; have BK165 := n0_; have BK166 := n1_; have BK167 := n2_; have BK170 := n3_; have HB := n4_; clear n0_ n1_ n2_ n3_ n4_; (try clear hb); (try clear hb2); (try clear hk); (try clear hi); have hnb50 := NB170_167.out; have hnc50 := NB167_170.out; have hcz51_0 : w49.cell? ⟨gb170, 0, none⟩ = some (.int .i64 t168) := (blk_cell BK170.out 0).trans rfl; have hcz51_1 : w49.cell? ⟨gb170, 1, none⟩ = some (.int .i64 t169) := (blk_cell BK170.out 1).trans rfl; have hfz51_0 := blk_frozen BK170.out 0; have hfz51_1 := blk_frozen BK170.out 1) | (go_at_call 79; (with_reducible refine (spec_IsSpan.calls t168 t169 false _ A9.out).mono ?_); rintro e w52 ⟨rfl, hb⟩; have n0_ := Aside0.mk (blk_below (g := gb165) (o := .cells #[.int .i64 a0_0, .int .i64 a0_1] 39 (0, 0)) (bd_ BK165.out) hb); have n1_ := Aside0.mk (blk_below (g := gb166) (o := .cells #[.int .i64 a1_0, .int .i64 a1_1] 39 (0, 0)) (bd_ BK166.out) hb); have n2_ := Aside0.mk (blk_below (g := gb167) (o := .cells #[.int .i64 0, .int .i64 0] 39 (0, 0)) (bd_ BK167.out) hb); have n3_ := Aside0.mk (blk_below (g := gb170) (o := .cells #[.int .i64 t168, .int .i64 t169] 39 (0, 0)) (bd_ BK170.out) hb); have n4_ := Aside0.mk (below_step y66_ hb); clear BK165; clear BK166; clear BK167; clear BK170; clear HB; have BK165 := n0_; have BK166 := n1_; have BK167 := n2_; have BK170 := n3_; have HB := n4_; clear n0_ n1_ n2_ n3_ n4_; (try clear hb); (try clear hb2); (try clear hk); (try clear hi); have hcz53_0 : w52.cell? ⟨gb167, 0, none⟩ = some (.int .i64 0) := (blk_cell BK167.out 0).trans rfl; have hcz53_1 : w52.cell? ⟨gb167, 1, none⟩ = some (.int .i64 0) := (blk_cell BK167.out 1).trans rfl; have hfz53_0 := blk_frozen BK167.out 0; have hfz53_1 := blk_frozen BK167.out 1))
    refine bodyPost_ret (results_ct rfl _ _ gb167 39 #[.int .i64 0, .int .i64 0] (0, 0) _ rfl y83_ Try.underlying39 rfl (by kernel_rfl)) rfl ?_
    exact ⟨by first | rfl | (simp [errW_none, errW_some] <;> rfl) | (simp [*, errW_none, errW_some] <;> rfl), y85_⟩
  ·
   replace c8 := Bool.eq_false_iff.mpr c8
   subst c8
   have H1 : (some (0, 0, false)) = some (r1, r2, r3) := by rw [if_neg (show ¬ (false = true) by decide)] at H; exact H
   clear H
   have H := H1
   clear H1
   simp only [Option.some.injEq, Prod.mk.injEq] at H
   obtain ⟨rfl, rfl, rfl⟩ := H
   go_enter Try.func48, Try.ntmps48
   try go_wp2_with (first | ((with_reducible refine gate_dst (N := 2) rfl ?_); refine box_event ?hg (N := 2) ?hd (cs := #[.int .i64 a0_0, .int .i64 a0_1]) (t := 39) ?hr ?_; (case hd => rfl); (case hg => rfl); (case hr => first | (go_simp; done) | (go_simp; rfl)); intro gb165 hg w54 hbox hb; have n0_ := Aside0.mk (below_step (hd_ HB.out) hb); have BK165 := Aside0.mk (hbox); have GW165 := Aside0.mk ((y86_ : w.heap.size ≤ gb165)); have GE165 := Aside0.mk ((y86_ : w.heap.size ≤ gb165)); clear HB; have HB := n0_; clear n0_; clear hb hbox hg) | ((with_reducible refine gate_dst (N := 3) rfl ?_); refine box_event ?hg (N := 3) ?hd (cs := #[.int .i64 a1_0, .int .i64 a1_1]) (t := 39) ?hr ?_; (case hd => rfl); (case hg => rfl); (case hr => first | (go_simp; done) | (go_simp; rfl)); intro gb166 hg w55 hbox hb; have n0_ := Aside0.mk (blk_below (g := gb165) (o := .cells #[.int .i64 a0_0, .int .i64 a0_1] 39 (0, 0)) (bd_ BK165.out) hb); have n1_ := Aside0.mk (below_step y72_ hb); have BK166 := Aside0.mk (hbox); have GW166 := Aside0.mk ((y87_ : w.heap.size ≤ gb166)); have GE166 := Aside0.mk ((y87_ : w.heap.size ≤ gb166)); have NB165_166 := Aside0.mk ((y68_ : gb165 ≠ gb166)); have NB166_165 := Aside0.mk ((y69_ : gb166 ≠ gb165)); clear BK165; clear HB; have BK165 := n0_; have HB := n1_; clear n0_ n1_; clear hb hbox hg) | ((with_reducible refine gate_dst (N := 4) rfl ?_); refine box_event ?hg (N := 4) ?hd (cs := #[.int .i64 0, .int .i64 0]) (t := 39) ?hr ?_; (case hd => rfl); (case hg => rfl); (case hr => first | (go_simp; done) | (go_simp; rfl)); intro gb167 hg w56 hbox hb; have n0_ := Aside0.mk (blk_below (g := gb165) (o := .cells #[.int .i64 a0_0, .int .i64 a0_1] 39 (0, 0)) (bd_ BK165.out) hb); have n1_ := Aside0.mk (blk_below (g := gb166) (o := .cells #[.int .i64 a1_0, .int .i64 a1_1] 39 (0, 0)) (bd_ BK166.out) hb); have n2_ := Aside0.mk (below_step y70_ hb); have BK167 := Aside0.mk (hbox); have GW167 := Aside0.mk ((y88_ : w.heap.size ≤ gb167)); have GE167 := Aside0.mk ((y88_ : w.heap.size ≤ gb167)); have NB165_167 := Aside0.mk ((y68_ : gb165 ≠ gb167)); have NB167_165 := Aside0.mk ((y69_ : gb167 ≠ gb165)); have NB166_167 := Aside0.mk ((y73_ : gb166 ≠ gb167)); have NB167_166 := Aside0.mk ((y74_ : gb167 ≠ gb166)); clear BK165; clear BK166; clear HB; have BK165 := n0_; have BK166 := n1_; have HB := n2_; clear n0_ n1_ n2_; clear hb hbox hg))
   have n0_ := Aside0.mk (blk_drew BK165.out)
   have n1_ := Aside0.mk (blk_drew BK166.out)
   have n2_ := Aside0.mk (blk_drew BK167.out)
   have n3_ := Aside0.mk (below_drew1 HB.out)
   clear BK165
   clear BK166
   clear BK167
   clear HB
   have BK165 := n0_
   have BK166 := n1_
   have BK167 := n2_
   have HB := n3_
   clear n0_ n1_ n2_ n3_
   refine start_ (n := 13) (S := fun w' => w'.cell? ⟨gb165, 0, none⟩ = some (.int .i64 a0_0) ∧ w'.cell? ⟨gb165, 1, none⟩ = some (.int .i64 a0_1) ∧ w'.cell? ⟨gb166, 0, none⟩ = some (.int .i64 a1_0) ∧ w'.cell? ⟨gb166, 1, none⟩ = some (.int .i64 a1_1)) (ds := []) M1_0 (by kernel_rfl) rfl rfl ⟨(blk_cell BK165.out 0).trans rfl, (blk_cell BK165.out 1).trans rfl, (blk_cell BK166.out 0).trans rfl, (blk_cell BK166.out 1).trans rfl⟩ (fun hHeld => ?_); refine with_tabW spec_Meet.tab1 spec_Meet.bits1 (fun HT_ HW_ => ?_)
   generalize w56.drew = w57 at BK165 BK166 BK167 HB hHeld ⊢
   refine pu_ 0 (some 7) M1_1 HT_ ?_
   refine pu_ 2 (some 9) M1_2 HT_ ?_
   refine pu_ 5 (some 12) M1_3 HT_ ?_
   refine pu_ 7 (some 14) M1_4 HT_ ?_
   refine tk_ 1 (some 8) M1_5 HT_ HW_ hHeld ?_
   refine tk_ 3 (some 10) M1_6 HT_ HW_ hHeld ?_
   refine tk_ 6 (some 13) M1_7 HT_ HW_ hHeld ?_
   refine tk_ 8 (some 15) M1_8 HT_ HW_ hHeld ?_
   refine join_ (σ := Nat) 1 M1_9 (fun s_ => [(11, .int .i64 t168), (16, .int .i64 t169), (6, .pointer (some ⟨s_, 0, none⟩)), (17, .agg #[.int .i64 t168, .int .i64 t169])]) (fun s_ w' => (w'.cell? ⟨gb165, 0, none⟩ = some (.int .i64 a0_0) ∧ w'.cell? ⟨gb165, 1, none⟩ = some (.int .i64 a0_1) ∧ w'.cell? ⟨gb166, 0, none⟩ = some (.int .i64 a1_0) ∧ w'.cell? ⟨gb166, 1, none⟩ = some (.int .i64 a1_1)) ∧ (w'.heap[gb165]? = some (.cells #[.int .i64 a0_0, .int .i64 a0_1] 39 (0, 0))) ∧ (w'.heap[gb166]? = some (.cells #[.int .i64 a1_0, .int .i64 a1_1] 39 (0, 0))) ∧ (w'.heap[gb167]? = some (.cells #[.int .i64 0, .int .i64 0] 39 (0, 0))) ∧ (w'.heap[s_]? = some (.cells #[.int .i64 0, .int .i64 0] 39 (0, 0))) ∧ (w.heap.size ≤ s_) ∧ (w.heap.size ≤ s_) ∧ (gb165 ≠ s_) ∧ (s_ ≠ gb165) ∧ (gb166 ≠ s_) ∧ (s_ ≠ gb166) ∧ (gb167 ≠ s_) ∧ (s_ ≠ gb167) ∧ (Below w.heap.size w w')) ?_ ?_
   rotate_left
   ·
    intro hCont
    refine two_ (i := 4) (j := 11) (Ni := some 11) (Nj := some 6) M1_10 M1_11 rfl rfl rfl rfl (two_of HT_.out (by kernel_rfl)) (by decide) (by decide) (fun K hK => ?_) (fun K hK => ?_)
    ·
     skip
     refine goes_ Try.func77 (by kernel_rfl) rfl #[.int .i64 a0_0, .int .i64 a1_0] (by rfl) rfl rfl ma_ ?_
     with_reducible refine (spec_Max.calls a0_0 a1_0 t168 _ A3.out).mono ?_
     rintro e w' ⟨rfl, ⟨nd, rfl⟩⟩
     refine ⟨_, rfl, ?_⟩
     refine hK.out _ _ ⟨(blk_cell BK165.out 0).trans rfl, (blk_cell BK165.out 1).trans rfl, (blk_cell BK166.out 0).trans rfl, (blk_cell BK166.out 1).trans rfl⟩ (fun hHeld => ?_)
     clear hK K
     refine norm_ (a' := ?_) ?_ ?_
     rotate_left
     ·
      show Act.put _ (some 11) _ = _
      simp only [Act.put, P1_1, P1_2, P1_3, i64_w, i32_w]
      rfl
     refine two_ (i := 9) (j := 11) (Ni := some 16) (Nj := some 6) M1_12 M1_13 rfl rfl rfl rfl (two_of HT_.out (by kernel_rfl)) (by decide) (by decide) (fun K hK => ?_) (fun K hK => ?_)
     ·
      skip
      refine goes_ Try.func78 (by kernel_rfl) rfl #[.int .i64 a0_1, .int .i64 a1_1] (by rfl) rfl rfl ma_ ?_
      with_reducible refine (spec_Min.calls a0_1 a1_1 t169 _ A4.out).mono ?_
      rintro e w' ⟨rfl, ⟨nd, rfl⟩⟩
      refine ⟨_, rfl, ?_⟩
      refine hK.out _ _ ⟨(blk_cell BK165.out 0).trans rfl, (blk_cell BK165.out 1).trans rfl, (blk_cell BK166.out 0).trans rfl, (blk_cell BK166.out 1).trans rfl⟩ (fun hHeld => ?_)
      clear hK K
      refine norm_ (a' := ?_) ?_ ?_
      rotate_left
      ·
       show Act.put _ (some 16) _ = _
       simp only [Act.put, P1_1, P1_2, P1_3, i64_w, i32_w]
       rfl
      refine pu_ 10 (some 17) M1_14 HT_ ?_
      refine one_ (i := 11) (N := some 6) M1_9 rfl rfl (one_of HT_.out (by kernel_rfl)) (by decide) (fun K hK => ?_)
      refine box_step ?hg (N := 6) ?hd (cs := #[.int .i64 0, .int .i64 0]) (t := 39) ?hr ?_; (case hd => rfl); (case hg => rfl); (case hr => first | (go_simp; done) | (go_simp; rfl))
      intro gb170 hg w58 hbox hb
      have n0_ := Aside0.mk (blk_below (g := gb165) (o := .cells #[.int .i64 a0_0, .int .i64 a0_1] 39 (0, 0)) (bd_ BK165.out) hb)
      have n1_ := Aside0.mk (blk_below (g := gb166) (o := .cells #[.int .i64 a1_0, .int .i64 a1_1] 39 (0, 0)) (bd_ BK166.out) hb)
      have n2_ := Aside0.mk (blk_below (g := gb167) (o := .cells #[.int .i64 0, .int .i64 0] 39 (0, 0)) (bd_ BK167.out) hb)
      have n3_ := Aside0.mk (below_step y63_ hb)
      have BK170 := Aside0.mk (hbox)
      have GW170 := Aside0.mk ((y84_ : w.heap.size ≤ gb170))
      have GE170 := Aside0.mk ((y84_ : w.heap.size ≤ gb170))
      have NB165_170 := Aside0.mk ((y68_ : gb165 ≠ gb170))
      have NB170_165 := Aside0.mk ((y69_ : gb170 ≠ gb165))
      have NB166_170 := Aside0.mk ((y73_ : gb166 ≠ gb170))
      have NB170_166 := Aside0.mk ((y74_ : gb170 ≠ gb166))
      have NB167_170 := Aside0.mk ((y77_ : gb167 ≠ gb170))
      have NB170_167 := Aside0.mk ((y78_ : gb170 ≠ gb167))
      clear BK165
      clear BK166
      clear BK167
      clear HB
      have BK165 := n0_
      have BK166 := n1_
      have BK167 := n2_
      have HB := n3_
      clear n0_ n1_ n2_ n3_
      clear hb hbox hg
      refine hK.out _ _ ⟨(blk_cell BK165.out 0).trans rfl, (blk_cell BK165.out 1).trans rfl, (blk_cell BK166.out 0).trans rfl, (blk_cell BK166.out 1).trans rfl⟩ (fun hHeld => ?_)
      clear hK K
      refine norm_ (a' := ?_) ?_ ?_
      rotate_left
      ·
       show Act.put _ (some 6) _ = _
       simp only [Act.put, P1_1, P1_2, P1_3, i64_w, i32_w]
       rfl
      exact norm_ y82_ (hCont (gb170) _ ⟨hHeld, bd_ BK165.out, bd_ BK166.out, bd_ BK167.out, bd_ BK170.out, GW170.out, GE170.out, NB165_170.out, NB170_165.out, NB166_170.out, NB170_166.out, NB167_170.out, NB170_167.out, y66_⟩)
     ·
      skip
      refine box_step ?hg (N := 6) ?hd (cs := #[.int .i64 0, .int .i64 0]) (t := 39) ?hr ?_; (case hd => rfl); (case hg => rfl); (case hr => first | (go_simp; done) | (go_simp; rfl))
      intro gb170 hg w58 hbox hb
      have n0_ := Aside0.mk (blk_below (g := gb165) (o := .cells #[.int .i64 a0_0, .int .i64 a0_1] 39 (0, 0)) (bd_ BK165.out) hb)
      have n1_ := Aside0.mk (blk_below (g := gb166) (o := .cells #[.int .i64 a1_0, .int .i64 a1_1] 39 (0, 0)) (bd_ BK166.out) hb)
      have n2_ := Aside0.mk (blk_below (g := gb167) (o := .cells #[.int .i64 0, .int .i64 0] 39 (0, 0)) (bd_ BK167.out) hb)
      have n3_ := Aside0.mk (below_step y63_ hb)
      have BK170 := Aside0.mk (hbox)
      have GW170 := Aside0.mk ((y84_ : w.heap.size ≤ gb170))
      have GE170 := Aside0.mk ((y84_ : w.heap.size ≤ gb170))
      have NB165_170 := Aside0.mk ((y68_ : gb165 ≠ gb170))
      have NB170_165 := Aside0.mk ((y69_ : gb170 ≠ gb165))
      have NB166_170 := Aside0.mk ((y73_ : gb166 ≠ gb170))
      have NB170_166 := Aside0.mk ((y74_ : gb170 ≠ gb166))
      have NB167_170 := Aside0.mk ((y77_ : gb167 ≠ gb170))
      have NB170_167 := Aside0.mk ((y78_ : gb170 ≠ gb167))
      clear BK165
      clear BK166
      clear BK167
      clear HB
      have BK165 := n0_
      have BK166 := n1_
      have BK167 := n2_
      have HB := n3_
      clear n0_ n1_ n2_ n3_
      clear hb hbox hg
      refine hK.out _ _ ⟨(blk_cell BK165.out 0).trans rfl, (blk_cell BK165.out 1).trans rfl, (blk_cell BK166.out 0).trans rfl, (blk_cell BK166.out 1).trans rfl⟩ (fun hHeld => ?_)
      clear hK K
      refine norm_ (a' := ?_) ?_ ?_
      rotate_left
      ·
       show Act.put _ (some 6) _ = _
       simp only [Act.put, P1_1, P1_2, P1_3, i64_w, i32_w]
       rfl
      refine one_ (i := 9) (N := some 16) M1_15 rfl rfl (one_of HT_.out (by kernel_rfl)) (by decide) (fun K hK => ?_)
      refine goes_ Try.func78 (by kernel_rfl) rfl #[.int .i64 a0_1, .int .i64 a1_1] (by rfl) rfl rfl ma_ ?_
      with_reducible refine (spec_Min.calls a0_1 a1_1 t169 _ A4.out).mono ?_
      rintro e w' ⟨rfl, ⟨nd, rfl⟩⟩
      refine ⟨_, rfl, ?_⟩
      refine hK.out _ _ ⟨(blk_cell BK165.out 0).trans rfl, (blk_cell BK165.out 1).trans rfl, (blk_cell BK166.out 0).trans rfl, (blk_cell BK166.out 1).trans rfl⟩ (fun hHeld => ?_)
      clear hK K
      refine norm_ (a' := ?_) ?_ ?_
      rotate_left
      ·
       show Act.put _ (some 16) _ = _
       simp only [Act.put, P1_1, P1_2, P1_3, i64_w, i32_w]
       rfl
      refine pu_ 10 (some 17) M1_9 HT_ ?_
      exact norm_ y82_ (hCont (gb170) _ ⟨hHeld, bd_ BK165.out, bd_ BK166.out, bd_ BK167.out, bd_ BK170.out, GW170.out, GE170.out, NB165_170.out, NB170_165.out, NB166_170.out, NB170_166.out, NB167_170.out, NB170_167.out, y66_⟩)
    ·
     skip
     refine box_step ?hg (N := 6) ?hd (cs := #[.int .i64 0, .int .i64 0]) (t := 39) ?hr ?_; (case hd => rfl); (case hg => rfl); (case hr => first | (go_simp; done) | (go_simp; rfl))
     intro gb170 hg w58 hbox hb
     have n0_ := Aside0.mk (blk_below (g := gb165) (o := .cells #[.int .i64 a0_0, .int .i64 a0_1] 39 (0, 0)) (bd_ BK165.out) hb)
     have n1_ := Aside0.mk (blk_below (g := gb166) (o := .cells #[.int .i64 a1_0, .int .i64 a1_1] 39 (0, 0)) (bd_ BK166.out) hb)
     have n2_ := Aside0.mk (blk_below (g := gb167) (o := .cells #[.int .i64 0, .int .i64 0] 39 (0, 0)) (bd_ BK167.out) hb)
     have n3_ := Aside0.mk (below_step y63_ hb)
     have BK170 := Aside0.mk (hbox)
     have GW170 := Aside0.mk ((y84_ : w.heap.size ≤ gb170))
     have GE170 := Aside0.mk ((y84_ : w.heap.size ≤ gb170))
     have NB165_170 := Aside0.mk ((y68_ : gb165 ≠ gb170))
     have NB170_165 := Aside0.mk ((y69_ : gb170 ≠ gb165))
     have NB166_170 := Aside0.mk ((y73_ : gb166 ≠ gb170))
     have NB170_166 := Aside0.mk ((y74_ : gb170 ≠ gb166))
     have NB167_170 := Aside0.mk ((y77_ : gb167 ≠ gb170))
     have NB170_167 := Aside0.mk ((y78_ : gb170 ≠ gb167))
     clear BK165
     clear BK166
     clear BK167
     clear HB
     have BK165 := n0_
     have BK166 := n1_
     have BK167 := n2_
     have HB := n3_
     clear n0_ n1_ n2_ n3_
     clear hb hbox hg
     refine hK.out _ _ ⟨(blk_cell BK165.out 0).trans rfl, (blk_cell BK165.out 1).trans rfl, (blk_cell BK166.out 0).trans rfl, (blk_cell BK166.out 1).trans rfl⟩ (fun hHeld => ?_)
     clear hK K
     refine norm_ (a' := ?_) ?_ ?_
     rotate_left
     ·
      show Act.put _ (some 6) _ = _
      simp only [Act.put, P1_1, P1_2, P1_3, i64_w, i32_w]
      rfl
     refine one_ (i := 4) (N := some 11) M1_13 rfl rfl (one_of HT_.out (by kernel_rfl)) (by decide) (fun K hK => ?_)
     refine goes_ Try.func77 (by kernel_rfl) rfl #[.int .i64 a0_0, .int .i64 a1_0] (by rfl) rfl rfl ma_ ?_
     with_reducible refine (spec_Max.calls a0_0 a1_0 t168 _ A3.out).mono ?_
     rintro e w' ⟨rfl, ⟨nd, rfl⟩⟩
     refine ⟨_, rfl, ?_⟩
     refine hK.out _ _ ⟨(blk_cell BK165.out 0).trans rfl, (blk_cell BK165.out 1).trans rfl, (blk_cell BK166.out 0).trans rfl, (blk_cell BK166.out 1).trans rfl⟩ (fun hHeld => ?_)
     clear hK K
     refine norm_ (a' := ?_) ?_ ?_
     rotate_left
     ·
      show Act.put _ (some 11) _ = _
      simp only [Act.put, P1_1, P1_2, P1_3, i64_w, i32_w]
      rfl
     refine one_ (i := 9) (N := some 16) M1_15 rfl rfl (one_of HT_.out (by kernel_rfl)) (by decide) (fun K hK => ?_)
     refine goes_ Try.func78 (by kernel_rfl) rfl #[.int .i64 a0_1, .int .i64 a1_1] (by rfl) rfl rfl ma_ ?_
     with_reducible refine (spec_Min.calls a0_1 a1_1 t169 _ A4.out).mono ?_
     rintro e w' ⟨rfl, ⟨nd, rfl⟩⟩
     refine ⟨_, rfl, ?_⟩
     refine hK.out _ _ ⟨(blk_cell BK165.out 0).trans rfl, (blk_cell BK165.out 1).trans rfl, (blk_cell BK166.out 0).trans rfl, (blk_cell BK166.out 1).trans rfl⟩ (fun hHeld => ?_)
     clear hK K
     refine norm_ (a' := ?_) ?_ ?_
     rotate_left
     ·
      show Act.put _ (some 16) _ = _
      simp only [Act.put, P1_1, P1_2, P1_3, i64_w, i32_w]
      rfl
     refine pu_ 10 (some 17) M1_9 HT_ ?_
     exact norm_ y82_ (hCont (gb170) _ ⟨hHeld, bd_ BK165.out, bd_ BK166.out, bd_ BK167.out, bd_ BK170.out, GW170.out, GE170.out, NB165_170.out, NB170_165.out, NB166_170.out, NB170_166.out, NB167_170.out, NB170_167.out, y66_⟩)
   rintro gb170 w59 ⟨hS_, h0_, h1_, h2_, h3_, h4_, h5_, h6_, h7_, h8_, h9_, h10_, h11_, h12_⟩
   have n0_ : Aside0 (w59.heap[gb165]? = some (.cells #[.int .i64 a0_0, .int .i64 a0_1] 39 (0, 0))) := ⟨h0_⟩
   have n1_ : Aside0 (w59.heap[gb166]? = some (.cells #[.int .i64 a1_0, .int .i64 a1_1] 39 (0, 0))) := ⟨h1_⟩
   have n2_ : Aside0 (w59.heap[gb167]? = some (.cells #[.int .i64 0, .int .i64 0] 39 (0, 0))) := ⟨h2_⟩
   have BK170 : Aside0 (w59.heap[gb170]? = some (.cells #[.int .i64 0, .int .i64 0] 39 (0, 0))) := ⟨h3_⟩
   have GW170 : Aside0 (w.heap.size ≤ gb170) := ⟨h4_⟩
   have GE170 : Aside0 (w.heap.size ≤ gb170) := ⟨h5_⟩
   have NB165_170 : Aside0 (gb165 ≠ gb170) := ⟨h6_⟩
   have NB170_165 : Aside0 (gb170 ≠ gb165) := ⟨h7_⟩
   have NB166_170 : Aside0 (gb166 ≠ gb170) := ⟨h8_⟩
   have NB170_166 : Aside0 (gb170 ≠ gb166) := ⟨h9_⟩
   have NB167_170 : Aside0 (gb167 ≠ gb170) := ⟨h10_⟩
   have NB170_167 : Aside0 (gb170 ≠ gb167) := ⟨h11_⟩
   have n12_ : Aside0 (Below w.heap.size w w59) := ⟨h12_⟩
   clear BK165
   clear BK166
   clear BK167
   clear HB
   clear h0_ h1_ h2_ h3_ h4_ h5_ h6_ h7_ h8_ h9_ h10_ h11_ h12_
   have BK165 := n0_
   have BK166 := n1_
   have BK167 := n2_
   have HB := n12_
   clear n0_ n1_ n2_ n12_
   have hHeld : w59.cell? ⟨gb165, 0, none⟩ = some (.int .i64 a0_0) ∧ w59.cell? ⟨gb165, 1, none⟩ = some (.int .i64 a0_1) ∧ w59.cell? ⟨gb166, 0, none⟩ = some (.int .i64 a1_0) ∧ w59.cell? ⟨gb166, 1, none⟩ = some (.int .i64 a1_1) := hS_
   refine norm_ (a' := ?_) ?_ ?_
   rotate_left
   ·
    simp only [putAll, Act.put, List.setIfInBounds_toArray, List.set_cons_zero, List.set_cons_succ]
    rfl
   refine one_ (i := 12) (N := none) M1_16 rfl rfl (one_of HT_.out (by kernel_rfl)) (by decide) (fun K hK => ?_)
   have hs60 : w59.cell? ⟨gb170, 0, none⟩ = some (.int .i64 0) := (blk_cell BK170.out 0).trans rfl
   have hfs60 := blk_frozen BK170.out 0
   have hns60_0 := NB165_170.out
   have hns60_1 := NB166_170.out
   have hns60_2 := NB167_170.out
   have hms60_0 := NB170_165.out
   have hms60_1 := NB170_166.out
   have hms60_2 := NB170_167.out
   have hs61 : w59.cell? ⟨gb170, 1, none⟩ = some (.int .i64 0) := (blk_cell BK170.out 1).trans rfl
   have hfs61 := blk_frozen BK170.out 1
   have hns61_0 := NB165_170.out
   have hns61_1 := NB166_170.out
   have hns61_2 := NB167_170.out
   have hms61_0 := NB170_165.out
   have hms61_1 := NB170_166.out
   have hms61_2 := NB170_167.out
   refine skip_ (w1 := ?_) (by rfl) rfl ?_ ?_
   rotate_left
   ·
    go_simp
    rfl
   refine hK.out _ _ ⟨((cell_far (p := ⟨gb170, _, none⟩) NB165_170.out _).trans (((cell_far (p := ⟨gb170, _, none⟩) NB165_170.out _).trans (hHeld.1)))), ((cell_far (p := ⟨gb170, _, none⟩) NB165_170.out _).trans (((cell_far (p := ⟨gb170, _, none⟩) NB165_170.out _).trans (hHeld.2.1)))), ((cell_far (p := ⟨gb170, _, none⟩) NB166_170.out _).trans (((cell_far (p := ⟨gb170, _, none⟩) NB166_170.out _).trans (hHeld.2.2.1)))), ((cell_far (p := ⟨gb170, _, none⟩) NB166_170.out _).trans (((cell_far (p := ⟨gb170, _, none⟩) NB166_170.out _).trans (hHeld.2.2.2))))⟩ (fun hHeld => ?_)
   clear hK K
   refine done_ (done_of HT_.out (by kernel_rfl)) ?_
   have hnb62 := NB165_166.out
   have hnc62 := NB166_165.out
   have hnb63 := NB165_167.out
   have hnc63 := NB167_165.out
   have hnb64 := NB165_170.out
   have hnc64 := NB170_165.out
   have hcz65_0 : w59.cell? ⟨gb165, 0, none⟩ = some (.int .i64 a0_0) := (blk_cell BK165.out 0).trans rfl
   have hcz65_1 : w59.cell? ⟨gb165, 1, none⟩ = some (.int .i64 a0_1) := (blk_cell BK165.out 1).trans rfl
   have hfz65_0 := blk_frozen BK165.out 0
   have hfz65_1 := blk_frozen BK165.out 1
   try go_wp2_with (first | ((with_reducible refine gate_callee (f := 79) rfl ?_); refine goesL_ (some 19) rfl rfl Try.func79 (by kernel_rfl) rfl #[.agg #[.int .i64 a0_0, .int .i64 a0_1]] rfl ma_ ?_; (with_reducible refine (spec_IsSpan.calls a0_0 a0_1 true _ A5.out).mono ?_); rintro e w66 ⟨rfl, hb⟩; refine ⟨_, rfl, ?_⟩; have n0_ := Aside0.mk (blk_below (g := gb165) (o := .cells #[.int .i64 a0_0, .int .i64 a0_1] 39 (0, 0)) y79_ hb); have n1_ := Aside0.mk (blk_below (g := gb166) (o := .cells #[.int .i64 a1_0, .int .i64 a1_1] 39 (0, 0)) y80_ hb); have n2_ := Aside0.mk (blk_below (g := gb167) (o := .cells #[.int .i64 0, .int .i64 0] 39 (0, 0)) y81_ hb); have n3_ := Aside0.mk (blk_below (g := gb170) (o := .cells #[.int .i64 t168, .int .i64 t169] 39 (0, 0)) y76_ hb); have n4_ := Aside0.mk (below_step y66_ hb); clear BK165; clear BK166; clear BK167; clear BK170; clear HB; have BK165 := n0_; have BK166 := n1_; have BK167 := n2_; have BK170 := n3_; have HB := n4_; clear n0_ n1_ n2_ n3_ n4_; (try clear hb); (try clear hb2); (try clear hk); (try clear hi); have hnb67 := NB166_167.out; have hnc67 := NB167_166.out; have hnb68 := NB166_170.out; have hnc68 := NB170_166.out; have hcz69_0 : w66.cell? ⟨gb166, 0, none⟩ = some (.int .i64 a1_0) := (blk_cell BK166.out 0).trans rfl; have hcz69_1 : w66.cell? ⟨gb166, 1, none⟩ = some (.int .i64 a1_1) := (blk_cell BK166.out 1).trans rfl; have hfz69_0 := blk_frozen BK166.out 0; have hfz69_1 := blk_frozen BK166.out 1) | (go_at_call 79; (with_reducible refine (spec_IsSpan.calls a1_0 a1_1 false _ A7.out).mono ?_); rintro e w70 ⟨rfl, hb⟩; have n0_ := Aside0.mk (blk_below (g := gb165) (o := .cells #[.int .i64 a0_0, .int .i64 a0_1] 39 (0, 0)) (bd_ BK165.out) hb); have n1_ := Aside0.mk (blk_below (g := gb166) (o := .cells #[.int .i64 a1_0, .int .i64 a1_1] 39 (0, 0)) (bd_ BK166.out) hb); have n2_ := Aside0.mk (blk_below (g := gb167) (o := .cells #[.int .i64 0, .int .i64 0] 39 (0, 0)) (bd_ BK167.out) hb); have n3_ := Aside0.mk (blk_below (g := gb170) (o := .cells #[.int .i64 t168, .int .i64 t169] 39 (0, 0)) (bd_ BK170.out) hb); have n4_ := Aside0.mk (below_step y66_ hb); clear BK165; clear BK166; clear BK167; clear BK170; clear HB; have BK165 := n0_; have BK166 := n1_; have BK167 := n2_; have BK170 := n3_; have HB := n4_; clear n0_ n1_ n2_ n3_ n4_; (try clear hb); (try clear hb2); (try clear hk); (try clear hi); have hnb71 := NB167_170.out; have hnc71 := NB170_167.out; have hcz72_0 : w70.cell? ⟨gb167, 0, none⟩ = some (.int .i64 0) := (blk_cell BK167.out 0).trans rfl; have hcz72_1 : w70.cell? ⟨gb167, 1, none⟩ = some (.int .i64 0) := (blk_cell BK167.out 1).trans rfl; have hfz72_0 := blk_frozen BK167.out 0; have hfz72_1 := blk_frozen BK167.out 1))
   refine bodyPost_ret (results_ct rfl _ _ gb167 39 #[.int .i64 0, .int .i64 0] (0, 0) _ rfl y83_ Try.underlying39 rfl (by kernel_rfl)) rfl ?_
   exact ⟨by first | rfl | (simp [errW_none, errW_some] <;> rfl) | (simp [*, errW_none, errW_some] <;> rfl), y85_⟩
 ·
  replace c6 := Bool.eq_false_iff.mpr c6
  subst c6
  have H1 : (some (0, 0, false)) = some (r1, r2, r3) := by rw [if_neg (show ¬ (false = true) by decide)] at H; exact H
  clear H
  have H := H1
  clear H1
  simp only [Option.some.injEq, Prod.mk.injEq] at H
  obtain ⟨rfl, rfl, rfl⟩ := H
  go_enter Try.func48, Try.ntmps48
  try go_wp2_with (first | ((with_reducible refine gate_dst (N := 2) rfl ?_); refine box_event ?hg (N := 2) ?hd (cs := #[.int .i64 a0_0, .int .i64 a0_1]) (t := 39) ?hr ?_; (case hd => rfl); (case hg => rfl); (case hr => first | (go_simp; done) | (go_simp; rfl)); intro gb165 hg w73 hbox hb; have n0_ := Aside0.mk (below_step (hd_ HB.out) hb); have BK165 := Aside0.mk (hbox); have GW165 := Aside0.mk ((y86_ : w.heap.size ≤ gb165)); have GE165 := Aside0.mk ((y86_ : w.heap.size ≤ gb165)); clear HB; have HB := n0_; clear n0_; clear hb hbox hg) | ((with_reducible refine gate_dst (N := 3) rfl ?_); refine box_event ?hg (N := 3) ?hd (cs := #[.int .i64 a1_0, .int .i64 a1_1]) (t := 39) ?hr ?_; (case hd => rfl); (case hg => rfl); (case hr => first | (go_simp; done) | (go_simp; rfl)); intro gb166 hg w74 hbox hb; have n0_ := Aside0.mk (blk_below (g := gb165) (o := .cells #[.int .i64 a0_0, .int .i64 a0_1] 39 (0, 0)) (bd_ BK165.out) hb); have n1_ := Aside0.mk (below_step y72_ hb); have BK166 := Aside0.mk (hbox); have GW166 := Aside0.mk ((y87_ : w.heap.size ≤ gb166)); have GE166 := Aside0.mk ((y87_ : w.heap.size ≤ gb166)); have NB165_166 := Aside0.mk ((y68_ : gb165 ≠ gb166)); have NB166_165 := Aside0.mk ((y69_ : gb166 ≠ gb165)); clear BK165; clear HB; have BK165 := n0_; have HB := n1_; clear n0_ n1_; clear hb hbox hg) | ((with_reducible refine gate_dst (N := 4) rfl ?_); refine box_event ?hg (N := 4) ?hd (cs := #[.int .i64 0, .int .i64 0]) (t := 39) ?hr ?_; (case hd => rfl); (case hg => rfl); (case hr => first | (go_simp; done) | (go_simp; rfl)); intro gb167 hg w75 hbox hb; have n0_ := Aside0.mk (blk_below (g := gb165) (o := .cells #[.int .i64 a0_0, .int .i64 a0_1] 39 (0, 0)) (bd_ BK165.out) hb); have n1_ := Aside0.mk (blk_below (g := gb166) (o := .cells #[.int .i64 a1_0, .int .i64 a1_1] 39 (0, 0)) (bd_ BK166.out) hb); have n2_ := Aside0.mk (below_step y70_ hb); have BK167 := Aside0.mk (hbox); have GW167 := Aside0.mk ((y88_ : w.heap.size ≤ gb167)); have GE167 := Aside0.mk ((y88_ : w.heap.size ≤ gb167)); have NB165_167 := Aside0.mk ((y68_ : gb165 ≠ gb167)); have NB167_165 := Aside0.mk ((y69_ : gb167 ≠ gb165)); have NB166_167 := Aside0.mk ((y73_ : gb166 ≠ gb167)); have NB167_166 := Aside0.mk ((y74_ : gb167 ≠ gb166)); clear BK165; clear BK166; clear HB; have BK165 := n0_; have BK166 := n1_; have HB := n2_; clear n0_ n1_ n2_; clear hb hbox hg))
  have n0_ := Aside0.mk (blk_drew BK165.out)
  have n1_ := Aside0.mk (blk_drew BK166.out)
  have n2_ := Aside0.mk (blk_drew BK167.out)
  have n3_ := Aside0.mk (below_drew1 HB.out)
  clear BK165
  clear BK166
  clear BK167
  clear HB
  have BK165 := n0_
  have BK166 := n1_
  have BK167 := n2_
  have HB := n3_
  clear n0_ n1_ n2_ n3_
  refine start_ (n := 13) (S := fun w' => w'.cell? ⟨gb165, 0, none⟩ = some (.int .i64 a0_0) ∧ w'.cell? ⟨gb165, 1, none⟩ = some (.int .i64 a0_1) ∧ w'.cell? ⟨gb166, 0, none⟩ = some (.int .i64 a1_0) ∧ w'.cell? ⟨gb166, 1, none⟩ = some (.int .i64 a1_1)) (ds := []) M1_0 (by kernel_rfl) rfl rfl ⟨(blk_cell BK165.out 0).trans rfl, (blk_cell BK165.out 1).trans rfl, (blk_cell BK166.out 0).trans rfl, (blk_cell BK166.out 1).trans rfl⟩ (fun hHeld => ?_); refine with_tabW spec_Meet.tab1 spec_Meet.bits1 (fun HT_ HW_ => ?_)
  generalize w75.drew = w76 at BK165 BK166 BK167 HB hHeld ⊢
  refine pu_ 0 (some 7) M1_1 HT_ ?_
  refine pu_ 2 (some 9) M1_2 HT_ ?_
  refine pu_ 5 (some 12) M1_3 HT_ ?_
  refine pu_ 7 (some 14) M1_4 HT_ ?_
  refine tk_ 1 (some 8) M1_5 HT_ HW_ hHeld ?_
  refine tk_ 3 (some 10) M1_6 HT_ HW_ hHeld ?_
  refine tk_ 6 (some 13) M1_7 HT_ HW_ hHeld ?_
  refine tk_ 8 (some 15) M1_8 HT_ HW_ hHeld ?_
  refine join_ (σ := Nat) 1 M1_9 (fun s_ => [(11, .int .i64 t168), (16, .int .i64 t169), (6, .pointer (some ⟨s_, 0, none⟩)), (17, .agg #[.int .i64 t168, .int .i64 t169])]) (fun s_ w' => (w'.cell? ⟨gb165, 0, none⟩ = some (.int .i64 a0_0) ∧ w'.cell? ⟨gb165, 1, none⟩ = some (.int .i64 a0_1) ∧ w'.cell? ⟨gb166, 0, none⟩ = some (.int .i64 a1_0) ∧ w'.cell? ⟨gb166, 1, none⟩ = some (.int .i64 a1_1)) ∧ (w'.heap[gb165]? = some (.cells #[.int .i64 a0_0, .int .i64 a0_1] 39 (0, 0))) ∧ (w'.heap[gb166]? = some (.cells #[.int .i64 a1_0, .int .i64 a1_1] 39 (0, 0))) ∧ (w'.heap[gb167]? = some (.cells #[.int .i64 0, .int .i64 0] 39 (0, 0))) ∧ (w'.heap[s_]? = some (.cells #[.int .i64 0, .int .i64 0] 39 (0, 0))) ∧ (w.heap.size ≤ s_) ∧ (w.heap.size ≤ s_) ∧ (gb165 ≠ s_) ∧ (s_ ≠ gb165) ∧ (gb166 ≠ s_) ∧ (s_ ≠ gb166) ∧ (gb167 ≠ s_) ∧ (s_ ≠ gb167) ∧ (Below w.heap.size w w')) ?_ ?_
  rotate_left
  ·
   intro hCont
   refine two_ (i := 4) (j := 11) (Ni := some 11) (Nj := some 6) M1_10 M1_11 rfl rfl rfl rfl (two_of HT_.out (by kernel_rfl)) (by decide) (by decide) (fun K hK => ?_) (fun K hK => ?_)
   ·
    skip
    refine goes_ Try.func77 (by kernel_rfl) rfl #[.int .i64 a0_0, .int .i64 a1_0] (by rfl) rfl rfl ma_ ?_
    with_reducible refine (spec_Max.calls a0_0 a1_0 t168 _ A3.out).mono ?_
    rintro e w' ⟨rfl, ⟨nd, rfl⟩⟩
    refine ⟨_, rfl, ?_⟩
    refine hK.out _ _ ⟨(blk_cell BK165.out 0).trans rfl, (blk_cell BK165.out 1).trans rfl, (blk_cell BK166.out 0).trans rfl, (blk_cell BK166.out 1).trans rfl⟩ (fun hHeld => ?_)
    clear hK K
    refine norm_ (a' := ?_) ?_ ?_
    rotate_left
    ·
     show Act.put _ (some 11) _ = _
     simp only [Act.put, P1_1, P1_2, P1_3, i64_w, i32_w]
     rfl
    refine two_ (i := 9) (j := 11) (Ni := some 16) (Nj := some 6) M1_12 M1_13 rfl rfl rfl rfl (two_of HT_.out (by kernel_rfl)) (by decide) (by decide) (fun K hK => ?_) (fun K hK => ?_)
    ·
     skip
     refine goes_ Try.func78 (by kernel_rfl) rfl #[.int .i64 a0_1, .int .i64 a1_1] (by rfl) rfl rfl ma_ ?_
     with_reducible refine (spec_Min.calls a0_1 a1_1 t169 _ A4.out).mono ?_
     rintro e w' ⟨rfl, ⟨nd, rfl⟩⟩
     refine ⟨_, rfl, ?_⟩
     refine hK.out _ _ ⟨(blk_cell BK165.out 0).trans rfl, (blk_cell BK165.out 1).trans rfl, (blk_cell BK166.out 0).trans rfl, (blk_cell BK166.out 1).trans rfl⟩ (fun hHeld => ?_)
     clear hK K
     refine norm_ (a' := ?_) ?_ ?_
     rotate_left
     ·
      show Act.put _ (some 16) _ = _
      simp only [Act.put, P1_1, P1_2, P1_3, i64_w, i32_w]
      rfl
     refine pu_ 10 (some 17) M1_14 HT_ ?_
     refine one_ (i := 11) (N := some 6) M1_9 rfl rfl (one_of HT_.out (by kernel_rfl)) (by decide) (fun K hK => ?_)
     refine box_step ?hg (N := 6) ?hd (cs := #[.int .i64 0, .int .i64 0]) (t := 39) ?hr ?_; (case hd => rfl); (case hg => rfl); (case hr => first | (go_simp; done) | (go_simp; rfl))
     intro gb170 hg w77 hbox hb
     have n0_ := Aside0.mk (blk_below (g := gb165) (o := .cells #[.int .i64 a0_0, .int .i64 a0_1] 39 (0, 0)) (bd_ BK165.out) hb)
     have n1_ := Aside0.mk (blk_below (g := gb166) (o := .cells #[.int .i64 a1_0, .int .i64 a1_1] 39 (0, 0)) (bd_ BK166.out) hb)
     have n2_ := Aside0.mk (blk_below (g := gb167) (o := .cells #[.int .i64 0, .int .i64 0] 39 (0, 0)) (bd_ BK167.out) hb)
     have n3_ := Aside0.mk (below_step y63_ hb)
     have BK170 := Aside0.mk (hbox)
     have GW170 := Aside0.mk ((y84_ : w.heap.size ≤ gb170))
     have GE170 := Aside0.mk ((y84_ : w.heap.size ≤ gb170))
     have NB165_170 := Aside0.mk ((y68_ : gb165 ≠ gb170))
     have NB170_165 := Aside0.mk ((y69_ : gb170 ≠ gb165))
     have NB166_170 := Aside0.mk ((y73_ : gb166 ≠ gb170))
     have NB170_166 := Aside0.mk ((y74_ : gb170 ≠ gb166))
     have NB167_170 := Aside0.mk ((y77_ : gb167 ≠ gb170))
     have NB170_167 := Aside0.mk ((y78_ : gb170 ≠ gb167))
     clear BK165
     clear BK166
     clear BK167
     clear HB
     have BK165 := n0_
     have BK166 := n1_
     have BK167 := n2_
     have HB := n3_
     clear n0_ n1_ n2_ n3_
     clear hb hbox hg
     refine hK.out _ _ ⟨(blk_cell BK165.out 0).trans rfl, (blk_cell BK165.out 1).trans rfl, (blk_cell BK166.out 0).trans rfl, (blk_cell BK166.out 1).trans rfl⟩ (fun hHeld => ?_)
     clear hK K
     refine norm_ (a' := ?_) ?_ ?_
     rotate_left
     ·
      show Act.put _ (some 6) _ = _
      simp only [Act.put, P1_1, P1_2, P1_3, i64_w, i32_w]
      rfl
     exact norm_ y82_ (hCont (gb170) _ ⟨hHeld, bd_ BK165.out, bd_ BK166.out, bd_ BK167.out, bd_ BK170.out, GW170.out, GE170.out, NB165_170.out, NB170_165.out, NB166_170.out, NB170_166.out, NB167_170.out, NB170_167.out, y66_⟩)
    ·
     skip
     refine box_step ?hg (N := 6) ?hd (cs := #[.int .i64 0, .int .i64 0]) (t := 39) ?hr ?_; (case hd => rfl); (case hg => rfl); (case hr => first | (go_simp; done) | (go_simp; rfl))
     intro gb170 hg w77 hbox hb
     have n0_ := Aside0.mk (blk_below (g := gb165) (o := .cells #[.int .i64 a0_0, .int .i64 a0_1] 39 (0, 0)) (bd_ BK165.out) hb)
     have n1_ := Aside0.mk (blk_below (g := gb166) (o := .cells #[.int .i64 a1_0, .int .i64 a1_1] 39 (0, 0)) (bd_ BK166.out) hb)
     have n2_ := Aside0.mk (blk_below (g := gb167) (o := .cells #[.int .i64 0, .int .i64 0] 39 (0, 0)) (bd_ BK167.out) hb)
     have n3_ := Aside0.mk (below_step y63_ hb)
     have BK170 := Aside0.mk (hbox)
     have GW170 := Aside0.mk ((y84_ : w.heap.size ≤ gb170))
     have GE170 := Aside0.mk ((y84_ : w.heap.size ≤ gb170))
     have NB165_170 := Aside0.mk ((y68_ : gb165 ≠ gb170))
     have NB170_165 := Aside0.mk ((y69_ : gb170 ≠ gb165))
     have NB166_170 := Aside0.mk ((y73_ : gb166 ≠ gb170))
     have NB170_166 := Aside0.mk ((y74_ : gb170 ≠ gb166))
     have NB167_170 := Aside0.mk ((y77_ : gb167 ≠ gb170))
     have NB170_167 := Aside0.mk ((y78_ : gb170 ≠ gb167))
     clear BK165
     clear BK166
     clear BK167
     clear HB
     have BK165 := n0_
     have BK166 := n1_
     have BK167 := n2_
     have HB := n3_
     clear n0_ n1_ n2_ n3_
     clear hb hbox hg
     refine hK.out _ _ ⟨(blk_cell BK165.out 0).trans rfl, (blk_cell BK165.out 1).trans rfl, (blk_cell BK166.out 0).trans rfl, (blk_cell BK166.out 1).trans rfl⟩ (fun hHeld => ?_)
     clear hK K
     refine norm_ (a' := ?_) ?_ ?_
     rotate_left
     ·
      show Act.put _ (some 6) _ = _
      simp only [Act.put, P1_1, P1_2, P1_3, i64_w, i32_w]
      rfl
     refine one_ (i := 9) (N := some 16) M1_15 rfl rfl (one_of HT_.out (by kernel_rfl)) (by decide) (fun K hK => ?_)
     refine goes_ Try.func78 (by kernel_rfl) rfl #[.int .i64 a0_1, .int .i64 a1_1] (by rfl) rfl rfl ma_ ?_
     with_reducible refine (spec_Min.calls a0_1 a1_1 t169 _ A4.out).mono ?_
     rintro e w' ⟨rfl, ⟨nd, rfl⟩⟩
     refine ⟨_, rfl, ?_⟩
     refine hK.out _ _ ⟨(blk_cell BK165.out 0).trans rfl, (blk_cell BK165.out 1).trans rfl, (blk_cell BK166.out 0).trans rfl, (blk_cell BK166.out 1).trans rfl⟩ (fun hHeld => ?_)
     clear hK K
     refine norm_ (a' := ?_) ?_ ?_
     rotate_left
     ·
      show Act.put _ (some 16) _ = _
      simp only [Act.put, P1_1, P1_2, P1_3, i64_w, i32_w]
      rfl
     refine pu_ 10 (some 17) M1_9 HT_ ?_
     exact norm_ y82_ (hCont (gb170) _ ⟨hHeld, bd_ BK165.out, bd_ BK166.out, bd_ BK167.out, bd_ BK170.out, GW170.out, GE170.out, NB165_170.out, NB170_165.out, NB166_170.out, NB170_166.out, NB167_170.out, NB170_167.out, y66_⟩)
   ·
    skip
    refine box_step ?hg (N := 6) ?hd (cs := #[.int .i64 0, .int .i64 0]) (t := 39) ?hr ?_; (case hd => rfl); (case hg => rfl); (case hr => first | (go_simp; done) | (go_simp; rfl))
    intro gb170 hg w77 hbox hb
    have n0_ := Aside0.mk (blk_below (g := gb165) (o := .cells #[.int .i64 a0_0, .int .i64 a0_1] 39 (0, 0)) (bd_ BK165.out) hb)
    have n1_ := Aside0.mk (blk_below (g := gb166) (o := .cells #[.int .i64 a1_0, .int .i64 a1_1] 39 (0, 0)) (bd_ BK166.out) hb)
    have n2_ := Aside0.mk (blk_below (g := gb167) (o := .cells #[.int .i64 0, .int .i64 0] 39 (0, 0)) (bd_ BK167.out) hb)
    have n3_ := Aside0.mk (below_step y63_ hb)
    have BK170 := Aside0.mk (hbox)
    have GW170 := Aside0.mk ((y84_ : w.heap.size ≤ gb170))
    have GE170 := Aside0.mk ((y84_ : w.heap.size ≤ gb170))
    have NB165_170 := Aside0.mk ((y68_ : gb165 ≠ gb170))
    have NB170_165 := Aside0.mk ((y69_ : gb170 ≠ gb165))
    have NB166_170 := Aside0.mk ((y73_ : gb166 ≠ gb170))
    have NB170_166 := Aside0.mk ((y74_ : gb170 ≠ gb166))
    have NB167_170 := Aside0.mk ((y77_ : gb167 ≠ gb170))
    have NB170_167 := Aside0.mk ((y78_ : gb170 ≠ gb167))
    clear BK165
    clear BK166
    clear BK167
    clear HB
    have BK165 := n0_
    have BK166 := n1_
    have BK167 := n2_
    have HB := n3_
    clear n0_ n1_ n2_ n3_
    clear hb hbox hg
    refine hK.out _ _ ⟨(blk_cell BK165.out 0).trans rfl, (blk_cell BK165.out 1).trans rfl, (blk_cell BK166.out 0).trans rfl, (blk_cell BK166.out 1).trans rfl⟩ (fun hHeld => ?_)
    clear hK K
    refine norm_ (a' := ?_) ?_ ?_
    rotate_left
    ·
     show Act.put _ (some 6) _ = _
     simp only [Act.put, P1_1, P1_2, P1_3, i64_w, i32_w]
     rfl
    refine one_ (i := 4) (N := some 11) M1_13 rfl rfl (one_of HT_.out (by kernel_rfl)) (by decide) (fun K hK => ?_)
    refine goes_ Try.func77 (by kernel_rfl) rfl #[.int .i64 a0_0, .int .i64 a1_0] (by rfl) rfl rfl ma_ ?_
    with_reducible refine (spec_Max.calls a0_0 a1_0 t168 _ A3.out).mono ?_
    rintro e w' ⟨rfl, ⟨nd, rfl⟩⟩
    refine ⟨_, rfl, ?_⟩
    refine hK.out _ _ ⟨(blk_cell BK165.out 0).trans rfl, (blk_cell BK165.out 1).trans rfl, (blk_cell BK166.out 0).trans rfl, (blk_cell BK166.out 1).trans rfl⟩ (fun hHeld => ?_)
    clear hK K
    refine norm_ (a' := ?_) ?_ ?_
    rotate_left
    ·
     show Act.put _ (some 11) _ = _
     simp only [Act.put, P1_1, P1_2, P1_3, i64_w, i32_w]
     rfl
    refine one_ (i := 9) (N := some 16) M1_15 rfl rfl (one_of HT_.out (by kernel_rfl)) (by decide) (fun K hK => ?_)
    refine goes_ Try.func78 (by kernel_rfl) rfl #[.int .i64 a0_1, .int .i64 a1_1] (by rfl) rfl rfl ma_ ?_
    with_reducible refine (spec_Min.calls a0_1 a1_1 t169 _ A4.out).mono ?_
    rintro e w' ⟨rfl, ⟨nd, rfl⟩⟩
    refine ⟨_, rfl, ?_⟩
    refine hK.out _ _ ⟨(blk_cell BK165.out 0).trans rfl, (blk_cell BK165.out 1).trans rfl, (blk_cell BK166.out 0).trans rfl, (blk_cell BK166.out 1).trans rfl⟩ (fun hHeld => ?_)
    clear hK K
    refine norm_ (a' := ?_) ?_ ?_
    rotate_left
    ·
     show Act.put _ (some 16) _ = _
     simp only [Act.put, P1_1, P1_2, P1_3, i64_w, i32_w]
     rfl
    refine pu_ 10 (some 17) M1_9 HT_ ?_
    exact norm_ y82_ (hCont (gb170) _ ⟨hHeld, bd_ BK165.out, bd_ BK166.out, bd_ BK167.out, bd_ BK170.out, GW170.out, GE170.out, NB165_170.out, NB170_165.out, NB166_170.out, NB170_166.out, NB167_170.out, NB170_167.out, y66_⟩)
  rintro gb170 w78 ⟨hS_, h0_, h1_, h2_, h3_, h4_, h5_, h6_, h7_, h8_, h9_, h10_, h11_, h12_⟩
  have n0_ : Aside0 (w78.heap[gb165]? = some (.cells #[.int .i64 a0_0, .int .i64 a0_1] 39 (0, 0))) := ⟨h0_⟩
  have n1_ : Aside0 (w78.heap[gb166]? = some (.cells #[.int .i64 a1_0, .int .i64 a1_1] 39 (0, 0))) := ⟨h1_⟩
  have n2_ : Aside0 (w78.heap[gb167]? = some (.cells #[.int .i64 0, .int .i64 0] 39 (0, 0))) := ⟨h2_⟩
  have BK170 : Aside0 (w78.heap[gb170]? = some (.cells #[.int .i64 0, .int .i64 0] 39 (0, 0))) := ⟨h3_⟩
  have GW170 : Aside0 (w.heap.size ≤ gb170) := ⟨h4_⟩
  have GE170 : Aside0 (w.heap.size ≤ gb170) := ⟨h5_⟩
  have NB165_170 : Aside0 (gb165 ≠ gb170) := ⟨h6_⟩
  have NB170_165 : Aside0 (gb170 ≠ gb165) := ⟨h7_⟩
  have NB166_170 : Aside0 (gb166 ≠ gb170) := ⟨h8_⟩
  have NB170_166 : Aside0 (gb170 ≠ gb166) := ⟨h9_⟩
  have NB167_170 : Aside0 (gb167 ≠ gb170) := ⟨h10_⟩
  have NB170_167 : Aside0 (gb170 ≠ gb167) := ⟨h11_⟩
  have n12_ : Aside0 (Below w.heap.size w w78) := ⟨h12_⟩
  clear BK165
  clear BK166
  clear BK167
  clear HB
  clear h0_ h1_ h2_ h3_ h4_ h5_ h6_ h7_ h8_ h9_ h10_ h11_ h12_
  have BK165 := n0_
  have BK166 := n1_
  have BK167 := n2_
  have HB := n12_
  clear n0_ n1_ n2_ n12_
  have hHeld : w78.cell? ⟨gb165, 0, none⟩ = some (.int .i64 a0_0) ∧ w78.cell? ⟨gb165, 1, none⟩ = some (.int .i64 a0_1) ∧ w78.cell? ⟨gb166, 0, none⟩ = some (.int .i64 a1_0) ∧ w78.cell? ⟨gb166, 1, none⟩ = some (.int .i64 a1_1) := hS_
  refine norm_ (a' := ?_) ?_ ?_
  rotate_left
  ·
   simp only [putAll, Act.put, List.setIfInBounds_toArray, List.set_cons_zero, List.set_cons_succ]
   rfl
  refine one_ (i := 12) (N := none) M1_16 rfl rfl (one_of HT_.out (by kernel_rfl)) (by decide) (fun K hK => ?_)
  have hs79 : w78.cell? ⟨gb170, 0, none⟩ = some (.int .i64 0) := (blk_cell BK170.out 0).trans rfl
  have hfs79 := blk_frozen BK170.out 0
  have hns79_0 := NB165_170.out
  have hns79_1 := NB166_170.out
  have hns79_2 := NB167_170.out
  have hms79_0 := NB170_165.out
  have hms79_1 := NB170_166.out
  have hms79_2 := NB170_167.out
  have hs80 : w78.cell? ⟨gb170, 1, none⟩ = some (.int .i64 0) := (blk_cell BK170.out 1).trans rfl
  have hfs80 := blk_frozen BK170.out 1
  have hns80_0 := NB165_170.out
  have hns80_1 := NB166_170.out
  have hns80_2 := NB167_170.out
  have hms80_0 := NB170_165.out
  have hms80_1 := NB170_166.out
  have hms80_2 := NB170_167.out
  refine skip_ (w1 := ?_) (by rfl) rfl ?_ ?_
  rotate_left
  ·
   go_simp
   rfl
  refine hK.out _ _ ⟨((cell_far (p := ⟨gb170, _, none⟩) NB165_170.out _).trans (((cell_far (p := ⟨gb170, _, none⟩) NB165_170.out _).trans (hHeld.1)))), ((cell_far (p := ⟨gb170, _, none⟩) NB165_170.out _).trans (((cell_far (p := ⟨gb170, _, none⟩) NB165_170.out _).trans (hHeld.2.1)))), ((cell_far (p := ⟨gb170, _, none⟩) NB166_170.out _).trans (((cell_far (p := ⟨gb170, _, none⟩) NB166_170.out _).trans (hHeld.2.2.1)))), ((cell_far (p := ⟨gb170, _, none⟩) NB166_170.out _).trans (((cell_far (p := ⟨gb170, _, none⟩) NB166_170.out _).trans (hHeld.2.2.2))))⟩ (fun hHeld => ?_)
  clear hK K
  refine done_ (done_of HT_.out (by kernel_rfl)) ?_
  have hnb81 := NB165_166.out
  have hnc81 := NB166_165.out
  have hnb82 := NB165_167.out
  have hnc82 := NB167_165.out
  have hnb83 := NB165_170.out
  have hnc83 := NB170_165.out
  have hcz84_0 : w78.cell? ⟨gb165, 0, none⟩ = some (.int .i64 a0_0) := (blk_cell BK165.out 0).trans rfl
  have hcz84_1 : w78.cell? ⟨gb165, 1, none⟩ = some (.int .i64 a0_1) := (blk_cell BK165.out 1).trans rfl
  have hfz84_0 := blk_frozen BK165.out 0
  have hfz84_1 := blk_frozen BK165.out 1
  try go_wp2_with (first | ((with_reducible refine gate_callee (f := 79) rfl ?_); refine goesL_ (some 19) rfl rfl Try.func79 (by kernel_rfl) rfl #[.agg #[.int .i64 a0_0, .int .i64 a0_1]] rfl ma_ ?_; (with_reducible refine (spec_IsSpan.calls a0_0 a0_1 false _ A5.out).mono ?_); rintro e w85 ⟨rfl, hb⟩; refine ⟨_, rfl, ?_⟩; have n0_ := Aside0.mk (blk_below (g := gb165) (o := .cells #[.int .i64 a0_0, .int .i64 a0_1] 39 (0, 0)) y79_ hb); have n1_ := Aside0.mk (blk_below (g := gb166) (o := .cells #[.int .i64 a1_0, .int .i64 a1_1] 39 (0, 0)) y80_ hb); have n2_ := Aside0.mk (blk_below (g := gb167) (o := .cells #[.int .i64 0, .int .i64 0] 39 (0, 0)) y81_ hb); have n3_ := Aside0.mk (blk_below (g := gb170) (o := .cells #[.int .i64 t168, .int .i64 t169] 39 (0, 0)) y76_ hb); have n4_ := Aside0.mk (below_step y66_ hb); clear BK165; clear BK166; clear BK167; clear BK170; clear HB; have BK165 := n0_; have BK166 := n1_; have BK167 := n2_; have BK170 := n3_; have HB := n4_; clear n0_ n1_ n2_ n3_ n4_; (try clear hb); (try clear hb2); (try clear hk); (try clear hi); have hnb86 := NB167_166.out; have hnc86 := NB166_167.out; have hnb87 := NB167_170.out; have hnc87 := NB170_167.out; have hcz88_0 : w85.cell? ⟨gb167, 0, none⟩ = some (.int .i64 0) := (blk_cell BK167.out 0).trans rfl; have hcz88_1 : w85.cell? ⟨gb167, 1, none⟩ = some (.int .i64 0) := (blk_cell BK167.out 1).trans rfl; have hfz88_0 := blk_frozen BK167.out 0; have hfz88_1 := blk_frozen BK167.out 1))
  refine bodyPost_ret (results_ct rfl _ _ gb167 39 #[.int .i64 0, .int .i64 0] (0, 0) _ rfl y83_ Try.underlying39 rfl (by kernel_rfl)) rfl ?_
  exact ⟨by first | rfl | (simp [errW_none, errW_some] <;> rfl) | (simp [*, errW_none, errW_some] <;> rfl), y85_⟩

end Go.Proofs.Ytglpmjcknhcjcaa.PFnExactGroupReports
