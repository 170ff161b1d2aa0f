-- Written for this claim by a program (a printer turned to this claim); Lean checks it.
import Derived.Test.YtnlgilmbmoiniaaPFnExactTaskOfx0
import Derived.Test.YtnlgilmbmoiniaaPFnExactTaskOfx6
namespace Go.Proofs.Ytnlgilmbmoiniaa.PFnExactTaskOf
open Go.RowKit Go.Proofs.YtnlgilmbmoiniaaW.PrintWords Go.Proofs.YtnlgilmbmoiniaaW.PrintLast Go.Proofs.YtnlgilmbmoiniaaW.PrintMore
attribute [local go_sem] max2_int min2_int max_two min_two max_three min_three max_four min_four   -- for this text's walks alone
set_option linter.unusedVariables false
set_option linter.unusedSimpArgs false

/-! ### impl_DueHour: function 73 -/
def impl_DueHour.f (k : Nat) (a0_0 : Int) (a0_1 : Int) (a0_2 : Int) (a0_3 : Int) (a0_4 : Int) (a0_5 : Int) (a0_6 : Int) (a0_7 : Int) : Option (Int) := (impl_IsFind.f a0_0 a0_1 a0_2 a0_3 a0_4 a0_5 a0_6 a0_7).bind fun t200 => (if t200 = true then ((impl_KeepDays.f k a0_1).bind fun t201 => (some (wrap64 (a0_6 + (wrap64 (24 * t201)))))) else (some (-1)))
theorem impl_DueHour.mono : ∀ a0 a1 a2 a3 a4 a5 a6 a7 k, LeO (impl_DueHour.f k a0 a1 a2 a3 a4 a5 a6 a7) (impl_DueHour.f (k + 1) a0 a1 a2 a3 a4 a5 a6 a7) := by
  intro a0 a1 a2 a3 a4 a5 a6 a7 k
  unfold impl_DueHour.f
  repeat' first
      | (with_reducible exact impl_KeepDays.mono _ _)
      | (with_reducible exact LeO.refl _)
      | (with_reducible exact LeO.none _)
      | (with_reducible refine LeO.ite ?_ ?_)
      | (with_reducible refine LeO.bind ?_ (fun _ => ?_))
      | exact impl_KeepDays.mono _ _
      | exact LeO.none _
      | refine LeO.ite ?_ ?_
      | refine LeO.bind ?_ (fun _ => ?_)
theorem y105_ {P : Prop} (h : P := by repeat (first | (with_reducible first | exact HB.out | apply below_alloc | apply pw_below_drewN | apply below_drew1) | exact HB.out)) : P := h
theorem y106_ {P : Prop} (h : P := by repeat (first | (with_reducible first | exact HB.out | apply below_alloc | apply pw_below_drewN | apply below_drew1 | refine below_set ?_ GE199.out) | exact HB.out)) : P := h
theorem y107_ {P : Prop} (h : P := by (with_reducible repeat (first | refine blk_drewN ?_ _ | refine blk_drew ?_ | refine blk_alloc ?_ _)); exact BK199.out) : P := h
theorem y108_ {P : Prop} (h : P := by rw [hg]; exact (below_size y105_)) : P := h
set_option maxHeartbeats 8000000 in
set_option maxRecDepth 100000 in
theorem impl_DueHour.calls (k : Nat) (a0_0 : Int) (a0_1 : Int) (a0_2 : Int) (a0_3 : Int) (a0_4 : Int) (a0_5 : Int) (a0_6 : Int) (a0_7 : Int) (r : Int) (w : World) (h : impl_DueHour.f k a0_0 a0_1 a0_2 a0_3 a0_4 a0_5 a0_6 a0_7 = some r) :
    Calls Try.prog 73 #[.agg #[.int .i64 a0_0, .int .i64 a0_1, .int .i64 a0_2, .int .i64 a0_3, .int .i64 a0_4, .int .i64 a0_5, .int .i64 a0_6, .int .i64 a0_7]] w fun e w' => e = .returned (.int .i64 r) ∧ Below w.heap.size w w' := by
  have hu58 := Try.underlying58
  have HB := Aside0.mk (Below.refl w.heap.size w)
  have H : ((impl_IsFind.f a0_0 a0_1 a0_2 a0_3 a0_4 a0_5 a0_6 a0_7).bind fun t200 => (if t200 = true then ((impl_KeepDays.f k a0_1).bind fun t201 => (some (wrap64 (a0_6 + (wrap64 (24 * t201)))))) else (some (-1)))) = some r := h
  clear h
  replace H := Option.bind_eq_some_iff.mp H
  obtain ⟨t200, A20, H⟩ := H
  replace H : (if t200 = true then ((impl_KeepDays.f k a0_1).bind fun t201 => (some (wrap64 (a0_6 + (wrap64 (24 * t201)))))) else (some (-1))) = some r := H
  have A2 := Aside0.mk A20
  clear A20
  by_cases c3 : t200 = true
  · subst c3
    have H1 : ((impl_KeepDays.f k a0_1).bind fun t201 => (some (wrap64 (a0_6 + (wrap64 (24 * t201)))))) = some r := by rw [if_pos rfl] at H; exact H
    clear H
    have H := H1
    clear H1
    replace H := Option.bind_eq_some_iff.mp H
    obtain ⟨t201, A40, H⟩ := H
    replace H : (some (wrap64 (a0_6 + (wrap64 (24 * t201))))) = some r := H
    have A4 := Aside0.mk A40
    clear A40
    obtain rfl := Option.some.inj H
    go_enter Try.func73, Try.ntmps73
    go_wp2_with (first | ((with_reducible refine gate_dst (N := 1) rfl ?_); refine box_event ?hg (N := 1) ?hd (cs := #[.int .i64 a0_0, .int .i64 a0_1, .int .i64 a0_2, .int .i64 a0_3, .int .i64 a0_4, .int .i64 a0_5, .int .i64 a0_6, .int .i64 a0_7]) (t := 58) ?hr ?_; (case hd => rfl); (case hg => rfl); (case hr => first | (go_simp; done) | (go_simp; rfl)); intro gb199 hg w5 hbox hb; have n0_ := Aside0.mk (below_step y105_ hb); have n1_ := Aside0.mk (hbox); have n2_ := Aside0.mk ((y108_ : w.heap.size ≤ gb199)); have n3_ := Aside0.mk ((y108_ : w.heap.size ≤ gb199)); clear HB; have HB := n0_; have BK199 := n1_; have GW199 := n2_; have GE199 := n3_; clear n0_ n1_ n2_ n3_; clear hb hbox hg; have hcz6_0 : w5.cell? ⟨gb199, 0, none⟩ = some (.int .i64 a0_0) := (blk_cell BK199.out 0).trans rfl; have hcz6_1 : w5.cell? ⟨gb199, 1, none⟩ = some (.int .i64 a0_1) := (blk_cell BK199.out 1).trans rfl; have hcz6_2 : w5.cell? ⟨gb199, 2, none⟩ = some (.int .i64 a0_2) := (blk_cell BK199.out 2).trans rfl; have hcz6_3 : w5.cell? ⟨gb199, 3, none⟩ = some (.int .i64 a0_3) := (blk_cell BK199.out 3).trans rfl; have hcz6_4 : w5.cell? ⟨gb199, 4, none⟩ = some (.int .i64 a0_4) := (blk_cell BK199.out 4).trans rfl; have hcz6_5 : w5.cell? ⟨gb199, 5, none⟩ = some (.int .i64 a0_5) := (blk_cell BK199.out 5).trans rfl; have hcz6_6 : w5.cell? ⟨gb199, 6, none⟩ = some (.int .i64 a0_6) := (blk_cell BK199.out 6).trans rfl; have hcz6_7 : w5.cell? ⟨gb199, 7, none⟩ = some (.int .i64 a0_7) := (blk_cell BK199.out 7).trans rfl; have hfz6_0 := blk_frozen BK199.out 0; have hfz6_1 := blk_frozen BK199.out 1; have hfz6_2 := blk_frozen BK199.out 2; have hfz6_3 := blk_frozen BK199.out 3; have hfz6_4 := blk_frozen BK199.out 4; have hfz6_5 := blk_frozen BK199.out 5; have hfz6_6 := blk_frozen BK199.out 6; have hfz6_7 := blk_frozen BK199.out 7) | (go_at_call 54; (with_reducible refine (impl_IsFind.calls a0_0 a0_1 a0_2 a0_3 a0_4 a0_5 a0_6 a0_7 true _ A2.out).mono ?_); rintro e w7 ⟨rfl, hb⟩; have n0_ := Aside0.mk (blk_below (g := gb199) (o := .cells #[.int .i64 a0_0, .int .i64 a0_1, .int .i64 a0_2, .int .i64 a0_3, .int .i64 a0_4, .int .i64 a0_5, .int .i64 a0_6, .int .i64 a0_7] 58 (0, 0)) y107_ hb); have n1_ := Aside0.mk (below_step y106_ hb); clear BK199; clear HB; have BK199 := n0_; have HB := n1_; clear n0_ n1_; (try clear hb); (try clear hb2); (try clear hk); (try clear hi); have hcz8_0 : w7.cell? ⟨gb199, 0, none⟩ = some (.int .i64 a0_0) := (blk_cell BK199.out 0).trans rfl; have hcz8_1 : w7.cell? ⟨gb199, 1, none⟩ = some (.int .i64 a0_1) := (blk_cell BK199.out 1).trans rfl; have hcz8_2 : w7.cell? ⟨gb199, 2, none⟩ = some (.int .i64 a0_2) := (blk_cell BK199.out 2).trans rfl; have hcz8_3 : w7.cell? ⟨gb199, 3, none⟩ = some (.int .i64 a0_3) := (blk_cell BK199.out 3).trans rfl; have hcz8_4 : w7.cell? ⟨gb199, 4, none⟩ = some (.int .i64 a0_4) := (blk_cell BK199.out 4).trans rfl; have hcz8_5 : w7.cell? ⟨gb199, 5, none⟩ = some (.int .i64 a0_5) := (blk_cell BK199.out 5).trans rfl; have hcz8_6 : w7.cell? ⟨gb199, 6, none⟩ = some (.int .i64 a0_6) := (blk_cell BK199.out 6).trans rfl; have hcz8_7 : w7.cell? ⟨gb199, 7, none⟩ = some (.int .i64 a0_7) := (blk_cell BK199.out 7).trans rfl; have hfz8_0 := blk_frozen BK199.out 0; have hfz8_1 := blk_frozen BK199.out 1; have hfz8_2 := blk_frozen BK199.out 2; have hfz8_3 := blk_frozen BK199.out 3; have hfz8_4 := blk_frozen BK199.out 4; have hfz8_5 := blk_frozen BK199.out 5; have hfz8_6 := blk_frozen BK199.out 6; have hfz8_7 := blk_frozen BK199.out 7) | (go_at_call 87; (with_reducible refine (impl_KeepDays.calls k a0_1 t201 _ A4.out).mono ?_); rintro e w' ⟨rfl, ⟨nd, rfl⟩⟩; (try first | exact ⟨rfl, _, World.drewN_drewN _ _ _⟩ | exact ⟨rfl, _, Eq.trans (World.drewN_drewN _ _ _) (congrArg (World.drewN _) (Nat.add_assoc _ _ _))⟩)))
    repeat (go_quiet (first | ((with_reducible refine gate_dst (N := 1) rfl ?_); refine box_event ?hg (N := 1) ?hd (cs := #[.int .i64 a0_0, .int .i64 a0_1, .int .i64 a0_2, .int .i64 a0_3, .int .i64 a0_4, .int .i64 a0_5, .int .i64 a0_6, .int .i64 a0_7]) (t := 58) ?hr ?_; (case hd => rfl); (case hg => rfl); (case hr => first | (go_simp; done) | (go_simp; rfl)); intro gb199 hg w5 hbox hb; have n0_ := Aside0.mk (below_step y105_ hb); have n1_ := Aside0.mk (hbox); have n2_ := Aside0.mk ((y108_ : w.heap.size ≤ gb199)); have n3_ := Aside0.mk ((y108_ : w.heap.size ≤ gb199)); clear HB; have HB := n0_; have BK199 := n1_; have GW199 := n2_; have GE199 := n3_; clear n0_ n1_ n2_ n3_; clear hb hbox hg; have hcz6_0 : w5.cell? ⟨gb199, 0, none⟩ = some (.int .i64 a0_0) := (blk_cell BK199.out 0).trans rfl; have hcz6_1 : w5.cell? ⟨gb199, 1, none⟩ = some (.int .i64 a0_1) := (blk_cell BK199.out 1).trans rfl; have hcz6_2 : w5.cell? ⟨gb199, 2, none⟩ = some (.int .i64 a0_2) := (blk_cell BK199.out 2).trans rfl; have hcz6_3 : w5.cell? ⟨gb199, 3, none⟩ = some (.int .i64 a0_3) := (blk_cell BK199.out 3).trans rfl; have hcz6_4 : w5.cell? ⟨gb199, 4, none⟩ = some (.int .i64 a0_4) := (blk_cell BK199.out 4).trans rfl; have hcz6_5 : w5.cell? ⟨gb199, 5, none⟩ = some (.int .i64 a0_5) := (blk_cell BK199.out 5).trans rfl; have hcz6_6 : w5.cell? ⟨gb199, 6, none⟩ = some (.int .i64 a0_6) := (blk_cell BK199.out 6).trans rfl; have hcz6_7 : w5.cell? ⟨gb199, 7, none⟩ = some (.int .i64 a0_7) := (blk_cell BK199.out 7).trans rfl; have hfz6_0 := blk_frozen BK199.out 0; have hfz6_1 := blk_frozen BK199.out 1; have hfz6_2 := blk_frozen BK199.out 2; have hfz6_3 := blk_frozen BK199.out 3; have hfz6_4 := blk_frozen BK199.out 4; have hfz6_5 := blk_frozen BK199.out 5; have hfz6_6 := blk_frozen BK199.out 6; have hfz6_7 := blk_frozen BK199.out 7) | (go_at_call 54; (with_reducible refine (impl_IsFind.calls a0_0 a0_1 a0_2 a0_3 a0_4 a0_5 a0_6 a0_7 true _ A2.out).mono ?_); rintro e w7 ⟨rfl, hb⟩; have n0_ := Aside0.mk (blk_below (g := gb199) (o := .cells #[.int .i64 a0_0, .int .i64 a0_1, .int .i64 a0_2, .int .i64 a0_3, .int .i64 a0_4, .int .i64 a0_5, .int .i64 a0_6, .int .i64 a0_7] 58 (0, 0)) y107_ hb); have n1_ := Aside0.mk (below_step y106_ hb); clear BK199; clear HB; have BK199 := n0_; have HB := n1_; clear n0_ n1_; (try clear hb); (try clear hb2); (try clear hk); (try clear hi); have hcz8_0 : w7.cell? ⟨gb199, 0, none⟩ = some (.int .i64 a0_0) := (blk_cell BK199.out 0).trans rfl; have hcz8_1 : w7.cell? ⟨gb199, 1, none⟩ = some (.int .i64 a0_1) := (blk_cell BK199.out 1).trans rfl; have hcz8_2 : w7.cell? ⟨gb199, 2, none⟩ = some (.int .i64 a0_2) := (blk_cell BK199.out 2).trans rfl; have hcz8_3 : w7.cell? ⟨gb199, 3, none⟩ = some (.int .i64 a0_3) := (blk_cell BK199.out 3).trans rfl; have hcz8_4 : w7.cell? ⟨gb199, 4, none⟩ = some (.int .i64 a0_4) := (blk_cell BK199.out 4).trans rfl; have hcz8_5 : w7.cell? ⟨gb199, 5, none⟩ = some (.int .i64 a0_5) := (blk_cell BK199.out 5).trans rfl; have hcz8_6 : w7.cell? ⟨gb199, 6, none⟩ = some (.int .i64 a0_6) := (blk_cell BK199.out 6).trans rfl; have hcz8_7 : w7.cell? ⟨gb199, 7, none⟩ = some (.int .i64 a0_7) := (blk_cell BK199.out 7).trans rfl; have hfz8_0 := blk_frozen BK199.out 0; have hfz8_1 := blk_frozen BK199.out 1; have hfz8_2 := blk_frozen BK199.out 2; have hfz8_3 := blk_frozen BK199.out 3; have hfz8_4 := blk_frozen BK199.out 4; have hfz8_5 := blk_frozen BK199.out 5; have hfz8_6 := blk_frozen BK199.out 6; have hfz8_7 := blk_frozen BK199.out 7) | (go_at_call 87; (with_reducible refine (impl_KeepDays.calls k a0_1 t201 _ A4.out).mono ?_); rintro e w' ⟨rfl, ⟨nd, rfl⟩⟩; (try first | exact ⟨rfl, _, World.drewN_drewN _ _ _⟩ | exact ⟨rfl, _, Eq.trans (World.drewN_drewN _ _ _) (congrArg (World.drewN _) (Nat.add_assoc _ _ _))⟩))); try go_wp2_with (first | ((with_reducible refine gate_dst (N := 1) rfl ?_); refine box_event ?hg (N := 1) ?hd (cs := #[.int .i64 a0_0, .int .i64 a0_1, .int .i64 a0_2, .int .i64 a0_3, .int .i64 a0_4, .int .i64 a0_5, .int .i64 a0_6, .int .i64 a0_7]) (t := 58) ?hr ?_; (case hd => rfl); (case hg => rfl); (case hr => first | (go_simp; done) | (go_simp; rfl)); intro gb199 hg w5 hbox hb; have n0_ := Aside0.mk (below_step y105_ hb); have n1_ := Aside0.mk (hbox); have n2_ := Aside0.mk ((y108_ : w.heap.size ≤ gb199)); have n3_ := Aside0.mk ((y108_ : w.heap.size ≤ gb199)); clear HB; have HB := n0_; have BK199 := n1_; have GW199 := n2_; have GE199 := n3_; clear n0_ n1_ n2_ n3_; clear hb hbox hg; have hcz6_0 : w5.cell? ⟨gb199, 0, none⟩ = some (.int .i64 a0_0) := (blk_cell BK199.out 0).trans rfl; have hcz6_1 : w5.cell? ⟨gb199, 1, none⟩ = some (.int .i64 a0_1) := (blk_cell BK199.out 1).trans rfl; have hcz6_2 : w5.cell? ⟨gb199, 2, none⟩ = some (.int .i64 a0_2) := (blk_cell BK199.out 2).trans rfl; have hcz6_3 : w5.cell? ⟨gb199, 3, none⟩ = some (.int .i64 a0_3) := (blk_cell BK199.out 3).trans rfl; have hcz6_4 : w5.cell? ⟨gb199, 4, none⟩ = some (.int .i64 a0_4) := (blk_cell BK199.out 4).trans rfl; have hcz6_5 : w5.cell? ⟨gb199, 5, none⟩ = some (.int .i64 a0_5) := (blk_cell BK199.out 5).trans rfl; have hcz6_6 : w5.cell? ⟨gb199, 6, none⟩ = some (.int .i64 a0_6) := (blk_cell BK199.out 6).trans rfl; have hcz6_7 : w5.cell? ⟨gb199, 7, none⟩ = some (.int .i64 a0_7) := (blk_cell BK199.out 7).trans rfl; have hfz6_0 := blk_frozen BK199.out 0; have hfz6_1 := blk_frozen BK199.out 1; have hfz6_2 := blk_frozen BK199.out 2; have hfz6_3 := blk_frozen BK199.out 3; have hfz6_4 := blk_frozen BK199.out 4; have hfz6_5 := blk_frozen BK199.out 5; have hfz6_6 := blk_frozen BK199.out 6; have hfz6_7 := blk_frozen BK199.out 7) | (go_at_call 54; (with_reducible refine (impl_IsFind.calls a0_0 a0_1 a0_2 a0_3 a0_4 a0_5 a0_6 a0_7 true _ A2.out).mono ?_); rintro e w7 ⟨rfl, hb⟩; have n0_ := Aside0.mk (blk_below (g := gb199) (o := .cells #[.int .i64 a0_0, .int .i64 a0_1, .int .i64 a0_2, .int .i64 a0_3, .int .i64 a0_4, .int .i64 a0_5, .int .i64 a0_6, .int .i64 a0_7] 58 (0, 0)) y107_ hb); have n1_ := Aside0.mk (below_step y106_ hb); clear BK199; clear HB; have BK199 := n0_; have HB := n1_; clear n0_ n1_; (try clear hb); (try clear hb2); (try clear hk); (try clear hi); have hcz8_0 : w7.cell? ⟨gb199, 0, none⟩ = some (.int .i64 a0_0) := (blk_cell BK199.out 0).trans rfl; have hcz8_1 : w7.cell? ⟨gb199, 1, none⟩ = some (.int .i64 a0_1) := (blk_cell BK199.out 1).trans rfl; have hcz8_2 : w7.cell? ⟨gb199, 2, none⟩ = some (.int .i64 a0_2) := (blk_cell BK199.out 2).trans rfl; have hcz8_3 : w7.cell? ⟨gb199, 3, none⟩ = some (.int .i64 a0_3) := (blk_cell BK199.out 3).trans rfl; have hcz8_4 : w7.cell? ⟨gb199, 4, none⟩ = some (.int .i64 a0_4) := (blk_cell BK199.out 4).trans rfl; have hcz8_5 : w7.cell? ⟨gb199, 5, none⟩ = some (.int .i64 a0_5) := (blk_cell BK199.out 5).trans rfl; have hcz8_6 : w7.cell? ⟨gb199, 6, none⟩ = some (.int .i64 a0_6) := (blk_cell BK199.out 6).trans rfl; have hcz8_7 : w7.cell? ⟨gb199, 7, none⟩ = some (.int .i64 a0_7) := (blk_cell BK199.out 7).trans rfl; have hfz8_0 := blk_frozen BK199.out 0; have hfz8_1 := blk_frozen BK199.out 1; have hfz8_2 := blk_frozen BK199.out 2; have hfz8_3 := blk_frozen BK199.out 3; have hfz8_4 := blk_frozen BK199.out 4; have hfz8_5 := blk_frozen BK199.out 5; have hfz8_6 := blk_frozen BK199.out 6; have hfz8_7 := blk_frozen BK199.out 7) | (go_at_call 87; (with_reducible refine (impl_KeepDays.calls k a0_1 t201 _ A4.out).mono ?_); rintro e w' ⟨rfl, ⟨nd, rfl⟩⟩; (try first | exact ⟨rfl, _, World.drewN_drewN _ _ _⟩ | exact ⟨rfl, _, Eq.trans (World.drewN_drewN _ _ _) (congrArg (World.drewN _) (Nat.add_assoc _ _ _))⟩))))
    go_ret
    exact ⟨by first | rfl | (simp [errW_none, errW_some] <;> rfl) | (simp [*, errW_none, errW_some] <;> rfl), by repeat (first | (with_reducible first | exact HB.out | apply below_alloc | apply pw_below_drewN | apply below_drew1 | refine below_set ?_ GE199.out) | exact HB.out)⟩
  · replace c3 := Bool.eq_false_iff.mpr c3
    subst c3
    have H1 : (some (-1)) = some r := by rw [if_neg (show ¬ (false = true) by decide)] at H; exact H
    clear H
    have H := H1
    clear H1
    obtain rfl := Option.some.inj H
    go_enter Try.func73, Try.ntmps73
    go_wp2_with (first | ((with_reducible refine gate_dst (N := 1) rfl ?_); refine box_event ?hg (N := 1) ?hd (cs := #[.int .i64 a0_0, .int .i64 a0_1, .int .i64 a0_2, .int .i64 a0_3, .int .i64 a0_4, .int .i64 a0_5, .int .i64 a0_6, .int .i64 a0_7]) (t := 58) ?hr ?_; (case hd => rfl); (case hg => rfl); (case hr => first | (go_simp; done) | (go_simp; rfl)); intro gb199 hg w9 hbox hb; have n0_ := Aside0.mk (below_step y105_ hb); have n1_ := Aside0.mk (hbox); have n2_ := Aside0.mk ((y108_ : w.heap.size ≤ gb199)); have n3_ := Aside0.mk ((y108_ : w.heap.size ≤ gb199)); clear HB; have HB := n0_; have BK199 := n1_; have GW199 := n2_; have GE199 := n3_; clear n0_ n1_ n2_ n3_; clear hb hbox hg; have hcz10_0 : w9.cell? ⟨gb199, 0, none⟩ = some (.int .i64 a0_0) := (blk_cell BK199.out 0).trans rfl; have hcz10_1 : w9.cell? ⟨gb199, 1, none⟩ = some (.int .i64 a0_1) := (blk_cell BK199.out 1).trans rfl; have hcz10_2 : w9.cell? ⟨gb199, 2, none⟩ = some (.int .i64 a0_2) := (blk_cell BK199.out 2).trans rfl; have hcz10_3 : w9.cell? ⟨gb199, 3, none⟩ = some (.int .i64 a0_3) := (blk_cell BK199.out 3).trans rfl; have hcz10_4 : w9.cell? ⟨gb199, 4, none⟩ = some (.int .i64 a0_4) := (blk_cell BK199.out 4).trans rfl; have hcz10_5 : w9.cell? ⟨gb199, 5, none⟩ = some (.int .i64 a0_5) := (blk_cell BK199.out 5).trans rfl; have hcz10_6 : w9.cell? ⟨gb199, 6, none⟩ = some (.int .i64 a0_6) := (blk_cell BK199.out 6).trans rfl; have hcz10_7 : w9.cell? ⟨gb199, 7, none⟩ = some (.int .i64 a0_7) := (blk_cell BK199.out 7).trans rfl; have hfz10_0 := blk_frozen BK199.out 0; have hfz10_1 := blk_frozen BK199.out 1; have hfz10_2 := blk_frozen BK199.out 2; have hfz10_3 := blk_frozen BK199.out 3; have hfz10_4 := blk_frozen BK199.out 4; have hfz10_5 := blk_frozen BK199.out 5; have hfz10_6 := blk_frozen BK199.out 6; have hfz10_7 := blk_frozen BK199.out 7) | (go_at_call 54; (with_reducible refine (impl_IsFind.calls a0_0 a0_1 a0_2 a0_3 a0_4 a0_5 a0_6 a0_7 false _ A2.out).mono ?_); rintro e w11 ⟨rfl, hb⟩; have n0_ := Aside0.mk (blk_below (g := gb199) (o := .cells #[.int .i64 a0_0, .int .i64 a0_1, .int .i64 a0_2, .int .i64 a0_3, .int .i64 a0_4, .int .i64 a0_5, .int .i64 a0_6, .int .i64 a0_7] 58 (0, 0)) y107_ hb); have n1_ := Aside0.mk (below_step y106_ hb); clear BK199; clear HB; have BK199 := n0_; have HB := n1_; clear n0_ n1_; (try clear hb); (try clear hb2); (try clear hk); (try clear hi)))
    repeat (go_quiet (first | ((with_reducible refine gate_dst (N := 1) rfl ?_); refine box_event ?hg (N := 1) ?hd (cs := #[.int .i64 a0_0, .int .i64 a0_1, .int .i64 a0_2, .int .i64 a0_3, .int .i64 a0_4, .int .i64 a0_5, .int .i64 a0_6, .int .i64 a0_7]) (t := 58) ?hr ?_; (case hd => rfl); (case hg => rfl); (case hr => first | (go_simp; done) | (go_simp; rfl)); intro gb199 hg w9 hbox hb; have n0_ := Aside0.mk (below_step y105_ hb); have n1_ := Aside0.mk (hbox); have n2_ := Aside0.mk ((y108_ : w.heap.size ≤ gb199)); have n3_ := Aside0.mk ((y108_ : w.heap.size ≤ gb199)); clear HB; have HB := n0_; have BK199 := n1_; have GW199 := n2_; have GE199 := n3_; clear n0_ n1_ n2_ n3_; clear hb hbox hg; have hcz10_0 : w9.cell? ⟨gb199, 0, none⟩ = some (.int .i64 a0_0) := (blk_cell BK199.out 0).trans rfl; have hcz10_1 : w9.cell? ⟨gb199, 1, none⟩ = some (.int .i64 a0_1) := (blk_cell BK199.out 1).trans rfl; have hcz10_2 : w9.cell? ⟨gb199, 2, none⟩ = some (.int .i64 a0_2) := (blk_cell BK199.out 2).trans rfl; have hcz10_3 : w9.cell? ⟨gb199, 3, none⟩ = some (.int .i64 a0_3) := (blk_cell BK199.out 3).trans rfl; have hcz10_4 : w9.cell? ⟨gb199, 4, none⟩ = some (.int .i64 a0_4) := (blk_cell BK199.out 4).trans rfl; have hcz10_5 : w9.cell? ⟨gb199, 5, none⟩ = some (.int .i64 a0_5) := (blk_cell BK199.out 5).trans rfl; have hcz10_6 : w9.cell? ⟨gb199, 6, none⟩ = some (.int .i64 a0_6) := (blk_cell BK199.out 6).trans rfl; have hcz10_7 : w9.cell? ⟨gb199, 7, none⟩ = some (.int .i64 a0_7) := (blk_cell BK199.out 7).trans rfl; have hfz10_0 := blk_frozen BK199.out 0; have hfz10_1 := blk_frozen BK199.out 1; have hfz10_2 := blk_frozen BK199.out 2; have hfz10_3 := blk_frozen BK199.out 3; have hfz10_4 := blk_frozen BK199.out 4; have hfz10_5 := blk_frozen BK199.out 5; have hfz10_6 := blk_frozen BK199.out 6; have hfz10_7 := blk_frozen BK199.out 7) | (go_at_call 54; (with_reducible refine (impl_IsFind.calls a0_0 a0_1 a0_2 a0_3 a0_4 a0_5 a0_6 a0_7 false _ A2.out).mono ?_); rintro e w11 ⟨rfl, hb⟩; have n0_ := Aside0.mk (blk_below (g := gb199) (o := .cells #[.int .i64 a0_0, .int .i64 a0_1, .int .i64 a0_2, .int .i64 a0_3, .int .i64 a0_4, .int .i64 a0_5, .int .i64 a0_6, .int .i64 a0_7] 58 (0, 0)) y107_ hb); have n1_ := Aside0.mk (below_step y106_ hb); clear BK199; clear HB; have BK199 := n0_; have HB := n1_; clear n0_ n1_; (try clear hb); (try clear hb2); (try clear hk); (try clear hi))); try go_wp2_with (first | ((with_reducible refine gate_dst (N := 1) rfl ?_); refine box_event ?hg (N := 1) ?hd (cs := #[.int .i64 a0_0, .int .i64 a0_1, .int .i64 a0_2, .int .i64 a0_3, .int .i64 a0_4, .int .i64 a0_5, .int .i64 a0_6, .int .i64 a0_7]) (t := 58) ?hr ?_; (case hd => rfl); (case hg => rfl); (case hr => first | (go_simp; done) | (go_simp; rfl)); intro gb199 hg w9 hbox hb; have n0_ := Aside0.mk (below_step y105_ hb); have n1_ := Aside0.mk (hbox); have n2_ := Aside0.mk ((y108_ : w.heap.size ≤ gb199)); have n3_ := Aside0.mk ((y108_ : w.heap.size ≤ gb199)); clear HB; have HB := n0_; have BK199 := n1_; have GW199 := n2_; have GE199 := n3_; clear n0_ n1_ n2_ n3_; clear hb hbox hg; have hcz10_0 : w9.cell? ⟨gb199, 0, none⟩ = some (.int .i64 a0_0) := (blk_cell BK199.out 0).trans rfl; have hcz10_1 : w9.cell? ⟨gb199, 1, none⟩ = some (.int .i64 a0_1) := (blk_cell BK199.out 1).trans rfl; have hcz10_2 : w9.cell? ⟨gb199, 2, none⟩ = some (.int .i64 a0_2) := (blk_cell BK199.out 2).trans rfl; have hcz10_3 : w9.cell? ⟨gb199, 3, none⟩ = some (.int .i64 a0_3) := (blk_cell BK199.out 3).trans rfl; have hcz10_4 : w9.cell? ⟨gb199, 4, none⟩ = some (.int .i64 a0_4) := (blk_cell BK199.out 4).trans rfl; have hcz10_5 : w9.cell? ⟨gb199, 5, none⟩ = some (.int .i64 a0_5) := (blk_cell BK199.out 5).trans rfl; have hcz10_6 : w9.cell? ⟨gb199, 6, none⟩ = some (.int .i64 a0_6) := (blk_cell BK199.out 6).trans rfl; have hcz10_7 : w9.cell? ⟨gb199, 7, none⟩ = some (.int .i64 a0_7) := (blk_cell BK199.out 7).trans rfl; have hfz10_0 := blk_frozen BK199.out 0; have hfz10_1 := blk_frozen BK199.out 1; have hfz10_2 := blk_frozen BK199.out 2; have hfz10_3 := blk_frozen BK199.out 3; have hfz10_4 := blk_frozen BK199.out 4; have hfz10_5 := blk_frozen BK199.out 5; have hfz10_6 := blk_frozen BK199.out 6; have hfz10_7 := blk_frozen BK199.out 7) | (go_at_call 54; (with_reducible refine (impl_IsFind.calls a0_0 a0_1 a0_2 a0_3 a0_4 a0_5 a0_6 a0_7 false _ A2.out).mono ?_); rintro e w11 ⟨rfl, hb⟩; have n0_ := Aside0.mk (blk_below (g := gb199) (o := .cells #[.int .i64 a0_0, .int .i64 a0_1, .int .i64 a0_2, .int .i64 a0_3, .int .i64 a0_4, .int .i64 a0_5, .int .i64 a0_6, .int .i64 a0_7] 58 (0, 0)) y107_ hb); have n1_ := Aside0.mk (below_step y106_ hb); clear BK199; clear HB; have BK199 := n0_; have HB := n1_; clear n0_ n1_; (try clear hb); (try clear hb2); (try clear hk); (try clear hi))))
    go_ret
    exact ⟨by first | rfl | (simp [errW_none, errW_some] <;> rfl) | (simp [*, errW_none, errW_some] <;> rfl), by repeat (first | (with_reducible first | exact HB.out | apply below_alloc | apply pw_below_drewN | apply below_drew1 | refine below_set ?_ GE199.out) | exact HB.out)⟩

/-! ### impl_IsDue: function 70 -/
def impl_IsDue.f (k : Nat) (a0_0 : Int) (a0_1 : Int) (a0_2 : Int) (a0_3 : Int) (a0_4 : Int) (a0_5 : Int) (a0_6 : Int) (a0_7 : Int) (a1 : Int) : Option (Bool) := (impl_IsFind.f a0_0 a0_1 a0_2 a0_3 a0_4 a0_5 a0_6 a0_7).bind fun t203 => (if t203 = true then ((impl_DueHour.f k a0_0 a0_1 a0_2 a0_3 a0_4 a0_5 a0_6 a0_7).bind fun t204 => (some (decide (a1 ≥ t204)))) else (some false))
theorem impl_IsDue.mono : ∀ a0 a1 a2 a3 a4 a5 a6 a7 a8 k, LeO (impl_IsDue.f k a0 a1 a2 a3 a4 a5 a6 a7 a8) (impl_IsDue.f (k + 1) a0 a1 a2 a3 a4 a5 a6 a7 a8) := by
  intro a0 a1 a2 a3 a4 a5 a6 a7 a8 k
  unfold impl_IsDue.f
  repeat' first
      | (with_reducible exact impl_DueHour.mono _ _ _ _ _ _ _ _ _)
      | (with_reducible exact LeO.refl _)
      | (with_reducible exact LeO.none _)
      | (with_reducible refine LeO.ite ?_ ?_)
      | (with_reducible refine LeO.bind ?_ (fun _ => ?_))
      | exact impl_DueHour.mono _ _ _ _ _ _ _ _ _
      | exact LeO.none _
      | refine LeO.ite ?_ ?_
      | refine LeO.bind ?_ (fun _ => ?_)
theorem y109_ {P : Prop} (h : P := by repeat (first | (with_reducible first | exact HB.out | apply below_alloc | apply pw_below_drewN | apply below_drew1) | exact HB.out)) : P := h
theorem y110_ {P : Prop} (h : P := by repeat (first | (with_reducible first | exact HB.out | apply below_alloc | apply pw_below_drewN | apply below_drew1 | refine below_set ?_ GE202.out) | exact HB.out)) : P := h
theorem y111_ {P : Prop} (h : P := by (with_reducible repeat (first | refine blk_drewN ?_ _ | refine blk_drew ?_ | refine blk_alloc ?_ _)); exact BK202.out) : P := h
set_option maxHeartbeats 8000000 in
set_option maxRecDepth 100000 in
theorem impl_IsDue.calls (k : Nat) (a0_0 : Int) (a0_1 : Int) (a0_2 : Int) (a0_3 : Int) (a0_4 : Int) (a0_5 : Int) (a0_6 : Int) (a0_7 : Int) (a1 : Int) (r : Bool) (w : World) (h : impl_IsDue.f k a0_0 a0_1 a0_2 a0_3 a0_4 a0_5 a0_6 a0_7 a1 = some r) :
    Calls Try.prog 70 #[.agg #[.int .i64 a0_0, .int .i64 a0_1, .int .i64 a0_2, .int .i64 a0_3, .int .i64 a0_4, .int .i64 a0_5, .int .i64 a0_6, .int .i64 a0_7], .int .i64 a1] w fun e w' => e = .returned (.bool r) ∧ Below w.heap.size w w' := by
  have hu58 := Try.underlying58
  have HB := Aside0.mk (Below.refl w.heap.size w)
  have H : ((impl_IsFind.f a0_0 a0_1 a0_2 a0_3 a0_4 a0_5 a0_6 a0_7).bind fun t203 => (if t203 = true then ((impl_DueHour.f k a0_0 a0_1 a0_2 a0_3 a0_4 a0_5 a0_6 a0_7).bind fun t204 => (some (decide (a1 ≥ t204)))) else (some false))) = some r := h
  clear h
  replace H := Option.bind_eq_some_iff.mp H
  obtain ⟨t203, A30, H⟩ := H
  replace H : (if t203 = true then ((impl_DueHour.f k a0_0 a0_1 a0_2 a0_3 a0_4 a0_5 a0_6 a0_7).bind fun t204 => (some (decide (a1 ≥ t204)))) else (some false)) = some r := H
  have A3 := Aside0.mk A30
  clear A30
  by_cases c4 : t203 = true
  · subst c4
    have H1 : ((impl_DueHour.f k a0_0 a0_1 a0_2 a0_3 a0_4 a0_5 a0_6 a0_7).bind fun t204 => (some (decide (a1 ≥ t204)))) = some r := by rw [if_pos rfl] at H; exact H
    clear H
    have H := H1
    clear H1
    replace H := Option.bind_eq_some_iff.mp H
    obtain ⟨t204, A50, H⟩ := H
    replace H : (some (decide (a1 ≥ t204))) = some r := H
    have A5 := Aside0.mk A50
    clear A50
    obtain rfl := Option.some.inj H
    go_enter Try.func70, Try.ntmps70
    go_wp2_with (first | ((with_reducible refine gate_dst (N := 2) rfl ?_); refine box_event ?hg (N := 2) ?hd (cs := #[.int .i64 a0_0, .int .i64 a0_1, .int .i64 a0_2, .int .i64 a0_3, .int .i64 a0_4, .int .i64 a0_5, .int .i64 a0_6, .int .i64 a0_7]) (t := 58) ?hr ?_; (case hd => rfl); (case hg => rfl); (case hr => first | (go_simp; done) | (go_simp; rfl)); intro gb202 hg w6 hbox hb; have n0_ := Aside0.mk (below_step y109_ hb); have n1_ := Aside0.mk (hbox); have n2_ := Aside0.mk ((by rw [hg]; exact (below_size y109_) : w.heap.size ≤ gb202)); have n3_ := Aside0.mk ((by rw [hg]; exact (below_size y109_) : w.heap.size ≤ gb202)); clear HB; have HB := n0_; have BK202 := n1_; have GW202 := n2_; have GE202 := n3_; clear n0_ n1_ n2_ n3_; clear hb hbox hg; have hcz7_0 : w6.cell? ⟨gb202, 0, none⟩ = some (.int .i64 a0_0) := (blk_cell BK202.out 0).trans rfl; have hcz7_1 : w6.cell? ⟨gb202, 1, none⟩ = some (.int .i64 a0_1) := (blk_cell BK202.out 1).trans rfl; have hcz7_2 : w6.cell? ⟨gb202, 2, none⟩ = some (.int .i64 a0_2) := (blk_cell BK202.out 2).trans rfl; have hcz7_3 : w6.cell? ⟨gb202, 3, none⟩ = some (.int .i64 a0_3) := (blk_cell BK202.out 3).trans rfl; have hcz7_4 : w6.cell? ⟨gb202, 4, none⟩ = some (.int .i64 a0_4) := (blk_cell BK202.out 4).trans rfl; have hcz7_5 : w6.cell? ⟨gb202, 5, none⟩ = some (.int .i64 a0_5) := (blk_cell BK202.out 5).trans rfl; have hcz7_6 : w6.cell? ⟨gb202, 6, none⟩ = some (.int .i64 a0_6) := (blk_cell BK202.out 6).trans rfl; have hcz7_7 : w6.cell? ⟨gb202, 7, none⟩ = some (.int .i64 a0_7) := (blk_cell BK202.out 7).trans rfl; have hfz7_0 := blk_frozen BK202.out 0; have hfz7_1 := blk_frozen BK202.out 1; have hfz7_2 := blk_frozen BK202.out 2; have hfz7_3 := blk_frozen BK202.out 3; have hfz7_4 := blk_frozen BK202.out 4; have hfz7_5 := blk_frozen BK202.out 5; have hfz7_6 := blk_frozen BK202.out 6; have hfz7_7 := blk_frozen BK202.out 7) | ((with_reducible refine gate_callee (f := 54) rfl ?_); refine goesL_ (some 6) rfl rfl Try.func54 (by kernel_rfl) rfl #[.agg #[.int .i64 a0_0, .int .i64 a0_1, .int .i64 a0_2, .int .i64 a0_3, .int .i64 a0_4, .int .i64 a0_5, .int .i64 a0_6, .int .i64 a0_7]] rfl (by (try simp only [List.map_toArray, List.map_cons, List.map_nil]); first | done | rfl | (simp only [List.length_drop, List.length_take]; rfl)) ?_; (with_reducible refine (impl_IsFind.calls a0_0 a0_1 a0_2 a0_3 a0_4 a0_5 a0_6 a0_7 true _ A3.out).mono ?_); rintro e w8 ⟨rfl, hb⟩; refine ⟨_, rfl, ?_⟩; have n0_ := Aside0.mk (blk_below (g := gb202) (o := .cells #[.int .i64 a0_0, .int .i64 a0_1, .int .i64 a0_2, .int .i64 a0_3, .int .i64 a0_4, .int .i64 a0_5, .int .i64 a0_6, .int .i64 a0_7] 58 (0, 0)) y111_ hb); have n1_ := Aside0.mk (below_step y110_ hb); clear BK202; clear HB; have BK202 := n0_; have HB := n1_; clear n0_ n1_; (try clear hb); (try clear hb2); (try clear hk); (try clear hi); have hcz9_0 : w8.cell? ⟨gb202, 0, none⟩ = some (.int .i64 a0_0) := (blk_cell BK202.out 0).trans rfl; have hcz9_1 : w8.cell? ⟨gb202, 1, none⟩ = some (.int .i64 a0_1) := (blk_cell BK202.out 1).trans rfl; have hcz9_2 : w8.cell? ⟨gb202, 2, none⟩ = some (.int .i64 a0_2) := (blk_cell BK202.out 2).trans rfl; have hcz9_3 : w8.cell? ⟨gb202, 3, none⟩ = some (.int .i64 a0_3) := (blk_cell BK202.out 3).trans rfl; have hcz9_4 : w8.cell? ⟨gb202, 4, none⟩ = some (.int .i64 a0_4) := (blk_cell BK202.out 4).trans rfl; have hcz9_5 : w8.cell? ⟨gb202, 5, none⟩ = some (.int .i64 a0_5) := (blk_cell BK202.out 5).trans rfl; have hcz9_6 : w8.cell? ⟨gb202, 6, none⟩ = some (.int .i64 a0_6) := (blk_cell BK202.out 6).trans rfl; have hcz9_7 : w8.cell? ⟨gb202, 7, none⟩ = some (.int .i64 a0_7) := (blk_cell BK202.out 7).trans rfl; have hfz9_0 := blk_frozen BK202.out 0; have hfz9_1 := blk_frozen BK202.out 1; have hfz9_2 := blk_frozen BK202.out 2; have hfz9_3 := blk_frozen BK202.out 3; have hfz9_4 := blk_frozen BK202.out 4; have hfz9_5 := blk_frozen BK202.out 5; have hfz9_6 := blk_frozen BK202.out 6; have hfz9_7 := blk_frozen BK202.out 7) | (go_at_call 73; (with_reducible refine (impl_DueHour.calls k a0_0 a0_1 a0_2 a0_3 a0_4 a0_5 a0_6 a0_7 t204 _ A5.out).mono ?_); rintro e w10 ⟨rfl, hb⟩; have n0_ := Aside0.mk (blk_below (g := gb202) (o := .cells #[.int .i64 a0_0, .int .i64 a0_1, .int .i64 a0_2, .int .i64 a0_3, .int .i64 a0_4, .int .i64 a0_5, .int .i64 a0_6, .int .i64 a0_7] 58 (0, 0)) y111_ hb); have n1_ := Aside0.mk (below_step y110_ hb); clear BK202; clear HB; have BK202 := n0_; have HB := n1_; clear n0_ n1_; (try clear hb); (try clear hb2); (try clear hk); (try clear hi)))
    go_ret
    exact ⟨by first | rfl | (simp [errW_none, errW_some] <;> rfl) | (simp [*, errW_none, errW_some] <;> rfl), by repeat (first | (with_reducible first | exact HB.out | apply below_alloc | apply pw_below_drewN | apply below_drew1 | refine below_set ?_ GE202.out) | exact HB.out)⟩
  · replace c4 := Bool.eq_false_iff.mpr c4
    subst c4
    have H1 : (some false) = some r := by rw [if_neg (show ¬ (false = true) by decide)] at H; exact H
    clear H
    have H := H1
    clear H1
    obtain rfl := Option.some.inj H
    go_enter Try.func70, Try.ntmps70
    go_wp2_with (first | ((with_reducible refine gate_dst (N := 2) rfl ?_); refine box_event ?hg (N := 2) ?hd (cs := #[.int .i64 a0_0, .int .i64 a0_1, .int .i64 a0_2, .int .i64 a0_3, .int .i64 a0_4, .int .i64 a0_5, .int .i64 a0_6, .int .i64 a0_7]) (t := 58) ?hr ?_; (case hd => rfl); (case hg => rfl); (case hr => first | (go_simp; done) | (go_simp; rfl)); intro gb202 hg w11 hbox hb; have n0_ := Aside0.mk (below_step y109_ hb); have n1_ := Aside0.mk (hbox); have n2_ := Aside0.mk ((by rw [hg]; exact (below_size y109_) : w.heap.size ≤ gb202)); have n3_ := Aside0.mk ((by rw [hg]; exact (below_size y109_) : w.heap.size ≤ gb202)); clear HB; have HB := n0_; have BK202 := n1_; have GW202 := n2_; have GE202 := n3_; clear n0_ n1_ n2_ n3_; clear hb hbox hg; have hcz12_0 : w11.cell? ⟨gb202, 0, none⟩ = some (.int .i64 a0_0) := (blk_cell BK202.out 0).trans rfl; have hcz12_1 : w11.cell? ⟨gb202, 1, none⟩ = some (.int .i64 a0_1) := (blk_cell BK202.out 1).trans rfl; have hcz12_2 : w11.cell? ⟨gb202, 2, none⟩ = some (.int .i64 a0_2) := (blk_cell BK202.out 2).trans rfl; have hcz12_3 : w11.cell? ⟨gb202, 3, none⟩ = some (.int .i64 a0_3) := (blk_cell BK202.out 3).trans rfl; have hcz12_4 : w11.cell? ⟨gb202, 4, none⟩ = some (.int .i64 a0_4) := (blk_cell BK202.out 4).trans rfl; have hcz12_5 : w11.cell? ⟨gb202, 5, none⟩ = some (.int .i64 a0_5) := (blk_cell BK202.out 5).trans rfl; have hcz12_6 : w11.cell? ⟨gb202, 6, none⟩ = some (.int .i64 a0_6) := (blk_cell BK202.out 6).trans rfl; have hcz12_7 : w11.cell? ⟨gb202, 7, none⟩ = some (.int .i64 a0_7) := (blk_cell BK202.out 7).trans rfl; have hfz12_0 := blk_frozen BK202.out 0; have hfz12_1 := blk_frozen BK202.out 1; have hfz12_2 := blk_frozen BK202.out 2; have hfz12_3 := blk_frozen BK202.out 3; have hfz12_4 := blk_frozen BK202.out 4; have hfz12_5 := blk_frozen BK202.out 5; have hfz12_6 := blk_frozen BK202.out 6; have hfz12_7 := blk_frozen BK202.out 7) | ((with_reducible refine gate_callee (f := 54) rfl ?_); refine goesL_ (some 6) rfl rfl Try.func54 (by kernel_rfl) rfl #[.agg #[.int .i64 a0_0, .int .i64 a0_1, .int .i64 a0_2, .int .i64 a0_3, .int .i64 a0_4, .int .i64 a0_5, .int .i64 a0_6, .int .i64 a0_7]] rfl (by (try simp only [List.map_toArray, List.map_cons, List.map_nil]); first | done | rfl | (simp only [List.length_drop, List.length_take]; rfl)) ?_; (with_reducible refine (impl_IsFind.calls a0_0 a0_1 a0_2 a0_3 a0_4 a0_5 a0_6 a0_7 false _ A3.out).mono ?_); rintro e w13 ⟨rfl, hb⟩; refine ⟨_, rfl, ?_⟩; have n0_ := Aside0.mk (blk_below (g := gb202) (o := .cells #[.int .i64 a0_0, .int .i64 a0_1, .int .i64 a0_2, .int .i64 a0_3, .int .i64 a0_4, .int .i64 a0_5, .int .i64 a0_6, .int .i64 a0_7] 58 (0, 0)) y111_ hb); have n1_ := Aside0.mk (below_step y110_ hb); clear BK202; clear HB; have BK202 := n0_; have HB := n1_; clear n0_ n1_; (try clear hb); (try clear hb2); (try clear hk); (try clear hi)))
    go_ret
    exact ⟨by first | rfl | (simp [errW_none, errW_some] <;> rfl) | (simp [*, errW_none, errW_some] <;> rfl), by repeat (first | (with_reducible first | exact HB.out | apply below_alloc | apply pw_below_drewN | apply below_drew1 | refine below_set ?_ GE202.out) | exact HB.out)⟩

/-! ### impl_Claim_86: function 86 -/
set_option maxHeartbeats 8000000 in
set_option maxRecDepth 100000 in
theorem impl_Claim_86.calls (p : S69 → Bool) (g : Nat) (lb : Array Value) (eg : ∀ args w, (callFunc g args).run Try.prog w = .ok (.enter g args) w) (A0 : Option Addr) (c0 : Nat) (l0 : List S69) (w : World) (hr0 : Kd.C k69 w A0 l0.length l0)
    (hp : ∀ (x : S69) (W : World), Below w.heap.size w W → Calls Try.prog g (#[.agg #[.int .i64 x.f0, .int .i64 x.f1, .int .i64 x.f2, .int .i64 x.f3, .int .i64 x.f4]] ++ lb) W fun e W' => e = .returned (.bool (p x)) ∧ Below W.heap.size W W') :
    Calls Try.prog 86 #[.slice A0 l0.length c0, .func (.func g) #[] lb] w fun e w' => e = .returned (.int .i64 (EvLib.idxB p l0 0)) ∧ Below w.heap.size w w' := by
  have hu69 := Try.underlying69
  have HR0 := Aside0.mk hr0
  have HP := Aside0.mk hp
  have hmax := Kd.C_max hr0
  clear hr0 hp
  go_enter Try.func86, Try.ntmps86
  go_wp2
  go_loopg [5, 8] l0.length (fun gg _ v8 wr => ∃ z : Int, v8 = .int .i64 z ∧ Aside0 (0 ≤ z) ∧ Aside0 (z ≤ (l0.length : Int)) ∧ Aside0 ((l0.length : Int) - z ≤ gg) ∧ Aside0 (Below w.heap.size w wr) ∧ Aside0 (EvLib.idxB p (l0.drop z.toNat) z.toNat = EvLib.idxB p l0 0))
  case atStart => exact ⟨0, rfl, ⟨by omega⟩, ⟨by omega⟩, ⟨by omega⟩, ⟨Below.refl _ _⟩, ⟨rfl⟩⟩
  case round =>
    obtain ⟨z, rfl, Z0, Z1, ZG, HB, HI⟩ := hrel
    by_cases hlt : z < (l0.length : Int)
    · have p1 : 0 ≤ z := Z0.out
      obtain ⟨ad, e, hx0, hx1, hx2, hx3, hx4⟩ := at_T69 HR0.out z p1 hlt
      cases e
      replace hx0 := pw_cell_below HB.out hx0
      replace hx1 := pw_cell_below HB.out hx1
      replace hx2 := pw_cell_below HB.out hx2
      replace hx3 := pw_cell_below HB.out hx3
      replace hx4 := pw_cell_below HB.out hx4
      have hcall := HP.out (rd_T69 l0 z) wr HB.out
      have hat := Aside0.mk (EvLib.idxB_at p z69 l0 z.toNat (by omega))
      cases hq : p (rd_T69 l0 z) with
      | true =>
        rw [hq] at hcall
        have HQ := Aside0.mk hq
        clear hq
        have hltb : decide (z < (l0.length : Int)) = true := decide_eq_true hlt
        replace p1 := eq_true p1
        replace hlt := eq_true hlt
        go_wp2_with (go_at_fn g; refine hcall.mono ?_; rintro e w' ⟨rfl, hb⟩; have n1_ := Aside0.mk (below_step HB.out hb); clear HB; have HB := n1_; clear n1_ hb)
        go_ret
        have hz : EvLib.idxB p l0 0 = z := by rw [← HI.out, hat.out, if_pos (show p (l0.getD z.toNat z69) = true from HQ.out), Int.toNat_of_nonneg Z0.out]
        exact ⟨by rw [hz]; rfl, HB.out⟩
      | false =>
        rw [hq] at hcall
        have HQ := Aside0.mk hq
        clear hq
        have HL := Aside0.mk hlt
        have hltb : decide (z < (l0.length : Int)) = true := decide_eq_true hlt
        replace p1 := eq_true p1
        replace hlt := eq_true hlt
        have hwr : wrap64 (z + 1) = z + 1 := by have := Z0.out; have := HL.out; unfold wrap64; omega
        go_wp2_with (go_at_fn g; refine hcall.mono ?_; rintro e w' ⟨rfl, hb⟩; have n1_ := Aside0.mk (below_step HB.out hb); clear HB; have HB := n1_; clear n1_ hb)
        go_roundg ((l0.length : Int) - (z + 1)).toNat
        case measure => have := Z0.out; have := HL.out; have := ZG.out; omega
        case rel =>
          refine ⟨z + 1, by first | rfl | (simp; done) | (simp [*]; done), ⟨by have := Z0.out; omega⟩, ⟨by have := HL.out; omega⟩, ⟨by have := HL.out; omega⟩, ⟨HB.out⟩, ⟨?_⟩⟩
          rw [← HI.out, hat.out, if_neg (by rw [show p (l0.getD z.toNat z69) = false from HQ.out]; simp)]
          have e1 : (z + 1).toNat = z.toNat + 1 := by have := Z0.out; omega
          rw [e1]
    · have hltb : decide (z < (l0.length : Int)) = false := decide_eq_false hlt
      have HE := Aside0.mk (EvLib.idxB_end p l0 z.toNat (by have := Z1.out; omega))
      clear hlt
      go_wp2
      go_ret
      have hz : EvLib.idxB p l0 0 = -1 := by rw [← HI.out, HE.out]
      exact ⟨by rw [hz]; rfl, HB.out⟩


/-! ### impl_FateOf: function 56 -/
set_option maxHeartbeats 8000000 in
set_option maxRecDepth 100000 in
theorem impl_FateOf_cont.calls (p : S69 → Bool) (g : Nat) (lb : Array Value) (eg : ∀ args w, (callFunc g args).run Try.prog w = .ok (.enter g args) w) (A0 : Option Addr) (c0 : Nat) (l0 : List S69) (w : World) (hr0 : Kd.C k69 w A0 l0.length l0)
    (hp : ∀ (x : S69) (W : World), Below w.heap.size w W → Calls Try.prog g (#[.agg #[.int .i64 x.f0, .int .i64 x.f1, .int .i64 x.f2, .int .i64 x.f3, .int .i64 x.f4]] ++ lb) W fun e W' => e = .returned (.bool (p x)) ∧ Below W.heap.size W W') :
    Calls Try.prog 71 #[.slice A0 l0.length c0, .func (.func g) #[] lb] w fun e w' => e = .returned (.bool (decide (0 ≤ EvLib.idxB p l0 0))) ∧ Below w.heap.size w w' := by
  have HC := Aside0.mk (impl_Claim_86.calls p g lb eg A0 c0 l0 w hr0 hp)
  clear hr0 hp eg
  generalize EvLib.idxB p l0 0 = i at HC ⊢
  go_enter Try.func71, Try.ntmps71
  go_wp2_with (go_at_call 86; refine HC.out.mono ?_; rintro e w' ⟨rfl, hb⟩; have HB := Aside0.mk hb; clear hb)
  go_ret
  exact ⟨rfl, HB.out⟩
/-- An open claim to the thing of this id. -/
def impl_FateOf.p (id : Int) (x : S69) : Bool := decide (x.f2 = id) && decide (x.f4 = 0)
set_option maxHeartbeats 8000000 in
set_option maxRecDepth 100000 in
theorem impl_FateOf_1.calls (x : S69) (id : Int) (g : Nat) (w : World) (hc : w.cell? ⟨g, 0, none⟩ = some (.int .i64 id)) :
    Calls Try.prog 72 #[.agg #[.int .i64 x.f0, .int .i64 x.f1, .int .i64 x.f2, .int .i64 x.f3, .int .i64 x.f4], .pointer (some ⟨g, 0, none⟩)] w fun e w' => e = .returned (.bool (impl_FateOf.p id x)) ∧ Below w.heap.size w w' := by
  have huE := Try.underlying69
  have huT := Try.underlying56
  have hd : ∀ o, (w.alloc o).cell? ⟨g, 0, none⟩ = some (.int .i64 id) := fun o => pw_cell_below (below_alloc (Below.refl _ _) o) hc
  unfold impl_FateOf.p
  by_cases h1 : x.f2 = id
  · have hb1 : (x.f2 == id) = true := beq_iff_eq.2 h1
    have hd1 : decide (x.f2 = id) = true := decide_eq_true h1
    go_enter Try.func72, Try.ntmps72
    go_wp2
    go_ret
    exact ⟨by first | rfl | (simp [*]; done) | (simp [*]; (by_cases h4 : x.f4 = 0 <;> simp [h4])), below_alloc (Below.refl w.heap.size w) _⟩
  · have hb1 : (x.f2 == id) = false := beq_eq_false_iff_ne.2 h1
    have hd1 : decide (x.f2 = id) = false := decide_eq_false h1
    go_enter Try.func72, Try.ntmps72
    go_wp2
    go_ret
    exact ⟨by first | rfl | (simp [*]; done) | (simp [*]; (by_cases h4 : x.f4 = 0 <;> simp [h4])), below_alloc (Below.refl w.heap.size w) _⟩
/-- Behind the claims: what the thing itself says. -/
def impl_FateOf.tail (kind worth finder : Int) : Int := if kind = 7 then 5 else if worth = 0 then 5 else if finder = 0 then (if 5000 < worth then 3 else 4) else (if worth ≤ 5000 then 2 else 3)
def impl_FateOf.f (k : Nat) (a0_0 a0_1 a0_2 a0_3 a0_4 a0_5 a0_6 a0_7 : Int) (l1 : List S69) (a2 : Int) : Option Int := (impl_FirstProved.f k l1 a0_0).bind fun fp => if fp = 0 then ((impl_IsDue.f k a0_0 a0_1 a0_2 a0_3 a0_4 a0_5 a0_6 a0_7 a2).bind fun due => if due = true then (if 0 ≤ EvLib.idxB (impl_FateOf.p a0_0) l1 0 then some 0 else some (impl_FateOf.tail a0_1 a0_4 a0_7)) else some 0) else some 1
theorem impl_FateOf.mono : ∀ a0 a1 a2 a3 a4 a5 a6 a7 a8 a9 k, LeO (impl_FateOf.f k a0 a1 a2 a3 a4 a5 a6 a7 a8 a9) (impl_FateOf.f (k + 1) a0 a1 a2 a3 a4 a5 a6 a7 a8 a9) := by
  intro a0 a1 a2 a3 a4 a5 a6 a7 a8 a9 k
  unfold impl_FateOf.f
  refine LeO.bind (impl_FirstProved.mono _ _ _) (fun fp => ?_)
  split
  · exact LeO.bind (impl_IsDue.mono _ _ _ _ _ _ _ _ _ _) (fun _ => LeO.refl _)
  · exact LeO.refl _
set_option maxHeartbeats 8000000 in
set_option maxRecDepth 100000 in
theorem impl_FateOf.calls (k : Nat) (a0_0 : Int) (a0_1 : Int) (a0_2 : Int) (a0_3 : Int) (a0_4 : Int) (a0_5 : Int) (a0_6 : Int) (a0_7 : Int) (A1 : Option Addr) (c1 : Nat) (l1 : List S69) (a2 : Int) (r : Int) (w : World) (hr1 : Kd.C k69 w A1 l1.length l1) (hc1 : l1.length ≤ c1)
    (h : impl_FateOf.f k a0_0 a0_1 a0_2 a0_3 a0_4 a0_5 a0_6 a0_7 l1 a2 = some r) :
    Calls Try.prog 56 #[.agg #[.int .i64 a0_0, .int .i64 a0_1, .int .i64 a0_2, .int .i64 a0_3, .int .i64 a0_4, .int .i64 a0_5, .int .i64 a0_6, .int .i64 a0_7], .slice A1 l1.length c1, .int .i64 a2] w fun e w' => e = .returned (.int .i64 r) ∧ Below w.heap.size w w' := by
  have HR1 := Aside0.mk hr1
  have HC1 := Aside0.mk hc1
  clear hr1 hc1
  have huF := Try.underlying58
  have huT := Try.underlying56
  unfold impl_FateOf.f at h
  obtain ⟨fp, A1_, h⟩ := Option.bind_eq_some_iff.mp h
  have A1_ := Aside0.mk A1_
  have hbw : Below w.heap.size w ((w.alloc (.cells #[.int .i64 a0_0, .int .i64 a0_1, .int .i64 a0_2, .int .i64 a0_3, .int .i64 a0_4, .int .i64 a0_5, .int .i64 a0_6, .int .i64 a0_7] 58)).alloc (.cells #[.int .i64 a0_0, .int .i64 a0_1, .int .i64 a0_2, .int .i64 a0_3, .int .i64 a0_4] 56)) := below_alloc (below_alloc (Below.refl w.heap.size w) _) _
  have HB := Aside0.mk hbw
  have HR := Aside0.mk (Kd.C_below HR1.out HB.out)
  have hf0 : ((w.alloc (.cells #[.int .i64 a0_0, .int .i64 a0_1, .int .i64 a0_2, .int .i64 a0_3, .int .i64 a0_4, .int .i64 a0_5, .int .i64 a0_6, .int .i64 a0_7] 58)).alloc (.cells #[.int .i64 a0_0, .int .i64 a0_1, .int .i64 a0_2, .int .i64 a0_3, .int .i64 a0_4] 56)).cell? ⟨w.heap.size, 0, none⟩ = some (.int .i64 a0_0) := by simp
  have hf1 : ((w.alloc (.cells #[.int .i64 a0_0, .int .i64 a0_1, .int .i64 a0_2, .int .i64 a0_3, .int .i64 a0_4, .int .i64 a0_5, .int .i64 a0_6, .int .i64 a0_7] 58)).alloc (.cells #[.int .i64 a0_0, .int .i64 a0_1, .int .i64 a0_2, .int .i64 a0_3, .int .i64 a0_4] 56)).cell? ⟨w.heap.size, 1, none⟩ = some (.int .i64 a0_1) := by simp
  have hf2 : ((w.alloc (.cells #[.int .i64 a0_0, .int .i64 a0_1, .int .i64 a0_2, .int .i64 a0_3, .int .i64 a0_4, .int .i64 a0_5, .int .i64 a0_6, .int .i64 a0_7] 58)).alloc (.cells #[.int .i64 a0_0, .int .i64 a0_1, .int .i64 a0_2, .int .i64 a0_3, .int .i64 a0_4] 56)).cell? ⟨w.heap.size, 2, none⟩ = some (.int .i64 a0_2) := by simp
  have hf3 : ((w.alloc (.cells #[.int .i64 a0_0, .int .i64 a0_1, .int .i64 a0_2, .int .i64 a0_3, .int .i64 a0_4, .int .i64 a0_5, .int .i64 a0_6, .int .i64 a0_7] 58)).alloc (.cells #[.int .i64 a0_0, .int .i64 a0_1, .int .i64 a0_2, .int .i64 a0_3, .int .i64 a0_4] 56)).cell? ⟨w.heap.size, 3, none⟩ = some (.int .i64 a0_3) := by simp
  have hf4 : ((w.alloc (.cells #[.int .i64 a0_0, .int .i64 a0_1, .int .i64 a0_2, .int .i64 a0_3, .int .i64 a0_4, .int .i64 a0_5, .int .i64 a0_6, .int .i64 a0_7] 58)).alloc (.cells #[.int .i64 a0_0, .int .i64 a0_1, .int .i64 a0_2, .int .i64 a0_3, .int .i64 a0_4] 56)).cell? ⟨w.heap.size, 4, none⟩ = some (.int .i64 a0_4) := by simp
  have hf5 : ((w.alloc (.cells #[.int .i64 a0_0, .int .i64 a0_1, .int .i64 a0_2, .int .i64 a0_3, .int .i64 a0_4, .int .i64 a0_5, .int .i64 a0_6, .int .i64 a0_7] 58)).alloc (.cells #[.int .i64 a0_0, .int .i64 a0_1, .int .i64 a0_2, .int .i64 a0_3, .int .i64 a0_4] 56)).cell? ⟨w.heap.size, 5, none⟩ = some (.int .i64 a0_5) := by simp
  have hf6 : ((w.alloc (.cells #[.int .i64 a0_0, .int .i64 a0_1, .int .i64 a0_2, .int .i64 a0_3, .int .i64 a0_4, .int .i64 a0_5, .int .i64 a0_6, .int .i64 a0_7] 58)).alloc (.cells #[.int .i64 a0_0, .int .i64 a0_1, .int .i64 a0_2, .int .i64 a0_3, .int .i64 a0_4] 56)).cell? ⟨w.heap.size, 6, none⟩ = some (.int .i64 a0_6) := by simp
  have hf7 : ((w.alloc (.cells #[.int .i64 a0_0, .int .i64 a0_1, .int .i64 a0_2, .int .i64 a0_3, .int .i64 a0_4, .int .i64 a0_5, .int .i64 a0_6, .int .i64 a0_7] 58)).alloc (.cells #[.int .i64 a0_0, .int .i64 a0_1, .int .i64 a0_2, .int .i64 a0_3, .int .i64 a0_4] 56)).cell? ⟨w.heap.size, 7, none⟩ = some (.int .i64 a0_7) := by simp
  have ht0 : ((w.alloc (.cells #[.int .i64 a0_0, .int .i64 a0_1, .int .i64 a0_2, .int .i64 a0_3, .int .i64 a0_4, .int .i64 a0_5, .int .i64 a0_6, .int .i64 a0_7] 58)).alloc (.cells #[.int .i64 a0_0, .int .i64 a0_1, .int .i64 a0_2, .int .i64 a0_3, .int .i64 a0_4] 56)).cell? ⟨w.heap.size + 1, 0, none⟩ = some (.int .i64 a0_0) := by simp
  have ht1 : ((w.alloc (.cells #[.int .i64 a0_0, .int .i64 a0_1, .int .i64 a0_2, .int .i64 a0_3, .int .i64 a0_4, .int .i64 a0_5, .int .i64 a0_6, .int .i64 a0_7] 58)).alloc (.cells #[.int .i64 a0_0, .int .i64 a0_1, .int .i64 a0_2, .int .i64 a0_3, .int .i64 a0_4] 56)).cell? ⟨w.heap.size + 1, 1, none⟩ = some (.int .i64 a0_1) := by simp
  have ht2 : ((w.alloc (.cells #[.int .i64 a0_0, .int .i64 a0_1, .int .i64 a0_2, .int .i64 a0_3, .int .i64 a0_4, .int .i64 a0_5, .int .i64 a0_6, .int .i64 a0_7] 58)).alloc (.cells #[.int .i64 a0_0, .int .i64 a0_1, .int .i64 a0_2, .int .i64 a0_3, .int .i64 a0_4] 56)).cell? ⟨w.heap.size + 1, 2, none⟩ = some (.int .i64 a0_2) := by simp
  have ht3 : ((w.alloc (.cells #[.int .i64 a0_0, .int .i64 a0_1, .int .i64 a0_2, .int .i64 a0_3, .int .i64 a0_4, .int .i64 a0_5, .int .i64 a0_6, .int .i64 a0_7] 58)).alloc (.cells #[.int .i64 a0_0, .int .i64 a0_1, .int .i64 a0_2, .int .i64 a0_3, .int .i64 a0_4] 56)).cell? ⟨w.heap.size + 1, 3, none⟩ = some (.int .i64 a0_3) := by simp
  have ht4 : ((w.alloc (.cells #[.int .i64 a0_0, .int .i64 a0_1, .int .i64 a0_2, .int .i64 a0_3, .int .i64 a0_4, .int .i64 a0_5, .int .i64 a0_6, .int .i64 a0_7] 58)).alloc (.cells #[.int .i64 a0_0, .int .i64 a0_1, .int .i64 a0_2, .int .i64 a0_3, .int .i64 a0_4] 56)).cell? ⟨w.heap.size + 1, 4, none⟩ = some (.int .i64 a0_4) := by simp
  have HF0 := Aside0.mk hf0
  have HF1 := Aside0.mk hf1
  have HF2 := Aside0.mk hf2
  have HF3 := Aside0.mk hf3
  have HF4 := Aside0.mk hf4
  have HF5 := Aside0.mk hf5
  have HF6 := Aside0.mk hf6
  have HF7 := Aside0.mk hf7
  have HT0 := Aside0.mk ht0
  have HT1 := Aside0.mk ht1
  have HT2 := Aside0.mk ht2
  have HT3 := Aside0.mk ht3
  have HT4 := Aside0.mk ht4
  clear hbw hf0 hf1 hf2 hf3 hf4 hf5 hf6 hf7 ht0 ht1 ht2 ht3 ht4
  have eg : ∀ args w, (callFunc 72 args).run Try.prog w = .ok (.enter 72 args) w := enters_of Try.func72 (by kernel_rfl) rfl
  have HCT : ∀ W : World, Kd.C k69 W A1 l1.length l1 → W.cell? ⟨w.heap.size + 1, 0, none⟩ = some (.int .i64 a0_0) → Calls Try.prog 71 #[.slice A1 l1.length c1, .func (.func 72) #[] #[.pointer (some ⟨w.heap.size + 1, 0, none⟩)]] W fun e w' => e = .returned (.bool (decide (0 ≤ EvLib.idxB (impl_FateOf.p a0_0) l1 0))) ∧ Below W.heap.size W w' :=
    fun W hC hc => impl_FateOf_cont.calls (impl_FateOf.p a0_0) 72 #[.pointer (some ⟨w.heap.size + 1, 0, none⟩)] eg A1 c1 l1 W hC (fun x V hb => impl_FateOf_1.calls x a0_0 (w.heap.size + 1) V (pw_cell_below hb hc))
  clear eg
  generalize EvLib.idxB (impl_FateOf.p a0_0) l1 0 = q at HCT h
  have HCT := Aside0.mk HCT
  by_cases c0 : fp = 0
  · subst c0
    rw [if_pos rfl] at h
    obtain ⟨due, A2_, h⟩ := Option.bind_eq_some_iff.mp h
    have A2_ := Aside0.mk A2_
    cases due with
    | false =>
      rw [if_neg (by simp)] at h
      obtain rfl := Option.some.inj h
      clear h HCT
      go_enter Try.func56, Try.ntmps56
      go_wp2_with (first | (go_at_call 69; refine (impl_FirstProved.calls k A1 c1 l1 a0_0 0 _ HR.out HC1.out A1_.out).mono ?_; rintro e w1 ⟨rfl, hb⟩; have hf0 := pw_cell_below hb HF0.out; have hf1 := pw_cell_below hb HF1.out; have hf2 := pw_cell_below hb HF2.out; have hf3 := pw_cell_below hb HF3.out; have hf4 := pw_cell_below hb HF4.out; have hf5 := pw_cell_below hb HF5.out; have hf6 := pw_cell_below hb HF6.out; have hf7 := pw_cell_below hb HF7.out; have ht0 := pw_cell_below hb HT0.out; have ht1 := pw_cell_below hb HT1.out; have ht2 := pw_cell_below hb HT2.out; have ht3 := pw_cell_below hb HT3.out; have ht4 := pw_cell_below hb HT4.out; have n_ := Aside0.mk (below_step HB.out hb); have m_ := Aside0.mk (Kd.C_below HR.out hb); clear HB HR; have HB := n_; have HR := m_; clear n_ m_; clear hb) | (go_at_call 70; refine (impl_IsDue.calls k a0_0 a0_1 a0_2 a0_3 a0_4 a0_5 a0_6 a0_7 a2 false _ A2_.out).mono ?_; rintro e w2 ⟨rfl, hb⟩; replace hf0 := pw_cell_below hb hf0; replace hf1 := pw_cell_below hb hf1; replace hf2 := pw_cell_below hb hf2; replace hf3 := pw_cell_below hb hf3; replace hf4 := pw_cell_below hb hf4; replace hf5 := pw_cell_below hb hf5; replace hf6 := pw_cell_below hb hf6; replace hf7 := pw_cell_below hb hf7; replace ht0 := pw_cell_below hb ht0; replace ht1 := pw_cell_below hb ht1; replace ht2 := pw_cell_below hb ht2; replace ht3 := pw_cell_below hb ht3; replace ht4 := pw_cell_below hb ht4; have n_ := Aside0.mk (below_step HB.out hb); have m_ := Aside0.mk (Kd.C_below HR.out hb); clear HB HR; have HB := n_; have HR := m_; clear n_ m_; clear hb))
      go_ret
      exact ⟨rfl, HB.out⟩
    | true =>
      rw [if_pos rfl] at h
      by_cases hq : 0 ≤ q
      · rw [if_pos hq] at h
        obtain rfl := Option.some.inj h
        clear h
        have hqb : decide (0 ≤ q) = true := decide_eq_true hq
        replace hq := eq_true hq
        go_enter Try.func56, Try.ntmps56
        go_wp2_with (first | (go_at_call 69; refine (impl_FirstProved.calls k A1 c1 l1 a0_0 0 _ HR.out HC1.out A1_.out).mono ?_; rintro e w1 ⟨rfl, hb⟩; have hf0 := pw_cell_below hb HF0.out; have hf1 := pw_cell_below hb HF1.out; have hf2 := pw_cell_below hb HF2.out; have hf3 := pw_cell_below hb HF3.out; have hf4 := pw_cell_below hb HF4.out; have hf5 := pw_cell_below hb HF5.out; have hf6 := pw_cell_below hb HF6.out; have hf7 := pw_cell_below hb HF7.out; have ht0 := pw_cell_below hb HT0.out; have ht1 := pw_cell_below hb HT1.out; have ht2 := pw_cell_below hb HT2.out; have ht3 := pw_cell_below hb HT3.out; have ht4 := pw_cell_below hb HT4.out; have n_ := Aside0.mk (below_step HB.out hb); have m_ := Aside0.mk (Kd.C_below HR.out hb); clear HB HR; have HB := n_; have HR := m_; clear n_ m_; clear hb) | (go_at_call 70; refine (impl_IsDue.calls k a0_0 a0_1 a0_2 a0_3 a0_4 a0_5 a0_6 a0_7 a2 true _ A2_.out).mono ?_; rintro e w2 ⟨rfl, hb⟩; replace hf0 := pw_cell_below hb hf0; replace hf1 := pw_cell_below hb hf1; replace hf2 := pw_cell_below hb hf2; replace hf3 := pw_cell_below hb hf3; replace hf4 := pw_cell_below hb hf4; replace hf5 := pw_cell_below hb hf5; replace hf6 := pw_cell_below hb hf6; replace hf7 := pw_cell_below hb hf7; replace ht0 := pw_cell_below hb ht0; replace ht1 := pw_cell_below hb ht1; replace ht2 := pw_cell_below hb ht2; replace ht3 := pw_cell_below hb ht3; replace ht4 := pw_cell_below hb ht4; have n_ := Aside0.mk (below_step HB.out hb); have m_ := Aside0.mk (Kd.C_below HR.out hb); clear HB HR; have HB := n_; have HR := m_; clear n_ m_; clear hb) | (go_at_call 71; refine (HCT.out _ HR.out ht0).mono ?_; rintro e w3 ⟨rfl, hb⟩; replace hf0 := pw_cell_below hb hf0; replace hf1 := pw_cell_below hb hf1; replace hf2 := pw_cell_below hb hf2; replace hf3 := pw_cell_below hb hf3; replace hf4 := pw_cell_below hb hf4; replace hf5 := pw_cell_below hb hf5; replace hf6 := pw_cell_below hb hf6; replace hf7 := pw_cell_below hb hf7; replace ht0 := pw_cell_below hb ht0; replace ht1 := pw_cell_below hb ht1; replace ht2 := pw_cell_below hb ht2; replace ht3 := pw_cell_below hb ht3; replace ht4 := pw_cell_below hb ht4; have n_ := Aside0.mk (below_step HB.out hb); have m_ := Aside0.mk (Kd.C_below HR.out hb); clear HB HR; have HB := n_; have HR := m_; clear n_ m_; clear hb))
        go_ret
        exact ⟨rfl, HB.out⟩
      · rw [if_neg hq] at h
        have hqb : decide (0 ≤ q) = false := decide_eq_false hq
        replace hq := eq_false hq
        by_cases k7 : a0_1 = 7
        · skip
          have k7a : (a0_1 == 7) = true := beq_iff_eq.2 k7
          have k7b : (a0_1 != 7) = false := by simp [k7]
          have k7c : decide (a0_1 = 7) = true := decide_eq_true k7
          have ht_ : impl_FateOf.tail a0_1 a0_4 a0_7 = 5 := by unfold impl_FateOf.tail; rw [if_pos k7]
          rw [ht_] at h
          obtain rfl := Option.some.inj h
          clear h ht_
          replace k7 := eq_true k7
          go_enter Try.func56, Try.ntmps56
          go_wp2_with (first | (go_at_call 69; refine (impl_FirstProved.calls k A1 c1 l1 a0_0 0 _ HR.out HC1.out A1_.out).mono ?_; rintro e w1 ⟨rfl, hb⟩; have hf0 := pw_cell_below hb HF0.out; have hf1 := pw_cell_below hb HF1.out; have hf2 := pw_cell_below hb HF2.out; have hf3 := pw_cell_below hb HF3.out; have hf4 := pw_cell_below hb HF4.out; have hf5 := pw_cell_below hb HF5.out; have hf6 := pw_cell_below hb HF6.out; have hf7 := pw_cell_below hb HF7.out; have ht0 := pw_cell_below hb HT0.out; have ht1 := pw_cell_below hb HT1.out; have ht2 := pw_cell_below hb HT2.out; have ht3 := pw_cell_below hb HT3.out; have ht4 := pw_cell_below hb HT4.out; have n_ := Aside0.mk (below_step HB.out hb); have m_ := Aside0.mk (Kd.C_below HR.out hb); clear HB HR; have HB := n_; have HR := m_; clear n_ m_; clear hb) | (go_at_call 70; refine (impl_IsDue.calls k a0_0 a0_1 a0_2 a0_3 a0_4 a0_5 a0_6 a0_7 a2 true _ A2_.out).mono ?_; rintro e w2 ⟨rfl, hb⟩; replace hf0 := pw_cell_below hb hf0; replace hf1 := pw_cell_below hb hf1; replace hf2 := pw_cell_below hb hf2; replace hf3 := pw_cell_below hb hf3; replace hf4 := pw_cell_below hb hf4; replace hf5 := pw_cell_below hb hf5; replace hf6 := pw_cell_below hb hf6; replace hf7 := pw_cell_below hb hf7; replace ht0 := pw_cell_below hb ht0; replace ht1 := pw_cell_below hb ht1; replace ht2 := pw_cell_below hb ht2; replace ht3 := pw_cell_below hb ht3; replace ht4 := pw_cell_below hb ht4; have n_ := Aside0.mk (below_step HB.out hb); have m_ := Aside0.mk (Kd.C_below HR.out hb); clear HB HR; have HB := n_; have HR := m_; clear n_ m_; clear hb) | (go_at_call 71; refine (HCT.out _ HR.out ht0).mono ?_; rintro e w3 ⟨rfl, hb⟩; replace hf0 := pw_cell_below hb hf0; replace hf1 := pw_cell_below hb hf1; replace hf2 := pw_cell_below hb hf2; replace hf3 := pw_cell_below hb hf3; replace hf4 := pw_cell_below hb hf4; replace hf5 := pw_cell_below hb hf5; replace hf6 := pw_cell_below hb hf6; replace hf7 := pw_cell_below hb hf7; replace ht0 := pw_cell_below hb ht0; replace ht1 := pw_cell_below hb ht1; replace ht2 := pw_cell_below hb ht2; replace ht3 := pw_cell_below hb ht3; replace ht4 := pw_cell_below hb ht4; have n_ := Aside0.mk (below_step HB.out hb); have m_ := Aside0.mk (Kd.C_below HR.out hb); clear HB HR; have HB := n_; have HR := m_; clear n_ m_; clear hb))
          go_ret
          exact ⟨rfl, HB.out⟩
        · skip
          have k7a : (a0_1 == 7) = false := beq_eq_false_iff_ne.2 k7
          have k7b : (a0_1 != 7) = true := by simp [k7]
          have k7c : decide (a0_1 = 7) = false := decide_eq_false k7
          by_cases z0 : a0_4 = 0
          · skip
            have z0a : (a0_4 == 0) = true := beq_iff_eq.2 z0
            have z0b : (a0_4 != 0) = false := by simp [z0]
            have z0c : decide (a0_4 = 0) = true := decide_eq_true z0
            have ht_ : impl_FateOf.tail a0_1 a0_4 a0_7 = 5 := by unfold impl_FateOf.tail; rw [if_neg k7, if_pos z0]
            rw [ht_] at h
            obtain rfl := Option.some.inj h
            clear h ht_
            replace k7 := eq_false k7
            replace z0 := eq_true z0
            go_enter Try.func56, Try.ntmps56
            go_wp2_with (first | (go_at_call 69; refine (impl_FirstProved.calls k A1 c1 l1 a0_0 0 _ HR.out HC1.out A1_.out).mono ?_; rintro e w1 ⟨rfl, hb⟩; have hf0 := pw_cell_below hb HF0.out; have hf1 := pw_cell_below hb HF1.out; have hf2 := pw_cell_below hb HF2.out; have hf3 := pw_cell_below hb HF3.out; have hf4 := pw_cell_below hb HF4.out; have hf5 := pw_cell_below hb HF5.out; have hf6 := pw_cell_below hb HF6.out; have hf7 := pw_cell_below hb HF7.out; have ht0 := pw_cell_below hb HT0.out; have ht1 := pw_cell_below hb HT1.out; have ht2 := pw_cell_below hb HT2.out; have ht3 := pw_cell_below hb HT3.out; have ht4 := pw_cell_below hb HT4.out; have n_ := Aside0.mk (below_step HB.out hb); have m_ := Aside0.mk (Kd.C_below HR.out hb); clear HB HR; have HB := n_; have HR := m_; clear n_ m_; clear hb) | (go_at_call 70; refine (impl_IsDue.calls k a0_0 a0_1 a0_2 a0_3 a0_4 a0_5 a0_6 a0_7 a2 true _ A2_.out).mono ?_; rintro e w2 ⟨rfl, hb⟩; replace hf0 := pw_cell_below hb hf0; replace hf1 := pw_cell_below hb hf1; replace hf2 := pw_cell_below hb hf2; replace hf3 := pw_cell_below hb hf3; replace hf4 := pw_cell_below hb hf4; replace hf5 := pw_cell_below hb hf5; replace hf6 := pw_cell_below hb hf6; replace hf7 := pw_cell_below hb hf7; replace ht0 := pw_cell_below hb ht0; replace ht1 := pw_cell_below hb ht1; replace ht2 := pw_cell_below hb ht2; replace ht3 := pw_cell_below hb ht3; replace ht4 := pw_cell_below hb ht4; have n_ := Aside0.mk (below_step HB.out hb); have m_ := Aside0.mk (Kd.C_below HR.out hb); clear HB HR; have HB := n_; have HR := m_; clear n_ m_; clear hb) | (go_at_call 71; refine (HCT.out _ HR.out ht0).mono ?_; rintro e w3 ⟨rfl, hb⟩; replace hf0 := pw_cell_below hb hf0; replace hf1 := pw_cell_below hb hf1; replace hf2 := pw_cell_below hb hf2; replace hf3 := pw_cell_below hb hf3; replace hf4 := pw_cell_below hb hf4; replace hf5 := pw_cell_below hb hf5; replace hf6 := pw_cell_below hb hf6; replace hf7 := pw_cell_below hb hf7; replace ht0 := pw_cell_below hb ht0; replace ht1 := pw_cell_below hb ht1; replace ht2 := pw_cell_below hb ht2; replace ht3 := pw_cell_below hb ht3; replace ht4 := pw_cell_below hb ht4; have n_ := Aside0.mk (below_step HB.out hb); have m_ := Aside0.mk (Kd.C_below HR.out hb); clear HB HR; have HB := n_; have HR := m_; clear n_ m_; clear hb))
            go_ret
            exact ⟨rfl, HB.out⟩
          · skip
            have z0a : (a0_4 == 0) = false := beq_eq_false_iff_ne.2 z0
            have z0b : (a0_4 != 0) = true := by simp [z0]
            have z0c : decide (a0_4 = 0) = false := decide_eq_false z0
            by_cases w5 : 5000 < a0_4
            · skip
              have w5a : decide (5000 < a0_4) = true := decide_eq_true w5
              have w5b : decide (a0_4 ≤ 5000) = false := decide_eq_false (by omega)
              have w5c : (a0_4 ≤ 5000) = False := eq_false (by omega)
              by_cases n0 : a0_7 = 0
              · skip
                have n0a : (a0_7 == 0) = true := beq_iff_eq.2 n0
                have n0b : (a0_7 != 0) = false := by simp [n0]
                have n0c : decide (a0_7 = 0) = true := decide_eq_true n0
                have ht_ : impl_FateOf.tail a0_1 a0_4 a0_7 = 3 := by unfold impl_FateOf.tail; rw [if_neg k7, if_neg z0, if_pos n0, if_pos w5]
                rw [ht_] at h
                obtain rfl := Option.some.inj h
                clear h ht_
                replace k7 := eq_false k7
                replace z0 := eq_false z0
                replace w5 := eq_true w5
                replace n0 := eq_true n0
                go_enter Try.func56, Try.ntmps56
                go_wp2_with (first | (go_at_call 69; refine (impl_FirstProved.calls k A1 c1 l1 a0_0 0 _ HR.out HC1.out A1_.out).mono ?_; rintro e w1 ⟨rfl, hb⟩; have hf0 := pw_cell_below hb HF0.out; have hf1 := pw_cell_below hb HF1.out; have hf2 := pw_cell_below hb HF2.out; have hf3 := pw_cell_below hb HF3.out; have hf4 := pw_cell_below hb HF4.out; have hf5 := pw_cell_below hb HF5.out; have hf6 := pw_cell_below hb HF6.out; have hf7 := pw_cell_below hb HF7.out; have ht0 := pw_cell_below hb HT0.out; have ht1 := pw_cell_below hb HT1.out; have ht2 := pw_cell_below hb HT2.out; have ht3 := pw_cell_below hb HT3.out; have ht4 := pw_cell_below hb HT4.out; have n_ := Aside0.mk (below_step HB.out hb); have m_ := Aside0.mk (Kd.C_below HR.out hb); clear HB HR; have HB := n_; have HR := m_; clear n_ m_; clear hb) | (go_at_call 70; refine (impl_IsDue.calls k a0_0 a0_1 a0_2 a0_3 a0_4 a0_5 a0_6 a0_7 a2 true _ A2_.out).mono ?_; rintro e w2 ⟨rfl, hb⟩; replace hf0 := pw_cell_below hb hf0; replace hf1 := pw_cell_below hb hf1; replace hf2 := pw_cell_below hb hf2; replace hf3 := pw_cell_below hb hf3; replace hf4 := pw_cell_below hb hf4; replace hf5 := pw_cell_below hb hf5; replace hf6 := pw_cell_below hb hf6; replace hf7 := pw_cell_below hb hf7; replace ht0 := pw_cell_below hb ht0; replace ht1 := pw_cell_below hb ht1; replace ht2 := pw_cell_below hb ht2; replace ht3 := pw_cell_below hb ht3; replace ht4 := pw_cell_below hb ht4; have n_ := Aside0.mk (below_step HB.out hb); have m_ := Aside0.mk (Kd.C_below HR.out hb); clear HB HR; have HB := n_; have HR := m_; clear n_ m_; clear hb) | (go_at_call 71; refine (HCT.out _ HR.out ht0).mono ?_; rintro e w3 ⟨rfl, hb⟩; replace hf0 := pw_cell_below hb hf0; replace hf1 := pw_cell_below hb hf1; replace hf2 := pw_cell_below hb hf2; replace hf3 := pw_cell_below hb hf3; replace hf4 := pw_cell_below hb hf4; replace hf5 := pw_cell_below hb hf5; replace hf6 := pw_cell_below hb hf6; replace hf7 := pw_cell_below hb hf7; replace ht0 := pw_cell_below hb ht0; replace ht1 := pw_cell_below hb ht1; replace ht2 := pw_cell_below hb ht2; replace ht3 := pw_cell_below hb ht3; replace ht4 := pw_cell_below hb ht4; have n_ := Aside0.mk (below_step HB.out hb); have m_ := Aside0.mk (Kd.C_below HR.out hb); clear HB HR; have HB := n_; have HR := m_; clear n_ m_; clear hb))
                go_ret
                exact ⟨rfl, HB.out⟩
              · skip
                have n0a : (a0_7 == 0) = false := beq_eq_false_iff_ne.2 n0
                have n0b : (a0_7 != 0) = true := by simp [n0]
                have n0c : decide (a0_7 = 0) = false := decide_eq_false n0
                have ht_ : impl_FateOf.tail a0_1 a0_4 a0_7 = 3 := by unfold impl_FateOf.tail; rw [if_neg k7, if_neg z0, if_neg n0, if_neg (by omega)]
                rw [ht_] at h
                obtain rfl := Option.some.inj h
                clear h ht_
                replace k7 := eq_false k7
                replace z0 := eq_false z0
                replace w5 := eq_true w5
                replace n0 := eq_false n0
                go_enter Try.func56, Try.ntmps56
                go_wp2_with (first | (go_at_call 69; refine (impl_FirstProved.calls k A1 c1 l1 a0_0 0 _ HR.out HC1.out A1_.out).mono ?_; rintro e w1 ⟨rfl, hb⟩; have hf0 := pw_cell_below hb HF0.out; have hf1 := pw_cell_below hb HF1.out; have hf2 := pw_cell_below hb HF2.out; have hf3 := pw_cell_below hb HF3.out; have hf4 := pw_cell_below hb HF4.out; have hf5 := pw_cell_below hb HF5.out; have hf6 := pw_cell_below hb HF6.out; have hf7 := pw_cell_below hb HF7.out; have ht0 := pw_cell_below hb HT0.out; have ht1 := pw_cell_below hb HT1.out; have ht2 := pw_cell_below hb HT2.out; have ht3 := pw_cell_below hb HT3.out; have ht4 := pw_cell_below hb HT4.out; have n_ := Aside0.mk (below_step HB.out hb); have m_ := Aside0.mk (Kd.C_below HR.out hb); clear HB HR; have HB := n_; have HR := m_; clear n_ m_; clear hb) | (go_at_call 70; refine (impl_IsDue.calls k a0_0 a0_1 a0_2 a0_3 a0_4 a0_5 a0_6 a0_7 a2 true _ A2_.out).mono ?_; rintro e w2 ⟨rfl, hb⟩; replace hf0 := pw_cell_below hb hf0; replace hf1 := pw_cell_below hb hf1; replace hf2 := pw_cell_below hb hf2; replace hf3 := pw_cell_below hb hf3; replace hf4 := pw_cell_below hb hf4; replace hf5 := pw_cell_below hb hf5; replace hf6 := pw_cell_below hb hf6; replace hf7 := pw_cell_below hb hf7; replace ht0 := pw_cell_below hb ht0; replace ht1 := pw_cell_below hb ht1; replace ht2 := pw_cell_below hb ht2; replace ht3 := pw_cell_below hb ht3; replace ht4 := pw_cell_below hb ht4; have n_ := Aside0.mk (below_step HB.out hb); have m_ := Aside0.mk (Kd.C_below HR.out hb); clear HB HR; have HB := n_; have HR := m_; clear n_ m_; clear hb) | (go_at_call 71; refine (HCT.out _ HR.out ht0).mono ?_; rintro e w3 ⟨rfl, hb⟩; replace hf0 := pw_cell_below hb hf0; replace hf1 := pw_cell_below hb hf1; replace hf2 := pw_cell_below hb hf2; replace hf3 := pw_cell_below hb hf3; replace hf4 := pw_cell_below hb hf4; replace hf5 := pw_cell_below hb hf5; replace hf6 := pw_cell_below hb hf6; replace hf7 := pw_cell_below hb hf7; replace ht0 := pw_cell_below hb ht0; replace ht1 := pw_cell_below hb ht1; replace ht2 := pw_cell_below hb ht2; replace ht3 := pw_cell_below hb ht3; replace ht4 := pw_cell_below hb ht4; have n_ := Aside0.mk (below_step HB.out hb); have m_ := Aside0.mk (Kd.C_below HR.out hb); clear HB HR; have HB := n_; have HR := m_; clear n_ m_; clear hb))
                go_ret
                exact ⟨rfl, HB.out⟩
            · skip
              have w5a : decide (5000 < a0_4) = false := decide_eq_false w5
              have w5b : decide (a0_4 ≤ 5000) = true := decide_eq_true (by omega)
              have w5c : (a0_4 ≤ 5000) = True := eq_true (by omega)
              by_cases n0 : a0_7 = 0
              · skip
                have n0a : (a0_7 == 0) = true := beq_iff_eq.2 n0
                have n0b : (a0_7 != 0) = false := by simp [n0]
                have n0c : decide (a0_7 = 0) = true := decide_eq_true n0
                have ht_ : impl_FateOf.tail a0_1 a0_4 a0_7 = 4 := by unfold impl_FateOf.tail; rw [if_neg k7, if_neg z0, if_pos n0, if_neg w5]
                rw [ht_] at h
                obtain rfl := Option.some.inj h
                clear h ht_
                replace k7 := eq_false k7
                replace z0 := eq_false z0
                replace w5 := eq_false w5
                replace n0 := eq_true n0
                go_enter Try.func56, Try.ntmps56
                go_wp2_with (first | (go_at_call 69; refine (impl_FirstProved.calls k A1 c1 l1 a0_0 0 _ HR.out HC1.out A1_.out).mono ?_; rintro e w1 ⟨rfl, hb⟩; have hf0 := pw_cell_below hb HF0.out; have hf1 := pw_cell_below hb HF1.out; have hf2 := pw_cell_below hb HF2.out; have hf3 := pw_cell_below hb HF3.out; have hf4 := pw_cell_below hb HF4.out; have hf5 := pw_cell_below hb HF5.out; have hf6 := pw_cell_below hb HF6.out; have hf7 := pw_cell_below hb HF7.out; have ht0 := pw_cell_below hb HT0.out; have ht1 := pw_cell_below hb HT1.out; have ht2 := pw_cell_below hb HT2.out; have ht3 := pw_cell_below hb HT3.out; have ht4 := pw_cell_below hb HT4.out; have n_ := Aside0.mk (below_step HB.out hb); have m_ := Aside0.mk (Kd.C_below HR.out hb); clear HB HR; have HB := n_; have HR := m_; clear n_ m_; clear hb) | (go_at_call 70; refine (impl_IsDue.calls k a0_0 a0_1 a0_2 a0_3 a0_4 a0_5 a0_6 a0_7 a2 true _ A2_.out).mono ?_; rintro e w2 ⟨rfl, hb⟩; replace hf0 := pw_cell_below hb hf0; replace hf1 := pw_cell_below hb hf1; replace hf2 := pw_cell_below hb hf2; replace hf3 := pw_cell_below hb hf3; replace hf4 := pw_cell_below hb hf4; replace hf5 := pw_cell_below hb hf5; replace hf6 := pw_cell_below hb hf6; replace hf7 := pw_cell_below hb hf7; replace ht0 := pw_cell_below hb ht0; replace ht1 := pw_cell_below hb ht1; replace ht2 := pw_cell_below hb ht2; replace ht3 := pw_cell_below hb ht3; replace ht4 := pw_cell_below hb ht4; have n_ := Aside0.mk (below_step HB.out hb); have m_ := Aside0.mk (Kd.C_below HR.out hb); clear HB HR; have HB := n_; have HR := m_; clear n_ m_; clear hb) | (go_at_call 71; refine (HCT.out _ HR.out ht0).mono ?_; rintro e w3 ⟨rfl, hb⟩; replace hf0 := pw_cell_below hb hf0; replace hf1 := pw_cell_below hb hf1; replace hf2 := pw_cell_below hb hf2; replace hf3 := pw_cell_below hb hf3; replace hf4 := pw_cell_below hb hf4; replace hf5 := pw_cell_below hb hf5; replace hf6 := pw_cell_below hb hf6; replace hf7 := pw_cell_below hb hf7; replace ht0 := pw_cell_below hb ht0; replace ht1 := pw_cell_below hb ht1; replace ht2 := pw_cell_below hb ht2; replace ht3 := pw_cell_below hb ht3; replace ht4 := pw_cell_below hb ht4; have n_ := Aside0.mk (below_step HB.out hb); have m_ := Aside0.mk (Kd.C_below HR.out hb); clear HB HR; have HB := n_; have HR := m_; clear n_ m_; clear hb))
                go_ret
                exact ⟨rfl, HB.out⟩
              · skip
                have n0a : (a0_7 == 0) = false := beq_eq_false_iff_ne.2 n0
                have n0b : (a0_7 != 0) = true := by simp [n0]
                have n0c : decide (a0_7 = 0) = false := decide_eq_false n0
                have ht_ : impl_FateOf.tail a0_1 a0_4 a0_7 = 2 := by unfold impl_FateOf.tail; rw [if_neg k7, if_neg z0, if_neg n0, if_pos (by omega)]
                rw [ht_] at h
                obtain rfl := Option.some.inj h
                clear h ht_
                replace k7 := eq_false k7
                replace z0 := eq_false z0
                replace w5 := eq_false w5
                replace n0 := eq_false n0
                go_enter Try.func56, Try.ntmps56
                go_wp2_with (first | (go_at_call 69; refine (impl_FirstProved.calls k A1 c1 l1 a0_0 0 _ HR.out HC1.out A1_.out).mono ?_; rintro e w1 ⟨rfl, hb⟩; have hf0 := pw_cell_below hb HF0.out; have hf1 := pw_cell_below hb HF1.out; have hf2 := pw_cell_below hb HF2.out; have hf3 := pw_cell_below hb HF3.out; have hf4 := pw_cell_below hb HF4.out; have hf5 := pw_cell_below hb HF5.out; have hf6 := pw_cell_below hb HF6.out; have hf7 := pw_cell_below hb HF7.out; have ht0 := pw_cell_below hb HT0.out; have ht1 := pw_cell_below hb HT1.out; have ht2 := pw_cell_below hb HT2.out; have ht3 := pw_cell_below hb HT3.out; have ht4 := pw_cell_below hb HT4.out; have n_ := Aside0.mk (below_step HB.out hb); have m_ := Aside0.mk (Kd.C_below HR.out hb); clear HB HR; have HB := n_; have HR := m_; clear n_ m_; clear hb) | (go_at_call 70; refine (impl_IsDue.calls k a0_0 a0_1 a0_2 a0_3 a0_4 a0_5 a0_6 a0_7 a2 true _ A2_.out).mono ?_; rintro e w2 ⟨rfl, hb⟩; replace hf0 := pw_cell_below hb hf0; replace hf1 := pw_cell_below hb hf1; replace hf2 := pw_cell_below hb hf2; replace hf3 := pw_cell_below hb hf3; replace hf4 := pw_cell_below hb hf4; replace hf5 := pw_cell_below hb hf5; replace hf6 := pw_cell_below hb hf6; replace hf7 := pw_cell_below hb hf7; replace ht0 := pw_cell_below hb ht0; replace ht1 := pw_cell_below hb ht1; replace ht2 := pw_cell_below hb ht2; replace ht3 := pw_cell_below hb ht3; replace ht4 := pw_cell_below hb ht4; have n_ := Aside0.mk (below_step HB.out hb); have m_ := Aside0.mk (Kd.C_below HR.out hb); clear HB HR; have HB := n_; have HR := m_; clear n_ m_; clear hb) | (go_at_call 71; refine (HCT.out _ HR.out ht0).mono ?_; rintro e w3 ⟨rfl, hb⟩; replace hf0 := pw_cell_below hb hf0; replace hf1 := pw_cell_below hb hf1; replace hf2 := pw_cell_below hb hf2; replace hf3 := pw_cell_below hb hf3; replace hf4 := pw_cell_below hb hf4; replace hf5 := pw_cell_below hb hf5; replace hf6 := pw_cell_below hb hf6; replace hf7 := pw_cell_below hb hf7; replace ht0 := pw_cell_below hb ht0; replace ht1 := pw_cell_below hb ht1; replace ht2 := pw_cell_below hb ht2; replace ht3 := pw_cell_below hb ht3; replace ht4 := pw_cell_below hb ht4; have n_ := Aside0.mk (below_step HB.out hb); have m_ := Aside0.mk (Kd.C_below HR.out hb); clear HB HR; have HB := n_; have HR := m_; clear n_ m_; clear hb))
                go_ret
                exact ⟨rfl, HB.out⟩
  · rw [if_neg c0] at h
    obtain rfl := Option.some.inj h
    clear h HCT
    have c0a : (fp == 0) = false := beq_eq_false_iff_ne.2 c0
    have c0b : (fp != 0) = true := by simp [c0]
    have c0c : decide (fp = 0) = false := decide_eq_false c0
    replace c0 := eq_false c0
    go_enter Try.func56, Try.ntmps56
    go_wp2_with (first | (go_at_call 69; refine (impl_FirstProved.calls k A1 c1 l1 a0_0 fp _ HR.out HC1.out A1_.out).mono ?_; rintro e w1 ⟨rfl, hb⟩; have hf0 := pw_cell_below hb HF0.out; have hf1 := pw_cell_below hb HF1.out; have hf2 := pw_cell_below hb HF2.out; have hf3 := pw_cell_below hb HF3.out; have hf4 := pw_cell_below hb HF4.out; have hf5 := pw_cell_below hb HF5.out; have hf6 := pw_cell_below hb HF6.out; have hf7 := pw_cell_below hb HF7.out; have ht0 := pw_cell_below hb HT0.out; have ht1 := pw_cell_below hb HT1.out; have ht2 := pw_cell_below hb HT2.out; have ht3 := pw_cell_below hb HT3.out; have ht4 := pw_cell_below hb HT4.out; have n_ := Aside0.mk (below_step HB.out hb); have m_ := Aside0.mk (Kd.C_below HR.out hb); clear HB HR; have HB := n_; have HR := m_; clear n_ m_; clear hb))
    go_ret
    exact ⟨rfl, HB.out⟩


/-! ### impl_NextOpen: function 57 -/
mutual
def impl_NextOpen.j0 : Nat → List Bool → Int → Bool → Option (Int)
  | 0, _, _, _ => none
  | k + 1, x0, x1, x12 => if x12 = true then (some (-1)) else (impl_NextOpen.l0 k x0 x1)
def impl_NextOpen.l0 : Nat → List Bool → Int → Option (Int)
  | 0, _, _ => none
  | k + 1, x0, x1 => if 0 ≤ (Int.tmod x1 7) then (if (Int.tmod x1 7) < (x0.length : Int) then (if (rdOf false x0 (Int.tmod x1 7) = true) then (some x1) else (impl_NextOpen.l0 k x0 (wrap64 (x1 + 1)))) else (none)) else (none)
end
def impl_NextOpen.f (k : Nat) (l0 : List Bool) (a1 : Int) : Option (Int) := (impl_IsCalendar.f k l0).bind fun t205 => (if t205 = true then ((impl_InRange.f a1 0 100000).bind fun t206 => (impl_NextOpen.j0 k l0 a1 (!t206))) else (impl_NextOpen.j0 k l0 a1 true))
theorem impl_NextOpen.mono_l : ∀ k, (∀ y0 y1 y2, LeO (impl_NextOpen.j0 k y0 y1 y2) (impl_NextOpen.j0 (k + 1) y0 y1 y2)) ∧ (∀ y0 y1, LeO (impl_NextOpen.l0 k y0 y1) (impl_NextOpen.l0 (k + 1) y0 y1))
  | 0 => ⟨fun _ _ _ r h => by simp [impl_NextOpen.j0] at h, fun _ _ r h => by simp [impl_NextOpen.l0] at h⟩
  | k + 1 => by
    obtain ⟨ih0, ih1⟩ := impl_NextOpen.mono_l k
    refine ⟨?_, ?_⟩
    · intro y0 y1 y2
      unfold impl_NextOpen.j0
      repeat' first
      | (with_reducible exact ih0 _ _ _)
      | (with_reducible exact ih1 _ _)
      | (with_reducible exact impl_IsCalendar.mono _ _)
      | (with_reducible exact LeO.refl _)
      | (with_reducible exact LeO.none _)
      | (with_reducible refine LeO.ite ?_ ?_)
      | (with_reducible refine LeO.bind ?_ (fun _ => ?_))
      | exact ih0 _ _ _
      | exact ih1 _ _
      | exact impl_IsCalendar.mono _ _
      | exact LeO.none _
      | refine LeO.ite ?_ ?_
      | refine LeO.bind ?_ (fun _ => ?_)
    · intro y0 y1
      unfold impl_NextOpen.l0
      repeat' first
      | (with_reducible exact ih0 _ _ _)
      | (with_reducible exact ih1 _ _)
      | (with_reducible exact impl_IsCalendar.mono _ _)
      | (with_reducible exact LeO.refl _)
      | (with_reducible exact LeO.none _)
      | (with_reducible refine LeO.ite ?_ ?_)
      | (with_reducible refine LeO.bind ?_ (fun _ => ?_))
      | exact ih0 _ _ _
      | exact ih1 _ _
      | exact impl_IsCalendar.mono _ _
      | exact LeO.none _
      | refine LeO.ite ?_ ?_
      | refine LeO.bind ?_ (fun _ => ?_)
theorem impl_NextOpen.mono : ∀ a0 a1 k, LeO (impl_NextOpen.f k a0 a1) (impl_NextOpen.f (k + 1) a0 a1) := by
  intro a0 a1 k
  obtain ⟨ih0, ih1⟩ := impl_NextOpen.mono_l k
  unfold impl_NextOpen.f
  repeat' first
      | (with_reducible exact ih0 _ _ _)
      | (with_reducible exact ih1 _ _)
      | (with_reducible exact impl_IsCalendar.mono _ _)
      | (with_reducible exact LeO.refl _)
      | (with_reducible exact LeO.none _)
      | (with_reducible refine LeO.ite ?_ ?_)
      | (with_reducible refine LeO.bind ?_ (fun _ => ?_))
      | exact ih0 _ _ _
      | exact ih1 _ _
      | exact impl_IsCalendar.mono _ _
      | exact LeO.none _
      | refine LeO.ite ?_ ?_
      | refine LeO.bind ?_ (fun _ => ?_)
theorem y112_ {P : Prop} (h : P := by repeat (first | exact Drawn0.refl _ | apply Drawn0.step)) : P := h
set_option maxHeartbeats 8000000 in
set_option maxRecDepth 100000 in
theorem impl_NextOpen.calls (k : Nat) (A0 : Option Addr) (c0 : Nat) (l0 : List Bool) (a1 : Int) (r : Int) (w : World) (hr0 : Kd.C Kd.bool w A0 l0.length l0) (hc0 : l0.length ≤ c0) (h : impl_NextOpen.f k l0 a1 = some r) :
    Calls Try.prog 57 #[.slice A0 l0.length c0, .int .i64 a1] w fun e w' => e = .returned (.int .i64 r) ∧ Drawn0 w w' := by
  have HR0 := Aside0.mk hr0
  have HC0 := Aside0.mk hc0
  clear hr0 hc0
  have H : ((impl_IsCalendar.f k l0).bind fun t205 => (if t205 = true then ((impl_InRange.f a1 0 100000).bind fun t206 => (impl_NextOpen.j0 k l0 a1 (!t206))) else (impl_NextOpen.j0 k l0 a1 true))) = some r := h
  clear h
  have HC3 := Aside0.mk H
  clear H
  go_enter Try.func57, Try.ntmps57
  go_upto_region 1 with (fail)
  go_cut [12] (fun v12 wc => ∃ (kq : Nat) (x12_2 : Bool), v12 = .bool x12_2 ∧ Aside0 (impl_NextOpen.j0 kq l0 a1 x12_2 = some r) ∧ Aside0 (kq ≤ k) ∧ Drawn0 w wc)
  case first =>
    have H := HC3.out
    clear HC3
    replace H := Option.bind_eq_some_iff.mp H
    obtain ⟨t205, A40, H⟩ := H
    replace H : (if t205 = true then ((impl_InRange.f a1 0 100000).bind fun t206 => (impl_NextOpen.j0 k l0 a1 (!t206))) else (impl_NextOpen.j0 k l0 a1 true)) = some r := H
    have A4 := Aside0.mk A40
    clear A40
    by_cases c5 : t205 = true
    · subst c5
      have H1 : ((impl_InRange.f a1 0 100000).bind fun t206 => (impl_NextOpen.j0 k l0 a1 (!t206))) = some r := by rw [if_pos rfl] at H; exact H
      clear H
      have H := H1
      clear H1
      replace H := Option.bind_eq_some_iff.mp H
      obtain ⟨t206, A60, H⟩ := H
      replace H : (impl_NextOpen.j0 k l0 a1 (!t206)) = some r := H
      have A6 := Aside0.mk A60
      clear A60
      have H' := Aside0.mk H
      clear H
      go_wp2_with (first | ((with_reducible refine gate_callee (f := 55) rfl ?_); refine goesL_ (some 6) rfl rfl Try.func55 (by kernel_rfl) rfl #[.slice A0 l0.length c0] rfl (by (try simp only [List.map_toArray, List.map_cons, List.map_nil]); first | done | rfl | (simp only [List.length_drop, List.length_take]; rfl)) ?_; (with_reducible refine (impl_IsCalendar.calls k _ _ l0 true _ ?side1 ?side2 A4.out).mono ?_); (case side1 => repeat (first | exact HR0.out | (with_reducible refine Kd.C_alloc ?_ _) | (with_reducible refine Kd.C_drewN ?_ _) | (with_reducible refine Kd.C_drew ?_))); (case side2 => exact HC0.out); rintro e w' ⟨rfl, ⟨nd, rfl⟩⟩; refine ⟨_, rfl, ?_⟩) | (go_at_call 48; (with_reducible refine (impl_InRange.calls a1 0 100000 t206 _ A6.out).mono ?_); rintro e w' ⟨rfl, ⟨nd, rfl⟩⟩))
      go_meet
      case rel => exact ⟨_, (!t206), (by first | rfl | (simp; done) | (simp [*]; done)), H', ⟨by first | omega | exact Nat.le_refl _⟩, y112_⟩
    · replace c5 := Bool.eq_false_iff.mpr c5
      subst c5
      have H1 : (impl_NextOpen.j0 k l0 a1 true) = some r := by rw [if_neg (show ¬ (false = true) by decide)] at H; exact H
      clear H
      have H := H1
      clear H1
      have H' := Aside0.mk H
      clear H
      go_wp2_with (first | ((with_reducible refine gate_callee (f := 55) rfl ?_); refine goesL_ (some 6) rfl rfl Try.func55 (by kernel_rfl) rfl #[.slice A0 l0.length c0] rfl (by (try simp only [List.map_toArray, List.map_cons, List.map_nil]); first | done | rfl | (simp only [List.length_drop, List.length_take]; rfl)) ?_; (with_reducible refine (impl_IsCalendar.calls k _ _ l0 false _ ?side1 ?side2 A4.out).mono ?_); (case side1 => repeat (first | exact HR0.out | (with_reducible refine Kd.C_alloc ?_ _) | (with_reducible refine Kd.C_drewN ?_ _) | (with_reducible refine Kd.C_drew ?_))); (case side2 => exact HC0.out); rintro e w' ⟨rfl, ⟨nd, rfl⟩⟩; refine ⟨_, rfl, ?_⟩))
      go_meet
      case rel => exact ⟨_, (true), (by first | rfl | (simp; done) | (simp [*]; done)), H', ⟨by first | omega | exact Nat.le_refl _⟩, y112_⟩
  case rest =>
    clear HC3
    try clear p2
    try clear c5
    obtain ⟨kq, x12_2, rfl, HA, HJ2, ⟨mc2, rfl⟩⟩ := hcut
    cases kq with
    | zero => exact absurd HA.out (by simp [impl_NextOpen.j0])
    | succ kj2 =>
      have H := HA.out
      clear HA
      simp only [impl_NextOpen.j0] at H
      by_cases c7 : x12_2 = true
      · subst c7
        have H1 : (some (-1)) = some r := by rw [if_pos rfl] at H; exact H
        clear H
        have H := H1
        clear H1
        obtain rfl := Option.some.inj H
        go_wp2
        go_ret
        exact ⟨by first | rfl | (simp; done) | (simp [*]; done), y112_⟩
      · replace c7 := Bool.eq_false_iff.mpr c7
        subst c7
        have H1 : (impl_NextOpen.l0 kj2 l0 a1) = some r := by rw [if_neg (show ¬ (false = true) by decide)] at H; exact H
        clear H
        have H := H1
        clear H1
        have H' := Aside0.mk H
        clear H
        go_wp2
        go_loopg [1] kj2 (fun kq v1 w' => ∃ (x1_2 : Int), v1 = .int .i64 x1_2 ∧ Aside0 (impl_NextOpen.l0 kq l0 x1_2 = some r) ∧ Aside0 (kq ≤ kj2) ∧ Drawn0 w w')
        case atStart => exact ⟨(a1), (by first | rfl | (simp; done) | (simp [*]; done)), H', ⟨Nat.le_refl _⟩, y112_⟩
        case round =>
          clear H'
          try clear c2
          try clear p2
          try clear c5
          try clear c7
          try clear p2
          obtain ⟨x1_2, rfl, HA, HK2, ⟨m2, rfl⟩⟩ := hrel
          cases gk with
          | zero => exact absurd HA.out (by simp [impl_NextOpen.l0])
          | succ k2 =>
            have H := HA.out
            clear HA
            simp only [impl_NextOpen.l0] at H
            obtain ⟨ji8, hji8⟩ : ∃ j_ : Int, (Int.tmod x1_2 7) = j_ := ⟨_, rfl⟩
            replace H : (if 0 ≤ (ji8) then (if (ji8) < (l0.length : Int) then (if (rdOf false l0 (ji8) = true) then (some x1_2) else (impl_NextOpen.l0 k2 l0 (wrap64 (x1_2 + 1)))) else (none)) else (none)) = some r := by first | (rw [hji8] at H; exact H) | (simp only [hji8] at H ⊢; exact H)
            by_cases c9 : 0 ≤ (ji8)
            · rw [if_pos c9] at H
              have c9b0 : decide (0 ≤ (ji8)) = true := decide_eq_true c9
              clear c9
              by_cases c10 : (ji8) < (l0.length : Int)
              · rw [if_pos c10] at H
                have c10b0 : decide ((ji8) < (l0.length : Int)) = true := decide_eq_true c10
                clear c10
                obtain ⟨bq11, hbq11⟩ : ∃ b_ : Bool, b_ = (rdOf false l0 (ji8)) := ⟨_, rfl⟩
                replace H : (if (bq11 = true) then (some x1_2) else (impl_NextOpen.l0 k2 l0 (wrap64 (x1_2 + 1)))) = some r := by rw [← hbq11] at H; exact H
                have Nbq11 := Aside0.mk hbq11
                clear hbq11
                by_cases c12 : (bq11 = true)
                · subst c12
                  have H1 : (some x1_2) = some r := by rw [if_pos rfl] at H; exact H
                  clear H
                  have H := H1
                  clear H1
                  obtain rfl := Option.some.inj H
                  have p207 : 0 ≤ ((ji8) : Int) := of_decide_eq_true (by first | (with_reducible assumption) | assumption)
                  have q207 : (ji8) < (l0.length : Int) := of_decide_eq_true (by first | (with_reducible assumption) | assumption)
                  obtain ⟨ad207, e207, hx207_0⟩ := Kd.at_bool HR0.out (ji8) p207 q207
                  (try rw [← Nbq11.out] at hx207_0)
                  cases e207
                  replace p207 := eq_true p207
                  replace q207 := eq_true q207
                  go_wp2
                  go_ret
                  exact ⟨by first | rfl | (simp; done) | (simp only [← hji8] <;> (first | rfl | simp)) | (simp [*]; done), y112_⟩
                · replace c12 := Bool.eq_false_iff.mpr c12
                  subst c12
                  have H1 : (impl_NextOpen.l0 k2 l0 (wrap64 (x1_2 + 1))) = some r := by rw [if_neg (show ¬ (false = true) by decide)] at H; exact H
                  clear H
                  have H := H1
                  clear H1
                  have H' := Aside0.mk H
                  clear H
                  have p207 : 0 ≤ ((ji8) : Int) := of_decide_eq_true (by first | (with_reducible assumption) | assumption)
                  have q207 : (ji8) < (l0.length : Int) := of_decide_eq_true (by first | (with_reducible assumption) | assumption)
                  obtain ⟨ad207, e207, hx207_0⟩ := Kd.at_bool HR0.out (ji8) p207 q207
                  (try rw [← Nbq11.out] at hx207_0)
                  cases e207
                  replace p207 := eq_true p207
                  replace q207 := eq_true q207
                  go_wp2
                  go_roundg k2
                  case measure => have := HJ2.out; have := HK2.out; omega
                  case rel => exact ⟨(wrap64 (x1_2 + 1)), (by first | rfl | (simp; done) | (simp [*]; done)), H', ⟨by have := HJ2.out; have := HK2.out; omega⟩, y112_⟩
              · rw [if_neg c10] at H
                exact absurd H (by simp)
            · rw [if_neg c9] at H
              exact absurd H (by simp)

/-! ### impl_LastDay: function 58 -/
def impl_LastDay.f (k : Nat) (l0 : List Bool) (a1_0 : Int) (a1_1 : Int) (a1_2 : Int) (a1_3 : Int) (a1_4 : Int) (a1_5 : Int) (a1_6 : Int) (a1_7 : Int) : Option (Int) := (impl_IsFind.f a1_0 a1_1 a1_2 a1_3 a1_4 a1_5 a1_6 a1_7).bind fun t209 => (if t209 = true then ((impl_DueHour.f k a1_0 a1_1 a1_2 a1_3 a1_4 a1_5 a1_6 a1_7).bind fun t210 => ((impl_NextOpen.f k l0 (wrap64 (Int.tdiv t210 24))).bind fun t211 => (some t211))) else (some (-1)))
theorem impl_LastDay.mono : ∀ a0 a1 a2 a3 a4 a5 a6 a7 a8 k, LeO (impl_LastDay.f k a0 a1 a2 a3 a4 a5 a6 a7 a8) (impl_LastDay.f (k + 1) a0 a1 a2 a3 a4 a5 a6 a7 a8) := by
  intro a0 a1 a2 a3 a4 a5 a6 a7 a8 k
  unfold impl_LastDay.f
  repeat' first
      | (with_reducible exact impl_DueHour.mono _ _ _ _ _ _ _ _ _)
      | (with_reducible exact impl_NextOpen.mono _ _ _)
      | (with_reducible exact LeO.refl _)
      | (with_reducible exact LeO.none _)
      | (with_reducible refine LeO.ite ?_ ?_)
      | (with_reducible refine LeO.bind ?_ (fun _ => ?_))
      | exact impl_DueHour.mono _ _ _ _ _ _ _ _ _
      | exact impl_NextOpen.mono _ _ _
      | exact LeO.none _
      | refine LeO.ite ?_ ?_
      | refine LeO.bind ?_ (fun _ => ?_)
theorem y113_ {P : Prop} (h : P := by repeat (first | (with_reducible first | exact HB.out | apply below_alloc | apply pw_below_drewN | apply below_drew1) | exact HB.out)) : P := h
theorem y114_ {P : Prop} (h : P := by (try simp only [List.map_toArray, List.map_cons, List.map_nil]); first | done | rfl | (simp only [List.length_drop, List.length_take]; rfl)) : P := h
theorem y115_ {P : Prop} (h : P := by repeat (first | (with_reducible first | exact HB.out | apply below_alloc | apply pw_below_drewN | apply below_drew1 | refine below_set ?_ GE208.out) | exact HB.out)) : P := h
theorem y116_ {P : Prop} (h : P := by (with_reducible repeat (first | refine blk_drewN ?_ _ | refine blk_drew ?_ | refine blk_alloc ?_ _)); exact BK208.out) : P := h
set_option maxHeartbeats 8000000 in
set_option maxRecDepth 100000 in
theorem impl_LastDay.calls (k : Nat) (A0 : Option Addr) (c0 : Nat) (l0 : List Bool) (a1_0 : Int) (a1_1 : Int) (a1_2 : Int) (a1_3 : Int) (a1_4 : Int) (a1_5 : Int) (a1_6 : Int) (a1_7 : Int) (r : Int) (w : World) (hr0 : Kd.C Kd.bool w A0 l0.length l0) (hc0 : l0.length ≤ c0) (h : impl_LastDay.f k l0 a1_0 a1_1 a1_2 a1_3 a1_4 a1_5 a1_6 a1_7 = some r) :
    Calls Try.prog 58 #[.slice A0 l0.length c0, .agg #[.int .i64 a1_0, .int .i64 a1_1, .int .i64 a1_2, .int .i64 a1_3, .int .i64 a1_4, .int .i64 a1_5, .int .i64 a1_6, .int .i64 a1_7]] w fun e w' => e = .returned (.int .i64 r) ∧ Below w.heap.size w w' := by
  have hu58 := Try.underlying58
  have HR0 := Aside0.mk hr0
  have HC0 := Aside0.mk hc0
  clear hr0 hc0
  have HB := Aside0.mk (Below.refl w.heap.size w)
  have H : ((impl_IsFind.f a1_0 a1_1 a1_2 a1_3 a1_4 a1_5 a1_6 a1_7).bind fun t209 => (if t209 = true then ((impl_DueHour.f k a1_0 a1_1 a1_2 a1_3 a1_4 a1_5 a1_6 a1_7).bind fun t210 => ((impl_NextOpen.f k l0 (wrap64 (Int.tdiv t210 24))).bind fun t211 => (some t211))) else (some (-1)))) = some r := h
  clear h
  replace H := Option.bind_eq_some_iff.mp H
  obtain ⟨t209, A30, H⟩ := H
  replace H : (if t209 = true then ((impl_DueHour.f k a1_0 a1_1 a1_2 a1_3 a1_4 a1_5 a1_6 a1_7).bind fun t210 => ((impl_NextOpen.f k l0 (wrap64 (Int.tdiv t210 24))).bind fun t211 => (some t211))) else (some (-1))) = some r := H
  have A3 := Aside0.mk A30
  clear A30
  by_cases c4 : t209 = true
  · subst c4
    have H1 : ((impl_DueHour.f k a1_0 a1_1 a1_2 a1_3 a1_4 a1_5 a1_6 a1_7).bind fun t210 => ((impl_NextOpen.f k l0 (wrap64 (Int.tdiv t210 24))).bind fun t211 => (some t211))) = some r := by rw [if_pos rfl] at H; exact H
    clear H
    have H := H1
    clear H1
    replace H := Option.bind_eq_some_iff.mp H
    obtain ⟨t210, A50, H⟩ := H
    replace H : ((impl_NextOpen.f k l0 (wrap64 (Int.tdiv t210 24))).bind fun t211 => (some t211)) = some r := H
    have A5 := Aside0.mk A50
    clear A50
    replace H := Option.bind_eq_some_iff.mp H
    obtain ⟨t211, A60, H⟩ := H
    replace H : (some t211) = some r := H
    have A6 := Aside0.mk A60
    clear A60
    obtain rfl := Option.some.inj H
    go_enter Try.func58, Try.ntmps58
    go_wp2_with (first | ((with_reducible refine gate_dst (N := 3) rfl ?_); refine box_event ?hg (N := 3) ?hd (cs := #[.int .i64 a1_0, .int .i64 a1_1, .int .i64 a1_2, .int .i64 a1_3, .int .i64 a1_4, .int .i64 a1_5, .int .i64 a1_6, .int .i64 a1_7]) (t := 58) ?hr ?_; (case hd => rfl); (case hg => rfl); (case hr => first | (go_simp; done) | (go_simp; rfl)); intro gb208 hg w7 hbox hb; have n0_ := Aside0.mk (below_step y113_ hb); have n1_ := Aside0.mk (hbox); have n2_ := Aside0.mk ((by rw [hg]; exact (below_size y113_) : w.heap.size ≤ gb208)); have n3_ := Aside0.mk ((by rw [hg]; exact (below_size y113_) : w.heap.size ≤ gb208)); clear HB; have HB := n0_; have BK208 := n1_; have GW208 := n2_; have GE208 := n3_; clear n0_ n1_ n2_ n3_; clear hb hbox hg; have hcz8_0 : w7.cell? ⟨gb208, 0, none⟩ = some (.int .i64 a1_0) := (blk_cell BK208.out 0).trans rfl; have hcz8_1 : w7.cell? ⟨gb208, 1, none⟩ = some (.int .i64 a1_1) := (blk_cell BK208.out 1).trans rfl; have hcz8_2 : w7.cell? ⟨gb208, 2, none⟩ = some (.int .i64 a1_2) := (blk_cell BK208.out 2).trans rfl; have hcz8_3 : w7.cell? ⟨gb208, 3, none⟩ = some (.int .i64 a1_3) := (blk_cell BK208.out 3).trans rfl; have hcz8_4 : w7.cell? ⟨gb208, 4, none⟩ = some (.int .i64 a1_4) := (blk_cell BK208.out 4).trans rfl; have hcz8_5 : w7.cell? ⟨gb208, 5, none⟩ = some (.int .i64 a1_5) := (blk_cell BK208.out 5).trans rfl; have hcz8_6 : w7.cell? ⟨gb208, 6, none⟩ = some (.int .i64 a1_6) := (blk_cell BK208.out 6).trans rfl; have hcz8_7 : w7.cell? ⟨gb208, 7, none⟩ = some (.int .i64 a1_7) := (blk_cell BK208.out 7).trans rfl; have hfz8_0 := blk_frozen BK208.out 0; have hfz8_1 := blk_frozen BK208.out 1; have hfz8_2 := blk_frozen BK208.out 2; have hfz8_3 := blk_frozen BK208.out 3; have hfz8_4 := blk_frozen BK208.out 4; have hfz8_5 := blk_frozen BK208.out 5; have hfz8_6 := blk_frozen BK208.out 6; have hfz8_7 := blk_frozen BK208.out 7) | ((with_reducible refine gate_callee (f := 54) rfl ?_); refine goesL_ (some 6) rfl rfl Try.func54 (by kernel_rfl) rfl #[.agg #[.int .i64 a1_0, .int .i64 a1_1, .int .i64 a1_2, .int .i64 a1_3, .int .i64 a1_4, .int .i64 a1_5, .int .i64 a1_6, .int .i64 a1_7]] rfl y114_ ?_; (with_reducible refine (impl_IsFind.calls a1_0 a1_1 a1_2 a1_3 a1_4 a1_5 a1_6 a1_7 true _ A3.out).mono ?_); rintro e w9 ⟨rfl, hb⟩; refine ⟨_, rfl, ?_⟩; have n0_ := Aside0.mk (blk_below (g := gb208) (o := .cells #[.int .i64 a1_0, .int .i64 a1_1, .int .i64 a1_2, .int .i64 a1_3, .int .i64 a1_4, .int .i64 a1_5, .int .i64 a1_6, .int .i64 a1_7] 58 (0, 0)) y116_ hb); have n1_ := Aside0.mk (below_step y115_ hb); clear BK208; clear HB; have BK208 := n0_; have HB := n1_; clear n0_ n1_; (try clear hb); (try clear hb2); (try clear hk); (try clear hi); have hcz10_0 : w9.cell? ⟨gb208, 0, none⟩ = some (.int .i64 a1_0) := (blk_cell BK208.out 0).trans rfl; have hcz10_1 : w9.cell? ⟨gb208, 1, none⟩ = some (.int .i64 a1_1) := (blk_cell BK208.out 1).trans rfl; have hcz10_2 : w9.cell? ⟨gb208, 2, none⟩ = some (.int .i64 a1_2) := (blk_cell BK208.out 2).trans rfl; have hcz10_3 : w9.cell? ⟨gb208, 3, none⟩ = some (.int .i64 a1_3) := (blk_cell BK208.out 3).trans rfl; have hcz10_4 : w9.cell? ⟨gb208, 4, none⟩ = some (.int .i64 a1_4) := (blk_cell BK208.out 4).trans rfl; have hcz10_5 : w9.cell? ⟨gb208, 5, none⟩ = some (.int .i64 a1_5) := (blk_cell BK208.out 5).trans rfl; have hcz10_6 : w9.cell? ⟨gb208, 6, none⟩ = some (.int .i64 a1_6) := (blk_cell BK208.out 6).trans rfl; have hcz10_7 : w9.cell? ⟨gb208, 7, none⟩ = some (.int .i64 a1_7) := (blk_cell BK208.out 7).trans rfl; have hfz10_0 := blk_frozen BK208.out 0; have hfz10_1 := blk_frozen BK208.out 1; have hfz10_2 := blk_frozen BK208.out 2; have hfz10_3 := blk_frozen BK208.out 3; have hfz10_4 := blk_frozen BK208.out 4; have hfz10_5 := blk_frozen BK208.out 5; have hfz10_6 := blk_frozen BK208.out 6; have hfz10_7 := blk_frozen BK208.out 7) | ((with_reducible refine gate_callee (f := 73) rfl ?_); refine goesL_ (some 10) rfl rfl Try.func73 (by kernel_rfl) rfl #[.agg #[.int .i64 a1_0, .int .i64 a1_1, .int .i64 a1_2, .int .i64 a1_3, .int .i64 a1_4, .int .i64 a1_5, .int .i64 a1_6, .int .i64 a1_7]] rfl y114_ ?_; (with_reducible refine (impl_DueHour.calls k a1_0 a1_1 a1_2 a1_3 a1_4 a1_5 a1_6 a1_7 t210 _ A5.out).mono ?_); rintro e w11 ⟨rfl, hb⟩; refine ⟨_, rfl, ?_⟩; have n0_ := Aside0.mk (blk_below (g := gb208) (o := .cells #[.int .i64 a1_0, .int .i64 a1_1, .int .i64 a1_2, .int .i64 a1_3, .int .i64 a1_4, .int .i64 a1_5, .int .i64 a1_6, .int .i64 a1_7] 58 (0, 0)) y116_ hb); have n1_ := Aside0.mk (below_step y115_ hb); clear BK208; clear HB; have BK208 := n0_; have HB := n1_; clear n0_ n1_; (try clear hb); (try clear hb2); (try clear hk); (try clear hi)) | ((with_reducible refine gate_callee (f := 57) rfl ?_); refine goesL_ (some 12) rfl rfl Try.func57 (by kernel_rfl) rfl #[.slice A0 l0.length c0, .int .i64 (wrap64 (Int.tdiv t210 24))] rfl y114_ ?_; (with_reducible refine (impl_NextOpen.calls k _ _ l0 (wrap64 (Int.tdiv t210 24)) t211 _ ?side1 ?side2 A6.out).mono ?_); (case side1 => repeat (first | exact (Kd.C_below HR0.out HB.out) | (with_reducible refine Kd.C_alloc ?_ _) | (with_reducible refine Kd.C_drewN ?_ _) | (with_reducible refine Kd.C_drew ?_))); (case side2 => exact HC0.out); rintro e w' ⟨rfl, ⟨nd, rfl⟩⟩; refine ⟨_, rfl, ?_⟩))
    go_ret
    exact ⟨by first | rfl | (simp [errW_none, errW_some] <;> rfl) | (simp [*, errW_none, errW_some] <;> rfl), by repeat (first | (with_reducible first | exact HB.out | apply below_alloc | apply pw_below_drewN | apply below_drew1 | refine below_set ?_ GE208.out) | exact HB.out)⟩
  · replace c4 := Bool.eq_false_iff.mpr c4
    subst c4
    have H1 : (some (-1)) = some r := by rw [if_neg (show ¬ (false = true) by decide)] at H; exact H
    clear H
    have H := H1
    clear H1
    obtain rfl := Option.some.inj H
    go_enter Try.func58, Try.ntmps58
    go_wp2_with (first | ((with_reducible refine gate_dst (N := 3) rfl ?_); refine box_event ?hg (N := 3) ?hd (cs := #[.int .i64 a1_0, .int .i64 a1_1, .int .i64 a1_2, .int .i64 a1_3, .int .i64 a1_4, .int .i64 a1_5, .int .i64 a1_6, .int .i64 a1_7]) (t := 58) ?hr ?_; (case hd => rfl); (case hg => rfl); (case hr => first | (go_simp; done) | (go_simp; rfl)); intro gb208 hg w12 hbox hb; have n0_ := Aside0.mk (below_step y113_ hb); have n1_ := Aside0.mk (hbox); have n2_ := Aside0.mk ((by rw [hg]; exact (below_size y113_) : w.heap.size ≤ gb208)); have n3_ := Aside0.mk ((by rw [hg]; exact (below_size y113_) : w.heap.size ≤ gb208)); clear HB; have HB := n0_; have BK208 := n1_; have GW208 := n2_; have GE208 := n3_; clear n0_ n1_ n2_ n3_; clear hb hbox hg; have hcz13_0 : w12.cell? ⟨gb208, 0, none⟩ = some (.int .i64 a1_0) := (blk_cell BK208.out 0).trans rfl; have hcz13_1 : w12.cell? ⟨gb208, 1, none⟩ = some (.int .i64 a1_1) := (blk_cell BK208.out 1).trans rfl; have hcz13_2 : w12.cell? ⟨gb208, 2, none⟩ = some (.int .i64 a1_2) := (blk_cell BK208.out 2).trans rfl; have hcz13_3 : w12.cell? ⟨gb208, 3, none⟩ = some (.int .i64 a1_3) := (blk_cell BK208.out 3).trans rfl; have hcz13_4 : w12.cell? ⟨gb208, 4, none⟩ = some (.int .i64 a1_4) := (blk_cell BK208.out 4).trans rfl; have hcz13_5 : w12.cell? ⟨gb208, 5, none⟩ = some (.int .i64 a1_5) := (blk_cell BK208.out 5).trans rfl; have hcz13_6 : w12.cell? ⟨gb208, 6, none⟩ = some (.int .i64 a1_6) := (blk_cell BK208.out 6).trans rfl; have hcz13_7 : w12.cell? ⟨gb208, 7, none⟩ = some (.int .i64 a1_7) := (blk_cell BK208.out 7).trans rfl; have hfz13_0 := blk_frozen BK208.out 0; have hfz13_1 := blk_frozen BK208.out 1; have hfz13_2 := blk_frozen BK208.out 2; have hfz13_3 := blk_frozen BK208.out 3; have hfz13_4 := blk_frozen BK208.out 4; have hfz13_5 := blk_frozen BK208.out 5; have hfz13_6 := blk_frozen BK208.out 6; have hfz13_7 := blk_frozen BK208.out 7) | ((with_reducible refine gate_callee (f := 54) rfl ?_); refine goesL_ (some 6) rfl rfl Try.func54 (by kernel_rfl) rfl #[.agg #[.int .i64 a1_0, .int .i64 a1_1, .int .i64 a1_2, .int .i64 a1_3, .int .i64 a1_4, .int .i64 a1_5, .int .i64 a1_6, .int .i64 a1_7]] rfl y114_ ?_; (with_reducible refine (impl_IsFind.calls a1_0 a1_1 a1_2 a1_3 a1_4 a1_5 a1_6 a1_7 false _ A3.out).mono ?_); rintro e w14 ⟨rfl, hb⟩; refine ⟨_, rfl, ?_⟩; have n0_ := Aside0.mk (blk_below (g := gb208) (o := .cells #[.int .i64 a1_0, .int .i64 a1_1, .int .i64 a1_2, .int .i64 a1_3, .int .i64 a1_4, .int .i64 a1_5, .int .i64 a1_6, .int .i64 a1_7] 58 (0, 0)) y116_ hb); have n1_ := Aside0.mk (below_step y115_ hb); clear BK208; clear HB; have BK208 := n0_; have HB := n1_; clear n0_ n1_; (try clear hb); (try clear hb2); (try clear hk); (try clear hi)))
    go_ret
    exact ⟨by first | rfl | (simp [errW_none, errW_some] <;> rfl) | (simp [*, errW_none, errW_some] <;> rfl), by repeat (first | (with_reducible first | exact HB.out | apply below_alloc | apply pw_below_drewN | apply below_drew1 | refine below_set ?_ GE208.out) | exact HB.out)⟩

end Go.Proofs.Ytnlgilmbmoiniaa.PFnExactTaskOf
