-- Written for this claim by a program (a printer turned to this claim); Lean checks it.
import Derived.Test.YtkbnbimphddmbaaPFnExactAreTwinsx0
import Derived.Test.YtkbnbimphddmbaaPFnExactAreTwinsx1
namespace Go.Proofs.Ytkbnbimphddmbaa.PFnExactAreTwins
open Go.RowKit Go.Proofs.YtkbnbimphddmbaaW.PrintWords Go.Proofs.YtkbnbimphddmbaaW.PrintLast Go.Proofs.YtkbnbimphddmbaaW.PrintMore
attribute [local go_sem] max2_int min2_int max_two min_two max_three min_three max_four min_four   -- for this text's walks alone
set_option linter.unusedVariables false
set_option linter.unusedSimpArgs false

/-! ### impl_AreTwins: function 23 -/
def impl_AreTwins.f (a0_0 : Int) (a0_1 : Int) (a0_2 : Int) (a0_3 : Int) (a0_4 : Int) (a0_5 : Int) (a0_6 : Int) (a0_7 : Int) (a1_0 : Int) (a1_1 : Int) (a1_2 : Int) (a1_3 : Int) (a1_4 : Int) (a1_5 : Int) (a1_6 : Int) (a1_7 : Int) : Option Bool := (impl_IsFind.f a0_0 a0_1 a0_2 a0_3 a0_4 a0_5 a0_6 a0_7).bind fun t1 => (if t1 = true then ((impl_IsFind.f a1_0 a1_1 a1_2 a1_3 a1_4 a1_5 a1_6 a1_7).bind fun t2 => (if t2 = true then (if a0_0 = a1_0 then (some false) else (if a0_1 = a1_1 then (if a0_2 = a1_2 then (if a0_3 = a1_3 then (if a0_5 = a1_5 then (impl_InRange.f (wrap64 (a0_6 - a1_6)) (-24) 24) else (some false)) else (some false)) else (some false)) else (some false))) else (some false))) else (some false))
theorem impl_AreTwins.four0 (w : World) (A B X Y : List Value) (t u : TypeId) (j : Nat) : ((((w.alloc (.cells A.toArray t)).alloc (.cells B.toArray t)).alloc (.cells X.toArray u)).alloc (.cells Y.toArray u)).cell? ⟨w.heap.size, j, none⟩ = A[j]? := by
  exact (World.cell?_alloc_past _ _ _ (by simp <;> omega)).trans ((World.cell?_alloc_past _ _ _ (by simp <;> omega)).trans ((World.cell?_alloc_past _ _ _ (by simp <;> omega)).trans ((World.cell?_alloc_at _ _ _ _ (by simp <;> omega)).trans (by simp))))
theorem impl_AreTwins.four1 (w : World) (A B X Y : List Value) (t u : TypeId) (j : Nat) : ((((w.alloc (.cells A.toArray t)).alloc (.cells B.toArray t)).alloc (.cells X.toArray u)).alloc (.cells Y.toArray u)).cell? ⟨w.heap.size + 1, j, none⟩ = B[j]? := by
  exact (World.cell?_alloc_past _ _ _ (by simp <;> omega)).trans ((World.cell?_alloc_past _ _ _ (by simp <;> omega)).trans ((World.cell?_alloc_at _ _ _ _ (by simp <;> omega)).trans (by simp)))
theorem impl_AreTwins.four2 (w : World) (A B X Y : List Value) (t u : TypeId) (j : Nat) : ((((w.alloc (.cells A.toArray t)).alloc (.cells B.toArray t)).alloc (.cells X.toArray u)).alloc (.cells Y.toArray u)).cell? ⟨w.heap.size + 1 + 1, j, none⟩ = X[j]? := by
  exact (World.cell?_alloc_past _ _ _ (by simp <;> omega)).trans ((World.cell?_alloc_at _ _ _ _ (by simp <;> omega)).trans (by simp))
theorem impl_AreTwins.four3 (w : World) (A B X Y : List Value) (t u : TypeId) (j : Nat) : ((((w.alloc (.cells A.toArray t)).alloc (.cells B.toArray t)).alloc (.cells X.toArray u)).alloc (.cells Y.toArray u)).cell? ⟨w.heap.size + 1 + 1 + 1, j, none⟩ = Y[j]? := by
  exact (World.cell?_alloc_at _ _ _ _ (by simp <;> omega)).trans (by simp)
theorem impl_AreTwins.lt (w : World) (A B X Y : Obj) : w.heap.size + 1 + 1 + 1 < ((((w.alloc A).alloc B).alloc X).alloc Y).drew.heap.size := by
  show _ < ((((w.alloc A).alloc B).alloc X).alloc Y).heap.size
  simp
theorem impl_AreTwins.world {P : World → Prop} (w : World) (A B X Y : List Value) (t u : TypeId) (H : ∀ W, (∀ j, W.cell? ⟨w.heap.size, j, none⟩ = A[j]?) → (∀ j, W.cell? ⟨w.heap.size + 1, j, none⟩ = B[j]?) → (∀ j, W.cell? ⟨w.heap.size + 1 + 1, j, none⟩ = X[j]?) → (∀ j, W.cell? ⟨w.heap.size + 1 + 1 + 1, j, none⟩ = Y[j]?) → Below w.heap.size w W → P W) : P ((((w.alloc (.cells A.toArray t)).alloc (.cells B.toArray t)).alloc (.cells X.toArray u)).alloc (.cells Y.toArray u)).drew := by
  refine H _ (fun j => impl_AreTwins.four0 w A B X Y t u j) (fun j => impl_AreTwins.four1 w A B X Y t u j) (fun j => impl_AreTwins.four2 w A B X Y t u j) (fun j => impl_AreTwins.four3 w A B X Y t u j) ?_
  repeat (first | exact Below.refl _ _ | apply below_alloc | apply below_drew1)
set_option maxHeartbeats 8000000 in
set_option maxRecDepth 100000 in
theorem impl_AreTwins.calls (a0_0 a0_1 a0_2 a0_3 a0_4 a0_5 a0_6 a0_7 a1_0 a1_1 a1_2 a1_3 a1_4 a1_5 a1_6 a1_7 : Int) (r : Bool) (w : World) (h : impl_AreTwins.f a0_0 a0_1 a0_2 a0_3 a0_4 a0_5 a0_6 a0_7 a1_0 a1_1 a1_2 a1_3 a1_4 a1_5 a1_6 a1_7 = some r) :
    Calls Try.prog 23 #[.agg #[.int .i64 a0_0, .int .i64 a0_1, .int .i64 a0_2, .int .i64 a0_3, .int .i64 a0_4, .int .i64 a0_5, .int .i64 a0_6, .int .i64 a0_7], .agg #[.int .i64 a1_0, .int .i64 a1_1, .int .i64 a1_2, .int .i64 a1_3, .int .i64 a1_4, .int .i64 a1_5, .int .i64 a1_6, .int .i64 a1_7]] w fun e w' => e = .returned (.bool r) ∧ Below w.heap.size w w' := by
  have hu37 := Try.underlying37
  have hu35 := Try.underlying35
  unfold impl_AreTwins.f at h
  replace h := Option.bind_eq_some_iff.mp h
  obtain ⟨t1, A1_, h⟩ := h
  have A1 := Aside0.mk A1_
  clear A1_
  cases t1 with
  | false =>
    rw [if_neg (by simp)] at h
    obtain rfl := Option.some.inj h
    clear h
    go_enter Try.func23, Try.ntmps23
    go_wp2_with fail
    go_region_held3 (fun w' => w'.cell? ⟨w.heap.size, 0, none⟩ = some (.int .i64 a0_0) ∧ w'.cell? ⟨w.heap.size, 1, none⟩ = some (.int .i64 a0_1) ∧ w'.cell? ⟨w.heap.size, 2, none⟩ = some (.int .i64 a0_2) ∧ w'.cell? ⟨w.heap.size, 3, none⟩ = some (.int .i64 a0_3) ∧ w'.cell? ⟨w.heap.size, 4, none⟩ = some (.int .i64 a0_4) ∧ w'.cell? ⟨w.heap.size + 1, 0, none⟩ = some (.int .i64 a1_0) ∧ w'.cell? ⟨w.heap.size + 1, 1, none⟩ = some (.int .i64 a1_1) ∧ w'.cell? ⟨w.heap.size + 1, 2, none⟩ = some (.int .i64 a1_2) ∧ w'.cell? ⟨w.heap.size + 1, 3, none⟩ = some (.int .i64 a1_3) ∧ w'.cell? ⟨w.heap.size + 1, 4, none⟩ = some (.int .i64 a1_4)) (go_keep) (fail)
    · refine impl_AreTwins.world (P := fun W => Exit.then _ _ Exit.normal _ W) w [.int .i64 a0_0, .int .i64 a0_1, .int .i64 a0_2, .int .i64 a0_3, .int .i64 a0_4, .int .i64 a0_5, .int .i64 a0_6, .int .i64 a0_7] [.int .i64 a1_0, .int .i64 a1_1, .int .i64 a1_2, .int .i64 a1_3, .int .i64 a1_4, .int .i64 a1_5, .int .i64 a1_6, .int .i64 a1_7] [.int .i64 a0_0, .int .i64 a0_1, .int .i64 a0_2, .int .i64 a0_3, .int .i64 a0_4] [.int .i64 a1_0, .int .i64 a1_1, .int .i64 a1_2, .int .i64 a1_3, .int .i64 a1_4] 37 35 ?_
      intro W qA qB qX qY hb0
      have HB0 := Aside0.mk hb0; clear hb0
      have qA0 : W.cell? ⟨w.heap.size, 0, none⟩ = some (.int .i64 a0_0) := qA 0
      have qA1 : W.cell? ⟨w.heap.size, 1, none⟩ = some (.int .i64 a0_1) := qA 1
      have qA2 : W.cell? ⟨w.heap.size, 2, none⟩ = some (.int .i64 a0_2) := qA 2
      have qA3 : W.cell? ⟨w.heap.size, 3, none⟩ = some (.int .i64 a0_3) := qA 3
      have qA4 : W.cell? ⟨w.heap.size, 4, none⟩ = some (.int .i64 a0_4) := qA 4
      have qA5 : W.cell? ⟨w.heap.size, 5, none⟩ = some (.int .i64 a0_5) := qA 5
      have qA6 : W.cell? ⟨w.heap.size, 6, none⟩ = some (.int .i64 a0_6) := qA 6
      have qA7 : W.cell? ⟨w.heap.size, 7, none⟩ = some (.int .i64 a0_7) := qA 7
      have qB0 : W.cell? ⟨w.heap.size + 1, 0, none⟩ = some (.int .i64 a1_0) := qB 0
      have qB1 : W.cell? ⟨w.heap.size + 1, 1, none⟩ = some (.int .i64 a1_1) := qB 1
      have qB2 : W.cell? ⟨w.heap.size + 1, 2, none⟩ = some (.int .i64 a1_2) := qB 2
      have qB3 : W.cell? ⟨w.heap.size + 1, 3, none⟩ = some (.int .i64 a1_3) := qB 3
      have qB4 : W.cell? ⟨w.heap.size + 1, 4, none⟩ = some (.int .i64 a1_4) := qB 4
      have qB5 : W.cell? ⟨w.heap.size + 1, 5, none⟩ = some (.int .i64 a1_5) := qB 5
      have qB6 : W.cell? ⟨w.heap.size + 1, 6, none⟩ = some (.int .i64 a1_6) := qB 6
      have qB7 : W.cell? ⟨w.heap.size + 1, 7, none⟩ = some (.int .i64 a1_7) := qB 7
      have qX0 : W.cell? ⟨w.heap.size + 1 + 1, 0, none⟩ = some (.int .i64 a0_0) := qX 0
      have qX1 : W.cell? ⟨w.heap.size + 1 + 1, 1, none⟩ = some (.int .i64 a0_1) := qX 1
      have qX2 : W.cell? ⟨w.heap.size + 1 + 1, 2, none⟩ = some (.int .i64 a0_2) := qX 2
      have qX3 : W.cell? ⟨w.heap.size + 1 + 1, 3, none⟩ = some (.int .i64 a0_3) := qX 3
      have qX4 : W.cell? ⟨w.heap.size + 1 + 1, 4, none⟩ = some (.int .i64 a0_4) := qX 4
      have qY0 : W.cell? ⟨w.heap.size + 1 + 1 + 1, 0, none⟩ = some (.int .i64 a1_0) := qY 0
      have qY1 : W.cell? ⟨w.heap.size + 1 + 1 + 1, 1, none⟩ = some (.int .i64 a1_1) := qY 1
      have qY2 : W.cell? ⟨w.heap.size + 1 + 1 + 1, 2, none⟩ = some (.int .i64 a1_2) := qY 2
      have qY3 : W.cell? ⟨w.heap.size + 1 + 1 + 1, 3, none⟩ = some (.int .i64 a1_3) := qY 3
      have qY4 : W.cell? ⟨w.heap.size + 1 + 1 + 1, 4, none⟩ = some (.int .i64 a1_4) := qY 4
      clear qA qB qX qY
      rename_i hH; clear hH
      go_wp2_with (first | (go_at_call 46; (with_reducible refine (impl_IsFind.calls a0_0 a0_1 a0_2 a0_3 a0_4 a0_5 a0_6 a0_7 false _ A1.out).mono ?_); rintro e w1 ⟨rfl, hb⟩; have HB1 : Aside0 (Below w.heap.size w w1) := ⟨below_step (by repeat (first | exact HB0.out | apply below_drew1 | apply pw_below_drewN)) hb⟩; have pA0 := pw_cell_below hb qA0; clear qA0; have pA1 := pw_cell_below hb qA1; clear qA1; have pA2 := pw_cell_below hb qA2; clear qA2; have pA3 := pw_cell_below hb qA3; clear qA3; have pA4 := pw_cell_below hb qA4; clear qA4; have pA5 := pw_cell_below hb qA5; clear qA5; have pA6 := pw_cell_below hb qA6; clear qA6; have pA7 := pw_cell_below hb qA7; clear qA7; have pB0 := pw_cell_below hb qB0; clear qB0; have pB1 := pw_cell_below hb qB1; clear qB1; have pB2 := pw_cell_below hb qB2; clear qB2; have pB3 := pw_cell_below hb qB3; clear qB3; have pB4 := pw_cell_below hb qB4; clear qB4; have pB5 := pw_cell_below hb qB5; clear qB5; have pB6 := pw_cell_below hb qB6; clear qB6; have pB7 := pw_cell_below hb qB7; clear qB7; have pX0 := pw_cell_below hb qX0; clear qX0; have pX1 := pw_cell_below hb qX1; clear qX1; have pX2 := pw_cell_below hb qX2; clear qX2; have pX3 := pw_cell_below hb qX3; clear qX3; have pX4 := pw_cell_below hb qX4; clear qX4; have pY0 := pw_cell_below hb qY0; clear qY0; have pY1 := pw_cell_below hb qY1; clear qY1; have pY2 := pw_cell_below hb qY2; clear qY2; have pY3 := pw_cell_below hb qY3; clear qY3; have pY4 := pw_cell_below hb qY4; clear qY4; clear hb))
      all_goals go_ret
      all_goals exact ⟨rfl, by repeat (first | exact HB1.out | apply below_drew1 | apply pw_below_drewN)⟩
    · refine impl_AreTwins.world (P := fun W => Exit.then _ _ Exit.normal _ W) w [.int .i64 a0_0, .int .i64 a0_1, .int .i64 a0_2, .int .i64 a0_3, .int .i64 a0_4, .int .i64 a0_5, .int .i64 a0_6, .int .i64 a0_7] [.int .i64 a1_0, .int .i64 a1_1, .int .i64 a1_2, .int .i64 a1_3, .int .i64 a1_4, .int .i64 a1_5, .int .i64 a1_6, .int .i64 a1_7] [.int .i64 a1_0, .int .i64 a1_1, .int .i64 a1_2, .int .i64 a1_3, .int .i64 a1_4] [.int .i64 a0_0, .int .i64 a0_1, .int .i64 a0_2, .int .i64 a0_3, .int .i64 a0_4] 37 35 ?_
      intro W qA qB qX qY hb0
      have HB0 := Aside0.mk hb0; clear hb0
      have qA0 : W.cell? ⟨w.heap.size, 0, none⟩ = some (.int .i64 a0_0) := qA 0
      have qA1 : W.cell? ⟨w.heap.size, 1, none⟩ = some (.int .i64 a0_1) := qA 1
      have qA2 : W.cell? ⟨w.heap.size, 2, none⟩ = some (.int .i64 a0_2) := qA 2
      have qA3 : W.cell? ⟨w.heap.size, 3, none⟩ = some (.int .i64 a0_3) := qA 3
      have qA4 : W.cell? ⟨w.heap.size, 4, none⟩ = some (.int .i64 a0_4) := qA 4
      have qA5 : W.cell? ⟨w.heap.size, 5, none⟩ = some (.int .i64 a0_5) := qA 5
      have qA6 : W.cell? ⟨w.heap.size, 6, none⟩ = some (.int .i64 a0_6) := qA 6
      have qA7 : W.cell? ⟨w.heap.size, 7, none⟩ = some (.int .i64 a0_7) := qA 7
      have qB0 : W.cell? ⟨w.heap.size + 1, 0, none⟩ = some (.int .i64 a1_0) := qB 0
      have qB1 : W.cell? ⟨w.heap.size + 1, 1, none⟩ = some (.int .i64 a1_1) := qB 1
      have qB2 : W.cell? ⟨w.heap.size + 1, 2, none⟩ = some (.int .i64 a1_2) := qB 2
      have qB3 : W.cell? ⟨w.heap.size + 1, 3, none⟩ = some (.int .i64 a1_3) := qB 3
      have qB4 : W.cell? ⟨w.heap.size + 1, 4, none⟩ = some (.int .i64 a1_4) := qB 4
      have qB5 : W.cell? ⟨w.heap.size + 1, 5, none⟩ = some (.int .i64 a1_5) := qB 5
      have qB6 : W.cell? ⟨w.heap.size + 1, 6, none⟩ = some (.int .i64 a1_6) := qB 6
      have qB7 : W.cell? ⟨w.heap.size + 1, 7, none⟩ = some (.int .i64 a1_7) := qB 7
      have qX0 : W.cell? ⟨w.heap.size + 1 + 1, 0, none⟩ = some (.int .i64 a1_0) := qX 0
      have qX1 : W.cell? ⟨w.heap.size + 1 + 1, 1, none⟩ = some (.int .i64 a1_1) := qX 1
      have qX2 : W.cell? ⟨w.heap.size + 1 + 1, 2, none⟩ = some (.int .i64 a1_2) := qX 2
      have qX3 : W.cell? ⟨w.heap.size + 1 + 1, 3, none⟩ = some (.int .i64 a1_3) := qX 3
      have qX4 : W.cell? ⟨w.heap.size + 1 + 1, 4, none⟩ = some (.int .i64 a1_4) := qX 4
      have qY0 : W.cell? ⟨w.heap.size + 1 + 1 + 1, 0, none⟩ = some (.int .i64 a0_0) := qY 0
      have qY1 : W.cell? ⟨w.heap.size + 1 + 1 + 1, 1, none⟩ = some (.int .i64 a0_1) := qY 1
      have qY2 : W.cell? ⟨w.heap.size + 1 + 1 + 1, 2, none⟩ = some (.int .i64 a0_2) := qY 2
      have qY3 : W.cell? ⟨w.heap.size + 1 + 1 + 1, 3, none⟩ = some (.int .i64 a0_3) := qY 3
      have qY4 : W.cell? ⟨w.heap.size + 1 + 1 + 1, 4, none⟩ = some (.int .i64 a0_4) := qY 4
      clear qA qB qX qY
      rename_i hH; clear hH
      go_wp2_with (first | (go_at_call 46; (with_reducible refine (impl_IsFind.calls a0_0 a0_1 a0_2 a0_3 a0_4 a0_5 a0_6 a0_7 false _ A1.out).mono ?_); rintro e w1 ⟨rfl, hb⟩; have HB1 : Aside0 (Below w.heap.size w w1) := ⟨below_step (by repeat (first | exact HB0.out | apply below_drew1 | apply pw_below_drewN)) hb⟩; have pA0 := pw_cell_below hb qA0; clear qA0; have pA1 := pw_cell_below hb qA1; clear qA1; have pA2 := pw_cell_below hb qA2; clear qA2; have pA3 := pw_cell_below hb qA3; clear qA3; have pA4 := pw_cell_below hb qA4; clear qA4; have pA5 := pw_cell_below hb qA5; clear qA5; have pA6 := pw_cell_below hb qA6; clear qA6; have pA7 := pw_cell_below hb qA7; clear qA7; have pB0 := pw_cell_below hb qB0; clear qB0; have pB1 := pw_cell_below hb qB1; clear qB1; have pB2 := pw_cell_below hb qB2; clear qB2; have pB3 := pw_cell_below hb qB3; clear qB3; have pB4 := pw_cell_below hb qB4; clear qB4; have pB5 := pw_cell_below hb qB5; clear qB5; have pB6 := pw_cell_below hb qB6; clear qB6; have pB7 := pw_cell_below hb qB7; clear qB7; have pX0 := pw_cell_below hb qX0; clear qX0; have pX1 := pw_cell_below hb qX1; clear qX1; have pX2 := pw_cell_below hb qX2; clear qX2; have pX3 := pw_cell_below hb qX3; clear qX3; have pX4 := pw_cell_below hb qX4; clear qX4; have pY0 := pw_cell_below hb qY0; clear qY0; have pY1 := pw_cell_below hb qY1; clear qY1; have pY2 := pw_cell_below hb qY2; clear qY2; have pY3 := pw_cell_below hb qY3; clear qY3; have pY4 := pw_cell_below hb qY4; clear qY4; clear hb))
      all_goals go_ret
      all_goals exact ⟨rfl, by repeat (first | exact HB1.out | apply below_drew1 | apply pw_below_drewN)⟩
  | true =>
    rw [if_pos rfl] at h
    replace h := Option.bind_eq_some_iff.mp h
    obtain ⟨t2, A2_, h⟩ := h
    have A2 := Aside0.mk A2_
    clear A2_
    cases t2 with
    | false =>
      rw [if_neg (by simp)] at h
      obtain rfl := Option.some.inj h
      clear h
      go_enter Try.func23, Try.ntmps23
      go_wp2_with fail
      go_region_held3 (fun w' => w'.cell? ⟨w.heap.size, 0, none⟩ = some (.int .i64 a0_0) ∧ w'.cell? ⟨w.heap.size, 1, none⟩ = some (.int .i64 a0_1) ∧ w'.cell? ⟨w.heap.size, 2, none⟩ = some (.int .i64 a0_2) ∧ w'.cell? ⟨w.heap.size, 3, none⟩ = some (.int .i64 a0_3) ∧ w'.cell? ⟨w.heap.size, 4, none⟩ = some (.int .i64 a0_4) ∧ w'.cell? ⟨w.heap.size + 1, 0, none⟩ = some (.int .i64 a1_0) ∧ w'.cell? ⟨w.heap.size + 1, 1, none⟩ = some (.int .i64 a1_1) ∧ w'.cell? ⟨w.heap.size + 1, 2, none⟩ = some (.int .i64 a1_2) ∧ w'.cell? ⟨w.heap.size + 1, 3, none⟩ = some (.int .i64 a1_3) ∧ w'.cell? ⟨w.heap.size + 1, 4, none⟩ = some (.int .i64 a1_4)) (go_keep) (fail)
      · refine impl_AreTwins.world (P := fun W => Exit.then _ _ Exit.normal _ W) w [.int .i64 a0_0, .int .i64 a0_1, .int .i64 a0_2, .int .i64 a0_3, .int .i64 a0_4, .int .i64 a0_5, .int .i64 a0_6, .int .i64 a0_7] [.int .i64 a1_0, .int .i64 a1_1, .int .i64 a1_2, .int .i64 a1_3, .int .i64 a1_4, .int .i64 a1_5, .int .i64 a1_6, .int .i64 a1_7] [.int .i64 a0_0, .int .i64 a0_1, .int .i64 a0_2, .int .i64 a0_3, .int .i64 a0_4] [.int .i64 a1_0, .int .i64 a1_1, .int .i64 a1_2, .int .i64 a1_3, .int .i64 a1_4] 37 35 ?_
        intro W qA qB qX qY hb0
        have HB0 := Aside0.mk hb0; clear hb0
        have qA0 : W.cell? ⟨w.heap.size, 0, none⟩ = some (.int .i64 a0_0) := qA 0
        have qA1 : W.cell? ⟨w.heap.size, 1, none⟩ = some (.int .i64 a0_1) := qA 1
        have qA2 : W.cell? ⟨w.heap.size, 2, none⟩ = some (.int .i64 a0_2) := qA 2
        have qA3 : W.cell? ⟨w.heap.size, 3, none⟩ = some (.int .i64 a0_3) := qA 3
        have qA4 : W.cell? ⟨w.heap.size, 4, none⟩ = some (.int .i64 a0_4) := qA 4
        have qA5 : W.cell? ⟨w.heap.size, 5, none⟩ = some (.int .i64 a0_5) := qA 5
        have qA6 : W.cell? ⟨w.heap.size, 6, none⟩ = some (.int .i64 a0_6) := qA 6
        have qA7 : W.cell? ⟨w.heap.size, 7, none⟩ = some (.int .i64 a0_7) := qA 7
        have qB0 : W.cell? ⟨w.heap.size + 1, 0, none⟩ = some (.int .i64 a1_0) := qB 0
        have qB1 : W.cell? ⟨w.heap.size + 1, 1, none⟩ = some (.int .i64 a1_1) := qB 1
        have qB2 : W.cell? ⟨w.heap.size + 1, 2, none⟩ = some (.int .i64 a1_2) := qB 2
        have qB3 : W.cell? ⟨w.heap.size + 1, 3, none⟩ = some (.int .i64 a1_3) := qB 3
        have qB4 : W.cell? ⟨w.heap.size + 1, 4, none⟩ = some (.int .i64 a1_4) := qB 4
        have qB5 : W.cell? ⟨w.heap.size + 1, 5, none⟩ = some (.int .i64 a1_5) := qB 5
        have qB6 : W.cell? ⟨w.heap.size + 1, 6, none⟩ = some (.int .i64 a1_6) := qB 6
        have qB7 : W.cell? ⟨w.heap.size + 1, 7, none⟩ = some (.int .i64 a1_7) := qB 7
        have qX0 : W.cell? ⟨w.heap.size + 1 + 1, 0, none⟩ = some (.int .i64 a0_0) := qX 0
        have qX1 : W.cell? ⟨w.heap.size + 1 + 1, 1, none⟩ = some (.int .i64 a0_1) := qX 1
        have qX2 : W.cell? ⟨w.heap.size + 1 + 1, 2, none⟩ = some (.int .i64 a0_2) := qX 2
        have qX3 : W.cell? ⟨w.heap.size + 1 + 1, 3, none⟩ = some (.int .i64 a0_3) := qX 3
        have qX4 : W.cell? ⟨w.heap.size + 1 + 1, 4, none⟩ = some (.int .i64 a0_4) := qX 4
        have qY0 : W.cell? ⟨w.heap.size + 1 + 1 + 1, 0, none⟩ = some (.int .i64 a1_0) := qY 0
        have qY1 : W.cell? ⟨w.heap.size + 1 + 1 + 1, 1, none⟩ = some (.int .i64 a1_1) := qY 1
        have qY2 : W.cell? ⟨w.heap.size + 1 + 1 + 1, 2, none⟩ = some (.int .i64 a1_2) := qY 2
        have qY3 : W.cell? ⟨w.heap.size + 1 + 1 + 1, 3, none⟩ = some (.int .i64 a1_3) := qY 3
        have qY4 : W.cell? ⟨w.heap.size + 1 + 1 + 1, 4, none⟩ = some (.int .i64 a1_4) := qY 4
        clear qA qB qX qY
        rename_i hH; clear hH
        go_wp2_with (first | (go_at_call 46; (with_reducible refine (impl_IsFind.calls a0_0 a0_1 a0_2 a0_3 a0_4 a0_5 a0_6 a0_7 true _ A1.out).mono ?_); rintro e w1 ⟨rfl, hb⟩; have HB1 : Aside0 (Below w.heap.size w w1) := ⟨below_step (by repeat (first | exact HB0.out | apply below_drew1 | apply pw_below_drewN)) hb⟩; have pA0 := pw_cell_below hb qA0; clear qA0; have pA1 := pw_cell_below hb qA1; clear qA1; have pA2 := pw_cell_below hb qA2; clear qA2; have pA3 := pw_cell_below hb qA3; clear qA3; have pA4 := pw_cell_below hb qA4; clear qA4; have pA5 := pw_cell_below hb qA5; clear qA5; have pA6 := pw_cell_below hb qA6; clear qA6; have pA7 := pw_cell_below hb qA7; clear qA7; have pB0 := pw_cell_below hb qB0; clear qB0; have pB1 := pw_cell_below hb qB1; clear qB1; have pB2 := pw_cell_below hb qB2; clear qB2; have pB3 := pw_cell_below hb qB3; clear qB3; have pB4 := pw_cell_below hb qB4; clear qB4; have pB5 := pw_cell_below hb qB5; clear qB5; have pB6 := pw_cell_below hb qB6; clear qB6; have pB7 := pw_cell_below hb qB7; clear qB7; have pX0 := pw_cell_below hb qX0; clear qX0; have pX1 := pw_cell_below hb qX1; clear qX1; have pX2 := pw_cell_below hb qX2; clear qX2; have pX3 := pw_cell_below hb qX3; clear qX3; have pX4 := pw_cell_below hb qX4; clear qX4; have pY0 := pw_cell_below hb qY0; clear qY0; have pY1 := pw_cell_below hb qY1; clear qY1; have pY2 := pw_cell_below hb qY2; clear qY2; have pY3 := pw_cell_below hb qY3; clear qY3; have pY4 := pw_cell_below hb qY4; clear qY4; clear hb) | (go_at_call 46; (with_reducible refine (impl_IsFind.calls a1_0 a1_1 a1_2 a1_3 a1_4 a1_5 a1_6 a1_7 false _ A2.out).mono ?_); rintro e w2 ⟨rfl, hb⟩; have HB2 : Aside0 (Below w.heap.size w w2) := ⟨below_step (by repeat (first | exact HB1.out | apply below_drew1 | apply pw_below_drewN)) hb⟩; have rA0 := pw_cell_below hb pA0; clear pA0; have rA1 := pw_cell_below hb pA1; clear pA1; have rA2 := pw_cell_below hb pA2; clear pA2; have rA3 := pw_cell_below hb pA3; clear pA3; have rA4 := pw_cell_below hb pA4; clear pA4; have rA5 := pw_cell_below hb pA5; clear pA5; have rA6 := pw_cell_below hb pA6; clear pA6; have rA7 := pw_cell_below hb pA7; clear pA7; have rB0 := pw_cell_below hb pB0; clear pB0; have rB1 := pw_cell_below hb pB1; clear pB1; have rB2 := pw_cell_below hb pB2; clear pB2; have rB3 := pw_cell_below hb pB3; clear pB3; have rB4 := pw_cell_below hb pB4; clear pB4; have rB5 := pw_cell_below hb pB5; clear pB5; have rB6 := pw_cell_below hb pB6; clear pB6; have rB7 := pw_cell_below hb pB7; clear pB7; have rX0 := pw_cell_below hb pX0; clear pX0; have rX1 := pw_cell_below hb pX1; clear pX1; have rX2 := pw_cell_below hb pX2; clear pX2; have rX3 := pw_cell_below hb pX3; clear pX3; have rX4 := pw_cell_below hb pX4; clear pX4; have rY0 := pw_cell_below hb pY0; clear pY0; have rY1 := pw_cell_below hb pY1; clear pY1; have rY2 := pw_cell_below hb pY2; clear pY2; have rY3 := pw_cell_below hb pY3; clear pY3; have rY4 := pw_cell_below hb pY4; clear pY4; clear hb))
        all_goals go_ret
        all_goals exact ⟨rfl, by repeat (first | exact HB2.out | apply below_drew1 | apply pw_below_drewN)⟩
      · refine impl_AreTwins.world (P := fun W => Exit.then _ _ Exit.normal _ W) w [.int .i64 a0_0, .int .i64 a0_1, .int .i64 a0_2, .int .i64 a0_3, .int .i64 a0_4, .int .i64 a0_5, .int .i64 a0_6, .int .i64 a0_7] [.int .i64 a1_0, .int .i64 a1_1, .int .i64 a1_2, .int .i64 a1_3, .int .i64 a1_4, .int .i64 a1_5, .int .i64 a1_6, .int .i64 a1_7] [.int .i64 a1_0, .int .i64 a1_1, .int .i64 a1_2, .int .i64 a1_3, .int .i64 a1_4] [.int .i64 a0_0, .int .i64 a0_1, .int .i64 a0_2, .int .i64 a0_3, .int .i64 a0_4] 37 35 ?_
        intro W qA qB qX qY hb0
        have HB0 := Aside0.mk hb0; clear hb0
        have qA0 : W.cell? ⟨w.heap.size, 0, none⟩ = some (.int .i64 a0_0) := qA 0
        have qA1 : W.cell? ⟨w.heap.size, 1, none⟩ = some (.int .i64 a0_1) := qA 1
        have qA2 : W.cell? ⟨w.heap.size, 2, none⟩ = some (.int .i64 a0_2) := qA 2
        have qA3 : W.cell? ⟨w.heap.size, 3, none⟩ = some (.int .i64 a0_3) := qA 3
        have qA4 : W.cell? ⟨w.heap.size, 4, none⟩ = some (.int .i64 a0_4) := qA 4
        have qA5 : W.cell? ⟨w.heap.size, 5, none⟩ = some (.int .i64 a0_5) := qA 5
        have qA6 : W.cell? ⟨w.heap.size, 6, none⟩ = some (.int .i64 a0_6) := qA 6
        have qA7 : W.cell? ⟨w.heap.size, 7, none⟩ = some (.int .i64 a0_7) := qA 7
        have qB0 : W.cell? ⟨w.heap.size + 1, 0, none⟩ = some (.int .i64 a1_0) := qB 0
        have qB1 : W.cell? ⟨w.heap.size + 1, 1, none⟩ = some (.int .i64 a1_1) := qB 1
        have qB2 : W.cell? ⟨w.heap.size + 1, 2, none⟩ = some (.int .i64 a1_2) := qB 2
        have qB3 : W.cell? ⟨w.heap.size + 1, 3, none⟩ = some (.int .i64 a1_3) := qB 3
        have qB4 : W.cell? ⟨w.heap.size + 1, 4, none⟩ = some (.int .i64 a1_4) := qB 4
        have qB5 : W.cell? ⟨w.heap.size + 1, 5, none⟩ = some (.int .i64 a1_5) := qB 5
        have qB6 : W.cell? ⟨w.heap.size + 1, 6, none⟩ = some (.int .i64 a1_6) := qB 6
        have qB7 : W.cell? ⟨w.heap.size + 1, 7, none⟩ = some (.int .i64 a1_7) := qB 7
        have qX0 : W.cell? ⟨w.heap.size + 1 + 1, 0, none⟩ = some (.int .i64 a1_0) := qX 0
        have qX1 : W.cell? ⟨w.heap.size + 1 + 1, 1, none⟩ = some (.int .i64 a1_1) := qX 1
        have qX2 : W.cell? ⟨w.heap.size + 1 + 1, 2, none⟩ = some (.int .i64 a1_2) := qX 2
        have qX3 : W.cell? ⟨w.heap.size + 1 + 1, 3, none⟩ = some (.int .i64 a1_3) := qX 3
        have qX4 : W.cell? ⟨w.heap.size + 1 + 1, 4, none⟩ = some (.int .i64 a1_4) := qX 4
        have qY0 : W.cell? ⟨w.heap.size + 1 + 1 + 1, 0, none⟩ = some (.int .i64 a0_0) := qY 0
        have qY1 : W.cell? ⟨w.heap.size + 1 + 1 + 1, 1, none⟩ = some (.int .i64 a0_1) := qY 1
        have qY2 : W.cell? ⟨w.heap.size + 1 + 1 + 1, 2, none⟩ = some (.int .i64 a0_2) := qY 2
        have qY3 : W.cell? ⟨w.heap.size + 1 + 1 + 1, 3, none⟩ = some (.int .i64 a0_3) := qY 3
        have qY4 : W.cell? ⟨w.heap.size + 1 + 1 + 1, 4, none⟩ = some (.int .i64 a0_4) := qY 4
        clear qA qB qX qY
        rename_i hH; clear hH
        go_wp2_with (first | (go_at_call 46; (with_reducible refine (impl_IsFind.calls a0_0 a0_1 a0_2 a0_3 a0_4 a0_5 a0_6 a0_7 true _ A1.out).mono ?_); rintro e w1 ⟨rfl, hb⟩; have HB1 : Aside0 (Below w.heap.size w w1) := ⟨below_step (by repeat (first | exact HB0.out | apply below_drew1 | apply pw_below_drewN)) hb⟩; have pA0 := pw_cell_below hb qA0; clear qA0; have pA1 := pw_cell_below hb qA1; clear qA1; have pA2 := pw_cell_below hb qA2; clear qA2; have pA3 := pw_cell_below hb qA3; clear qA3; have pA4 := pw_cell_below hb qA4; clear qA4; have pA5 := pw_cell_below hb qA5; clear qA5; have pA6 := pw_cell_below hb qA6; clear qA6; have pA7 := pw_cell_below hb qA7; clear qA7; have pB0 := pw_cell_below hb qB0; clear qB0; have pB1 := pw_cell_below hb qB1; clear qB1; have pB2 := pw_cell_below hb qB2; clear qB2; have pB3 := pw_cell_below hb qB3; clear qB3; have pB4 := pw_cell_below hb qB4; clear qB4; have pB5 := pw_cell_below hb qB5; clear qB5; have pB6 := pw_cell_below hb qB6; clear qB6; have pB7 := pw_cell_below hb qB7; clear qB7; have pX0 := pw_cell_below hb qX0; clear qX0; have pX1 := pw_cell_below hb qX1; clear qX1; have pX2 := pw_cell_below hb qX2; clear qX2; have pX3 := pw_cell_below hb qX3; clear qX3; have pX4 := pw_cell_below hb qX4; clear qX4; have pY0 := pw_cell_below hb qY0; clear qY0; have pY1 := pw_cell_below hb qY1; clear qY1; have pY2 := pw_cell_below hb qY2; clear qY2; have pY3 := pw_cell_below hb qY3; clear qY3; have pY4 := pw_cell_below hb qY4; clear qY4; clear hb) | (go_at_call 46; (with_reducible refine (impl_IsFind.calls a1_0 a1_1 a1_2 a1_3 a1_4 a1_5 a1_6 a1_7 false _ A2.out).mono ?_); rintro e w2 ⟨rfl, hb⟩; have HB2 : Aside0 (Below w.heap.size w w2) := ⟨below_step (by repeat (first | exact HB1.out | apply below_drew1 | apply pw_below_drewN)) hb⟩; have rA0 := pw_cell_below hb pA0; clear pA0; have rA1 := pw_cell_below hb pA1; clear pA1; have rA2 := pw_cell_below hb pA2; clear pA2; have rA3 := pw_cell_below hb pA3; clear pA3; have rA4 := pw_cell_below hb pA4; clear pA4; have rA5 := pw_cell_below hb pA5; clear pA5; have rA6 := pw_cell_below hb pA6; clear pA6; have rA7 := pw_cell_below hb pA7; clear pA7; have rB0 := pw_cell_below hb pB0; clear pB0; have rB1 := pw_cell_below hb pB1; clear pB1; have rB2 := pw_cell_below hb pB2; clear pB2; have rB3 := pw_cell_below hb pB3; clear pB3; have rB4 := pw_cell_below hb pB4; clear pB4; have rB5 := pw_cell_below hb pB5; clear pB5; have rB6 := pw_cell_below hb pB6; clear pB6; have rB7 := pw_cell_below hb pB7; clear pB7; have rX0 := pw_cell_below hb pX0; clear pX0; have rX1 := pw_cell_below hb pX1; clear pX1; have rX2 := pw_cell_below hb pX2; clear pX2; have rX3 := pw_cell_below hb pX3; clear pX3; have rX4 := pw_cell_below hb pX4; clear pX4; have rY0 := pw_cell_below hb pY0; clear pY0; have rY1 := pw_cell_below hb pY1; clear pY1; have rY2 := pw_cell_below hb pY2; clear pY2; have rY3 := pw_cell_below hb pY3; clear pY3; have rY4 := pw_cell_below hb pY4; clear pY4; clear hb))
        all_goals go_ret
        all_goals exact ⟨rfl, by repeat (first | exact HB2.out | apply below_drew1 | apply pw_below_drewN)⟩
    | true =>
      rw [if_pos rfl] at h
      by_cases c0 : a0_0 = a1_0
      · rw [if_pos c0] at h
        obtain rfl := Option.some.inj h
        have c0b : (a0_0 != a1_0) = false := bne_eq_false_iff_eq.mpr c0
        clear h c0
        go_enter Try.func23, Try.ntmps23
        go_wp2_with fail
        go_region_held3 (fun w' => w'.cell? ⟨w.heap.size, 0, none⟩ = some (.int .i64 a0_0) ∧ w'.cell? ⟨w.heap.size, 1, none⟩ = some (.int .i64 a0_1) ∧ w'.cell? ⟨w.heap.size, 2, none⟩ = some (.int .i64 a0_2) ∧ w'.cell? ⟨w.heap.size, 3, none⟩ = some (.int .i64 a0_3) ∧ w'.cell? ⟨w.heap.size, 4, none⟩ = some (.int .i64 a0_4) ∧ w'.cell? ⟨w.heap.size + 1, 0, none⟩ = some (.int .i64 a1_0) ∧ w'.cell? ⟨w.heap.size + 1, 1, none⟩ = some (.int .i64 a1_1) ∧ w'.cell? ⟨w.heap.size + 1, 2, none⟩ = some (.int .i64 a1_2) ∧ w'.cell? ⟨w.heap.size + 1, 3, none⟩ = some (.int .i64 a1_3) ∧ w'.cell? ⟨w.heap.size + 1, 4, none⟩ = some (.int .i64 a1_4)) (go_keep) (fail)
        · refine impl_AreTwins.world (P := fun W => Exit.then _ _ Exit.normal _ W) w [.int .i64 a0_0, .int .i64 a0_1, .int .i64 a0_2, .int .i64 a0_3, .int .i64 a0_4, .int .i64 a0_5, .int .i64 a0_6, .int .i64 a0_7] [.int .i64 a1_0, .int .i64 a1_1, .int .i64 a1_2, .int .i64 a1_3, .int .i64 a1_4, .int .i64 a1_5, .int .i64 a1_6, .int .i64 a1_7] [.int .i64 a0_0, .int .i64 a0_1, .int .i64 a0_2, .int .i64 a0_3, .int .i64 a0_4] [.int .i64 a1_0, .int .i64 a1_1, .int .i64 a1_2, .int .i64 a1_3, .int .i64 a1_4] 37 35 ?_
          intro W qA qB qX qY hb0
          have HB0 := Aside0.mk hb0; clear hb0
          have qA0 : W.cell? ⟨w.heap.size, 0, none⟩ = some (.int .i64 a0_0) := qA 0
          have qA1 : W.cell? ⟨w.heap.size, 1, none⟩ = some (.int .i64 a0_1) := qA 1
          have qA2 : W.cell? ⟨w.heap.size, 2, none⟩ = some (.int .i64 a0_2) := qA 2
          have qA3 : W.cell? ⟨w.heap.size, 3, none⟩ = some (.int .i64 a0_3) := qA 3
          have qA4 : W.cell? ⟨w.heap.size, 4, none⟩ = some (.int .i64 a0_4) := qA 4
          have qA5 : W.cell? ⟨w.heap.size, 5, none⟩ = some (.int .i64 a0_5) := qA 5
          have qA6 : W.cell? ⟨w.heap.size, 6, none⟩ = some (.int .i64 a0_6) := qA 6
          have qA7 : W.cell? ⟨w.heap.size, 7, none⟩ = some (.int .i64 a0_7) := qA 7
          have qB0 : W.cell? ⟨w.heap.size + 1, 0, none⟩ = some (.int .i64 a1_0) := qB 0
          have qB1 : W.cell? ⟨w.heap.size + 1, 1, none⟩ = some (.int .i64 a1_1) := qB 1
          have qB2 : W.cell? ⟨w.heap.size + 1, 2, none⟩ = some (.int .i64 a1_2) := qB 2
          have qB3 : W.cell? ⟨w.heap.size + 1, 3, none⟩ = some (.int .i64 a1_3) := qB 3
          have qB4 : W.cell? ⟨w.heap.size + 1, 4, none⟩ = some (.int .i64 a1_4) := qB 4
          have qB5 : W.cell? ⟨w.heap.size + 1, 5, none⟩ = some (.int .i64 a1_5) := qB 5
          have qB6 : W.cell? ⟨w.heap.size + 1, 6, none⟩ = some (.int .i64 a1_6) := qB 6
          have qB7 : W.cell? ⟨w.heap.size + 1, 7, none⟩ = some (.int .i64 a1_7) := qB 7
          have qX0 : W.cell? ⟨w.heap.size + 1 + 1, 0, none⟩ = some (.int .i64 a0_0) := qX 0
          have qX1 : W.cell? ⟨w.heap.size + 1 + 1, 1, none⟩ = some (.int .i64 a0_1) := qX 1
          have qX2 : W.cell? ⟨w.heap.size + 1 + 1, 2, none⟩ = some (.int .i64 a0_2) := qX 2
          have qX3 : W.cell? ⟨w.heap.size + 1 + 1, 3, none⟩ = some (.int .i64 a0_3) := qX 3
          have qX4 : W.cell? ⟨w.heap.size + 1 + 1, 4, none⟩ = some (.int .i64 a0_4) := qX 4
          have qY0 : W.cell? ⟨w.heap.size + 1 + 1 + 1, 0, none⟩ = some (.int .i64 a1_0) := qY 0
          have qY1 : W.cell? ⟨w.heap.size + 1 + 1 + 1, 1, none⟩ = some (.int .i64 a1_1) := qY 1
          have qY2 : W.cell? ⟨w.heap.size + 1 + 1 + 1, 2, none⟩ = some (.int .i64 a1_2) := qY 2
          have qY3 : W.cell? ⟨w.heap.size + 1 + 1 + 1, 3, none⟩ = some (.int .i64 a1_3) := qY 3
          have qY4 : W.cell? ⟨w.heap.size + 1 + 1 + 1, 4, none⟩ = some (.int .i64 a1_4) := qY 4
          clear qA qB qX qY
          rename_i hH; clear hH
          go_wp2_with (first | (go_at_call 46; (with_reducible refine (impl_IsFind.calls a0_0 a0_1 a0_2 a0_3 a0_4 a0_5 a0_6 a0_7 true _ A1.out).mono ?_); rintro e w1 ⟨rfl, hb⟩; have HB1 : Aside0 (Below w.heap.size w w1) := ⟨below_step (by repeat (first | exact HB0.out | apply below_drew1 | apply pw_below_drewN)) hb⟩; have pA0 := pw_cell_below hb qA0; clear qA0; have pA1 := pw_cell_below hb qA1; clear qA1; have pA2 := pw_cell_below hb qA2; clear qA2; have pA3 := pw_cell_below hb qA3; clear qA3; have pA4 := pw_cell_below hb qA4; clear qA4; have pA5 := pw_cell_below hb qA5; clear qA5; have pA6 := pw_cell_below hb qA6; clear qA6; have pA7 := pw_cell_below hb qA7; clear qA7; have pB0 := pw_cell_below hb qB0; clear qB0; have pB1 := pw_cell_below hb qB1; clear qB1; have pB2 := pw_cell_below hb qB2; clear qB2; have pB3 := pw_cell_below hb qB3; clear qB3; have pB4 := pw_cell_below hb qB4; clear qB4; have pB5 := pw_cell_below hb qB5; clear qB5; have pB6 := pw_cell_below hb qB6; clear qB6; have pB7 := pw_cell_below hb qB7; clear qB7; have pX0 := pw_cell_below hb qX0; clear qX0; have pX1 := pw_cell_below hb qX1; clear qX1; have pX2 := pw_cell_below hb qX2; clear qX2; have pX3 := pw_cell_below hb qX3; clear qX3; have pX4 := pw_cell_below hb qX4; clear qX4; have pY0 := pw_cell_below hb qY0; clear qY0; have pY1 := pw_cell_below hb qY1; clear qY1; have pY2 := pw_cell_below hb qY2; clear qY2; have pY3 := pw_cell_below hb qY3; clear qY3; have pY4 := pw_cell_below hb qY4; clear qY4; clear hb) | (go_at_call 46; (with_reducible refine (impl_IsFind.calls a1_0 a1_1 a1_2 a1_3 a1_4 a1_5 a1_6 a1_7 true _ A2.out).mono ?_); rintro e w2 ⟨rfl, hb⟩; have HB2 : Aside0 (Below w.heap.size w w2) := ⟨below_step (by repeat (first | exact HB1.out | apply below_drew1 | apply pw_below_drewN)) hb⟩; have rA0 := pw_cell_below hb pA0; clear pA0; have rA1 := pw_cell_below hb pA1; clear pA1; have rA2 := pw_cell_below hb pA2; clear pA2; have rA3 := pw_cell_below hb pA3; clear pA3; have rA4 := pw_cell_below hb pA4; clear pA4; have rA5 := pw_cell_below hb pA5; clear pA5; have rA6 := pw_cell_below hb pA6; clear pA6; have rA7 := pw_cell_below hb pA7; clear pA7; have rB0 := pw_cell_below hb pB0; clear pB0; have rB1 := pw_cell_below hb pB1; clear pB1; have rB2 := pw_cell_below hb pB2; clear pB2; have rB3 := pw_cell_below hb pB3; clear pB3; have rB4 := pw_cell_below hb pB4; clear pB4; have rB5 := pw_cell_below hb pB5; clear pB5; have rB6 := pw_cell_below hb pB6; clear pB6; have rB7 := pw_cell_below hb pB7; clear pB7; have rX0 := pw_cell_below hb pX0; clear pX0; have rX1 := pw_cell_below hb pX1; clear pX1; have rX2 := pw_cell_below hb pX2; clear pX2; have rX3 := pw_cell_below hb pX3; clear pX3; have rX4 := pw_cell_below hb pX4; clear pX4; have rY0 := pw_cell_below hb pY0; clear pY0; have rY1 := pw_cell_below hb pY1; clear pY1; have rY2 := pw_cell_below hb pY2; clear pY2; have rY3 := pw_cell_below hb pY3; clear pY3; have rY4 := pw_cell_below hb pY4; clear pY4; clear hb))
          all_goals go_ret
          all_goals exact ⟨rfl, by repeat (first | exact HB2.out | apply below_drew1 | apply pw_below_drewN)⟩
        · refine impl_AreTwins.world (P := fun W => Exit.then _ _ Exit.normal _ W) w [.int .i64 a0_0, .int .i64 a0_1, .int .i64 a0_2, .int .i64 a0_3, .int .i64 a0_4, .int .i64 a0_5, .int .i64 a0_6, .int .i64 a0_7] [.int .i64 a1_0, .int .i64 a1_1, .int .i64 a1_2, .int .i64 a1_3, .int .i64 a1_4, .int .i64 a1_5, .int .i64 a1_6, .int .i64 a1_7] [.int .i64 a1_0, .int .i64 a1_1, .int .i64 a1_2, .int .i64 a1_3, .int .i64 a1_4] [.int .i64 a0_0, .int .i64 a0_1, .int .i64 a0_2, .int .i64 a0_3, .int .i64 a0_4] 37 35 ?_
          intro W qA qB qX qY hb0
          have HB0 := Aside0.mk hb0; clear hb0
          have qA0 : W.cell? ⟨w.heap.size, 0, none⟩ = some (.int .i64 a0_0) := qA 0
          have qA1 : W.cell? ⟨w.heap.size, 1, none⟩ = some (.int .i64 a0_1) := qA 1
          have qA2 : W.cell? ⟨w.heap.size, 2, none⟩ = some (.int .i64 a0_2) := qA 2
          have qA3 : W.cell? ⟨w.heap.size, 3, none⟩ = some (.int .i64 a0_3) := qA 3
          have qA4 : W.cell? ⟨w.heap.size, 4, none⟩ = some (.int .i64 a0_4) := qA 4
          have qA5 : W.cell? ⟨w.heap.size, 5, none⟩ = some (.int .i64 a0_5) := qA 5
          have qA6 : W.cell? ⟨w.heap.size, 6, none⟩ = some (.int .i64 a0_6) := qA 6
          have qA7 : W.cell? ⟨w.heap.size, 7, none⟩ = some (.int .i64 a0_7) := qA 7
          have qB0 : W.cell? ⟨w.heap.size + 1, 0, none⟩ = some (.int .i64 a1_0) := qB 0
          have qB1 : W.cell? ⟨w.heap.size + 1, 1, none⟩ = some (.int .i64 a1_1) := qB 1
          have qB2 : W.cell? ⟨w.heap.size + 1, 2, none⟩ = some (.int .i64 a1_2) := qB 2
          have qB3 : W.cell? ⟨w.heap.size + 1, 3, none⟩ = some (.int .i64 a1_3) := qB 3
          have qB4 : W.cell? ⟨w.heap.size + 1, 4, none⟩ = some (.int .i64 a1_4) := qB 4
          have qB5 : W.cell? ⟨w.heap.size + 1, 5, none⟩ = some (.int .i64 a1_5) := qB 5
          have qB6 : W.cell? ⟨w.heap.size + 1, 6, none⟩ = some (.int .i64 a1_6) := qB 6
          have qB7 : W.cell? ⟨w.heap.size + 1, 7, none⟩ = some (.int .i64 a1_7) := qB 7
          have qX0 : W.cell? ⟨w.heap.size + 1 + 1, 0, none⟩ = some (.int .i64 a1_0) := qX 0
          have qX1 : W.cell? ⟨w.heap.size + 1 + 1, 1, none⟩ = some (.int .i64 a1_1) := qX 1
          have qX2 : W.cell? ⟨w.heap.size + 1 + 1, 2, none⟩ = some (.int .i64 a1_2) := qX 2
          have qX3 : W.cell? ⟨w.heap.size + 1 + 1, 3, none⟩ = some (.int .i64 a1_3) := qX 3
          have qX4 : W.cell? ⟨w.heap.size + 1 + 1, 4, none⟩ = some (.int .i64 a1_4) := qX 4
          have qY0 : W.cell? ⟨w.heap.size + 1 + 1 + 1, 0, none⟩ = some (.int .i64 a0_0) := qY 0
          have qY1 : W.cell? ⟨w.heap.size + 1 + 1 + 1, 1, none⟩ = some (.int .i64 a0_1) := qY 1
          have qY2 : W.cell? ⟨w.heap.size + 1 + 1 + 1, 2, none⟩ = some (.int .i64 a0_2) := qY 2
          have qY3 : W.cell? ⟨w.heap.size + 1 + 1 + 1, 3, none⟩ = some (.int .i64 a0_3) := qY 3
          have qY4 : W.cell? ⟨w.heap.size + 1 + 1 + 1, 4, none⟩ = some (.int .i64 a0_4) := qY 4
          clear qA qB qX qY
          rename_i hH; clear hH
          go_wp2_with (first | (go_at_call 46; (with_reducible refine (impl_IsFind.calls a0_0 a0_1 a0_2 a0_3 a0_4 a0_5 a0_6 a0_7 true _ A1.out).mono ?_); rintro e w1 ⟨rfl, hb⟩; have HB1 : Aside0 (Below w.heap.size w w1) := ⟨below_step (by repeat (first | exact HB0.out | apply below_drew1 | apply pw_below_drewN)) hb⟩; have pA0 := pw_cell_below hb qA0; clear qA0; have pA1 := pw_cell_below hb qA1; clear qA1; have pA2 := pw_cell_below hb qA2; clear qA2; have pA3 := pw_cell_below hb qA3; clear qA3; have pA4 := pw_cell_below hb qA4; clear qA4; have pA5 := pw_cell_below hb qA5; clear qA5; have pA6 := pw_cell_below hb qA6; clear qA6; have pA7 := pw_cell_below hb qA7; clear qA7; have pB0 := pw_cell_below hb qB0; clear qB0; have pB1 := pw_cell_below hb qB1; clear qB1; have pB2 := pw_cell_below hb qB2; clear qB2; have pB3 := pw_cell_below hb qB3; clear qB3; have pB4 := pw_cell_below hb qB4; clear qB4; have pB5 := pw_cell_below hb qB5; clear qB5; have pB6 := pw_cell_below hb qB6; clear qB6; have pB7 := pw_cell_below hb qB7; clear qB7; have pX0 := pw_cell_below hb qX0; clear qX0; have pX1 := pw_cell_below hb qX1; clear qX1; have pX2 := pw_cell_below hb qX2; clear qX2; have pX3 := pw_cell_below hb qX3; clear qX3; have pX4 := pw_cell_below hb qX4; clear qX4; have pY0 := pw_cell_below hb qY0; clear qY0; have pY1 := pw_cell_below hb qY1; clear qY1; have pY2 := pw_cell_below hb qY2; clear qY2; have pY3 := pw_cell_below hb qY3; clear qY3; have pY4 := pw_cell_below hb qY4; clear qY4; clear hb) | (go_at_call 46; (with_reducible refine (impl_IsFind.calls a1_0 a1_1 a1_2 a1_3 a1_4 a1_5 a1_6 a1_7 true _ A2.out).mono ?_); rintro e w2 ⟨rfl, hb⟩; have HB2 : Aside0 (Below w.heap.size w w2) := ⟨below_step (by repeat (first | exact HB1.out | apply below_drew1 | apply pw_below_drewN)) hb⟩; have rA0 := pw_cell_below hb pA0; clear pA0; have rA1 := pw_cell_below hb pA1; clear pA1; have rA2 := pw_cell_below hb pA2; clear pA2; have rA3 := pw_cell_below hb pA3; clear pA3; have rA4 := pw_cell_below hb pA4; clear pA4; have rA5 := pw_cell_below hb pA5; clear pA5; have rA6 := pw_cell_below hb pA6; clear pA6; have rA7 := pw_cell_below hb pA7; clear pA7; have rB0 := pw_cell_below hb pB0; clear pB0; have rB1 := pw_cell_below hb pB1; clear pB1; have rB2 := pw_cell_below hb pB2; clear pB2; have rB3 := pw_cell_below hb pB3; clear pB3; have rB4 := pw_cell_below hb pB4; clear pB4; have rB5 := pw_cell_below hb pB5; clear pB5; have rB6 := pw_cell_below hb pB6; clear pB6; have rB7 := pw_cell_below hb pB7; clear pB7; have rX0 := pw_cell_below hb pX0; clear pX0; have rX1 := pw_cell_below hb pX1; clear pX1; have rX2 := pw_cell_below hb pX2; clear pX2; have rX3 := pw_cell_below hb pX3; clear pX3; have rX4 := pw_cell_below hb pX4; clear pX4; have rY0 := pw_cell_below hb pY0; clear pY0; have rY1 := pw_cell_below hb pY1; clear pY1; have rY2 := pw_cell_below hb pY2; clear pY2; have rY3 := pw_cell_below hb pY3; clear pY3; have rY4 := pw_cell_below hb pY4; clear pY4; clear hb))
          all_goals go_ret
          all_goals exact ⟨rfl, by repeat (first | exact HB2.out | apply below_drew1 | apply pw_below_drewN)⟩
      rw [if_neg c0] at h
      have c0b : (a0_0 != a1_0) = true := bne_iff_ne.mpr c0
      clear c0
      by_cases c1 : a0_1 = a1_1
      rotate_left
      · rw [if_neg c1] at h
        obtain rfl := Option.some.inj h
        have c1b : (a0_1 == a1_1) = false := beq_eq_false_iff_ne.mpr c1
        clear h c1
        go_enter Try.func23, Try.ntmps23
        go_wp2_with fail
        go_region_held3 (fun w' => w'.cell? ⟨w.heap.size, 0, none⟩ = some (.int .i64 a0_0) ∧ w'.cell? ⟨w.heap.size, 1, none⟩ = some (.int .i64 a0_1) ∧ w'.cell? ⟨w.heap.size, 2, none⟩ = some (.int .i64 a0_2) ∧ w'.cell? ⟨w.heap.size, 3, none⟩ = some (.int .i64 a0_3) ∧ w'.cell? ⟨w.heap.size, 4, none⟩ = some (.int .i64 a0_4) ∧ w'.cell? ⟨w.heap.size + 1, 0, none⟩ = some (.int .i64 a1_0) ∧ w'.cell? ⟨w.heap.size + 1, 1, none⟩ = some (.int .i64 a1_1) ∧ w'.cell? ⟨w.heap.size + 1, 2, none⟩ = some (.int .i64 a1_2) ∧ w'.cell? ⟨w.heap.size + 1, 3, none⟩ = some (.int .i64 a1_3) ∧ w'.cell? ⟨w.heap.size + 1, 4, none⟩ = some (.int .i64 a1_4)) (go_keep) (fail)
        · refine impl_AreTwins.world (P := fun W => Exit.then _ _ Exit.normal _ W) w [.int .i64 a0_0, .int .i64 a0_1, .int .i64 a0_2, .int .i64 a0_3, .int .i64 a0_4, .int .i64 a0_5, .int .i64 a0_6, .int .i64 a0_7] [.int .i64 a1_0, .int .i64 a1_1, .int .i64 a1_2, .int .i64 a1_3, .int .i64 a1_4, .int .i64 a1_5, .int .i64 a1_6, .int .i64 a1_7] [.int .i64 a0_0, .int .i64 a0_1, .int .i64 a0_2, .int .i64 a0_3, .int .i64 a0_4] [.int .i64 a1_0, .int .i64 a1_1, .int .i64 a1_2, .int .i64 a1_3, .int .i64 a1_4] 37 35 ?_
          intro W qA qB qX qY hb0
          have HB0 := Aside0.mk hb0; clear hb0
          have qA0 : W.cell? ⟨w.heap.size, 0, none⟩ = some (.int .i64 a0_0) := qA 0
          have qA1 : W.cell? ⟨w.heap.size, 1, none⟩ = some (.int .i64 a0_1) := qA 1
          have qA2 : W.cell? ⟨w.heap.size, 2, none⟩ = some (.int .i64 a0_2) := qA 2
          have qA3 : W.cell? ⟨w.heap.size, 3, none⟩ = some (.int .i64 a0_3) := qA 3
          have qA4 : W.cell? ⟨w.heap.size, 4, none⟩ = some (.int .i64 a0_4) := qA 4
          have qA5 : W.cell? ⟨w.heap.size, 5, none⟩ = some (.int .i64 a0_5) := qA 5
          have qA6 : W.cell? ⟨w.heap.size, 6, none⟩ = some (.int .i64 a0_6) := qA 6
          have qA7 : W.cell? ⟨w.heap.size, 7, none⟩ = some (.int .i64 a0_7) := qA 7
          have qB0 : W.cell? ⟨w.heap.size + 1, 0, none⟩ = some (.int .i64 a1_0) := qB 0
          have qB1 : W.cell? ⟨w.heap.size + 1, 1, none⟩ = some (.int .i64 a1_1) := qB 1
          have qB2 : W.cell? ⟨w.heap.size + 1, 2, none⟩ = some (.int .i64 a1_2) := qB 2
          have qB3 : W.cell? ⟨w.heap.size + 1, 3, none⟩ = some (.int .i64 a1_3) := qB 3
          have qB4 : W.cell? ⟨w.heap.size + 1, 4, none⟩ = some (.int .i64 a1_4) := qB 4
          have qB5 : W.cell? ⟨w.heap.size + 1, 5, none⟩ = some (.int .i64 a1_5) := qB 5
          have qB6 : W.cell? ⟨w.heap.size + 1, 6, none⟩ = some (.int .i64 a1_6) := qB 6
          have qB7 : W.cell? ⟨w.heap.size + 1, 7, none⟩ = some (.int .i64 a1_7) := qB 7
          have qX0 : W.cell? ⟨w.heap.size + 1 + 1, 0, none⟩ = some (.int .i64 a0_0) := qX 0
          have qX1 : W.cell? ⟨w.heap.size + 1 + 1, 1, none⟩ = some (.int .i64 a0_1) := qX 1
          have qX2 : W.cell? ⟨w.heap.size + 1 + 1, 2, none⟩ = some (.int .i64 a0_2) := qX 2
          have qX3 : W.cell? ⟨w.heap.size + 1 + 1, 3, none⟩ = some (.int .i64 a0_3) := qX 3
          have qX4 : W.cell? ⟨w.heap.size + 1 + 1, 4, none⟩ = some (.int .i64 a0_4) := qX 4
          have qY0 : W.cell? ⟨w.heap.size + 1 + 1 + 1, 0, none⟩ = some (.int .i64 a1_0) := qY 0
          have qY1 : W.cell? ⟨w.heap.size + 1 + 1 + 1, 1, none⟩ = some (.int .i64 a1_1) := qY 1
          have qY2 : W.cell? ⟨w.heap.size + 1 + 1 + 1, 2, none⟩ = some (.int .i64 a1_2) := qY 2
          have qY3 : W.cell? ⟨w.heap.size + 1 + 1 + 1, 3, none⟩ = some (.int .i64 a1_3) := qY 3
          have qY4 : W.cell? ⟨w.heap.size + 1 + 1 + 1, 4, none⟩ = some (.int .i64 a1_4) := qY 4
          clear qA qB qX qY
          rename_i hH; clear hH
          go_wp2_with (first | (go_at_call 46; (with_reducible refine (impl_IsFind.calls a0_0 a0_1 a0_2 a0_3 a0_4 a0_5 a0_6 a0_7 true _ A1.out).mono ?_); rintro e w1 ⟨rfl, hb⟩; have HB1 : Aside0 (Below w.heap.size w w1) := ⟨below_step (by repeat (first | exact HB0.out | apply below_drew1 | apply pw_below_drewN)) hb⟩; have pA0 := pw_cell_below hb qA0; clear qA0; have pA1 := pw_cell_below hb qA1; clear qA1; have pA2 := pw_cell_below hb qA2; clear qA2; have pA3 := pw_cell_below hb qA3; clear qA3; have pA4 := pw_cell_below hb qA4; clear qA4; have pA5 := pw_cell_below hb qA5; clear qA5; have pA6 := pw_cell_below hb qA6; clear qA6; have pA7 := pw_cell_below hb qA7; clear qA7; have pB0 := pw_cell_below hb qB0; clear qB0; have pB1 := pw_cell_below hb qB1; clear qB1; have pB2 := pw_cell_below hb qB2; clear qB2; have pB3 := pw_cell_below hb qB3; clear qB3; have pB4 := pw_cell_below hb qB4; clear qB4; have pB5 := pw_cell_below hb qB5; clear qB5; have pB6 := pw_cell_below hb qB6; clear qB6; have pB7 := pw_cell_below hb qB7; clear qB7; have pX0 := pw_cell_below hb qX0; clear qX0; have pX1 := pw_cell_below hb qX1; clear qX1; have pX2 := pw_cell_below hb qX2; clear qX2; have pX3 := pw_cell_below hb qX3; clear qX3; have pX4 := pw_cell_below hb qX4; clear qX4; have pY0 := pw_cell_below hb qY0; clear qY0; have pY1 := pw_cell_below hb qY1; clear qY1; have pY2 := pw_cell_below hb qY2; clear qY2; have pY3 := pw_cell_below hb qY3; clear qY3; have pY4 := pw_cell_below hb qY4; clear qY4; clear hb) | (go_at_call 46; (with_reducible refine (impl_IsFind.calls a1_0 a1_1 a1_2 a1_3 a1_4 a1_5 a1_6 a1_7 true _ A2.out).mono ?_); rintro e w2 ⟨rfl, hb⟩; have HB2 : Aside0 (Below w.heap.size w w2) := ⟨below_step (by repeat (first | exact HB1.out | apply below_drew1 | apply pw_below_drewN)) hb⟩; have rA0 := pw_cell_below hb pA0; clear pA0; have rA1 := pw_cell_below hb pA1; clear pA1; have rA2 := pw_cell_below hb pA2; clear pA2; have rA3 := pw_cell_below hb pA3; clear pA3; have rA4 := pw_cell_below hb pA4; clear pA4; have rA5 := pw_cell_below hb pA5; clear pA5; have rA6 := pw_cell_below hb pA6; clear pA6; have rA7 := pw_cell_below hb pA7; clear pA7; have rB0 := pw_cell_below hb pB0; clear pB0; have rB1 := pw_cell_below hb pB1; clear pB1; have rB2 := pw_cell_below hb pB2; clear pB2; have rB3 := pw_cell_below hb pB3; clear pB3; have rB4 := pw_cell_below hb pB4; clear pB4; have rB5 := pw_cell_below hb pB5; clear pB5; have rB6 := pw_cell_below hb pB6; clear pB6; have rB7 := pw_cell_below hb pB7; clear pB7; have rX0 := pw_cell_below hb pX0; clear pX0; have rX1 := pw_cell_below hb pX1; clear pX1; have rX2 := pw_cell_below hb pX2; clear pX2; have rX3 := pw_cell_below hb pX3; clear pX3; have rX4 := pw_cell_below hb pX4; clear pX4; have rY0 := pw_cell_below hb pY0; clear pY0; have rY1 := pw_cell_below hb pY1; clear pY1; have rY2 := pw_cell_below hb pY2; clear pY2; have rY3 := pw_cell_below hb pY3; clear pY3; have rY4 := pw_cell_below hb pY4; clear pY4; clear hb))
          all_goals go_ret
          all_goals exact ⟨rfl, by repeat (first | exact HB2.out | apply below_drew1 | apply pw_below_drewN)⟩
        · refine impl_AreTwins.world (P := fun W => Exit.then _ _ Exit.normal _ W) w [.int .i64 a0_0, .int .i64 a0_1, .int .i64 a0_2, .int .i64 a0_3, .int .i64 a0_4, .int .i64 a0_5, .int .i64 a0_6, .int .i64 a0_7] [.int .i64 a1_0, .int .i64 a1_1, .int .i64 a1_2, .int .i64 a1_3, .int .i64 a1_4, .int .i64 a1_5, .int .i64 a1_6, .int .i64 a1_7] [.int .i64 a1_0, .int .i64 a1_1, .int .i64 a1_2, .int .i64 a1_3, .int .i64 a1_4] [.int .i64 a0_0, .int .i64 a0_1, .int .i64 a0_2, .int .i64 a0_3, .int .i64 a0_4] 37 35 ?_
          intro W qA qB qX qY hb0
          have HB0 := Aside0.mk hb0; clear hb0
          have qA0 : W.cell? ⟨w.heap.size, 0, none⟩ = some (.int .i64 a0_0) := qA 0
          have qA1 : W.cell? ⟨w.heap.size, 1, none⟩ = some (.int .i64 a0_1) := qA 1
          have qA2 : W.cell? ⟨w.heap.size, 2, none⟩ = some (.int .i64 a0_2) := qA 2
          have qA3 : W.cell? ⟨w.heap.size, 3, none⟩ = some (.int .i64 a0_3) := qA 3
          have qA4 : W.cell? ⟨w.heap.size, 4, none⟩ = some (.int .i64 a0_4) := qA 4
          have qA5 : W.cell? ⟨w.heap.size, 5, none⟩ = some (.int .i64 a0_5) := qA 5
          have qA6 : W.cell? ⟨w.heap.size, 6, none⟩ = some (.int .i64 a0_6) := qA 6
          have qA7 : W.cell? ⟨w.heap.size, 7, none⟩ = some (.int .i64 a0_7) := qA 7
          have qB0 : W.cell? ⟨w.heap.size + 1, 0, none⟩ = some (.int .i64 a1_0) := qB 0
          have qB1 : W.cell? ⟨w.heap.size + 1, 1, none⟩ = some (.int .i64 a1_1) := qB 1
          have qB2 : W.cell? ⟨w.heap.size + 1, 2, none⟩ = some (.int .i64 a1_2) := qB 2
          have qB3 : W.cell? ⟨w.heap.size + 1, 3, none⟩ = some (.int .i64 a1_3) := qB 3
          have qB4 : W.cell? ⟨w.heap.size + 1, 4, none⟩ = some (.int .i64 a1_4) := qB 4
          have qB5 : W.cell? ⟨w.heap.size + 1, 5, none⟩ = some (.int .i64 a1_5) := qB 5
          have qB6 : W.cell? ⟨w.heap.size + 1, 6, none⟩ = some (.int .i64 a1_6) := qB 6
          have qB7 : W.cell? ⟨w.heap.size + 1, 7, none⟩ = some (.int .i64 a1_7) := qB 7
          have qX0 : W.cell? ⟨w.heap.size + 1 + 1, 0, none⟩ = some (.int .i64 a1_0) := qX 0
          have qX1 : W.cell? ⟨w.heap.size + 1 + 1, 1, none⟩ = some (.int .i64 a1_1) := qX 1
          have qX2 : W.cell? ⟨w.heap.size + 1 + 1, 2, none⟩ = some (.int .i64 a1_2) := qX 2
          have qX3 : W.cell? ⟨w.heap.size + 1 + 1, 3, none⟩ = some (.int .i64 a1_3) := qX 3
          have qX4 : W.cell? ⟨w.heap.size + 1 + 1, 4, none⟩ = some (.int .i64 a1_4) := qX 4
          have qY0 : W.cell? ⟨w.heap.size + 1 + 1 + 1, 0, none⟩ = some (.int .i64 a0_0) := qY 0
          have qY1 : W.cell? ⟨w.heap.size + 1 + 1 + 1, 1, none⟩ = some (.int .i64 a0_1) := qY 1
          have qY2 : W.cell? ⟨w.heap.size + 1 + 1 + 1, 2, none⟩ = some (.int .i64 a0_2) := qY 2
          have qY3 : W.cell? ⟨w.heap.size + 1 + 1 + 1, 3, none⟩ = some (.int .i64 a0_3) := qY 3
          have qY4 : W.cell? ⟨w.heap.size + 1 + 1 + 1, 4, none⟩ = some (.int .i64 a0_4) := qY 4
          clear qA qB qX qY
          rename_i hH; clear hH
          go_wp2_with (first | (go_at_call 46; (with_reducible refine (impl_IsFind.calls a0_0 a0_1 a0_2 a0_3 a0_4 a0_5 a0_6 a0_7 true _ A1.out).mono ?_); rintro e w1 ⟨rfl, hb⟩; have HB1 : Aside0 (Below w.heap.size w w1) := ⟨below_step (by repeat (first | exact HB0.out | apply below_drew1 | apply pw_below_drewN)) hb⟩; have pA0 := pw_cell_below hb qA0; clear qA0; have pA1 := pw_cell_below hb qA1; clear qA1; have pA2 := pw_cell_below hb qA2; clear qA2; have pA3 := pw_cell_below hb qA3; clear qA3; have pA4 := pw_cell_below hb qA4; clear qA4; have pA5 := pw_cell_below hb qA5; clear qA5; have pA6 := pw_cell_below hb qA6; clear qA6; have pA7 := pw_cell_below hb qA7; clear qA7; have pB0 := pw_cell_below hb qB0; clear qB0; have pB1 := pw_cell_below hb qB1; clear qB1; have pB2 := pw_cell_below hb qB2; clear qB2; have pB3 := pw_cell_below hb qB3; clear qB3; have pB4 := pw_cell_below hb qB4; clear qB4; have pB5 := pw_cell_below hb qB5; clear qB5; have pB6 := pw_cell_below hb qB6; clear qB6; have pB7 := pw_cell_below hb qB7; clear qB7; have pX0 := pw_cell_below hb qX0; clear qX0; have pX1 := pw_cell_below hb qX1; clear qX1; have pX2 := pw_cell_below hb qX2; clear qX2; have pX3 := pw_cell_below hb qX3; clear qX3; have pX4 := pw_cell_below hb qX4; clear qX4; have pY0 := pw_cell_below hb qY0; clear qY0; have pY1 := pw_cell_below hb qY1; clear qY1; have pY2 := pw_cell_below hb qY2; clear qY2; have pY3 := pw_cell_below hb qY3; clear qY3; have pY4 := pw_cell_below hb qY4; clear qY4; clear hb) | (go_at_call 46; (with_reducible refine (impl_IsFind.calls a1_0 a1_1 a1_2 a1_3 a1_4 a1_5 a1_6 a1_7 true _ A2.out).mono ?_); rintro e w2 ⟨rfl, hb⟩; have HB2 : Aside0 (Below w.heap.size w w2) := ⟨below_step (by repeat (first | exact HB1.out | apply below_drew1 | apply pw_below_drewN)) hb⟩; have rA0 := pw_cell_below hb pA0; clear pA0; have rA1 := pw_cell_below hb pA1; clear pA1; have rA2 := pw_cell_below hb pA2; clear pA2; have rA3 := pw_cell_below hb pA3; clear pA3; have rA4 := pw_cell_below hb pA4; clear pA4; have rA5 := pw_cell_below hb pA5; clear pA5; have rA6 := pw_cell_below hb pA6; clear pA6; have rA7 := pw_cell_below hb pA7; clear pA7; have rB0 := pw_cell_below hb pB0; clear pB0; have rB1 := pw_cell_below hb pB1; clear pB1; have rB2 := pw_cell_below hb pB2; clear pB2; have rB3 := pw_cell_below hb pB3; clear pB3; have rB4 := pw_cell_below hb pB4; clear pB4; have rB5 := pw_cell_below hb pB5; clear pB5; have rB6 := pw_cell_below hb pB6; clear pB6; have rB7 := pw_cell_below hb pB7; clear pB7; have rX0 := pw_cell_below hb pX0; clear pX0; have rX1 := pw_cell_below hb pX1; clear pX1; have rX2 := pw_cell_below hb pX2; clear pX2; have rX3 := pw_cell_below hb pX3; clear pX3; have rX4 := pw_cell_below hb pX4; clear pX4; have rY0 := pw_cell_below hb pY0; clear pY0; have rY1 := pw_cell_below hb pY1; clear pY1; have rY2 := pw_cell_below hb pY2; clear pY2; have rY3 := pw_cell_below hb pY3; clear pY3; have rY4 := pw_cell_below hb pY4; clear pY4; clear hb))
          all_goals go_ret
          all_goals exact ⟨rfl, by repeat (first | exact HB2.out | apply below_drew1 | apply pw_below_drewN)⟩
      rw [if_pos c1] at h
      have c1b : (a0_1 == a1_1) = true := beq_iff_eq.mpr c1
      clear c1
      by_cases c2 : a0_2 = a1_2
      rotate_left
      · rw [if_neg c2] at h
        obtain rfl := Option.some.inj h
        have c2b : (a0_2 == a1_2) = false := beq_eq_false_iff_ne.mpr c2
        clear h c2
        go_enter Try.func23, Try.ntmps23
        go_wp2_with fail
        go_region_held3 (fun w' => w'.cell? ⟨w.heap.size, 0, none⟩ = some (.int .i64 a0_0) ∧ w'.cell? ⟨w.heap.size, 1, none⟩ = some (.int .i64 a0_1) ∧ w'.cell? ⟨w.heap.size, 2, none⟩ = some (.int .i64 a0_2) ∧ w'.cell? ⟨w.heap.size, 3, none⟩ = some (.int .i64 a0_3) ∧ w'.cell? ⟨w.heap.size, 4, none⟩ = some (.int .i64 a0_4) ∧ w'.cell? ⟨w.heap.size + 1, 0, none⟩ = some (.int .i64 a1_0) ∧ w'.cell? ⟨w.heap.size + 1, 1, none⟩ = some (.int .i64 a1_1) ∧ w'.cell? ⟨w.heap.size + 1, 2, none⟩ = some (.int .i64 a1_2) ∧ w'.cell? ⟨w.heap.size + 1, 3, none⟩ = some (.int .i64 a1_3) ∧ w'.cell? ⟨w.heap.size + 1, 4, none⟩ = some (.int .i64 a1_4)) (go_keep) (fail)
        · refine impl_AreTwins.world (P := fun W => Exit.then _ _ Exit.normal _ W) w [.int .i64 a0_0, .int .i64 a0_1, .int .i64 a0_2, .int .i64 a0_3, .int .i64 a0_4, .int .i64 a0_5, .int .i64 a0_6, .int .i64 a0_7] [.int .i64 a1_0, .int .i64 a1_1, .int .i64 a1_2, .int .i64 a1_3, .int .i64 a1_4, .int .i64 a1_5, .int .i64 a1_6, .int .i64 a1_7] [.int .i64 a0_0, .int .i64 a0_1, .int .i64 a0_2, .int .i64 a0_3, .int .i64 a0_4] [.int .i64 a1_0, .int .i64 a1_1, .int .i64 a1_2, .int .i64 a1_3, .int .i64 a1_4] 37 35 ?_
          intro W qA qB qX qY hb0
          have HB0 := Aside0.mk hb0; clear hb0
          have qA0 : W.cell? ⟨w.heap.size, 0, none⟩ = some (.int .i64 a0_0) := qA 0
          have qA1 : W.cell? ⟨w.heap.size, 1, none⟩ = some (.int .i64 a0_1) := qA 1
          have qA2 : W.cell? ⟨w.heap.size, 2, none⟩ = some (.int .i64 a0_2) := qA 2
          have qA3 : W.cell? ⟨w.heap.size, 3, none⟩ = some (.int .i64 a0_3) := qA 3
          have qA4 : W.cell? ⟨w.heap.size, 4, none⟩ = some (.int .i64 a0_4) := qA 4
          have qA5 : W.cell? ⟨w.heap.size, 5, none⟩ = some (.int .i64 a0_5) := qA 5
          have qA6 : W.cell? ⟨w.heap.size, 6, none⟩ = some (.int .i64 a0_6) := qA 6
          have qA7 : W.cell? ⟨w.heap.size, 7, none⟩ = some (.int .i64 a0_7) := qA 7
          have qB0 : W.cell? ⟨w.heap.size + 1, 0, none⟩ = some (.int .i64 a1_0) := qB 0
          have qB1 : W.cell? ⟨w.heap.size + 1, 1, none⟩ = some (.int .i64 a1_1) := qB 1
          have qB2 : W.cell? ⟨w.heap.size + 1, 2, none⟩ = some (.int .i64 a1_2) := qB 2
          have qB3 : W.cell? ⟨w.heap.size + 1, 3, none⟩ = some (.int .i64 a1_3) := qB 3
          have qB4 : W.cell? ⟨w.heap.size + 1, 4, none⟩ = some (.int .i64 a1_4) := qB 4
          have qB5 : W.cell? ⟨w.heap.size + 1, 5, none⟩ = some (.int .i64 a1_5) := qB 5
          have qB6 : W.cell? ⟨w.heap.size + 1, 6, none⟩ = some (.int .i64 a1_6) := qB 6
          have qB7 : W.cell? ⟨w.heap.size + 1, 7, none⟩ = some (.int .i64 a1_7) := qB 7
          have qX0 : W.cell? ⟨w.heap.size + 1 + 1, 0, none⟩ = some (.int .i64 a0_0) := qX 0
          have qX1 : W.cell? ⟨w.heap.size + 1 + 1, 1, none⟩ = some (.int .i64 a0_1) := qX 1
          have qX2 : W.cell? ⟨w.heap.size + 1 + 1, 2, none⟩ = some (.int .i64 a0_2) := qX 2
          have qX3 : W.cell? ⟨w.heap.size + 1 + 1, 3, none⟩ = some (.int .i64 a0_3) := qX 3
          have qX4 : W.cell? ⟨w.heap.size + 1 + 1, 4, none⟩ = some (.int .i64 a0_4) := qX 4
          have qY0 : W.cell? ⟨w.heap.size + 1 + 1 + 1, 0, none⟩ = some (.int .i64 a1_0) := qY 0
          have qY1 : W.cell? ⟨w.heap.size + 1 + 1 + 1, 1, none⟩ = some (.int .i64 a1_1) := qY 1
          have qY2 : W.cell? ⟨w.heap.size + 1 + 1 + 1, 2, none⟩ = some (.int .i64 a1_2) := qY 2
          have qY3 : W.cell? ⟨w.heap.size + 1 + 1 + 1, 3, none⟩ = some (.int .i64 a1_3) := qY 3
          have qY4 : W.cell? ⟨w.heap.size + 1 + 1 + 1, 4, none⟩ = some (.int .i64 a1_4) := qY 4
          clear qA qB qX qY
          rename_i hH; clear hH
          go_wp2_with (first | (go_at_call 46; (with_reducible refine (impl_IsFind.calls a0_0 a0_1 a0_2 a0_3 a0_4 a0_5 a0_6 a0_7 true _ A1.out).mono ?_); rintro e w1 ⟨rfl, hb⟩; have HB1 : Aside0 (Below w.heap.size w w1) := ⟨below_step (by repeat (first | exact HB0.out | apply below_drew1 | apply pw_below_drewN)) hb⟩; have pA0 := pw_cell_below hb qA0; clear qA0; have pA1 := pw_cell_below hb qA1; clear qA1; have pA2 := pw_cell_below hb qA2; clear qA2; have pA3 := pw_cell_below hb qA3; clear qA3; have pA4 := pw_cell_below hb qA4; clear qA4; have pA5 := pw_cell_below hb qA5; clear qA5; have pA6 := pw_cell_below hb qA6; clear qA6; have pA7 := pw_cell_below hb qA7; clear qA7; have pB0 := pw_cell_below hb qB0; clear qB0; have pB1 := pw_cell_below hb qB1; clear qB1; have pB2 := pw_cell_below hb qB2; clear qB2; have pB3 := pw_cell_below hb qB3; clear qB3; have pB4 := pw_cell_below hb qB4; clear qB4; have pB5 := pw_cell_below hb qB5; clear qB5; have pB6 := pw_cell_below hb qB6; clear qB6; have pB7 := pw_cell_below hb qB7; clear qB7; have pX0 := pw_cell_below hb qX0; clear qX0; have pX1 := pw_cell_below hb qX1; clear qX1; have pX2 := pw_cell_below hb qX2; clear qX2; have pX3 := pw_cell_below hb qX3; clear qX3; have pX4 := pw_cell_below hb qX4; clear qX4; have pY0 := pw_cell_below hb qY0; clear qY0; have pY1 := pw_cell_below hb qY1; clear qY1; have pY2 := pw_cell_below hb qY2; clear qY2; have pY3 := pw_cell_below hb qY3; clear qY3; have pY4 := pw_cell_below hb qY4; clear qY4; clear hb) | (go_at_call 46; (with_reducible refine (impl_IsFind.calls a1_0 a1_1 a1_2 a1_3 a1_4 a1_5 a1_6 a1_7 true _ A2.out).mono ?_); rintro e w2 ⟨rfl, hb⟩; have HB2 : Aside0 (Below w.heap.size w w2) := ⟨below_step (by repeat (first | exact HB1.out | apply below_drew1 | apply pw_below_drewN)) hb⟩; have rA0 := pw_cell_below hb pA0; clear pA0; have rA1 := pw_cell_below hb pA1; clear pA1; have rA2 := pw_cell_below hb pA2; clear pA2; have rA3 := pw_cell_below hb pA3; clear pA3; have rA4 := pw_cell_below hb pA4; clear pA4; have rA5 := pw_cell_below hb pA5; clear pA5; have rA6 := pw_cell_below hb pA6; clear pA6; have rA7 := pw_cell_below hb pA7; clear pA7; have rB0 := pw_cell_below hb pB0; clear pB0; have rB1 := pw_cell_below hb pB1; clear pB1; have rB2 := pw_cell_below hb pB2; clear pB2; have rB3 := pw_cell_below hb pB3; clear pB3; have rB4 := pw_cell_below hb pB4; clear pB4; have rB5 := pw_cell_below hb pB5; clear pB5; have rB6 := pw_cell_below hb pB6; clear pB6; have rB7 := pw_cell_below hb pB7; clear pB7; have rX0 := pw_cell_below hb pX0; clear pX0; have rX1 := pw_cell_below hb pX1; clear pX1; have rX2 := pw_cell_below hb pX2; clear pX2; have rX3 := pw_cell_below hb pX3; clear pX3; have rX4 := pw_cell_below hb pX4; clear pX4; have rY0 := pw_cell_below hb pY0; clear pY0; have rY1 := pw_cell_below hb pY1; clear pY1; have rY2 := pw_cell_below hb pY2; clear pY2; have rY3 := pw_cell_below hb pY3; clear pY3; have rY4 := pw_cell_below hb pY4; clear pY4; clear hb))
          all_goals go_ret
          all_goals exact ⟨rfl, by repeat (first | exact HB2.out | apply below_drew1 | apply pw_below_drewN)⟩
        · refine impl_AreTwins.world (P := fun W => Exit.then _ _ Exit.normal _ W) w [.int .i64 a0_0, .int .i64 a0_1, .int .i64 a0_2, .int .i64 a0_3, .int .i64 a0_4, .int .i64 a0_5, .int .i64 a0_6, .int .i64 a0_7] [.int .i64 a1_0, .int .i64 a1_1, .int .i64 a1_2, .int .i64 a1_3, .int .i64 a1_4, .int .i64 a1_5, .int .i64 a1_6, .int .i64 a1_7] [.int .i64 a1_0, .int .i64 a1_1, .int .i64 a1_2, .int .i64 a1_3, .int .i64 a1_4] [.int .i64 a0_0, .int .i64 a0_1, .int .i64 a0_2, .int .i64 a0_3, .int .i64 a0_4] 37 35 ?_
          intro W qA qB qX qY hb0
          have HB0 := Aside0.mk hb0; clear hb0
          have qA0 : W.cell? ⟨w.heap.size, 0, none⟩ = some (.int .i64 a0_0) := qA 0
          have qA1 : W.cell? ⟨w.heap.size, 1, none⟩ = some (.int .i64 a0_1) := qA 1
          have qA2 : W.cell? ⟨w.heap.size, 2, none⟩ = some (.int .i64 a0_2) := qA 2
          have qA3 : W.cell? ⟨w.heap.size, 3, none⟩ = some (.int .i64 a0_3) := qA 3
          have qA4 : W.cell? ⟨w.heap.size, 4, none⟩ = some (.int .i64 a0_4) := qA 4
          have qA5 : W.cell? ⟨w.heap.size, 5, none⟩ = some (.int .i64 a0_5) := qA 5
          have qA6 : W.cell? ⟨w.heap.size, 6, none⟩ = some (.int .i64 a0_6) := qA 6
          have qA7 : W.cell? ⟨w.heap.size, 7, none⟩ = some (.int .i64 a0_7) := qA 7
          have qB0 : W.cell? ⟨w.heap.size + 1, 0, none⟩ = some (.int .i64 a1_0) := qB 0
          have qB1 : W.cell? ⟨w.heap.size + 1, 1, none⟩ = some (.int .i64 a1_1) := qB 1
          have qB2 : W.cell? ⟨w.heap.size + 1, 2, none⟩ = some (.int .i64 a1_2) := qB 2
          have qB3 : W.cell? ⟨w.heap.size + 1, 3, none⟩ = some (.int .i64 a1_3) := qB 3
          have qB4 : W.cell? ⟨w.heap.size + 1, 4, none⟩ = some (.int .i64 a1_4) := qB 4
          have qB5 : W.cell? ⟨w.heap.size + 1, 5, none⟩ = some (.int .i64 a1_5) := qB 5
          have qB6 : W.cell? ⟨w.heap.size + 1, 6, none⟩ = some (.int .i64 a1_6) := qB 6
          have qB7 : W.cell? ⟨w.heap.size + 1, 7, none⟩ = some (.int .i64 a1_7) := qB 7
          have qX0 : W.cell? ⟨w.heap.size + 1 + 1, 0, none⟩ = some (.int .i64 a1_0) := qX 0
          have qX1 : W.cell? ⟨w.heap.size + 1 + 1, 1, none⟩ = some (.int .i64 a1_1) := qX 1
          have qX2 : W.cell? ⟨w.heap.size + 1 + 1, 2, none⟩ = some (.int .i64 a1_2) := qX 2
          have qX3 : W.cell? ⟨w.heap.size + 1 + 1, 3, none⟩ = some (.int .i64 a1_3) := qX 3
          have qX4 : W.cell? ⟨w.heap.size + 1 + 1, 4, none⟩ = some (.int .i64 a1_4) := qX 4
          have qY0 : W.cell? ⟨w.heap.size + 1 + 1 + 1, 0, none⟩ = some (.int .i64 a0_0) := qY 0
          have qY1 : W.cell? ⟨w.heap.size + 1 + 1 + 1, 1, none⟩ = some (.int .i64 a0_1) := qY 1
          have qY2 : W.cell? ⟨w.heap.size + 1 + 1 + 1, 2, none⟩ = some (.int .i64 a0_2) := qY 2
          have qY3 : W.cell? ⟨w.heap.size + 1 + 1 + 1, 3, none⟩ = some (.int .i64 a0_3) := qY 3
          have qY4 : W.cell? ⟨w.heap.size + 1 + 1 + 1, 4, none⟩ = some (.int .i64 a0_4) := qY 4
          clear qA qB qX qY
          rename_i hH; clear hH
          go_wp2_with (first | (go_at_call 46; (with_reducible refine (impl_IsFind.calls a0_0 a0_1 a0_2 a0_3 a0_4 a0_5 a0_6 a0_7 true _ A1.out).mono ?_); rintro e w1 ⟨rfl, hb⟩; have HB1 : Aside0 (Below w.heap.size w w1) := ⟨below_step (by repeat (first | exact HB0.out | apply below_drew1 | apply pw_below_drewN)) hb⟩; have pA0 := pw_cell_below hb qA0; clear qA0; have pA1 := pw_cell_below hb qA1; clear qA1; have pA2 := pw_cell_below hb qA2; clear qA2; have pA3 := pw_cell_below hb qA3; clear qA3; have pA4 := pw_cell_below hb qA4; clear qA4; have pA5 := pw_cell_below hb qA5; clear qA5; have pA6 := pw_cell_below hb qA6; clear qA6; have pA7 := pw_cell_below hb qA7; clear qA7; have pB0 := pw_cell_below hb qB0; clear qB0; have pB1 := pw_cell_below hb qB1; clear qB1; have pB2 := pw_cell_below hb qB2; clear qB2; have pB3 := pw_cell_below hb qB3; clear qB3; have pB4 := pw_cell_below hb qB4; clear qB4; have pB5 := pw_cell_below hb qB5; clear qB5; have pB6 := pw_cell_below hb qB6; clear qB6; have pB7 := pw_cell_below hb qB7; clear qB7; have pX0 := pw_cell_below hb qX0; clear qX0; have pX1 := pw_cell_below hb qX1; clear qX1; have pX2 := pw_cell_below hb qX2; clear qX2; have pX3 := pw_cell_below hb qX3; clear qX3; have pX4 := pw_cell_below hb qX4; clear qX4; have pY0 := pw_cell_below hb qY0; clear qY0; have pY1 := pw_cell_below hb qY1; clear qY1; have pY2 := pw_cell_below hb qY2; clear qY2; have pY3 := pw_cell_below hb qY3; clear qY3; have pY4 := pw_cell_below hb qY4; clear qY4; clear hb) | (go_at_call 46; (with_reducible refine (impl_IsFind.calls a1_0 a1_1 a1_2 a1_3 a1_4 a1_5 a1_6 a1_7 true _ A2.out).mono ?_); rintro e w2 ⟨rfl, hb⟩; have HB2 : Aside0 (Below w.heap.size w w2) := ⟨below_step (by repeat (first | exact HB1.out | apply below_drew1 | apply pw_below_drewN)) hb⟩; have rA0 := pw_cell_below hb pA0; clear pA0; have rA1 := pw_cell_below hb pA1; clear pA1; have rA2 := pw_cell_below hb pA2; clear pA2; have rA3 := pw_cell_below hb pA3; clear pA3; have rA4 := pw_cell_below hb pA4; clear pA4; have rA5 := pw_cell_below hb pA5; clear pA5; have rA6 := pw_cell_below hb pA6; clear pA6; have rA7 := pw_cell_below hb pA7; clear pA7; have rB0 := pw_cell_below hb pB0; clear pB0; have rB1 := pw_cell_below hb pB1; clear pB1; have rB2 := pw_cell_below hb pB2; clear pB2; have rB3 := pw_cell_below hb pB3; clear pB3; have rB4 := pw_cell_below hb pB4; clear pB4; have rB5 := pw_cell_below hb pB5; clear pB5; have rB6 := pw_cell_below hb pB6; clear pB6; have rB7 := pw_cell_below hb pB7; clear pB7; have rX0 := pw_cell_below hb pX0; clear pX0; have rX1 := pw_cell_below hb pX1; clear pX1; have rX2 := pw_cell_below hb pX2; clear pX2; have rX3 := pw_cell_below hb pX3; clear pX3; have rX4 := pw_cell_below hb pX4; clear pX4; have rY0 := pw_cell_below hb pY0; clear pY0; have rY1 := pw_cell_below hb pY1; clear pY1; have rY2 := pw_cell_below hb pY2; clear pY2; have rY3 := pw_cell_below hb pY3; clear pY3; have rY4 := pw_cell_below hb pY4; clear pY4; clear hb))
          all_goals go_ret
          all_goals exact ⟨rfl, by repeat (first | exact HB2.out | apply below_drew1 | apply pw_below_drewN)⟩
      rw [if_pos c2] at h
      have c2b : (a0_2 == a1_2) = true := beq_iff_eq.mpr c2
      clear c2
      by_cases c3 : a0_3 = a1_3
      rotate_left
      · rw [if_neg c3] at h
        obtain rfl := Option.some.inj h
        have c3b : (a0_3 == a1_3) = false := beq_eq_false_iff_ne.mpr c3
        clear h c3
        go_enter Try.func23, Try.ntmps23
        go_wp2_with fail
        go_region_held3 (fun w' => w'.cell? ⟨w.heap.size, 0, none⟩ = some (.int .i64 a0_0) ∧ w'.cell? ⟨w.heap.size, 1, none⟩ = some (.int .i64 a0_1) ∧ w'.cell? ⟨w.heap.size, 2, none⟩ = some (.int .i64 a0_2) ∧ w'.cell? ⟨w.heap.size, 3, none⟩ = some (.int .i64 a0_3) ∧ w'.cell? ⟨w.heap.size, 4, none⟩ = some (.int .i64 a0_4) ∧ w'.cell? ⟨w.heap.size + 1, 0, none⟩ = some (.int .i64 a1_0) ∧ w'.cell? ⟨w.heap.size + 1, 1, none⟩ = some (.int .i64 a1_1) ∧ w'.cell? ⟨w.heap.size + 1, 2, none⟩ = some (.int .i64 a1_2) ∧ w'.cell? ⟨w.heap.size + 1, 3, none⟩ = some (.int .i64 a1_3) ∧ w'.cell? ⟨w.heap.size + 1, 4, none⟩ = some (.int .i64 a1_4)) (go_keep) (fail)
        · refine impl_AreTwins.world (P := fun W => Exit.then _ _ Exit.normal _ W) w [.int .i64 a0_0, .int .i64 a0_1, .int .i64 a0_2, .int .i64 a0_3, .int .i64 a0_4, .int .i64 a0_5, .int .i64 a0_6, .int .i64 a0_7] [.int .i64 a1_0, .int .i64 a1_1, .int .i64 a1_2, .int .i64 a1_3, .int .i64 a1_4, .int .i64 a1_5, .int .i64 a1_6, .int .i64 a1_7] [.int .i64 a0_0, .int .i64 a0_1, .int .i64 a0_2, .int .i64 a0_3, .int .i64 a0_4] [.int .i64 a1_0, .int .i64 a1_1, .int .i64 a1_2, .int .i64 a1_3, .int .i64 a1_4] 37 35 ?_
          intro W qA qB qX qY hb0
          have HB0 := Aside0.mk hb0; clear hb0
          have qA0 : W.cell? ⟨w.heap.size, 0, none⟩ = some (.int .i64 a0_0) := qA 0
          have qA1 : W.cell? ⟨w.heap.size, 1, none⟩ = some (.int .i64 a0_1) := qA 1
          have qA2 : W.cell? ⟨w.heap.size, 2, none⟩ = some (.int .i64 a0_2) := qA 2
          have qA3 : W.cell? ⟨w.heap.size, 3, none⟩ = some (.int .i64 a0_3) := qA 3
          have qA4 : W.cell? ⟨w.heap.size, 4, none⟩ = some (.int .i64 a0_4) := qA 4
          have qA5 : W.cell? ⟨w.heap.size, 5, none⟩ = some (.int .i64 a0_5) := qA 5
          have qA6 : W.cell? ⟨w.heap.size, 6, none⟩ = some (.int .i64 a0_6) := qA 6
          have qA7 : W.cell? ⟨w.heap.size, 7, none⟩ = some (.int .i64 a0_7) := qA 7
          have qB0 : W.cell? ⟨w.heap.size + 1, 0, none⟩ = some (.int .i64 a1_0) := qB 0
          have qB1 : W.cell? ⟨w.heap.size + 1, 1, none⟩ = some (.int .i64 a1_1) := qB 1
          have qB2 : W.cell? ⟨w.heap.size + 1, 2, none⟩ = some (.int .i64 a1_2) := qB 2
          have qB3 : W.cell? ⟨w.heap.size + 1, 3, none⟩ = some (.int .i64 a1_3) := qB 3
          have qB4 : W.cell? ⟨w.heap.size + 1, 4, none⟩ = some (.int .i64 a1_4) := qB 4
          have qB5 : W.cell? ⟨w.heap.size + 1, 5, none⟩ = some (.int .i64 a1_5) := qB 5
          have qB6 : W.cell? ⟨w.heap.size + 1, 6, none⟩ = some (.int .i64 a1_6) := qB 6
          have qB7 : W.cell? ⟨w.heap.size + 1, 7, none⟩ = some (.int .i64 a1_7) := qB 7
          have qX0 : W.cell? ⟨w.heap.size + 1 + 1, 0, none⟩ = some (.int .i64 a0_0) := qX 0
          have qX1 : W.cell? ⟨w.heap.size + 1 + 1, 1, none⟩ = some (.int .i64 a0_1) := qX 1
          have qX2 : W.cell? ⟨w.heap.size + 1 + 1, 2, none⟩ = some (.int .i64 a0_2) := qX 2
          have qX3 : W.cell? ⟨w.heap.size + 1 + 1, 3, none⟩ = some (.int .i64 a0_3) := qX 3
          have qX4 : W.cell? ⟨w.heap.size + 1 + 1, 4, none⟩ = some (.int .i64 a0_4) := qX 4
          have qY0 : W.cell? ⟨w.heap.size + 1 + 1 + 1, 0, none⟩ = some (.int .i64 a1_0) := qY 0
          have qY1 : W.cell? ⟨w.heap.size + 1 + 1 + 1, 1, none⟩ = some (.int .i64 a1_1) := qY 1
          have qY2 : W.cell? ⟨w.heap.size + 1 + 1 + 1, 2, none⟩ = some (.int .i64 a1_2) := qY 2
          have qY3 : W.cell? ⟨w.heap.size + 1 + 1 + 1, 3, none⟩ = some (.int .i64 a1_3) := qY 3
          have qY4 : W.cell? ⟨w.heap.size + 1 + 1 + 1, 4, none⟩ = some (.int .i64 a1_4) := qY 4
          clear qA qB qX qY
          rename_i hH; clear hH
          go_wp2_with (first | (go_at_call 46; (with_reducible refine (impl_IsFind.calls a0_0 a0_1 a0_2 a0_3 a0_4 a0_5 a0_6 a0_7 true _ A1.out).mono ?_); rintro e w1 ⟨rfl, hb⟩; have HB1 : Aside0 (Below w.heap.size w w1) := ⟨below_step (by repeat (first | exact HB0.out | apply below_drew1 | apply pw_below_drewN)) hb⟩; have pA0 := pw_cell_below hb qA0; clear qA0; have pA1 := pw_cell_below hb qA1; clear qA1; have pA2 := pw_cell_below hb qA2; clear qA2; have pA3 := pw_cell_below hb qA3; clear qA3; have pA4 := pw_cell_below hb qA4; clear qA4; have pA5 := pw_cell_below hb qA5; clear qA5; have pA6 := pw_cell_below hb qA6; clear qA6; have pA7 := pw_cell_below hb qA7; clear qA7; have pB0 := pw_cell_below hb qB0; clear qB0; have pB1 := pw_cell_below hb qB1; clear qB1; have pB2 := pw_cell_below hb qB2; clear qB2; have pB3 := pw_cell_below hb qB3; clear qB3; have pB4 := pw_cell_below hb qB4; clear qB4; have pB5 := pw_cell_below hb qB5; clear qB5; have pB6 := pw_cell_below hb qB6; clear qB6; have pB7 := pw_cell_below hb qB7; clear qB7; have pX0 := pw_cell_below hb qX0; clear qX0; have pX1 := pw_cell_below hb qX1; clear qX1; have pX2 := pw_cell_below hb qX2; clear qX2; have pX3 := pw_cell_below hb qX3; clear qX3; have pX4 := pw_cell_below hb qX4; clear qX4; have pY0 := pw_cell_below hb qY0; clear qY0; have pY1 := pw_cell_below hb qY1; clear qY1; have pY2 := pw_cell_below hb qY2; clear qY2; have pY3 := pw_cell_below hb qY3; clear qY3; have pY4 := pw_cell_below hb qY4; clear qY4; clear hb) | (go_at_call 46; (with_reducible refine (impl_IsFind.calls a1_0 a1_1 a1_2 a1_3 a1_4 a1_5 a1_6 a1_7 true _ A2.out).mono ?_); rintro e w2 ⟨rfl, hb⟩; have HB2 : Aside0 (Below w.heap.size w w2) := ⟨below_step (by repeat (first | exact HB1.out | apply below_drew1 | apply pw_below_drewN)) hb⟩; have rA0 := pw_cell_below hb pA0; clear pA0; have rA1 := pw_cell_below hb pA1; clear pA1; have rA2 := pw_cell_below hb pA2; clear pA2; have rA3 := pw_cell_below hb pA3; clear pA3; have rA4 := pw_cell_below hb pA4; clear pA4; have rA5 := pw_cell_below hb pA5; clear pA5; have rA6 := pw_cell_below hb pA6; clear pA6; have rA7 := pw_cell_below hb pA7; clear pA7; have rB0 := pw_cell_below hb pB0; clear pB0; have rB1 := pw_cell_below hb pB1; clear pB1; have rB2 := pw_cell_below hb pB2; clear pB2; have rB3 := pw_cell_below hb pB3; clear pB3; have rB4 := pw_cell_below hb pB4; clear pB4; have rB5 := pw_cell_below hb pB5; clear pB5; have rB6 := pw_cell_below hb pB6; clear pB6; have rB7 := pw_cell_below hb pB7; clear pB7; have rX0 := pw_cell_below hb pX0; clear pX0; have rX1 := pw_cell_below hb pX1; clear pX1; have rX2 := pw_cell_below hb pX2; clear pX2; have rX3 := pw_cell_below hb pX3; clear pX3; have rX4 := pw_cell_below hb pX4; clear pX4; have rY0 := pw_cell_below hb pY0; clear pY0; have rY1 := pw_cell_below hb pY1; clear pY1; have rY2 := pw_cell_below hb pY2; clear pY2; have rY3 := pw_cell_below hb pY3; clear pY3; have rY4 := pw_cell_below hb pY4; clear pY4; clear hb))
          all_goals go_ret
          all_goals exact ⟨rfl, by repeat (first | exact HB2.out | apply below_drew1 | apply pw_below_drewN)⟩
        · refine impl_AreTwins.world (P := fun W => Exit.then _ _ Exit.normal _ W) w [.int .i64 a0_0, .int .i64 a0_1, .int .i64 a0_2, .int .i64 a0_3, .int .i64 a0_4, .int .i64 a0_5, .int .i64 a0_6, .int .i64 a0_7] [.int .i64 a1_0, .int .i64 a1_1, .int .i64 a1_2, .int .i64 a1_3, .int .i64 a1_4, .int .i64 a1_5, .int .i64 a1_6, .int .i64 a1_7] [.int .i64 a1_0, .int .i64 a1_1, .int .i64 a1_2, .int .i64 a1_3, .int .i64 a1_4] [.int .i64 a0_0, .int .i64 a0_1, .int .i64 a0_2, .int .i64 a0_3, .int .i64 a0_4] 37 35 ?_
          intro W qA qB qX qY hb0
          have HB0 := Aside0.mk hb0; clear hb0
          have qA0 : W.cell? ⟨w.heap.size, 0, none⟩ = some (.int .i64 a0_0) := qA 0
          have qA1 : W.cell? ⟨w.heap.size, 1, none⟩ = some (.int .i64 a0_1) := qA 1
          have qA2 : W.cell? ⟨w.heap.size, 2, none⟩ = some (.int .i64 a0_2) := qA 2
          have qA3 : W.cell? ⟨w.heap.size, 3, none⟩ = some (.int .i64 a0_3) := qA 3
          have qA4 : W.cell? ⟨w.heap.size, 4, none⟩ = some (.int .i64 a0_4) := qA 4
          have qA5 : W.cell? ⟨w.heap.size, 5, none⟩ = some (.int .i64 a0_5) := qA 5
          have qA6 : W.cell? ⟨w.heap.size, 6, none⟩ = some (.int .i64 a0_6) := qA 6
          have qA7 : W.cell? ⟨w.heap.size, 7, none⟩ = some (.int .i64 a0_7) := qA 7
          have qB0 : W.cell? ⟨w.heap.size + 1, 0, none⟩ = some (.int .i64 a1_0) := qB 0
          have qB1 : W.cell? ⟨w.heap.size + 1, 1, none⟩ = some (.int .i64 a1_1) := qB 1
          have qB2 : W.cell? ⟨w.heap.size + 1, 2, none⟩ = some (.int .i64 a1_2) := qB 2
          have qB3 : W.cell? ⟨w.heap.size + 1, 3, none⟩ = some (.int .i64 a1_3) := qB 3
          have qB4 : W.cell? ⟨w.heap.size + 1, 4, none⟩ = some (.int .i64 a1_4) := qB 4
          have qB5 : W.cell? ⟨w.heap.size + 1, 5, none⟩ = some (.int .i64 a1_5) := qB 5
          have qB6 : W.cell? ⟨w.heap.size + 1, 6, none⟩ = some (.int .i64 a1_6) := qB 6
          have qB7 : W.cell? ⟨w.heap.size + 1, 7, none⟩ = some (.int .i64 a1_7) := qB 7
          have qX0 : W.cell? ⟨w.heap.size + 1 + 1, 0, none⟩ = some (.int .i64 a1_0) := qX 0
          have qX1 : W.cell? ⟨w.heap.size + 1 + 1, 1, none⟩ = some (.int .i64 a1_1) := qX 1
          have qX2 : W.cell? ⟨w.heap.size + 1 + 1, 2, none⟩ = some (.int .i64 a1_2) := qX 2
          have qX3 : W.cell? ⟨w.heap.size + 1 + 1, 3, none⟩ = some (.int .i64 a1_3) := qX 3
          have qX4 : W.cell? ⟨w.heap.size + 1 + 1, 4, none⟩ = some (.int .i64 a1_4) := qX 4
          have qY0 : W.cell? ⟨w.heap.size + 1 + 1 + 1, 0, none⟩ = some (.int .i64 a0_0) := qY 0
          have qY1 : W.cell? ⟨w.heap.size + 1 + 1 + 1, 1, none⟩ = some (.int .i64 a0_1) := qY 1
          have qY2 : W.cell? ⟨w.heap.size + 1 + 1 + 1, 2, none⟩ = some (.int .i64 a0_2) := qY 2
          have qY3 : W.cell? ⟨w.heap.size + 1 + 1 + 1, 3, none⟩ = some (.int .i64 a0_3) := qY 3
          have qY4 : W.cell? ⟨w.heap.size + 1 + 1 + 1, 4, none⟩ = some (.int .i64 a0_4) := qY 4
          clear qA qB qX qY
          rename_i hH; clear hH
          go_wp2_with (first | (go_at_call 46; (with_reducible refine (impl_IsFind.calls a0_0 a0_1 a0_2 a0_3 a0_4 a0_5 a0_6 a0_7 true _ A1.out).mono ?_); rintro e w1 ⟨rfl, hb⟩; have HB1 : Aside0 (Below w.heap.size w w1) := ⟨below_step (by repeat (first | exact HB0.out | apply below_drew1 | apply pw_below_drewN)) hb⟩; have pA0 := pw_cell_below hb qA0; clear qA0; have pA1 := pw_cell_below hb qA1; clear qA1; have pA2 := pw_cell_below hb qA2; clear qA2; have pA3 := pw_cell_below hb qA3; clear qA3; have pA4 := pw_cell_below hb qA4; clear qA4; have pA5 := pw_cell_below hb qA5; clear qA5; have pA6 := pw_cell_below hb qA6; clear qA6; have pA7 := pw_cell_below hb qA7; clear qA7; have pB0 := pw_cell_below hb qB0; clear qB0; have pB1 := pw_cell_below hb qB1; clear qB1; have pB2 := pw_cell_below hb qB2; clear qB2; have pB3 := pw_cell_below hb qB3; clear qB3; have pB4 := pw_cell_below hb qB4; clear qB4; have pB5 := pw_cell_below hb qB5; clear qB5; have pB6 := pw_cell_below hb qB6; clear qB6; have pB7 := pw_cell_below hb qB7; clear qB7; have pX0 := pw_cell_below hb qX0; clear qX0; have pX1 := pw_cell_below hb qX1; clear qX1; have pX2 := pw_cell_below hb qX2; clear qX2; have pX3 := pw_cell_below hb qX3; clear qX3; have pX4 := pw_cell_below hb qX4; clear qX4; have pY0 := pw_cell_below hb qY0; clear qY0; have pY1 := pw_cell_below hb qY1; clear qY1; have pY2 := pw_cell_below hb qY2; clear qY2; have pY3 := pw_cell_below hb qY3; clear qY3; have pY4 := pw_cell_below hb qY4; clear qY4; clear hb) | (go_at_call 46; (with_reducible refine (impl_IsFind.calls a1_0 a1_1 a1_2 a1_3 a1_4 a1_5 a1_6 a1_7 true _ A2.out).mono ?_); rintro e w2 ⟨rfl, hb⟩; have HB2 : Aside0 (Below w.heap.size w w2) := ⟨below_step (by repeat (first | exact HB1.out | apply below_drew1 | apply pw_below_drewN)) hb⟩; have rA0 := pw_cell_below hb pA0; clear pA0; have rA1 := pw_cell_below hb pA1; clear pA1; have rA2 := pw_cell_below hb pA2; clear pA2; have rA3 := pw_cell_below hb pA3; clear pA3; have rA4 := pw_cell_below hb pA4; clear pA4; have rA5 := pw_cell_below hb pA5; clear pA5; have rA6 := pw_cell_below hb pA6; clear pA6; have rA7 := pw_cell_below hb pA7; clear pA7; have rB0 := pw_cell_below hb pB0; clear pB0; have rB1 := pw_cell_below hb pB1; clear pB1; have rB2 := pw_cell_below hb pB2; clear pB2; have rB3 := pw_cell_below hb pB3; clear pB3; have rB4 := pw_cell_below hb pB4; clear pB4; have rB5 := pw_cell_below hb pB5; clear pB5; have rB6 := pw_cell_below hb pB6; clear pB6; have rB7 := pw_cell_below hb pB7; clear pB7; have rX0 := pw_cell_below hb pX0; clear pX0; have rX1 := pw_cell_below hb pX1; clear pX1; have rX2 := pw_cell_below hb pX2; clear pX2; have rX3 := pw_cell_below hb pX3; clear pX3; have rX4 := pw_cell_below hb pX4; clear pX4; have rY0 := pw_cell_below hb pY0; clear pY0; have rY1 := pw_cell_below hb pY1; clear pY1; have rY2 := pw_cell_below hb pY2; clear pY2; have rY3 := pw_cell_below hb pY3; clear pY3; have rY4 := pw_cell_below hb pY4; clear pY4; clear hb))
          all_goals go_ret
          all_goals exact ⟨rfl, by repeat (first | exact HB2.out | apply below_drew1 | apply pw_below_drewN)⟩
      rw [if_pos c3] at h
      have c3b : (a0_3 == a1_3) = true := beq_iff_eq.mpr c3
      clear c3
      by_cases c5 : a0_5 = a1_5
      rotate_left
      · rw [if_neg c5] at h
        obtain rfl := Option.some.inj h
        have c5b : (a0_5 == a1_5) = false := beq_eq_false_iff_ne.mpr c5
        clear h c5
        go_enter Try.func23, Try.ntmps23
        go_wp2_with fail
        go_region_held3 (fun w' => w'.cell? ⟨w.heap.size, 0, none⟩ = some (.int .i64 a0_0) ∧ w'.cell? ⟨w.heap.size, 1, none⟩ = some (.int .i64 a0_1) ∧ w'.cell? ⟨w.heap.size, 2, none⟩ = some (.int .i64 a0_2) ∧ w'.cell? ⟨w.heap.size, 3, none⟩ = some (.int .i64 a0_3) ∧ w'.cell? ⟨w.heap.size, 4, none⟩ = some (.int .i64 a0_4) ∧ w'.cell? ⟨w.heap.size + 1, 0, none⟩ = some (.int .i64 a1_0) ∧ w'.cell? ⟨w.heap.size + 1, 1, none⟩ = some (.int .i64 a1_1) ∧ w'.cell? ⟨w.heap.size + 1, 2, none⟩ = some (.int .i64 a1_2) ∧ w'.cell? ⟨w.heap.size + 1, 3, none⟩ = some (.int .i64 a1_3) ∧ w'.cell? ⟨w.heap.size + 1, 4, none⟩ = some (.int .i64 a1_4)) (go_keep) (fail)
        · refine impl_AreTwins.world (P := fun W => Exit.then _ _ Exit.normal _ W) w [.int .i64 a0_0, .int .i64 a0_1, .int .i64 a0_2, .int .i64 a0_3, .int .i64 a0_4, .int .i64 a0_5, .int .i64 a0_6, .int .i64 a0_7] [.int .i64 a1_0, .int .i64 a1_1, .int .i64 a1_2, .int .i64 a1_3, .int .i64 a1_4, .int .i64 a1_5, .int .i64 a1_6, .int .i64 a1_7] [.int .i64 a0_0, .int .i64 a0_1, .int .i64 a0_2, .int .i64 a0_3, .int .i64 a0_4] [.int .i64 a1_0, .int .i64 a1_1, .int .i64 a1_2, .int .i64 a1_3, .int .i64 a1_4] 37 35 ?_
          intro W qA qB qX qY hb0
          have HB0 := Aside0.mk hb0; clear hb0
          have qA0 : W.cell? ⟨w.heap.size, 0, none⟩ = some (.int .i64 a0_0) := qA 0
          have qA1 : W.cell? ⟨w.heap.size, 1, none⟩ = some (.int .i64 a0_1) := qA 1
          have qA2 : W.cell? ⟨w.heap.size, 2, none⟩ = some (.int .i64 a0_2) := qA 2
          have qA3 : W.cell? ⟨w.heap.size, 3, none⟩ = some (.int .i64 a0_3) := qA 3
          have qA4 : W.cell? ⟨w.heap.size, 4, none⟩ = some (.int .i64 a0_4) := qA 4
          have qA5 : W.cell? ⟨w.heap.size, 5, none⟩ = some (.int .i64 a0_5) := qA 5
          have qA6 : W.cell? ⟨w.heap.size, 6, none⟩ = some (.int .i64 a0_6) := qA 6
          have qA7 : W.cell? ⟨w.heap.size, 7, none⟩ = some (.int .i64 a0_7) := qA 7
          have qB0 : W.cell? ⟨w.heap.size + 1, 0, none⟩ = some (.int .i64 a1_0) := qB 0
          have qB1 : W.cell? ⟨w.heap.size + 1, 1, none⟩ = some (.int .i64 a1_1) := qB 1
          have qB2 : W.cell? ⟨w.heap.size + 1, 2, none⟩ = some (.int .i64 a1_2) := qB 2
          have qB3 : W.cell? ⟨w.heap.size + 1, 3, none⟩ = some (.int .i64 a1_3) := qB 3
          have qB4 : W.cell? ⟨w.heap.size + 1, 4, none⟩ = some (.int .i64 a1_4) := qB 4
          have qB5 : W.cell? ⟨w.heap.size + 1, 5, none⟩ = some (.int .i64 a1_5) := qB 5
          have qB6 : W.cell? ⟨w.heap.size + 1, 6, none⟩ = some (.int .i64 a1_6) := qB 6
          have qB7 : W.cell? ⟨w.heap.size + 1, 7, none⟩ = some (.int .i64 a1_7) := qB 7
          have qX0 : W.cell? ⟨w.heap.size + 1 + 1, 0, none⟩ = some (.int .i64 a0_0) := qX 0
          have qX1 : W.cell? ⟨w.heap.size + 1 + 1, 1, none⟩ = some (.int .i64 a0_1) := qX 1
          have qX2 : W.cell? ⟨w.heap.size + 1 + 1, 2, none⟩ = some (.int .i64 a0_2) := qX 2
          have qX3 : W.cell? ⟨w.heap.size + 1 + 1, 3, none⟩ = some (.int .i64 a0_3) := qX 3
          have qX4 : W.cell? ⟨w.heap.size + 1 + 1, 4, none⟩ = some (.int .i64 a0_4) := qX 4
          have qY0 : W.cell? ⟨w.heap.size + 1 + 1 + 1, 0, none⟩ = some (.int .i64 a1_0) := qY 0
          have qY1 : W.cell? ⟨w.heap.size + 1 + 1 + 1, 1, none⟩ = some (.int .i64 a1_1) := qY 1
          have qY2 : W.cell? ⟨w.heap.size + 1 + 1 + 1, 2, none⟩ = some (.int .i64 a1_2) := qY 2
          have qY3 : W.cell? ⟨w.heap.size + 1 + 1 + 1, 3, none⟩ = some (.int .i64 a1_3) := qY 3
          have qY4 : W.cell? ⟨w.heap.size + 1 + 1 + 1, 4, none⟩ = some (.int .i64 a1_4) := qY 4
          clear qA qB qX qY
          rename_i hH; clear hH
          go_wp2_with (first | (go_at_call 46; (with_reducible refine (impl_IsFind.calls a0_0 a0_1 a0_2 a0_3 a0_4 a0_5 a0_6 a0_7 true _ A1.out).mono ?_); rintro e w1 ⟨rfl, hb⟩; have HB1 : Aside0 (Below w.heap.size w w1) := ⟨below_step (by repeat (first | exact HB0.out | apply below_drew1 | apply pw_below_drewN)) hb⟩; have pA0 := pw_cell_below hb qA0; clear qA0; have pA1 := pw_cell_below hb qA1; clear qA1; have pA2 := pw_cell_below hb qA2; clear qA2; have pA3 := pw_cell_below hb qA3; clear qA3; have pA4 := pw_cell_below hb qA4; clear qA4; have pA5 := pw_cell_below hb qA5; clear qA5; have pA6 := pw_cell_below hb qA6; clear qA6; have pA7 := pw_cell_below hb qA7; clear qA7; have pB0 := pw_cell_below hb qB0; clear qB0; have pB1 := pw_cell_below hb qB1; clear qB1; have pB2 := pw_cell_below hb qB2; clear qB2; have pB3 := pw_cell_below hb qB3; clear qB3; have pB4 := pw_cell_below hb qB4; clear qB4; have pB5 := pw_cell_below hb qB5; clear qB5; have pB6 := pw_cell_below hb qB6; clear qB6; have pB7 := pw_cell_below hb qB7; clear qB7; have pX0 := pw_cell_below hb qX0; clear qX0; have pX1 := pw_cell_below hb qX1; clear qX1; have pX2 := pw_cell_below hb qX2; clear qX2; have pX3 := pw_cell_below hb qX3; clear qX3; have pX4 := pw_cell_below hb qX4; clear qX4; have pY0 := pw_cell_below hb qY0; clear qY0; have pY1 := pw_cell_below hb qY1; clear qY1; have pY2 := pw_cell_below hb qY2; clear qY2; have pY3 := pw_cell_below hb qY3; clear qY3; have pY4 := pw_cell_below hb qY4; clear qY4; clear hb) | (go_at_call 46; (with_reducible refine (impl_IsFind.calls a1_0 a1_1 a1_2 a1_3 a1_4 a1_5 a1_6 a1_7 true _ A2.out).mono ?_); rintro e w2 ⟨rfl, hb⟩; have HB2 : Aside0 (Below w.heap.size w w2) := ⟨below_step (by repeat (first | exact HB1.out | apply below_drew1 | apply pw_below_drewN)) hb⟩; have rA0 := pw_cell_below hb pA0; clear pA0; have rA1 := pw_cell_below hb pA1; clear pA1; have rA2 := pw_cell_below hb pA2; clear pA2; have rA3 := pw_cell_below hb pA3; clear pA3; have rA4 := pw_cell_below hb pA4; clear pA4; have rA5 := pw_cell_below hb pA5; clear pA5; have rA6 := pw_cell_below hb pA6; clear pA6; have rA7 := pw_cell_below hb pA7; clear pA7; have rB0 := pw_cell_below hb pB0; clear pB0; have rB1 := pw_cell_below hb pB1; clear pB1; have rB2 := pw_cell_below hb pB2; clear pB2; have rB3 := pw_cell_below hb pB3; clear pB3; have rB4 := pw_cell_below hb pB4; clear pB4; have rB5 := pw_cell_below hb pB5; clear pB5; have rB6 := pw_cell_below hb pB6; clear pB6; have rB7 := pw_cell_below hb pB7; clear pB7; have rX0 := pw_cell_below hb pX0; clear pX0; have rX1 := pw_cell_below hb pX1; clear pX1; have rX2 := pw_cell_below hb pX2; clear pX2; have rX3 := pw_cell_below hb pX3; clear pX3; have rX4 := pw_cell_below hb pX4; clear pX4; have rY0 := pw_cell_below hb pY0; clear pY0; have rY1 := pw_cell_below hb pY1; clear pY1; have rY2 := pw_cell_below hb pY2; clear pY2; have rY3 := pw_cell_below hb pY3; clear pY3; have rY4 := pw_cell_below hb pY4; clear pY4; clear hb))
          all_goals go_ret
          all_goals exact ⟨rfl, by repeat (first | exact HB2.out | apply below_drew1 | apply pw_below_drewN)⟩
        · refine impl_AreTwins.world (P := fun W => Exit.then _ _ Exit.normal _ W) w [.int .i64 a0_0, .int .i64 a0_1, .int .i64 a0_2, .int .i64 a0_3, .int .i64 a0_4, .int .i64 a0_5, .int .i64 a0_6, .int .i64 a0_7] [.int .i64 a1_0, .int .i64 a1_1, .int .i64 a1_2, .int .i64 a1_3, .int .i64 a1_4, .int .i64 a1_5, .int .i64 a1_6, .int .i64 a1_7] [.int .i64 a1_0, .int .i64 a1_1, .int .i64 a1_2, .int .i64 a1_3, .int .i64 a1_4] [.int .i64 a0_0, .int .i64 a0_1, .int .i64 a0_2, .int .i64 a0_3, .int .i64 a0_4] 37 35 ?_
          intro W qA qB qX qY hb0
          have HB0 := Aside0.mk hb0; clear hb0
          have qA0 : W.cell? ⟨w.heap.size, 0, none⟩ = some (.int .i64 a0_0) := qA 0
          have qA1 : W.cell? ⟨w.heap.size, 1, none⟩ = some (.int .i64 a0_1) := qA 1
          have qA2 : W.cell? ⟨w.heap.size, 2, none⟩ = some (.int .i64 a0_2) := qA 2
          have qA3 : W.cell? ⟨w.heap.size, 3, none⟩ = some (.int .i64 a0_3) := qA 3
          have qA4 : W.cell? ⟨w.heap.size, 4, none⟩ = some (.int .i64 a0_4) := qA 4
          have qA5 : W.cell? ⟨w.heap.size, 5, none⟩ = some (.int .i64 a0_5) := qA 5
          have qA6 : W.cell? ⟨w.heap.size, 6, none⟩ = some (.int .i64 a0_6) := qA 6
          have qA7 : W.cell? ⟨w.heap.size, 7, none⟩ = some (.int .i64 a0_7) := qA 7
          have qB0 : W.cell? ⟨w.heap.size + 1, 0, none⟩ = some (.int .i64 a1_0) := qB 0
          have qB1 : W.cell? ⟨w.heap.size + 1, 1, none⟩ = some (.int .i64 a1_1) := qB 1
          have qB2 : W.cell? ⟨w.heap.size + 1, 2, none⟩ = some (.int .i64 a1_2) := qB 2
          have qB3 : W.cell? ⟨w.heap.size + 1, 3, none⟩ = some (.int .i64 a1_3) := qB 3
          have qB4 : W.cell? ⟨w.heap.size + 1, 4, none⟩ = some (.int .i64 a1_4) := qB 4
          have qB5 : W.cell? ⟨w.heap.size + 1, 5, none⟩ = some (.int .i64 a1_5) := qB 5
          have qB6 : W.cell? ⟨w.heap.size + 1, 6, none⟩ = some (.int .i64 a1_6) := qB 6
          have qB7 : W.cell? ⟨w.heap.size + 1, 7, none⟩ = some (.int .i64 a1_7) := qB 7
          have qX0 : W.cell? ⟨w.heap.size + 1 + 1, 0, none⟩ = some (.int .i64 a1_0) := qX 0
          have qX1 : W.cell? ⟨w.heap.size + 1 + 1, 1, none⟩ = some (.int .i64 a1_1) := qX 1
          have qX2 : W.cell? ⟨w.heap.size + 1 + 1, 2, none⟩ = some (.int .i64 a1_2) := qX 2
          have qX3 : W.cell? ⟨w.heap.size + 1 + 1, 3, none⟩ = some (.int .i64 a1_3) := qX 3
          have qX4 : W.cell? ⟨w.heap.size + 1 + 1, 4, none⟩ = some (.int .i64 a1_4) := qX 4
          have qY0 : W.cell? ⟨w.heap.size + 1 + 1 + 1, 0, none⟩ = some (.int .i64 a0_0) := qY 0
          have qY1 : W.cell? ⟨w.heap.size + 1 + 1 + 1, 1, none⟩ = some (.int .i64 a0_1) := qY 1
          have qY2 : W.cell? ⟨w.heap.size + 1 + 1 + 1, 2, none⟩ = some (.int .i64 a0_2) := qY 2
          have qY3 : W.cell? ⟨w.heap.size + 1 + 1 + 1, 3, none⟩ = some (.int .i64 a0_3) := qY 3
          have qY4 : W.cell? ⟨w.heap.size + 1 + 1 + 1, 4, none⟩ = some (.int .i64 a0_4) := qY 4
          clear qA qB qX qY
          rename_i hH; clear hH
          go_wp2_with (first | (go_at_call 46; (with_reducible refine (impl_IsFind.calls a0_0 a0_1 a0_2 a0_3 a0_4 a0_5 a0_6 a0_7 true _ A1.out).mono ?_); rintro e w1 ⟨rfl, hb⟩; have HB1 : Aside0 (Below w.heap.size w w1) := ⟨below_step (by repeat (first | exact HB0.out | apply below_drew1 | apply pw_below_drewN)) hb⟩; have pA0 := pw_cell_below hb qA0; clear qA0; have pA1 := pw_cell_below hb qA1; clear qA1; have pA2 := pw_cell_below hb qA2; clear qA2; have pA3 := pw_cell_below hb qA3; clear qA3; have pA4 := pw_cell_below hb qA4; clear qA4; have pA5 := pw_cell_below hb qA5; clear qA5; have pA6 := pw_cell_below hb qA6; clear qA6; have pA7 := pw_cell_below hb qA7; clear qA7; have pB0 := pw_cell_below hb qB0; clear qB0; have pB1 := pw_cell_below hb qB1; clear qB1; have pB2 := pw_cell_below hb qB2; clear qB2; have pB3 := pw_cell_below hb qB3; clear qB3; have pB4 := pw_cell_below hb qB4; clear qB4; have pB5 := pw_cell_below hb qB5; clear qB5; have pB6 := pw_cell_below hb qB6; clear qB6; have pB7 := pw_cell_below hb qB7; clear qB7; have pX0 := pw_cell_below hb qX0; clear qX0; have pX1 := pw_cell_below hb qX1; clear qX1; have pX2 := pw_cell_below hb qX2; clear qX2; have pX3 := pw_cell_below hb qX3; clear qX3; have pX4 := pw_cell_below hb qX4; clear qX4; have pY0 := pw_cell_below hb qY0; clear qY0; have pY1 := pw_cell_below hb qY1; clear qY1; have pY2 := pw_cell_below hb qY2; clear qY2; have pY3 := pw_cell_below hb qY3; clear qY3; have pY4 := pw_cell_below hb qY4; clear qY4; clear hb) | (go_at_call 46; (with_reducible refine (impl_IsFind.calls a1_0 a1_1 a1_2 a1_3 a1_4 a1_5 a1_6 a1_7 true _ A2.out).mono ?_); rintro e w2 ⟨rfl, hb⟩; have HB2 : Aside0 (Below w.heap.size w w2) := ⟨below_step (by repeat (first | exact HB1.out | apply below_drew1 | apply pw_below_drewN)) hb⟩; have rA0 := pw_cell_below hb pA0; clear pA0; have rA1 := pw_cell_below hb pA1; clear pA1; have rA2 := pw_cell_below hb pA2; clear pA2; have rA3 := pw_cell_below hb pA3; clear pA3; have rA4 := pw_cell_below hb pA4; clear pA4; have rA5 := pw_cell_below hb pA5; clear pA5; have rA6 := pw_cell_below hb pA6; clear pA6; have rA7 := pw_cell_below hb pA7; clear pA7; have rB0 := pw_cell_below hb pB0; clear pB0; have rB1 := pw_cell_below hb pB1; clear pB1; have rB2 := pw_cell_below hb pB2; clear pB2; have rB3 := pw_cell_below hb pB3; clear pB3; have rB4 := pw_cell_below hb pB4; clear pB4; have rB5 := pw_cell_below hb pB5; clear pB5; have rB6 := pw_cell_below hb pB6; clear pB6; have rB7 := pw_cell_below hb pB7; clear pB7; have rX0 := pw_cell_below hb pX0; clear pX0; have rX1 := pw_cell_below hb pX1; clear pX1; have rX2 := pw_cell_below hb pX2; clear pX2; have rX3 := pw_cell_below hb pX3; clear pX3; have rX4 := pw_cell_below hb pX4; clear pX4; have rY0 := pw_cell_below hb pY0; clear pY0; have rY1 := pw_cell_below hb pY1; clear pY1; have rY2 := pw_cell_below hb pY2; clear pY2; have rY3 := pw_cell_below hb pY3; clear pY3; have rY4 := pw_cell_below hb pY4; clear pY4; clear hb))
          all_goals go_ret
          all_goals exact ⟨rfl, by repeat (first | exact HB2.out | apply below_drew1 | apply pw_below_drewN)⟩
      rw [if_pos c5] at h
      have c5b : (a0_5 == a1_5) = true := beq_iff_eq.mpr c5
      clear c5
      have A3 := Aside0.mk h
      clear h
      go_enter Try.func23, Try.ntmps23
      go_wp2_with fail
      go_region_held3 (fun w' => w'.cell? ⟨w.heap.size, 0, none⟩ = some (.int .i64 a0_0) ∧ w'.cell? ⟨w.heap.size, 1, none⟩ = some (.int .i64 a0_1) ∧ w'.cell? ⟨w.heap.size, 2, none⟩ = some (.int .i64 a0_2) ∧ w'.cell? ⟨w.heap.size, 3, none⟩ = some (.int .i64 a0_3) ∧ w'.cell? ⟨w.heap.size, 4, none⟩ = some (.int .i64 a0_4) ∧ w'.cell? ⟨w.heap.size + 1, 0, none⟩ = some (.int .i64 a1_0) ∧ w'.cell? ⟨w.heap.size + 1, 1, none⟩ = some (.int .i64 a1_1) ∧ w'.cell? ⟨w.heap.size + 1, 2, none⟩ = some (.int .i64 a1_2) ∧ w'.cell? ⟨w.heap.size + 1, 3, none⟩ = some (.int .i64 a1_3) ∧ w'.cell? ⟨w.heap.size + 1, 4, none⟩ = some (.int .i64 a1_4)) (go_keep) (fail)
      · refine impl_AreTwins.world (P := fun W => Exit.then _ _ Exit.normal _ W) w [.int .i64 a0_0, .int .i64 a0_1, .int .i64 a0_2, .int .i64 a0_3, .int .i64 a0_4, .int .i64 a0_5, .int .i64 a0_6, .int .i64 a0_7] [.int .i64 a1_0, .int .i64 a1_1, .int .i64 a1_2, .int .i64 a1_3, .int .i64 a1_4, .int .i64 a1_5, .int .i64 a1_6, .int .i64 a1_7] [.int .i64 a0_0, .int .i64 a0_1, .int .i64 a0_2, .int .i64 a0_3, .int .i64 a0_4] [.int .i64 a1_0, .int .i64 a1_1, .int .i64 a1_2, .int .i64 a1_3, .int .i64 a1_4] 37 35 ?_
        intro W qA qB qX qY hb0
        have HB0 := Aside0.mk hb0; clear hb0
        have qA0 : W.cell? ⟨w.heap.size, 0, none⟩ = some (.int .i64 a0_0) := qA 0
        have qA1 : W.cell? ⟨w.heap.size, 1, none⟩ = some (.int .i64 a0_1) := qA 1
        have qA2 : W.cell? ⟨w.heap.size, 2, none⟩ = some (.int .i64 a0_2) := qA 2
        have qA3 : W.cell? ⟨w.heap.size, 3, none⟩ = some (.int .i64 a0_3) := qA 3
        have qA4 : W.cell? ⟨w.heap.size, 4, none⟩ = some (.int .i64 a0_4) := qA 4
        have qA5 : W.cell? ⟨w.heap.size, 5, none⟩ = some (.int .i64 a0_5) := qA 5
        have qA6 : W.cell? ⟨w.heap.size, 6, none⟩ = some (.int .i64 a0_6) := qA 6
        have qA7 : W.cell? ⟨w.heap.size, 7, none⟩ = some (.int .i64 a0_7) := qA 7
        have qB0 : W.cell? ⟨w.heap.size + 1, 0, none⟩ = some (.int .i64 a1_0) := qB 0
        have qB1 : W.cell? ⟨w.heap.size + 1, 1, none⟩ = some (.int .i64 a1_1) := qB 1
        have qB2 : W.cell? ⟨w.heap.size + 1, 2, none⟩ = some (.int .i64 a1_2) := qB 2
        have qB3 : W.cell? ⟨w.heap.size + 1, 3, none⟩ = some (.int .i64 a1_3) := qB 3
        have qB4 : W.cell? ⟨w.heap.size + 1, 4, none⟩ = some (.int .i64 a1_4) := qB 4
        have qB5 : W.cell? ⟨w.heap.size + 1, 5, none⟩ = some (.int .i64 a1_5) := qB 5
        have qB6 : W.cell? ⟨w.heap.size + 1, 6, none⟩ = some (.int .i64 a1_6) := qB 6
        have qB7 : W.cell? ⟨w.heap.size + 1, 7, none⟩ = some (.int .i64 a1_7) := qB 7
        have qX0 : W.cell? ⟨w.heap.size + 1 + 1, 0, none⟩ = some (.int .i64 a0_0) := qX 0
        have qX1 : W.cell? ⟨w.heap.size + 1 + 1, 1, none⟩ = some (.int .i64 a0_1) := qX 1
        have qX2 : W.cell? ⟨w.heap.size + 1 + 1, 2, none⟩ = some (.int .i64 a0_2) := qX 2
        have qX3 : W.cell? ⟨w.heap.size + 1 + 1, 3, none⟩ = some (.int .i64 a0_3) := qX 3
        have qX4 : W.cell? ⟨w.heap.size + 1 + 1, 4, none⟩ = some (.int .i64 a0_4) := qX 4
        have qY0 : W.cell? ⟨w.heap.size + 1 + 1 + 1, 0, none⟩ = some (.int .i64 a1_0) := qY 0
        have qY1 : W.cell? ⟨w.heap.size + 1 + 1 + 1, 1, none⟩ = some (.int .i64 a1_1) := qY 1
        have qY2 : W.cell? ⟨w.heap.size + 1 + 1 + 1, 2, none⟩ = some (.int .i64 a1_2) := qY 2
        have qY3 : W.cell? ⟨w.heap.size + 1 + 1 + 1, 3, none⟩ = some (.int .i64 a1_3) := qY 3
        have qY4 : W.cell? ⟨w.heap.size + 1 + 1 + 1, 4, none⟩ = some (.int .i64 a1_4) := qY 4
        clear qA qB qX qY
        rename_i hH; clear hH
        go_wp2_with (first | (go_at_call 46; (with_reducible refine (impl_IsFind.calls a0_0 a0_1 a0_2 a0_3 a0_4 a0_5 a0_6 a0_7 true _ A1.out).mono ?_); rintro e w1 ⟨rfl, hb⟩; have HB1 : Aside0 (Below w.heap.size w w1) := ⟨below_step (by repeat (first | exact HB0.out | apply below_drew1 | apply pw_below_drewN)) hb⟩; have pA0 := pw_cell_below hb qA0; clear qA0; have pA1 := pw_cell_below hb qA1; clear qA1; have pA2 := pw_cell_below hb qA2; clear qA2; have pA3 := pw_cell_below hb qA3; clear qA3; have pA4 := pw_cell_below hb qA4; clear qA4; have pA5 := pw_cell_below hb qA5; clear qA5; have pA6 := pw_cell_below hb qA6; clear qA6; have pA7 := pw_cell_below hb qA7; clear qA7; have pB0 := pw_cell_below hb qB0; clear qB0; have pB1 := pw_cell_below hb qB1; clear qB1; have pB2 := pw_cell_below hb qB2; clear qB2; have pB3 := pw_cell_below hb qB3; clear qB3; have pB4 := pw_cell_below hb qB4; clear qB4; have pB5 := pw_cell_below hb qB5; clear qB5; have pB6 := pw_cell_below hb qB6; clear qB6; have pB7 := pw_cell_below hb qB7; clear qB7; have pX0 := pw_cell_below hb qX0; clear qX0; have pX1 := pw_cell_below hb qX1; clear qX1; have pX2 := pw_cell_below hb qX2; clear qX2; have pX3 := pw_cell_below hb qX3; clear qX3; have pX4 := pw_cell_below hb qX4; clear qX4; have pY0 := pw_cell_below hb qY0; clear qY0; have pY1 := pw_cell_below hb qY1; clear qY1; have pY2 := pw_cell_below hb qY2; clear qY2; have pY3 := pw_cell_below hb qY3; clear qY3; have pY4 := pw_cell_below hb qY4; clear qY4; clear hb) | (go_at_call 46; (with_reducible refine (impl_IsFind.calls a1_0 a1_1 a1_2 a1_3 a1_4 a1_5 a1_6 a1_7 true _ A2.out).mono ?_); rintro e w2 ⟨rfl, hb⟩; have HB2 : Aside0 (Below w.heap.size w w2) := ⟨below_step (by repeat (first | exact HB1.out | apply below_drew1 | apply pw_below_drewN)) hb⟩; have rA0 := pw_cell_below hb pA0; clear pA0; have rA1 := pw_cell_below hb pA1; clear pA1; have rA2 := pw_cell_below hb pA2; clear pA2; have rA3 := pw_cell_below hb pA3; clear pA3; have rA4 := pw_cell_below hb pA4; clear pA4; have rA5 := pw_cell_below hb pA5; clear pA5; have rA6 := pw_cell_below hb pA6; clear pA6; have rA7 := pw_cell_below hb pA7; clear pA7; have rB0 := pw_cell_below hb pB0; clear pB0; have rB1 := pw_cell_below hb pB1; clear pB1; have rB2 := pw_cell_below hb pB2; clear pB2; have rB3 := pw_cell_below hb pB3; clear pB3; have rB4 := pw_cell_below hb pB4; clear pB4; have rB5 := pw_cell_below hb pB5; clear pB5; have rB6 := pw_cell_below hb pB6; clear pB6; have rB7 := pw_cell_below hb pB7; clear pB7; have rX0 := pw_cell_below hb pX0; clear pX0; have rX1 := pw_cell_below hb pX1; clear pX1; have rX2 := pw_cell_below hb pX2; clear pX2; have rX3 := pw_cell_below hb pX3; clear pX3; have rX4 := pw_cell_below hb pX4; clear pX4; have rY0 := pw_cell_below hb pY0; clear pY0; have rY1 := pw_cell_below hb pY1; clear pY1; have rY2 := pw_cell_below hb pY2; clear pY2; have rY3 := pw_cell_below hb pY3; clear pY3; have rY4 := pw_cell_below hb pY4; clear pY4; clear hb) | (go_at_call 40; (try rw [i64_w]); (with_reducible refine (impl_InRange.calls (wrap64 (a0_6 - a1_6)) (-24) 24 r _ A3.out).mono ?_); rintro e w3 ⟨rfl, ⟨nd, rfl⟩⟩; have HB3 := Aside0.mk (pw_below_drewN HB2.out nd)))
        all_goals go_ret
        all_goals exact ⟨rfl, by repeat (first | exact HB3.out | apply below_drew1 | apply pw_below_drewN)⟩
      · refine impl_AreTwins.world (P := fun W => Exit.then _ _ Exit.normal _ W) w [.int .i64 a0_0, .int .i64 a0_1, .int .i64 a0_2, .int .i64 a0_3, .int .i64 a0_4, .int .i64 a0_5, .int .i64 a0_6, .int .i64 a0_7] [.int .i64 a1_0, .int .i64 a1_1, .int .i64 a1_2, .int .i64 a1_3, .int .i64 a1_4, .int .i64 a1_5, .int .i64 a1_6, .int .i64 a1_7] [.int .i64 a1_0, .int .i64 a1_1, .int .i64 a1_2, .int .i64 a1_3, .int .i64 a1_4] [.int .i64 a0_0, .int .i64 a0_1, .int .i64 a0_2, .int .i64 a0_3, .int .i64 a0_4] 37 35 ?_
        intro W qA qB qX qY hb0
        have HB0 := Aside0.mk hb0; clear hb0
        have qA0 : W.cell? ⟨w.heap.size, 0, none⟩ = some (.int .i64 a0_0) := qA 0
        have qA1 : W.cell? ⟨w.heap.size, 1, none⟩ = some (.int .i64 a0_1) := qA 1
        have qA2 : W.cell? ⟨w.heap.size, 2, none⟩ = some (.int .i64 a0_2) := qA 2
        have qA3 : W.cell? ⟨w.heap.size, 3, none⟩ = some (.int .i64 a0_3) := qA 3
        have qA4 : W.cell? ⟨w.heap.size, 4, none⟩ = some (.int .i64 a0_4) := qA 4
        have qA5 : W.cell? ⟨w.heap.size, 5, none⟩ = some (.int .i64 a0_5) := qA 5
        have qA6 : W.cell? ⟨w.heap.size, 6, none⟩ = some (.int .i64 a0_6) := qA 6
        have qA7 : W.cell? ⟨w.heap.size, 7, none⟩ = some (.int .i64 a0_7) := qA 7
        have qB0 : W.cell? ⟨w.heap.size + 1, 0, none⟩ = some (.int .i64 a1_0) := qB 0
        have qB1 : W.cell? ⟨w.heap.size + 1, 1, none⟩ = some (.int .i64 a1_1) := qB 1
        have qB2 : W.cell? ⟨w.heap.size + 1, 2, none⟩ = some (.int .i64 a1_2) := qB 2
        have qB3 : W.cell? ⟨w.heap.size + 1, 3, none⟩ = some (.int .i64 a1_3) := qB 3
        have qB4 : W.cell? ⟨w.heap.size + 1, 4, none⟩ = some (.int .i64 a1_4) := qB 4
        have qB5 : W.cell? ⟨w.heap.size + 1, 5, none⟩ = some (.int .i64 a1_5) := qB 5
        have qB6 : W.cell? ⟨w.heap.size + 1, 6, none⟩ = some (.int .i64 a1_6) := qB 6
        have qB7 : W.cell? ⟨w.heap.size + 1, 7, none⟩ = some (.int .i64 a1_7) := qB 7
        have qX0 : W.cell? ⟨w.heap.size + 1 + 1, 0, none⟩ = some (.int .i64 a1_0) := qX 0
        have qX1 : W.cell? ⟨w.heap.size + 1 + 1, 1, none⟩ = some (.int .i64 a1_1) := qX 1
        have qX2 : W.cell? ⟨w.heap.size + 1 + 1, 2, none⟩ = some (.int .i64 a1_2) := qX 2
        have qX3 : W.cell? ⟨w.heap.size + 1 + 1, 3, none⟩ = some (.int .i64 a1_3) := qX 3
        have qX4 : W.cell? ⟨w.heap.size + 1 + 1, 4, none⟩ = some (.int .i64 a1_4) := qX 4
        have qY0 : W.cell? ⟨w.heap.size + 1 + 1 + 1, 0, none⟩ = some (.int .i64 a0_0) := qY 0
        have qY1 : W.cell? ⟨w.heap.size + 1 + 1 + 1, 1, none⟩ = some (.int .i64 a0_1) := qY 1
        have qY2 : W.cell? ⟨w.heap.size + 1 + 1 + 1, 2, none⟩ = some (.int .i64 a0_2) := qY 2
        have qY3 : W.cell? ⟨w.heap.size + 1 + 1 + 1, 3, none⟩ = some (.int .i64 a0_3) := qY 3
        have qY4 : W.cell? ⟨w.heap.size + 1 + 1 + 1, 4, none⟩ = some (.int .i64 a0_4) := qY 4
        clear qA qB qX qY
        rename_i hH; clear hH
        go_wp2_with (first | (go_at_call 46; (with_reducible refine (impl_IsFind.calls a0_0 a0_1 a0_2 a0_3 a0_4 a0_5 a0_6 a0_7 true _ A1.out).mono ?_); rintro e w1 ⟨rfl, hb⟩; have HB1 : Aside0 (Below w.heap.size w w1) := ⟨below_step (by repeat (first | exact HB0.out | apply below_drew1 | apply pw_below_drewN)) hb⟩; have pA0 := pw_cell_below hb qA0; clear qA0; have pA1 := pw_cell_below hb qA1; clear qA1; have pA2 := pw_cell_below hb qA2; clear qA2; have pA3 := pw_cell_below hb qA3; clear qA3; have pA4 := pw_cell_below hb qA4; clear qA4; have pA5 := pw_cell_below hb qA5; clear qA5; have pA6 := pw_cell_below hb qA6; clear qA6; have pA7 := pw_cell_below hb qA7; clear qA7; have pB0 := pw_cell_below hb qB0; clear qB0; have pB1 := pw_cell_below hb qB1; clear qB1; have pB2 := pw_cell_below hb qB2; clear qB2; have pB3 := pw_cell_below hb qB3; clear qB3; have pB4 := pw_cell_below hb qB4; clear qB4; have pB5 := pw_cell_below hb qB5; clear qB5; have pB6 := pw_cell_below hb qB6; clear qB6; have pB7 := pw_cell_below hb qB7; clear qB7; have pX0 := pw_cell_below hb qX0; clear qX0; have pX1 := pw_cell_below hb qX1; clear qX1; have pX2 := pw_cell_below hb qX2; clear qX2; have pX3 := pw_cell_below hb qX3; clear qX3; have pX4 := pw_cell_below hb qX4; clear qX4; have pY0 := pw_cell_below hb qY0; clear qY0; have pY1 := pw_cell_below hb qY1; clear qY1; have pY2 := pw_cell_below hb qY2; clear qY2; have pY3 := pw_cell_below hb qY3; clear qY3; have pY4 := pw_cell_below hb qY4; clear qY4; clear hb) | (go_at_call 46; (with_reducible refine (impl_IsFind.calls a1_0 a1_1 a1_2 a1_3 a1_4 a1_5 a1_6 a1_7 true _ A2.out).mono ?_); rintro e w2 ⟨rfl, hb⟩; have HB2 : Aside0 (Below w.heap.size w w2) := ⟨below_step (by repeat (first | exact HB1.out | apply below_drew1 | apply pw_below_drewN)) hb⟩; have rA0 := pw_cell_below hb pA0; clear pA0; have rA1 := pw_cell_below hb pA1; clear pA1; have rA2 := pw_cell_below hb pA2; clear pA2; have rA3 := pw_cell_below hb pA3; clear pA3; have rA4 := pw_cell_below hb pA4; clear pA4; have rA5 := pw_cell_below hb pA5; clear pA5; have rA6 := pw_cell_below hb pA6; clear pA6; have rA7 := pw_cell_below hb pA7; clear pA7; have rB0 := pw_cell_below hb pB0; clear pB0; have rB1 := pw_cell_below hb pB1; clear pB1; have rB2 := pw_cell_below hb pB2; clear pB2; have rB3 := pw_cell_below hb pB3; clear pB3; have rB4 := pw_cell_below hb pB4; clear pB4; have rB5 := pw_cell_below hb pB5; clear pB5; have rB6 := pw_cell_below hb pB6; clear pB6; have rB7 := pw_cell_below hb pB7; clear pB7; have rX0 := pw_cell_below hb pX0; clear pX0; have rX1 := pw_cell_below hb pX1; clear pX1; have rX2 := pw_cell_below hb pX2; clear pX2; have rX3 := pw_cell_below hb pX3; clear pX3; have rX4 := pw_cell_below hb pX4; clear pX4; have rY0 := pw_cell_below hb pY0; clear pY0; have rY1 := pw_cell_below hb pY1; clear pY1; have rY2 := pw_cell_below hb pY2; clear pY2; have rY3 := pw_cell_below hb pY3; clear pY3; have rY4 := pw_cell_below hb pY4; clear pY4; clear hb) | (go_at_call 40; (try rw [i64_w]); (with_reducible refine (impl_InRange.calls (wrap64 (a0_6 - a1_6)) (-24) 24 r _ A3.out).mono ?_); rintro e w3 ⟨rfl, ⟨nd, rfl⟩⟩; have HB3 := Aside0.mk (pw_below_drewN HB2.out nd)))
        all_goals go_ret
        all_goals exact ⟨rfl, by repeat (first | exact HB3.out | apply below_drew1 | apply pw_below_drewN)⟩


end Go.Proofs.Ytkbnbimphddmbaa.PFnExactAreTwins
