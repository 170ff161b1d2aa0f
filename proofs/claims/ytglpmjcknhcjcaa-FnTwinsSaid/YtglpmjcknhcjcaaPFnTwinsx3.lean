-- Written for this claim by a program (a printer turned to this claim); Lean checks it.
import Derived.Test.YtglpmjcknhcjcaaPFnTwinsx0
import Derived.Test.YtglpmjcknhcjcaaPFnTwinsx1
import Derived.Test.YtglpmjcknhcjcaaPFnTwinsx2
namespace Go.Proofs.Ytglpmjcknhcjcaa.PFnTwins
open Go.RowKit Go.Proofs.YtglpmjcknhcjcaaW.PrintWords Go.Proofs.YtglpmjcknhcjcaaW.PrintLast Go.Proofs.YtglpmjcknhcjcaaW.PrintMore
attribute [local go_sem] max2_int min2_int max_two min_two max_three min_three max_four min_four   -- for this text's walks alone
set_option linter.unusedVariables false
set_option linter.unusedSimpArgs false

/-! ### impl_AreTwins: function 33 -/
def impl_AreTwins.f (a0_0 : Int) (a0_1 : Int) (a0_2 : Int) (a0_3 : Int) (a0_4 : Int) (a0_5 : Int) (a0_6 : Int) (a0_7 : Int) (a1_0 : Int) (a1_1 : Int) (a1_2 : Int) (a1_3 : Int) (a1_4 : Int) (a1_5 : Int) (a1_6 : Int) (a1_7 : Int) : Option Bool := (impl_IsFind.f a0_0 a0_1 a0_2 a0_3 a0_4 a0_5 a0_6 a0_7).bind fun t1 => (if t1 = true then ((impl_IsFind.f a1_0 a1_1 a1_2 a1_3 a1_4 a1_5 a1_6 a1_7).bind fun t2 => (if t2 = true then (if a0_0 = a1_0 then (some false) else (if a0_1 = a1_1 then (if a0_2 = a1_2 then (if a0_3 = a1_3 then (if a0_5 = a1_5 then (impl_InRange.f (wrap64 (a0_6 - a1_6)) (-24) 24) else (some false)) else (some false)) else (some false)) else (some false))) else (some false))) else (some false))
theorem impl_AreTwins.four0 (w : World) (A B X Y : List Value) (t u : TypeId) (j : Nat) : ((((w.alloc (.cells A.toArray t)).alloc (.cells B.toArray t)).alloc (.cells X.toArray u)).alloc (.cells Y.toArray u)).cell? ⟨w.heap.size, j, none⟩ = A[j]? := by
  exact (World.cell?_alloc_past _ _ _ (by simp <;> omega)).trans ((World.cell?_alloc_past _ _ _ (by simp <;> omega)).trans ((World.cell?_alloc_past _ _ _ (by simp <;> omega)).trans ((World.cell?_alloc_at _ _ _ _ (by simp <;> omega)).trans (by simp))))
theorem impl_AreTwins.four1 (w : World) (A B X Y : List Value) (t u : TypeId) (j : Nat) : ((((w.alloc (.cells A.toArray t)).alloc (.cells B.toArray t)).alloc (.cells X.toArray u)).alloc (.cells Y.toArray u)).cell? ⟨w.heap.size + 1, j, none⟩ = B[j]? := by
  exact (World.cell?_alloc_past _ _ _ (by simp <;> omega)).trans ((World.cell?_alloc_past _ _ _ (by simp <;> omega)).trans ((World.cell?_alloc_at _ _ _ _ (by simp <;> omega)).trans (by simp)))
theorem impl_AreTwins.four2 (w : World) (A B X Y : List Value) (t u : TypeId) (j : Nat) : ((((w.alloc (.cells A.toArray t)).alloc (.cells B.toArray t)).alloc (.cells X.toArray u)).alloc (.cells Y.toArray u)).cell? ⟨w.heap.size + 1 + 1, j, none⟩ = X[j]? := by
  exact (World.cell?_alloc_past _ _ _ (by simp <;> omega)).trans ((World.cell?_alloc_at _ _ _ _ (by simp <;> omega)).trans (by simp))
theorem impl_AreTwins.four3 (w : World) (A B X Y : List Value) (t u : TypeId) (j : Nat) : ((((w.alloc (.cells A.toArray t)).alloc (.cells B.toArray t)).alloc (.cells X.toArray u)).alloc (.cells Y.toArray u)).cell? ⟨w.heap.size + 1 + 1 + 1, j, none⟩ = Y[j]? := by
  exact (World.cell?_alloc_at _ _ _ _ (by simp <;> omega)).trans (by simp)
theorem impl_AreTwins.lt (w : World) (A B X Y : Obj) : w.heap.size + 1 + 1 + 1 < ((((w.alloc A).alloc B).alloc X).alloc Y).drew.heap.size := by
  show _ < ((((w.alloc A).alloc B).alloc X).alloc Y).heap.size
  simp
theorem impl_AreTwins.world {P : World → Prop} (w : World) (A B X Y : List Value) (t u : TypeId) (H : ∀ W, (∀ j, W.cell? ⟨w.heap.size, j, none⟩ = A[j]?) → (∀ j, W.cell? ⟨w.heap.size + 1, j, none⟩ = B[j]?) → (∀ j, W.cell? ⟨w.heap.size + 1 + 1, j, none⟩ = X[j]?) → (∀ j, W.cell? ⟨w.heap.size + 1 + 1 + 1, j, none⟩ = Y[j]?) → Below w.heap.size w W → P W) : P ((((w.alloc (.cells A.toArray t)).alloc (.cells B.toArray t)).alloc (.cells X.toArray u)).alloc (.cells Y.toArray u)).drew := by
  refine H _ (fun j => impl_AreTwins.four0 w A B X Y t u j) (fun j => impl_AreTwins.four1 w A B X Y t u j) (fun j => impl_AreTwins.four2 w A B X Y t u j) (fun j => impl_AreTwins.four3 w A B X Y t u j) ?_
  repeat (first | exact Below.refl _ _ | apply below_alloc | apply below_drew1)
theorem impl_AreTwins.ends {a0_0 a0_1 a0_2 a0_3 a0_4 a0_5 a0_6 a0_7 a1_0 a1_1 a1_2 a1_3 a1_4 a1_5 a1_6 a1_7 : Int} {r : Bool} (h : impl_AreTwins.f a0_0 a0_1 a0_2 a0_3 a0_4 a0_5 a0_6 a0_7 a1_0 a1_1 a1_2 a1_3 a1_4 a1_5 a1_6 a1_7 = some r) :
  (Aside0 (impl_IsFind.f a0_0 a0_1 a0_2 a0_3 a0_4 a0_5 a0_6 a0_7 = some false) ∧ false = r) ∨ (Aside0 (impl_IsFind.f a0_0 a0_1 a0_2 a0_3 a0_4 a0_5 a0_6 a0_7 = some true) ∧ Aside0 (impl_IsFind.f a1_0 a1_1 a1_2 a1_3 a1_4 a1_5 a1_6 a1_7 = some false) ∧ false = r) ∨ (Aside0 (impl_IsFind.f a0_0 a0_1 a0_2 a0_3 a0_4 a0_5 a0_6 a0_7 = some true) ∧ Aside0 (impl_IsFind.f a1_0 a1_1 a1_2 a1_3 a1_4 a1_5 a1_6 a1_7 = some true) ∧ (a0_0 != a1_0) = false ∧ false = r) ∨ (Aside0 (impl_IsFind.f a0_0 a0_1 a0_2 a0_3 a0_4 a0_5 a0_6 a0_7 = some true) ∧ Aside0 (impl_IsFind.f a1_0 a1_1 a1_2 a1_3 a1_4 a1_5 a1_6 a1_7 = some true) ∧ (a0_0 != a1_0) = true ∧ (a0_1 == a1_1) = false ∧ false = r) ∨ (Aside0 (impl_IsFind.f a0_0 a0_1 a0_2 a0_3 a0_4 a0_5 a0_6 a0_7 = some true) ∧ Aside0 (impl_IsFind.f a1_0 a1_1 a1_2 a1_3 a1_4 a1_5 a1_6 a1_7 = some true) ∧ (a0_0 != a1_0) = true ∧ (a0_1 == a1_1) = true ∧ (a0_2 == a1_2) = false ∧ false = r) ∨ (Aside0 (impl_IsFind.f a0_0 a0_1 a0_2 a0_3 a0_4 a0_5 a0_6 a0_7 = some true) ∧ Aside0 (impl_IsFind.f a1_0 a1_1 a1_2 a1_3 a1_4 a1_5 a1_6 a1_7 = some true) ∧ (a0_0 != a1_0) = true ∧ (a0_1 == a1_1) = true ∧ (a0_2 == a1_2) = true ∧ (a0_3 == a1_3) = false ∧ false = r) ∨ (Aside0 (impl_IsFind.f a0_0 a0_1 a0_2 a0_3 a0_4 a0_5 a0_6 a0_7 = some true) ∧ Aside0 (impl_IsFind.f a1_0 a1_1 a1_2 a1_3 a1_4 a1_5 a1_6 a1_7 = some true) ∧ (a0_0 != a1_0) = true ∧ (a0_1 == a1_1) = true ∧ (a0_2 == a1_2) = true ∧ (a0_3 == a1_3) = true ∧ (a0_5 == a1_5) = false ∧ false = r) ∨ (Aside0 (impl_IsFind.f a0_0 a0_1 a0_2 a0_3 a0_4 a0_5 a0_6 a0_7 = some true) ∧ Aside0 (impl_IsFind.f a1_0 a1_1 a1_2 a1_3 a1_4 a1_5 a1_6 a1_7 = some true) ∧ (a0_0 != a1_0) = true ∧ (a0_1 == a1_1) = true ∧ (a0_2 == a1_2) = true ∧ (a0_3 == a1_3) = true ∧ (a0_5 == a1_5) = true ∧ Aside0 (impl_InRange.f (wrap64 (a0_6 - a1_6)) (-24) 24 = some r)) := by
  unfold impl_AreTwins.f at h
  obtain ⟨t1, A1, h⟩ := ob_ h
  cases t1 with
  | false => rw [if_neg nt_] at h; exact Or.inl ⟨A1, Option.some.inj h⟩
  | true =>
    rw [if_pos rfl] at h
    obtain ⟨t2, A2, h⟩ := ob_ h
    cases t2 with
    | false => rw [if_neg nt_] at h; exact Or.inr (Or.inl ⟨A1, A2, Option.some.inj h⟩)
    | true =>
      rw [if_pos rfl] at h
      by_cases c0 : a0_0 = a1_0
      · rw [if_pos c0] at h; exact Or.inr (Or.inr (Or.inl ⟨A1, A2, bne_eq_false_iff_eq.mpr c0, Option.some.inj h⟩))
      rw [if_neg c0] at h
      refine Or.inr (Or.inr (Or.inr ?_))
      have e0 := bne_iff_ne.mpr c0
      by_cases c1 : a0_1 = a1_1
      rotate_left
      · rw [if_neg c1] at h; exact Or.inl ⟨A1, A2, e0, beq_eq_false_iff_ne.mpr c1, Option.some.inj h⟩
      rw [if_pos c1] at h
      have e1 := beq_iff_eq.mpr c1
      refine Or.inr ?_
      by_cases c2 : a0_2 = a1_2
      rotate_left
      · rw [if_neg c2] at h; exact Or.inl ⟨A1, A2, e0, e1, beq_eq_false_iff_ne.mpr c2, Option.some.inj h⟩
      rw [if_pos c2] at h
      have e2 := beq_iff_eq.mpr c2
      refine Or.inr ?_
      by_cases c3 : a0_3 = a1_3
      rotate_left
      · rw [if_neg c3] at h; exact Or.inl ⟨A1, A2, e0, e1, e2, beq_eq_false_iff_ne.mpr c3, Option.some.inj h⟩
      rw [if_pos c3] at h
      have e3 := beq_iff_eq.mpr c3
      refine Or.inr ?_
      by_cases c5 : a0_5 = a1_5
      rotate_left
      · rw [if_neg c5] at h; exact Or.inl ⟨A1, A2, e0, e1, e2, e3, beq_eq_false_iff_ne.mpr c5, Option.some.inj h⟩
      rw [if_pos c5] at h
      have e5 := beq_iff_eq.mpr c5
      exact Or.inr ⟨A1, A2, e0, e1, e2, e3, e5, ⟨h⟩⟩
theorem impl_AreTwins.eight {W : World} {g : Nat} {u0 u1 u2 u3 u4 u5 u6 u7 : Value} (q : ∀ j, W.cell? ⟨g, j, none⟩ = [u0, u1, u2, u3, u4, u5, u6, u7][j]?) : W.cell? ⟨g, 0, none⟩ = some u0 ∧ W.cell? ⟨g, 1, none⟩ = some u1 ∧ W.cell? ⟨g, 2, none⟩ = some u2 ∧ W.cell? ⟨g, 3, none⟩ = some u3 ∧ W.cell? ⟨g, 4, none⟩ = some u4 ∧ W.cell? ⟨g, 5, none⟩ = some u5 ∧ W.cell? ⟨g, 6, none⟩ = some u6 ∧ W.cell? ⟨g, 7, none⟩ = some u7 := ⟨q 0, q 1, q 2, q 3, q 4, q 5, q 6, q 7⟩
theorem impl_AreTwins.five {W : World} {g : Nat} {u0 u1 u2 u3 u4 : Value} (q : ∀ j, W.cell? ⟨g, j, none⟩ = [u0, u1, u2, u3, u4][j]?) : W.cell? ⟨g, 0, none⟩ = some u0 ∧ W.cell? ⟨g, 1, none⟩ = some u1 ∧ W.cell? ⟨g, 2, none⟩ = some u2 ∧ W.cell? ⟨g, 3, none⟩ = some u3 ∧ W.cell? ⟨g, 4, none⟩ = some u4 := ⟨q 0, q 1, q 2, q 3, q 4⟩
set_option maxHeartbeats 8000000 in
set_option maxRecDepth 100000 in
theorem impl_AreTwins.calls (a0_0 a0_1 a0_2 a0_3 a0_4 a0_5 a0_6 a0_7 a1_0 a1_1 a1_2 a1_3 a1_4 a1_5 a1_6 a1_7 : Int) (r : Bool) (w : World) (h : impl_AreTwins.f a0_0 a0_1 a0_2 a0_3 a0_4 a0_5 a0_6 a0_7 a1_0 a1_1 a1_2 a1_3 a1_4 a1_5 a1_6 a1_7 = some r) :
    Calls Try.prog 33 #[.agg #[.int .i64 a0_0, .int .i64 a0_1, .int .i64 a0_2, .int .i64 a0_3, .int .i64 a0_4, .int .i64 a0_5, .int .i64 a0_6, .int .i64 a0_7], .agg #[.int .i64 a1_0, .int .i64 a1_1, .int .i64 a1_2, .int .i64 a1_3, .int .i64 a1_4, .int .i64 a1_5, .int .i64 a1_6, .int .i64 a1_7]] w fun e w' => e = .returned (.bool r) ∧ Below w.heap.size w w' := by
  have hu37 := Try.underlying58
  have hu35 := Try.underlying56
  have HE := o_ (impl_AreTwins.ends h)
  clear h
  go_enter Try.func33, Try.ntmps33
  go_wp2_with fail
  go_region_held3 (fun w' => w'.cell? ⟨w.heap.size, 0, none⟩ = some (.int .i64 a0_0) ∧ w'.cell? ⟨w.heap.size, 1, none⟩ = some (.int .i64 a0_1) ∧ w'.cell? ⟨w.heap.size, 2, none⟩ = some (.int .i64 a0_2) ∧ w'.cell? ⟨w.heap.size, 3, none⟩ = some (.int .i64 a0_3) ∧ w'.cell? ⟨w.heap.size, 4, none⟩ = some (.int .i64 a0_4) ∧ w'.cell? ⟨w.heap.size + 1, 0, none⟩ = some (.int .i64 a1_0) ∧ w'.cell? ⟨w.heap.size + 1, 1, none⟩ = some (.int .i64 a1_1) ∧ w'.cell? ⟨w.heap.size + 1, 2, none⟩ = some (.int .i64 a1_2) ∧ w'.cell? ⟨w.heap.size + 1, 3, none⟩ = some (.int .i64 a1_3) ∧ w'.cell? ⟨w.heap.size + 1, 4, none⟩ = some (.int .i64 a1_4)) (go_keep) (fail)
  all_goals (
    refine impl_AreTwins.world (P := fun W => Exit.then _ _ Exit.normal _ W) w _ _ _ _ 58 56 ?_
    intro W qA qB qX qY hb0
    have HB0 := o_ hb0
    obtain ⟨qA0, qA1, qA2, qA3, qA4, qA5, qA6, qA7⟩ := impl_AreTwins.eight qA
    obtain ⟨qB0, qB1, qB2, qB3, qB4, qB5, qB6, qB7⟩ := impl_AreTwins.eight qB
    obtain ⟨qX0, qX1, qX2, qX3, qX4⟩ := impl_AreTwins.five qX
    obtain ⟨qY0, qY1, qY2, qY3, qY4⟩ := impl_AreTwins.five qY
    clear hb0 qA qB qX qY
    rename_i hH; clear hH
    rcases HE.1 with ⟨A1, rfl⟩ | ⟨A1, A2, rfl⟩ | ⟨A1, A2, e0, rfl⟩ | ⟨A1, A2, e0, e1, rfl⟩ | ⟨A1, A2, e0, e1, e2, rfl⟩ | ⟨A1, A2, e0, e1, e2, e3, rfl⟩ | ⟨A1, A2, e0, e1, e2, e3, e5, rfl⟩ | ⟨A1, A2, e0, e1, e2, e3, e5, A3⟩
    all_goals (
      clear HE
      go_wp2_with (first | (go_at_call 60; (with_reducible refine (impl_IsFind.calls a0_0 a0_1 a0_2 a0_3 a0_4 a0_5 a0_6 a0_7 _ _ A1.1).mono ?_); rintro e w1 ⟨rfl, hb⟩; replace HB0 := o_ (below_step (by repeat (first | exact HB0.1 | apply below_drew1 | apply pw_below_drewN)) hb); replace qA0 := pw_cell_below hb qA0; replace qA1 := pw_cell_below hb qA1; replace qA2 := pw_cell_below hb qA2; replace qA3 := pw_cell_below hb qA3; replace qA4 := pw_cell_below hb qA4; replace qA5 := pw_cell_below hb qA5; replace qA6 := pw_cell_below hb qA6; replace qA7 := pw_cell_below hb qA7; replace qB0 := pw_cell_below hb qB0; replace qB1 := pw_cell_below hb qB1; replace qB2 := pw_cell_below hb qB2; replace qB3 := pw_cell_below hb qB3; replace qB4 := pw_cell_below hb qB4; replace qB5 := pw_cell_below hb qB5; replace qB6 := pw_cell_below hb qB6; replace qB7 := pw_cell_below hb qB7; replace qX0 := pw_cell_below hb qX0; replace qX1 := pw_cell_below hb qX1; replace qX2 := pw_cell_below hb qX2; replace qX3 := pw_cell_below hb qX3; replace qX4 := pw_cell_below hb qX4; replace qY0 := pw_cell_below hb qY0; replace qY1 := pw_cell_below hb qY1; replace qY2 := pw_cell_below hb qY2; replace qY3 := pw_cell_below hb qY3; replace qY4 := pw_cell_below hb qY4; clear hb) | (go_at_call 60; (with_reducible refine (impl_IsFind.calls a1_0 a1_1 a1_2 a1_3 a1_4 a1_5 a1_6 a1_7 _ _ A2.1).mono ?_); rintro e w2 ⟨rfl, hb⟩; replace HB0 := o_ (below_step (by repeat (first | exact HB0.1 | apply below_drew1 | apply pw_below_drewN)) hb); replace qA0 := pw_cell_below hb qA0; replace qA1 := pw_cell_below hb qA1; replace qA2 := pw_cell_below hb qA2; replace qA3 := pw_cell_below hb qA3; replace qA4 := pw_cell_below hb qA4; replace qA5 := pw_cell_below hb qA5; replace qA6 := pw_cell_below hb qA6; replace qA7 := pw_cell_below hb qA7; replace qB0 := pw_cell_below hb qB0; replace qB1 := pw_cell_below hb qB1; replace qB2 := pw_cell_below hb qB2; replace qB3 := pw_cell_below hb qB3; replace qB4 := pw_cell_below hb qB4; replace qB5 := pw_cell_below hb qB5; replace qB6 := pw_cell_below hb qB6; replace qB7 := pw_cell_below hb qB7; replace qX0 := pw_cell_below hb qX0; replace qX1 := pw_cell_below hb qX1; replace qX2 := pw_cell_below hb qX2; replace qX3 := pw_cell_below hb qX3; replace qX4 := pw_cell_below hb qX4; replace qY0 := pw_cell_below hb qY0; replace qY1 := pw_cell_below hb qY1; replace qY2 := pw_cell_below hb qY2; replace qY3 := pw_cell_below hb qY3; replace qY4 := pw_cell_below hb qY4; clear hb) | (go_at_call 61; (try rw [i64_w]); (with_reducible refine (impl_InRange.calls (wrap64 (a0_6 - a1_6)) (-24) 24 r _ A3.1).mono ?_); rintro e w3 ⟨rfl, ⟨nd, rfl⟩⟩; replace HB0 := o_ (pw_below_drewN HB0.1 nd)))
      all_goals go_ret
      all_goals exact ⟨rfl, by repeat (first | exact HB0.1 | apply below_drew1 | apply pw_below_drewN)⟩))

/-! ### impl_TwinsOf: function 11 -/
set_option maxHeartbeats 8000000 in
set_option maxRecDepth 100000 in
theorem impl_TwinsOf_cont.calls (p : S58 → Bool) (g : Nat) (lb : Array Value) (eg : ∀ args w, (callFunc g args).run Try.prog w = .ok (.enter g args) w) (A0 : Option Addr) (c0 : Nat) (l0 : List S58) (w : World) (hr0 : Kd.C k58 w A0 l0.length l0)
    (hp : ∀ (x : S58) (W : World), Below w.heap.size w W → Calls Try.prog g (#[.agg #[.int .i64 x.f0.f0, .int .i64 x.f0.f1, .int .i64 x.f0.f2, .int .i64 x.f0.f3, .int .i64 x.f0.f4, .int .i64 x.f1, .int .i64 x.f2, .int .i64 x.f3]] ++ lb) W fun e W' => e = .returned (.bool (p x)) ∧ Below W.heap.size W W') :
    Calls Try.prog 43 #[.slice A0 l0.length c0, .func (.func g) #[] lb] w fun e w' => e = .returned (.bool (decide (0 ≤ EvLib.idxB p l0 0))) ∧ Below w.heap.size w w' := by
  have HC := o_ (impl_Find_73.calls p g lb eg A0 c0 l0 w hr0 hp)
  clear hr0 hp eg
  generalize EvLib.idxB p l0 0 = i at HC ⊢
  go_enter Try.func43, Try.ntmps43
  go_wp2_with (go_at_call 73; refine HC.1.mono ?_; rintro e w' ⟨rfl, hb⟩; have HB := o_ hb; clear hb)
  go_ret
  exact ⟨rfl, HB.1⟩
set_option maxHeartbeats 8000000 in
set_option maxRecDepth 100000 in
theorem impl_TwinsOf_1.calls (x f : S58) (g : Nat) (b : Bool) (w : World) (hc0 : w.cell? ⟨g, 0, none⟩ = some (.int .i64 f.f0.f0)) (hc1 : w.cell? ⟨g, 1, none⟩ = some (.int .i64 f.f0.f1)) (hc2 : w.cell? ⟨g, 2, none⟩ = some (.int .i64 f.f0.f2)) (hc3 : w.cell? ⟨g, 3, none⟩ = some (.int .i64 f.f0.f3)) (hc4 : w.cell? ⟨g, 4, none⟩ = some (.int .i64 f.f0.f4)) (hc5 : w.cell? ⟨g, 5, none⟩ = some (.int .i64 f.f1)) (hc6 : w.cell? ⟨g, 6, none⟩ = some (.int .i64 f.f2)) (hc7 : w.cell? ⟨g, 7, none⟩ = some (.int .i64 f.f3)) (h : impl_AreTwins.f f.f0.f0 f.f0.f1 f.f0.f2 f.f0.f3 f.f0.f4 f.f1 f.f2 f.f3 x.f0.f0 x.f0.f1 x.f0.f2 x.f0.f3 x.f0.f4 x.f1 x.f2 x.f3 = some b) :
    Calls Try.prog 44 #[.agg #[.int .i64 x.f0.f0, .int .i64 x.f0.f1, .int .i64 x.f0.f2, .int .i64 x.f0.f3, .int .i64 x.f0.f4, .int .i64 x.f1, .int .i64 x.f2, .int .i64 x.f3], .pointer (some ⟨g, 0, none⟩)] w fun e w' => e = .returned (.bool b) ∧ Below w.heap.size w w' := by
  have huE := Try.underlying58
  have huT := Try.underlying56
  have H := o_ h
  clear h
  have hd0 : ∀ o, (w.alloc o).cell? ⟨g, 0, none⟩ = some (.int .i64 f.f0.f0) := fun o => pw_cell_below (below_alloc (Below.refl _ _) o) hc0
  have hd1 : ∀ o, (w.alloc o).cell? ⟨g, 1, none⟩ = some (.int .i64 f.f0.f1) := fun o => pw_cell_below (below_alloc (Below.refl _ _) o) hc1
  have hd2 : ∀ o, (w.alloc o).cell? ⟨g, 2, none⟩ = some (.int .i64 f.f0.f2) := fun o => pw_cell_below (below_alloc (Below.refl _ _) o) hc2
  have hd3 : ∀ o, (w.alloc o).cell? ⟨g, 3, none⟩ = some (.int .i64 f.f0.f3) := fun o => pw_cell_below (below_alloc (Below.refl _ _) o) hc3
  have hd4 : ∀ o, (w.alloc o).cell? ⟨g, 4, none⟩ = some (.int .i64 f.f0.f4) := fun o => pw_cell_below (below_alloc (Below.refl _ _) o) hc4
  have hd5 : ∀ o, (w.alloc o).cell? ⟨g, 5, none⟩ = some (.int .i64 f.f1) := fun o => pw_cell_below (below_alloc (Below.refl _ _) o) hc5
  have hd6 : ∀ o, (w.alloc o).cell? ⟨g, 6, none⟩ = some (.int .i64 f.f2) := fun o => pw_cell_below (below_alloc (Below.refl _ _) o) hc6
  have hd7 : ∀ o, (w.alloc o).cell? ⟨g, 7, none⟩ = some (.int .i64 f.f3) := fun o => pw_cell_below (below_alloc (Below.refl _ _) o) hc7
  go_enter Try.func44, Try.ntmps44
  go_wp2_with (go_at_call 33; refine (impl_AreTwins.calls _ _ _ _ _ _ _ _ _ _ _ _ _ _ _ _ b _ H.1).mono ?_; rintro e w' ⟨rfl, hb⟩; have HB := o_ (below_step (below_alloc (Below.refl w.heap.size w) _) hb); clear hb)
  go_ret
  exact ⟨rfl, HB.1⟩
def impl_TwinsOf.p (f x : S58) : Bool := (impl_AreTwins.f f.f0.f0 f.f0.f1 f.f0.f2 f.f0.f3 f.f0.f4 f.f1 f.f2 f.f3 x.f0.f0 x.f0.f1 x.f0.f2 x.f0.f3 x.f0.f4 x.f1 x.f2 x.f3).getD false
theorem impl_TwinsOf.inR (a b c : Int) : ∃ r, impl_InRange.f a b c = some r := by
  unfold impl_InRange.f
  repeat' (first | exact ⟨_, rfl⟩ | split)
theorem impl_TwinsOf.bb {X Y : Type} {a : Option X} {f : X → Option Y} (h : ∃ r, a = some r) (g : ∀ x, ∃ r, f x = some r) : ∃ r, a.bind f = some r := by
  obtain ⟨r, rfl⟩ := h
  exact g r
theorem impl_TwinsOf.isT (a b c d e : Int) : ∃ r, impl_IsThing.f a b c d e = some r := by
  unfold impl_IsThing.f
  repeat' (first | exact ⟨_, rfl⟩ | exact impl_TwinsOf.inR _ _ _ | refine impl_TwinsOf.bb ?_ (fun _ => ?_) | split)
theorem impl_TwinsOf.isF (a b c d e f g h : Int) : ∃ r, impl_IsFind.f a b c d e f g h = some r := by
  unfold impl_IsFind.f
  repeat' (first | exact ⟨_, rfl⟩ | exact impl_TwinsOf.inR _ _ _ | exact impl_TwinsOf.isT _ _ _ _ _ | refine impl_TwinsOf.bb ?_ (fun _ => ?_) | split)
theorem impl_TwinsOf.tot (f x : S58) : impl_AreTwins.f f.f0.f0 f.f0.f1 f.f0.f2 f.f0.f3 f.f0.f4 f.f1 f.f2 f.f3 x.f0.f0 x.f0.f1 x.f0.f2 x.f0.f3 x.f0.f4 x.f1 x.f2 x.f3 = some (impl_TwinsOf.p f x) := by
  have h : ∃ r, impl_AreTwins.f f.f0.f0 f.f0.f1 f.f0.f2 f.f0.f3 f.f0.f4 f.f1 f.f2 f.f3 x.f0.f0 x.f0.f1 x.f0.f2 x.f0.f3 x.f0.f4 x.f1 x.f2 x.f3 = some r := by
    unfold impl_AreTwins.f
    repeat' (first | exact ⟨_, rfl⟩ | exact impl_TwinsOf.inR _ _ _ | exact impl_TwinsOf.isF _ _ _ _ _ _ _ _ | refine impl_TwinsOf.bb ?_ (fun _ => ?_) | split)
  obtain ⟨r, h⟩ := h
  unfold impl_TwinsOf.p
  rw [h]
  rfl
/-- The ids of those among the first n that have a twin ahead of them. -/
def impl_TwinsOf.out (l : List S58) : Nat → List Int
  | 0 => []
  | n + 1 => impl_TwinsOf.out l n ++ (if 0 ≤ EvLib.idxB (impl_TwinsOf.p (rd_T58 l (n : Int))) (l.take n) 0 then [(rd_T58 l (n : Int)).f0.f0] else [])
theorem impl_TwinsOf.out_len (l : List S58) : ∀ n, (impl_TwinsOf.out l n).length ≤ n
  | 0 => Nat.le_refl _
  | n + 1 => by
    have := impl_TwinsOf.out_len l n
    unfold impl_TwinsOf.out
    split <;> simp <;> omega
def impl_TwinsOf.f (k : Nat) (l0 : List S58) : Option (List Int) := (impl_AreFinds.f k l0).bind fun b => if b = true then (if l0.length < 1099511627776 then some (impl_TwinsOf.out l0 l0.length) else none) else some []
theorem impl_TwinsOf.mono : ∀ a0 k, LeO (impl_TwinsOf.f k a0) (impl_TwinsOf.f (k + 1) a0) := by
  intro a0 k
  unfold impl_TwinsOf.f
  exact LeO.bind (impl_AreFinds.mono _ _) (fun _ => LeO.refl _)
theorem impl_TwinsOf.takeC {α : Type} {d : Kd α} {w : World} {A : Option Addr} {l : List α} (h : Kd.C d w A l.length l) (m : Nat) (hm : m ≤ l.length) : Kd.C d w A (l.take m).length (l.take m) := by
  obtain ⟨h1, h2, h3⟩ := h
  have hl : (l.take m).length = m := by rw [List.length_take]; omega
  refine ⟨rfl, by omega, fun hp => ?_⟩
  obtain ⟨ad, h4, h5⟩ := h3 (by omega)
  refine ⟨ad, h4, fun j p hj => h5 j p ?_⟩
  rw [List.getElem?_take] at hj
  split at hj
  · exact hj
  · cases hj
set_option maxHeartbeats 8000000 in
set_option maxRecDepth 100000 in
theorem impl_TwinsOf.calls (k : Nat) (A0 : Option Addr) (c0 : Nat) (l0 : List S58) (r : List Int) (w : World) (hr0 : Kd.C k58 w A0 l0.length l0) (hc0 : l0.length ≤ c0) (h : impl_TwinsOf.f k l0 = some r) :
    Calls Try.prog 11 #[.slice A0 l0.length c0] w fun e w' => ∃ v0_ : Value, e = .returned v0_ ∧ Kd.R (Kd.int .i64) 3 w' w.heap.size (fun _ => True) v0_ r ∧ Below w.heap.size w w' := by
  have HR0 := o_ hr0
  have HC0 := o_ hc0
  clear hr0 hc0
  have huE := Try.underlying58
  have huT := Try.underlying56
  have huS := Try.underlying24
  have huI := Try.underlying3
  unfold impl_TwinsOf.f at h
  obtain ⟨b, A1, h⟩ := Option.bind_eq_some_iff.mp h
  have A1 := o_ A1
  cases b with
  | false =>
    rw [if_neg (by simp)] at h
    obtain rfl := Option.some.inj h
    clear h
    go_enter Try.func11, Try.ntmps11
    go_wp2_with (first | ((with_reducible refine gate_dst (N := 6) rfl ?_); refine Kd.R_lit (Kd.int .i64) _ 3 ?hg (N := 6) ?hd (xs := ([] : List Int)) (inner := []) (ok := fun _ => True) (okp := fun _ => True) ?hr ?hp (fun _ hk => hk) trivial (Below.refl _ _) (Nat.le_refl _) (by simp) ?_; (case hd => rfl); (case hg => rfl); (case hr => first | (go_simp; done) | (go_simp; rfl)); (case hp => exact (Reps.none _ _)); intro v6 w1 ho hb hg_ hnew_; clear hg_ hnew_; have HO := o_ ho; have HB := o_ hb; clear ho hb) | (go_at_call 36; refine (impl_AreFinds.calls k A0 c0 l0 false _ (Kd.C_below HR0.1 HB.1) HC0.1 A1.1).mono ?_; rintro e w2 ⟨rfl, hb⟩; have HO2 := o_ (Kd.R_below HO.1 hb); have HB2 := o_ (below_step HB.1 hb); clear hb))
    go_ret
    exact ⟨_, rfl, HO2.1, HB2.1⟩
  | true =>
    rw [if_pos rfl] at h
    split at h
    case isFalse => cases h
    rename_i hlt
    obtain rfl := Option.some.inj h
    clear h
    have HL := o_ hlt
    clear hlt
    go_enter Try.func11, Try.ntmps11
    go_wp2_with (first | ((with_reducible refine gate_dst (N := 6) rfl ?_); refine Kd.R_lit (Kd.int .i64) _ 3 ?hg (N := 6) ?hd (xs := ([] : List Int)) (inner := []) (ok := fun _ => True) (okp := fun _ => True) ?hr ?hp (fun _ hk => hk) trivial (Below.refl _ _) (Nat.le_refl _) (by simp) ?_; (case hd => rfl); (case hg => rfl); (case hr => first | (go_simp; done) | (go_simp; rfl)); (case hp => exact (Reps.none _ _)); intro v6 w1 ho hb hg_ hnew_; clear hg_ hnew_; have HO := o_ ho; have HB := o_ hb; clear ho hb) | (go_at_call 36; refine (impl_AreFinds.calls k A0 c0 l0 true _ (Kd.C_below HR0.1 HB.1) HC0.1 A1.1).mono ?_; rintro e w2 ⟨rfl, hb⟩; have HO2 := o_ (Kd.R_below HO.1 hb); have HB2 := o_ (below_step HB.1 hb); clear hb))
    go_loopg [3, 13] l0.length (fun gg v3 v13 wr => ∃ z : Int, v13 = .int .i64 z ∧ Aside0 (0 ≤ z) ∧ Aside0 (z ≤ (l0.length : Int)) ∧ Aside0 ((l0.length : Int) - z ≤ gg) ∧ Aside0 (Kd.R (Kd.int .i64) 3 wr w.heap.size (fun _ => True) v3 (impl_TwinsOf.out l0 z.toNat)) ∧ Aside0 (Below w.heap.size w wr))
    case atStart => exact ⟨0, rfl, ⟨by omega⟩, ⟨by omega⟩, ⟨by omega⟩, HO2, HB2⟩
    case round =>
      obtain ⟨z, rfl, Z0, Z1, ZG, HV, HB⟩ := hrel
      by_cases hlt : z < (l0.length : Int)
      · have p1 : 0 ≤ z := Z0.1
        obtain ⟨ad, e0, hx0, hx1, hx2, hx3, hx4, hx5, hx6, hx7⟩ := at_T58 HR0.1 z p1 hlt
        cases e0
        replace hx0 := pw_cell_below HB.1 hx0
        replace hx1 := pw_cell_below HB.1 hx1
        replace hx2 := pw_cell_below HB.1 hx2
        replace hx3 := pw_cell_below HB.1 hx3
        replace hx4 := pw_cell_below HB.1 hx4
        replace hx5 := pw_cell_below HB.1 hx5
        replace hx6 := pw_cell_below HB.1 hx6
        replace hx7 := pw_cell_below HB.1 hx7
        have hltb : decide (z < (l0.length : Int)) = true := decide_eq_true hlt
        have HLT := o_ hlt
        have hwr : wrap64 (z + 1) = z + 1 := by have := HL.1; unfold wrap64; omega
        replace p1 := eq_true p1
        replace hlt := eq_true hlt
        have hzc : z ≤ (c0 : Int) := by have := HC0.1; have := HLT.1; omega
        have hlen : (l0.take z.toNat).length = z.toNat := by rw [List.length_take]; have := HLT.1; omega
        have eg : ∀ args w, (callFunc 44 args).run Try.prog w = .ok (.enter 44 args) w := enters_of Try.func44 (by kernel_rfl) rfl
        have HCT := impl_TwinsOf_cont.calls (impl_TwinsOf.p (rd_T58 l0 z)) 44 #[.pointer (some ⟨wr.heap.size, 0, none⟩)] eg (some ad) c0 (l0.take z.toNat) (wr.alloc (.cells #[.int .i64 (rd_T58 l0 z).f0.f0, .int .i64 (rd_T58 l0 z).f0.f1, .int .i64 (rd_T58 l0 z).f0.f2, .int .i64 (rd_T58 l0 z).f0.f3, .int .i64 (rd_T58 l0 z).f0.f4, .int .i64 (rd_T58 l0 z).f1, .int .i64 (rd_T58 l0 z).f2, .int .i64 (rd_T58 l0 z).f3] 58)) (Kd.C_alloc (Kd.C_below (impl_TwinsOf.takeC HR0.1 z.toNat (by have := HLT.1; omega)) HB.1) _)
          (fun x W hb => impl_TwinsOf_1.calls x (rd_T58 l0 z) wr.heap.size _ W ((hb.cell (p := ⟨wr.heap.size, 0, none⟩) (by simp)).trans (by simp)) ((hb.cell (p := ⟨wr.heap.size, 1, none⟩) (by simp)).trans (by simp)) ((hb.cell (p := ⟨wr.heap.size, 2, none⟩) (by simp)).trans (by simp)) ((hb.cell (p := ⟨wr.heap.size, 3, none⟩) (by simp)).trans (by simp)) ((hb.cell (p := ⟨wr.heap.size, 4, none⟩) (by simp)).trans (by simp)) ((hb.cell (p := ⟨wr.heap.size, 5, none⟩) (by simp)).trans (by simp)) ((hb.cell (p := ⟨wr.heap.size, 6, none⟩) (by simp)).trans (by simp)) ((hb.cell (p := ⟨wr.heap.size, 7, none⟩) (by simp)).trans (by simp)) (impl_TwinsOf.tot (rd_T58 l0 z) x))
        rw [hlen] at HCT
        have HCT := o_ HCT
        have HBA := o_ (below_alloc HB.1 (.cells #[.int .i64 (rd_T58 l0 z).f0.f0, .int .i64 (rd_T58 l0 z).f0.f1, .int .i64 (rd_T58 l0 z).f0.f2, .int .i64 (rd_T58 l0 z).f0.f3, .int .i64 (rd_T58 l0 z).f0.f4, .int .i64 (rd_T58 l0 z).f1, .int .i64 (rd_T58 l0 z).f2, .int .i64 (rd_T58 l0 z).f3] 58))
        have HXI := o_ (show (wr.alloc (.cells #[.int .i64 (rd_T58 l0 z).f0.f0, .int .i64 (rd_T58 l0 z).f0.f1, .int .i64 (rd_T58 l0 z).f0.f2, .int .i64 (rd_T58 l0 z).f0.f3, .int .i64 (rd_T58 l0 z).f0.f4, .int .i64 (rd_T58 l0 z).f1, .int .i64 (rd_T58 l0 z).f2, .int .i64 (rd_T58 l0 z).f3] 58)).cell? ⟨wr.heap.size, 0, none⟩ = some (.int .i64 (rd_T58 l0 z).f0.f0) by simp)
        have HVA := o_ (Kd.R_alloc HV.1 (.cells #[.int .i64 (rd_T58 l0 z).f0.f0, .int .i64 (rd_T58 l0 z).f0.f1, .int .i64 (rd_T58 l0 z).f0.f2, .int .i64 (rd_T58 l0 z).f0.f3, .int .i64 (rd_T58 l0 z).f0.f4, .int .i64 (rd_T58 l0 z).f1, .int .i64 (rd_T58 l0 z).f2, .int .i64 (rd_T58 l0 z).f3] 58))
        clear eg hlen
        have hout : impl_TwinsOf.out l0 (z + 1).toNat = impl_TwinsOf.out l0 z.toNat ++ (if 0 ≤ EvLib.idxB (impl_TwinsOf.p (rd_T58 l0 z)) (l0.take z.toNat) 0 then [(rd_T58 l0 z).f0.f0] else []) := by
          have e1 : (z + 1).toNat = z.toNat + 1 := by have := Z0.1; omega
          have e2 : ((z.toNat : Nat) : Int) = z := by have := Z0.1; omega
          rw [e1, impl_TwinsOf.out, e2]
        have HOUT := o_ hout
        clear hout
        generalize EvLib.idxB (impl_TwinsOf.p (rd_T58 l0 z)) (l0.take z.toNat) 0 = q at HCT HOUT
        by_cases hq : 0 ≤ q
        · have hqb : decide (0 ≤ q) = true := decide_eq_true hq
          have HOUT := o_ (show impl_TwinsOf.out l0 (z + 1).toNat = impl_TwinsOf.out l0 z.toNat ++ [(rd_T58 l0 z).f0.f0] by rw [HOUT.1, if_pos hq])
          replace hq := eq_true hq
          go_wp2_with (first | (go_at_call 43; refine HCT.1.mono ?_; rintro e w' ⟨rfl, hb⟩; have HB1 := o_ (below_step HBA.1 hb); have HX1 := o_ (pw_cell_below hb HXI.1); have HV1 := o_ (Kd.R_below HVA.1 hb); have hx1_ := HX1.1; clear hb) | (at_builtin; refine Kd.R_append (Kd.int .i64) (w0 := w) w.heap.size rfl (.tmp 23) (.tmp 27) 24 3 (.int .i64 0) 8 rfl huS info3 rfl (by decide) (by omega) _ (impl_TwinsOf.out l0 z.toNat) ((rd_T58 l0 z).f0.f0) [.int .i64 ((rd_T58 l0 z).f0.f0)] (fun _ => True) (fun _ => False) rfl rfl rfl (fun _ hk => hk.elim) (fun _ _ => trivial) HV1.1 HB1.1 (below_size HB1.1) (by have h1_ := impl_TwinsOf.out_len l0 z.toNat; have h2_ := HL.1; have h3_ := HLT.1; omega) ?_; intro v1 w1 ho hb _ _; have HV2 := o_ ho; have HB2_ := o_ hb; clear ho hb))
          go_roundg ((l0.length : Int) - (z + 1)).toNat
          case measure => have := Z0.1; have := HLT.1; have := ZG.1; omega
          case rel => exact ⟨z + 1, (by first | rfl | (simp [*]; done)), ⟨by have := Z0.1; omega⟩, ⟨by have := HLT.1; omega⟩, ⟨by have := HLT.1; omega⟩, ⟨by rw [HOUT.1]; exact HV2.1⟩, HB2_⟩
        · have hqb : decide (0 ≤ q) = false := decide_eq_false hq
          have HOUT := o_ (show impl_TwinsOf.out l0 (z + 1).toNat = impl_TwinsOf.out l0 z.toNat by rw [HOUT.1, if_neg hq, List.append_nil])
          replace hq := eq_false hq
          go_wp2_with (go_at_call 43; refine HCT.1.mono ?_; rintro e w' ⟨rfl, hb⟩; have HB1 := o_ (below_step HBA.1 hb); have HX1 := o_ (pw_cell_below hb HXI.1); have HV1 := o_ (Kd.R_below HVA.1 hb); have hx1_ := HX1.1; clear hb)
          go_roundg ((l0.length : Int) - (z + 1)).toNat
          case measure => have := Z0.1; have := HLT.1; have := ZG.1; omega
          case rel => exact ⟨z + 1, (by first | rfl | (simp [*]; done)), ⟨by have := Z0.1; omega⟩, ⟨by have := HLT.1; omega⟩, ⟨by have := HLT.1; omega⟩, ⟨by rw [HOUT.1]; exact HV1.1⟩, HB1⟩
      · have hltb : decide (z < (l0.length : Int)) = false := decide_eq_false hlt
        have hzl : z.toNat = l0.length := by have := Z1.1; omega
        have HVE := o_ (show Kd.R (Kd.int .i64) 3 wr w.heap.size (fun _ => True) _ (impl_TwinsOf.out l0 l0.length) by rw [← hzl]; exact HV.1)
        clear hlt hzl
        go_wp2
        go_ret
        exact ⟨_, rfl, HVE.1, HB.1⟩


/-! ### impl_IsSpan: function 82 -/
def impl_IsSpan.f (a0_0 : Int) (a0_1 : Int) : Option (Bool) := (impl_InRange.f a0_0 0 100000).bind fun t117 => (if t117 = true then ((impl_InRange.f a0_1 0 100000).bind fun t118 => (if t118 = true then (some (decide (a0_0 ≤ a0_1))) else (some false))) else (some false))
set_option maxHeartbeats 8000000 in
set_option maxRecDepth 100000 in
theorem impl_IsSpan.calls (a0_0 : Int) (a0_1 : Int) (r : Bool) (w : World) (h : impl_IsSpan.f a0_0 a0_1 = some r) :
    Calls Try.prog 82 #[.agg #[.int .i64 a0_0, .int .i64 a0_1]] w fun e w' => e = .returned (.bool r) ∧ Below w.heap.size w w' := by
  have hu39 := Try.underlying39
  have HB := o_ (Below.refl w.heap.size w)
  have H := h
  unfold impl_IsSpan.f at H
  clear h
  obtain ⟨t117, A2, H⟩ := ob_ H
  try dsimp only at H
  by_cases c3 : t117 = true
  · subst c3
    have H1 := H
    rw [if_pos rfl] at H1
    clear H
    have H := H1
    clear H1
    obtain ⟨t118, A4, H⟩ := ob_ H
    try dsimp only at H
    by_cases c5 : t118 = true
    · subst c5
      have H1 := H
      rw [if_pos rfl] at H1
      clear H
      have H := H1
      clear H1
      obtain rfl := Option.some.inj H
      go_enter Try.func82, Try.ntmps82
      go_wp2_with (first | ((with_reducible refine gate_dst (N := 1) rfl ?_); refine bx_ 1 #[.int .i64 a0_0, .int .i64 a0_1] 39 ?_; intro gb116 hg w6 hbox hb; have BK116 := o_ (hbox); have GW116 := o_ ((by rw [hg]; exact (below_size (hd_ HB.1)) : w.heap.size ≤ gb116)); replace HB := o_ (below_step (hd_ HB.1) hb); have GE116 := GW116; clear hb hbox hg; have hcz7_0 : w6.cell? ⟨gb116, 0, none⟩ = some (.int .i64 a0_0) := (blk_cell BK116.1 0).trans rfl; have hcz7_1 : w6.cell? ⟨gb116, 1, none⟩ = some (.int .i64 a0_1) := (blk_cell BK116.1 1).trans rfl; have hfz7_0 := blk_frozen BK116.1 0; have hfz7_1 := blk_frozen BK116.1 1) | ((with_reducible refine g_ 61 ?_); refine gl_ (some 5) Try.func61 #[.int .i64 a0_0, .int .i64 0, .int .i64 100000] ?_; (with_reducible refine (impl_InRange.calls a0_0 0 100000 true _ A2.1).mono ?_); rintro e w' ⟨rfl, ⟨nd, rfl⟩⟩; refine ⟨_, rfl, ?_⟩) | (go_at_call 61; (with_reducible refine (impl_InRange.calls a0_1 0 100000 true _ A4.1).mono ?_); rintro e w' ⟨rfl, ⟨nd, rfl⟩⟩))
      go_ret
      exact ⟨rt_, wb_⟩
    · replace c5 := Bool.eq_false_iff.mpr c5
      subst c5
      have H1 := H
      rw [if_neg nt_] at H1
      clear H
      have H := H1
      clear H1
      obtain rfl := Option.some.inj H
      go_enter Try.func82, Try.ntmps82
      go_wp2_with (first | ((with_reducible refine gate_dst (N := 1) rfl ?_); refine bx_ 1 #[.int .i64 a0_0, .int .i64 a0_1] 39 ?_; intro gb116 hg w8 hbox hb; have BK116 := o_ (hbox); have GW116 := o_ ((by rw [hg]; exact (below_size (hd_ HB.1)) : w.heap.size ≤ gb116)); replace HB := o_ (below_step (hd_ HB.1) hb); have GE116 := GW116; clear hb hbox hg; have hcz9_0 : w8.cell? ⟨gb116, 0, none⟩ = some (.int .i64 a0_0) := (blk_cell BK116.1 0).trans rfl; have hcz9_1 : w8.cell? ⟨gb116, 1, none⟩ = some (.int .i64 a0_1) := (blk_cell BK116.1 1).trans rfl; have hfz9_0 := blk_frozen BK116.1 0; have hfz9_1 := blk_frozen BK116.1 1) | ((with_reducible refine g_ 61 ?_); refine gl_ (some 5) Try.func61 #[.int .i64 a0_0, .int .i64 0, .int .i64 100000] ?_; (with_reducible refine (impl_InRange.calls a0_0 0 100000 true _ A2.1).mono ?_); rintro e w' ⟨rfl, ⟨nd, rfl⟩⟩; refine ⟨_, rfl, ?_⟩) | (go_at_call 61; (with_reducible refine (impl_InRange.calls a0_1 0 100000 false _ A4.1).mono ?_); rintro e w' ⟨rfl, ⟨nd, rfl⟩⟩))
      go_ret
      exact ⟨rt_, wb_⟩
  · replace c3 := Bool.eq_false_iff.mpr c3
    subst c3
    have H1 := H
    rw [if_neg nt_] at H1
    clear H
    have H := H1
    clear H1
    obtain rfl := Option.some.inj H
    go_enter Try.func82, Try.ntmps82
    go_wp2_with (first | ((with_reducible refine gate_dst (N := 1) rfl ?_); refine bx_ 1 #[.int .i64 a0_0, .int .i64 a0_1] 39 ?_; intro gb116 hg w10 hbox hb; have BK116 := o_ (hbox); have GW116 := o_ ((by rw [hg]; exact (below_size (hd_ HB.1)) : w.heap.size ≤ gb116)); replace HB := o_ (below_step (hd_ HB.1) hb); have GE116 := GW116; clear hb hbox hg; have hcz11_0 : w10.cell? ⟨gb116, 0, none⟩ = some (.int .i64 a0_0) := (blk_cell BK116.1 0).trans rfl; have hcz11_1 : w10.cell? ⟨gb116, 1, none⟩ = some (.int .i64 a0_1) := (blk_cell BK116.1 1).trans rfl; have hfz11_0 := blk_frozen BK116.1 0; have hfz11_1 := blk_frozen BK116.1 1) | ((with_reducible refine g_ 61 ?_); refine gl_ (some 5) Try.func61 #[.int .i64 a0_0, .int .i64 0, .int .i64 100000] ?_; (with_reducible refine (impl_InRange.calls a0_0 0 100000 false _ A2.1).mono ?_); rintro e w' ⟨rfl, ⟨nd, rfl⟩⟩; refine ⟨_, rfl, ?_⟩))
    go_ret
    exact ⟨rt_, wb_⟩

end Go.Proofs.Ytglpmjcknhcjcaa.PFnTwins
