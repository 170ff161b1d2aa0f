-- Written for this claim by a program (a printer turned to this claim); Lean checks it.
import Derived.Test.YtnlgilmbmoiniaaPFnExactTasksForx0
import Derived.Test.YtnlgilmbmoiniaaPFnExactTasksForx2
import Derived.Test.YtnlgilmbmoiniaaPFnExactTasksForx8
import Derived.Test.YtnlgilmbmoiniaaPFnExactTasksForx9
import Derived.Test.YtnlgilmbmoiniaaPFnExactTasksForx14
import Derived.Test.YtnlgilmbmoiniaaPFnExactTasksForx15
import Derived.Test.YtnlgilmbmoiniaaPFnExactTasksForx16
import Derived.Test.YtnlgilmbmoiniaaPFnExactTasksForx17
namespace Go.Proofs.Ytnlgilmbmoiniaa.PFnExactTasksFor
open Go.RowKit Go.Proofs.YtnlgilmbmoiniaaW.PrintWords Go.Proofs.YtnlgilmbmoiniaaW.PrintLast Go.Proofs.YtnlgilmbmoiniaaW.PrintMore
attribute [local go_sem] max2_int min2_int max_two min_two max_three min_three max_four min_four   -- for this text's walks alone
set_option linter.unusedVariables false
set_option linter.unusedSimpArgs false

/-! ### laws_FnExactTasksFor: function 4 -/
def laws_FnExactTasksFor.j0 : Nat → List (S52) → List (S71) → List Bool → Int → List (S54) → List (S54) → Bool → Option (Bool)
 | 0, _, _, _, _, _, _, _ => none
 | k + 1, x0, x1, x2, x3, x10, x14, x86 => if x86 = true then (some false) else ((laws_markTaskS.f k x14 1).bind fun bt401 => ((laws_heldTaskS.f k bt401.2 1).bind fun t403 => (if t403 < 0 then (some false) else (if t403 = bt401.1 then ((laws_toFindS.f k x0).bind fun t404 => ((laws_toClaimS.f k x1).bind fun t407 => ((laws_toBoolS.f k x2).bind fun t410 => ((impl_TasksFor.f k t404 t407 t410 x3).bind fun t413 => ((laws_eqTaskS.f k t413 x10).bind fun t416 => (if t416 = true then ((laws_heldTaskS.f k bt401.2 1).bind fun t417 => (if t417 < 0 then (some false) else (if t417 = bt401.1 then (some true) else (some false)))) else (some false))))))) else (some false)))))
def laws_FnExactTasksFor.f (k : Nat) (l0 : List (S52)) (l1 : List (S71)) (l2 : List Bool) (a3 : Int) : Option (Bool) := if (l2.length : Int) > 1048576 then (some true) else ((laws_szFindS.f l0 1048576).bind fun t355 => (if t355 < 0 then (some true) else ((laws_szClaimS.f l1 t355).bind fun t356 => (if t356 < 0 then (some true) else ((laws_toFindS.f k l0).bind fun t357 => ((laws_toClaimS.f k l1).bind fun t360 => ((laws_toBoolS.f k l2).bind fun t363 => ((spec_TasksFor.f k t357 t360 t363 a3).bind fun t366 => ((laws_toFindS.f k l0).bind fun t369 => ((laws_toClaimS.f k l1).bind fun t372 => ((laws_toBoolS.f k l2).bind fun t375 => ((impl_TasksFor.f k t369 t372 t375 a3).bind fun t378 => ((laws_eqTaskS.f k t378 t366).bind fun t381 => (if t381 = true then ((laws_toFindS.f k l0).bind fun t382 => ((laws_eqFindS.f k t369 t382).bind fun t385 => (if t385 = true then ((laws_toClaimS.f k l1).bind fun t386 => ((laws_eqClaimS.f k t372 t386).bind fun t389 => (if t389 = true then ((laws_toBoolS.f k l2).bind fun t390 => ((laws_eqBoolS.f k t375 t390).bind fun t393 => (if t393 = true then ((laws_markFindS.f k t369 1).bind fun bt394 => ((laws_markClaimS.f k t372 bt394.1).bind fun bt396 => ((laws_markBoolS.f k t375 bt396.1).bind fun bt398 => (if bt398.1 < 0 then (laws_FnExactTasksFor.j0 k l0 l1 l2 a3 t366 t378 true) else ((laws_eqTaskS.f k t378 t366).bind fun t400 => (laws_FnExactTasksFor.j0 k l0 l1 l2 a3 t366 t378 (!t400))))))) else (some false)))) else (some false)))) else (some false)))) else (some false)))))))))))))))
theorem laws_FnExactTasksFor.mono_l : ∀ k, (∀ y0 y1 y2 y3 y4 y5 y6, LeO (laws_FnExactTasksFor.j0 k y0 y1 y2 y3 y4 y5 y6) (laws_FnExactTasksFor.j0 (k + 1) y0 y1 y2 y3 y4 y5 y6))
 | 0 => fun _ _ _ _ _ _ _ r h => by simp [laws_FnExactTasksFor.j0] at h
 | k + 1 => by
  have ih0 := laws_FnExactTasksFor.mono_l k
  ·
   intro y0 y1 y2 y3 y4 y5 y6
   unfold laws_FnExactTasksFor.j0
   have jh0 := @impl_TasksFor.mono
   have jh1 := @laws_eqBoolS.mono
   have jh2 := @laws_eqClaimS.mono
   have jh3 := @laws_eqFindS.mono
   have jh4 := @laws_eqTaskS.mono
   have jh5 := @laws_heldTaskS.mono
   have jh6 := @laws_markBoolS.mono
   have jh7 := @laws_markClaimS.mono
   have jh8 := @laws_markFindS.mono
   have jh9 := @laws_markTaskS.mono
   have jh10 := @laws_toBoolS.mono
   have jh11 := @laws_toClaimS.mono
   have jh12 := @laws_toFindS.mono
   have jh13 := @spec_TasksFor.mono
   exact mo_
theorem laws_FnExactTasksFor.mono : ∀ a0 a1 a2 a3 k, LeO (laws_FnExactTasksFor.f k a0 a1 a2 a3) (laws_FnExactTasksFor.f (k + 1) a0 a1 a2 a3) := by
 intro a0 a1 a2 a3 k
 have ih0 := laws_FnExactTasksFor.mono_l k
 unfold laws_FnExactTasksFor.f
 have jh0 := @impl_TasksFor.mono
 have jh1 := @laws_eqBoolS.mono
 have jh2 := @laws_eqClaimS.mono
 have jh3 := @laws_eqFindS.mono
 have jh4 := @laws_eqTaskS.mono
 have jh5 := @laws_heldTaskS.mono
 have jh6 := @laws_markBoolS.mono
 have jh7 := @laws_markClaimS.mono
 have jh8 := @laws_markFindS.mono
 have jh9 := @laws_markTaskS.mono
 have jh10 := @laws_toBoolS.mono
 have jh11 := @laws_toClaimS.mono
 have jh12 := @laws_toFindS.mono
 have jh13 := @spec_TasksFor.mono
 exact mo_
theorem y322_ {P : Prop} (h : P := by (try simp only [List.map_toArray, List.map_cons, List.map_nil]); first | done | (rw [show t402.length = t378.length from (Kd.R_reads' HO_14.out).1.symm] <;> rfl) | rfl | (simp only [List.length_drop, List.length_take]; rfl)) : P := h
set_option maxHeartbeats 8000000 in
set_option maxRecDepth 100000 in
theorem laws_FnExactTasksFor.calls (k : Nat) (A0 : Option Addr) (c0 : Nat) (l0 : List (S52)) (A1 : Option Addr) (c1 : Nat) (l1 : List (S71)) (A2 : Option Addr) (c2 : Nat) (l2 : List Bool) (a3 : Int) (w : World) (hr0 : Kd.C k52 w A0 l0.length l0) (hc0 : l0.length ≤ c0) (hr1 : Kd.C k71 w A1 l1.length l1) (hc1 : l1.length ≤ c1) (hr2 : Kd.C Kd.bool w A2 l2.length l2) (hc2 : l2.length ≤ c2) (h : laws_FnExactTasksFor.f k l0 l1 l2 a3 = some true) :
  Calls Try.prog 4 #[.slice A0 l0.length c0, .slice A1 l1.length c1, .slice A2 l2.length c2, .int .i64 a3] w fun e w' => e = .returned (.bool true) ∧ Below w.heap.size w w' := by
 have HR0 := Aside0.mk hr0
 have HC0 := Aside0.mk hc0
 clear hr0 hc0
 have HR1 := Aside0.mk hr1
 have HC1 := Aside0.mk hc1
 clear hr1 hc1
 have HR2 := Aside0.mk hr2
 have HC2 := Aside0.mk hc2
 clear hr2 hc2
 have HB := Aside0.mk (Below.refl w.heap.size w)
 have H : (if (l2.length : Int) > 1048576 then (some true) else ((laws_szFindS.f l0 1048576).bind fun t355 => (if t355 < 0 then (some true) else ((laws_szClaimS.f l1 t355).bind fun t356 => (if t356 < 0 then (some true) else ((laws_toFindS.f k l0).bind fun t357 => ((laws_toClaimS.f k l1).bind fun t360 => ((laws_toBoolS.f k l2).bind fun t363 => ((spec_TasksFor.f k t357 t360 t363 a3).bind fun t366 => ((laws_toFindS.f k l0).bind fun t369 => ((laws_toClaimS.f k l1).bind fun t372 => ((laws_toBoolS.f k l2).bind fun t375 => ((impl_TasksFor.f k t369 t372 t375 a3).bind fun t378 => ((laws_eqTaskS.f k t378 t366).bind fun t381 => (if t381 = true then ((laws_toFindS.f k l0).bind fun t382 => ((laws_eqFindS.f k t369 t382).bind fun t385 => (if t385 = true then ((laws_toClaimS.f k l1).bind fun t386 => ((laws_eqClaimS.f k t372 t386).bind fun t389 => (if t389 = true then ((laws_toBoolS.f k l2).bind fun t390 => ((laws_eqBoolS.f k t375 t390).bind fun t393 => (if t393 = true then ((laws_markFindS.f k t369 1).bind fun bt394 => ((laws_markClaimS.f k t372 bt394.1).bind fun bt396 => ((laws_markBoolS.f k t375 bt396.1).bind fun bt398 => (if bt398.1 < 0 then (laws_FnExactTasksFor.j0 k l0 l1 l2 a3 t366 t378 true) else ((laws_eqTaskS.f k t378 t366).bind fun t400 => (laws_FnExactTasksFor.j0 k l0 l1 l2 a3 t366 t378 (!t400))))))) else (some false)))) else (some false)))) else (some false)))) else (some false)))))))))))))))) = some true := h
 clear h
 by_cases c5 : (l2.length : Int) > 1048576
 ·
  rw [if_pos c5] at H
  have c5b0 : decide (1048576 < (l2.length : Int)) = true := decide_eq_true c5
  have c5b1 : decide (1048576 < l2.length) = true := decide_eq_true (by omega)
  clear c5
  first | (obtain rfl := Option.some.inj H) | (have Hr_ := Option.some.inj H; clear H)
  go_enter Try.func4, Try.ntmps4
  go_wp2
  go_ret
  exact ⟨rt_, hd_ HB.out⟩
 ·
  rw [if_neg c5] at H
  have c5b0 : decide (1048576 < (l2.length : Int)) = false := decide_eq_false c5
  have c5b1 : decide (1048576 < l2.length) = false := decide_eq_false (by omega)
  clear c5
  replace H := Option.bind_eq_some_iff.mp H
  obtain ⟨t355, A60, H⟩ := H
  replace H : (if t355 < 0 then (some true) else ((laws_szClaimS.f l1 t355).bind fun t356 => (if t356 < 0 then (some true) else ((laws_toFindS.f k l0).bind fun t357 => ((laws_toClaimS.f k l1).bind fun t360 => ((laws_toBoolS.f k l2).bind fun t363 => ((spec_TasksFor.f k t357 t360 t363 a3).bind fun t366 => ((laws_toFindS.f k l0).bind fun t369 => ((laws_toClaimS.f k l1).bind fun t372 => ((laws_toBoolS.f k l2).bind fun t375 => ((impl_TasksFor.f k t369 t372 t375 a3).bind fun t378 => ((laws_eqTaskS.f k t378 t366).bind fun t381 => (if t381 = true then ((laws_toFindS.f k l0).bind fun t382 => ((laws_eqFindS.f k t369 t382).bind fun t385 => (if t385 = true then ((laws_toClaimS.f k l1).bind fun t386 => ((laws_eqClaimS.f k t372 t386).bind fun t389 => (if t389 = true then ((laws_toBoolS.f k l2).bind fun t390 => ((laws_eqBoolS.f k t375 t390).bind fun t393 => (if t393 = true then ((laws_markFindS.f k t369 1).bind fun bt394 => ((laws_markClaimS.f k t372 bt394.1).bind fun bt396 => ((laws_markBoolS.f k t375 bt396.1).bind fun bt398 => (if bt398.1 < 0 then (laws_FnExactTasksFor.j0 k l0 l1 l2 a3 t366 t378 true) else ((laws_eqTaskS.f k t378 t366).bind fun t400 => (laws_FnExactTasksFor.j0 k l0 l1 l2 a3 t366 t378 (!t400))))))) else (some false)))) else (some false)))) else (some false)))) else (some false)))))))))))))) = some true := H
  have A6 := Aside0.mk A60
  clear A60
  by_cases c7 : t355 < 0
  ·
   rw [if_pos c7] at H
   have c7b0 : decide (t355 < 0) = true := decide_eq_true c7
   clear c7
   first | (obtain rfl := Option.some.inj H) | (have Hr_ := Option.some.inj H; clear H)
   go_enter Try.func4, Try.ntmps4
   go_wp2_with (first | ((with_reducible refine gate_callee (f := 12) rfl ?_); refine goesL_ (some 24) rfl rfl Try.func12 (by kernel_rfl) rfl #[.slice A0 l0.length c0, .int .i64 1048576] rfl ma_ ?_; (with_reducible refine (laws_szFindS.calls _ _ l0 1048576 t355 _ ?side1 ?side2 A6.out).mono ?_); (case side1 => exact cd_ HR0.out); (case side2 => exact HC0.out); rintro e w' ⟨rfl, ⟨nd, rfl⟩⟩; refine ⟨_, rfl, ?_⟩))
   go_ret
   exact ⟨rt_, hd_ HB.out⟩
  ·
   rw [if_neg c7] at H
   have c7b0 : decide (t355 < 0) = false := decide_eq_false c7
   clear c7
   replace H := Option.bind_eq_some_iff.mp H
   obtain ⟨t356, A80, H⟩ := H
   replace H : (if t356 < 0 then (some true) else ((laws_toFindS.f k l0).bind fun t357 => ((laws_toClaimS.f k l1).bind fun t360 => ((laws_toBoolS.f k l2).bind fun t363 => ((spec_TasksFor.f k t357 t360 t363 a3).bind fun t366 => ((laws_toFindS.f k l0).bind fun t369 => ((laws_toClaimS.f k l1).bind fun t372 => ((laws_toBoolS.f k l2).bind fun t375 => ((impl_TasksFor.f k t369 t372 t375 a3).bind fun t378 => ((laws_eqTaskS.f k t378 t366).bind fun t381 => (if t381 = true then ((laws_toFindS.f k l0).bind fun t382 => ((laws_eqFindS.f k t369 t382).bind fun t385 => (if t385 = true then ((laws_toClaimS.f k l1).bind fun t386 => ((laws_eqClaimS.f k t372 t386).bind fun t389 => (if t389 = true then ((laws_toBoolS.f k l2).bind fun t390 => ((laws_eqBoolS.f k t375 t390).bind fun t393 => (if t393 = true then ((laws_markFindS.f k t369 1).bind fun bt394 => ((laws_markClaimS.f k t372 bt394.1).bind fun bt396 => ((laws_markBoolS.f k t375 bt396.1).bind fun bt398 => (if bt398.1 < 0 then (laws_FnExactTasksFor.j0 k l0 l1 l2 a3 t366 t378 true) else ((laws_eqTaskS.f k t378 t366).bind fun t400 => (laws_FnExactTasksFor.j0 k l0 l1 l2 a3 t366 t378 (!t400))))))) else (some false)))) else (some false)))) else (some false)))) else (some false)))))))))))) = some true := H
   have A8 := Aside0.mk A80
   clear A80
   by_cases c9 : t356 < 0
   ·
    rw [if_pos c9] at H
    have c9b0 : decide (t356 < 0) = true := decide_eq_true c9
    clear c9
    first | (obtain rfl := Option.some.inj H) | (have Hr_ := Option.some.inj H; clear H)
    go_enter Try.func4, Try.ntmps4
    go_wp2_with (first | ((with_reducible refine gate_callee (f := 12) rfl ?_); refine goesL_ (some 24) rfl rfl Try.func12 (by kernel_rfl) rfl #[.slice A0 l0.length c0, .int .i64 1048576] rfl ma_ ?_; (with_reducible refine (laws_szFindS.calls _ _ l0 1048576 t355 _ ?side1 ?side2 A6.out).mono ?_); (case side1 => exact cd_ HR0.out); (case side2 => exact HC0.out); rintro e w' ⟨rfl, ⟨nd, rfl⟩⟩; refine ⟨_, rfl, ?_⟩) | ((with_reducible refine gate_callee (f := 13) rfl ?_); refine goesL_ (some 29) rfl rfl Try.func13 (by kernel_rfl) rfl #[.slice A1 l1.length c1, .int .i64 t355] rfl ma_ ?_; (with_reducible refine (laws_szClaimS.calls _ _ l1 t355 t356 _ ?side1 ?side2 A8.out).mono ?_); (case side1 => exact cd_ HR1.out); (case side2 => exact HC1.out); rintro e w' ⟨rfl, ⟨nd, rfl⟩⟩; refine ⟨_, rfl, ?_⟩))
    go_ret
    exact ⟨rt_, hd_ HB.out⟩
   ·
    rw [if_neg c9] at H
    have c9b0 : decide (t356 < 0) = false := decide_eq_false c9
    clear c9
    replace H := Option.bind_eq_some_iff.mp H
    obtain ⟨t357, A100, H⟩ := H
    replace H : ((laws_toClaimS.f k l1).bind fun t360 => ((laws_toBoolS.f k l2).bind fun t363 => ((spec_TasksFor.f k t357 t360 t363 a3).bind fun t366 => ((laws_toFindS.f k l0).bind fun t369 => ((laws_toClaimS.f k l1).bind fun t372 => ((laws_toBoolS.f k l2).bind fun t375 => ((impl_TasksFor.f k t369 t372 t375 a3).bind fun t378 => ((laws_eqTaskS.f k t378 t366).bind fun t381 => (if t381 = true then ((laws_toFindS.f k l0).bind fun t382 => ((laws_eqFindS.f k t369 t382).bind fun t385 => (if t385 = true then ((laws_toClaimS.f k l1).bind fun t386 => ((laws_eqClaimS.f k t372 t386).bind fun t389 => (if t389 = true then ((laws_toBoolS.f k l2).bind fun t390 => ((laws_eqBoolS.f k t375 t390).bind fun t393 => (if t393 = true then ((laws_markFindS.f k t369 1).bind fun bt394 => ((laws_markClaimS.f k t372 bt394.1).bind fun bt396 => ((laws_markBoolS.f k t375 bt396.1).bind fun bt398 => (if bt398.1 < 0 then (laws_FnExactTasksFor.j0 k l0 l1 l2 a3 t366 t378 true) else ((laws_eqTaskS.f k t378 t366).bind fun t400 => (laws_FnExactTasksFor.j0 k l0 l1 l2 a3 t366 t378 (!t400))))))) else (some false)))) else (some false)))) else (some false)))) else (some false)))))))))) = some true := H
    have A10 := Aside0.mk A100
    clear A100
    replace H := Option.bind_eq_some_iff.mp H
    obtain ⟨t360, A110, H⟩ := H
    replace H : ((laws_toBoolS.f k l2).bind fun t363 => ((spec_TasksFor.f k t357 t360 t363 a3).bind fun t366 => ((laws_toFindS.f k l0).bind fun t369 => ((laws_toClaimS.f k l1).bind fun t372 => ((laws_toBoolS.f k l2).bind fun t375 => ((impl_TasksFor.f k t369 t372 t375 a3).bind fun t378 => ((laws_eqTaskS.f k t378 t366).bind fun t381 => (if t381 = true then ((laws_toFindS.f k l0).bind fun t382 => ((laws_eqFindS.f k t369 t382).bind fun t385 => (if t385 = true then ((laws_toClaimS.f k l1).bind fun t386 => ((laws_eqClaimS.f k t372 t386).bind fun t389 => (if t389 = true then ((laws_toBoolS.f k l2).bind fun t390 => ((laws_eqBoolS.f k t375 t390).bind fun t393 => (if t393 = true then ((laws_markFindS.f k t369 1).bind fun bt394 => ((laws_markClaimS.f k t372 bt394.1).bind fun bt396 => ((laws_markBoolS.f k t375 bt396.1).bind fun bt398 => (if bt398.1 < 0 then (laws_FnExactTasksFor.j0 k l0 l1 l2 a3 t366 t378 true) else ((laws_eqTaskS.f k t378 t366).bind fun t400 => (laws_FnExactTasksFor.j0 k l0 l1 l2 a3 t366 t378 (!t400))))))) else (some false)))) else (some false)))) else (some false)))) else (some false))))))))) = some true := H
    have A11 := Aside0.mk A110
    clear A110
    replace H := Option.bind_eq_some_iff.mp H
    obtain ⟨t363, A120, H⟩ := H
    replace H : ((spec_TasksFor.f k t357 t360 t363 a3).bind fun t366 => ((laws_toFindS.f k l0).bind fun t369 => ((laws_toClaimS.f k l1).bind fun t372 => ((laws_toBoolS.f k l2).bind fun t375 => ((impl_TasksFor.f k t369 t372 t375 a3).bind fun t378 => ((laws_eqTaskS.f k t378 t366).bind fun t381 => (if t381 = true then ((laws_toFindS.f k l0).bind fun t382 => ((laws_eqFindS.f k t369 t382).bind fun t385 => (if t385 = true then ((laws_toClaimS.f k l1).bind fun t386 => ((laws_eqClaimS.f k t372 t386).bind fun t389 => (if t389 = true then ((laws_toBoolS.f k l2).bind fun t390 => ((laws_eqBoolS.f k t375 t390).bind fun t393 => (if t393 = true then ((laws_markFindS.f k t369 1).bind fun bt394 => ((laws_markClaimS.f k t372 bt394.1).bind fun bt396 => ((laws_markBoolS.f k t375 bt396.1).bind fun bt398 => (if bt398.1 < 0 then (laws_FnExactTasksFor.j0 k l0 l1 l2 a3 t366 t378 true) else ((laws_eqTaskS.f k t378 t366).bind fun t400 => (laws_FnExactTasksFor.j0 k l0 l1 l2 a3 t366 t378 (!t400))))))) else (some false)))) else (some false)))) else (some false)))) else (some false)))))))) = some true := H
    have A12 := Aside0.mk A120
    clear A120
    replace H := Option.bind_eq_some_iff.mp H
    obtain ⟨t366, A130, H⟩ := H
    replace H : ((laws_toFindS.f k l0).bind fun t369 => ((laws_toClaimS.f k l1).bind fun t372 => ((laws_toBoolS.f k l2).bind fun t375 => ((impl_TasksFor.f k t369 t372 t375 a3).bind fun t378 => ((laws_eqTaskS.f k t378 t366).bind fun t381 => (if t381 = true then ((laws_toFindS.f k l0).bind fun t382 => ((laws_eqFindS.f k t369 t382).bind fun t385 => (if t385 = true then ((laws_toClaimS.f k l1).bind fun t386 => ((laws_eqClaimS.f k t372 t386).bind fun t389 => (if t389 = true then ((laws_toBoolS.f k l2).bind fun t390 => ((laws_eqBoolS.f k t375 t390).bind fun t393 => (if t393 = true then ((laws_markFindS.f k t369 1).bind fun bt394 => ((laws_markClaimS.f k t372 bt394.1).bind fun bt396 => ((laws_markBoolS.f k t375 bt396.1).bind fun bt398 => (if bt398.1 < 0 then (laws_FnExactTasksFor.j0 k l0 l1 l2 a3 t366 t378 true) else ((laws_eqTaskS.f k t378 t366).bind fun t400 => (laws_FnExactTasksFor.j0 k l0 l1 l2 a3 t366 t378 (!t400))))))) else (some false)))) else (some false)))) else (some false)))) else (some false))))))) = some true := H
    have A13 := Aside0.mk A130
    clear A130
    replace H := Option.bind_eq_some_iff.mp H
    obtain ⟨t369, A140, H⟩ := H
    replace H : ((laws_toClaimS.f k l1).bind fun t372 => ((laws_toBoolS.f k l2).bind fun t375 => ((impl_TasksFor.f k t369 t372 t375 a3).bind fun t378 => ((laws_eqTaskS.f k t378 t366).bind fun t381 => (if t381 = true then ((laws_toFindS.f k l0).bind fun t382 => ((laws_eqFindS.f k t369 t382).bind fun t385 => (if t385 = true then ((laws_toClaimS.f k l1).bind fun t386 => ((laws_eqClaimS.f k t372 t386).bind fun t389 => (if t389 = true then ((laws_toBoolS.f k l2).bind fun t390 => ((laws_eqBoolS.f k t375 t390).bind fun t393 => (if t393 = true then ((laws_markFindS.f k t369 1).bind fun bt394 => ((laws_markClaimS.f k t372 bt394.1).bind fun bt396 => ((laws_markBoolS.f k t375 bt396.1).bind fun bt398 => (if bt398.1 < 0 then (laws_FnExactTasksFor.j0 k l0 l1 l2 a3 t366 t378 true) else ((laws_eqTaskS.f k t378 t366).bind fun t400 => (laws_FnExactTasksFor.j0 k l0 l1 l2 a3 t366 t378 (!t400))))))) else (some false)))) else (some false)))) else (some false)))) else (some false)))))) = some true := H
    have A14 := Aside0.mk A140
    clear A140
    replace H := Option.bind_eq_some_iff.mp H
    obtain ⟨t372, A150, H⟩ := H
    replace H : ((laws_toBoolS.f k l2).bind fun t375 => ((impl_TasksFor.f k t369 t372 t375 a3).bind fun t378 => ((laws_eqTaskS.f k t378 t366).bind fun t381 => (if t381 = true then ((laws_toFindS.f k l0).bind fun t382 => ((laws_eqFindS.f k t369 t382).bind fun t385 => (if t385 = true then ((laws_toClaimS.f k l1).bind fun t386 => ((laws_eqClaimS.f k t372 t386).bind fun t389 => (if t389 = true then ((laws_toBoolS.f k l2).bind fun t390 => ((laws_eqBoolS.f k t375 t390).bind fun t393 => (if t393 = true then ((laws_markFindS.f k t369 1).bind fun bt394 => ((laws_markClaimS.f k t372 bt394.1).bind fun bt396 => ((laws_markBoolS.f k t375 bt396.1).bind fun bt398 => (if bt398.1 < 0 then (laws_FnExactTasksFor.j0 k l0 l1 l2 a3 t366 t378 true) else ((laws_eqTaskS.f k t378 t366).bind fun t400 => (laws_FnExactTasksFor.j0 k l0 l1 l2 a3 t366 t378 (!t400))))))) else (some false)))) else (some false)))) else (some false)))) else (some false))))) = some true := H
    have A15 := Aside0.mk A150
    clear A150
    replace H := Option.bind_eq_some_iff.mp H
    obtain ⟨t375, A160, H⟩ := H
    replace H : ((impl_TasksFor.f k t369 t372 t375 a3).bind fun t378 => ((laws_eqTaskS.f k t378 t366).bind fun t381 => (if t381 = true then ((laws_toFindS.f k l0).bind fun t382 => ((laws_eqFindS.f k t369 t382).bind fun t385 => (if t385 = true then ((laws_toClaimS.f k l1).bind fun t386 => ((laws_eqClaimS.f k t372 t386).bind fun t389 => (if t389 = true then ((laws_toBoolS.f k l2).bind fun t390 => ((laws_eqBoolS.f k t375 t390).bind fun t393 => (if t393 = true then ((laws_markFindS.f k t369 1).bind fun bt394 => ((laws_markClaimS.f k t372 bt394.1).bind fun bt396 => ((laws_markBoolS.f k t375 bt396.1).bind fun bt398 => (if bt398.1 < 0 then (laws_FnExactTasksFor.j0 k l0 l1 l2 a3 t366 t378 true) else ((laws_eqTaskS.f k t378 t366).bind fun t400 => (laws_FnExactTasksFor.j0 k l0 l1 l2 a3 t366 t378 (!t400))))))) else (some false)))) else (some false)))) else (some false)))) else (some false)))) = some true := H
    have A16 := Aside0.mk A160
    clear A160
    replace H := Option.bind_eq_some_iff.mp H
    obtain ⟨t378, A170, H⟩ := H
    replace H : ((laws_eqTaskS.f k t378 t366).bind fun t381 => (if t381 = true then ((laws_toFindS.f k l0).bind fun t382 => ((laws_eqFindS.f k t369 t382).bind fun t385 => (if t385 = true then ((laws_toClaimS.f k l1).bind fun t386 => ((laws_eqClaimS.f k t372 t386).bind fun t389 => (if t389 = true then ((laws_toBoolS.f k l2).bind fun t390 => ((laws_eqBoolS.f k t375 t390).bind fun t393 => (if t393 = true then ((laws_markFindS.f k t369 1).bind fun bt394 => ((laws_markClaimS.f k t372 bt394.1).bind fun bt396 => ((laws_markBoolS.f k t375 bt396.1).bind fun bt398 => (if bt398.1 < 0 then (laws_FnExactTasksFor.j0 k l0 l1 l2 a3 t366 t378 true) else ((laws_eqTaskS.f k t378 t366).bind fun t400 => (laws_FnExactTasksFor.j0 k l0 l1 l2 a3 t366 t378 (!t400))))))) else (some false)))) else (some false)))) else (some false)))) else (some false))) = some true := H
    have A17 := Aside0.mk A170
    clear A170
    replace H := Option.bind_eq_some_iff.mp H
    obtain ⟨t381, A180, H⟩ := H
    replace H : (if t381 = true then ((laws_toFindS.f k l0).bind fun t382 => ((laws_eqFindS.f k t369 t382).bind fun t385 => (if t385 = true then ((laws_toClaimS.f k l1).bind fun t386 => ((laws_eqClaimS.f k t372 t386).bind fun t389 => (if t389 = true then ((laws_toBoolS.f k l2).bind fun t390 => ((laws_eqBoolS.f k t375 t390).bind fun t393 => (if t393 = true then ((laws_markFindS.f k t369 1).bind fun bt394 => ((laws_markClaimS.f k t372 bt394.1).bind fun bt396 => ((laws_markBoolS.f k t375 bt396.1).bind fun bt398 => (if bt398.1 < 0 then (laws_FnExactTasksFor.j0 k l0 l1 l2 a3 t366 t378 true) else ((laws_eqTaskS.f k t378 t366).bind fun t400 => (laws_FnExactTasksFor.j0 k l0 l1 l2 a3 t366 t378 (!t400))))))) else (some false)))) else (some false)))) else (some false)))) else (some false)) = some true := H
    have A18 := Aside0.mk A180
    clear A180
    by_cases c19 : t381 = true
    ·
     subst c19
     have H1 : ((laws_toFindS.f k l0).bind fun t382 => ((laws_eqFindS.f k t369 t382).bind fun t385 => (if t385 = true then ((laws_toClaimS.f k l1).bind fun t386 => ((laws_eqClaimS.f k t372 t386).bind fun t389 => (if t389 = true then ((laws_toBoolS.f k l2).bind fun t390 => ((laws_eqBoolS.f k t375 t390).bind fun t393 => (if t393 = true then ((laws_markFindS.f k t369 1).bind fun bt394 => ((laws_markClaimS.f k t372 bt394.1).bind fun bt396 => ((laws_markBoolS.f k t375 bt396.1).bind fun bt398 => (if bt398.1 < 0 then (laws_FnExactTasksFor.j0 k l0 l1 l2 a3 t366 t378 true) else ((laws_eqTaskS.f k t378 t366).bind fun t400 => (laws_FnExactTasksFor.j0 k l0 l1 l2 a3 t366 t378 (!t400))))))) else (some false)))) else (some false)))) else (some false)))) = some true := by rw [if_pos rfl] at H; exact H
     clear H
     have H := H1
     clear H1
     replace H := Option.bind_eq_some_iff.mp H
     obtain ⟨t382, A200, H⟩ := H
     replace H : ((laws_eqFindS.f k t369 t382).bind fun t385 => (if t385 = true then ((laws_toClaimS.f k l1).bind fun t386 => ((laws_eqClaimS.f k t372 t386).bind fun t389 => (if t389 = true then ((laws_toBoolS.f k l2).bind fun t390 => ((laws_eqBoolS.f k t375 t390).bind fun t393 => (if t393 = true then ((laws_markFindS.f k t369 1).bind fun bt394 => ((laws_markClaimS.f k t372 bt394.1).bind fun bt396 => ((laws_markBoolS.f k t375 bt396.1).bind fun bt398 => (if bt398.1 < 0 then (laws_FnExactTasksFor.j0 k l0 l1 l2 a3 t366 t378 true) else ((laws_eqTaskS.f k t378 t366).bind fun t400 => (laws_FnExactTasksFor.j0 k l0 l1 l2 a3 t366 t378 (!t400))))))) else (some false)))) else (some false)))) else (some false))) = some true := H
     have A20 := Aside0.mk A200
     clear A200
     replace H := Option.bind_eq_some_iff.mp H
     obtain ⟨t385, A210, H⟩ := H
     replace H : (if t385 = true then ((laws_toClaimS.f k l1).bind fun t386 => ((laws_eqClaimS.f k t372 t386).bind fun t389 => (if t389 = true then ((laws_toBoolS.f k l2).bind fun t390 => ((laws_eqBoolS.f k t375 t390).bind fun t393 => (if t393 = true then ((laws_markFindS.f k t369 1).bind fun bt394 => ((laws_markClaimS.f k t372 bt394.1).bind fun bt396 => ((laws_markBoolS.f k t375 bt396.1).bind fun bt398 => (if bt398.1 < 0 then (laws_FnExactTasksFor.j0 k l0 l1 l2 a3 t366 t378 true) else ((laws_eqTaskS.f k t378 t366).bind fun t400 => (laws_FnExactTasksFor.j0 k l0 l1 l2 a3 t366 t378 (!t400))))))) else (some false)))) else (some false)))) else (some false)) = some true := H
     have A21 := Aside0.mk A210
     clear A210
     by_cases c22 : t385 = true
     ·
      subst c22
      have H1 : ((laws_toClaimS.f k l1).bind fun t386 => ((laws_eqClaimS.f k t372 t386).bind fun t389 => (if t389 = true then ((laws_toBoolS.f k l2).bind fun t390 => ((laws_eqBoolS.f k t375 t390).bind fun t393 => (if t393 = true then ((laws_markFindS.f k t369 1).bind fun bt394 => ((laws_markClaimS.f k t372 bt394.1).bind fun bt396 => ((laws_markBoolS.f k t375 bt396.1).bind fun bt398 => (if bt398.1 < 0 then (laws_FnExactTasksFor.j0 k l0 l1 l2 a3 t366 t378 true) else ((laws_eqTaskS.f k t378 t366).bind fun t400 => (laws_FnExactTasksFor.j0 k l0 l1 l2 a3 t366 t378 (!t400))))))) else (some false)))) else (some false)))) = some true := by rw [if_pos rfl] at H; exact H
      clear H
      have H := H1
      clear H1
      replace H := Option.bind_eq_some_iff.mp H
      obtain ⟨t386, A230, H⟩ := H
      replace H : ((laws_eqClaimS.f k t372 t386).bind fun t389 => (if t389 = true then ((laws_toBoolS.f k l2).bind fun t390 => ((laws_eqBoolS.f k t375 t390).bind fun t393 => (if t393 = true then ((laws_markFindS.f k t369 1).bind fun bt394 => ((laws_markClaimS.f k t372 bt394.1).bind fun bt396 => ((laws_markBoolS.f k t375 bt396.1).bind fun bt398 => (if bt398.1 < 0 then (laws_FnExactTasksFor.j0 k l0 l1 l2 a3 t366 t378 true) else ((laws_eqTaskS.f k t378 t366).bind fun t400 => (laws_FnExactTasksFor.j0 k l0 l1 l2 a3 t366 t378 (!t400))))))) else (some false)))) else (some false))) = some true := H
      have A23 := Aside0.mk A230
      clear A230
      replace H := Option.bind_eq_some_iff.mp H
      obtain ⟨t389, A240, H⟩ := H
      replace H : (if t389 = true then ((laws_toBoolS.f k l2).bind fun t390 => ((laws_eqBoolS.f k t375 t390).bind fun t393 => (if t393 = true then ((laws_markFindS.f k t369 1).bind fun bt394 => ((laws_markClaimS.f k t372 bt394.1).bind fun bt396 => ((laws_markBoolS.f k t375 bt396.1).bind fun bt398 => (if bt398.1 < 0 then (laws_FnExactTasksFor.j0 k l0 l1 l2 a3 t366 t378 true) else ((laws_eqTaskS.f k t378 t366).bind fun t400 => (laws_FnExactTasksFor.j0 k l0 l1 l2 a3 t366 t378 (!t400))))))) else (some false)))) else (some false)) = some true := H
      have A24 := Aside0.mk A240
      clear A240
      by_cases c25 : t389 = true
      ·
       subst c25
       have H1 : ((laws_toBoolS.f k l2).bind fun t390 => ((laws_eqBoolS.f k t375 t390).bind fun t393 => (if t393 = true then ((laws_markFindS.f k t369 1).bind fun bt394 => ((laws_markClaimS.f k t372 bt394.1).bind fun bt396 => ((laws_markBoolS.f k t375 bt396.1).bind fun bt398 => (if bt398.1 < 0 then (laws_FnExactTasksFor.j0 k l0 l1 l2 a3 t366 t378 true) else ((laws_eqTaskS.f k t378 t366).bind fun t400 => (laws_FnExactTasksFor.j0 k l0 l1 l2 a3 t366 t378 (!t400))))))) else (some false)))) = some true := by rw [if_pos rfl] at H; exact H
       clear H
       have H := H1
       clear H1
       replace H := Option.bind_eq_some_iff.mp H
       obtain ⟨t390, A260, H⟩ := H
       replace H : ((laws_eqBoolS.f k t375 t390).bind fun t393 => (if t393 = true then ((laws_markFindS.f k t369 1).bind fun bt394 => ((laws_markClaimS.f k t372 bt394.1).bind fun bt396 => ((laws_markBoolS.f k t375 bt396.1).bind fun bt398 => (if bt398.1 < 0 then (laws_FnExactTasksFor.j0 k l0 l1 l2 a3 t366 t378 true) else ((laws_eqTaskS.f k t378 t366).bind fun t400 => (laws_FnExactTasksFor.j0 k l0 l1 l2 a3 t366 t378 (!t400))))))) else (some false))) = some true := H
       have A26 := Aside0.mk A260
       clear A260
       replace H := Option.bind_eq_some_iff.mp H
       obtain ⟨t393, A270, H⟩ := H
       replace H : (if t393 = true then ((laws_markFindS.f k t369 1).bind fun bt394 => ((laws_markClaimS.f k t372 bt394.1).bind fun bt396 => ((laws_markBoolS.f k t375 bt396.1).bind fun bt398 => (if bt398.1 < 0 then (laws_FnExactTasksFor.j0 k l0 l1 l2 a3 t366 t378 true) else ((laws_eqTaskS.f k t378 t366).bind fun t400 => (laws_FnExactTasksFor.j0 k l0 l1 l2 a3 t366 t378 (!t400))))))) else (some false)) = some true := H
       have A27 := Aside0.mk A270
       clear A270
       by_cases c28 : t393 = true
       ·
        subst c28
        have H1 : ((laws_markFindS.f k t369 1).bind fun bt394 => ((laws_markClaimS.f k t372 bt394.1).bind fun bt396 => ((laws_markBoolS.f k t375 bt396.1).bind fun bt398 => (if bt398.1 < 0 then (laws_FnExactTasksFor.j0 k l0 l1 l2 a3 t366 t378 true) else ((laws_eqTaskS.f k t378 t366).bind fun t400 => (laws_FnExactTasksFor.j0 k l0 l1 l2 a3 t366 t378 (!t400))))))) = some true := by rw [if_pos rfl] at H; exact H
        clear H
        have H := H1
        clear H1
        replace H := Option.bind_eq_some_iff.mp H
        obtain ⟨⟨t394, t395⟩, A290, H⟩ := H
        replace H : ((laws_markClaimS.f k t372 t394).bind fun bt396 => ((laws_markBoolS.f k t375 bt396.1).bind fun bt398 => (if bt398.1 < 0 then (laws_FnExactTasksFor.j0 k l0 l1 l2 a3 t366 t378 true) else ((laws_eqTaskS.f k t378 t366).bind fun t400 => (laws_FnExactTasksFor.j0 k l0 l1 l2 a3 t366 t378 (!t400)))))) = some true := H
        have A29 := Aside0.mk A290
        clear A290
        replace H := Option.bind_eq_some_iff.mp H
        obtain ⟨⟨t396, t397⟩, A300, H⟩ := H
        replace H : ((laws_markBoolS.f k t375 t396).bind fun bt398 => (if bt398.1 < 0 then (laws_FnExactTasksFor.j0 k l0 l1 l2 a3 t366 t378 true) else ((laws_eqTaskS.f k t378 t366).bind fun t400 => (laws_FnExactTasksFor.j0 k l0 l1 l2 a3 t366 t378 (!t400))))) = some true := H
        have A30 := Aside0.mk A300
        clear A300
        replace H := Option.bind_eq_some_iff.mp H
        obtain ⟨⟨t398, t399⟩, A310, H⟩ := H
        replace H : (if t398 < 0 then (laws_FnExactTasksFor.j0 k l0 l1 l2 a3 t366 t378 true) else ((laws_eqTaskS.f k t378 t366).bind fun t400 => (laws_FnExactTasksFor.j0 k l0 l1 l2 a3 t366 t378 (!t400)))) = some true := H
        have A31 := Aside0.mk A310
        clear A310
        have HC32 := Aside0.mk H
        clear H
        go_enter Try.func4, Try.ntmps4
        go_upto_region 27 with (first | ((with_reducible refine gate_callee (f := 12) rfl ?_); refine goesL_ (some 24) rfl rfl Try.func12 (by kernel_rfl) rfl #[.slice A0 l0.length c0, .int .i64 1048576] rfl ma_ ?_; (with_reducible refine (laws_szFindS.calls _ _ l0 1048576 t355 _ ?side1 ?side2 A6.out).mono ?_); (case side1 => exact cd_ HR0.out); (case side2 => exact HC0.out); rintro e w' ⟨rfl, ⟨nd, rfl⟩⟩; refine ⟨_, rfl, ?_⟩) | ((with_reducible refine gate_callee (f := 13) rfl ?_); refine goesL_ (some 29) rfl rfl Try.func13 (by kernel_rfl) rfl #[.slice A1 l1.length c1, .int .i64 t355] rfl ma_ ?_; (with_reducible refine (laws_szClaimS.calls _ _ l1 t355 t356 _ ?side1 ?side2 A8.out).mono ?_); (case side1 => exact cd_ HR1.out); (case side2 => exact HC1.out); rintro e w' ⟨rfl, ⟨nd, rfl⟩⟩; refine ⟨_, rfl, ?_⟩) | ((with_reducible refine gate_callee (f := 15) rfl ?_); refine goesL_ (some 33) rfl rfl Try.func15 (by kernel_rfl) rfl #[.slice A0 l0.length c0] rfl ma_ ?_; (with_reducible refine (laws_toFindS.calls k _ _ l0 t357 _ ?side1 ?side2 A10.out).mono ?_); (case side1 => exact cd_ HR0.out); (case side2 => exact HC0.out); rintro e w33 ⟨v358, rfl, ho0, hb⟩; refine ⟨_, rfl, ?_⟩; have HO359 := Aside0.mk (Kd.R_lower ho0 (below_size (hd_ HB.out))); have n1_ := Aside0.mk (below_step (hd_ HB.out) hb); clear HB; have HB := n1_; clear n1_; (try clear hb); (try clear ho0)) | ((with_reducible refine gate_callee (f := 16) rfl ?_); refine goesL_ (some 35) rfl rfl Try.func16 (by kernel_rfl) rfl #[.slice A1 l1.length c1] rfl ma_ ?_; (with_reducible refine (laws_toClaimS.calls k _ _ l1 t360 _ ?side1 ?side2 A11.out).mono ?_); (case side1 => exact cd_ (Kd.C_below HR1.out HB.out)); (case side2 => exact HC1.out); rintro e w34 ⟨v361, rfl, ho0, hb⟩; refine ⟨_, rfl, ?_⟩; have n0_ := Aside0.mk (Kd.R_below (rd_ HO359.out) hb); have HO362 := Aside0.mk (Kd.R_lower ho0 (below_size (hd_ HB.out))); have n2_ := Aside0.mk (below_step (hd_ HB.out) hb); clear HO359; clear HB; have HO359 := n0_; have HB := n2_; clear n0_ n2_; (try clear hb); (try clear ho0)) | ((with_reducible refine gate_callee (f := 17) rfl ?_); refine goesL_ (some 37) rfl rfl Try.func17 (by kernel_rfl) rfl #[.slice A2 l2.length c2] rfl ma_ ?_; (with_reducible refine (laws_toBoolS.calls k _ _ l2 t363 _ ?side1 ?side2 A12.out).mono ?_); (case side1 => exact cd_ (Kd.C_below HR2.out HB.out)); (case side2 => exact HC2.out); rintro e w35 ⟨v364, rfl, ho0, hb⟩; refine ⟨_, rfl, ?_⟩; have n0_ := Aside0.mk (Kd.R_below (rd_ HO359.out) hb); have n1_ := Aside0.mk (Kd.R_below (rd_ HO362.out) hb); have HO365 := Aside0.mk (Kd.R_lower ho0 (below_size (hd_ HB.out))); have n3_ := Aside0.mk (below_step (hd_ HB.out) hb); clear HO359; clear HO362; clear HB; have HO359 := n0_; have HO362 := n1_; have HB := n3_; clear n0_ n1_ n3_; (try clear hb); (try clear ho0); obtain ⟨Ao36, co36, eo36⟩ := Kd.R_slice HO359.out; subst eo36; obtain ⟨Ao37, co37, eo37⟩ := Kd.R_slice HO362.out; subst eo37; obtain ⟨Ao38, co38, eo38⟩ := Kd.R_slice HO365.out; subst eo38) | ((with_reducible refine gate_callee (f := 14) rfl ?_); refine goesL_ (some 39) rfl rfl Try.func14 (by kernel_rfl) rfl #[.slice Ao36 t357.length co36, .slice Ao37 t360.length co37, .slice Ao38 t363.length co38, .int .i64 a3] rfl ma_ ?_; (with_reducible refine (spec_TasksFor.calls k _ _ t357 _ _ t360 _ _ t363 a3 t366 _ ?side1 ?side2 ?side3 ?side4 ?side5 ?side6 A13.out).mono ?_); (case side1 => exact cd_ (Kd.R_reads' HO359.out).2.2); (case side2 => exact (Kd.R_reads' HO359.out).2.1); (case side3 => exact cd_ (Kd.R_reads' HO362.out).2.2); (case side4 => exact (Kd.R_reads' HO362.out).2.1); (case side5 => exact cd_ (Kd.R_reads' HO365.out).2.2); (case side6 => exact (Kd.R_reads' HO365.out).2.1); rintro e w39 ⟨v367, rfl, ho0, hb⟩; refine ⟨_, rfl, ?_⟩; have n0_ := Aside0.mk (Kd.R_below (rd_ HO359.out) hb); have n1_ := Aside0.mk (Kd.R_below (rd_ HO362.out) hb); have n2_ := Aside0.mk (Kd.R_below (rd_ HO365.out) hb); have HO368 := Aside0.mk (Kd.R_lower ho0 (below_size (hd_ HB.out))); have n4_ := Aside0.mk (below_step (hd_ HB.out) hb); clear HO359; clear HO362; clear HO365; clear HB; have HO359 := n0_; have HO362 := n1_; have HO365 := n2_; have HB := n4_; clear n0_ n1_ n2_ n4_; (try clear hb); (try clear ho0)) | ((with_reducible refine gate_callee (f := 15) rfl ?_); refine goesL_ (some 41) rfl rfl Try.func15 (by kernel_rfl) rfl #[.slice A0 l0.length c0] rfl ma_ ?_; (with_reducible refine (laws_toFindS.calls k _ _ l0 t369 _ ?side1 ?side2 A14.out).mono ?_); (case side1 => exact cd_ (Kd.C_below HR0.out HB.out)); (case side2 => exact HC0.out); rintro e w40 ⟨v370, rfl, ho0, hb⟩; refine ⟨_, rfl, ?_⟩; have n0_ := Aside0.mk (Kd.R_elder' (rd_ HO359.out) (Kd.R_base ho0) hb); have n1_ := Aside0.mk (Kd.R_below (rd_ HO362.out) hb); have n2_ := Aside0.mk (Kd.R_below (rd_ HO365.out) hb); have n3_ := Aside0.mk (Kd.R_below (rd_ HO368.out) hb); have HO371 := Aside0.mk (Kd.R_lower (Kd.R_new' ho0 (Kd.R_lt (rd_ HO359.out))) (below_size (hd_ HB.out))); have n5_ := Aside0.mk (below_step (hd_ HB.out) hb); clear HO359; clear HO362; clear HO365; clear HO368; clear HB; have HO359 := n0_; have HO362 := n1_; have HO365 := n2_; have HO368 := n3_; have HB := n5_; clear n0_ n1_ n2_ n3_ n5_; (try clear hb); (try clear ho0)) | ((with_reducible refine gate_callee (f := 16) rfl ?_); refine goesL_ (some 43) rfl rfl Try.func16 (by kernel_rfl) rfl #[.slice A1 l1.length c1] rfl ma_ ?_; (with_reducible refine (laws_toClaimS.calls k _ _ l1 t372 _ ?side1 ?side2 A15.out).mono ?_); (case side1 => exact cd_ (Kd.C_below HR1.out HB.out)); (case side2 => exact HC1.out); rintro e w41 ⟨v373, rfl, ho0, hb⟩; refine ⟨_, rfl, ?_⟩; have n0_ := Aside0.mk (Kd.R_below (rd_ HO359.out) hb); have n1_ := Aside0.mk (Kd.R_elder' (rd_ HO362.out) (Kd.R_base ho0) hb); have n2_ := Aside0.mk (Kd.R_below (rd_ HO365.out) hb); have n3_ := Aside0.mk (Kd.R_below (rd_ HO368.out) hb); have n4_ := Aside0.mk (Kd.R_below (rd_ HO371.out) hb); have HO374 := Aside0.mk (Kd.R_lower (Kd.R_new' ho0 (Kd.R_lt (rd_ HO362.out))) (below_size (hd_ HB.out))); have n6_ := Aside0.mk (below_step (hd_ HB.out) hb); clear HO359; clear HO362; clear HO365; clear HO368; clear HO371; clear HB; have HO359 := n0_; have HO362 := n1_; have HO365 := n2_; have HO368 := n3_; have HO371 := n4_; have HB := n6_; clear n0_ n1_ n2_ n3_ n4_ n6_; (try clear hb); (try clear ho0)) | ((with_reducible refine gate_callee (f := 17) rfl ?_); refine goesL_ (some 45) rfl rfl Try.func17 (by kernel_rfl) rfl #[.slice A2 l2.length c2] rfl ma_ ?_; (with_reducible refine (laws_toBoolS.calls k _ _ l2 t375 _ ?side1 ?side2 A16.out).mono ?_); (case side1 => exact cd_ (Kd.C_below HR2.out HB.out)); (case side2 => exact HC2.out); rintro e w42 ⟨v376, rfl, ho0, hb⟩; refine ⟨_, rfl, ?_⟩; have n0_ := Aside0.mk (Kd.R_below (rd_ HO359.out) hb); have n1_ := Aside0.mk (Kd.R_below (rd_ HO362.out) hb); have n2_ := Aside0.mk (Kd.R_elder' (rd_ HO365.out) (Kd.R_base ho0) hb); have n3_ := Aside0.mk (Kd.R_below (rd_ HO368.out) hb); have n4_ := Aside0.mk (Kd.R_below (rd_ HO371.out) hb); have n5_ := Aside0.mk (Kd.R_below (rd_ HO374.out) hb); have HO377 := Aside0.mk (Kd.R_lower (Kd.R_new' ho0 (Kd.R_lt (rd_ HO365.out))) (below_size (hd_ HB.out))); have n7_ := Aside0.mk (below_step (hd_ HB.out) hb); clear HO359; clear HO362; clear HO365; clear HO368; clear HO371; clear HO374; clear HB; have HO359 := n0_; have HO362 := n1_; have HO365 := n2_; have HO368 := n3_; have HO371 := n4_; have HO374 := n5_; have HB := n7_; clear n0_ n1_ n2_ n3_ n4_ n5_ n7_; (try clear hb); (try clear ho0); obtain ⟨Ao43, co43, eo43⟩ := Kd.R_slice HO371.out; subst eo43; obtain ⟨Ao44, co44, eo44⟩ := Kd.R_slice HO374.out; subst eo44; obtain ⟨Ao45, co45, eo45⟩ := Kd.R_slice HO377.out; subst eo45) | ((with_reducible refine gate_callee (f := 18) rfl ?_); refine goesL_ (some 50) rfl rfl Try.func18 (by kernel_rfl) rfl #[.slice Ao43 t369.length co43, .slice Ao44 t372.length co44, .slice Ao45 t375.length co45, .int .i64 a3] rfl ma_ ?_; (with_reducible refine (impl_TasksFor.calls k _ _ t369 _ _ t372 _ _ t375 a3 t378 _ ?side1 ?side2 ?side3 ?side4 ?side5 ?side6 A17.out).mono ?_); (case side1 => exact cd_ (Kd.R_reads' HO371.out).2.2); (case side2 => exact (Kd.R_reads' HO371.out).2.1); (case side3 => exact cd_ (Kd.R_reads' HO374.out).2.2); (case side4 => exact (Kd.R_reads' HO374.out).2.1); (case side5 => exact cd_ (Kd.R_reads' HO377.out).2.2); (case side6 => exact (Kd.R_reads' HO377.out).2.1); rintro e w46 ⟨v379, rfl, ho0, hb⟩; refine ⟨_, rfl, ?_⟩; have n0_ := Aside0.mk (Kd.R_below (rd_ HO359.out) hb); have n1_ := Aside0.mk (Kd.R_below (rd_ HO362.out) hb); have n2_ := Aside0.mk (Kd.R_below (rd_ HO365.out) hb); have n3_ := Aside0.mk (Kd.R_elder' (rd_ HO368.out) (Kd.R_base ho0) hb); have n4_ := Aside0.mk (Kd.R_below (rd_ HO371.out) hb); have n5_ := Aside0.mk (Kd.R_below (rd_ HO374.out) hb); have n6_ := Aside0.mk (Kd.R_below (rd_ HO377.out) hb); have HO380 := Aside0.mk (Kd.R_lower (Kd.R_new' ho0 (Kd.R_lt (rd_ HO368.out))) (below_size (hd_ HB.out))); have n8_ := Aside0.mk (below_step (hd_ HB.out) hb); clear HO359; clear HO362; clear HO365; clear HO368; clear HO371; clear HO374; clear HO377; clear HB; have HO359 := n0_; have HO362 := n1_; have HO365 := n2_; have HO368 := n3_; have HO371 := n4_; have HO374 := n5_; have HO377 := n6_; have HB := n8_; clear n0_ n1_ n2_ n3_ n4_ n5_ n6_ n8_; (try clear hb); (try clear ho0); obtain ⟨Ao47, co47, eo47⟩ := Kd.R_slice HO380.out; subst eo47; obtain ⟨Ao48, co48, eo48⟩ := Kd.R_slice HO368.out; subst eo48) | ((with_reducible refine gate_callee (f := 11) rfl ?_); refine goesL_ (some 53) rfl rfl Try.func11 (by kernel_rfl) rfl #[.slice Ao47 t378.length co47, .slice Ao48 t366.length co48] rfl ma_ ?_; (with_reducible refine (laws_eqTaskS.calls k _ _ t378 _ _ t366 true _ ?side1 ?side2 ?side3 ?side4 A18.out).mono ?_); (case side1 => exact cd_ (Kd.R_reads' HO380.out).2.2); (case side2 => exact (Kd.R_reads' HO380.out).2.1); (case side3 => exact cd_ (Kd.R_reads' HO368.out).2.2); (case side4 => exact (Kd.R_reads' HO368.out).2.1); rintro e w49 ⟨rfl, hb⟩; refine ⟨_, rfl, ?_⟩; have n0_ := Aside0.mk (Kd.R_below (rd_ HO359.out) hb); have n1_ := Aside0.mk (Kd.R_below (rd_ HO362.out) hb); have n2_ := Aside0.mk (Kd.R_below (rd_ HO365.out) hb); have n3_ := Aside0.mk (Kd.R_below (rd_ HO368.out) hb); have n4_ := Aside0.mk (Kd.R_below (rd_ HO371.out) hb); have n5_ := Aside0.mk (Kd.R_below (rd_ HO374.out) hb); have n6_ := Aside0.mk (Kd.R_below (rd_ HO377.out) hb); have n7_ := Aside0.mk (Kd.R_below (rd_ HO380.out) hb); have n8_ := Aside0.mk (below_step (hd_ HB.out) hb); clear HO359; clear HO362; clear HO365; clear HO368; clear HO371; clear HO374; clear HO377; clear HO380; clear HB; have HO359 := n0_; have HO362 := n1_; have HO365 := n2_; have HO368 := n3_; have HO371 := n4_; have HO374 := n5_; have HO377 := n6_; have HO380 := n7_; have HB := n8_; clear n0_ n1_ n2_ n3_ n4_ n5_ n6_ n7_ n8_; (try clear hb)) | ((with_reducible refine gate_callee (f := 15) rfl ?_); refine goesL_ (some 57) rfl rfl Try.func15 (by kernel_rfl) rfl #[.slice A0 l0.length c0] rfl ma_ ?_; (with_reducible refine (laws_toFindS.calls k _ _ l0 t382 _ ?side1 ?side2 A20.out).mono ?_); (case side1 => exact cd_ (Kd.C_below HR0.out HB.out)); (case side2 => exact HC0.out); rintro e w50 ⟨v383, rfl, ho0, hb⟩; refine ⟨_, rfl, ?_⟩; have n0_ := Aside0.mk (Kd.R_elder' (rd_ HO359.out) (Kd.R_base ho0) hb); have n1_ := Aside0.mk (Kd.R_below (rd_ HO362.out) hb); have n2_ := Aside0.mk (Kd.R_below (rd_ HO365.out) hb); have n3_ := Aside0.mk (Kd.R_below (rd_ HO368.out) hb); have n4_ := Aside0.mk (Kd.R_elder' (rd_ HO371.out) (Kd.R_base ho0) hb); have n5_ := Aside0.mk (Kd.R_below (rd_ HO374.out) hb); have n6_ := Aside0.mk (Kd.R_below (rd_ HO377.out) hb); have n7_ := Aside0.mk (Kd.R_below (rd_ HO380.out) hb); have HO384 := Aside0.mk (Kd.R_lower (Kd.R_new' (Kd.R_new' ho0 (Kd.R_lt (rd_ HO359.out))) (Kd.R_lt (rd_ HO371.out))) (below_size (hd_ HB.out))); have n9_ := Aside0.mk (below_step (hd_ HB.out) hb); clear HO359; clear HO362; clear HO365; clear HO368; clear HO371; clear HO374; clear HO377; clear HO380; clear HB; have HO359 := n0_; have HO362 := n1_; have HO365 := n2_; have HO368 := n3_; have HO371 := n4_; have HO374 := n5_; have HO377 := n6_; have HO380 := n7_; have HB := n9_; clear n0_ n1_ n2_ n3_ n4_ n5_ n6_ n7_ n9_; (try clear hb); (try clear ho0); obtain ⟨Ao51, co51, eo51⟩ := Kd.R_slice HO384.out; subst eo51) | ((with_reducible refine gate_callee (f := 19) rfl ?_); refine goesL_ (some 58) rfl rfl Try.func19 (by kernel_rfl) rfl #[.slice Ao43 t369.length co43, .slice Ao51 t382.length co51] rfl ma_ ?_; (with_reducible refine (laws_eqFindS.calls k _ _ t369 _ _ t382 true _ ?side1 ?side2 ?side3 ?side4 A21.out).mono ?_); (case side1 => exact cd_ (Kd.R_reads' HO371.out).2.2); (case side2 => exact (Kd.R_reads' HO371.out).2.1); (case side3 => exact cd_ (Kd.R_reads' HO384.out).2.2); (case side4 => exact (Kd.R_reads' HO384.out).2.1); rintro e w52 ⟨rfl, hb⟩; refine ⟨_, rfl, ?_⟩; have n0_ := Aside0.mk (Kd.R_below (rd_ HO359.out) hb); have n1_ := Aside0.mk (Kd.R_below (rd_ HO362.out) hb); have n2_ := Aside0.mk (Kd.R_below (rd_ HO365.out) hb); have n3_ := Aside0.mk (Kd.R_below (rd_ HO368.out) hb); have n4_ := Aside0.mk (Kd.R_below (rd_ HO371.out) hb); have n5_ := Aside0.mk (Kd.R_below (rd_ HO374.out) hb); have n6_ := Aside0.mk (Kd.R_below (rd_ HO377.out) hb); have n7_ := Aside0.mk (Kd.R_below (rd_ HO380.out) hb); have n8_ := Aside0.mk (Kd.R_below (rd_ HO384.out) hb); have n9_ := Aside0.mk (below_step (hd_ HB.out) hb); clear HO359; clear HO362; clear HO365; clear HO368; clear HO371; clear HO374; clear HO377; clear HO380; clear HO384; clear HB; have HO359 := n0_; have HO362 := n1_; have HO365 := n2_; have HO368 := n3_; have HO371 := n4_; have HO374 := n5_; have HO377 := n6_; have HO380 := n7_; have HO384 := n8_; have HB := n9_; clear n0_ n1_ n2_ n3_ n4_ n5_ n6_ n7_ n8_ n9_; (try clear hb)) | ((with_reducible refine gate_callee (f := 16) rfl ?_); refine goesL_ (some 62) rfl rfl Try.func16 (by kernel_rfl) rfl #[.slice A1 l1.length c1] rfl ma_ ?_; (with_reducible refine (laws_toClaimS.calls k _ _ l1 t386 _ ?side1 ?side2 A23.out).mono ?_); (case side1 => exact cd_ (Kd.C_below HR1.out HB.out)); (case side2 => exact HC1.out); rintro e w53 ⟨v387, rfl, ho0, hb⟩; refine ⟨_, rfl, ?_⟩; have n0_ := Aside0.mk (Kd.R_below (rd_ HO359.out) hb); have n1_ := Aside0.mk (Kd.R_elder' (rd_ HO362.out) (Kd.R_base ho0) hb); have n2_ := Aside0.mk (Kd.R_below (rd_ HO365.out) hb); have n3_ := Aside0.mk (Kd.R_below (rd_ HO368.out) hb); have n4_ := Aside0.mk (Kd.R_below (rd_ HO371.out) hb); have n5_ := Aside0.mk (Kd.R_elder' (rd_ HO374.out) (Kd.R_base ho0) hb); have n6_ := Aside0.mk (Kd.R_below (rd_ HO377.out) hb); have n7_ := Aside0.mk (Kd.R_below (rd_ HO380.out) hb); have n8_ := Aside0.mk (Kd.R_below (rd_ HO384.out) hb); have HO388 := Aside0.mk (Kd.R_lower (Kd.R_new' (Kd.R_new' ho0 (Kd.R_lt (rd_ HO362.out))) (Kd.R_lt (rd_ HO374.out))) (below_size (hd_ HB.out))); have n10_ := Aside0.mk (below_step (hd_ HB.out) hb); clear HO359; clear HO362; clear HO365; clear HO368; clear HO371; clear HO374; clear HO377; clear HO380; clear HO384; clear HB; have HO359 := n0_; have HO362 := n1_; have HO365 := n2_; have HO368 := n3_; have HO371 := n4_; have HO374 := n5_; have HO377 := n6_; have HO380 := n7_; have HO384 := n8_; have HB := n10_; clear n0_ n1_ n2_ n3_ n4_ n5_ n6_ n7_ n8_ n10_; (try clear hb); (try clear ho0); obtain ⟨Ao54, co54, eo54⟩ := Kd.R_slice HO388.out; subst eo54) | ((with_reducible refine gate_callee (f := 20) rfl ?_); refine goesL_ (some 63) rfl rfl Try.func20 (by kernel_rfl) rfl #[.slice Ao44 t372.length co44, .slice Ao54 t386.length co54] rfl ma_ ?_; (with_reducible refine (laws_eqClaimS.calls k _ _ t372 _ _ t386 true _ ?side1 ?side2 ?side3 ?side4 A24.out).mono ?_); (case side1 => exact cd_ (Kd.R_reads' HO374.out).2.2); (case side2 => exact (Kd.R_reads' HO374.out).2.1); (case side3 => exact cd_ (Kd.R_reads' HO388.out).2.2); (case side4 => exact (Kd.R_reads' HO388.out).2.1); rintro e w55 ⟨rfl, hb⟩; refine ⟨_, rfl, ?_⟩; have n0_ := Aside0.mk (Kd.R_below (rd_ HO359.out) hb); have n1_ := Aside0.mk (Kd.R_below (rd_ HO362.out) hb); have n2_ := Aside0.mk (Kd.R_below (rd_ HO365.out) hb); have n3_ := Aside0.mk (Kd.R_below (rd_ HO368.out) hb); have n4_ := Aside0.mk (Kd.R_below (rd_ HO371.out) hb); have n5_ := Aside0.mk (Kd.R_below (rd_ HO374.out) hb); have n6_ := Aside0.mk (Kd.R_below (rd_ HO377.out) hb); have n7_ := Aside0.mk (Kd.R_below (rd_ HO380.out) hb); have n8_ := Aside0.mk (Kd.R_below (rd_ HO384.out) hb); have n9_ := Aside0.mk (Kd.R_below (rd_ HO388.out) hb); have n10_ := Aside0.mk (below_step (hd_ HB.out) hb); clear HO359; clear HO362; clear HO365; clear HO368; clear HO371; clear HO374; clear HO377; clear HO380; clear HO384; clear HO388; clear HB; have HO359 := n0_; have HO362 := n1_; have HO365 := n2_; have HO368 := n3_; have HO371 := n4_; have HO374 := n5_; have HO377 := n6_; have HO380 := n7_; have HO384 := n8_; have HO388 := n9_; have HB := n10_; clear n0_ n1_ n2_ n3_ n4_ n5_ n6_ n7_ n8_ n9_ n10_; (try clear hb)) | ((with_reducible refine gate_callee (f := 17) rfl ?_); refine goesL_ (some 67) rfl rfl Try.func17 (by kernel_rfl) rfl #[.slice A2 l2.length c2] rfl ma_ ?_; (with_reducible refine (laws_toBoolS.calls k _ _ l2 t390 _ ?side1 ?side2 A26.out).mono ?_); (case side1 => exact cd_ (Kd.C_below HR2.out HB.out)); (case side2 => exact HC2.out); rintro e w56 ⟨v391, rfl, ho0, hb⟩; refine ⟨_, rfl, ?_⟩; have n0_ := Aside0.mk (Kd.R_below (rd_ HO359.out) hb); have n1_ := Aside0.mk (Kd.R_below (rd_ HO362.out) hb); have n2_ := Aside0.mk (Kd.R_elder' (rd_ HO365.out) (Kd.R_base ho0) hb); have n3_ := Aside0.mk (Kd.R_below (rd_ HO368.out) hb); have n4_ := Aside0.mk (Kd.R_below (rd_ HO371.out) hb); have n5_ := Aside0.mk (Kd.R_below (rd_ HO374.out) hb); have n6_ := Aside0.mk (Kd.R_elder' (rd_ HO377.out) (Kd.R_base ho0) hb); have n7_ := Aside0.mk (Kd.R_below (rd_ HO380.out) hb); have n8_ := Aside0.mk (Kd.R_below (rd_ HO384.out) hb); have n9_ := Aside0.mk (Kd.R_below (rd_ HO388.out) hb); have HO392 := Aside0.mk (Kd.R_lower (Kd.R_new' (Kd.R_new' ho0 (Kd.R_lt (rd_ HO365.out))) (Kd.R_lt (rd_ HO377.out))) (below_size (hd_ HB.out))); have n11_ := Aside0.mk (below_step (hd_ HB.out) hb); clear HO359; clear HO362; clear HO365; clear HO368; clear HO371; clear HO374; clear HO377; clear HO380; clear HO384; clear HO388; clear HB; have HO359 := n0_; have HO362 := n1_; have HO365 := n2_; have HO368 := n3_; have HO371 := n4_; have HO374 := n5_; have HO377 := n6_; have HO380 := n7_; have HO384 := n8_; have HO388 := n9_; have HB := n11_; clear n0_ n1_ n2_ n3_ n4_ n5_ n6_ n7_ n8_ n9_ n11_; (try clear hb); (try clear ho0); obtain ⟨Ao57, co57, eo57⟩ := Kd.R_slice HO392.out; subst eo57) | ((with_reducible refine gate_callee (f := 21) rfl ?_); refine goesL_ (some 68) rfl rfl Try.func21 (by kernel_rfl) rfl #[.slice Ao45 t375.length co45, .slice Ao57 t390.length co57] rfl ma_ ?_; (with_reducible refine (laws_eqBoolS.calls k _ _ t375 _ _ t390 true _ ?side1 ?side2 ?side3 ?side4 A27.out).mono ?_); (case side1 => exact cd_ (Kd.R_reads' HO377.out).2.2); (case side2 => exact (Kd.R_reads' HO377.out).2.1); (case side3 => exact cd_ (Kd.R_reads' HO392.out).2.2); (case side4 => exact (Kd.R_reads' HO392.out).2.1); rintro e w' ⟨rfl, ⟨nd, rfl⟩⟩; refine ⟨_, rfl, ?_⟩) | ((with_reducible refine gate_callee (f := 22) rfl ?_); refine goesL_ (some 72) rfl rfl Try.func22 (by kernel_rfl) rfl #[.slice Ao43 t369.length co43, .int .i64 1] rfl ma_ ?_; (with_reducible refine (laws_markFindS.calls k (fun k_ => some k_ = (.slice Ao43 t369.length co43 : Value).ownBlock) (.slice Ao43 t369.length co43) t369 1 t394 t395 w _ ?side1 ?side2 A29.out).mono ?_); (case side1 => repeat (first | (with_reducible first | exact HB.out | apply below_alloc | apply pw_below_drewN | apply below_drew1) | exact HB.out)); (case side2 => exact Kd.R_tight rfl HO371.out); rintro e w58 ⟨rfl, hy0, hb, hkp⟩; refine ⟨_, rfl, ?_⟩; have n0_ := Aside0.mk (Kd.R_mono (ok' := fun k_ => some k_ ≠ (.slice Ao43 t369.length co43 : Value).ownBlock ∧ some k_ ≠ (.slice Ao51 t382.length co51 : Value).ownBlock) (Kd.R_keptB (HO359.out) hkp (fun k_ hk_ hs_ => (hk_.1.2) hs_)) (fun k_ hk_ => ⟨hk_.1.1.2, hk_.1.2⟩)); have n1_ := Aside0.mk (Kd.R_mono (ok' := fun k_ => some k_ ≠ (.slice Ao44 t372.length co44 : Value).ownBlock ∧ some k_ ≠ (.slice Ao54 t386.length co54 : Value).ownBlock) (Kd.R_keptB ((Kd.R_apart' HO362.out (Kd.R_typed HO371.out) (by decide))) hkp (fun k_ hk_ hs_ => (hk_.2) hs_)) (fun k_ hk_ => ⟨hk_.1.1.1.2, hk_.1.1.2⟩)); have n2_ := Aside0.mk (Kd.R_mono (ok' := fun k_ => some k_ ≠ (.slice Ao45 t375.length co45 : Value).ownBlock ∧ some k_ ≠ (.slice Ao57 t390.length co57 : Value).ownBlock) (Kd.R_keptB ((Kd.R_apart' HO365.out (Kd.R_typed HO371.out) (by decide))) hkp (fun k_ hk_ hs_ => (hk_.2) hs_)) (fun k_ hk_ => ⟨hk_.1.1.1.2, hk_.1.1.2⟩)); have n3_ := Aside0.mk (Kd.R_mono (ok' := fun k_ => some k_ ≠ (.slice Ao47 t378.length co47 : Value).ownBlock) (Kd.R_keptB ((Kd.R_apart' HO368.out (Kd.R_typed HO371.out) (by decide))) hkp (fun k_ hk_ hs_ => (hk_.2) hs_)) (fun k_ hk_ => hk_.1.1.2)); have n4_ := Aside0.mk (Kd.R_reok rfl hy0 (fun k_ e_ => HO371.out.1 k_ e_)); have n5_ := Aside0.mk (Kd.R_mono (ok' := fun k_ => some k_ ≠ (.slice Ao37 t360.length co37 : Value).ownBlock ∧ some k_ ≠ (.slice Ao54 t386.length co54 : Value).ownBlock) (Kd.R_keptB ((Kd.R_apart' HO374.out (Kd.R_typed HO371.out) (by decide))) hkp (fun k_ hk_ hs_ => (hk_.2) hs_)) (fun k_ hk_ => ⟨hk_.1.1.1.2, hk_.1.1.2⟩)); have n6_ := Aside0.mk (Kd.R_mono (ok' := fun k_ => some k_ ≠ (.slice Ao38 t363.length co38 : Value).ownBlock ∧ some k_ ≠ (.slice Ao57 t390.length co57 : Value).ownBlock) (Kd.R_keptB ((Kd.R_apart' HO377.out (Kd.R_typed HO371.out) (by decide))) hkp (fun k_ hk_ hs_ => (hk_.2) hs_)) (fun k_ hk_ => ⟨hk_.1.1.1.2, hk_.1.1.2⟩)); have n7_ := Aside0.mk (Kd.R_mono (ok' := fun k_ => some k_ ≠ (.slice Ao48 t366.length co48 : Value).ownBlock) (Kd.R_keptB ((Kd.R_apart' HO380.out (Kd.R_typed HO371.out) (by decide))) hkp (fun k_ hk_ hs_ => (hk_.2) hs_)) (fun k_ hk_ => hk_.1.1.2)); have n8_ := Aside0.mk (Kd.R_mono (ok' := fun k_ => some k_ ≠ (.slice Ao36 t357.length co36 : Value).ownBlock ∧ some k_ ≠ (.slice Ao43 t369.length co43 : Value).ownBlock) (Kd.R_keptB (HO384.out) hkp (fun k_ hk_ hs_ => (hk_.2) hs_)) (fun k_ hk_ => ⟨hk_.1.1.2, hk_.1.2⟩)); have n9_ := Aside0.mk (Kd.R_mono (ok' := fun k_ => some k_ ≠ (.slice Ao37 t360.length co37 : Value).ownBlock ∧ some k_ ≠ (.slice Ao44 t372.length co44 : Value).ownBlock) (Kd.R_keptB ((Kd.R_apart' HO388.out (Kd.R_typed HO371.out) (by decide))) hkp (fun k_ hk_ hs_ => (hk_.2) hs_)) (fun k_ hk_ => ⟨hk_.1.1.1.2, hk_.1.1.2⟩)); have n10_ := Aside0.mk (Kd.R_mono (ok' := fun k_ => some k_ ≠ (.slice Ao38 t363.length co38 : Value).ownBlock ∧ some k_ ≠ (.slice Ao45 t375.length co45 : Value).ownBlock) (Kd.R_keptB ((Kd.R_apart' HO392.out (Kd.R_typed HO371.out) (by decide))) hkp (fun k_ hk_ hs_ => (hk_.2) hs_)) (fun k_ hk_ => ⟨hk_.1.1.1.2, hk_.1.1.2⟩)); have n11_ := Aside0.mk (hb); clear HO359; clear HO362; clear HO365; clear HO368; clear HO371; clear HO374; clear HO377; clear HO380; clear HO384; clear HO388; clear HO392; clear HB; have HO359 := n0_; have HO362 := n1_; have HO365 := n2_; have HO368 := n3_; have HO371 := n4_; have HO374 := n5_; have HO377 := n6_; have HO380 := n7_; have HO384 := n8_; have HO388 := n9_; have HO392 := n10_; have HB := n11_; clear n0_ n1_ n2_ n3_ n4_ n5_ n6_ n7_ n8_ n9_ n10_ n11_; (try clear hb); (try clear hkp); (try clear hy0)) | ((with_reducible refine gate_callee (f := 23) rfl ?_); refine goesL_ (some 75) rfl rfl Try.func23 (by kernel_rfl) rfl #[.slice Ao44 t372.length co44, .int .i64 t394] rfl ma_ ?_; (with_reducible refine (laws_markClaimS.calls k (fun k_ => some k_ = (.slice Ao44 t372.length co44 : Value).ownBlock) (.slice Ao44 t372.length co44) t372 t394 t396 t397 w _ ?side1 ?side2 A30.out).mono ?_); (case side1 => repeat (first | (with_reducible first | exact HB.out | apply below_alloc | apply pw_below_drewN | apply below_drew1) | exact HB.out)); (case side2 => exact Kd.R_tight rfl HO374.out); rintro e w59 ⟨rfl, hy0, hb, hkp⟩; refine ⟨_, rfl, ?_⟩; have n0_ := Aside0.mk (Kd.R_mono (ok' := fun k_ => some k_ ≠ (.slice Ao43 t369.length co43 : Value).ownBlock ∧ some k_ ≠ (.slice Ao51 t382.length co51 : Value).ownBlock) (Kd.R_keptB ((Kd.R_apart' HO359.out (Kd.R_typed HO374.out) (by decide))) hkp (fun k_ hk_ hs_ => (hk_.2) hs_)) (fun k_ hk_ => ⟨hk_.1.1.1, hk_.1.1.2⟩)); have n1_ := Aside0.mk (Kd.R_mono (ok' := fun k_ => some k_ ≠ (.slice Ao44 t372.length co44 : Value).ownBlock ∧ some k_ ≠ (.slice Ao54 t386.length co54 : Value).ownBlock) (Kd.R_keptB (HO362.out) hkp (fun k_ hk_ hs_ => (hk_.1) hs_)) (fun k_ hk_ => ⟨hk_.1.1, hk_.1.2⟩)); have n2_ := Aside0.mk (Kd.R_mono (ok' := fun k_ => some k_ ≠ (.slice Ao45 t375.length co45 : Value).ownBlock ∧ some k_ ≠ (.slice Ao57 t390.length co57 : Value).ownBlock) (Kd.R_keptB ((Kd.R_apart' HO365.out (Kd.R_typed HO374.out) (by decide))) hkp (fun k_ hk_ hs_ => (hk_.2) hs_)) (fun k_ hk_ => ⟨hk_.1.1.1, hk_.1.1.2⟩)); have n3_ := Aside0.mk (Kd.R_mono (ok' := fun k_ => some k_ ≠ (.slice Ao47 t378.length co47 : Value).ownBlock) (Kd.R_keptB ((Kd.R_apart' HO368.out (Kd.R_typed HO374.out) (by decide))) hkp (fun k_ hk_ hs_ => (hk_.2) hs_)) (fun k_ hk_ => hk_.1.1)); have n4_ := Aside0.mk (Kd.R_mono (ok' := fun k_ => some k_ ≠ (.slice Ao36 t357.length co36 : Value).ownBlock ∧ some k_ ≠ (.slice Ao51 t382.length co51 : Value).ownBlock) (Kd.R_keptB ((Kd.R_apart' HO371.out (Kd.R_typed HO374.out) (by decide))) hkp (fun k_ hk_ hs_ => (hk_.2) hs_)) (fun k_ hk_ => ⟨hk_.1.1.1.2, hk_.1.1.2⟩)); have n5_ := Aside0.mk (Kd.R_reok rfl hy0 (fun k_ e_ => HO374.out.1 k_ e_)); have n6_ := Aside0.mk (Kd.R_mono (ok' := fun k_ => some k_ ≠ (.slice Ao38 t363.length co38 : Value).ownBlock ∧ some k_ ≠ (.slice Ao57 t390.length co57 : Value).ownBlock) (Kd.R_keptB ((Kd.R_apart' HO377.out (Kd.R_typed HO374.out) (by decide))) hkp (fun k_ hk_ hs_ => (hk_.2) hs_)) (fun k_ hk_ => ⟨hk_.1.1.1, hk_.1.1.2⟩)); have n7_ := Aside0.mk (Kd.R_mono (ok' := fun k_ => some k_ ≠ (.slice Ao48 t366.length co48 : Value).ownBlock) (Kd.R_keptB ((Kd.R_apart' HO380.out (Kd.R_typed HO374.out) (by decide))) hkp (fun k_ hk_ hs_ => (hk_.2) hs_)) (fun k_ hk_ => hk_.1.1)); have n8_ := Aside0.mk (Kd.R_mono (ok' := fun k_ => some k_ ≠ (.slice Ao36 t357.length co36 : Value).ownBlock ∧ some k_ ≠ (.slice Ao43 t369.length co43 : Value).ownBlock) (Kd.R_keptB ((Kd.R_apart' HO384.out (Kd.R_typed HO374.out) (by decide))) hkp (fun k_ hk_ hs_ => (hk_.2) hs_)) (fun k_ hk_ => ⟨hk_.1.1.1, hk_.1.1.2⟩)); have n9_ := Aside0.mk (Kd.R_mono (ok' := fun k_ => some k_ ≠ (.slice Ao37 t360.length co37 : Value).ownBlock ∧ some k_ ≠ (.slice Ao44 t372.length co44 : Value).ownBlock) (Kd.R_keptB (HO388.out) hkp (fun k_ hk_ hs_ => (hk_.2) hs_)) (fun k_ hk_ => ⟨hk_.1.1, hk_.1.2⟩)); have n10_ := Aside0.mk (Kd.R_mono (ok' := fun k_ => some k_ ≠ (.slice Ao38 t363.length co38 : Value).ownBlock ∧ some k_ ≠ (.slice Ao45 t375.length co45 : Value).ownBlock) (Kd.R_keptB ((Kd.R_apart' HO392.out (Kd.R_typed HO374.out) (by decide))) hkp (fun k_ hk_ hs_ => (hk_.2) hs_)) (fun k_ hk_ => ⟨hk_.1.1.1, hk_.1.1.2⟩)); have n11_ := Aside0.mk (hb); clear HO359; clear HO362; clear HO365; clear HO368; clear HO371; clear HO374; clear HO377; clear HO380; clear HO384; clear HO388; clear HO392; clear HB; have HO359 := n0_; have HO362 := n1_; have HO365 := n2_; have HO368 := n3_; have HO371 := n4_; have HO374 := n5_; have HO377 := n6_; have HO380 := n7_; have HO384 := n8_; have HO388 := n9_; have HO392 := n10_; have HB := n11_; clear n0_ n1_ n2_ n3_ n4_ n5_ n6_ n7_ n8_ n9_ n10_ n11_; (try clear hb); (try clear hkp); (try clear hy0)) | ((with_reducible refine gate_callee (f := 24) rfl ?_); refine goesL_ (some 78) rfl rfl Try.func24 (by kernel_rfl) rfl #[.slice Ao45 t375.length co45, .int .i64 t396] rfl ma_ ?_; (with_reducible refine (laws_markBoolS.calls k (fun k_ => some k_ = (.slice Ao45 t375.length co45 : Value).ownBlock) (.slice Ao45 t375.length co45) t375 t396 t398 t399 w _ ?side1 ?side2 A31.out).mono ?_); (case side1 => repeat (first | (with_reducible first | exact HB.out | apply below_alloc | apply pw_below_drewN | apply below_drew1) | exact HB.out)); (case side2 => exact Kd.R_tight rfl HO377.out); rintro e w60 ⟨rfl, hy0, hb, hkp⟩; refine ⟨_, rfl, ?_⟩; have n0_ := Aside0.mk (Kd.R_mono (ok' := fun k_ => some k_ ≠ (.slice Ao43 t369.length co43 : Value).ownBlock ∧ some k_ ≠ (.slice Ao51 t382.length co51 : Value).ownBlock) (Kd.R_keptB ((Kd.R_apart' HO359.out (Kd.R_typed HO377.out) (by decide))) hkp (fun k_ hk_ hs_ => (hk_.2) hs_)) (fun k_ hk_ => ⟨hk_.1.1.1, hk_.1.1.2⟩)); have n1_ := Aside0.mk (Kd.R_mono (ok' := fun k_ => some k_ ≠ (.slice Ao44 t372.length co44 : Value).ownBlock ∧ some k_ ≠ (.slice Ao54 t386.length co54 : Value).ownBlock) (Kd.R_keptB ((Kd.R_apart' HO362.out (Kd.R_typed HO377.out) (by decide))) hkp (fun k_ hk_ hs_ => (hk_.2) hs_)) (fun k_ hk_ => ⟨hk_.1.1.1, hk_.1.1.2⟩)); have n2_ := Aside0.mk (Kd.R_mono (ok' := fun k_ => some k_ ≠ (.slice Ao45 t375.length co45 : Value).ownBlock ∧ some k_ ≠ (.slice Ao57 t390.length co57 : Value).ownBlock) (Kd.R_keptB (HO365.out) hkp (fun k_ hk_ hs_ => (hk_.1) hs_)) (fun k_ hk_ => ⟨hk_.1.1, hk_.1.2⟩)); have n3_ := Aside0.mk (Kd.R_mono (ok' := fun k_ => some k_ ≠ (.slice Ao47 t378.length co47 : Value).ownBlock) (Kd.R_keptB ((Kd.R_apart' HO368.out (Kd.R_typed HO377.out) (by decide))) hkp (fun k_ hk_ hs_ => (hk_.2) hs_)) (fun k_ hk_ => hk_.1.1)); have n4_ := Aside0.mk (Kd.R_mono (ok' := fun k_ => some k_ ≠ (.slice Ao36 t357.length co36 : Value).ownBlock ∧ some k_ ≠ (.slice Ao51 t382.length co51 : Value).ownBlock) (Kd.R_keptB ((Kd.R_apart' HO371.out (Kd.R_typed HO377.out) (by decide))) hkp (fun k_ hk_ hs_ => (hk_.2) hs_)) (fun k_ hk_ => ⟨hk_.1.1.1, hk_.1.1.2⟩)); have n5_ := Aside0.mk (Kd.R_mono (ok' := fun k_ => some k_ ≠ (.slice Ao37 t360.length co37 : Value).ownBlock ∧ some k_ ≠ (.slice Ao54 t386.length co54 : Value).ownBlock) (Kd.R_keptB ((Kd.R_apart' HO374.out (Kd.R_typed HO377.out) (by decide))) hkp (fun k_ hk_ hs_ => (hk_.2) hs_)) (fun k_ hk_ => ⟨hk_.1.1.1, hk_.1.1.2⟩)); have n6_ := Aside0.mk (Kd.R_reok rfl hy0 (fun k_ e_ => HO377.out.1 k_ e_)); have n7_ := Aside0.mk (Kd.R_mono (ok' := fun k_ => some k_ ≠ (.slice Ao48 t366.length co48 : Value).ownBlock) (Kd.R_keptB ((Kd.R_apart' HO380.out (Kd.R_typed HO377.out) (by decide))) hkp (fun k_ hk_ hs_ => (hk_.2) hs_)) (fun k_ hk_ => hk_.1.1)); have n8_ := Aside0.mk (Kd.R_mono (ok' := fun k_ => some k_ ≠ (.slice Ao36 t357.length co36 : Value).ownBlock ∧ some k_ ≠ (.slice Ao43 t369.length co43 : Value).ownBlock) (Kd.R_keptB ((Kd.R_apart' HO384.out (Kd.R_typed HO377.out) (by decide))) hkp (fun k_ hk_ hs_ => (hk_.2) hs_)) (fun k_ hk_ => ⟨hk_.1.1.1, hk_.1.1.2⟩)); have n9_ := Aside0.mk (Kd.R_mono (ok' := fun k_ => some k_ ≠ (.slice Ao37 t360.length co37 : Value).ownBlock ∧ some k_ ≠ (.slice Ao44 t372.length co44 : Value).ownBlock) (Kd.R_keptB ((Kd.R_apart' HO388.out (Kd.R_typed HO377.out) (by decide))) hkp (fun k_ hk_ hs_ => (hk_.2) hs_)) (fun k_ hk_ => ⟨hk_.1.1.1, hk_.1.1.2⟩)); have n10_ := Aside0.mk (Kd.R_mono (ok' := fun k_ => some k_ ≠ (.slice Ao38 t363.length co38 : Value).ownBlock ∧ some k_ ≠ (.slice Ao45 t375.length co45 : Value).ownBlock) (Kd.R_keptB (HO392.out) hkp (fun k_ hk_ hs_ => (hk_.2) hs_)) (fun k_ hk_ => ⟨hk_.1.1, hk_.1.2⟩)); have n11_ := Aside0.mk (hb); clear HO359; clear HO362; clear HO365; clear HO368; clear HO371; clear HO374; clear HO377; clear HO380; clear HO384; clear HO388; clear HO392; clear HB; have HO359 := n0_; have HO362 := n1_; have HO365 := n2_; have HO368 := n3_; have HO371 := n4_; have HO374 := n5_; have HO377 := n6_; have HO380 := n7_; have HO384 := n8_; have HO388 := n9_; have HO392 := n10_; have HB := n11_; clear n0_ n1_ n2_ n3_ n4_ n5_ n6_ n7_ n8_ n9_ n10_ n11_; (try clear hb); (try clear hkp); (try clear hy0)))
        (try simp only [Act.put, List.setIfInBounds_toArray, List.set_cons_zero, List.set_cons_succ])
        go_cut [86] (fun v86 wc => ∃ (kq : Nat) (x86_31 : Bool), v86 = .bool x86_31 ∧ Aside0 (laws_FnExactTasksFor.j0 kq l0 l1 l2 a3 t366 t378 x86_31 = some true) ∧ Aside0 (kq ≤ k) ∧ Aside0 (Kd.R k54 54 wc w.heap.size (fun k_ => some k_ ≠ ((.slice Ao47 t378.length co47) : Value).ownBlock) (.slice Ao48 t366.length co48) t366) ∧ Aside0 (Kd.R k54 54 wc w.heap.size (fun k_ => some k_ ≠ ((.slice Ao48 t366.length co48) : Value).ownBlock) (.slice Ao47 t378.length co47) t378) ∧ Aside0 (Below w.heap.size w wc))
        case first =>
         have H := HC32.out
         clear HC32
         by_cases c61 : t398 < 0
         ·
          rw [if_pos c61] at H
          have c61b0 : decide (t398 < 0) = true := decide_eq_true c61
          clear c61
          (first | rw [c61b0] | (simp only [i64_w, i32_w]; rw [c61b0]) | skip)
          have H' := Aside0.mk H
          clear H
          go_wp2
          go_meet
          case rel => exact ⟨_, (true), rs_, H', ⟨by first | omega | exact Nat.le_refl _⟩, ⟨rd_ HO368.out⟩, ⟨rd_ HO380.out⟩, ⟨hd_ HB.out⟩⟩
         ·
          rw [if_neg c61] at H
          have c61b0 : decide (t398 < 0) = false := decide_eq_false c61
          clear c61
          (first | rw [c61b0] | (simp only [i64_w, i32_w]; rw [c61b0]) | skip)
          replace H := Option.bind_eq_some_iff.mp H
          obtain ⟨t400, A620, H⟩ := H
          replace H : (laws_FnExactTasksFor.j0 k l0 l1 l2 a3 t366 t378 (!t400)) = some true := H
          have A62 := Aside0.mk A620
          clear A620
          have H' := Aside0.mk H
          clear H
          go_wp2_with (first | (go_at_call 11; (with_reducible refine (laws_eqTaskS.calls k _ _ t378 _ _ t366 t400 _ ?side1 ?side2 ?side3 ?side4 A62.out).mono ?_); (case side1 => exact cd_ (Kd.R_reads' HO380.out).2.2); (case side2 => exact (Kd.R_reads' HO380.out).2.1); (case side3 => exact cd_ (Kd.R_reads' HO368.out).2.2); (case side4 => exact (Kd.R_reads' HO368.out).2.1); rintro e w63 ⟨rfl, hb⟩; have n0_ := Aside0.mk (Kd.R_below (rd_ HO359.out) hb); have n1_ := Aside0.mk (Kd.R_below (rd_ HO362.out) hb); have n2_ := Aside0.mk (Kd.R_below (rd_ HO365.out) hb); have n3_ := Aside0.mk (Kd.R_below (rd_ HO368.out) hb); have n4_ := Aside0.mk (Kd.R_below (rd_ HO371.out) hb); have n5_ := Aside0.mk (Kd.R_below (rd_ HO374.out) hb); have n6_ := Aside0.mk (Kd.R_below (rd_ HO377.out) hb); have n7_ := Aside0.mk (Kd.R_below (rd_ HO380.out) hb); have n8_ := Aside0.mk (Kd.R_below (rd_ HO384.out) hb); have n9_ := Aside0.mk (Kd.R_below (rd_ HO388.out) hb); have n10_ := Aside0.mk (Kd.R_below (rd_ HO392.out) hb); have n11_ := Aside0.mk (below_step (hd_ HB.out) hb); clear HO359; clear HO362; clear HO365; clear HO368; clear HO371; clear HO374; clear HO377; clear HO380; clear HO384; clear HO388; clear HO392; clear HB; have HO359 := n0_; have HO362 := n1_; have HO365 := n2_; have HO368 := n3_; have HO371 := n4_; have HO374 := n5_; have HO377 := n6_; have HO380 := n7_; have HO384 := n8_; have HO388 := n9_; have HO392 := n10_; have HB := n11_; clear n0_ n1_ n2_ n3_ n4_ n5_ n6_ n7_ n8_ n9_ n10_ n11_; (try clear hb)))
          go_meet
          case rel => exact ⟨_, (!t400), rs_, H', ⟨by first | omega | exact Nat.le_refl _⟩, ⟨rd_ HO368.out⟩, ⟨rd_ HO380.out⟩, ⟨hd_ HB.out⟩⟩
        case rest =>
         clear HC32
         try clear c1
         try clear c2
         try clear p2
         try clear c4
         try clear c5
         try clear c5b0
         try clear c5b1
         try clear c6
         try clear c7
         try clear c7b0
         try clear c9
         try clear c9b0
         try clear c11
         try clear c12
         try clear c13
         try clear c14
         try clear c15
         try clear c16
         try clear c17
         try clear c18
         try clear c19
         try clear c20
         try clear c21
         try clear c22
         try clear c23
         try clear c24
         try clear c25
         try clear c28
         try clear c61
         try clear c61b0
         obtain ⟨kq, x86_31, rfl, HA, HJ31, HO_10, HO_14, HB⟩ := hcut
         cases kq with
         | zero => exact absurd HA.out (by simp [laws_FnExactTasksFor.j0])
         | succ kj31 =>
          have H := HA.out
          clear HA
          simp only [laws_FnExactTasksFor.j0] at H
          by_cases c64 : x86_31 = true
          ·
           subst c64
           have H1 : (some false) = some true := by rw [if_pos rfl] at H; exact H
           clear H
           have H := H1
           clear H1
           exact absurd H (by simp)
          ·
           replace c64 := Bool.eq_false_iff.mpr c64
           subst c64
           have H1 : ((laws_markTaskS.f kj31 t378 1).bind fun bt401 => ((laws_heldTaskS.f kj31 bt401.2 1).bind fun t403 => (if t403 < 0 then (some false) else (if t403 = bt401.1 then ((laws_toFindS.f kj31 l0).bind fun t404 => ((laws_toClaimS.f kj31 l1).bind fun t407 => ((laws_toBoolS.f kj31 l2).bind fun t410 => ((impl_TasksFor.f kj31 t404 t407 t410 a3).bind fun t413 => ((laws_eqTaskS.f kj31 t413 t366).bind fun t416 => (if t416 = true then ((laws_heldTaskS.f kj31 bt401.2 1).bind fun t417 => (if t417 < 0 then (some false) else (if t417 = bt401.1 then (some true) else (some false)))) else (some false))))))) else (some false))))) = some true := by rw [if_neg (show ¬ (false = true) by decide)] at H; exact H
           clear H
           have H := H1
           clear H1
           replace H := Option.bind_eq_some_iff.mp H
           obtain ⟨⟨t401, t402⟩, A650, H⟩ := H
           replace H : ((laws_heldTaskS.f kj31 t402 1).bind fun t403 => (if t403 < 0 then (some false) else (if t403 = t401 then ((laws_toFindS.f kj31 l0).bind fun t404 => ((laws_toClaimS.f kj31 l1).bind fun t407 => ((laws_toBoolS.f kj31 l2).bind fun t410 => ((impl_TasksFor.f kj31 t404 t407 t410 a3).bind fun t413 => ((laws_eqTaskS.f kj31 t413 t366).bind fun t416 => (if t416 = true then ((laws_heldTaskS.f kj31 t402 1).bind fun t417 => (if t417 < 0 then (some false) else (if t417 = t401 then (some true) else (some false)))) else (some false))))))) else (some false)))) = some true := H
           have A65 := Aside0.mk A650
           clear A650
           replace H := Option.bind_eq_some_iff.mp H
           obtain ⟨t403, A660, H⟩ := H
           replace H : (if t403 < 0 then (some false) else (if t403 = t401 then ((laws_toFindS.f kj31 l0).bind fun t404 => ((laws_toClaimS.f kj31 l1).bind fun t407 => ((laws_toBoolS.f kj31 l2).bind fun t410 => ((impl_TasksFor.f kj31 t404 t407 t410 a3).bind fun t413 => ((laws_eqTaskS.f kj31 t413 t366).bind fun t416 => (if t416 = true then ((laws_heldTaskS.f kj31 t402 1).bind fun t417 => (if t417 < 0 then (some false) else (if t417 = t401 then (some true) else (some false)))) else (some false))))))) else (some false))) = some true := H
           have A66 := Aside0.mk A660
           clear A660
           by_cases c67 : t403 < 0
           ·
            rw [if_pos c67] at H
            have c67b0 : decide (t403 < 0) = true := decide_eq_true c67
            clear c67
            exact absurd H (by simp)
           ·
            rw [if_neg c67] at H
            have c67b0 : decide (t403 < 0) = false := decide_eq_false c67
            clear c67
            by_cases c68 : t403 = t401
            ·
             rw [if_pos c68] at H
             have c68b0 : (t403 == t401) = true := beq_iff_eq.mpr c68
             have c68b1 : (t403 != t401) = false := bne_eq_false_iff_eq.mpr c68
             clear c68
             replace H := Option.bind_eq_some_iff.mp H
             obtain ⟨t404, A690, H⟩ := H
             replace H : ((laws_toClaimS.f kj31 l1).bind fun t407 => ((laws_toBoolS.f kj31 l2).bind fun t410 => ((impl_TasksFor.f kj31 t404 t407 t410 a3).bind fun t413 => ((laws_eqTaskS.f kj31 t413 t366).bind fun t416 => (if t416 = true then ((laws_heldTaskS.f kj31 t402 1).bind fun t417 => (if t417 < 0 then (some false) else (if t417 = t401 then (some true) else (some false)))) else (some false)))))) = some true := H
             have A69 := Aside0.mk A690
             clear A690
             replace H := Option.bind_eq_some_iff.mp H
             obtain ⟨t407, A700, H⟩ := H
             replace H : ((laws_toBoolS.f kj31 l2).bind fun t410 => ((impl_TasksFor.f kj31 t404 t407 t410 a3).bind fun t413 => ((laws_eqTaskS.f kj31 t413 t366).bind fun t416 => (if t416 = true then ((laws_heldTaskS.f kj31 t402 1).bind fun t417 => (if t417 < 0 then (some false) else (if t417 = t401 then (some true) else (some false)))) else (some false))))) = some true := H
             have A70 := Aside0.mk A700
             clear A700
             replace H := Option.bind_eq_some_iff.mp H
             obtain ⟨t410, A710, H⟩ := H
             replace H : ((impl_TasksFor.f kj31 t404 t407 t410 a3).bind fun t413 => ((laws_eqTaskS.f kj31 t413 t366).bind fun t416 => (if t416 = true then ((laws_heldTaskS.f kj31 t402 1).bind fun t417 => (if t417 < 0 then (some false) else (if t417 = t401 then (some true) else (some false)))) else (some false)))) = some true := H
             have A71 := Aside0.mk A710
             clear A710
             replace H := Option.bind_eq_some_iff.mp H
             obtain ⟨t413, A720, H⟩ := H
             replace H : ((laws_eqTaskS.f kj31 t413 t366).bind fun t416 => (if t416 = true then ((laws_heldTaskS.f kj31 t402 1).bind fun t417 => (if t417 < 0 then (some false) else (if t417 = t401 then (some true) else (some false)))) else (some false))) = some true := H
             have A72 := Aside0.mk A720
             clear A720
             replace H := Option.bind_eq_some_iff.mp H
             obtain ⟨t416, A730, H⟩ := H
             replace H : (if t416 = true then ((laws_heldTaskS.f kj31 t402 1).bind fun t417 => (if t417 < 0 then (some false) else (if t417 = t401 then (some true) else (some false)))) else (some false)) = some true := H
             have A73 := Aside0.mk A730
             clear A730
             by_cases c74 : t416 = true
             ·
              subst c74
              have H1 : ((laws_heldTaskS.f kj31 t402 1).bind fun t417 => (if t417 < 0 then (some false) else (if t417 = t401 then (some true) else (some false)))) = some true := by rw [if_pos rfl] at H; exact H
              clear H
              have H := H1
              clear H1
              replace H := Option.bind_eq_some_iff.mp H
              obtain ⟨t417, A750, H⟩ := H
              replace H : (if t417 < 0 then (some false) else (if t417 = t401 then (some true) else (some false))) = some true := H
              have A75 := Aside0.mk A750
              clear A750
              by_cases c76 : t417 < 0
              ·
               rw [if_pos c76] at H
               have c76b0 : decide (t417 < 0) = true := decide_eq_true c76
               clear c76
               exact absurd H (by simp)
              ·
               rw [if_neg c76] at H
               have c76b0 : decide (t417 < 0) = false := decide_eq_false c76
               clear c76
               by_cases c77 : t417 = t401
               ·
                rw [if_pos c77] at H
                have c77b0 : (t417 == t401) = true := beq_iff_eq.mpr c77
                have c77b1 : (t417 != t401) = false := bne_eq_false_iff_eq.mpr c77
                clear c77
                first | (obtain rfl := Option.some.inj H) | (have Hr_ := Option.some.inj H; clear H)
                go_wp2_with (first | ((with_reducible refine gate_callee (f := 25) rfl ?_); refine goesL_ (some 89) rfl rfl Try.func25 (by kernel_rfl) rfl #[.slice Ao47 t378.length co47, .int .i64 1] rfl ma_ ?_; (with_reducible refine (laws_markTaskS.calls kj31 (fun k_ => some k_ = (.slice Ao47 t378.length co47 : Value).ownBlock) (.slice Ao47 t378.length co47) t378 1 t401 t402 w _ ?side1 ?side2 A65.out).mono ?_); (case side1 => repeat (first | (with_reducible first | exact HB.out | apply below_alloc | apply pw_below_drewN | apply below_drew1) | exact HB.out)); (case side2 => exact Kd.R_tight rfl HO_14.out); rintro e w78 ⟨rfl, hy0, hb, hkp⟩; refine ⟨_, rfl, ?_⟩; have n0_ := Aside0.mk (Kd.R_mono (ok' := fun k_ => some k_ ≠ (.slice Ao47 t378.length co47 : Value).ownBlock) (Kd.R_keptB (HO_10.out) hkp (fun k_ hk_ hs_ => (hk_) hs_)) (fun k_ hk_ => hk_.1)); have n1_ := Aside0.mk (Kd.R_reok rfl hy0 (fun k_ e_ => HO_14.out.1 k_ e_)); have n2_ := Aside0.mk (hb); clear HO_10; clear HO_14; clear HB; have HO_10 := n0_; have HO_14 := n1_; have HB := n2_; clear n0_ n1_ n2_; (try clear hb); (try clear hkp); (try clear hy0)) | ((with_reducible refine gate_callee (f := 26) rfl ?_); refine goesL_ (some 92) rfl rfl Try.func26 (by kernel_rfl) rfl #[.slice Ao47 t402.length co47, .int .i64 1] rfl y322_ ?_; (with_reducible refine (laws_heldTaskS.calls kj31 _ _ t402 1 t403 _ ?side1 ?side2 A66.out).mono ?_); (case side1 => exact cd_ (Kd.R_reads' HO_14.out).2.2); (case side2 => rw [show t402.length = t378.length from (Kd.R_reads' HO_14.out).1.symm]; exact (Kd.R_reads' HO_14.out).2.1); rintro e w' ⟨rfl, ⟨nd, rfl⟩⟩; refine ⟨_, rfl, ?_⟩) | ((with_reducible refine gate_callee (f := 15) rfl ?_); refine goesL_ (some 99) rfl rfl Try.func15 (by kernel_rfl) rfl #[.slice A0 l0.length c0] rfl ma_ ?_; (with_reducible refine (laws_toFindS.calls kj31 _ _ l0 t404 _ ?side1 ?side2 A69.out).mono ?_); (case side1 => repeat (first | exact (Kd.C_below HR0.out (hd_ HB.out)) | (with_reducible refine Kd.C_alloc ?_ _) | (with_reducible refine Kd.C_drewN ?_ _) | (with_reducible refine Kd.C_drew ?_))); (case side2 => exact HC0.out); rintro e w79 ⟨v405, rfl, ho0, hb⟩; refine ⟨_, rfl, ?_⟩; have n0_ := Aside0.mk (Kd.R_below (rd_ HO_10.out) hb); have n1_ := Aside0.mk (Kd.R_below (rd_ HO_14.out) hb); have HO406 := Aside0.mk (Kd.R_lower ho0 (below_size (hd_ HB.out))); have n3_ := Aside0.mk (below_step (hd_ HB.out) hb); clear HO_10; clear HO_14; clear HB; have HO_10 := n0_; have HO_14 := n1_; have HB := n3_; clear n0_ n1_ n3_; (try clear hb); (try clear ho0)) | ((with_reducible refine gate_callee (f := 16) rfl ?_); refine goesL_ (some 101) rfl rfl Try.func16 (by kernel_rfl) rfl #[.slice A1 l1.length c1] rfl ma_ ?_; (with_reducible refine (laws_toClaimS.calls kj31 _ _ l1 t407 _ ?side1 ?side2 A70.out).mono ?_); (case side1 => exact cd_ (Kd.C_below HR1.out HB.out)); (case side2 => exact HC1.out); rintro e w80 ⟨v408, rfl, ho0, hb⟩; refine ⟨_, rfl, ?_⟩; have n0_ := Aside0.mk (Kd.R_below (rd_ HO_10.out) hb); have n1_ := Aside0.mk (Kd.R_below (rd_ HO_14.out) hb); have n2_ := Aside0.mk (Kd.R_below (rd_ HO406.out) hb); have HO409 := Aside0.mk (Kd.R_lower ho0 (below_size (hd_ HB.out))); have n4_ := Aside0.mk (below_step (hd_ HB.out) hb); clear HO_10; clear HO_14; clear HO406; clear HB; have HO_10 := n0_; have HO_14 := n1_; have HO406 := n2_; have HB := n4_; clear n0_ n1_ n2_ n4_; (try clear hb); (try clear ho0)) | ((with_reducible refine gate_callee (f := 17) rfl ?_); refine goesL_ (some 103) rfl rfl Try.func17 (by kernel_rfl) rfl #[.slice A2 l2.length c2] rfl ma_ ?_; (with_reducible refine (laws_toBoolS.calls kj31 _ _ l2 t410 _ ?side1 ?side2 A71.out).mono ?_); (case side1 => exact cd_ (Kd.C_below HR2.out HB.out)); (case side2 => exact HC2.out); rintro e w81 ⟨v411, rfl, ho0, hb⟩; refine ⟨_, rfl, ?_⟩; have n0_ := Aside0.mk (Kd.R_below (rd_ HO_10.out) hb); have n1_ := Aside0.mk (Kd.R_below (rd_ HO_14.out) hb); have n2_ := Aside0.mk (Kd.R_below (rd_ HO406.out) hb); have n3_ := Aside0.mk (Kd.R_below (rd_ HO409.out) hb); have HO412 := Aside0.mk (Kd.R_lower ho0 (below_size (hd_ HB.out))); have n5_ := Aside0.mk (below_step (hd_ HB.out) hb); clear HO_10; clear HO_14; clear HO406; clear HO409; clear HB; have HO_10 := n0_; have HO_14 := n1_; have HO406 := n2_; have HO409 := n3_; have HB := n5_; clear n0_ n1_ n2_ n3_ n5_; (try clear hb); (try clear ho0); obtain ⟨Ao82, co82, eo82⟩ := Kd.R_slice HO406.out; subst eo82; obtain ⟨Ao83, co83, eo83⟩ := Kd.R_slice HO409.out; subst eo83; obtain ⟨Ao84, co84, eo84⟩ := Kd.R_slice HO412.out; subst eo84) | ((with_reducible refine gate_callee (f := 18) rfl ?_); refine goesL_ (some 105) rfl rfl Try.func18 (by kernel_rfl) rfl #[.slice Ao82 t404.length co82, .slice Ao83 t407.length co83, .slice Ao84 t410.length co84, .int .i64 a3] rfl ma_ ?_; (with_reducible refine (impl_TasksFor.calls kj31 _ _ t404 _ _ t407 _ _ t410 a3 t413 _ ?side1 ?side2 ?side3 ?side4 ?side5 ?side6 A72.out).mono ?_); (case side1 => exact cd_ (Kd.R_reads' HO406.out).2.2); (case side2 => exact (Kd.R_reads' HO406.out).2.1); (case side3 => exact cd_ (Kd.R_reads' HO409.out).2.2); (case side4 => exact (Kd.R_reads' HO409.out).2.1); (case side5 => exact cd_ (Kd.R_reads' HO412.out).2.2); (case side6 => exact (Kd.R_reads' HO412.out).2.1); rintro e w85 ⟨v414, rfl, ho0, hb⟩; refine ⟨_, rfl, ?_⟩; have n0_ := Aside0.mk (Kd.R_elder' (rd_ HO_10.out) (Kd.R_base ho0) hb); have n1_ := Aside0.mk (Kd.R_elder' (rd_ HO_14.out) (Kd.R_base ho0) hb); have n2_ := Aside0.mk (Kd.R_below (rd_ HO406.out) hb); have n3_ := Aside0.mk (Kd.R_below (rd_ HO409.out) hb); have n4_ := Aside0.mk (Kd.R_below (rd_ HO412.out) hb); have HO415 := Aside0.mk (Kd.R_lower (Kd.R_new' (Kd.R_new' ho0 (Kd.R_lt (rd_ HO_10.out))) (Kd.R_lt (rd_ HO_14.out))) (below_size (hd_ HB.out))); have n6_ := Aside0.mk (below_step (hd_ HB.out) hb); clear HO_10; clear HO_14; clear HO406; clear HO409; clear HO412; clear HB; have HO_10 := n0_; have HO_14 := n1_; have HO406 := n2_; have HO409 := n3_; have HO412 := n4_; have HB := n6_; clear n0_ n1_ n2_ n3_ n4_ n6_; (try clear hb); (try clear ho0); obtain ⟨Ao86, co86, eo86⟩ := Kd.R_slice HO415.out; subst eo86) | ((with_reducible refine gate_callee (f := 11) rfl ?_); refine goesL_ (some 108) rfl rfl Try.func11 (by kernel_rfl) rfl #[.slice Ao86 t413.length co86, .slice Ao48 t366.length co48] rfl ma_ ?_; (with_reducible refine (laws_eqTaskS.calls kj31 _ _ t413 _ _ t366 true _ ?side1 ?side2 ?side3 ?side4 A73.out).mono ?_); (case side1 => exact cd_ (Kd.R_reads' HO415.out).2.2); (case side2 => exact (Kd.R_reads' HO415.out).2.1); (case side3 => exact cd_ (Kd.R_reads' HO_10.out).2.2); (case side4 => exact (Kd.R_reads' HO_10.out).2.1); rintro e w87 ⟨rfl, hb⟩; refine ⟨_, rfl, ?_⟩; have n0_ := Aside0.mk (Kd.R_below (rd_ HO_10.out) hb); have n1_ := Aside0.mk (Kd.R_below (rd_ HO_14.out) hb); have n2_ := Aside0.mk (Kd.R_below (rd_ HO406.out) hb); have n3_ := Aside0.mk (Kd.R_below (rd_ HO409.out) hb); have n4_ := Aside0.mk (Kd.R_below (rd_ HO412.out) hb); have n5_ := Aside0.mk (Kd.R_below (rd_ HO415.out) hb); have n6_ := Aside0.mk (below_step (hd_ HB.out) hb); clear HO_10; clear HO_14; clear HO406; clear HO409; clear HO412; clear HO415; clear HB; have HO_10 := n0_; have HO_14 := n1_; have HO406 := n2_; have HO409 := n3_; have HO412 := n4_; have HO415 := n5_; have HB := n6_; clear n0_ n1_ n2_ n3_ n4_ n5_ n6_; (try clear hb)) | ((with_reducible refine gate_callee (f := 26) rfl ?_); refine goesL_ (some 112) rfl rfl Try.func26 (by kernel_rfl) rfl #[.slice Ao47 t402.length co47, .int .i64 1] rfl y322_ ?_; (with_reducible refine (laws_heldTaskS.calls kj31 _ _ t402 1 t417 _ ?side1 ?side2 A75.out).mono ?_); (case side1 => exact cd_ (Kd.R_reads' HO_14.out).2.2); (case side2 => rw [show t402.length = t378.length from (Kd.R_reads' HO_14.out).1.symm]; exact (Kd.R_reads' HO_14.out).2.1); rintro e w' ⟨rfl, ⟨nd, rfl⟩⟩; refine ⟨_, rfl, ?_⟩))
                go_ret
                exact ⟨rt_, hd_ HB.out⟩
               ·
                rw [if_neg c77] at H
                have c77b0 : (t417 == t401) = false := beq_eq_false_iff_ne.mpr c77
                have c77b1 : (t417 != t401) = true := bne_iff_ne.mpr c77
                exact absurd H (by simp)
             ·
              replace c74 := Bool.eq_false_iff.mpr c74
              subst c74
              have H1 : (some false) = some true := by rw [if_neg (show ¬ (false = true) by decide)] at H; exact H
              clear H
              have H := H1
              clear H1
              exact absurd H (by simp)
            ·
             rw [if_neg c68] at H
             have c68b0 : (t403 == t401) = false := beq_eq_false_iff_ne.mpr c68
             have c68b1 : (t403 != t401) = true := bne_iff_ne.mpr c68
             exact absurd H (by simp)
       ·
        replace c28 := Bool.eq_false_iff.mpr c28
        subst c28
        have H1 : (some false) = some true := by rw [if_neg (show ¬ (false = true) by decide)] at H; exact H
        clear H
        have H := H1
        clear H1
        exact absurd H (by simp)
      ·
       replace c25 := Bool.eq_false_iff.mpr c25
       subst c25
       have H1 : (some false) = some true := by rw [if_neg (show ¬ (false = true) by decide)] at H; exact H
       clear H
       have H := H1
       clear H1
       exact absurd H (by simp)
     ·
      replace c22 := Bool.eq_false_iff.mpr c22
      subst c22
      have H1 : (some false) = some true := by rw [if_neg (show ¬ (false = true) by decide)] at H; exact H
      clear H
      have H := H1
      clear H1
      exact absurd H (by simp)
    ·
     replace c19 := Bool.eq_false_iff.mpr c19
     subst c19
     have H1 : (some false) = some true := by rw [if_neg (show ¬ (false = true) by decide)] at H; exact H
     clear H
     have H := H1
     clear H1
     exact absurd H (by simp)

end Go.Proofs.Ytnlgilmbmoiniaa.PFnExactTasksFor
