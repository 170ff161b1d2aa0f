-- Written for this claim by a program (a printer turned to this claim); Lean checks it.
import Derived.Test.YtnlgilmbmoiniaaDoorPFnTasksx0
import Derived.Test.YtnlgilmbmoiniaaDoorPFnTasksx1
import Derived.Test.YtnlgilmbmoiniaaDoorPFnTasksx2
import Derived.Test.YtnlgilmbmoiniaaDoorPFnTasksx7
import Derived.Test.YtnlgilmbmoiniaaDoorPFnTasksx10
import Derived.Test.YtnlgilmbmoiniaaDoorPFnTasksx12
import Derived.Test.YtnlgilmbmoiniaaDoorPFnTasksx13
namespace Go.Proofs.YtnlgilmbmoiniaaDoor.PFnTasks
open Go.RowKit Go.Proofs.YtnlgilmbmoiniaaDoorW.PrintWords Go.Proofs.YtnlgilmbmoiniaaDoorW.PrintLast Go.Proofs.YtnlgilmbmoiniaaDoorW.PrintMore
attribute [local go_sem] max2_int min2_int max_two min_two max_three min_three max_four min_four   -- for this text's walks alone
set_option linter.unusedVariables false
set_option linter.unusedSimpArgs false

attribute [local go_sem high] eqA33
/-! ### laws_FnTasks: function 3 -/
mutual
def laws_FnTasks.j0 : Nat → List (S38) → List (S73) → List Bool → Int → List (S33) → Bool → Option (Bool)
 | 0, _, _, _, _, _, _ => none
 | k + 1, x3, x4, x5, x6, x7, x35 => if x35 = true then (some false) else (laws_FnTasks.l0 k x3 x4 x5 x6 x7 0)
def laws_FnTasks.l0 : Nat → List (S38) → List (S73) → List Bool → Int → List (S33) → Int → Option (Bool)
 | 0, _, _, _, _, _, _ => none
 | k + 1, x3, x4, x5, x6, x7, x8 => if x8 < (x7.length : Int) then (if 0 ≤ x8 then ((impl_FindThing.f x3 ((rd_T33 x7 x8).f0)).bind fun t586 => (if t586 < 0 then (some false) else (if 0 ≤ t586 then (if t586 < (x3.length : Int) then ((impl_TaskOf.f k ((rd_T38 x3 t586).f0.f0) ((rd_T38 x3 t586).f0.f1) ((rd_T38 x3 t586).f0.f2) ((rd_T38 x3 t586).f0.f3) ((rd_T38 x3 t586).f0.f4) ((rd_T38 x3 t586).f1) ((rd_T38 x3 t586).f2) ((rd_T38 x3 t586).f3) x4 x5 x6).bind fun bt589 => (if (!(((rd_T33 x7 x8).f0) == bt589.1) || (!(((rd_T33 x7 x8).f1) == bt589.2.1) || (!(((rd_T33 x7 x8).f2) == bt589.2.2)))) = true then (some false) else (if x8 > 0 then (if 0 ≤ (wrap64 (x8 - 1)) then (if (wrap64 (x8 - 1)) < (x7.length : Int) then (if ((rd_T33 x7 (wrap64 (x8 - 1))).f2) > ((rd_T33 x7 x8).f2) then (some false) else ((impl_TaskText.f ((rd_T33 x7 x8).f0) ((rd_T33 x7 x8).f1) ((rd_T33 x7 x8).f2)).bind fun t595 => (if t595.toList = ([] : List UInt8) then (some false) else (if ((rd_T33 x7 x8).f1) = 1 then ((impl_IsOpen.f k x5 ((rd_T33 x7 x8).f2)).bind fun t598 => (if t598 = true then (laws_FnTasks.l0 k x3 x4 x5 x6 x7 (wrap64 (x8 + 1))) else (some false))) else (if ((rd_T33 x7 x8).f1) = 0 then ((impl_IsOpen.f k x5 ((rd_T33 x7 x8).f2)).bind fun t601 => (if t601 = true then (laws_FnTasks.l0 k x3 x4 x5 x6 x7 (wrap64 (x8 + 1))) else (some false))) else (laws_FnTasks.l0 k x3 x4 x5 x6 x7 (wrap64 (x8 + 1)))))))) else (none)) else (none)) else ((impl_TaskText.f ((rd_T33 x7 x8).f0) ((rd_T33 x7 x8).f1) ((rd_T33 x7 x8).f2)).bind fun t603 => (if t603.toList = ([] : List UInt8) then (some false) else (if ((rd_T33 x7 x8).f1) = 1 then ((impl_IsOpen.f k x5 ((rd_T33 x7 x8).f2)).bind fun t606 => (if t606 = true then (laws_FnTasks.l0 k x3 x4 x5 x6 x7 (wrap64 (x8 + 1))) else (some false))) else (if ((rd_T33 x7 x8).f1) = 0 then ((impl_IsOpen.f k x5 ((rd_T33 x7 x8).f2)).bind fun t609 => (if t609 = true then (laws_FnTasks.l0 k x3 x4 x5 x6 x7 (wrap64 (x8 + 1))) else (some false))) else (laws_FnTasks.l0 k x3 x4 x5 x6 x7 (wrap64 (x8 + 1)))))))))) else (none)) else (none)))) else (none)) else ((impl_Today.f k x7 x6).bind fun t610 => (laws_FnTasks.l1 k x6 x7 t610 0))
def laws_FnTasks.l1 : Nat → Int → List (S33) → List (S33) → Int → Option (Bool)
 | 0, _, _, _, _ => none
 | k + 1, x6, x7, x10, x11 => if x11 < (x10.length : Int) then (if 0 ≤ x11 then (if ((rd_T33 x10 x11).f1) = 0 then (some false) else (laws_FnTasks.l1 k x6 x7 x10 (wrap64 (x11 + 1)))) else (none)) else ((impl_Quiet.f k x7 x6).bind fun t614 => (some (t614 == ((x10.length : Int) == 0))))
end
def laws_FnTasks.f (k : Nat) (l0 : List Int) : Option (Bool) := (laws_big.f l0).bind fun t571 => (if t571 = true then (some true) else ((spec_DrawTasksFor.f k l0).bind fun bt572 => ((impl_TasksFor.f k bt572.1 bt572.2.1 bt572.2.2.1 bt572.2.2.2).bind fun t582 => (if (t582.length : Int) = 0 then (laws_FnTasks.j0 k bt572.1 bt572.2.1 bt572.2.2.1 bt572.2.2.2 t582 false) else (laws_FnTasks.j0 k bt572.1 bt572.2.1 bt572.2.2.1 bt572.2.2.2 t582 ((t582.length : Int) != (bt572.1.length : Int)))))))
theorem laws_FnTasks.mono_l : ∀ k, (∀ y0 y1 y2 y3 y4 y5, LeO (laws_FnTasks.j0 k y0 y1 y2 y3 y4 y5) (laws_FnTasks.j0 (k + 1) y0 y1 y2 y3 y4 y5)) ∧ (∀ y0 y1 y2 y3 y4 y5, LeO (laws_FnTasks.l0 k y0 y1 y2 y3 y4 y5) (laws_FnTasks.l0 (k + 1) y0 y1 y2 y3 y4 y5)) ∧ (∀ y0 y1 y2 y3, LeO (laws_FnTasks.l1 k y0 y1 y2 y3) (laws_FnTasks.l1 (k + 1) y0 y1 y2 y3))
 | 0 => ⟨fun _ _ _ _ _ _ r h => by simp [laws_FnTasks.j0] at h, fun _ _ _ _ _ _ r h => by simp [laws_FnTasks.l0] at h, fun _ _ _ _ r h => by simp [laws_FnTasks.l1] at h⟩
 | k + 1 => by
  obtain ⟨ih0, ih1, ih2⟩ := laws_FnTasks.mono_l k
  refine ⟨?_, ?_, ?_⟩
  ·
   intro y0 y1 y2 y3 y4 y5
   unfold laws_FnTasks.j0
   have jh0 := @impl_IsOpen.mono
   have jh1 := @impl_Quiet.mono
   have jh2 := @impl_TaskOf.mono
   have jh3 := @impl_TasksFor.mono
   have jh4 := @impl_Today.mono
   have jh5 := @spec_DrawTasksFor.mono
   exact mo_
  ·
   intro y0 y1 y2 y3 y4 y5
   unfold laws_FnTasks.l0
   have jh0 := @impl_IsOpen.mono
   have jh1 := @impl_Quiet.mono
   have jh2 := @impl_TaskOf.mono
   have jh3 := @impl_TasksFor.mono
   have jh4 := @impl_Today.mono
   have jh5 := @spec_DrawTasksFor.mono
   exact mo_
  ·
   intro y0 y1 y2 y3
   unfold laws_FnTasks.l1
   have jh0 := @impl_IsOpen.mono
   have jh1 := @impl_Quiet.mono
   have jh2 := @impl_TaskOf.mono
   have jh3 := @impl_TasksFor.mono
   have jh4 := @impl_Today.mono
   have jh5 := @spec_DrawTasksFor.mono
   exact mo_
theorem laws_FnTasks.mono : ∀ a0 k, LeO (laws_FnTasks.f k a0) (laws_FnTasks.f (k + 1) a0) := by
 intro a0 k
 obtain ⟨ih0, ih1, ih2⟩ := laws_FnTasks.mono_l k
 unfold laws_FnTasks.f
 have jh0 := @impl_IsOpen.mono
 have jh1 := @impl_Quiet.mono
 have jh2 := @impl_TaskOf.mono
 have jh3 := @impl_TasksFor.mono
 have jh4 := @impl_Today.mono
 have jh5 := @spec_DrawTasksFor.mono
 exact mo_
def laws_FnTasks.T11 : Bool × List (List Nat × List Nat) := (true, [([], []), ([0], [0]), ([1], [1]), ([2], [2]), ([2], [2]), ([3, 4, 2], [2, 3, 4]), ([5, 2], [2, 5]), ([2], [2]), ([2], [2]), ([7, 8, 2], [2, 7, 8]), ([9, 2], [2, 9]), ([2], [2]), ([2], [2]), ([2], [2]), ([10, 11, 12, 13, 2, 2], [2, 10, 11, 12, 13]), ([6, 14, 2], [2, 6, 14]), ([2, 15], [2, 15]), ([16, 14], [16]), ([17], [17]), ([18, 17], [17, 18]), ([19, 17, 17], [17, 19]), ([20], [20]), ([20], [20]), ([22, 20], [20, 22]), ([21, 23, 20], [20, 21, 23]), ([24, 20], [20, 24]), ([25, 20], [20, 25]), ([20], [20]), ([20], [20]), ([27, 28, 20], [20, 27, 28]), ([29, 20], [20, 29]), ([30, 20], [20, 30]), ([26, 31, 20], [20, 26, 31]), ([20, 32, 17], [17, 20, 32]), ([17, 33], [17, 33]), ([34, 20], [34]), ([35], [35]), ([35], [35]), ([36, 37, 35], [35, 36, 37]), ([38, 35], [35, 38]), ([39, 35, 35], [35, 39]), ([40, 35], [35, 40]), ([35, 41], [35, 41]), ([42, 40], [42]), ([43], [43]), ([43], [43]), ([44, 45, 43], [43, 44, 45]), ([46, 43], [43, 46]), ([47, 43], [43, 47]), ([48, 43], [43, 48]), ([49, 43, 43], [43, 49]), ([50], [50]), ([50], [50]), ([51, 52, 50], [50, 51, 52]), ([53, 50], [50, 53]), ([54, 50], [50, 54]), ([55, 50], [50, 55]), ([50, 56, 43], [43, 50, 56]), ([57, 50, 43], [43, 57]), ([58], [58]), ([58], [58]), ([58], [58]), ([60, 61, 58], [58, 60, 61]), ([62, 58], [58, 62]), ([63, 58], [58, 63]), ([59, 64, 58, 58], [58, 59, 64]), ([65, 58], [58, 65]), ([58, 66, 43], [43, 58, 66]), ([43, 67], [43, 67])])
def laws_FnTasks.B11 : List Nat := [0, 1, 3, 7, 7, 31, 63, 7, 7, 391, 903, 7, 7, 7, 16263, 32767, 65535, 131071, 262143, 524287, 1048575, 2097151, 2097151, 6291455, 16777215, 33554431, 67108863, 2097151, 2097151, 404750335, 941621247, 2015363071, 4294967295, 8589934591, 17179869183, 34359738367, 68719476735, 68719476735, 274877906943, 549755813887, 1099511627775, 2199023255551, 4398046511103, 8796093022207, 17592186044415, 17592186044415, 70368744177663, 140737488355327, 281474976710655, 562949953421311, 1125899906842623, 2251799813685247, 2251799813685247, 9007199254740991, 18014398509481983, 36028797018963967, 72057594037927935, 144115188075855871, 288230376151711743, 576460752303423487, 576460752303423487, 576460752303423487, 4035225266123964415, 8646911284551352319, 17870283321406128127, 36893488147419103231, 73786976294838206463, 147573952589676412927, 295147905179352825855]
theorem laws_FnTasks.tab11 : rtab .any (opsOf Tryd.f3 11) = laws_FnTasks.T11 := by kernel_rfl
theorem laws_FnTasks.bits11 : waitsOk laws_FnTasks.T11.2 laws_FnTasks.B11 = true := by kernel_rfl
abbrev M4_0 := bm_ 69 0
abbrev M4_1 := bm_ 69 1
abbrev M4_2 := bm_ 69 3
abbrev M4_3 := bm_ 69 7
abbrev M4_4 := bm_ 69 15
abbrev M4_5 := bm_ 69 31
abbrev M4_6 := bm_ 69 63
abbrev M4_7 := bm_ 69 191
abbrev M4_8 := bm_ 69 447
abbrev M4_9 := bm_ 69 959
abbrev M4_10 := bm_ 69 3007
abbrev M4_11 := bm_ 69 7103
abbrev M4_12 := bm_ 69 15295
abbrev M4_13 := bm_ 69 15359
abbrev M4_14 := bm_ 69 16383
abbrev M4_15 := bm_ 69 32767
abbrev M4_16 := bm_ 69 65535
abbrev M4_17 := bm_ 69 131071
abbrev M4_18 := bm_ 69 262143
abbrev M4_19 := bm_ 69 524287
abbrev M4_20 := bm_ 69 1048575
abbrev M4_21 := bm_ 69 2097151
abbrev M4_22 := bm_ 69 4194303
abbrev M4_23 := bm_ 69 8388607
abbrev M4_24 := bm_ 69 16777215
abbrev M4_25 := bm_ 69 33554431
abbrev M4_26 := bm_ 69 67108863
abbrev M4_27 := bm_ 69 201326591
abbrev M4_28 := bm_ 69 469762047
abbrev M4_29 := bm_ 69 1006632959
abbrev M4_30 := bm_ 69 2080374783
abbrev M4_31 := bm_ 69 2147483647
abbrev M4_32 := bm_ 69 4294967295
abbrev M4_33 := bm_ 69 8589934591
abbrev M4_34 := bm_ 69 17179869183
abbrev M4_35 := bm_ 69 34359738367
abbrev M4_36 := bm_ 69 68719476735
abbrev M4_37 := bm_ 69 137438953471
abbrev M4_38 := bm_ 69 274877906943
abbrev M4_39 := bm_ 69 549755813887
abbrev M4_40 := bm_ 69 1099511627775
abbrev M4_41 := bm_ 69 2199023255551
abbrev M4_42 := bm_ 69 4398046511103
abbrev M4_43 := bm_ 69 8796093022207
abbrev M4_44 := bm_ 69 17592186044415
abbrev M4_45 := bm_ 69 35184372088831
abbrev M4_46 := bm_ 69 70368744177663
abbrev M4_47 := bm_ 69 140737488355327
abbrev M4_48 := bm_ 69 281474976710655
abbrev M4_49 := bm_ 69 562949953421311
abbrev M4_50 := bm_ 69 1125899906842623
abbrev M4_51 := bm_ 69 2251799813685247
abbrev M4_52 := bm_ 69 4503599627370495
abbrev M4_53 := bm_ 69 9007199254740991
abbrev M4_54 := bm_ 69 18014398509481983
abbrev M4_55 := bm_ 69 36028797018963967
abbrev M4_56 := bm_ 69 72057594037927935
abbrev M4_57 := bm_ 69 144115188075855871
abbrev M4_58 := bm_ 69 288230376151711743
abbrev M4_59 := bm_ 69 576460752303423487
abbrev M4_60 := bm_ 69 1152921504606846975
abbrev M4_61 := bm_ 69 2305843009213693951
abbrev M4_62 := bm_ 69 4611686018427387903
abbrev M4_63 := bm_ 69 9223372036854775807
abbrev M4_64 := bm_ 69 18446744073709551615
abbrev M4_65 := bm_ 69 36893488147419103231
abbrev M4_66 := bm_ 69 73786976294838206463
abbrev M4_67 := bm_ 69 147573952589676412927
abbrev M4_68 := bm_ 69 295147905179352825855
abbrev M4_69 := bm_ 69 590295810358705651711
abbrev M4_70 := bm_ 69 134217727
abbrev M4_71 := bm_ 69 268435455
abbrev M4_72 := bm_ 69 536870911
abbrev M4_73 := bm_ 69 1073741823
theorem P4_1 {α : Type} (l : List α) (i : Nat) (a : α) : l.toArray.setIfInBounds i a = (l.set i a).toArray := List.setIfInBounds_toArray l i a
theorem P4_2 {α : Type} (x : α) (l : List α) (a : α) : (x :: l).set 0 a = a :: l := List.set_cons_zero
theorem P4_3 {α : Type} (x : α) (l : List α) (n : Nat) (a : α) : (x :: l).set (n + 1) a = x :: l.set n a := List.set_cons_succ
theorem y232_ {P : Prop} (h : P := by first | rfl | (simp; done) | (simp [*]; done)) : P := h
set_option maxHeartbeats 8000000 in
set_option maxRecDepth 100000 in
theorem laws_FnTasks.calls (k : Nat) (A0 : Option Addr) (c0 : Nat) (l0 : List Int) (w : World) (hr0 : Kd.C (Kd.int .u8) w A0 l0.length l0) (hc0 : l0.length ≤ c0) (h : laws_FnTasks.f k l0 = some true) (TB_ : Ito.Tb w) :
  Calls Tryd.prog 3 #[.slice A0 l0.length c0] w fun e w' => e = .returned (.bool true) ∧ Below w.heap.size w w' := by
 have hu33 := Tryd.underlying33
 have hu38 := Tryd.underlying38
 have HR0 := Aside0.mk hr0
 have HC0 := Aside0.mk hc0
 clear hr0 hc0
 have HB := Aside0.mk (Below.refl w.heap.size w)
 have H : ((laws_big.f l0).bind fun t571 => (if t571 = true then (some true) else ((spec_DrawTasksFor.f k l0).bind fun bt572 => ((impl_TasksFor.f k bt572.1 bt572.2.1 bt572.2.2.1 bt572.2.2.2).bind fun t582 => (if (t582.length : Int) = 0 then (laws_FnTasks.j0 k bt572.1 bt572.2.1 bt572.2.2.1 bt572.2.2.2 t582 false) else (laws_FnTasks.j0 k bt572.1 bt572.2.1 bt572.2.2.1 bt572.2.2.2 t582 ((t582.length : Int) != (bt572.1.length : Int)))))))) = some true := h
 clear h
 replace H := Option.bind_eq_some_iff.mp H
 obtain ⟨t571, A20, H⟩ := H
 replace H : (if t571 = true then (some true) else ((spec_DrawTasksFor.f k l0).bind fun bt572 => ((impl_TasksFor.f k bt572.1 bt572.2.1 bt572.2.2.1 bt572.2.2.2).bind fun t582 => (if (t582.length : Int) = 0 then (laws_FnTasks.j0 k bt572.1 bt572.2.1 bt572.2.2.1 bt572.2.2.2 t582 false) else (laws_FnTasks.j0 k bt572.1 bt572.2.1 bt572.2.2.1 bt572.2.2.2 t582 ((t582.length : Int) != (bt572.1.length : Int))))))) = some true := H
 have A2 := Aside0.mk A20
 clear A20
 by_cases c3 : t571 = true
 ·
  subst c3
  have H1 : (some true : Option Bool) = some true := rfl
  clear H
  have H := H1
  clear H1
  first | (obtain rfl := Option.some.inj H) | (have Hr_ := Option.some.inj H; clear H)
  go_enter Tryd.func3, Tryd.ntmps3
  go_wp2_with (first | ((with_reducible refine gate_callee (f := 5) rfl ?_); refine goesL_ (some 13) rfl rfl Tryd.func5 (by kernel_rfl) rfl #[.slice A0 l0.length c0] rfl ma_ ?_; (with_reducible refine (laws_big.calls _ _ l0 true _ ?side1 ?side2 A2.out).mono ?_); (case side1 => exact cd_ HR0.out); (case side2 => exact HC0.out); rintro e w' ⟨rfl, ⟨nd, rfl⟩⟩; refine ⟨_, rfl, ?_⟩))
  go_ret
  exact ⟨rt_, hd_ HB.out⟩
 ·
  replace c3 := Bool.eq_false_iff.mpr c3
  subst c3
  have H1 : ((spec_DrawTasksFor.f k l0).bind fun bt572 => ((impl_TasksFor.f k bt572.1 bt572.2.1 bt572.2.2.1 bt572.2.2.2).bind fun t582 => (if (t582.length : Int) = 0 then (laws_FnTasks.j0 k bt572.1 bt572.2.1 bt572.2.2.1 bt572.2.2.2 t582 false) else (laws_FnTasks.j0 k bt572.1 bt572.2.1 bt572.2.2.1 bt572.2.2.2 t582 ((t582.length : Int) != (bt572.1.length : Int)))))) = some true := by rw [if_neg (show ¬ (false = true) by decide)] at H; exact H
  clear H
  have H := H1
  clear H1
  replace H := Option.bind_eq_some_iff.mp H
  obtain ⟨⟨t572, t573, t574, t575⟩, A40, H⟩ := H
  replace H : ((impl_TasksFor.f k t572 t573 t574 t575).bind fun t582 => (if (t582.length : Int) = 0 then (laws_FnTasks.j0 k t572 t573 t574 t575 t582 false) else (laws_FnTasks.j0 k t572 t573 t574 t575 t582 ((t582.length : Int) != (t572.length : Int))))) = some true := H
  have A4 := Aside0.mk A40
  clear A40
  replace H := Option.bind_eq_some_iff.mp H
  obtain ⟨t582, A50, H⟩ := H
  replace H : (if (t582.length : Int) = 0 then (laws_FnTasks.j0 k t572 t573 t574 t575 t582 false) else (laws_FnTasks.j0 k t572 t573 t574 t575 t582 ((t582.length : Int) != (t572.length : Int)))) = some true := H
  have A5 := Aside0.mk A50
  clear A50
  have HC6 := Aside0.mk H
  clear H
  go_enter Tryd.func3, Tryd.ntmps3
  go_upto_region 5 with (first | ((with_reducible refine gate_callee (f := 5) rfl ?_); refine goesL_ (some 13) rfl rfl Tryd.func5 (by kernel_rfl) rfl #[.slice A0 l0.length c0] rfl ma_ ?_; (with_reducible refine (laws_big.calls _ _ l0 false _ ?side1 ?side2 A2.out).mono ?_); (case side1 => exact cd_ HR0.out); (case side2 => exact HC0.out); rintro e w' ⟨rfl, ⟨nd, rfl⟩⟩; refine ⟨_, rfl, ?_⟩) | ((with_reducible refine gate_callee (f := 6) rfl ?_); refine goesL_ (some 16) rfl rfl Tryd.func6 (by kernel_rfl) rfl #[.slice A0 l0.length c0] rfl ma_ ?_; (with_reducible refine (spec_DrawTasksFor.calls k _ _ l0 t572 t573 t574 t575 _ ?side1 ?side2 A4.out).mono ?_); (case side1 => exact cd_ HR0.out); (case side2 => exact HC0.out); rintro e w7 ⟨v576, v578, v580, rfl, ho0, ho1, ho2, hb⟩; refine ⟨_, rfl, ?_⟩; have HO577 := Aside0.mk (Kd.R_lower ho0 (below_size (hd_ HB.out))); have HO579 := Aside0.mk (Kd.R_lower ho1 (below_size (hd_ HB.out))); have HO581 := Aside0.mk (Kd.R_lower ho2 (below_size (hd_ HB.out))); have n3_ := Aside0.mk (below_step (hd_ HB.out) hb); clear HB; have HB := n3_; clear n3_; (try clear hb); (try clear ho0); (try clear ho1); (try clear ho2); obtain ⟨Ao8, co8, eo8⟩ := Kd.R_slice HO577.out; subst eo8; obtain ⟨Ao9, co9, eo9⟩ := Kd.R_slice HO579.out; subst eo9; obtain ⟨Ao10, co10, eo10⟩ := Kd.R_slice HO581.out; subst eo10) | ((with_reducible refine gate_callee (f := 7) rfl ?_); refine goesL_ (some 25) rfl rfl Tryd.func7 (by kernel_rfl) rfl #[.slice Ao8 t572.length co8, .slice Ao9 t573.length co9, .slice Ao10 t574.length co10, .int .i64 t575] rfl ma_ ?_; (with_reducible refine (impl_TasksFor.calls k _ _ t572 _ _ t573 _ _ t574 t575 t582 _ ?side1 ?side2 ?side3 ?side4 ?side5 ?side6 A5.out).mono ?_); (case side1 => exact cd_ (Kd.R_reads' HO577.out).2.2); (case side2 => exact (Kd.R_reads' HO577.out).2.1); (case side3 => exact cd_ (Kd.R_reads' HO579.out).2.2); (case side4 => exact (Kd.R_reads' HO579.out).2.1); (case side5 => exact cd_ (Kd.R_reads' HO581.out).2.2); (case side6 => exact (Kd.R_reads' HO581.out).2.1); rintro e w11 ⟨v583, rfl, ho0, hb⟩; refine ⟨_, rfl, ?_⟩; have n0_ := Aside0.mk (Kd.R_below (rd_ HO577.out) hb); have n1_ := Aside0.mk (Kd.R_below (rd_ HO579.out) hb); have n2_ := Aside0.mk (Kd.R_below (rd_ HO581.out) hb); have HO584 := Aside0.mk (Kd.R_lower ho0 (below_size (hd_ HB.out))); have n4_ := Aside0.mk (below_step (hd_ HB.out) hb); clear HO577; clear HO579; clear HO581; clear HB; have HO577 := n0_; have HO579 := n1_; have HO581 := n2_; have HB := n4_; clear n0_ n1_ n2_ n4_; (try clear hb); (try clear ho0)))
  (try simp only [Act.put, List.setIfInBounds_toArray, List.set_cons_zero, List.set_cons_succ])
  go_cut [35] (fun v35 wc => ∃ (kq : Nat) (x35_5 : Bool), v35 = .bool x35_5 ∧ Aside0 (laws_FnTasks.j0 kq t572 t573 t574 t575 t582 x35_5 = some true) ∧ Aside0 (kq ≤ k) ∧ Aside0 (Kd.R k38 38 wc w.heap.size (fun _ => True) (.slice Ao8 t572.length co8) t572) ∧ Aside0 (Kd.R k73 73 wc w.heap.size (fun _ => True) (.slice Ao9 t573.length co9) t573) ∧ Aside0 (Kd.R Kd.bool 4 wc w.heap.size (fun _ => True) (.slice Ao10 t574.length co10) t574) ∧ Aside0 (Kd.R k33 33 wc w.heap.size (fun _ => True) v583 t582) ∧ Aside0 (Below w.heap.size w wc))
  case first =>
   have H := HC6.out
   clear HC6
   by_cases c12 : (t582.length : Int) = 0
   ·
    rw [if_pos c12] at H
    have c12b0 : ((t582.length : Int) == 0) = true := beq_iff_eq.mpr c12
    have c12b1 : ((t582.length : Int) != 0) = false := bne_eq_false_iff_eq.mpr c12
    clear c12
    (first | rw [c12b0] | (simp only [i64_w, i32_w]; rw [c12b0]) | skip)
    have H' := Aside0.mk H
    clear H
    obtain ⟨Ao13, co13, eo13⟩ := Kd.R_slice HO584.out
    subst eo13
    go_wp2
    go_meet
    case rel => exact ⟨_, (false), y232_, H', ⟨by first | omega | exact Nat.le_refl _⟩, ⟨rd_ HO577.out⟩, ⟨rd_ HO579.out⟩, ⟨rd_ HO581.out⟩, ⟨rd_ HO584.out⟩, ⟨hd_ HB.out⟩⟩
   ·
    rw [if_neg c12] at H
    have c12b0 : ((t582.length : Int) == 0) = false := beq_eq_false_iff_ne.mpr c12
    have c12b1 : ((t582.length : Int) != 0) = true := bne_iff_ne.mpr c12
    have c12b2 : ¬ (t582 = []) := fun h_ => c12 (by rw [h_]; rfl)
    (first | rw [c12b0] | (simp only [i64_w, i32_w]; rw [c12b0]) | skip)
    have H' := Aside0.mk H
    clear H
    obtain ⟨Ao14, co14, eo14⟩ := Kd.R_slice HO584.out
    subst eo14
    go_wp2
    go_meet
    case rel => exact ⟨_, (((t582.length : Int) != (t572.length : Int))), y232_, H', ⟨by first | omega | exact Nat.le_refl _⟩, ⟨rd_ HO577.out⟩, ⟨rd_ HO579.out⟩, ⟨rd_ HO581.out⟩, ⟨rd_ HO584.out⟩, ⟨hd_ HB.out⟩⟩
  case rest =>
   clear HC6
   try clear c1
   try clear p2
   try clear c3
   try clear c5
   try clear c6
   try clear c7
   try clear c12
   try clear c12b0
   try clear c12b1
   try clear c12b2
   obtain ⟨kq, x35_5, rfl, HA, HJ5, HO_3, HO_4, HO_5, HO_7, HB⟩ := hcut
   cases kq with
   | zero => exact absurd HA.out (by simp [laws_FnTasks.j0])
   | succ kj5 =>
    have H := HA.out
    clear HA
    simp only [laws_FnTasks.j0] at H
    by_cases c15 : x35_5 = true
    ·
     subst c15
     have H1 : (some false) = some true := by rw [if_pos rfl] at H; exact H
     clear H
     have H := H1
     clear H1
     exact absurd H (by simp)
    ·
     replace c15 := Bool.eq_false_iff.mpr c15
     subst c15
     have H1 : (laws_FnTasks.l0 kj5 t572 t573 t574 t575 t582 0) = some true := by rw [if_neg (show ¬ (false = true) by decide)] at H; exact H
     clear H
     have H := H1
     clear H1
     have H' := Aside0.mk H
     clear H
     go_wp2
     go_loopg [8] kj5 (fun kq v8 w' => ∃ (x8_2 : Int), v8 = .int .i64 x8_2 ∧ Aside0 (laws_FnTasks.l0 kq t572 t573 t574 t575 t582 x8_2 = some true) ∧ Aside0 (kq ≤ kj5) ∧ Aside0 (Kd.R k38 38 w' w.heap.size (fun _ => True) (.slice Ao8 t572.length co8) t572) ∧ Aside0 (Kd.R k73 73 w' w.heap.size (fun _ => True) (.slice Ao9 t573.length co9) t573) ∧ Aside0 (Kd.R Kd.bool 4 w' w.heap.size (fun _ => True) (.slice Ao10 t574.length co10) t574) ∧ Aside0 (Kd.R k33 33 w' w.heap.size (fun _ => True) v583 t582) ∧ Aside0 (Below w.heap.size w w'))
     case atStart => exact ⟨(0), y232_, H', ⟨Nat.le_refl _⟩, ⟨rd_ HO_3.out⟩, ⟨rd_ HO_4.out⟩, ⟨rd_ HO_5.out⟩, ⟨rd_ HO_7.out⟩, ⟨hd_ HB.out⟩⟩
     case round =>
      clear H'
      try clear c1
      try clear p2
      try clear c3
      try clear c5
      try clear c6
      try clear c7
      try clear c12
      try clear c12b0
      try clear c12b1
      try clear c12b2
      try clear c15
      try clear p2
      obtain ⟨x8_2, rfl, HA, HK2, HO_3, HO_4, HO_5, HO_7, HB⟩ := hrel
      cases gk with
      | zero => exact absurd HA.out (by simp [laws_FnTasks.l0])
      | succ k2 =>
       have H := HA.out
       clear HA
       simp only [laws_FnTasks.l0] at H
       by_cases c16 : x8_2 < (t582.length : Int)
       ·
        rw [if_pos c16] at H
        have c16b0 : decide (x8_2 < (t582.length : Int)) = true := decide_eq_true c16
        clear c16
        by_cases c17 : 0 ≤ x8_2
        ·
         rw [if_pos c17] at H
         have c17b0 : decide (0 ≤ x8_2) = true := decide_eq_true c17
         clear c17
         replace H := Option.bind_eq_some_iff.mp H
         obtain ⟨t586, A180, H⟩ := H
         replace H : (if t586 < 0 then (some false) else (if 0 ≤ t586 then (if t586 < (t572.length : Int) then ((impl_TaskOf.f k2 ((rd_T38 t572 t586).f0.f0) ((rd_T38 t572 t586).f0.f1) ((rd_T38 t572 t586).f0.f2) ((rd_T38 t572 t586).f0.f3) ((rd_T38 t572 t586).f0.f4) ((rd_T38 t572 t586).f1) ((rd_T38 t572 t586).f2) ((rd_T38 t572 t586).f3) t573 t574 t575).bind fun bt589 => (if (!(((rd_T33 t582 x8_2).f0) == bt589.1) || (!(((rd_T33 t582 x8_2).f1) == bt589.2.1) || (!(((rd_T33 t582 x8_2).f2) == bt589.2.2)))) = true then (some false) else (if x8_2 > 0 then (if 0 ≤ (wrap64 (x8_2 - 1)) then (if (wrap64 (x8_2 - 1)) < (t582.length : Int) then (if ((rd_T33 t582 (wrap64 (x8_2 - 1))).f2) > ((rd_T33 t582 x8_2).f2) then (some false) else ((impl_TaskText.f ((rd_T33 t582 x8_2).f0) ((rd_T33 t582 x8_2).f1) ((rd_T33 t582 x8_2).f2)).bind fun t595 => (if t595.toList = ([] : List UInt8) then (some false) else (if ((rd_T33 t582 x8_2).f1) = 1 then ((impl_IsOpen.f k2 t574 ((rd_T33 t582 x8_2).f2)).bind fun t598 => (if t598 = true then (laws_FnTasks.l0 k2 t572 t573 t574 t575 t582 (wrap64 (x8_2 + 1))) else (some false))) else (if ((rd_T33 t582 x8_2).f1) = 0 then ((impl_IsOpen.f k2 t574 ((rd_T33 t582 x8_2).f2)).bind fun t601 => (if t601 = true then (laws_FnTasks.l0 k2 t572 t573 t574 t575 t582 (wrap64 (x8_2 + 1))) else (some false))) else (laws_FnTasks.l0 k2 t572 t573 t574 t575 t582 (wrap64 (x8_2 + 1)))))))) else (none)) else (none)) else ((impl_TaskText.f ((rd_T33 t582 x8_2).f0) ((rd_T33 t582 x8_2).f1) ((rd_T33 t582 x8_2).f2)).bind fun t603 => (if t603.toList = ([] : List UInt8) then (some false) else (if ((rd_T33 t582 x8_2).f1) = 1 then ((impl_IsOpen.f k2 t574 ((rd_T33 t582 x8_2).f2)).bind fun t606 => (if t606 = true then (laws_FnTasks.l0 k2 t572 t573 t574 t575 t582 (wrap64 (x8_2 + 1))) else (some false))) else (if ((rd_T33 t582 x8_2).f1) = 0 then ((impl_IsOpen.f k2 t574 ((rd_T33 t582 x8_2).f2)).bind fun t609 => (if t609 = true then (laws_FnTasks.l0 k2 t572 t573 t574 t575 t582 (wrap64 (x8_2 + 1))) else (some false))) else (laws_FnTasks.l0 k2 t572 t573 t574 t575 t582 (wrap64 (x8_2 + 1)))))))))) else (none)) else (none))) = some true := H
         have A18 := Aside0.mk A180
         clear A180
         by_cases c19 : t586 < 0
         ·
          rw [if_pos c19] at H
          have c19b0 : decide (t586 < 0) = true := decide_eq_true c19
          clear c19
          exact absurd H (by simp)
         ·
          rw [if_neg c19] at H
          have c19b0 : decide (t586 < 0) = false := decide_eq_false c19
          clear c19
          by_cases c20 : 0 ≤ t586
          ·
           rw [if_pos c20] at H
           have c20b0 : decide (0 ≤ t586) = true := decide_eq_true c20
           clear c20
           by_cases c21 : t586 < (t572.length : Int)
           ·
            rw [if_pos c21] at H
            have c21b0 : decide (t586 < (t572.length : Int)) = true := decide_eq_true c21
            clear c21
            replace H := Option.bind_eq_some_iff.mp H
            obtain ⟨⟨t589, t590, t591⟩, A220, H⟩ := H
            replace H : (if (!(((rd_T33 t582 x8_2).f0) == t589) || (!(((rd_T33 t582 x8_2).f1) == t590) || (!(((rd_T33 t582 x8_2).f2) == t591)))) = true then (some false) else (if x8_2 > 0 then (if 0 ≤ (wrap64 (x8_2 - 1)) then (if (wrap64 (x8_2 - 1)) < (t582.length : Int) then (if ((rd_T33 t582 (wrap64 (x8_2 - 1))).f2) > ((rd_T33 t582 x8_2).f2) then (some false) else ((impl_TaskText.f ((rd_T33 t582 x8_2).f0) ((rd_T33 t582 x8_2).f1) ((rd_T33 t582 x8_2).f2)).bind fun t595 => (if t595.toList = ([] : List UInt8) then (some false) else (if ((rd_T33 t582 x8_2).f1) = 1 then ((impl_IsOpen.f k2 t574 ((rd_T33 t582 x8_2).f2)).bind fun t598 => (if t598 = true then (laws_FnTasks.l0 k2 t572 t573 t574 t575 t582 (wrap64 (x8_2 + 1))) else (some false))) else (if ((rd_T33 t582 x8_2).f1) = 0 then ((impl_IsOpen.f k2 t574 ((rd_T33 t582 x8_2).f2)).bind fun t601 => (if t601 = true then (laws_FnTasks.l0 k2 t572 t573 t574 t575 t582 (wrap64 (x8_2 + 1))) else (some false))) else (laws_FnTasks.l0 k2 t572 t573 t574 t575 t582 (wrap64 (x8_2 + 1)))))))) else (none)) else (none)) else ((impl_TaskText.f ((rd_T33 t582 x8_2).f0) ((rd_T33 t582 x8_2).f1) ((rd_T33 t582 x8_2).f2)).bind fun t603 => (if t603.toList = ([] : List UInt8) then (some false) else (if ((rd_T33 t582 x8_2).f1) = 1 then ((impl_IsOpen.f k2 t574 ((rd_T33 t582 x8_2).f2)).bind fun t606 => (if t606 = true then (laws_FnTasks.l0 k2 t572 t573 t574 t575 t582 (wrap64 (x8_2 + 1))) else (some false))) else (if ((rd_T33 t582 x8_2).f1) = 0 then ((impl_IsOpen.f k2 t574 ((rd_T33 t582 x8_2).f2)).bind fun t609 => (if t609 = true then (laws_FnTasks.l0 k2 t572 t573 t574 t575 t582 (wrap64 (x8_2 + 1))) else (some false))) else (laws_FnTasks.l0 k2 t572 t573 t574 t575 t582 (wrap64 (x8_2 + 1))))))))) = some true := H
            have A22 := Aside0.mk A220
            clear A220
            by_cases c23 : (!(((rd_T33 t582 x8_2).f0) == t589) || (!(((rd_T33 t582 x8_2).f1) == t590) || (!(((rd_T33 t582 x8_2).f2) == t591)))) = true
            ·
             rw [if_pos c23] at H
             have c23b0 : (!(((rd_T33 t582 x8_2).f0) == t589) || (!(((rd_T33 t582 x8_2).f1) == t590) || (!(((rd_T33 t582 x8_2).f2) == t591)))) = true := c23
             clear c23
             exact absurd H (by simp)
            ·
             rw [if_neg c23] at H
             have c23b0 : (!(((rd_T33 t582 x8_2).f0) == t589) || (!(((rd_T33 t582 x8_2).f1) == t590) || (!(((rd_T33 t582 x8_2).f2) == t591)))) = false := by simpa using c23
             clear c23
             by_cases c24 : x8_2 > 0
             ·
              rw [if_pos c24] at H
              have c24b0 : decide (0 < x8_2) = true := decide_eq_true c24
              clear c24
              obtain ⟨ji25, hji25⟩ : ∃ j_ : Int, (wrap64 (x8_2 - 1)) = j_ := ⟨_, rfl⟩
              replace H : (if 0 ≤ (ji25) then (if (ji25) < (t582.length : Int) then (if ((rd_T33 t582 (ji25)).f2) > ((rd_T33 t582 x8_2).f2) then (some false) else ((impl_TaskText.f ((rd_T33 t582 x8_2).f0) ((rd_T33 t582 x8_2).f1) ((rd_T33 t582 x8_2).f2)).bind fun t595 => (if t595.toList = ([] : List UInt8) then (some false) else (if ((rd_T33 t582 x8_2).f1) = 1 then ((impl_IsOpen.f k2 t574 ((rd_T33 t582 x8_2).f2)).bind fun t598 => (if t598 = true then (laws_FnTasks.l0 k2 t572 t573 t574 t575 t582 (wrap64 (x8_2 + 1))) else (some false))) else (if ((rd_T33 t582 x8_2).f1) = 0 then ((impl_IsOpen.f k2 t574 ((rd_T33 t582 x8_2).f2)).bind fun t601 => (if t601 = true then (laws_FnTasks.l0 k2 t572 t573 t574 t575 t582 (wrap64 (x8_2 + 1))) else (some false))) else (laws_FnTasks.l0 k2 t572 t573 t574 t575 t582 (wrap64 (x8_2 + 1)))))))) else (none)) else (none)) = some true := by first | (rw [hji25] at H; exact H) | (simp only [hji25] at H ⊢; exact H)
              (try rw [hji25] at A18)
              (try rw [hji25] at A22)
              have hji25w : (IntKind.i64.wrap (x8_2 - 1)) = ji25 := (i64_w _).trans hji25
              by_cases c26 : 0 ≤ (ji25)
              ·
               rw [if_pos c26] at H
               have c26b0 : decide (0 ≤ (ji25)) = true := decide_eq_true c26
               clear c26
               by_cases c27 : (ji25) < (t582.length : Int)
               ·
                rw [if_pos c27] at H
                have c27b0 : decide ((ji25) < (t582.length : Int)) = true := decide_eq_true c27
                clear c27
                by_cases c28 : ((rd_T33 t582 (ji25)).f2) > ((rd_T33 t582 x8_2).f2)
                ·
                 rw [if_pos c28] at H
                 have c28b0 : decide (((rd_T33 t582 x8_2).f2) < ((rd_T33 t582 (ji25)).f2)) = true := decide_eq_true c28
                 clear c28
                 exact absurd H (by simp)
                ·
                 rw [if_neg c28] at H
                 have c28b0 : decide (((rd_T33 t582 x8_2).f2) < ((rd_T33 t582 (ji25)).f2)) = false := decide_eq_false c28
                 clear c28
                 replace H := Option.bind_eq_some_iff.mp H
                 obtain ⟨t595, A290, H⟩ := H
                 replace H : (if t595.toList = ([] : List UInt8) then (some false) else (if ((rd_T33 t582 x8_2).f1) = 1 then ((impl_IsOpen.f k2 t574 ((rd_T33 t582 x8_2).f2)).bind fun t598 => (if t598 = true then (laws_FnTasks.l0 k2 t572 t573 t574 t575 t582 (wrap64 (x8_2 + 1))) else (some false))) else (if ((rd_T33 t582 x8_2).f1) = 0 then ((impl_IsOpen.f k2 t574 ((rd_T33 t582 x8_2).f2)).bind fun t601 => (if t601 = true then (laws_FnTasks.l0 k2 t572 t573 t574 t575 t582 (wrap64 (x8_2 + 1))) else (some false))) else (laws_FnTasks.l0 k2 t572 t573 t574 t575 t582 (wrap64 (x8_2 + 1)))))) = some true := H
                 have A29 := Aside0.mk A290
                 clear A290
                 by_cases c30 : t595.toList = ([] : List UInt8)
                 ·
                  rw [if_pos c30] at H
                  have c30b0 : (t595.toList == ([] : List UInt8)) = true := beq_iff_eq.mpr c30
                  have c30b1 : (t595.toList != ([] : List UInt8)) = false := bne_eq_false_iff_eq.mpr c30
                  clear c30
                  exact absurd H (by simp)
                 ·
                  rw [if_neg c30] at H
                  have c30b0 : (t595.toList == ([] : List UInt8)) = false := beq_eq_false_iff_ne.mpr c30
                  have c30b1 : (t595.toList != ([] : List UInt8)) = true := bne_iff_ne.mpr c30
                  by_cases c31 : ((rd_T33 t582 x8_2).f1) = 1
                  ·
                   rw [if_pos c31] at H
                   have c31b0 : (((rd_T33 t582 x8_2).f1) == 1) = true := beq_iff_eq.mpr c31
                   have c31b1 : (((rd_T33 t582 x8_2).f1) != 1) = false := bne_eq_false_iff_eq.mpr c31
                   clear c31
                   replace H := Option.bind_eq_some_iff.mp H
                   obtain ⟨t598, A320, H⟩ := H
                   replace H : (if t598 = true then (laws_FnTasks.l0 k2 t572 t573 t574 t575 t582 (wrap64 (x8_2 + 1))) else (some false)) = some true := H
                   have A32 := Aside0.mk A320
                   clear A320
                   by_cases c33 : t598 = true
                   ·
                    subst c33
                    have H1 : (laws_FnTasks.l0 k2 t572 t573 t574 t575 t582 (wrap64 (x8_2 + 1))) = some true := by rw [if_pos rfl] at H; exact H
                    clear H
                    have H := H1
                    clear H1
                    have H' := Aside0.mk H
                    clear H
                    obtain ⟨Ao34, co34, eo34⟩ := Kd.R_slice HO_7.out
                    subst eo34
                    have p585 : 0 ≤ (x8_2 : Int) := of_decide_eq_true as_
                    have q585 : x8_2 < (t582.length : Int) := of_decide_eq_true as_
                    obtain ⟨ad585, e585, hx585_0, hx585_1, hx585_2⟩ := at_T33 (Kd.R_reads' HO_7.out).2.2 x8_2 p585 q585
                    cases e585
                    replace p585 := eq_true p585
                    replace q585 := eq_true q585
                    try go_wp2_with (first | ((with_reducible refine gate_callee (f := 8) rfl ?_); refine goesL_ (some 48) rfl rfl Tryd.func8 (by kernel_rfl) rfl #[.slice Ao8 t572.length co8, .int .i64 ((rd_T33 t582 x8_2).f0)] rfl ma_ ?_; (with_reducible refine (impl_FindThing.calls _ _ t572 ((rd_T33 t582 x8_2).f0) t586 _ ?side1 ?side2 A18.out).mono ?_); (case side1 => exact cd_ (Kd.R_reads' HO_3.out).2.2); (case side2 => exact (Kd.R_reads' HO_3.out).2.1); rintro e w35 ⟨rfl, hb⟩; refine ⟨_, rfl, ?_⟩; have n0_ := Aside0.mk (Kd.R_below (rd_ HO_3.out) hb); have n1_ := Aside0.mk (Kd.R_below (rd_ HO_4.out) hb); have n2_ := Aside0.mk (Kd.R_below (rd_ HO_5.out) hb); have n3_ := Aside0.mk (Kd.R_below (rd_ HO_7.out) hb); have n4_ := Aside0.mk (below_step (hd_ HB.out) hb); clear HO_3; clear HO_4; clear HO_5; clear HO_7; clear HB; have HO_3 := n0_; have HO_4 := n1_; have HO_5 := n2_; have HO_7 := n3_; have HB := n4_; clear n0_ n1_ n2_ n3_ n4_; (try clear hb)))
                    have n0_ := Aside0.mk (Kd.R_drew HO_3.out)
                    have n1_ := Aside0.mk (Kd.R_drew HO_4.out)
                    have n2_ := Aside0.mk (Kd.R_drew HO_5.out)
                    have n3_ := Aside0.mk (Kd.R_drew HO_7.out)
                    have n4_ := Aside0.mk (below_drew1 HB.out)
                    clear HO_3
                    clear HO_4
                    clear HO_5
                    clear HO_7
                    clear HB
                    have HO_3 := n0_
                    have HO_4 := n1_
                    have HO_5 := n2_
                    have HO_7 := n3_
                    have HB := n4_
                    clear n0_ n1_ n2_ n3_ n4_
                    have p587 : 0 ≤ (x8_2 : Int) := of_decide_eq_true as_
                    have q587 : x8_2 < (t582.length : Int) := of_decide_eq_true as_
                    obtain ⟨ad587, e587, hx587_0, hx587_1, hx587_2⟩ := at_T33 (Kd.R_reads' HO_7.out).2.2 x8_2 p587 q587
                    obtain rfl : ad585 = ad587 := (by injection e587)
                    replace p587 := eq_true p587
                    replace q587 := eq_true q587
                    have p588 : 0 ≤ (t586 : Int) := of_decide_eq_true as_
                    have q588 : t586 < (t572.length : Int) := of_decide_eq_true as_
                    obtain ⟨ad588, e588, hx588_0, hx588_1, hx588_2, hx588_3, hx588_4, hx588_5, hx588_6, hx588_7⟩ := at_T38 (Kd.R_reads' HO_3.out).2.2 t586 p588 q588
                    cases e588
                    replace p588 := eq_true p588
                    replace q588 := eq_true q588
                    have p592 : 0 ≤ ((ji25) : Int) := of_decide_eq_true as_
                    have q592 : (ji25) < (t582.length : Int) := of_decide_eq_true as_
                    obtain ⟨ad592, e592, hx592_0, hx592_1, hx592_2⟩ := at_T33 (Kd.R_reads' HO_7.out).2.2 (ji25) p592 q592
                    obtain rfl : ad585 = ad592 := (by injection e592)
                    replace p592 := eq_true p592
                    replace q592 := eq_true q592
                    have p593 : 0 ≤ (x8_2 : Int) := of_decide_eq_true as_
                    have q593 : x8_2 < (t582.length : Int) := of_decide_eq_true as_
                    obtain ⟨ad593, e593, hx593_0, hx593_1, hx593_2⟩ := at_T33 (Kd.R_reads' HO_7.out).2.2 x8_2 p593 q593
                    obtain rfl : ad585 = ad593 := (by injection e593)
                    replace p593 := eq_true p593
                    replace q593 := eq_true q593
                    have p594 : 0 ≤ (x8_2 : Int) := of_decide_eq_true as_
                    have q594 : x8_2 < (t582.length : Int) := of_decide_eq_true as_
                    obtain ⟨ad594, e594, hx594_0, hx594_1, hx594_2⟩ := at_T33 (Kd.R_reads' HO_7.out).2.2 x8_2 p594 q594
                    obtain rfl : ad585 = ad594 := (by injection e594)
                    replace p594 := eq_true p594
                    replace q594 := eq_true q594
                    have p596 : 0 ≤ (x8_2 : Int) := of_decide_eq_true as_
                    have q596 : x8_2 < (t582.length : Int) := of_decide_eq_true as_
                    obtain ⟨ad596, e596, hx596_0, hx596_1, hx596_2⟩ := at_T33 (Kd.R_reads' HO_7.out).2.2 x8_2 p596 q596
                    obtain rfl : ad585 = ad596 := (by injection e596)
                    replace p596 := eq_true p596
                    replace q596 := eq_true q596
                    have p597 : 0 ≤ (x8_2 : Int) := of_decide_eq_true as_
                    have q597 : x8_2 < (t582.length : Int) := of_decide_eq_true as_
                    obtain ⟨ad597, e597, hx597_0, hx597_1, hx597_2⟩ := at_T33 (Kd.R_reads' HO_7.out).2.2 x8_2 p597 q597
                    obtain rfl : ad585 = ad597 := (by injection e597)
                    replace p597 := eq_true p597
                    replace q597 := eq_true q597
                    refine start_ (n := 69) (S := fun w' => q6_ w' (ad585.add ((x8_2).toNat * 3)) ((rd_T33 t582 x8_2).f0) ((rd_T33 t582 x8_2).f1) ((rd_T33 t582 x8_2).f2) (q4_ w' (ad588.add ((t586).toNat * 8)) ((rd_T38 t572 t586).f0.f0) ((rd_T38 t572 t586).f0.f1) ((rd_T38 t572 t586).f0.f2) ((rd_T38 t572 t586).f0.f3) ((rd_T38 t572 t586).f0.f4) ((rd_T38 t572 t586).f1) ((rd_T38 t572 t586).f2) ((rd_T38 t572 t586).f3) (q6_ w' (ad585.add (((ji25)).toNat * 3)) ((rd_T33 t582 (ji25)).f0) ((rd_T33 t582 (ji25)).f1) ((rd_T33 t582 (ji25)).f2) (q6_ w' (ad585.add ((x8_2).toNat * 3)) ((rd_T33 t582 x8_2).f0) ((rd_T33 t582 x8_2).f1) ((rd_T33 t582 x8_2).f2) (q6_ w' (ad585.add ((x8_2).toNat * 3)) ((rd_T33 t582 x8_2).f0) ((rd_T33 t582 x8_2).f1) ((rd_T33 t582 x8_2).f2) (q6_ w' (ad585.add ((x8_2).toNat * 3)) ((rd_T33 t582 x8_2).f0) ((rd_T33 t582 x8_2).f1) ((rd_T33 t582 x8_2).f2) (q6e_ w' (ad585.add ((x8_2).toNat * 3)) ((rd_T33 t582 x8_2).f0) ((rd_T33 t582 x8_2).f1) ((rd_T33 t582 x8_2).f2)))))))) (ds := []) M4_0 (by kernel_rfl) rfl rfl ⟨hx587_0, hx587_1, hx587_2, hx588_0, hx588_1, hx588_2, hx588_3, hx588_4, hx588_5, hx588_6, hx588_7, hx592_0, hx592_1, hx592_2, hx593_0, hx593_1, hx593_2, hx594_0, hx594_1, hx594_2, hx596_0, hx596_1, hx596_2, hx597_0, hx597_1, hx597_2⟩ (fun hHeld => ?_); refine with_tabW laws_FnTasks.tab11 laws_FnTasks.bits11 (fun HT_ HW_ => ?_)
                    generalize w35.drew = w36 at HO_3 HO_4 HO_5 HO_7 HB hx587_0 hx587_1 hx587_2 hx588_0 hx588_1 hx588_2 hx588_3 hx588_4 hx588_5 hx588_6 hx588_7 hx592_0 hx592_1 hx592_2 hx593_0 hx593_1 hx593_2 hx594_0 hx594_1 hx594_2 hx596_0 hx596_1 hx596_2 hx597_0 hx597_1 hx597_2 hHeld ⊢
                    refine pu_ 0 (some 49) M4_1 HT_ ?_
                    refine pu_ 1 (some 50) M4_2 HT_ ?_
                    refine pu_ 2 (some 51) M4_3 HT_ ?_
                    refine pu_ 3 (some 52) M4_4 HT_ ?_
                    refine pu_ 4 (some 53) M4_5 HT_ ?_
                    refine pu_ 5 (some 54) M4_6 HT_ ?_
                    refine pu_ 7 (some 56) M4_7 HT_ ?_
                    refine pu_ 8 (some 57) M4_8 HT_ ?_
                    refine pu_ 9 (some 58) M4_9 HT_ ?_
                    refine pu_ 11 (some 60) M4_10 HT_ ?_
                    refine pu_ 12 (some 61) M4_11 HT_ ?_
                    refine pu_ 13 (some 62) M4_12 HT_ ?_
                    refine tk_ 6 (some 55) M4_13 HT_ HW_ hHeld ?_
                    refine tk_ 10 (some 59) M4_14 HT_ HW_ hHeld ?_
                    refine one_ (i := 14) (N := some 63) M4_15 rfl rfl (one_of HT_.out (by kernel_rfl)) (by decide) (fun K hK => ?_)
                    refine goes_ Tryd.func9 (by kernel_rfl) rfl #[.agg #[.int .i64 ((rd_T38 t572 t586).f0.f0), .int .i64 ((rd_T38 t572 t586).f0.f1), .int .i64 ((rd_T38 t572 t586).f0.f2), .int .i64 ((rd_T38 t572 t586).f0.f3), .int .i64 ((rd_T38 t572 t586).f0.f4), .int .i64 ((rd_T38 t572 t586).f1), .int .i64 ((rd_T38 t572 t586).f2), .int .i64 ((rd_T38 t572 t586).f3)], .slice Ao9 t573.length co9, .slice Ao10 t574.length co10, .int .i64 t575] (by rfl) rfl rfl ma_ ?_
                    with_reducible refine (impl_TaskOf.calls k2 ((rd_T38 t572 t586).f0.f0) ((rd_T38 t572 t586).f0.f1) ((rd_T38 t572 t586).f0.f2) ((rd_T38 t572 t586).f0.f3) ((rd_T38 t572 t586).f0.f4) ((rd_T38 t572 t586).f1) ((rd_T38 t572 t586).f2) ((rd_T38 t572 t586).f3) _ _ t573 _ _ t574 t575 t589 t590 t591 _ ?side1 ?side2 ?side3 ?side4 A22.out).mono ?_
                    (case side1 => exact cd_ (Kd.R_reads' HO_4.out).2.2)
                    (case side2 => exact (Kd.R_reads' HO_4.out).2.1)
                    (case side3 => exact cd_ (Kd.R_reads' HO_5.out).2.2)
                    (case side4 => exact (Kd.R_reads' HO_5.out).2.1)
                    rintro e w37 ⟨rfl, hb⟩
                    have HS0_ := (hb.cell (World.block_lt_of_cell? _ _ (hHeld.1))).trans (hHeld.1)
                    have HS1_ := (hb.cell (World.block_lt_of_cell? _ _ (hHeld.2.1))).trans (hHeld.2.1)
                    have HS2_ := (hb.cell (World.block_lt_of_cell? _ _ (hHeld.2.2.1))).trans (hHeld.2.2.1)
                    have HS3_ := (hb.cell (World.block_lt_of_cell? _ _ (hHeld.2.2.2.1))).trans (hHeld.2.2.2.1)
                    have HS4_ := (hb.cell (World.block_lt_of_cell? _ _ (hHeld.2.2.2.2.1))).trans (hHeld.2.2.2.2.1)
                    have HS5_ := (hb.cell (World.block_lt_of_cell? _ _ (hHeld.2.2.2.2.2.1))).trans (hHeld.2.2.2.2.2.1)
                    have HS6_ := (hb.cell (World.block_lt_of_cell? _ _ (hHeld.2.2.2.2.2.2.1))).trans (hHeld.2.2.2.2.2.2.1)
                    have HS7_ := (hb.cell (World.block_lt_of_cell? _ _ (hHeld.2.2.2.2.2.2.2.1))).trans (hHeld.2.2.2.2.2.2.2.1)
                    have HS8_ := (hb.cell (World.block_lt_of_cell? _ _ (hHeld.2.2.2.2.2.2.2.2.1))).trans (hHeld.2.2.2.2.2.2.2.2.1)
                    have HS9_ := (hb.cell (World.block_lt_of_cell? _ _ (hHeld.2.2.2.2.2.2.2.2.2.1))).trans (hHeld.2.2.2.2.2.2.2.2.2.1)
                    have HS10_ := (hb.cell (World.block_lt_of_cell? _ _ (hHeld.2.2.2.2.2.2.2.2.2.2.1))).trans (hHeld.2.2.2.2.2.2.2.2.2.2.1)
                    have HS11_ := (hb.cell (World.block_lt_of_cell? _ _ (hHeld.2.2.2.2.2.2.2.2.2.2.2.1))).trans (hHeld.2.2.2.2.2.2.2.2.2.2.2.1)
                    have HS12_ := (hb.cell (World.block_lt_of_cell? _ _ (hHeld.2.2.2.2.2.2.2.2.2.2.2.2.1))).trans (hHeld.2.2.2.2.2.2.2.2.2.2.2.2.1)
                    have HS13_ := (hb.cell (World.block_lt_of_cell? _ _ (hHeld.2.2.2.2.2.2.2.2.2.2.2.2.2.1))).trans (hHeld.2.2.2.2.2.2.2.2.2.2.2.2.2.1)
                    have HS14_ := (hb.cell (World.block_lt_of_cell? _ _ (hHeld.2.2.2.2.2.2.2.2.2.2.2.2.2.2.1))).trans (hHeld.2.2.2.2.2.2.2.2.2.2.2.2.2.2.1)
                    have HS15_ := (hb.cell (World.block_lt_of_cell? _ _ (hHeld.2.2.2.2.2.2.2.2.2.2.2.2.2.2.2.1))).trans (hHeld.2.2.2.2.2.2.2.2.2.2.2.2.2.2.2.1)
                    have HS16_ := (hb.cell (World.block_lt_of_cell? _ _ (hHeld.2.2.2.2.2.2.2.2.2.2.2.2.2.2.2.2.1))).trans (hHeld.2.2.2.2.2.2.2.2.2.2.2.2.2.2.2.2.1)
                    have HS17_ := (hb.cell (World.block_lt_of_cell? _ _ (hHeld.2.2.2.2.2.2.2.2.2.2.2.2.2.2.2.2.2.1))).trans (hHeld.2.2.2.2.2.2.2.2.2.2.2.2.2.2.2.2.2.1)
                    have HS18_ := (hb.cell (World.block_lt_of_cell? _ _ (hHeld.2.2.2.2.2.2.2.2.2.2.2.2.2.2.2.2.2.2.1))).trans (hHeld.2.2.2.2.2.2.2.2.2.2.2.2.2.2.2.2.2.2.1)
                    have HS19_ := (hb.cell (World.block_lt_of_cell? _ _ (hHeld.2.2.2.2.2.2.2.2.2.2.2.2.2.2.2.2.2.2.2.1))).trans (hHeld.2.2.2.2.2.2.2.2.2.2.2.2.2.2.2.2.2.2.2.1)
                    have HS20_ := (hb.cell (World.block_lt_of_cell? _ _ (hHeld.2.2.2.2.2.2.2.2.2.2.2.2.2.2.2.2.2.2.2.2.1))).trans (hHeld.2.2.2.2.2.2.2.2.2.2.2.2.2.2.2.2.2.2.2.2.1)
                    have HS21_ := (hb.cell (World.block_lt_of_cell? _ _ (hHeld.2.2.2.2.2.2.2.2.2.2.2.2.2.2.2.2.2.2.2.2.2.1))).trans (hHeld.2.2.2.2.2.2.2.2.2.2.2.2.2.2.2.2.2.2.2.2.2.1)
                    have HS22_ := (hb.cell (World.block_lt_of_cell? _ _ (hHeld.2.2.2.2.2.2.2.2.2.2.2.2.2.2.2.2.2.2.2.2.2.2.1))).trans (hHeld.2.2.2.2.2.2.2.2.2.2.2.2.2.2.2.2.2.2.2.2.2.2.1)
                    have HS23_ := (hb.cell (World.block_lt_of_cell? _ _ (hHeld.2.2.2.2.2.2.2.2.2.2.2.2.2.2.2.2.2.2.2.2.2.2.2.1))).trans (hHeld.2.2.2.2.2.2.2.2.2.2.2.2.2.2.2.2.2.2.2.2.2.2.2.1)
                    have HS24_ := (hb.cell (World.block_lt_of_cell? _ _ (hHeld.2.2.2.2.2.2.2.2.2.2.2.2.2.2.2.2.2.2.2.2.2.2.2.2.1))).trans (hHeld.2.2.2.2.2.2.2.2.2.2.2.2.2.2.2.2.2.2.2.2.2.2.2.2.1)
                    have HS25_ := (hb.cell (World.block_lt_of_cell? _ _ (hHeld.2.2.2.2.2.2.2.2.2.2.2.2.2.2.2.2.2.2.2.2.2.2.2.2.2))).trans (hHeld.2.2.2.2.2.2.2.2.2.2.2.2.2.2.2.2.2.2.2.2.2.2.2.2.2)
                    refine ⟨_, rfl, ?_⟩
                    have n0_ := Aside0.mk (Kd.R_below (rd_ HO_3.out) hb)
                    have n1_ := Aside0.mk (Kd.R_below (rd_ HO_4.out) hb)
                    have n2_ := Aside0.mk (Kd.R_below (rd_ HO_5.out) hb)
                    have n3_ := Aside0.mk (Kd.R_below (rd_ HO_7.out) hb)
                    have n4_ := Aside0.mk (below_step (hd_ HB.out) hb)
                    clear HO_3
                    clear HO_4
                    clear HO_5
                    clear HO_7
                    clear HB
                    have HO_3 := n0_
                    have HO_4 := n1_
                    have HO_5 := n2_
                    have HO_7 := n3_
                    have HB := n4_
                    clear n0_ n1_ n2_ n3_ n4_
                    (try clear hb)
                    (try clear hb2)
                    (try clear hk)
                    (try clear hi)
                    refine hK.out _ _ ⟨HS0_, HS1_, HS2_, HS3_, HS4_, HS5_, HS6_, HS7_, HS8_, HS9_, HS10_, HS11_, HS12_, HS13_, HS14_, HS15_, HS16_, HS17_, HS18_, HS19_, HS20_, HS21_, HS22_, HS23_, HS24_, HS25_⟩ (fun hHeld => ?_)
                    clear hK K
                    refine norm_ (a' := ?_) ?_ ?_
                    rotate_left
                    ·
                     show Act.put _ (some 63) _ = _
                     simp only [Act.put, P4_1, P4_2, P4_3, i64_w, i32_w]
                     rfl
                    refine pu_ 15 (some 64) M4_16 HT_ ?_
                    refine pu_ 16 (some 65) M4_17 HT_ ?_
                    refine pu_ 17 (some 66) M4_18 HT_ ?_
                    refine pu_ 18 (some 67) M4_19 HT_ ?_
                    refine pu_ 19 (some 68) M4_20 HT_ ?_
                    refine pu_ 20 (some 69) M4_21 HT_ ?_
                    refine pu_ 21 (some 70) M4_22 HT_ ?_
                    refine pu_ 22 (some 71) M4_23 HT_ ?_
                    refine pu_ 23 (some 72) M4_24 HT_ ?_
                    refine pu_ 24 (some 73) M4_25 HT_ ?_
                    refine pu_ 25 (some 74) M4_26 HT_ ?_
                    refine pu_ 27 (some 76) M4_27 HT_ ?_
                    refine pu_ 28 (some 77) M4_28 HT_ ?_
                    refine pu_ 29 (some 78) M4_29 HT_ ?_
                    refine pu_ 30 (some 79) M4_30 HT_ ?_
                    refine tk_ 26 (some 75) M4_31 HT_ HW_ hHeld ?_
                    refine tk_ 31 (some 80) M4_32 HT_ HW_ hHeld ?_
                    refine pu_ 32 (some 81) M4_33 HT_ ?_
                    refine pu_ 33 (some 82) M4_34 HT_ ?_
                    refine pu_ 34 (some 83) M4_35 HT_ ?_
                    refine pu_ 35 (some 84) M4_36 HT_ ?_
                    refine pu_ 36 (some 85) M4_37 HT_ ?_
                    refine pu_ 37 (some 86) M4_38 HT_ ?_
                    refine pu_ 38 (some 87) M4_39 HT_ ?_
                    refine tk_ 39 (some 88) M4_40 HT_ HW_ hHeld ?_
                    refine one_ (i := 40) (N := some 89) M4_41 rfl rfl (one_of HT_.out (by kernel_rfl)) (by decide) (fun K hK => ?_)
                    refine goes_ Tryd.func10 (by kernel_rfl) rfl #[.agg #[.int .i64 ((rd_T33 t582 x8_2).f0), .int .i64 ((rd_T33 t582 x8_2).f1), .int .i64 ((rd_T33 t582 x8_2).f2)]] (by rfl) rfl rfl ma_ ?_
                    with_reducible refine (impl_TaskText.calls ((rd_T33 t582 x8_2).f0) ((rd_T33 t582 x8_2).f1) ((rd_T33 t582 x8_2).f2) t595 _ A29.out (TB_.below (hd_ HB.out))).mono ?_
                    rintro e w38 ⟨rfl, hb⟩
                    have HS0_ := (hb.cell (World.block_lt_of_cell? _ _ (hHeld.1))).trans (hHeld.1)
                    have HS1_ := (hb.cell (World.block_lt_of_cell? _ _ (hHeld.2.1))).trans (hHeld.2.1)
                    have HS2_ := (hb.cell (World.block_lt_of_cell? _ _ (hHeld.2.2.1))).trans (hHeld.2.2.1)
                    have HS3_ := (hb.cell (World.block_lt_of_cell? _ _ (hHeld.2.2.2.1))).trans (hHeld.2.2.2.1)
                    have HS4_ := (hb.cell (World.block_lt_of_cell? _ _ (hHeld.2.2.2.2.1))).trans (hHeld.2.2.2.2.1)
                    have HS5_ := (hb.cell (World.block_lt_of_cell? _ _ (hHeld.2.2.2.2.2.1))).trans (hHeld.2.2.2.2.2.1)
                    have HS6_ := (hb.cell (World.block_lt_of_cell? _ _ (hHeld.2.2.2.2.2.2.1))).trans (hHeld.2.2.2.2.2.2.1)
                    have HS7_ := (hb.cell (World.block_lt_of_cell? _ _ (hHeld.2.2.2.2.2.2.2.1))).trans (hHeld.2.2.2.2.2.2.2.1)
                    have HS8_ := (hb.cell (World.block_lt_of_cell? _ _ (hHeld.2.2.2.2.2.2.2.2.1))).trans (hHeld.2.2.2.2.2.2.2.2.1)
                    have HS9_ := (hb.cell (World.block_lt_of_cell? _ _ (hHeld.2.2.2.2.2.2.2.2.2.1))).trans (hHeld.2.2.2.2.2.2.2.2.2.1)
                    have HS10_ := (hb.cell (World.block_lt_of_cell? _ _ (hHeld.2.2.2.2.2.2.2.2.2.2.1))).trans (hHeld.2.2.2.2.2.2.2.2.2.2.1)
                    have HS11_ := (hb.cell (World.block_lt_of_cell? _ _ (hHeld.2.2.2.2.2.2.2.2.2.2.2.1))).trans (hHeld.2.2.2.2.2.2.2.2.2.2.2.1)
                    have HS12_ := (hb.cell (World.block_lt_of_cell? _ _ (hHeld.2.2.2.2.2.2.2.2.2.2.2.2.1))).trans (hHeld.2.2.2.2.2.2.2.2.2.2.2.2.1)
                    have HS13_ := (hb.cell (World.block_lt_of_cell? _ _ (hHeld.2.2.2.2.2.2.2.2.2.2.2.2.2.1))).trans (hHeld.2.2.2.2.2.2.2.2.2.2.2.2.2.1)
                    have HS14_ := (hb.cell (World.block_lt_of_cell? _ _ (hHeld.2.2.2.2.2.2.2.2.2.2.2.2.2.2.1))).trans (hHeld.2.2.2.2.2.2.2.2.2.2.2.2.2.2.1)
                    have HS15_ := (hb.cell (World.block_lt_of_cell? _ _ (hHeld.2.2.2.2.2.2.2.2.2.2.2.2.2.2.2.1))).trans (hHeld.2.2.2.2.2.2.2.2.2.2.2.2.2.2.2.1)
                    have HS16_ := (hb.cell (World.block_lt_of_cell? _ _ (hHeld.2.2.2.2.2.2.2.2.2.2.2.2.2.2.2.2.1))).trans (hHeld.2.2.2.2.2.2.2.2.2.2.2.2.2.2.2.2.1)
                    have HS17_ := (hb.cell (World.block_lt_of_cell? _ _ (hHeld.2.2.2.2.2.2.2.2.2.2.2.2.2.2.2.2.2.1))).trans (hHeld.2.2.2.2.2.2.2.2.2.2.2.2.2.2.2.2.2.1)
                    have HS18_ := (hb.cell (World.block_lt_of_cell? _ _ (hHeld.2.2.2.2.2.2.2.2.2.2.2.2.2.2.2.2.2.2.1))).trans (hHeld.2.2.2.2.2.2.2.2.2.2.2.2.2.2.2.2.2.2.1)
                    have HS19_ := (hb.cell (World.block_lt_of_cell? _ _ (hHeld.2.2.2.2.2.2.2.2.2.2.2.2.2.2.2.2.2.2.2.1))).trans (hHeld.2.2.2.2.2.2.2.2.2.2.2.2.2.2.2.2.2.2.2.1)
                    have HS20_ := (hb.cell (World.block_lt_of_cell? _ _ (hHeld.2.2.2.2.2.2.2.2.2.2.2.2.2.2.2.2.2.2.2.2.1))).trans (hHeld.2.2.2.2.2.2.2.2.2.2.2.2.2.2.2.2.2.2.2.2.1)
                    have HS21_ := (hb.cell (World.block_lt_of_cell? _ _ (hHeld.2.2.2.2.2.2.2.2.2.2.2.2.2.2.2.2.2.2.2.2.2.1))).trans (hHeld.2.2.2.2.2.2.2.2.2.2.2.2.2.2.2.2.2.2.2.2.2.1)
                    have HS22_ := (hb.cell (World.block_lt_of_cell? _ _ (hHeld.2.2.2.2.2.2.2.2.2.2.2.2.2.2.2.2.2.2.2.2.2.2.1))).trans (hHeld.2.2.2.2.2.2.2.2.2.2.2.2.2.2.2.2.2.2.2.2.2.2.1)
                    have HS23_ := (hb.cell (World.block_lt_of_cell? _ _ (hHeld.2.2.2.2.2.2.2.2.2.2.2.2.2.2.2.2.2.2.2.2.2.2.2.1))).trans (hHeld.2.2.2.2.2.2.2.2.2.2.2.2.2.2.2.2.2.2.2.2.2.2.2.1)
                    have HS24_ := (hb.cell (World.block_lt_of_cell? _ _ (hHeld.2.2.2.2.2.2.2.2.2.2.2.2.2.2.2.2.2.2.2.2.2.2.2.2.1))).trans (hHeld.2.2.2.2.2.2.2.2.2.2.2.2.2.2.2.2.2.2.2.2.2.2.2.2.1)
                    have HS25_ := (hb.cell (World.block_lt_of_cell? _ _ (hHeld.2.2.2.2.2.2.2.2.2.2.2.2.2.2.2.2.2.2.2.2.2.2.2.2.2))).trans (hHeld.2.2.2.2.2.2.2.2.2.2.2.2.2.2.2.2.2.2.2.2.2.2.2.2.2)
                    refine ⟨_, rfl, ?_⟩
                    have n0_ := Aside0.mk (Kd.R_below (rd_ HO_3.out) hb)
                    have n1_ := Aside0.mk (Kd.R_below (rd_ HO_4.out) hb)
                    have n2_ := Aside0.mk (Kd.R_below (rd_ HO_5.out) hb)
                    have n3_ := Aside0.mk (Kd.R_below (rd_ HO_7.out) hb)
                    have n4_ := Aside0.mk (below_step (hd_ HB.out) hb)
                    clear HO_3
                    clear HO_4
                    clear HO_5
                    clear HO_7
                    clear HB
                    have HO_3 := n0_
                    have HO_4 := n1_
                    have HO_5 := n2_
                    have HO_7 := n3_
                    have HB := n4_
                    clear n0_ n1_ n2_ n3_ n4_
                    (try clear hb)
                    (try clear hb2)
                    (try clear hk)
                    (try clear hi)
                    refine hK.out _ _ ⟨HS0_, HS1_, HS2_, HS3_, HS4_, HS5_, HS6_, HS7_, HS8_, HS9_, HS10_, HS11_, HS12_, HS13_, HS14_, HS15_, HS16_, HS17_, HS18_, HS19_, HS20_, HS21_, HS22_, HS23_, HS24_, HS25_⟩ (fun hHeld => ?_)
                    clear hK K
                    refine norm_ (a' := ?_) ?_ ?_
                    rotate_left
                    ·
                     show Act.put _ (some 89) _ = _
                     simp only [Act.put, P4_1, P4_2, P4_3, i64_w, i32_w]
                     rfl
                    refine pu_ 41 (some 90) M4_42 HT_ ?_
                    refine pu_ 42 (some 91) M4_43 HT_ ?_
                    refine pu_ 43 (some 92) M4_44 HT_ ?_
                    refine pu_ 44 (some 93) M4_45 HT_ ?_
                    refine pu_ 45 (some 94) M4_46 HT_ ?_
                    refine pu_ 46 (some 95) M4_47 HT_ ?_
                    refine pu_ 47 (some 96) M4_48 HT_ ?_
                    refine tk_ 48 (some 97) M4_49 HT_ HW_ hHeld ?_
                    refine pu_ 49 (some 98) M4_50 HT_ ?_
                    refine pu_ 50 (some 99) M4_51 HT_ ?_
                    refine pn_ 51 (some 100) M4_52 HT_ ?_
                    refine pn_ 52 (some 101) M4_53 HT_ ?_
                    refine pn_ 53 (some 102) M4_54 HT_ ?_
                    refine pn_ 54 (some 103) M4_55 HT_ ?_
                    refine pn_ 55 (some 104) M4_56 HT_ ?_
                    refine pn_ 56 (some 105) M4_57 HT_ ?_
                    refine pu_ 57 (some 106) M4_58 HT_ ?_
                    refine pu_ 58 (some 107) M4_59 HT_ ?_
                    refine pu_ 59 (some 108) M4_60 HT_ ?_
                    refine pu_ 60 (some 109) M4_61 HT_ ?_
                    refine pu_ 61 (some 110) M4_62 HT_ ?_
                    refine pu_ 62 (some 111) M4_63 HT_ ?_
                    refine pu_ 63 (some 112) M4_64 HT_ ?_
                    refine tk_ 64 (some 113) M4_65 HT_ HW_ hHeld ?_
                    refine one_ (i := 65) (N := some 114) M4_66 rfl rfl (one_of HT_.out (by kernel_rfl)) (by decide) (fun K hK => ?_)
                    refine goes_ Tryd.func11 (by kernel_rfl) rfl #[.slice Ao10 t574.length co10, .int .i64 ((rd_T33 t582 x8_2).f2)] (by rfl) rfl rfl ma_ ?_
                    with_reducible refine (impl_IsOpen.calls k2 _ _ t574 ((rd_T33 t582 x8_2).f2) true _ ?side1 ?side2 A32.out).mono ?_
                    (case side1 => exact cd_ (Kd.R_reads' HO_5.out).2.2)
                    (case side2 => exact (Kd.R_reads' HO_5.out).2.1)
                    rintro e w' ⟨rfl, ⟨nd, rfl⟩⟩
                    refine ⟨_, rfl, ?_⟩
                    refine hK.out _ _ ⟨hHeld.1, hHeld.2.1, hHeld.2.2.1, hHeld.2.2.2.1, hHeld.2.2.2.2.1, hHeld.2.2.2.2.2.1, hHeld.2.2.2.2.2.2.1, hHeld.2.2.2.2.2.2.2.1, hHeld.2.2.2.2.2.2.2.2.1, hHeld.2.2.2.2.2.2.2.2.2.1, hHeld.2.2.2.2.2.2.2.2.2.2.1, hHeld.2.2.2.2.2.2.2.2.2.2.2.1, hHeld.2.2.2.2.2.2.2.2.2.2.2.2.1, hHeld.2.2.2.2.2.2.2.2.2.2.2.2.2.1, hHeld.2.2.2.2.2.2.2.2.2.2.2.2.2.2.1, hHeld.2.2.2.2.2.2.2.2.2.2.2.2.2.2.2.1, hHeld.2.2.2.2.2.2.2.2.2.2.2.2.2.2.2.2.1, hHeld.2.2.2.2.2.2.2.2.2.2.2.2.2.2.2.2.2.1, hHeld.2.2.2.2.2.2.2.2.2.2.2.2.2.2.2.2.2.2.1, hHeld.2.2.2.2.2.2.2.2.2.2.2.2.2.2.2.2.2.2.2.1, hHeld.2.2.2.2.2.2.2.2.2.2.2.2.2.2.2.2.2.2.2.2.1, hHeld.2.2.2.2.2.2.2.2.2.2.2.2.2.2.2.2.2.2.2.2.2.1, hHeld.2.2.2.2.2.2.2.2.2.2.2.2.2.2.2.2.2.2.2.2.2.2.1, hHeld.2.2.2.2.2.2.2.2.2.2.2.2.2.2.2.2.2.2.2.2.2.2.2.1, hHeld.2.2.2.2.2.2.2.2.2.2.2.2.2.2.2.2.2.2.2.2.2.2.2.2.1, hHeld.2.2.2.2.2.2.2.2.2.2.2.2.2.2.2.2.2.2.2.2.2.2.2.2.2⟩ (fun hHeld => ?_)
                    clear hK K
                    refine norm_ (a' := ?_) ?_ ?_
                    rotate_left
                    ·
                     show Act.put _ (some 114) _ = _
                     simp only [Act.put, P4_1, P4_2, P4_3, i64_w, i32_w]
                     rfl
                    refine pu_ 66 (some 115) M4_67 HT_ ?_
                    refine pu_ 67 (some 116) M4_68 HT_ ?_
                    refine pu_ 68 (some 117) M4_69 HT_ ?_
                    refine done_ (done_of HT_.out (by kernel_rfl)) ?_
                    try go_wp2
                    go_roundg k2
                    case measure => have := HJ5.out; have := HK2.out; omega
                    case rel => exact ⟨(wrap64 (x8_2 + 1)), y232_, H', ⟨by have := HJ5.out; have := HK2.out; omega⟩, ⟨rd_ HO_3.out⟩, ⟨rd_ HO_4.out⟩, ⟨rd_ HO_5.out⟩, ⟨rd_ HO_7.out⟩, ⟨hd_ HB.out⟩⟩
                   ·
                    replace c33 := Bool.eq_false_iff.mpr c33
                    subst c33
                    have H1 : (some false) = some true := by rw [if_neg (show ¬ (false = true) by decide)] at H; exact H
                    clear H
                    have H := H1
                    clear H1
                    exact absurd H (by simp)
                  ·
                   rw [if_neg c31] at H
                   have c31b0 : (((rd_T33 t582 x8_2).f1) == 1) = false := beq_eq_false_iff_ne.mpr c31
                   have c31b1 : (((rd_T33 t582 x8_2).f1) != 1) = true := bne_iff_ne.mpr c31
                   by_cases c39 : ((rd_T33 t582 x8_2).f1) = 0
                   ·
                    rw [if_pos c39] at H
                    have c39b0 : (((rd_T33 t582 x8_2).f1) == 0) = true := beq_iff_eq.mpr c39
                    have c39b1 : (((rd_T33 t582 x8_2).f1) != 0) = false := bne_eq_false_iff_eq.mpr c39
                    clear c39
                    replace H := Option.bind_eq_some_iff.mp H
                    obtain ⟨t601, A400, H⟩ := H
                    replace H : (if t601 = true then (laws_FnTasks.l0 k2 t572 t573 t574 t575 t582 (wrap64 (x8_2 + 1))) else (some false)) = some true := H
                    have A40 := Aside0.mk A400
                    clear A400
                    by_cases c41 : t601 = true
                    ·
                     subst c41
                     have H1 : (laws_FnTasks.l0 k2 t572 t573 t574 t575 t582 (wrap64 (x8_2 + 1))) = some true := by rw [if_pos rfl] at H; exact H
                     clear H
                     have H := H1
                     clear H1
                     have H' := Aside0.mk H
                     clear H
                     obtain ⟨Ao42, co42, eo42⟩ := Kd.R_slice HO_7.out
                     subst eo42
                     have p585 : 0 ≤ (x8_2 : Int) := of_decide_eq_true as_
                     have q585 : x8_2 < (t582.length : Int) := of_decide_eq_true as_
                     obtain ⟨ad585, e585, hx585_0, hx585_1, hx585_2⟩ := at_T33 (Kd.R_reads' HO_7.out).2.2 x8_2 p585 q585
                     cases e585
                     replace p585 := eq_true p585
                     replace q585 := eq_true q585
                     try go_wp2_with (first | ((with_reducible refine gate_callee (f := 8) rfl ?_); refine goesL_ (some 48) rfl rfl Tryd.func8 (by kernel_rfl) rfl #[.slice Ao8 t572.length co8, .int .i64 ((rd_T33 t582 x8_2).f0)] rfl ma_ ?_; (with_reducible refine (impl_FindThing.calls _ _ t572 ((rd_T33 t582 x8_2).f0) t586 _ ?side1 ?side2 A18.out).mono ?_); (case side1 => exact cd_ (Kd.R_reads' HO_3.out).2.2); (case side2 => exact (Kd.R_reads' HO_3.out).2.1); rintro e w43 ⟨rfl, hb⟩; refine ⟨_, rfl, ?_⟩; have n0_ := Aside0.mk (Kd.R_below (rd_ HO_3.out) hb); have n1_ := Aside0.mk (Kd.R_below (rd_ HO_4.out) hb); have n2_ := Aside0.mk (Kd.R_below (rd_ HO_5.out) hb); have n3_ := Aside0.mk (Kd.R_below (rd_ HO_7.out) hb); have n4_ := Aside0.mk (below_step (hd_ HB.out) hb); clear HO_3; clear HO_4; clear HO_5; clear HO_7; clear HB; have HO_3 := n0_; have HO_4 := n1_; have HO_5 := n2_; have HO_7 := n3_; have HB := n4_; clear n0_ n1_ n2_ n3_ n4_; (try clear hb)))
                     have n0_ := Aside0.mk (Kd.R_drew HO_3.out)
                     have n1_ := Aside0.mk (Kd.R_drew HO_4.out)
                     have n2_ := Aside0.mk (Kd.R_drew HO_5.out)
                     have n3_ := Aside0.mk (Kd.R_drew HO_7.out)
                     have n4_ := Aside0.mk (below_drew1 HB.out)
                     clear HO_3
                     clear HO_4
                     clear HO_5
                     clear HO_7
                     clear HB
                     have HO_3 := n0_
                     have HO_4 := n1_
                     have HO_5 := n2_
                     have HO_7 := n3_
                     have HB := n4_
                     clear n0_ n1_ n2_ n3_ n4_
                     have p587 : 0 ≤ (x8_2 : Int) := of_decide_eq_true as_
                     have q587 : x8_2 < (t582.length : Int) := of_decide_eq_true as_
                     obtain ⟨ad587, e587, hx587_0, hx587_1, hx587_2⟩ := at_T33 (Kd.R_reads' HO_7.out).2.2 x8_2 p587 q587
                     obtain rfl : ad585 = ad587 := (by injection e587)
                     replace p587 := eq_true p587
                     replace q587 := eq_true q587
                     have p588 : 0 ≤ (t586 : Int) := of_decide_eq_true as_
                     have q588 : t586 < (t572.length : Int) := of_decide_eq_true as_
                     obtain ⟨ad588, e588, hx588_0, hx588_1, hx588_2, hx588_3, hx588_4, hx588_5, hx588_6, hx588_7⟩ := at_T38 (Kd.R_reads' HO_3.out).2.2 t586 p588 q588
                     cases e588
                     replace p588 := eq_true p588
                     replace q588 := eq_true q588
                     have p592 : 0 ≤ ((ji25) : Int) := of_decide_eq_true as_
                     have q592 : (ji25) < (t582.length : Int) := of_decide_eq_true as_
                     obtain ⟨ad592, e592, hx592_0, hx592_1, hx592_2⟩ := at_T33 (Kd.R_reads' HO_7.out).2.2 (ji25) p592 q592
                     obtain rfl : ad585 = ad592 := (by injection e592)
                     replace p592 := eq_true p592
                     replace q592 := eq_true q592
                     have p593 : 0 ≤ (x8_2 : Int) := of_decide_eq_true as_
                     have q593 : x8_2 < (t582.length : Int) := of_decide_eq_true as_
                     obtain ⟨ad593, e593, hx593_0, hx593_1, hx593_2⟩ := at_T33 (Kd.R_reads' HO_7.out).2.2 x8_2 p593 q593
                     obtain rfl : ad585 = ad593 := (by injection e593)
                     replace p593 := eq_true p593
                     replace q593 := eq_true q593
                     have p594 : 0 ≤ (x8_2 : Int) := of_decide_eq_true as_
                     have q594 : x8_2 < (t582.length : Int) := of_decide_eq_true as_
                     obtain ⟨ad594, e594, hx594_0, hx594_1, hx594_2⟩ := at_T33 (Kd.R_reads' HO_7.out).2.2 x8_2 p594 q594
                     obtain rfl : ad585 = ad594 := (by injection e594)
                     replace p594 := eq_true p594
                     replace q594 := eq_true q594
                     have p596 : 0 ≤ (x8_2 : Int) := of_decide_eq_true as_
                     have q596 : x8_2 < (t582.length : Int) := of_decide_eq_true as_
                     obtain ⟨ad596, e596, hx596_0, hx596_1, hx596_2⟩ := at_T33 (Kd.R_reads' HO_7.out).2.2 x8_2 p596 q596
                     obtain rfl : ad585 = ad596 := (by injection e596)
                     replace p596 := eq_true p596
                     replace q596 := eq_true q596
                     have p599 : 0 ≤ (x8_2 : Int) := of_decide_eq_true as_
                     have q599 : x8_2 < (t582.length : Int) := of_decide_eq_true as_
                     obtain ⟨ad599, e599, hx599_0, hx599_1, hx599_2⟩ := at_T33 (Kd.R_reads' HO_7.out).2.2 x8_2 p599 q599
                     obtain rfl : ad585 = ad599 := (by injection e599)
                     replace p599 := eq_true p599
                     replace q599 := eq_true q599
                     have p600 : 0 ≤ (x8_2 : Int) := of_decide_eq_true as_
                     have q600 : x8_2 < (t582.length : Int) := of_decide_eq_true as_
                     obtain ⟨ad600, e600, hx600_0, hx600_1, hx600_2⟩ := at_T33 (Kd.R_reads' HO_7.out).2.2 x8_2 p600 q600
                     obtain rfl : ad585 = ad600 := (by injection e600)
                     replace p600 := eq_true p600
                     replace q600 := eq_true q600
                     refine start_ (n := 69) (S := fun w' => q6_ w' (ad585.add ((x8_2).toNat * 3)) ((rd_T33 t582 x8_2).f0) ((rd_T33 t582 x8_2).f1) ((rd_T33 t582 x8_2).f2) (q4_ w' (ad588.add ((t586).toNat * 8)) ((rd_T38 t572 t586).f0.f0) ((rd_T38 t572 t586).f0.f1) ((rd_T38 t572 t586).f0.f2) ((rd_T38 t572 t586).f0.f3) ((rd_T38 t572 t586).f0.f4) ((rd_T38 t572 t586).f1) ((rd_T38 t572 t586).f2) ((rd_T38 t572 t586).f3) (q6_ w' (ad585.add (((ji25)).toNat * 3)) ((rd_T33 t582 (ji25)).f0) ((rd_T33 t582 (ji25)).f1) ((rd_T33 t582 (ji25)).f2) (q6_ w' (ad585.add ((x8_2).toNat * 3)) ((rd_T33 t582 x8_2).f0) ((rd_T33 t582 x8_2).f1) ((rd_T33 t582 x8_2).f2) (q6_ w' (ad585.add ((x8_2).toNat * 3)) ((rd_T33 t582 x8_2).f0) ((rd_T33 t582 x8_2).f1) ((rd_T33 t582 x8_2).f2) (q6_ w' (ad585.add ((x8_2).toNat * 3)) ((rd_T33 t582 x8_2).f0) ((rd_T33 t582 x8_2).f1) ((rd_T33 t582 x8_2).f2) (q6_ w' (ad585.add ((x8_2).toNat * 3)) ((rd_T33 t582 x8_2).f0) ((rd_T33 t582 x8_2).f1) ((rd_T33 t582 x8_2).f2) (q6e_ w' (ad585.add ((x8_2).toNat * 3)) ((rd_T33 t582 x8_2).f0) ((rd_T33 t582 x8_2).f1) ((rd_T33 t582 x8_2).f2))))))))) (ds := []) M4_0 (by kernel_rfl) rfl rfl ⟨hx587_0, hx587_1, hx587_2, hx588_0, hx588_1, hx588_2, hx588_3, hx588_4, hx588_5, hx588_6, hx588_7, hx592_0, hx592_1, hx592_2, hx593_0, hx593_1, hx593_2, hx594_0, hx594_1, hx594_2, hx596_0, hx596_1, hx596_2, hx599_0, hx599_1, hx599_2, hx600_0, hx600_1, hx600_2⟩ (fun hHeld => ?_); refine with_tabW laws_FnTasks.tab11 laws_FnTasks.bits11 (fun HT_ HW_ => ?_)
                     generalize w43.drew = w44 at HO_3 HO_4 HO_5 HO_7 HB hx587_0 hx587_1 hx587_2 hx588_0 hx588_1 hx588_2 hx588_3 hx588_4 hx588_5 hx588_6 hx588_7 hx592_0 hx592_1 hx592_2 hx593_0 hx593_1 hx593_2 hx594_0 hx594_1 hx594_2 hx596_0 hx596_1 hx596_2 hx599_0 hx599_1 hx599_2 hx600_0 hx600_1 hx600_2 hHeld ⊢
                     refine pu_ 0 (some 49) M4_1 HT_ ?_
                     refine pu_ 1 (some 50) M4_2 HT_ ?_
                     refine pu_ 2 (some 51) M4_3 HT_ ?_
                     refine pu_ 3 (some 52) M4_4 HT_ ?_
                     refine pu_ 4 (some 53) M4_5 HT_ ?_
                     refine pu_ 5 (some 54) M4_6 HT_ ?_
                     refine pu_ 7 (some 56) M4_7 HT_ ?_
                     refine pu_ 8 (some 57) M4_8 HT_ ?_
                     refine pu_ 9 (some 58) M4_9 HT_ ?_
                     refine pu_ 11 (some 60) M4_10 HT_ ?_
                     refine pu_ 12 (some 61) M4_11 HT_ ?_
                     refine pu_ 13 (some 62) M4_12 HT_ ?_
                     refine tk_ 6 (some 55) M4_13 HT_ HW_ hHeld ?_
                     refine tk_ 10 (some 59) M4_14 HT_ HW_ hHeld ?_
                     refine one_ (i := 14) (N := some 63) M4_15 rfl rfl (one_of HT_.out (by kernel_rfl)) (by decide) (fun K hK => ?_)
                     refine goes_ Tryd.func9 (by kernel_rfl) rfl #[.agg #[.int .i64 ((rd_T38 t572 t586).f0.f0), .int .i64 ((rd_T38 t572 t586).f0.f1), .int .i64 ((rd_T38 t572 t586).f0.f2), .int .i64 ((rd_T38 t572 t586).f0.f3), .int .i64 ((rd_T38 t572 t586).f0.f4), .int .i64 ((rd_T38 t572 t586).f1), .int .i64 ((rd_T38 t572 t586).f2), .int .i64 ((rd_T38 t572 t586).f3)], .slice Ao9 t573.length co9, .slice Ao10 t574.length co10, .int .i64 t575] (by rfl) rfl rfl ma_ ?_
                     with_reducible refine (impl_TaskOf.calls k2 ((rd_T38 t572 t586).f0.f0) ((rd_T38 t572 t586).f0.f1) ((rd_T38 t572 t586).f0.f2) ((rd_T38 t572 t586).f0.f3) ((rd_T38 t572 t586).f0.f4) ((rd_T38 t572 t586).f1) ((rd_T38 t572 t586).f2) ((rd_T38 t572 t586).f3) _ _ t573 _ _ t574 t575 t589 t590 t591 _ ?side1 ?side2 ?side3 ?side4 A22.out).mono ?_
                     (case side1 => exact cd_ (Kd.R_reads' HO_4.out).2.2)
                     (case side2 => exact (Kd.R_reads' HO_4.out).2.1)
                     (case side3 => exact cd_ (Kd.R_reads' HO_5.out).2.2)
                     (case side4 => exact (Kd.R_reads' HO_5.out).2.1)
                     rintro e w45 ⟨rfl, hb⟩
                     have HS0_ := (hb.cell (World.block_lt_of_cell? _ _ (hHeld.1))).trans (hHeld.1)
                     have HS1_ := (hb.cell (World.block_lt_of_cell? _ _ (hHeld.2.1))).trans (hHeld.2.1)
                     have HS2_ := (hb.cell (World.block_lt_of_cell? _ _ (hHeld.2.2.1))).trans (hHeld.2.2.1)
                     have HS3_ := (hb.cell (World.block_lt_of_cell? _ _ (hHeld.2.2.2.1))).trans (hHeld.2.2.2.1)
                     have HS4_ := (hb.cell (World.block_lt_of_cell? _ _ (hHeld.2.2.2.2.1))).trans (hHeld.2.2.2.2.1)
                     have HS5_ := (hb.cell (World.block_lt_of_cell? _ _ (hHeld.2.2.2.2.2.1))).trans (hHeld.2.2.2.2.2.1)
                     have HS6_ := (hb.cell (World.block_lt_of_cell? _ _ (hHeld.2.2.2.2.2.2.1))).trans (hHeld.2.2.2.2.2.2.1)
                     have HS7_ := (hb.cell (World.block_lt_of_cell? _ _ (hHeld.2.2.2.2.2.2.2.1))).trans (hHeld.2.2.2.2.2.2.2.1)
                     have HS8_ := (hb.cell (World.block_lt_of_cell? _ _ (hHeld.2.2.2.2.2.2.2.2.1))).trans (hHeld.2.2.2.2.2.2.2.2.1)
                     have HS9_ := (hb.cell (World.block_lt_of_cell? _ _ (hHeld.2.2.2.2.2.2.2.2.2.1))).trans (hHeld.2.2.2.2.2.2.2.2.2.1)
                     have HS10_ := (hb.cell (World.block_lt_of_cell? _ _ (hHeld.2.2.2.2.2.2.2.2.2.2.1))).trans (hHeld.2.2.2.2.2.2.2.2.2.2.1)
                     have HS11_ := (hb.cell (World.block_lt_of_cell? _ _ (hHeld.2.2.2.2.2.2.2.2.2.2.2.1))).trans (hHeld.2.2.2.2.2.2.2.2.2.2.2.1)
                     have HS12_ := (hb.cell (World.block_lt_of_cell? _ _ (hHeld.2.2.2.2.2.2.2.2.2.2.2.2.1))).trans (hHeld.2.2.2.2.2.2.2.2.2.2.2.2.1)
                     have HS13_ := (hb.cell (World.block_lt_of_cell? _ _ (hHeld.2.2.2.2.2.2.2.2.2.2.2.2.2.1))).trans (hHeld.2.2.2.2.2.2.2.2.2.2.2.2.2.1)
                     have HS14_ := (hb.cell (World.block_lt_of_cell? _ _ (hHeld.2.2.2.2.2.2.2.2.2.2.2.2.2.2.1))).trans (hHeld.2.2.2.2.2.2.2.2.2.2.2.2.2.2.1)
                     have HS15_ := (hb.cell (World.block_lt_of_cell? _ _ (hHeld.2.2.2.2.2.2.2.2.2.2.2.2.2.2.2.1))).trans (hHeld.2.2.2.2.2.2.2.2.2.2.2.2.2.2.2.1)
                     have HS16_ := (hb.cell (World.block_lt_of_cell? _ _ (hHeld.2.2.2.2.2.2.2.2.2.2.2.2.2.2.2.2.1))).trans (hHeld.2.2.2.2.2.2.2.2.2.2.2.2.2.2.2.2.1)
                     have HS17_ := (hb.cell (World.block_lt_of_cell? _ _ (hHeld.2.2.2.2.2.2.2.2.2.2.2.2.2.2.2.2.2.1))).trans (hHeld.2.2.2.2.2.2.2.2.2.2.2.2.2.2.2.2.2.1)
                     have HS18_ := (hb.cell (World.block_lt_of_cell? _ _ (hHeld.2.2.2.2.2.2.2.2.2.2.2.2.2.2.2.2.2.2.1))).trans (hHeld.2.2.2.2.2.2.2.2.2.2.2.2.2.2.2.2.2.2.1)
                     have HS19_ := (hb.cell (World.block_lt_of_cell? _ _ (hHeld.2.2.2.2.2.2.2.2.2.2.2.2.2.2.2.2.2.2.2.1))).trans (hHeld.2.2.2.2.2.2.2.2.2.2.2.2.2.2.2.2.2.2.2.1)
                     have HS20_ := (hb.cell (World.block_lt_of_cell? _ _ (hHeld.2.2.2.2.2.2.2.2.2.2.2.2.2.2.2.2.2.2.2.2.1))).trans (hHeld.2.2.2.2.2.2.2.2.2.2.2.2.2.2.2.2.2.2.2.2.1)
                     have HS21_ := (hb.cell (World.block_lt_of_cell? _ _ (hHeld.2.2.2.2.2.2.2.2.2.2.2.2.2.2.2.2.2.2.2.2.2.1))).trans (hHeld.2.2.2.2.2.2.2.2.2.2.2.2.2.2.2.2.2.2.2.2.2.1)
                     have HS22_ := (hb.cell (World.block_lt_of_cell? _ _ (hHeld.2.2.2.2.2.2.2.2.2.2.2.2.2.2.2.2.2.2.2.2.2.2.1))).trans (hHeld.2.2.2.2.2.2.2.2.2.2.2.2.2.2.2.2.2.2.2.2.2.2.1)
                     have HS23_ := (hb.cell (World.block_lt_of_cell? _ _ (hHeld.2.2.2.2.2.2.2.2.2.2.2.2.2.2.2.2.2.2.2.2.2.2.2.1))).trans (hHeld.2.2.2.2.2.2.2.2.2.2.2.2.2.2.2.2.2.2.2.2.2.2.2.1)
                     have HS24_ := (hb.cell (World.block_lt_of_cell? _ _ (hHeld.2.2.2.2.2.2.2.2.2.2.2.2.2.2.2.2.2.2.2.2.2.2.2.2.1))).trans (hHeld.2.2.2.2.2.2.2.2.2.2.2.2.2.2.2.2.2.2.2.2.2.2.2.2.1)
                     have HS25_ := (hb.cell (World.block_lt_of_cell? _ _ (hHeld.2.2.2.2.2.2.2.2.2.2.2.2.2.2.2.2.2.2.2.2.2.2.2.2.2.1))).trans (hHeld.2.2.2.2.2.2.2.2.2.2.2.2.2.2.2.2.2.2.2.2.2.2.2.2.2.1)
                     have HS26_ := (hb.cell (World.block_lt_of_cell? _ _ (hHeld.2.2.2.2.2.2.2.2.2.2.2.2.2.2.2.2.2.2.2.2.2.2.2.2.2.2.1))).trans (hHeld.2.2.2.2.2.2.2.2.2.2.2.2.2.2.2.2.2.2.2.2.2.2.2.2.2.2.1)
                     have HS27_ := (hb.cell (World.block_lt_of_cell? _ _ (hHeld.2.2.2.2.2.2.2.2.2.2.2.2.2.2.2.2.2.2.2.2.2.2.2.2.2.2.2.1))).trans (hHeld.2.2.2.2.2.2.2.2.2.2.2.2.2.2.2.2.2.2.2.2.2.2.2.2.2.2.2.1)
                     have HS28_ := (hb.cell (World.block_lt_of_cell? _ _ (hHeld.2.2.2.2.2.2.2.2.2.2.2.2.2.2.2.2.2.2.2.2.2.2.2.2.2.2.2.2))).trans (hHeld.2.2.2.2.2.2.2.2.2.2.2.2.2.2.2.2.2.2.2.2.2.2.2.2.2.2.2.2)
                     refine ⟨_, rfl, ?_⟩
                     have n0_ := Aside0.mk (Kd.R_below (rd_ HO_3.out) hb)
                     have n1_ := Aside0.mk (Kd.R_below (rd_ HO_4.out) hb)
                     have n2_ := Aside0.mk (Kd.R_below (rd_ HO_5.out) hb)
                     have n3_ := Aside0.mk (Kd.R_below (rd_ HO_7.out) hb)
                     have n4_ := Aside0.mk (below_step (hd_ HB.out) hb)
                     clear HO_3
                     clear HO_4
                     clear HO_5
                     clear HO_7
                     clear HB
                     have HO_3 := n0_
                     have HO_4 := n1_
                     have HO_5 := n2_
                     have HO_7 := n3_
                     have HB := n4_
                     clear n0_ n1_ n2_ n3_ n4_
                     (try clear hb)
                     (try clear hb2)
                     (try clear hk)
                     (try clear hi)
                     refine hK.out _ _ ⟨HS0_, HS1_, HS2_, HS3_, HS4_, HS5_, HS6_, HS7_, HS8_, HS9_, HS10_, HS11_, HS12_, HS13_, HS14_, HS15_, HS16_, HS17_, HS18_, HS19_, HS20_, HS21_, HS22_, HS23_, HS24_, HS25_, HS26_, HS27_, HS28_⟩ (fun hHeld => ?_)
                     clear hK K
                     refine norm_ (a' := ?_) ?_ ?_
                     rotate_left
                     ·
                      show Act.put _ (some 63) _ = _
                      simp only [Act.put, P4_1, P4_2, P4_3, i64_w, i32_w]
                      rfl
                     refine pu_ 15 (some 64) M4_16 HT_ ?_
                     refine pu_ 16 (some 65) M4_17 HT_ ?_
                     refine pu_ 17 (some 66) M4_18 HT_ ?_
                     refine pu_ 18 (some 67) M4_19 HT_ ?_
                     refine pu_ 19 (some 68) M4_20 HT_ ?_
                     refine pu_ 20 (some 69) M4_21 HT_ ?_
                     refine pu_ 21 (some 70) M4_22 HT_ ?_
                     refine pu_ 22 (some 71) M4_23 HT_ ?_
                     refine pu_ 23 (some 72) M4_24 HT_ ?_
                     refine pu_ 24 (some 73) M4_25 HT_ ?_
                     refine pu_ 25 (some 74) M4_26 HT_ ?_
                     refine pu_ 27 (some 76) M4_27 HT_ ?_
                     refine pu_ 28 (some 77) M4_28 HT_ ?_
                     refine pu_ 29 (some 78) M4_29 HT_ ?_
                     refine pu_ 30 (some 79) M4_30 HT_ ?_
                     refine tk_ 26 (some 75) M4_31 HT_ HW_ hHeld ?_
                     refine tk_ 31 (some 80) M4_32 HT_ HW_ hHeld ?_
                     refine pu_ 32 (some 81) M4_33 HT_ ?_
                     refine pu_ 33 (some 82) M4_34 HT_ ?_
                     refine pu_ 34 (some 83) M4_35 HT_ ?_
                     refine pu_ 35 (some 84) M4_36 HT_ ?_
                     refine pu_ 36 (some 85) M4_37 HT_ ?_
                     refine pu_ 37 (some 86) M4_38 HT_ ?_
                     refine pu_ 38 (some 87) M4_39 HT_ ?_
                     refine tk_ 39 (some 88) M4_40 HT_ HW_ hHeld ?_
                     refine one_ (i := 40) (N := some 89) M4_41 rfl rfl (one_of HT_.out (by kernel_rfl)) (by decide) (fun K hK => ?_)
                     refine goes_ Tryd.func10 (by kernel_rfl) rfl #[.agg #[.int .i64 ((rd_T33 t582 x8_2).f0), .int .i64 ((rd_T33 t582 x8_2).f1), .int .i64 ((rd_T33 t582 x8_2).f2)]] (by rfl) rfl rfl ma_ ?_
                     with_reducible refine (impl_TaskText.calls ((rd_T33 t582 x8_2).f0) ((rd_T33 t582 x8_2).f1) ((rd_T33 t582 x8_2).f2) t595 _ A29.out (TB_.below (hd_ HB.out))).mono ?_
                     rintro e w46 ⟨rfl, hb⟩
                     have HS0_ := (hb.cell (World.block_lt_of_cell? _ _ (hHeld.1))).trans (hHeld.1)
                     have HS1_ := (hb.cell (World.block_lt_of_cell? _ _ (hHeld.2.1))).trans (hHeld.2.1)
                     have HS2_ := (hb.cell (World.block_lt_of_cell? _ _ (hHeld.2.2.1))).trans (hHeld.2.2.1)
                     have HS3_ := (hb.cell (World.block_lt_of_cell? _ _ (hHeld.2.2.2.1))).trans (hHeld.2.2.2.1)
                     have HS4_ := (hb.cell (World.block_lt_of_cell? _ _ (hHeld.2.2.2.2.1))).trans (hHeld.2.2.2.2.1)
                     have HS5_ := (hb.cell (World.block_lt_of_cell? _ _ (hHeld.2.2.2.2.2.1))).trans (hHeld.2.2.2.2.2.1)
                     have HS6_ := (hb.cell (World.block_lt_of_cell? _ _ (hHeld.2.2.2.2.2.2.1))).trans (hHeld.2.2.2.2.2.2.1)
                     have HS7_ := (hb.cell (World.block_lt_of_cell? _ _ (hHeld.2.2.2.2.2.2.2.1))).trans (hHeld.2.2.2.2.2.2.2.1)
                     have HS8_ := (hb.cell (World.block_lt_of_cell? _ _ (hHeld.2.2.2.2.2.2.2.2.1))).trans (hHeld.2.2.2.2.2.2.2.2.1)
                     have HS9_ := (hb.cell (World.block_lt_of_cell? _ _ (hHeld.2.2.2.2.2.2.2.2.2.1))).trans (hHeld.2.2.2.2.2.2.2.2.2.1)
                     have HS10_ := (hb.cell (World.block_lt_of_cell? _ _ (hHeld.2.2.2.2.2.2.2.2.2.2.1))).trans (hHeld.2.2.2.2.2.2.2.2.2.2.1)
                     have HS11_ := (hb.cell (World.block_lt_of_cell? _ _ (hHeld.2.2.2.2.2.2.2.2.2.2.2.1))).trans (hHeld.2.2.2.2.2.2.2.2.2.2.2.1)
                     have HS12_ := (hb.cell (World.block_lt_of_cell? _ _ (hHeld.2.2.2.2.2.2.2.2.2.2.2.2.1))).trans (hHeld.2.2.2.2.2.2.2.2.2.2.2.2.1)
                     have HS13_ := (hb.cell (World.block_lt_of_cell? _ _ (hHeld.2.2.2.2.2.2.2.2.2.2.2.2.2.1))).trans (hHeld.2.2.2.2.2.2.2.2.2.2.2.2.2.1)
                     have HS14_ := (hb.cell (World.block_lt_of_cell? _ _ (hHeld.2.2.2.2.2.2.2.2.2.2.2.2.2.2.1))).trans (hHeld.2.2.2.2.2.2.2.2.2.2.2.2.2.2.1)
                     have HS15_ := (hb.cell (World.block_lt_of_cell? _ _ (hHeld.2.2.2.2.2.2.2.2.2.2.2.2.2.2.2.1))).trans (hHeld.2.2.2.2.2.2.2.2.2.2.2.2.2.2.2.1)
                     have HS16_ := (hb.cell (World.block_lt_of_cell? _ _ (hHeld.2.2.2.2.2.2.2.2.2.2.2.2.2.2.2.2.1))).trans (hHeld.2.2.2.2.2.2.2.2.2.2.2.2.2.2.2.2.1)
                     have HS17_ := (hb.cell (World.block_lt_of_cell? _ _ (hHeld.2.2.2.2.2.2.2.2.2.2.2.2.2.2.2.2.2.1))).trans (hHeld.2.2.2.2.2.2.2.2.2.2.2.2.2.2.2.2.2.1)
                     have HS18_ := (hb.cell (World.block_lt_of_cell? _ _ (hHeld.2.2.2.2.2.2.2.2.2.2.2.2.2.2.2.2.2.2.1))).trans (hHeld.2.2.2.2.2.2.2.2.2.2.2.2.2.2.2.2.2.2.1)
                     have HS19_ := (hb.cell (World.block_lt_of_cell? _ _ (hHeld.2.2.2.2.2.2.2.2.2.2.2.2.2.2.2.2.2.2.2.1))).trans (hHeld.2.2.2.2.2.2.2.2.2.2.2.2.2.2.2.2.2.2.2.1)
                     have HS20_ := (hb.cell (World.block_lt_of_cell? _ _ (hHeld.2.2.2.2.2.2.2.2.2.2.2.2.2.2.2.2.2.2.2.2.1))).trans (hHeld.2.2.2.2.2.2.2.2.2.2.2.2.2.2.2.2.2.2.2.2.1)
                     have HS21_ := (hb.cell (World.block_lt_of_cell? _ _ (hHeld.2.2.2.2.2.2.2.2.2.2.2.2.2.2.2.2.2.2.2.2.2.1))).trans (hHeld.2.2.2.2.2.2.2.2.2.2.2.2.2.2.2.2.2.2.2.2.2.1)
                     have HS22_ := (hb.cell (World.block_lt_of_cell? _ _ (hHeld.2.2.2.2.2.2.2.2.2.2.2.2.2.2.2.2.2.2.2.2.2.2.1))).trans (hHeld.2.2.2.2.2.2.2.2.2.2.2.2.2.2.2.2.2.2.2.2.2.2.1)
                     have HS23_ := (hb.cell (World.block_lt_of_cell? _ _ (hHeld.2.2.2.2.2.2.2.2.2.2.2.2.2.2.2.2.2.2.2.2.2.2.2.1))).trans (hHeld.2.2.2.2.2.2.2.2.2.2.2.2.2.2.2.2.2.2.2.2.2.2.2.1)
                     have HS24_ := (hb.cell (World.block_lt_of_cell? _ _ (hHeld.2.2.2.2.2.2.2.2.2.2.2.2.2.2.2.2.2.2.2.2.2.2.2.2.1))).trans (hHeld.2.2.2.2.2.2.2.2.2.2.2.2.2.2.2.2.2.2.2.2.2.2.2.2.1)
                     have HS25_ := (hb.cell (World.block_lt_of_cell? _ _ (hHeld.2.2.2.2.2.2.2.2.2.2.2.2.2.2.2.2.2.2.2.2.2.2.2.2.2.1))).trans (hHeld.2.2.2.2.2.2.2.2.2.2.2.2.2.2.2.2.2.2.2.2.2.2.2.2.2.1)
                     have HS26_ := (hb.cell (World.block_lt_of_cell? _ _ (hHeld.2.2.2.2.2.2.2.2.2.2.2.2.2.2.2.2.2.2.2.2.2.2.2.2.2.2.1))).trans (hHeld.2.2.2.2.2.2.2.2.2.2.2.2.2.2.2.2.2.2.2.2.2.2.2.2.2.2.1)
                     have HS27_ := (hb.cell (World.block_lt_of_cell? _ _ (hHeld.2.2.2.2.2.2.2.2.2.2.2.2.2.2.2.2.2.2.2.2.2.2.2.2.2.2.2.1))).trans (hHeld.2.2.2.2.2.2.2.2.2.2.2.2.2.2.2.2.2.2.2.2.2.2.2.2.2.2.2.1)
                     have HS28_ := (hb.cell (World.block_lt_of_cell? _ _ (hHeld.2.2.2.2.2.2.2.2.2.2.2.2.2.2.2.2.2.2.2.2.2.2.2.2.2.2.2.2))).trans (hHeld.2.2.2.2.2.2.2.2.2.2.2.2.2.2.2.2.2.2.2.2.2.2.2.2.2.2.2.2)
                     refine ⟨_, rfl, ?_⟩
                     have n0_ := Aside0.mk (Kd.R_below (rd_ HO_3.out) hb)
                     have n1_ := Aside0.mk (Kd.R_below (rd_ HO_4.out) hb)
                     have n2_ := Aside0.mk (Kd.R_below (rd_ HO_5.out) hb)
                     have n3_ := Aside0.mk (Kd.R_below (rd_ HO_7.out) hb)
                     have n4_ := Aside0.mk (below_step (hd_ HB.out) hb)
                     clear HO_3
                     clear HO_4
                     clear HO_5
                     clear HO_7
                     clear HB
                     have HO_3 := n0_
                     have HO_4 := n1_
                     have HO_5 := n2_
                     have HO_7 := n3_
                     have HB := n4_
                     clear n0_ n1_ n2_ n3_ n4_
                     (try clear hb)
                     (try clear hb2)
                     (try clear hk)
                     (try clear hi)
                     refine hK.out _ _ ⟨HS0_, HS1_, HS2_, HS3_, HS4_, HS5_, HS6_, HS7_, HS8_, HS9_, HS10_, HS11_, HS12_, HS13_, HS14_, HS15_, HS16_, HS17_, HS18_, HS19_, HS20_, HS21_, HS22_, HS23_, HS24_, HS25_, HS26_, HS27_, HS28_⟩ (fun hHeld => ?_)
                     clear hK K
                     refine norm_ (a' := ?_) ?_ ?_
                     rotate_left
                     ·
                      show Act.put _ (some 89) _ = _
                      simp only [Act.put, P4_1, P4_2, P4_3, i64_w, i32_w]
                      rfl
                     refine pu_ 41 (some 90) M4_42 HT_ ?_
                     refine pu_ 42 (some 91) M4_43 HT_ ?_
                     refine pu_ 43 (some 92) M4_44 HT_ ?_
                     refine pu_ 44 (some 93) M4_45 HT_ ?_
                     refine pu_ 45 (some 94) M4_46 HT_ ?_
                     refine pu_ 46 (some 95) M4_47 HT_ ?_
                     refine pu_ 47 (some 96) M4_48 HT_ ?_
                     refine tk_ 48 (some 97) M4_49 HT_ HW_ hHeld ?_
                     refine pu_ 49 (some 98) M4_50 HT_ ?_
                     refine pu_ 50 (some 99) M4_51 HT_ ?_
                     refine pu_ 51 (some 100) M4_52 HT_ ?_
                     refine pu_ 52 (some 101) M4_53 HT_ ?_
                     refine pu_ 53 (some 102) M4_54 HT_ ?_
                     refine pu_ 54 (some 103) M4_55 HT_ ?_
                     refine tk_ 55 (some 104) M4_56 HT_ HW_ hHeld ?_
                     refine pu_ 56 (some 105) M4_57 HT_ ?_
                     refine pu_ 57 (some 106) M4_58 HT_ ?_
                     refine pu_ 58 (some 107) M4_59 HT_ ?_
                     refine pu_ 59 (some 108) M4_60 HT_ ?_
                     refine pu_ 60 (some 109) M4_61 HT_ ?_
                     refine pu_ 61 (some 110) M4_62 HT_ ?_
                     refine pu_ 62 (some 111) M4_63 HT_ ?_
                     refine pu_ 63 (some 112) M4_64 HT_ ?_
                     refine tk_ 64 (some 113) M4_65 HT_ HW_ hHeld ?_
                     refine one_ (i := 65) (N := some 114) M4_66 rfl rfl (one_of HT_.out (by kernel_rfl)) (by decide) (fun K hK => ?_)
                     refine goes_ Tryd.func11 (by kernel_rfl) rfl #[.slice Ao10 t574.length co10, .int .i64 ((rd_T33 t582 x8_2).f2)] (by rfl) rfl rfl ma_ ?_
                     with_reducible refine (impl_IsOpen.calls k2 _ _ t574 ((rd_T33 t582 x8_2).f2) true _ ?side1 ?side2 A40.out).mono ?_
                     (case side1 => exact cd_ (Kd.R_reads' HO_5.out).2.2)
                     (case side2 => exact (Kd.R_reads' HO_5.out).2.1)
                     rintro e w' ⟨rfl, ⟨nd, rfl⟩⟩
                     refine ⟨_, rfl, ?_⟩
                     refine hK.out _ _ ⟨hHeld.1, hHeld.2.1, hHeld.2.2.1, hHeld.2.2.2.1, hHeld.2.2.2.2.1, hHeld.2.2.2.2.2.1, hHeld.2.2.2.2.2.2.1, hHeld.2.2.2.2.2.2.2.1, hHeld.2.2.2.2.2.2.2.2.1, hHeld.2.2.2.2.2.2.2.2.2.1, hHeld.2.2.2.2.2.2.2.2.2.2.1, hHeld.2.2.2.2.2.2.2.2.2.2.2.1, hHeld.2.2.2.2.2.2.2.2.2.2.2.2.1, hHeld.2.2.2.2.2.2.2.2.2.2.2.2.2.1, hHeld.2.2.2.2.2.2.2.2.2.2.2.2.2.2.1, hHeld.2.2.2.2.2.2.2.2.2.2.2.2.2.2.2.1, hHeld.2.2.2.2.2.2.2.2.2.2.2.2.2.2.2.2.1, hHeld.2.2.2.2.2.2.2.2.2.2.2.2.2.2.2.2.2.1, hHeld.2.2.2.2.2.2.2.2.2.2.2.2.2.2.2.2.2.2.1, hHeld.2.2.2.2.2.2.2.2.2.2.2.2.2.2.2.2.2.2.2.1, hHeld.2.2.2.2.2.2.2.2.2.2.2.2.2.2.2.2.2.2.2.2.1, hHeld.2.2.2.2.2.2.2.2.2.2.2.2.2.2.2.2.2.2.2.2.2.1, hHeld.2.2.2.2.2.2.2.2.2.2.2.2.2.2.2.2.2.2.2.2.2.2.1, hHeld.2.2.2.2.2.2.2.2.2.2.2.2.2.2.2.2.2.2.2.2.2.2.2.1, hHeld.2.2.2.2.2.2.2.2.2.2.2.2.2.2.2.2.2.2.2.2.2.2.2.2.1, hHeld.2.2.2.2.2.2.2.2.2.2.2.2.2.2.2.2.2.2.2.2.2.2.2.2.2.1, hHeld.2.2.2.2.2.2.2.2.2.2.2.2.2.2.2.2.2.2.2.2.2.2.2.2.2.2.1, hHeld.2.2.2.2.2.2.2.2.2.2.2.2.2.2.2.2.2.2.2.2.2.2.2.2.2.2.2.1, hHeld.2.2.2.2.2.2.2.2.2.2.2.2.2.2.2.2.2.2.2.2.2.2.2.2.2.2.2.2⟩ (fun hHeld => ?_)
                     clear hK K
                     refine norm_ (a' := ?_) ?_ ?_
                     rotate_left
                     ·
                      show Act.put _ (some 114) _ = _
                      simp only [Act.put, P4_1, P4_2, P4_3, i64_w, i32_w]
                      rfl
                     refine pu_ 66 (some 115) M4_67 HT_ ?_
                     refine pu_ 67 (some 116) M4_68 HT_ ?_
                     refine pu_ 68 (some 117) M4_69 HT_ ?_
                     refine done_ (done_of HT_.out (by kernel_rfl)) ?_
                     try go_wp2
                     go_roundg k2
                     case measure => have := HJ5.out; have := HK2.out; omega
                     case rel => exact ⟨(wrap64 (x8_2 + 1)), y232_, H', ⟨by have := HJ5.out; have := HK2.out; omega⟩, ⟨rd_ HO_3.out⟩, ⟨rd_ HO_4.out⟩, ⟨rd_ HO_5.out⟩, ⟨rd_ HO_7.out⟩, ⟨hd_ HB.out⟩⟩
                    ·
                     replace c41 := Bool.eq_false_iff.mpr c41
                     subst c41
                     have H1 : (some false) = some true := by rw [if_neg (show ¬ (false = true) by decide)] at H; exact H
                     clear H
                     have H := H1
                     clear H1
                     exact absurd H (by simp)
                   ·
                    rw [if_neg c39] at H
                    have c39b0 : (((rd_T33 t582 x8_2).f1) == 0) = false := beq_eq_false_iff_ne.mpr c39
                    have c39b1 : (((rd_T33 t582 x8_2).f1) != 0) = true := bne_iff_ne.mpr c39
                    have H' := Aside0.mk H
                    clear H
                    obtain ⟨Ao47, co47, eo47⟩ := Kd.R_slice HO_7.out
                    subst eo47
                    have p585 : 0 ≤ (x8_2 : Int) := of_decide_eq_true as_
                    have q585 : x8_2 < (t582.length : Int) := of_decide_eq_true as_
                    obtain ⟨ad585, e585, hx585_0, hx585_1, hx585_2⟩ := at_T33 (Kd.R_reads' HO_7.out).2.2 x8_2 p585 q585
                    cases e585
                    replace p585 := eq_true p585
                    replace q585 := eq_true q585
                    try go_wp2_with (first | ((with_reducible refine gate_callee (f := 8) rfl ?_); refine goesL_ (some 48) rfl rfl Tryd.func8 (by kernel_rfl) rfl #[.slice Ao8 t572.length co8, .int .i64 ((rd_T33 t582 x8_2).f0)] rfl ma_ ?_; (with_reducible refine (impl_FindThing.calls _ _ t572 ((rd_T33 t582 x8_2).f0) t586 _ ?side1 ?side2 A18.out).mono ?_); (case side1 => exact cd_ (Kd.R_reads' HO_3.out).2.2); (case side2 => exact (Kd.R_reads' HO_3.out).2.1); rintro e w48 ⟨rfl, hb⟩; refine ⟨_, rfl, ?_⟩; have n0_ := Aside0.mk (Kd.R_below (rd_ HO_3.out) hb); have n1_ := Aside0.mk (Kd.R_below (rd_ HO_4.out) hb); have n2_ := Aside0.mk (Kd.R_below (rd_ HO_5.out) hb); have n3_ := Aside0.mk (Kd.R_below (rd_ HO_7.out) hb); have n4_ := Aside0.mk (below_step (hd_ HB.out) hb); clear HO_3; clear HO_4; clear HO_5; clear HO_7; clear HB; have HO_3 := n0_; have HO_4 := n1_; have HO_5 := n2_; have HO_7 := n3_; have HB := n4_; clear n0_ n1_ n2_ n3_ n4_; (try clear hb)))
                    have n0_ := Aside0.mk (Kd.R_drew HO_3.out)
                    have n1_ := Aside0.mk (Kd.R_drew HO_4.out)
                    have n2_ := Aside0.mk (Kd.R_drew HO_5.out)
                    have n3_ := Aside0.mk (Kd.R_drew HO_7.out)
                    have n4_ := Aside0.mk (below_drew1 HB.out)
                    clear HO_3
                    clear HO_4
                    clear HO_5
                    clear HO_7
                    clear HB
                    have HO_3 := n0_
                    have HO_4 := n1_
                    have HO_5 := n2_
                    have HO_7 := n3_
                    have HB := n4_
                    clear n0_ n1_ n2_ n3_ n4_
                    have p587 : 0 ≤ (x8_2 : Int) := of_decide_eq_true as_
                    have q587 : x8_2 < (t582.length : Int) := of_decide_eq_true as_
                    obtain ⟨ad587, e587, hx587_0, hx587_1, hx587_2⟩ := at_T33 (Kd.R_reads' HO_7.out).2.2 x8_2 p587 q587
                    obtain rfl : ad585 = ad587 := (by injection e587)
                    replace p587 := eq_true p587
                    replace q587 := eq_true q587
                    have p588 : 0 ≤ (t586 : Int) := of_decide_eq_true as_
                    have q588 : t586 < (t572.length : Int) := of_decide_eq_true as_
                    obtain ⟨ad588, e588, hx588_0, hx588_1, hx588_2, hx588_3, hx588_4, hx588_5, hx588_6, hx588_7⟩ := at_T38 (Kd.R_reads' HO_3.out).2.2 t586 p588 q588
                    cases e588
                    replace p588 := eq_true p588
                    replace q588 := eq_true q588
                    have p592 : 0 ≤ ((ji25) : Int) := of_decide_eq_true as_
                    have q592 : (ji25) < (t582.length : Int) := of_decide_eq_true as_
                    obtain ⟨ad592, e592, hx592_0, hx592_1, hx592_2⟩ := at_T33 (Kd.R_reads' HO_7.out).2.2 (ji25) p592 q592
                    obtain rfl : ad585 = ad592 := (by injection e592)
                    replace p592 := eq_true p592
                    replace q592 := eq_true q592
                    have p593 : 0 ≤ (x8_2 : Int) := of_decide_eq_true as_
                    have q593 : x8_2 < (t582.length : Int) := of_decide_eq_true as_
                    obtain ⟨ad593, e593, hx593_0, hx593_1, hx593_2⟩ := at_T33 (Kd.R_reads' HO_7.out).2.2 x8_2 p593 q593
                    obtain rfl : ad585 = ad593 := (by injection e593)
                    replace p593 := eq_true p593
                    replace q593 := eq_true q593
                    have p594 : 0 ≤ (x8_2 : Int) := of_decide_eq_true as_
                    have q594 : x8_2 < (t582.length : Int) := of_decide_eq_true as_
                    obtain ⟨ad594, e594, hx594_0, hx594_1, hx594_2⟩ := at_T33 (Kd.R_reads' HO_7.out).2.2 x8_2 p594 q594
                    obtain rfl : ad585 = ad594 := (by injection e594)
                    replace p594 := eq_true p594
                    replace q594 := eq_true q594
                    have p596 : 0 ≤ (x8_2 : Int) := of_decide_eq_true as_
                    have q596 : x8_2 < (t582.length : Int) := of_decide_eq_true as_
                    obtain ⟨ad596, e596, hx596_0, hx596_1, hx596_2⟩ := at_T33 (Kd.R_reads' HO_7.out).2.2 x8_2 p596 q596
                    obtain rfl : ad585 = ad596 := (by injection e596)
                    replace p596 := eq_true p596
                    replace q596 := eq_true q596
                    have p599 : 0 ≤ (x8_2 : Int) := of_decide_eq_true as_
                    have q599 : x8_2 < (t582.length : Int) := of_decide_eq_true as_
                    obtain ⟨ad599, e599, hx599_0, hx599_1, hx599_2⟩ := at_T33 (Kd.R_reads' HO_7.out).2.2 x8_2 p599 q599
                    obtain rfl : ad585 = ad599 := (by injection e599)
                    replace p599 := eq_true p599
                    replace q599 := eq_true q599
                    refine start_ (n := 69) (S := fun w' => q6_ w' (ad585.add ((x8_2).toNat * 3)) ((rd_T33 t582 x8_2).f0) ((rd_T33 t582 x8_2).f1) ((rd_T33 t582 x8_2).f2) (q4_ w' (ad588.add ((t586).toNat * 8)) ((rd_T38 t572 t586).f0.f0) ((rd_T38 t572 t586).f0.f1) ((rd_T38 t572 t586).f0.f2) ((rd_T38 t572 t586).f0.f3) ((rd_T38 t572 t586).f0.f4) ((rd_T38 t572 t586).f1) ((rd_T38 t572 t586).f2) ((rd_T38 t572 t586).f3) (q6_ w' (ad585.add (((ji25)).toNat * 3)) ((rd_T33 t582 (ji25)).f0) ((rd_T33 t582 (ji25)).f1) ((rd_T33 t582 (ji25)).f2) (q6_ w' (ad585.add ((x8_2).toNat * 3)) ((rd_T33 t582 x8_2).f0) ((rd_T33 t582 x8_2).f1) ((rd_T33 t582 x8_2).f2) (q6_ w' (ad585.add ((x8_2).toNat * 3)) ((rd_T33 t582 x8_2).f0) ((rd_T33 t582 x8_2).f1) ((rd_T33 t582 x8_2).f2) (q6_ w' (ad585.add ((x8_2).toNat * 3)) ((rd_T33 t582 x8_2).f0) ((rd_T33 t582 x8_2).f1) ((rd_T33 t582 x8_2).f2) (q6e_ w' (ad585.add ((x8_2).toNat * 3)) ((rd_T33 t582 x8_2).f0) ((rd_T33 t582 x8_2).f1) ((rd_T33 t582 x8_2).f2)))))))) (ds := []) M4_0 (by kernel_rfl) rfl rfl ⟨hx587_0, hx587_1, hx587_2, hx588_0, hx588_1, hx588_2, hx588_3, hx588_4, hx588_5, hx588_6, hx588_7, hx592_0, hx592_1, hx592_2, hx593_0, hx593_1, hx593_2, hx594_0, hx594_1, hx594_2, hx596_0, hx596_1, hx596_2, hx599_0, hx599_1, hx599_2⟩ (fun hHeld => ?_); refine with_tabW laws_FnTasks.tab11 laws_FnTasks.bits11 (fun HT_ HW_ => ?_)
                    generalize w48.drew = w49 at HO_3 HO_4 HO_5 HO_7 HB hx587_0 hx587_1 hx587_2 hx588_0 hx588_1 hx588_2 hx588_3 hx588_4 hx588_5 hx588_6 hx588_7 hx592_0 hx592_1 hx592_2 hx593_0 hx593_1 hx593_2 hx594_0 hx594_1 hx594_2 hx596_0 hx596_1 hx596_2 hx599_0 hx599_1 hx599_2 hHeld ⊢
                    refine pu_ 0 (some 49) M4_1 HT_ ?_
                    refine pu_ 1 (some 50) M4_2 HT_ ?_
                    refine pu_ 2 (some 51) M4_3 HT_ ?_
                    refine pu_ 3 (some 52) M4_4 HT_ ?_
                    refine pu_ 4 (some 53) M4_5 HT_ ?_
                    refine pu_ 5 (some 54) M4_6 HT_ ?_
                    refine pu_ 7 (some 56) M4_7 HT_ ?_
                    refine pu_ 8 (some 57) M4_8 HT_ ?_
                    refine pu_ 9 (some 58) M4_9 HT_ ?_
                    refine pu_ 11 (some 60) M4_10 HT_ ?_
                    refine pu_ 12 (some 61) M4_11 HT_ ?_
                    refine pu_ 13 (some 62) M4_12 HT_ ?_
                    refine tk_ 6 (some 55) M4_13 HT_ HW_ hHeld ?_
                    refine tk_ 10 (some 59) M4_14 HT_ HW_ hHeld ?_
                    refine one_ (i := 14) (N := some 63) M4_15 rfl rfl (one_of HT_.out (by kernel_rfl)) (by decide) (fun K hK => ?_)
                    refine goes_ Tryd.func9 (by kernel_rfl) rfl #[.agg #[.int .i64 ((rd_T38 t572 t586).f0.f0), .int .i64 ((rd_T38 t572 t586).f0.f1), .int .i64 ((rd_T38 t572 t586).f0.f2), .int .i64 ((rd_T38 t572 t586).f0.f3), .int .i64 ((rd_T38 t572 t586).f0.f4), .int .i64 ((rd_T38 t572 t586).f1), .int .i64 ((rd_T38 t572 t586).f2), .int .i64 ((rd_T38 t572 t586).f3)], .slice Ao9 t573.length co9, .slice Ao10 t574.length co10, .int .i64 t575] (by rfl) rfl rfl ma_ ?_
                    with_reducible refine (impl_TaskOf.calls k2 ((rd_T38 t572 t586).f0.f0) ((rd_T38 t572 t586).f0.f1) ((rd_T38 t572 t586).f0.f2) ((rd_T38 t572 t586).f0.f3) ((rd_T38 t572 t586).f0.f4) ((rd_T38 t572 t586).f1) ((rd_T38 t572 t586).f2) ((rd_T38 t572 t586).f3) _ _ t573 _ _ t574 t575 t589 t590 t591 _ ?side1 ?side2 ?side3 ?side4 A22.out).mono ?_
                    (case side1 => exact cd_ (Kd.R_reads' HO_4.out).2.2)
                    (case side2 => exact (Kd.R_reads' HO_4.out).2.1)
                    (case side3 => exact cd_ (Kd.R_reads' HO_5.out).2.2)
                    (case side4 => exact (Kd.R_reads' HO_5.out).2.1)
                    rintro e w50 ⟨rfl, hb⟩
                    have HS0_ := (hb.cell (World.block_lt_of_cell? _ _ (hHeld.1))).trans (hHeld.1)
                    have HS1_ := (hb.cell (World.block_lt_of_cell? _ _ (hHeld.2.1))).trans (hHeld.2.1)
                    have HS2_ := (hb.cell (World.block_lt_of_cell? _ _ (hHeld.2.2.1))).trans (hHeld.2.2.1)
                    have HS3_ := (hb.cell (World.block_lt_of_cell? _ _ (hHeld.2.2.2.1))).trans (hHeld.2.2.2.1)
                    have HS4_ := (hb.cell (World.block_lt_of_cell? _ _ (hHeld.2.2.2.2.1))).trans (hHeld.2.2.2.2.1)
                    have HS5_ := (hb.cell (World.block_lt_of_cell? _ _ (hHeld.2.2.2.2.2.1))).trans (hHeld.2.2.2.2.2.1)
                    have HS6_ := (hb.cell (World.block_lt_of_cell? _ _ (hHeld.2.2.2.2.2.2.1))).trans (hHeld.2.2.2.2.2.2.1)
                    have HS7_ := (hb.cell (World.block_lt_of_cell? _ _ (hHeld.2.2.2.2.2.2.2.1))).trans (hHeld.2.2.2.2.2.2.2.1)
                    have HS8_ := (hb.cell (World.block_lt_of_cell? _ _ (hHeld.2.2.2.2.2.2.2.2.1))).trans (hHeld.2.2.2.2.2.2.2.2.1)
                    have HS9_ := (hb.cell (World.block_lt_of_cell? _ _ (hHeld.2.2.2.2.2.2.2.2.2.1))).trans (hHeld.2.2.2.2.2.2.2.2.2.1)
                    have HS10_ := (hb.cell (World.block_lt_of_cell? _ _ (hHeld.2.2.2.2.2.2.2.2.2.2.1))).trans (hHeld.2.2.2.2.2.2.2.2.2.2.1)
                    have HS11_ := (hb.cell (World.block_lt_of_cell? _ _ (hHeld.2.2.2.2.2.2.2.2.2.2.2.1))).trans (hHeld.2.2.2.2.2.2.2.2.2.2.2.1)
                    have HS12_ := (hb.cell (World.block_lt_of_cell? _ _ (hHeld.2.2.2.2.2.2.2.2.2.2.2.2.1))).trans (hHeld.2.2.2.2.2.2.2.2.2.2.2.2.1)
                    have HS13_ := (hb.cell (World.block_lt_of_cell? _ _ (hHeld.2.2.2.2.2.2.2.2.2.2.2.2.2.1))).trans (hHeld.2.2.2.2.2.2.2.2.2.2.2.2.2.1)
                    have HS14_ := (hb.cell (World.block_lt_of_cell? _ _ (hHeld.2.2.2.2.2.2.2.2.2.2.2.2.2.2.1))).trans (hHeld.2.2.2.2.2.2.2.2.2.2.2.2.2.2.1)
                    have HS15_ := (hb.cell (World.block_lt_of_cell? _ _ (hHeld.2.2.2.2.2.2.2.2.2.2.2.2.2.2.2.1))).trans (hHeld.2.2.2.2.2.2.2.2.2.2.2.2.2.2.2.1)
                    have HS16_ := (hb.cell (World.block_lt_of_cell? _ _ (hHeld.2.2.2.2.2.2.2.2.2.2.2.2.2.2.2.2.1))).trans (hHeld.2.2.2.2.2.2.2.2.2.2.2.2.2.2.2.2.1)
                    have HS17_ := (hb.cell (World.block_lt_of_cell? _ _ (hHeld.2.2.2.2.2.2.2.2.2.2.2.2.2.2.2.2.2.1))).trans (hHeld.2.2.2.2.2.2.2.2.2.2.2.2.2.2.2.2.2.1)
                    have HS18_ := (hb.cell (World.block_lt_of_cell? _ _ (hHeld.2.2.2.2.2.2.2.2.2.2.2.2.2.2.2.2.2.2.1))).trans (hHeld.2.2.2.2.2.2.2.2.2.2.2.2.2.2.2.2.2.2.1)
                    have HS19_ := (hb.cell (World.block_lt_of_cell? _ _ (hHeld.2.2.2.2.2.2.2.2.2.2.2.2.2.2.2.2.2.2.2.1))).trans (hHeld.2.2.2.2.2.2.2.2.2.2.2.2.2.2.2.2.2.2.2.1)
                    have HS20_ := (hb.cell (World.block_lt_of_cell? _ _ (hHeld.2.2.2.2.2.2.2.2.2.2.2.2.2.2.2.2.2.2.2.2.1))).trans (hHeld.2.2.2.2.2.2.2.2.2.2.2.2.2.2.2.2.2.2.2.2.1)
                    have HS21_ := (hb.cell (World.block_lt_of_cell? _ _ (hHeld.2.2.2.2.2.2.2.2.2.2.2.2.2.2.2.2.2.2.2.2.2.1))).trans (hHeld.2.2.2.2.2.2.2.2.2.2.2.2.2.2.2.2.2.2.2.2.2.1)
                    have HS22_ := (hb.cell (World.block_lt_of_cell? _ _ (hHeld.2.2.2.2.2.2.2.2.2.2.2.2.2.2.2.2.2.2.2.2.2.2.1))).trans (hHeld.2.2.2.2.2.2.2.2.2.2.2.2.2.2.2.2.2.2.2.2.2.2.1)
                    have HS23_ := (hb.cell (World.block_lt_of_cell? _ _ (hHeld.2.2.2.2.2.2.2.2.2.2.2.2.2.2.2.2.2.2.2.2.2.2.2.1))).trans (hHeld.2.2.2.2.2.2.2.2.2.2.2.2.2.2.2.2.2.2.2.2.2.2.2.1)
                    have HS24_ := (hb.cell (World.block_lt_of_cell? _ _ (hHeld.2.2.2.2.2.2.2.2.2.2.2.2.2.2.2.2.2.2.2.2.2.2.2.2.1))).trans (hHeld.2.2.2.2.2.2.2.2.2.2.2.2.2.2.2.2.2.2.2.2.2.2.2.2.1)
                    have HS25_ := (hb.cell (World.block_lt_of_cell? _ _ (hHeld.2.2.2.2.2.2.2.2.2.2.2.2.2.2.2.2.2.2.2.2.2.2.2.2.2))).trans (hHeld.2.2.2.2.2.2.2.2.2.2.2.2.2.2.2.2.2.2.2.2.2.2.2.2.2)
                    refine ⟨_, rfl, ?_⟩
                    have n0_ := Aside0.mk (Kd.R_below (rd_ HO_3.out) hb)
                    have n1_ := Aside0.mk (Kd.R_below (rd_ HO_4.out) hb)
                    have n2_ := Aside0.mk (Kd.R_below (rd_ HO_5.out) hb)
                    have n3_ := Aside0.mk (Kd.R_below (rd_ HO_7.out) hb)
                    have n4_ := Aside0.mk (below_step (hd_ HB.out) hb)
                    clear HO_3
                    clear HO_4
                    clear HO_5
                    clear HO_7
                    clear HB
                    have HO_3 := n0_
                    have HO_4 := n1_
                    have HO_5 := n2_
                    have HO_7 := n3_
                    have HB := n4_
                    clear n0_ n1_ n2_ n3_ n4_
                    (try clear hb)
                    (try clear hb2)
                    (try clear hk)
                    (try clear hi)
                    refine hK.out _ _ ⟨HS0_, HS1_, HS2_, HS3_, HS4_, HS5_, HS6_, HS7_, HS8_, HS9_, HS10_, HS11_, HS12_, HS13_, HS14_, HS15_, HS16_, HS17_, HS18_, HS19_, HS20_, HS21_, HS22_, HS23_, HS24_, HS25_⟩ (fun hHeld => ?_)
                    clear hK K
                    refine norm_ (a' := ?_) ?_ ?_
                    rotate_left
                    ·
                     show Act.put _ (some 63) _ = _
                     simp only [Act.put, P4_1, P4_2, P4_3, i64_w, i32_w]
                     rfl
                    refine pu_ 15 (some 64) M4_16 HT_ ?_
                    refine pu_ 16 (some 65) M4_17 HT_ ?_
                    refine pu_ 17 (some 66) M4_18 HT_ ?_
                    refine pu_ 18 (some 67) M4_19 HT_ ?_
                    refine pu_ 19 (some 68) M4_20 HT_ ?_
                    refine pu_ 20 (some 69) M4_21 HT_ ?_
                    refine pu_ 21 (some 70) M4_22 HT_ ?_
                    refine pu_ 22 (some 71) M4_23 HT_ ?_
                    refine pu_ 23 (some 72) M4_24 HT_ ?_
                    refine pu_ 24 (some 73) M4_25 HT_ ?_
                    refine pu_ 25 (some 74) M4_26 HT_ ?_
                    refine pu_ 27 (some 76) M4_27 HT_ ?_
                    refine pu_ 28 (some 77) M4_28 HT_ ?_
                    refine pu_ 29 (some 78) M4_29 HT_ ?_
                    refine pu_ 30 (some 79) M4_30 HT_ ?_
                    refine tk_ 26 (some 75) M4_31 HT_ HW_ hHeld ?_
                    refine tk_ 31 (some 80) M4_32 HT_ HW_ hHeld ?_
                    refine pu_ 32 (some 81) M4_33 HT_ ?_
                    refine pu_ 33 (some 82) M4_34 HT_ ?_
                    refine pu_ 34 (some 83) M4_35 HT_ ?_
                    refine pu_ 35 (some 84) M4_36 HT_ ?_
                    refine pu_ 36 (some 85) M4_37 HT_ ?_
                    refine pu_ 37 (some 86) M4_38 HT_ ?_
                    refine pu_ 38 (some 87) M4_39 HT_ ?_
                    refine tk_ 39 (some 88) M4_40 HT_ HW_ hHeld ?_
                    refine one_ (i := 40) (N := some 89) M4_41 rfl rfl (one_of HT_.out (by kernel_rfl)) (by decide) (fun K hK => ?_)
                    refine goes_ Tryd.func10 (by kernel_rfl) rfl #[.agg #[.int .i64 ((rd_T33 t582 x8_2).f0), .int .i64 ((rd_T33 t582 x8_2).f1), .int .i64 ((rd_T33 t582 x8_2).f2)]] (by rfl) rfl rfl ma_ ?_
                    with_reducible refine (impl_TaskText.calls ((rd_T33 t582 x8_2).f0) ((rd_T33 t582 x8_2).f1) ((rd_T33 t582 x8_2).f2) t595 _ A29.out (TB_.below (hd_ HB.out))).mono ?_
                    rintro e w51 ⟨rfl, hb⟩
                    have HS0_ := (hb.cell (World.block_lt_of_cell? _ _ (hHeld.1))).trans (hHeld.1)
                    have HS1_ := (hb.cell (World.block_lt_of_cell? _ _ (hHeld.2.1))).trans (hHeld.2.1)
                    have HS2_ := (hb.cell (World.block_lt_of_cell? _ _ (hHeld.2.2.1))).trans (hHeld.2.2.1)
                    have HS3_ := (hb.cell (World.block_lt_of_cell? _ _ (hHeld.2.2.2.1))).trans (hHeld.2.2.2.1)
                    have HS4_ := (hb.cell (World.block_lt_of_cell? _ _ (hHeld.2.2.2.2.1))).trans (hHeld.2.2.2.2.1)
                    have HS5_ := (hb.cell (World.block_lt_of_cell? _ _ (hHeld.2.2.2.2.2.1))).trans (hHeld.2.2.2.2.2.1)
                    have HS6_ := (hb.cell (World.block_lt_of_cell? _ _ (hHeld.2.2.2.2.2.2.1))).trans (hHeld.2.2.2.2.2.2.1)
                    have HS7_ := (hb.cell (World.block_lt_of_cell? _ _ (hHeld.2.2.2.2.2.2.2.1))).trans (hHeld.2.2.2.2.2.2.2.1)
                    have HS8_ := (hb.cell (World.block_lt_of_cell? _ _ (hHeld.2.2.2.2.2.2.2.2.1))).trans (hHeld.2.2.2.2.2.2.2.2.1)
                    have HS9_ := (hb.cell (World.block_lt_of_cell? _ _ (hHeld.2.2.2.2.2.2.2.2.2.1))).trans (hHeld.2.2.2.2.2.2.2.2.2.1)
                    have HS10_ := (hb.cell (World.block_lt_of_cell? _ _ (hHeld.2.2.2.2.2.2.2.2.2.2.1))).trans (hHeld.2.2.2.2.2.2.2.2.2.2.1)
                    have HS11_ := (hb.cell (World.block_lt_of_cell? _ _ (hHeld.2.2.2.2.2.2.2.2.2.2.2.1))).trans (hHeld.2.2.2.2.2.2.2.2.2.2.2.1)
                    have HS12_ := (hb.cell (World.block_lt_of_cell? _ _ (hHeld.2.2.2.2.2.2.2.2.2.2.2.2.1))).trans (hHeld.2.2.2.2.2.2.2.2.2.2.2.2.1)
                    have HS13_ := (hb.cell (World.block_lt_of_cell? _ _ (hHeld.2.2.2.2.2.2.2.2.2.2.2.2.2.1))).trans (hHeld.2.2.2.2.2.2.2.2.2.2.2.2.2.1)
                    have HS14_ := (hb.cell (World.block_lt_of_cell? _ _ (hHeld.2.2.2.2.2.2.2.2.2.2.2.2.2.2.1))).trans (hHeld.2.2.2.2.2.2.2.2.2.2.2.2.2.2.1)
                    have HS15_ := (hb.cell (World.block_lt_of_cell? _ _ (hHeld.2.2.2.2.2.2.2.2.2.2.2.2.2.2.2.1))).trans (hHeld.2.2.2.2.2.2.2.2.2.2.2.2.2.2.2.1)
                    have HS16_ := (hb.cell (World.block_lt_of_cell? _ _ (hHeld.2.2.2.2.2.2.2.2.2.2.2.2.2.2.2.2.1))).trans (hHeld.2.2.2.2.2.2.2.2.2.2.2.2.2.2.2.2.1)
                    have HS17_ := (hb.cell (World.block_lt_of_cell? _ _ (hHeld.2.2.2.2.2.2.2.2.2.2.2.2.2.2.2.2.2.1))).trans (hHeld.2.2.2.2.2.2.2.2.2.2.2.2.2.2.2.2.2.1)
                    have HS18_ := (hb.cell (World.block_lt_of_cell? _ _ (hHeld.2.2.2.2.2.2.2.2.2.2.2.2.2.2.2.2.2.2.1))).trans (hHeld.2.2.2.2.2.2.2.2.2.2.2.2.2.2.2.2.2.2.1)
                    have HS19_ := (hb.cell (World.block_lt_of_cell? _ _ (hHeld.2.2.2.2.2.2.2.2.2.2.2.2.2.2.2.2.2.2.2.1))).trans (hHeld.2.2.2.2.2.2.2.2.2.2.2.2.2.2.2.2.2.2.2.1)
                    have HS20_ := (hb.cell (World.block_lt_of_cell? _ _ (hHeld.2.2.2.2.2.2.2.2.2.2.2.2.2.2.2.2.2.2.2.2.1))).trans (hHeld.2.2.2.2.2.2.2.2.2.2.2.2.2.2.2.2.2.2.2.2.1)
                    have HS21_ := (hb.cell (World.block_lt_of_cell? _ _ (hHeld.2.2.2.2.2.2.2.2.2.2.2.2.2.2.2.2.2.2.2.2.2.1))).trans (hHeld.2.2.2.2.2.2.2.2.2.2.2.2.2.2.2.2.2.2.2.2.2.1)
                    have HS22_ := (hb.cell (World.block_lt_of_cell? _ _ (hHeld.2.2.2.2.2.2.2.2.2.2.2.2.2.2.2.2.2.2.2.2.2.2.1))).trans (hHeld.2.2.2.2.2.2.2.2.2.2.2.2.2.2.2.2.2.2.2.2.2.2.1)
                    have HS23_ := (hb.cell (World.block_lt_of_cell? _ _ (hHeld.2.2.2.2.2.2.2.2.2.2.2.2.2.2.2.2.2.2.2.2.2.2.2.1))).trans (hHeld.2.2.2.2.2.2.2.2.2.2.2.2.2.2.2.2.2.2.2.2.2.2.2.1)
                    have HS24_ := (hb.cell (World.block_lt_of_cell? _ _ (hHeld.2.2.2.2.2.2.2.2.2.2.2.2.2.2.2.2.2.2.2.2.2.2.2.2.1))).trans (hHeld.2.2.2.2.2.2.2.2.2.2.2.2.2.2.2.2.2.2.2.2.2.2.2.2.1)
                    have HS25_ := (hb.cell (World.block_lt_of_cell? _ _ (hHeld.2.2.2.2.2.2.2.2.2.2.2.2.2.2.2.2.2.2.2.2.2.2.2.2.2))).trans (hHeld.2.2.2.2.2.2.2.2.2.2.2.2.2.2.2.2.2.2.2.2.2.2.2.2.2)
                    refine ⟨_, rfl, ?_⟩
                    have n0_ := Aside0.mk (Kd.R_below (rd_ HO_3.out) hb)
                    have n1_ := Aside0.mk (Kd.R_below (rd_ HO_4.out) hb)
                    have n2_ := Aside0.mk (Kd.R_below (rd_ HO_5.out) hb)
                    have n3_ := Aside0.mk (Kd.R_below (rd_ HO_7.out) hb)
                    have n4_ := Aside0.mk (below_step (hd_ HB.out) hb)
                    clear HO_3
                    clear HO_4
                    clear HO_5
                    clear HO_7
                    clear HB
                    have HO_3 := n0_
                    have HO_4 := n1_
                    have HO_5 := n2_
                    have HO_7 := n3_
                    have HB := n4_
                    clear n0_ n1_ n2_ n3_ n4_
                    (try clear hb)
                    (try clear hb2)
                    (try clear hk)
                    (try clear hi)
                    refine hK.out _ _ ⟨HS0_, HS1_, HS2_, HS3_, HS4_, HS5_, HS6_, HS7_, HS8_, HS9_, HS10_, HS11_, HS12_, HS13_, HS14_, HS15_, HS16_, HS17_, HS18_, HS19_, HS20_, HS21_, HS22_, HS23_, HS24_, HS25_⟩ (fun hHeld => ?_)
                    clear hK K
                    refine norm_ (a' := ?_) ?_ ?_
                    rotate_left
                    ·
                     show Act.put _ (some 89) _ = _
                     simp only [Act.put, P4_1, P4_2, P4_3, i64_w, i32_w]
                     rfl
                    refine pu_ 41 (some 90) M4_42 HT_ ?_
                    refine pu_ 42 (some 91) M4_43 HT_ ?_
                    refine pu_ 43 (some 92) M4_44 HT_ ?_
                    refine pu_ 44 (some 93) M4_45 HT_ ?_
                    refine pu_ 45 (some 94) M4_46 HT_ ?_
                    refine pu_ 46 (some 95) M4_47 HT_ ?_
                    refine pu_ 47 (some 96) M4_48 HT_ ?_
                    refine tk_ 48 (some 97) M4_49 HT_ HW_ hHeld ?_
                    refine pu_ 49 (some 98) M4_50 HT_ ?_
                    refine pu_ 50 (some 99) M4_51 HT_ ?_
                    refine pu_ 51 (some 100) M4_52 HT_ ?_
                    refine pu_ 52 (some 101) M4_53 HT_ ?_
                    refine pu_ 53 (some 102) M4_54 HT_ ?_
                    refine pu_ 54 (some 103) M4_55 HT_ ?_
                    refine tk_ 55 (some 104) M4_56 HT_ HW_ hHeld ?_
                    refine pu_ 56 (some 105) M4_57 HT_ ?_
                    refine pu_ 57 (some 106) M4_58 HT_ ?_
                    refine pu_ 58 (some 107) M4_59 HT_ ?_
                    refine pn_ 59 (some 108) M4_60 HT_ ?_
                    refine pn_ 60 (some 109) M4_61 HT_ ?_
                    refine pn_ 61 (some 110) M4_62 HT_ ?_
                    refine pn_ 62 (some 111) M4_63 HT_ ?_
                    refine pn_ 63 (some 112) M4_64 HT_ ?_
                    refine pn_ 64 (some 113) M4_65 HT_ ?_
                    refine pn_ 65 (some 114) M4_66 HT_ ?_
                    refine pn_ 66 (some 115) M4_67 HT_ ?_
                    refine pu_ 67 (some 116) M4_68 HT_ ?_
                    refine pu_ 68 (some 117) M4_69 HT_ ?_
                    refine done_ (done_of HT_.out (by kernel_rfl)) ?_
                    try go_wp2
                    go_roundg k2
                    case measure => have := HJ5.out; have := HK2.out; omega
                    case rel => exact ⟨(wrap64 (x8_2 + 1)), y232_, H', ⟨by have := HJ5.out; have := HK2.out; omega⟩, ⟨rd_ HO_3.out⟩, ⟨rd_ HO_4.out⟩, ⟨rd_ HO_5.out⟩, ⟨rd_ HO_7.out⟩, ⟨hd_ HB.out⟩⟩
               ·
                rw [if_neg c27] at H
                exact absurd H (by simp)
              ·
               rw [if_neg c26] at H
               exact absurd H (by simp)
             ·
              rw [if_neg c24] at H
              have c24b0 : decide (0 < x8_2) = false := decide_eq_false c24
              clear c24
              replace H := Option.bind_eq_some_iff.mp H
              obtain ⟨t603, A520, H⟩ := H
              replace H : (if t603.toList = ([] : List UInt8) then (some false) else (if ((rd_T33 t582 x8_2).f1) = 1 then ((impl_IsOpen.f k2 t574 ((rd_T33 t582 x8_2).f2)).bind fun t606 => (if t606 = true then (laws_FnTasks.l0 k2 t572 t573 t574 t575 t582 (wrap64 (x8_2 + 1))) else (some false))) else (if ((rd_T33 t582 x8_2).f1) = 0 then ((impl_IsOpen.f k2 t574 ((rd_T33 t582 x8_2).f2)).bind fun t609 => (if t609 = true then (laws_FnTasks.l0 k2 t572 t573 t574 t575 t582 (wrap64 (x8_2 + 1))) else (some false))) else (laws_FnTasks.l0 k2 t572 t573 t574 t575 t582 (wrap64 (x8_2 + 1)))))) = some true := H
              have A52 := Aside0.mk A520
              clear A520
              by_cases c53 : t603.toList = ([] : List UInt8)
              ·
               rw [if_pos c53] at H
               have c53b0 : (t603.toList == ([] : List UInt8)) = true := beq_iff_eq.mpr c53
               have c53b1 : (t603.toList != ([] : List UInt8)) = false := bne_eq_false_iff_eq.mpr c53
               clear c53
               exact absurd H (by simp)
              ·
               rw [if_neg c53] at H
               have c53b0 : (t603.toList == ([] : List UInt8)) = false := beq_eq_false_iff_ne.mpr c53
               have c53b1 : (t603.toList != ([] : List UInt8)) = true := bne_iff_ne.mpr c53
               by_cases c54 : ((rd_T33 t582 x8_2).f1) = 1
               ·
                rw [if_pos c54] at H
                have c54b0 : (((rd_T33 t582 x8_2).f1) == 1) = true := beq_iff_eq.mpr c54
                have c54b1 : (((rd_T33 t582 x8_2).f1) != 1) = false := bne_eq_false_iff_eq.mpr c54
                clear c54
                replace H := Option.bind_eq_some_iff.mp H
                obtain ⟨t606, A550, H⟩ := H
                replace H : (if t606 = true then (laws_FnTasks.l0 k2 t572 t573 t574 t575 t582 (wrap64 (x8_2 + 1))) else (some false)) = some true := H
                have A55 := Aside0.mk A550
                clear A550
                by_cases c56 : t606 = true
                ·
                 subst c56
                 have H1 : (laws_FnTasks.l0 k2 t572 t573 t574 t575 t582 (wrap64 (x8_2 + 1))) = some true := by rw [if_pos rfl] at H; exact H
                 clear H
                 have H := H1
                 clear H1
                 have H' := Aside0.mk H
                 clear H
                 obtain ⟨Ao57, co57, eo57⟩ := Kd.R_slice HO_7.out
                 subst eo57
                 have p585 : 0 ≤ (x8_2 : Int) := of_decide_eq_true as_
                 have q585 : x8_2 < (t582.length : Int) := of_decide_eq_true as_
                 obtain ⟨ad585, e585, hx585_0, hx585_1, hx585_2⟩ := at_T33 (Kd.R_reads' HO_7.out).2.2 x8_2 p585 q585
                 cases e585
                 replace p585 := eq_true p585
                 replace q585 := eq_true q585
                 try go_wp2_with (first | ((with_reducible refine gate_callee (f := 8) rfl ?_); refine goesL_ (some 48) rfl rfl Tryd.func8 (by kernel_rfl) rfl #[.slice Ao8 t572.length co8, .int .i64 ((rd_T33 t582 x8_2).f0)] rfl ma_ ?_; (with_reducible refine (impl_FindThing.calls _ _ t572 ((rd_T33 t582 x8_2).f0) t586 _ ?side1 ?side2 A18.out).mono ?_); (case side1 => exact cd_ (Kd.R_reads' HO_3.out).2.2); (case side2 => exact (Kd.R_reads' HO_3.out).2.1); rintro e w58 ⟨rfl, hb⟩; refine ⟨_, rfl, ?_⟩; have n0_ := Aside0.mk (Kd.R_below (rd_ HO_3.out) hb); have n1_ := Aside0.mk (Kd.R_below (rd_ HO_4.out) hb); have n2_ := Aside0.mk (Kd.R_below (rd_ HO_5.out) hb); have n3_ := Aside0.mk (Kd.R_below (rd_ HO_7.out) hb); have n4_ := Aside0.mk (below_step (hd_ HB.out) hb); clear HO_3; clear HO_4; clear HO_5; clear HO_7; clear HB; have HO_3 := n0_; have HO_4 := n1_; have HO_5 := n2_; have HO_7 := n3_; have HB := n4_; clear n0_ n1_ n2_ n3_ n4_; (try clear hb)))
                 have n0_ := Aside0.mk (Kd.R_drew HO_3.out)
                 have n1_ := Aside0.mk (Kd.R_drew HO_4.out)
                 have n2_ := Aside0.mk (Kd.R_drew HO_5.out)
                 have n3_ := Aside0.mk (Kd.R_drew HO_7.out)
                 have n4_ := Aside0.mk (below_drew1 HB.out)
                 clear HO_3
                 clear HO_4
                 clear HO_5
                 clear HO_7
                 clear HB
                 have HO_3 := n0_
                 have HO_4 := n1_
                 have HO_5 := n2_
                 have HO_7 := n3_
                 have HB := n4_
                 clear n0_ n1_ n2_ n3_ n4_
                 have p587 : 0 ≤ (x8_2 : Int) := of_decide_eq_true as_
                 have q587 : x8_2 < (t582.length : Int) := of_decide_eq_true as_
                 obtain ⟨ad587, e587, hx587_0, hx587_1, hx587_2⟩ := at_T33 (Kd.R_reads' HO_7.out).2.2 x8_2 p587 q587
                 obtain rfl : ad585 = ad587 := (by injection e587)
                 replace p587 := eq_true p587
                 replace q587 := eq_true q587
                 have p588 : 0 ≤ (t586 : Int) := of_decide_eq_true as_
                 have q588 : t586 < (t572.length : Int) := of_decide_eq_true as_
                 obtain ⟨ad588, e588, hx588_0, hx588_1, hx588_2, hx588_3, hx588_4, hx588_5, hx588_6, hx588_7⟩ := at_T38 (Kd.R_reads' HO_3.out).2.2 t586 p588 q588
                 cases e588
                 replace p588 := eq_true p588
                 replace q588 := eq_true q588
                 have p602 : 0 ≤ (x8_2 : Int) := of_decide_eq_true as_
                 have q602 : x8_2 < (t582.length : Int) := of_decide_eq_true as_
                 obtain ⟨ad602, e602, hx602_0, hx602_1, hx602_2⟩ := at_T33 (Kd.R_reads' HO_7.out).2.2 x8_2 p602 q602
                 obtain rfl : ad585 = ad602 := (by injection e602)
                 replace p602 := eq_true p602
                 replace q602 := eq_true q602
                 have p604 : 0 ≤ (x8_2 : Int) := of_decide_eq_true as_
                 have q604 : x8_2 < (t582.length : Int) := of_decide_eq_true as_
                 obtain ⟨ad604, e604, hx604_0, hx604_1, hx604_2⟩ := at_T33 (Kd.R_reads' HO_7.out).2.2 x8_2 p604 q604
                 obtain rfl : ad585 = ad604 := (by injection e604)
                 replace p604 := eq_true p604
                 replace q604 := eq_true q604
                 have p605 : 0 ≤ (x8_2 : Int) := of_decide_eq_true as_
                 have q605 : x8_2 < (t582.length : Int) := of_decide_eq_true as_
                 obtain ⟨ad605, e605, hx605_0, hx605_1, hx605_2⟩ := at_T33 (Kd.R_reads' HO_7.out).2.2 x8_2 p605 q605
                 obtain rfl : ad585 = ad605 := (by injection e605)
                 replace p605 := eq_true p605
                 replace q605 := eq_true q605
                 refine start_ (n := 69) (S := fun w' => q6_ w' (ad585.add ((x8_2).toNat * 3)) ((rd_T33 t582 x8_2).f0) ((rd_T33 t582 x8_2).f1) ((rd_T33 t582 x8_2).f2) (q4_ w' (ad588.add ((t586).toNat * 8)) ((rd_T38 t572 t586).f0.f0) ((rd_T38 t572 t586).f0.f1) ((rd_T38 t572 t586).f0.f2) ((rd_T38 t572 t586).f0.f3) ((rd_T38 t572 t586).f0.f4) ((rd_T38 t572 t586).f1) ((rd_T38 t572 t586).f2) ((rd_T38 t572 t586).f3) (q6_ w' (ad585.add ((x8_2).toNat * 3)) ((rd_T33 t582 x8_2).f0) ((rd_T33 t582 x8_2).f1) ((rd_T33 t582 x8_2).f2) (q6_ w' (ad585.add ((x8_2).toNat * 3)) ((rd_T33 t582 x8_2).f0) ((rd_T33 t582 x8_2).f1) ((rd_T33 t582 x8_2).f2) (q6e_ w' (ad585.add ((x8_2).toNat * 3)) ((rd_T33 t582 x8_2).f0) ((rd_T33 t582 x8_2).f1) ((rd_T33 t582 x8_2).f2)))))) (ds := []) M4_0 (by kernel_rfl) rfl rfl ⟨hx587_0, hx587_1, hx587_2, hx588_0, hx588_1, hx588_2, hx588_3, hx588_4, hx588_5, hx588_6, hx588_7, hx602_0, hx602_1, hx602_2, hx604_0, hx604_1, hx604_2, hx605_0, hx605_1, hx605_2⟩ (fun hHeld => ?_); refine with_tabW laws_FnTasks.tab11 laws_FnTasks.bits11 (fun HT_ HW_ => ?_)
                 generalize w58.drew = w59 at HO_3 HO_4 HO_5 HO_7 HB hx587_0 hx587_1 hx587_2 hx588_0 hx588_1 hx588_2 hx588_3 hx588_4 hx588_5 hx588_6 hx588_7 hx602_0 hx602_1 hx602_2 hx604_0 hx604_1 hx604_2 hx605_0 hx605_1 hx605_2 hHeld ⊢
                 refine pu_ 0 (some 49) M4_1 HT_ ?_
                 refine pu_ 1 (some 50) M4_2 HT_ ?_
                 refine pu_ 2 (some 51) M4_3 HT_ ?_
                 refine pu_ 3 (some 52) M4_4 HT_ ?_
                 refine pu_ 4 (some 53) M4_5 HT_ ?_
                 refine pu_ 5 (some 54) M4_6 HT_ ?_
                 refine pu_ 7 (some 56) M4_7 HT_ ?_
                 refine pu_ 8 (some 57) M4_8 HT_ ?_
                 refine pu_ 9 (some 58) M4_9 HT_ ?_
                 refine pu_ 11 (some 60) M4_10 HT_ ?_
                 refine pu_ 12 (some 61) M4_11 HT_ ?_
                 refine pu_ 13 (some 62) M4_12 HT_ ?_
                 refine tk_ 6 (some 55) M4_13 HT_ HW_ hHeld ?_
                 refine tk_ 10 (some 59) M4_14 HT_ HW_ hHeld ?_
                 refine one_ (i := 14) (N := some 63) M4_15 rfl rfl (one_of HT_.out (by kernel_rfl)) (by decide) (fun K hK => ?_)
                 refine goes_ Tryd.func9 (by kernel_rfl) rfl #[.agg #[.int .i64 ((rd_T38 t572 t586).f0.f0), .int .i64 ((rd_T38 t572 t586).f0.f1), .int .i64 ((rd_T38 t572 t586).f0.f2), .int .i64 ((rd_T38 t572 t586).f0.f3), .int .i64 ((rd_T38 t572 t586).f0.f4), .int .i64 ((rd_T38 t572 t586).f1), .int .i64 ((rd_T38 t572 t586).f2), .int .i64 ((rd_T38 t572 t586).f3)], .slice Ao9 t573.length co9, .slice Ao10 t574.length co10, .int .i64 t575] (by rfl) rfl rfl ma_ ?_
                 with_reducible refine (impl_TaskOf.calls k2 ((rd_T38 t572 t586).f0.f0) ((rd_T38 t572 t586).f0.f1) ((rd_T38 t572 t586).f0.f2) ((rd_T38 t572 t586).f0.f3) ((rd_T38 t572 t586).f0.f4) ((rd_T38 t572 t586).f1) ((rd_T38 t572 t586).f2) ((rd_T38 t572 t586).f3) _ _ t573 _ _ t574 t575 t589 t590 t591 _ ?side1 ?side2 ?side3 ?side4 A22.out).mono ?_
                 (case side1 => exact cd_ (Kd.R_reads' HO_4.out).2.2)
                 (case side2 => exact (Kd.R_reads' HO_4.out).2.1)
                 (case side3 => exact cd_ (Kd.R_reads' HO_5.out).2.2)
                 (case side4 => exact (Kd.R_reads' HO_5.out).2.1)
                 rintro e w60 ⟨rfl, hb⟩
                 have HS0_ := (hb.cell (World.block_lt_of_cell? _ _ (hHeld.1))).trans (hHeld.1)
                 have HS1_ := (hb.cell (World.block_lt_of_cell? _ _ (hHeld.2.1))).trans (hHeld.2.1)
                 have HS2_ := (hb.cell (World.block_lt_of_cell? _ _ (hHeld.2.2.1))).trans (hHeld.2.2.1)
                 have HS3_ := (hb.cell (World.block_lt_of_cell? _ _ (hHeld.2.2.2.1))).trans (hHeld.2.2.2.1)
                 have HS4_ := (hb.cell (World.block_lt_of_cell? _ _ (hHeld.2.2.2.2.1))).trans (hHeld.2.2.2.2.1)
                 have HS5_ := (hb.cell (World.block_lt_of_cell? _ _ (hHeld.2.2.2.2.2.1))).trans (hHeld.2.2.2.2.2.1)
                 have HS6_ := (hb.cell (World.block_lt_of_cell? _ _ (hHeld.2.2.2.2.2.2.1))).trans (hHeld.2.2.2.2.2.2.1)
                 have HS7_ := (hb.cell (World.block_lt_of_cell? _ _ (hHeld.2.2.2.2.2.2.2.1))).trans (hHeld.2.2.2.2.2.2.2.1)
                 have HS8_ := (hb.cell (World.block_lt_of_cell? _ _ (hHeld.2.2.2.2.2.2.2.2.1))).trans (hHeld.2.2.2.2.2.2.2.2.1)
                 have HS9_ := (hb.cell (World.block_lt_of_cell? _ _ (hHeld.2.2.2.2.2.2.2.2.2.1))).trans (hHeld.2.2.2.2.2.2.2.2.2.1)
                 have HS10_ := (hb.cell (World.block_lt_of_cell? _ _ (hHeld.2.2.2.2.2.2.2.2.2.2.1))).trans (hHeld.2.2.2.2.2.2.2.2.2.2.1)
                 have HS11_ := (hb.cell (World.block_lt_of_cell? _ _ (hHeld.2.2.2.2.2.2.2.2.2.2.2.1))).trans (hHeld.2.2.2.2.2.2.2.2.2.2.2.1)
                 have HS12_ := (hb.cell (World.block_lt_of_cell? _ _ (hHeld.2.2.2.2.2.2.2.2.2.2.2.2.1))).trans (hHeld.2.2.2.2.2.2.2.2.2.2.2.2.1)
                 have HS13_ := (hb.cell (World.block_lt_of_cell? _ _ (hHeld.2.2.2.2.2.2.2.2.2.2.2.2.2.1))).trans (hHeld.2.2.2.2.2.2.2.2.2.2.2.2.2.1)
                 have HS14_ := (hb.cell (World.block_lt_of_cell? _ _ (hHeld.2.2.2.2.2.2.2.2.2.2.2.2.2.2.1))).trans (hHeld.2.2.2.2.2.2.2.2.2.2.2.2.2.2.1)
                 have HS15_ := (hb.cell (World.block_lt_of_cell? _ _ (hHeld.2.2.2.2.2.2.2.2.2.2.2.2.2.2.2.1))).trans (hHeld.2.2.2.2.2.2.2.2.2.2.2.2.2.2.2.1)
                 have HS16_ := (hb.cell (World.block_lt_of_cell? _ _ (hHeld.2.2.2.2.2.2.2.2.2.2.2.2.2.2.2.2.1))).trans (hHeld.2.2.2.2.2.2.2.2.2.2.2.2.2.2.2.2.1)
                 have HS17_ := (hb.cell (World.block_lt_of_cell? _ _ (hHeld.2.2.2.2.2.2.2.2.2.2.2.2.2.2.2.2.2.1))).trans (hHeld.2.2.2.2.2.2.2.2.2.2.2.2.2.2.2.2.2.1)
                 have HS18_ := (hb.cell (World.block_lt_of_cell? _ _ (hHeld.2.2.2.2.2.2.2.2.2.2.2.2.2.2.2.2.2.2.1))).trans (hHeld.2.2.2.2.2.2.2.2.2.2.2.2.2.2.2.2.2.2.1)
                 have HS19_ := (hb.cell (World.block_lt_of_cell? _ _ (hHeld.2.2.2.2.2.2.2.2.2.2.2.2.2.2.2.2.2.2.2))).trans (hHeld.2.2.2.2.2.2.2.2.2.2.2.2.2.2.2.2.2.2.2)
                 refine ⟨_, rfl, ?_⟩
                 have n0_ := Aside0.mk (Kd.R_below (rd_ HO_3.out) hb)
                 have n1_ := Aside0.mk (Kd.R_below (rd_ HO_4.out) hb)
                 have n2_ := Aside0.mk (Kd.R_below (rd_ HO_5.out) hb)
                 have n3_ := Aside0.mk (Kd.R_below (rd_ HO_7.out) hb)
                 have n4_ := Aside0.mk (below_step (hd_ HB.out) hb)
                 clear HO_3
                 clear HO_4
                 clear HO_5
                 clear HO_7
                 clear HB
                 have HO_3 := n0_
                 have HO_4 := n1_
                 have HO_5 := n2_
                 have HO_7 := n3_
                 have HB := n4_
                 clear n0_ n1_ n2_ n3_ n4_
                 (try clear hb)
                 (try clear hb2)
                 (try clear hk)
                 (try clear hi)
                 refine hK.out _ _ ⟨HS0_, HS1_, HS2_, HS3_, HS4_, HS5_, HS6_, HS7_, HS8_, HS9_, HS10_, HS11_, HS12_, HS13_, HS14_, HS15_, HS16_, HS17_, HS18_, HS19_⟩ (fun hHeld => ?_)
                 clear hK K
                 refine norm_ (a' := ?_) ?_ ?_
                 rotate_left
                 ·
                  show Act.put _ (some 63) _ = _
                  simp only [Act.put, P4_1, P4_2, P4_3, i64_w, i32_w]
                  rfl
                 refine pu_ 15 (some 64) M4_16 HT_ ?_
                 refine pu_ 16 (some 65) M4_17 HT_ ?_
                 refine pu_ 17 (some 66) M4_18 HT_ ?_
                 refine pu_ 18 (some 67) M4_19 HT_ ?_
                 refine pu_ 19 (some 68) M4_20 HT_ ?_
                 refine pu_ 20 (some 69) M4_21 HT_ ?_
                 refine pn_ 21 (some 70) M4_22 HT_ ?_
                 refine pn_ 22 (some 71) M4_23 HT_ ?_
                 refine pn_ 23 (some 72) M4_24 HT_ ?_
                 refine pn_ 24 (some 73) M4_25 HT_ ?_
                 refine pn_ 25 (some 74) M4_26 HT_ ?_
                 refine pn_ 26 (some 75) M4_70 HT_ ?_
                 refine pn_ 27 (some 76) M4_71 HT_ ?_
                 refine pn_ 28 (some 77) M4_72 HT_ ?_
                 refine pn_ 29 (some 78) M4_73 HT_ ?_
                 refine pn_ 30 (some 79) M4_31 HT_ ?_
                 refine pn_ 31 (some 80) M4_32 HT_ ?_
                 refine pn_ 32 (some 81) M4_33 HT_ ?_
                 refine pu_ 33 (some 82) M4_34 HT_ ?_
                 refine pu_ 34 (some 83) M4_35 HT_ ?_
                 refine pu_ 35 (some 84) M4_36 HT_ ?_
                 refine pu_ 36 (some 85) M4_37 HT_ ?_
                 refine pu_ 37 (some 86) M4_38 HT_ ?_
                 refine pu_ 38 (some 87) M4_39 HT_ ?_
                 refine tk_ 39 (some 88) M4_40 HT_ HW_ hHeld ?_
                 refine one_ (i := 40) (N := some 89) M4_41 rfl rfl (one_of HT_.out (by kernel_rfl)) (by decide) (fun K hK => ?_)
                 refine goes_ Tryd.func10 (by kernel_rfl) rfl #[.agg #[.int .i64 ((rd_T33 t582 x8_2).f0), .int .i64 ((rd_T33 t582 x8_2).f1), .int .i64 ((rd_T33 t582 x8_2).f2)]] (by rfl) rfl rfl ma_ ?_
                 with_reducible refine (impl_TaskText.calls ((rd_T33 t582 x8_2).f0) ((rd_T33 t582 x8_2).f1) ((rd_T33 t582 x8_2).f2) t603 _ A52.out (TB_.below (hd_ HB.out))).mono ?_
                 rintro e w61 ⟨rfl, hb⟩
                 have HS0_ := (hb.cell (World.block_lt_of_cell? _ _ (hHeld.1))).trans (hHeld.1)
                 have HS1_ := (hb.cell (World.block_lt_of_cell? _ _ (hHeld.2.1))).trans (hHeld.2.1)
                 have HS2_ := (hb.cell (World.block_lt_of_cell? _ _ (hHeld.2.2.1))).trans (hHeld.2.2.1)
                 have HS3_ := (hb.cell (World.block_lt_of_cell? _ _ (hHeld.2.2.2.1))).trans (hHeld.2.2.2.1)
                 have HS4_ := (hb.cell (World.block_lt_of_cell? _ _ (hHeld.2.2.2.2.1))).trans (hHeld.2.2.2.2.1)
                 have HS5_ := (hb.cell (World.block_lt_of_cell? _ _ (hHeld.2.2.2.2.2.1))).trans (hHeld.2.2.2.2.2.1)
                 have HS6_ := (hb.cell (World.block_lt_of_cell? _ _ (hHeld.2.2.2.2.2.2.1))).trans (hHeld.2.2.2.2.2.2.1)
                 have HS7_ := (hb.cell (World.block_lt_of_cell? _ _ (hHeld.2.2.2.2.2.2.2.1))).trans (hHeld.2.2.2.2.2.2.2.1)
                 have HS8_ := (hb.cell (World.block_lt_of_cell? _ _ (hHeld.2.2.2.2.2.2.2.2.1))).trans (hHeld.2.2.2.2.2.2.2.2.1)
                 have HS9_ := (hb.cell (World.block_lt_of_cell? _ _ (hHeld.2.2.2.2.2.2.2.2.2.1))).trans (hHeld.2.2.2.2.2.2.2.2.2.1)
                 have HS10_ := (hb.cell (World.block_lt_of_cell? _ _ (hHeld.2.2.2.2.2.2.2.2.2.2.1))).trans (hHeld.2.2.2.2.2.2.2.2.2.2.1)
                 have HS11_ := (hb.cell (World.block_lt_of_cell? _ _ (hHeld.2.2.2.2.2.2.2.2.2.2.2.1))).trans (hHeld.2.2.2.2.2.2.2.2.2.2.2.1)
                 have HS12_ := (hb.cell (World.block_lt_of_cell? _ _ (hHeld.2.2.2.2.2.2.2.2.2.2.2.2.1))).trans (hHeld.2.2.2.2.2.2.2.2.2.2.2.2.1)
                 have HS13_ := (hb.cell (World.block_lt_of_cell? _ _ (hHeld.2.2.2.2.2.2.2.2.2.2.2.2.2.1))).trans (hHeld.2.2.2.2.2.2.2.2.2.2.2.2.2.1)
                 have HS14_ := (hb.cell (World.block_lt_of_cell? _ _ (hHeld.2.2.2.2.2.2.2.2.2.2.2.2.2.2.1))).trans (hHeld.2.2.2.2.2.2.2.2.2.2.2.2.2.2.1)
                 have HS15_ := (hb.cell (World.block_lt_of_cell? _ _ (hHeld.2.2.2.2.2.2.2.2.2.2.2.2.2.2.2.1))).trans (hHeld.2.2.2.2.2.2.2.2.2.2.2.2.2.2.2.1)
                 have HS16_ := (hb.cell (World.block_lt_of_cell? _ _ (hHeld.2.2.2.2.2.2.2.2.2.2.2.2.2.2.2.2.1))).trans (hHeld.2.2.2.2.2.2.2.2.2.2.2.2.2.2.2.2.1)
                 have HS17_ := (hb.cell (World.block_lt_of_cell? _ _ (hHeld.2.2.2.2.2.2.2.2.2.2.2.2.2.2.2.2.2.1))).trans (hHeld.2.2.2.2.2.2.2.2.2.2.2.2.2.2.2.2.2.1)
                 have HS18_ := (hb.cell (World.block_lt_of_cell? _ _ (hHeld.2.2.2.2.2.2.2.2.2.2.2.2.2.2.2.2.2.2.1))).trans (hHeld.2.2.2.2.2.2.2.2.2.2.2.2.2.2.2.2.2.2.1)
                 have HS19_ := (hb.cell (World.block_lt_of_cell? _ _ (hHeld.2.2.2.2.2.2.2.2.2.2.2.2.2.2.2.2.2.2.2))).trans (hHeld.2.2.2.2.2.2.2.2.2.2.2.2.2.2.2.2.2.2.2)
                 refine ⟨_, rfl, ?_⟩
                 have n0_ := Aside0.mk (Kd.R_below (rd_ HO_3.out) hb)
                 have n1_ := Aside0.mk (Kd.R_below (rd_ HO_4.out) hb)
                 have n2_ := Aside0.mk (Kd.R_below (rd_ HO_5.out) hb)
                 have n3_ := Aside0.mk (Kd.R_below (rd_ HO_7.out) hb)
                 have n4_ := Aside0.mk (below_step (hd_ HB.out) hb)
                 clear HO_3
                 clear HO_4
                 clear HO_5
                 clear HO_7
                 clear HB
                 have HO_3 := n0_
                 have HO_4 := n1_
                 have HO_5 := n2_
                 have HO_7 := n3_
                 have HB := n4_
                 clear n0_ n1_ n2_ n3_ n4_
                 (try clear hb)
                 (try clear hb2)
                 (try clear hk)
                 (try clear hi)
                 refine hK.out _ _ ⟨HS0_, HS1_, HS2_, HS3_, HS4_, HS5_, HS6_, HS7_, HS8_, HS9_, HS10_, HS11_, HS12_, HS13_, HS14_, HS15_, HS16_, HS17_, HS18_, HS19_⟩ (fun hHeld => ?_)
                 clear hK K
                 refine norm_ (a' := ?_) ?_ ?_
                 rotate_left
                 ·
                  show Act.put _ (some 89) _ = _
                  simp only [Act.put, P4_1, P4_2, P4_3, i64_w, i32_w]
                  rfl
                 refine pu_ 41 (some 90) M4_42 HT_ ?_
                 refine pu_ 42 (some 91) M4_43 HT_ ?_
                 refine pu_ 43 (some 92) M4_44 HT_ ?_
                 refine pu_ 44 (some 93) M4_45 HT_ ?_
                 refine pu_ 45 (some 94) M4_46 HT_ ?_
                 refine pu_ 46 (some 95) M4_47 HT_ ?_
                 refine pu_ 47 (some 96) M4_48 HT_ ?_
                 refine tk_ 48 (some 97) M4_49 HT_ HW_ hHeld ?_
                 refine pu_ 49 (some 98) M4_50 HT_ ?_
                 refine pu_ 50 (some 99) M4_51 HT_ ?_
                 refine pn_ 51 (some 100) M4_52 HT_ ?_
                 refine pn_ 52 (some 101) M4_53 HT_ ?_
                 refine pn_ 53 (some 102) M4_54 HT_ ?_
                 refine pn_ 54 (some 103) M4_55 HT_ ?_
                 refine pn_ 55 (some 104) M4_56 HT_ ?_
                 refine pn_ 56 (some 105) M4_57 HT_ ?_
                 refine pu_ 57 (some 106) M4_58 HT_ ?_
                 refine pu_ 58 (some 107) M4_59 HT_ ?_
                 refine pu_ 59 (some 108) M4_60 HT_ ?_
                 refine pu_ 60 (some 109) M4_61 HT_ ?_
                 refine pu_ 61 (some 110) M4_62 HT_ ?_
                 refine pu_ 62 (some 111) M4_63 HT_ ?_
                 refine pu_ 63 (some 112) M4_64 HT_ ?_
                 refine tk_ 64 (some 113) M4_65 HT_ HW_ hHeld ?_
                 refine one_ (i := 65) (N := some 114) M4_66 rfl rfl (one_of HT_.out (by kernel_rfl)) (by decide) (fun K hK => ?_)
                 refine goes_ Tryd.func11 (by kernel_rfl) rfl #[.slice Ao10 t574.length co10, .int .i64 ((rd_T33 t582 x8_2).f2)] (by rfl) rfl rfl ma_ ?_
                 with_reducible refine (impl_IsOpen.calls k2 _ _ t574 ((rd_T33 t582 x8_2).f2) true _ ?side1 ?side2 A55.out).mono ?_
                 (case side1 => exact cd_ (Kd.R_reads' HO_5.out).2.2)
                 (case side2 => exact (Kd.R_reads' HO_5.out).2.1)
                 rintro e w' ⟨rfl, ⟨nd, rfl⟩⟩
                 refine ⟨_, rfl, ?_⟩
                 refine hK.out _ _ ⟨hHeld.1, hHeld.2.1, hHeld.2.2.1, hHeld.2.2.2.1, hHeld.2.2.2.2.1, hHeld.2.2.2.2.2.1, hHeld.2.2.2.2.2.2.1, hHeld.2.2.2.2.2.2.2.1, hHeld.2.2.2.2.2.2.2.2.1, hHeld.2.2.2.2.2.2.2.2.2.1, hHeld.2.2.2.2.2.2.2.2.2.2.1, hHeld.2.2.2.2.2.2.2.2.2.2.2.1, hHeld.2.2.2.2.2.2.2.2.2.2.2.2.1, hHeld.2.2.2.2.2.2.2.2.2.2.2.2.2.1, hHeld.2.2.2.2.2.2.2.2.2.2.2.2.2.2.1, hHeld.2.2.2.2.2.2.2.2.2.2.2.2.2.2.2.1, hHeld.2.2.2.2.2.2.2.2.2.2.2.2.2.2.2.2.1, hHeld.2.2.2.2.2.2.2.2.2.2.2.2.2.2.2.2.2.1, hHeld.2.2.2.2.2.2.2.2.2.2.2.2.2.2.2.2.2.2.1, hHeld.2.2.2.2.2.2.2.2.2.2.2.2.2.2.2.2.2.2.2⟩ (fun hHeld => ?_)
                 clear hK K
                 refine norm_ (a' := ?_) ?_ ?_
                 rotate_left
                 ·
                  show Act.put _ (some 114) _ = _
                  simp only [Act.put, P4_1, P4_2, P4_3, i64_w, i32_w]
                  rfl
                 refine pu_ 66 (some 115) M4_67 HT_ ?_
                 refine pu_ 67 (some 116) M4_68 HT_ ?_
                 refine pu_ 68 (some 117) M4_69 HT_ ?_
                 refine done_ (done_of HT_.out (by kernel_rfl)) ?_
                 try go_wp2
                 go_roundg k2
                 case measure => have := HJ5.out; have := HK2.out; omega
                 case rel => exact ⟨(wrap64 (x8_2 + 1)), y232_, H', ⟨by have := HJ5.out; have := HK2.out; omega⟩, ⟨rd_ HO_3.out⟩, ⟨rd_ HO_4.out⟩, ⟨rd_ HO_5.out⟩, ⟨rd_ HO_7.out⟩, ⟨hd_ HB.out⟩⟩
                ·
                 replace c56 := Bool.eq_false_iff.mpr c56
                 subst c56
                 have H1 : (some false) = some true := by rw [if_neg (show ¬ (false = true) by decide)] at H; exact H
                 clear H
                 have H := H1
                 clear H1
                 exact absurd H (by simp)
               ·
                rw [if_neg c54] at H
                have c54b0 : (((rd_T33 t582 x8_2).f1) == 1) = false := beq_eq_false_iff_ne.mpr c54
                have c54b1 : (((rd_T33 t582 x8_2).f1) != 1) = true := bne_iff_ne.mpr c54
                by_cases c62 : ((rd_T33 t582 x8_2).f1) = 0
                ·
                 rw [if_pos c62] at H
                 have c62b0 : (((rd_T33 t582 x8_2).f1) == 0) = true := beq_iff_eq.mpr c62
                 have c62b1 : (((rd_T33 t582 x8_2).f1) != 0) = false := bne_eq_false_iff_eq.mpr c62
                 clear c62
                 replace H := Option.bind_eq_some_iff.mp H
                 obtain ⟨t609, A630, H⟩ := H
                 replace H : (if t609 = true then (laws_FnTasks.l0 k2 t572 t573 t574 t575 t582 (wrap64 (x8_2 + 1))) else (some false)) = some true := H
                 have A63 := Aside0.mk A630
                 clear A630
                 by_cases c64 : t609 = true
                 ·
                  subst c64
                  have H1 : (laws_FnTasks.l0 k2 t572 t573 t574 t575 t582 (wrap64 (x8_2 + 1))) = some true := by rw [if_pos rfl] at H; exact H
                  clear H
                  have H := H1
                  clear H1
                  have H' := Aside0.mk H
                  clear H
                  obtain ⟨Ao65, co65, eo65⟩ := Kd.R_slice HO_7.out
                  subst eo65
                  have p585 : 0 ≤ (x8_2 : Int) := of_decide_eq_true as_
                  have q585 : x8_2 < (t582.length : Int) := of_decide_eq_true as_
                  obtain ⟨ad585, e585, hx585_0, hx585_1, hx585_2⟩ := at_T33 (Kd.R_reads' HO_7.out).2.2 x8_2 p585 q585
                  cases e585
                  replace p585 := eq_true p585
                  replace q585 := eq_true q585
                  try go_wp2_with (first | ((with_reducible refine gate_callee (f := 8) rfl ?_); refine goesL_ (some 48) rfl rfl Tryd.func8 (by kernel_rfl) rfl #[.slice Ao8 t572.length co8, .int .i64 ((rd_T33 t582 x8_2).f0)] rfl ma_ ?_; (with_reducible refine (impl_FindThing.calls _ _ t572 ((rd_T33 t582 x8_2).f0) t586 _ ?side1 ?side2 A18.out).mono ?_); (case side1 => exact cd_ (Kd.R_reads' HO_3.out).2.2); (case side2 => exact (Kd.R_reads' HO_3.out).2.1); rintro e w66 ⟨rfl, hb⟩; refine ⟨_, rfl, ?_⟩; have n0_ := Aside0.mk (Kd.R_below (rd_ HO_3.out) hb); have n1_ := Aside0.mk (Kd.R_below (rd_ HO_4.out) hb); have n2_ := Aside0.mk (Kd.R_below (rd_ HO_5.out) hb); have n3_ := Aside0.mk (Kd.R_below (rd_ HO_7.out) hb); have n4_ := Aside0.mk (below_step (hd_ HB.out) hb); clear HO_3; clear HO_4; clear HO_5; clear HO_7; clear HB; have HO_3 := n0_; have HO_4 := n1_; have HO_5 := n2_; have HO_7 := n3_; have HB := n4_; clear n0_ n1_ n2_ n3_ n4_; (try clear hb)))
                  have n0_ := Aside0.mk (Kd.R_drew HO_3.out)
                  have n1_ := Aside0.mk (Kd.R_drew HO_4.out)
                  have n2_ := Aside0.mk (Kd.R_drew HO_5.out)
                  have n3_ := Aside0.mk (Kd.R_drew HO_7.out)
                  have n4_ := Aside0.mk (below_drew1 HB.out)
                  clear HO_3
                  clear HO_4
                  clear HO_5
                  clear HO_7
                  clear HB
                  have HO_3 := n0_
                  have HO_4 := n1_
                  have HO_5 := n2_
                  have HO_7 := n3_
                  have HB := n4_
                  clear n0_ n1_ n2_ n3_ n4_
                  have p587 : 0 ≤ (x8_2 : Int) := of_decide_eq_true as_
                  have q587 : x8_2 < (t582.length : Int) := of_decide_eq_true as_
                  obtain ⟨ad587, e587, hx587_0, hx587_1, hx587_2⟩ := at_T33 (Kd.R_reads' HO_7.out).2.2 x8_2 p587 q587
                  obtain rfl : ad585 = ad587 := (by injection e587)
                  replace p587 := eq_true p587
                  replace q587 := eq_true q587
                  have p588 : 0 ≤ (t586 : Int) := of_decide_eq_true as_
                  have q588 : t586 < (t572.length : Int) := of_decide_eq_true as_
                  obtain ⟨ad588, e588, hx588_0, hx588_1, hx588_2, hx588_3, hx588_4, hx588_5, hx588_6, hx588_7⟩ := at_T38 (Kd.R_reads' HO_3.out).2.2 t586 p588 q588
                  cases e588
                  replace p588 := eq_true p588
                  replace q588 := eq_true q588
                  have p602 : 0 ≤ (x8_2 : Int) := of_decide_eq_true as_
                  have q602 : x8_2 < (t582.length : Int) := of_decide_eq_true as_
                  obtain ⟨ad602, e602, hx602_0, hx602_1, hx602_2⟩ := at_T33 (Kd.R_reads' HO_7.out).2.2 x8_2 p602 q602
                  obtain rfl : ad585 = ad602 := (by injection e602)
                  replace p602 := eq_true p602
                  replace q602 := eq_true q602
                  have p604 : 0 ≤ (x8_2 : Int) := of_decide_eq_true as_
                  have q604 : x8_2 < (t582.length : Int) := of_decide_eq_true as_
                  obtain ⟨ad604, e604, hx604_0, hx604_1, hx604_2⟩ := at_T33 (Kd.R_reads' HO_7.out).2.2 x8_2 p604 q604
                  obtain rfl : ad585 = ad604 := (by injection e604)
                  replace p604 := eq_true p604
                  replace q604 := eq_true q604
                  have p607 : 0 ≤ (x8_2 : Int) := of_decide_eq_true as_
                  have q607 : x8_2 < (t582.length : Int) := of_decide_eq_true as_
                  obtain ⟨ad607, e607, hx607_0, hx607_1, hx607_2⟩ := at_T33 (Kd.R_reads' HO_7.out).2.2 x8_2 p607 q607
                  obtain rfl : ad585 = ad607 := (by injection e607)
                  replace p607 := eq_true p607
                  replace q607 := eq_true q607
                  have p608 : 0 ≤ (x8_2 : Int) := of_decide_eq_true as_
                  have q608 : x8_2 < (t582.length : Int) := of_decide_eq_true as_
                  obtain ⟨ad608, e608, hx608_0, hx608_1, hx608_2⟩ := at_T33 (Kd.R_reads' HO_7.out).2.2 x8_2 p608 q608
                  obtain rfl : ad585 = ad608 := (by injection e608)
                  replace p608 := eq_true p608
                  replace q608 := eq_true q608
                  refine start_ (n := 69) (S := fun w' => q6_ w' (ad585.add ((x8_2).toNat * 3)) ((rd_T33 t582 x8_2).f0) ((rd_T33 t582 x8_2).f1) ((rd_T33 t582 x8_2).f2) (q4_ w' (ad588.add ((t586).toNat * 8)) ((rd_T38 t572 t586).f0.f0) ((rd_T38 t572 t586).f0.f1) ((rd_T38 t572 t586).f0.f2) ((rd_T38 t572 t586).f0.f3) ((rd_T38 t572 t586).f0.f4) ((rd_T38 t572 t586).f1) ((rd_T38 t572 t586).f2) ((rd_T38 t572 t586).f3) (q6_ w' (ad585.add ((x8_2).toNat * 3)) ((rd_T33 t582 x8_2).f0) ((rd_T33 t582 x8_2).f1) ((rd_T33 t582 x8_2).f2) (q6_ w' (ad585.add ((x8_2).toNat * 3)) ((rd_T33 t582 x8_2).f0) ((rd_T33 t582 x8_2).f1) ((rd_T33 t582 x8_2).f2) (q6_ w' (ad585.add ((x8_2).toNat * 3)) ((rd_T33 t582 x8_2).f0) ((rd_T33 t582 x8_2).f1) ((rd_T33 t582 x8_2).f2) (q6e_ w' (ad585.add ((x8_2).toNat * 3)) ((rd_T33 t582 x8_2).f0) ((rd_T33 t582 x8_2).f1) ((rd_T33 t582 x8_2).f2))))))) (ds := []) M4_0 (by kernel_rfl) rfl rfl ⟨hx587_0, hx587_1, hx587_2, hx588_0, hx588_1, hx588_2, hx588_3, hx588_4, hx588_5, hx588_6, hx588_7, hx602_0, hx602_1, hx602_2, hx604_0, hx604_1, hx604_2, hx607_0, hx607_1, hx607_2, hx608_0, hx608_1, hx608_2⟩ (fun hHeld => ?_); refine with_tabW laws_FnTasks.tab11 laws_FnTasks.bits11 (fun HT_ HW_ => ?_)
                  generalize w66.drew = w67 at HO_3 HO_4 HO_5 HO_7 HB hx587_0 hx587_1 hx587_2 hx588_0 hx588_1 hx588_2 hx588_3 hx588_4 hx588_5 hx588_6 hx588_7 hx602_0 hx602_1 hx602_2 hx604_0 hx604_1 hx604_2 hx607_0 hx607_1 hx607_2 hx608_0 hx608_1 hx608_2 hHeld ⊢
                  refine pu_ 0 (some 49) M4_1 HT_ ?_
                  refine pu_ 1 (some 50) M4_2 HT_ ?_
                  refine pu_ 2 (some 51) M4_3 HT_ ?_
                  refine pu_ 3 (some 52) M4_4 HT_ ?_
                  refine pu_ 4 (some 53) M4_5 HT_ ?_
                  refine pu_ 5 (some 54) M4_6 HT_ ?_
                  refine pu_ 7 (some 56) M4_7 HT_ ?_
                  refine pu_ 8 (some 57) M4_8 HT_ ?_
                  refine pu_ 9 (some 58) M4_9 HT_ ?_
                  refine pu_ 11 (some 60) M4_10 HT_ ?_
                  refine pu_ 12 (some 61) M4_11 HT_ ?_
                  refine pu_ 13 (some 62) M4_12 HT_ ?_
                  refine tk_ 6 (some 55) M4_13 HT_ HW_ hHeld ?_
                  refine tk_ 10 (some 59) M4_14 HT_ HW_ hHeld ?_
                  refine one_ (i := 14) (N := some 63) M4_15 rfl rfl (one_of HT_.out (by kernel_rfl)) (by decide) (fun K hK => ?_)
                  refine goes_ Tryd.func9 (by kernel_rfl) rfl #[.agg #[.int .i64 ((rd_T38 t572 t586).f0.f0), .int .i64 ((rd_T38 t572 t586).f0.f1), .int .i64 ((rd_T38 t572 t586).f0.f2), .int .i64 ((rd_T38 t572 t586).f0.f3), .int .i64 ((rd_T38 t572 t586).f0.f4), .int .i64 ((rd_T38 t572 t586).f1), .int .i64 ((rd_T38 t572 t586).f2), .int .i64 ((rd_T38 t572 t586).f3)], .slice Ao9 t573.length co9, .slice Ao10 t574.length co10, .int .i64 t575] (by rfl) rfl rfl ma_ ?_
                  with_reducible refine (impl_TaskOf.calls k2 ((rd_T38 t572 t586).f0.f0) ((rd_T38 t572 t586).f0.f1) ((rd_T38 t572 t586).f0.f2) ((rd_T38 t572 t586).f0.f3) ((rd_T38 t572 t586).f0.f4) ((rd_T38 t572 t586).f1) ((rd_T38 t572 t586).f2) ((rd_T38 t572 t586).f3) _ _ t573 _ _ t574 t575 t589 t590 t591 _ ?side1 ?side2 ?side3 ?side4 A22.out).mono ?_
                  (case side1 => exact cd_ (Kd.R_reads' HO_4.out).2.2)
                  (case side2 => exact (Kd.R_reads' HO_4.out).2.1)
                  (case side3 => exact cd_ (Kd.R_reads' HO_5.out).2.2)
                  (case side4 => exact (Kd.R_reads' HO_5.out).2.1)
                  rintro e w68 ⟨rfl, hb⟩
                  have HS0_ := (hb.cell (World.block_lt_of_cell? _ _ (hHeld.1))).trans (hHeld.1)
                  have HS1_ := (hb.cell (World.block_lt_of_cell? _ _ (hHeld.2.1))).trans (hHeld.2.1)
                  have HS2_ := (hb.cell (World.block_lt_of_cell? _ _ (hHeld.2.2.1))).trans (hHeld.2.2.1)
                  have HS3_ := (hb.cell (World.block_lt_of_cell? _ _ (hHeld.2.2.2.1))).trans (hHeld.2.2.2.1)
                  have HS4_ := (hb.cell (World.block_lt_of_cell? _ _ (hHeld.2.2.2.2.1))).trans (hHeld.2.2.2.2.1)
                  have HS5_ := (hb.cell (World.block_lt_of_cell? _ _ (hHeld.2.2.2.2.2.1))).trans (hHeld.2.2.2.2.2.1)
                  have HS6_ := (hb.cell (World.block_lt_of_cell? _ _ (hHeld.2.2.2.2.2.2.1))).trans (hHeld.2.2.2.2.2.2.1)
                  have HS7_ := (hb.cell (World.block_lt_of_cell? _ _ (hHeld.2.2.2.2.2.2.2.1))).trans (hHeld.2.2.2.2.2.2.2.1)
                  have HS8_ := (hb.cell (World.block_lt_of_cell? _ _ (hHeld.2.2.2.2.2.2.2.2.1))).trans (hHeld.2.2.2.2.2.2.2.2.1)
                  have HS9_ := (hb.cell (World.block_lt_of_cell? _ _ (hHeld.2.2.2.2.2.2.2.2.2.1))).trans (hHeld.2.2.2.2.2.2.2.2.2.1)
                  have HS10_ := (hb.cell (World.block_lt_of_cell? _ _ (hHeld.2.2.2.2.2.2.2.2.2.2.1))).trans (hHeld.2.2.2.2.2.2.2.2.2.2.1)
                  have HS11_ := (hb.cell (World.block_lt_of_cell? _ _ (hHeld.2.2.2.2.2.2.2.2.2.2.2.1))).trans (hHeld.2.2.2.2.2.2.2.2.2.2.2.1)
                  have HS12_ := (hb.cell (World.block_lt_of_cell? _ _ (hHeld.2.2.2.2.2.2.2.2.2.2.2.2.1))).trans (hHeld.2.2.2.2.2.2.2.2.2.2.2.2.1)
                  have HS13_ := (hb.cell (World.block_lt_of_cell? _ _ (hHeld.2.2.2.2.2.2.2.2.2.2.2.2.2.1))).trans (hHeld.2.2.2.2.2.2.2.2.2.2.2.2.2.1)
                  have HS14_ := (hb.cell (World.block_lt_of_cell? _ _ (hHeld.2.2.2.2.2.2.2.2.2.2.2.2.2.2.1))).trans (hHeld.2.2.2.2.2.2.2.2.2.2.2.2.2.2.1)
                  have HS15_ := (hb.cell (World.block_lt_of_cell? _ _ (hHeld.2.2.2.2.2.2.2.2.2.2.2.2.2.2.2.1))).trans (hHeld.2.2.2.2.2.2.2.2.2.2.2.2.2.2.2.1)
                  have HS16_ := (hb.cell (World.block_lt_of_cell? _ _ (hHeld.2.2.2.2.2.2.2.2.2.2.2.2.2.2.2.2.1))).trans (hHeld.2.2.2.2.2.2.2.2.2.2.2.2.2.2.2.2.1)
                  have HS17_ := (hb.cell (World.block_lt_of_cell? _ _ (hHeld.2.2.2.2.2.2.2.2.2.2.2.2.2.2.2.2.2.1))).trans (hHeld.2.2.2.2.2.2.2.2.2.2.2.2.2.2.2.2.2.1)
                  have HS18_ := (hb.cell (World.block_lt_of_cell? _ _ (hHeld.2.2.2.2.2.2.2.2.2.2.2.2.2.2.2.2.2.2.1))).trans (hHeld.2.2.2.2.2.2.2.2.2.2.2.2.2.2.2.2.2.2.1)
                  have HS19_ := (hb.cell (World.block_lt_of_cell? _ _ (hHeld.2.2.2.2.2.2.2.2.2.2.2.2.2.2.2.2.2.2.2.1))).trans (hHeld.2.2.2.2.2.2.2.2.2.2.2.2.2.2.2.2.2.2.2.1)
                  have HS20_ := (hb.cell (World.block_lt_of_cell? _ _ (hHeld.2.2.2.2.2.2.2.2.2.2.2.2.2.2.2.2.2.2.2.2.1))).trans (hHeld.2.2.2.2.2.2.2.2.2.2.2.2.2.2.2.2.2.2.2.2.1)
                  have HS21_ := (hb.cell (World.block_lt_of_cell? _ _ (hHeld.2.2.2.2.2.2.2.2.2.2.2.2.2.2.2.2.2.2.2.2.2.1))).trans (hHeld.2.2.2.2.2.2.2.2.2.2.2.2.2.2.2.2.2.2.2.2.2.1)
                  have HS22_ := (hb.cell (World.block_lt_of_cell? _ _ (hHeld.2.2.2.2.2.2.2.2.2.2.2.2.2.2.2.2.2.2.2.2.2.2))).trans (hHeld.2.2.2.2.2.2.2.2.2.2.2.2.2.2.2.2.2.2.2.2.2.2)
                  refine ⟨_, rfl, ?_⟩
                  have n0_ := Aside0.mk (Kd.R_below (rd_ HO_3.out) hb)
                  have n1_ := Aside0.mk (Kd.R_below (rd_ HO_4.out) hb)
                  have n2_ := Aside0.mk (Kd.R_below (rd_ HO_5.out) hb)
                  have n3_ := Aside0.mk (Kd.R_below (rd_ HO_7.out) hb)
                  have n4_ := Aside0.mk (below_step (hd_ HB.out) hb)
                  clear HO_3
                  clear HO_4
                  clear HO_5
                  clear HO_7
                  clear HB
                  have HO_3 := n0_
                  have HO_4 := n1_
                  have HO_5 := n2_
                  have HO_7 := n3_
                  have HB := n4_
                  clear n0_ n1_ n2_ n3_ n4_
                  (try clear hb)
                  (try clear hb2)
                  (try clear hk)
                  (try clear hi)
                  refine hK.out _ _ ⟨HS0_, HS1_, HS2_, HS3_, HS4_, HS5_, HS6_, HS7_, HS8_, HS9_, HS10_, HS11_, HS12_, HS13_, HS14_, HS15_, HS16_, HS17_, HS18_, HS19_, HS20_, HS21_, HS22_⟩ (fun hHeld => ?_)
                  clear hK K
                  refine norm_ (a' := ?_) ?_ ?_
                  rotate_left
                  ·
                   show Act.put _ (some 63) _ = _
                   simp only [Act.put, P4_1, P4_2, P4_3, i64_w, i32_w]
                   rfl
                  refine pu_ 15 (some 64) M4_16 HT_ ?_
                  refine pu_ 16 (some 65) M4_17 HT_ ?_
                  refine pu_ 17 (some 66) M4_18 HT_ ?_
                  refine pu_ 18 (some 67) M4_19 HT_ ?_
                  refine pu_ 19 (some 68) M4_20 HT_ ?_
                  refine pu_ 20 (some 69) M4_21 HT_ ?_
                  refine pn_ 21 (some 70) M4_22 HT_ ?_
                  refine pn_ 22 (some 71) M4_23 HT_ ?_
                  refine pn_ 23 (some 72) M4_24 HT_ ?_
                  refine pn_ 24 (some 73) M4_25 HT_ ?_
                  refine pn_ 25 (some 74) M4_26 HT_ ?_
                  refine pn_ 26 (some 75) M4_70 HT_ ?_
                  refine pn_ 27 (some 76) M4_71 HT_ ?_
                  refine pn_ 28 (some 77) M4_72 HT_ ?_
                  refine pn_ 29 (some 78) M4_73 HT_ ?_
                  refine pn_ 30 (some 79) M4_31 HT_ ?_
                  refine pn_ 31 (some 80) M4_32 HT_ ?_
                  refine pn_ 32 (some 81) M4_33 HT_ ?_
                  refine pu_ 33 (some 82) M4_34 HT_ ?_
                  refine pu_ 34 (some 83) M4_35 HT_ ?_
                  refine pu_ 35 (some 84) M4_36 HT_ ?_
                  refine pu_ 36 (some 85) M4_37 HT_ ?_
                  refine pu_ 37 (some 86) M4_38 HT_ ?_
                  refine pu_ 38 (some 87) M4_39 HT_ ?_
                  refine tk_ 39 (some 88) M4_40 HT_ HW_ hHeld ?_
                  refine one_ (i := 40) (N := some 89) M4_41 rfl rfl (one_of HT_.out (by kernel_rfl)) (by decide) (fun K hK => ?_)
                  refine goes_ Tryd.func10 (by kernel_rfl) rfl #[.agg #[.int .i64 ((rd_T33 t582 x8_2).f0), .int .i64 ((rd_T33 t582 x8_2).f1), .int .i64 ((rd_T33 t582 x8_2).f2)]] (by rfl) rfl rfl ma_ ?_
                  with_reducible refine (impl_TaskText.calls ((rd_T33 t582 x8_2).f0) ((rd_T33 t582 x8_2).f1) ((rd_T33 t582 x8_2).f2) t603 _ A52.out (TB_.below (hd_ HB.out))).mono ?_
                  rintro e w69 ⟨rfl, hb⟩
                  have HS0_ := (hb.cell (World.block_lt_of_cell? _ _ (hHeld.1))).trans (hHeld.1)
                  have HS1_ := (hb.cell (World.block_lt_of_cell? _ _ (hHeld.2.1))).trans (hHeld.2.1)
                  have HS2_ := (hb.cell (World.block_lt_of_cell? _ _ (hHeld.2.2.1))).trans (hHeld.2.2.1)
                  have HS3_ := (hb.cell (World.block_lt_of_cell? _ _ (hHeld.2.2.2.1))).trans (hHeld.2.2.2.1)
                  have HS4_ := (hb.cell (World.block_lt_of_cell? _ _ (hHeld.2.2.2.2.1))).trans (hHeld.2.2.2.2.1)
                  have HS5_ := (hb.cell (World.block_lt_of_cell? _ _ (hHeld.2.2.2.2.2.1))).trans (hHeld.2.2.2.2.2.1)
                  have HS6_ := (hb.cell (World.block_lt_of_cell? _ _ (hHeld.2.2.2.2.2.2.1))).trans (hHeld.2.2.2.2.2.2.1)
                  have HS7_ := (hb.cell (World.block_lt_of_cell? _ _ (hHeld.2.2.2.2.2.2.2.1))).trans (hHeld.2.2.2.2.2.2.2.1)
                  have HS8_ := (hb.cell (World.block_lt_of_cell? _ _ (hHeld.2.2.2.2.2.2.2.2.1))).trans (hHeld.2.2.2.2.2.2.2.2.1)
                  have HS9_ := (hb.cell (World.block_lt_of_cell? _ _ (hHeld.2.2.2.2.2.2.2.2.2.1))).trans (hHeld.2.2.2.2.2.2.2.2.2.1)
                  have HS10_ := (hb.cell (World.block_lt_of_cell? _ _ (hHeld.2.2.2.2.2.2.2.2.2.2.1))).trans (hHeld.2.2.2.2.2.2.2.2.2.2.1)
                  have HS11_ := (hb.cell (World.block_lt_of_cell? _ _ (hHeld.2.2.2.2.2.2.2.2.2.2.2.1))).trans (hHeld.2.2.2.2.2.2.2.2.2.2.2.1)
                  have HS12_ := (hb.cell (World.block_lt_of_cell? _ _ (hHeld.2.2.2.2.2.2.2.2.2.2.2.2.1))).trans (hHeld.2.2.2.2.2.2.2.2.2.2.2.2.1)
                  have HS13_ := (hb.cell (World.block_lt_of_cell? _ _ (hHeld.2.2.2.2.2.2.2.2.2.2.2.2.2.1))).trans (hHeld.2.2.2.2.2.2.2.2.2.2.2.2.2.1)
                  have HS14_ := (hb.cell (World.block_lt_of_cell? _ _ (hHeld.2.2.2.2.2.2.2.2.2.2.2.2.2.2.1))).trans (hHeld.2.2.2.2.2.2.2.2.2.2.2.2.2.2.1)
                  have HS15_ := (hb.cell (World.block_lt_of_cell? _ _ (hHeld.2.2.2.2.2.2.2.2.2.2.2.2.2.2.2.1))).trans (hHeld.2.2.2.2.2.2.2.2.2.2.2.2.2.2.2.1)
                  have HS16_ := (hb.cell (World.block_lt_of_cell? _ _ (hHeld.2.2.2.2.2.2.2.2.2.2.2.2.2.2.2.2.1))).trans (hHeld.2.2.2.2.2.2.2.2.2.2.2.2.2.2.2.2.1)
                  have HS17_ := (hb.cell (World.block_lt_of_cell? _ _ (hHeld.2.2.2.2.2.2.2.2.2.2.2.2.2.2.2.2.2.1))).trans (hHeld.2.2.2.2.2.2.2.2.2.2.2.2.2.2.2.2.2.1)
                  have HS18_ := (hb.cell (World.block_lt_of_cell? _ _ (hHeld.2.2.2.2.2.2.2.2.2.2.2.2.2.2.2.2.2.2.1))).trans (hHeld.2.2.2.2.2.2.2.2.2.2.2.2.2.2.2.2.2.2.1)
                  have HS19_ := (hb.cell (World.block_lt_of_cell? _ _ (hHeld.2.2.2.2.2.2.2.2.2.2.2.2.2.2.2.2.2.2.2.1))).trans (hHeld.2.2.2.2.2.2.2.2.2.2.2.2.2.2.2.2.2.2.2.1)
                  have HS20_ := (hb.cell (World.block_lt_of_cell? _ _ (hHeld.2.2.2.2.2.2.2.2.2.2.2.2.2.2.2.2.2.2.2.2.1))).trans (hHeld.2.2.2.2.2.2.2.2.2.2.2.2.2.2.2.2.2.2.2.2.1)
                  have HS21_ := (hb.cell (World.block_lt_of_cell? _ _ (hHeld.2.2.2.2.2.2.2.2.2.2.2.2.2.2.2.2.2.2.2.2.2.1))).trans (hHeld.2.2.2.2.2.2.2.2.2.2.2.2.2.2.2.2.2.2.2.2.2.1)
                  have HS22_ := (hb.cell (World.block_lt_of_cell? _ _ (hHeld.2.2.2.2.2.2.2.2.2.2.2.2.2.2.2.2.2.2.2.2.2.2))).trans (hHeld.2.2.2.2.2.2.2.2.2.2.2.2.2.2.2.2.2.2.2.2.2.2)
                  refine ⟨_, rfl, ?_⟩
                  have n0_ := Aside0.mk (Kd.R_below (rd_ HO_3.out) hb)
                  have n1_ := Aside0.mk (Kd.R_below (rd_ HO_4.out) hb)
                  have n2_ := Aside0.mk (Kd.R_below (rd_ HO_5.out) hb)
                  have n3_ := Aside0.mk (Kd.R_below (rd_ HO_7.out) hb)
                  have n4_ := Aside0.mk (below_step (hd_ HB.out) hb)
                  clear HO_3
                  clear HO_4
                  clear HO_5
                  clear HO_7
                  clear HB
                  have HO_3 := n0_
                  have HO_4 := n1_
                  have HO_5 := n2_
                  have HO_7 := n3_
                  have HB := n4_
                  clear n0_ n1_ n2_ n3_ n4_
                  (try clear hb)
                  (try clear hb2)
                  (try clear hk)
                  (try clear hi)
                  refine hK.out _ _ ⟨HS0_, HS1_, HS2_, HS3_, HS4_, HS5_, HS6_, HS7_, HS8_, HS9_, HS10_, HS11_, HS12_, HS13_, HS14_, HS15_, HS16_, HS17_, HS18_, HS19_, HS20_, HS21_, HS22_⟩ (fun hHeld => ?_)
                  clear hK K
                  refine norm_ (a' := ?_) ?_ ?_
                  rotate_left
                  ·
                   show Act.put _ (some 89) _ = _
                   simp only [Act.put, P4_1, P4_2, P4_3, i64_w, i32_w]
                   rfl
                  refine pu_ 41 (some 90) M4_42 HT_ ?_
                  refine pu_ 42 (some 91) M4_43 HT_ ?_
                  refine pu_ 43 (some 92) M4_44 HT_ ?_
                  refine pu_ 44 (some 93) M4_45 HT_ ?_
                  refine pu_ 45 (some 94) M4_46 HT_ ?_
                  refine pu_ 46 (some 95) M4_47 HT_ ?_
                  refine pu_ 47 (some 96) M4_48 HT_ ?_
                  refine tk_ 48 (some 97) M4_49 HT_ HW_ hHeld ?_
                  refine pu_ 49 (some 98) M4_50 HT_ ?_
                  refine pu_ 50 (some 99) M4_51 HT_ ?_
                  refine pu_ 51 (some 100) M4_52 HT_ ?_
                  refine pu_ 52 (some 101) M4_53 HT_ ?_
                  refine pu_ 53 (some 102) M4_54 HT_ ?_
                  refine pu_ 54 (some 103) M4_55 HT_ ?_
                  refine tk_ 55 (some 104) M4_56 HT_ HW_ hHeld ?_
                  refine pu_ 56 (some 105) M4_57 HT_ ?_
                  refine pu_ 57 (some 106) M4_58 HT_ ?_
                  refine pu_ 58 (some 107) M4_59 HT_ ?_
                  refine pu_ 59 (some 108) M4_60 HT_ ?_
                  refine pu_ 60 (some 109) M4_61 HT_ ?_
                  refine pu_ 61 (some 110) M4_62 HT_ ?_
                  refine pu_ 62 (some 111) M4_63 HT_ ?_
                  refine pu_ 63 (some 112) M4_64 HT_ ?_
                  refine tk_ 64 (some 113) M4_65 HT_ HW_ hHeld ?_
                  refine one_ (i := 65) (N := some 114) M4_66 rfl rfl (one_of HT_.out (by kernel_rfl)) (by decide) (fun K hK => ?_)
                  refine goes_ Tryd.func11 (by kernel_rfl) rfl #[.slice Ao10 t574.length co10, .int .i64 ((rd_T33 t582 x8_2).f2)] (by rfl) rfl rfl ma_ ?_
                  with_reducible refine (impl_IsOpen.calls k2 _ _ t574 ((rd_T33 t582 x8_2).f2) true _ ?side1 ?side2 A63.out).mono ?_
                  (case side1 => exact cd_ (Kd.R_reads' HO_5.out).2.2)
                  (case side2 => exact (Kd.R_reads' HO_5.out).2.1)
                  rintro e w' ⟨rfl, ⟨nd, rfl⟩⟩
                  refine ⟨_, rfl, ?_⟩
                  refine hK.out _ _ ⟨hHeld.1, hHeld.2.1, hHeld.2.2.1, hHeld.2.2.2.1, hHeld.2.2.2.2.1, hHeld.2.2.2.2.2.1, hHeld.2.2.2.2.2.2.1, hHeld.2.2.2.2.2.2.2.1, hHeld.2.2.2.2.2.2.2.2.1, hHeld.2.2.2.2.2.2.2.2.2.1, hHeld.2.2.2.2.2.2.2.2.2.2.1, hHeld.2.2.2.2.2.2.2.2.2.2.2.1, hHeld.2.2.2.2.2.2.2.2.2.2.2.2.1, hHeld.2.2.2.2.2.2.2.2.2.2.2.2.2.1, hHeld.2.2.2.2.2.2.2.2.2.2.2.2.2.2.1, hHeld.2.2.2.2.2.2.2.2.2.2.2.2.2.2.2.1, hHeld.2.2.2.2.2.2.2.2.2.2.2.2.2.2.2.2.1, hHeld.2.2.2.2.2.2.2.2.2.2.2.2.2.2.2.2.2.1, hHeld.2.2.2.2.2.2.2.2.2.2.2.2.2.2.2.2.2.2.1, hHeld.2.2.2.2.2.2.2.2.2.2.2.2.2.2.2.2.2.2.2.1, hHeld.2.2.2.2.2.2.2.2.2.2.2.2.2.2.2.2.2.2.2.2.1, hHeld.2.2.2.2.2.2.2.2.2.2.2.2.2.2.2.2.2.2.2.2.2.1, hHeld.2.2.2.2.2.2.2.2.2.2.2.2.2.2.2.2.2.2.2.2.2.2⟩ (fun hHeld => ?_)
                  clear hK K
                  refine norm_ (a' := ?_) ?_ ?_
                  rotate_left
                  ·
                   show Act.put _ (some 114) _ = _
                   simp only [Act.put, P4_1, P4_2, P4_3, i64_w, i32_w]
                   rfl
                  refine pu_ 66 (some 115) M4_67 HT_ ?_
                  refine pu_ 67 (some 116) M4_68 HT_ ?_
                  refine pu_ 68 (some 117) M4_69 HT_ ?_
                  refine done_ (done_of HT_.out (by kernel_rfl)) ?_
                  try go_wp2
                  go_roundg k2
                  case measure => have := HJ5.out; have := HK2.out; omega
                  case rel => exact ⟨(wrap64 (x8_2 + 1)), y232_, H', ⟨by have := HJ5.out; have := HK2.out; omega⟩, ⟨rd_ HO_3.out⟩, ⟨rd_ HO_4.out⟩, ⟨rd_ HO_5.out⟩, ⟨rd_ HO_7.out⟩, ⟨hd_ HB.out⟩⟩
                 ·
                  replace c64 := Bool.eq_false_iff.mpr c64
                  subst c64
                  have H1 : (some false) = some true := by rw [if_neg (show ¬ (false = true) by decide)] at H; exact H
                  clear H
                  have H := H1
                  clear H1
                  exact absurd H (by simp)
                ·
                 rw [if_neg c62] at H
                 have c62b0 : (((rd_T33 t582 x8_2).f1) == 0) = false := beq_eq_false_iff_ne.mpr c62
                 have c62b1 : (((rd_T33 t582 x8_2).f1) != 0) = true := bne_iff_ne.mpr c62
                 have H' := Aside0.mk H
                 clear H
                 obtain ⟨Ao70, co70, eo70⟩ := Kd.R_slice HO_7.out
                 subst eo70
                 have p585 : 0 ≤ (x8_2 : Int) := of_decide_eq_true as_
                 have q585 : x8_2 < (t582.length : Int) := of_decide_eq_true as_
                 obtain ⟨ad585, e585, hx585_0, hx585_1, hx585_2⟩ := at_T33 (Kd.R_reads' HO_7.out).2.2 x8_2 p585 q585
                 cases e585
                 replace p585 := eq_true p585
                 replace q585 := eq_true q585
                 try go_wp2_with (first | ((with_reducible refine gate_callee (f := 8) rfl ?_); refine goesL_ (some 48) rfl rfl Tryd.func8 (by kernel_rfl) rfl #[.slice Ao8 t572.length co8, .int .i64 ((rd_T33 t582 x8_2).f0)] rfl ma_ ?_; (with_reducible refine (impl_FindThing.calls _ _ t572 ((rd_T33 t582 x8_2).f0) t586 _ ?side1 ?side2 A18.out).mono ?_); (case side1 => exact cd_ (Kd.R_reads' HO_3.out).2.2); (case side2 => exact (Kd.R_reads' HO_3.out).2.1); rintro e w71 ⟨rfl, hb⟩; refine ⟨_, rfl, ?_⟩; have n0_ := Aside0.mk (Kd.R_below (rd_ HO_3.out) hb); have n1_ := Aside0.mk (Kd.R_below (rd_ HO_4.out) hb); have n2_ := Aside0.mk (Kd.R_below (rd_ HO_5.out) hb); have n3_ := Aside0.mk (Kd.R_below (rd_ HO_7.out) hb); have n4_ := Aside0.mk (below_step (hd_ HB.out) hb); clear HO_3; clear HO_4; clear HO_5; clear HO_7; clear HB; have HO_3 := n0_; have HO_4 := n1_; have HO_5 := n2_; have HO_7 := n3_; have HB := n4_; clear n0_ n1_ n2_ n3_ n4_; (try clear hb)))
                 have n0_ := Aside0.mk (Kd.R_drew HO_3.out)
                 have n1_ := Aside0.mk (Kd.R_drew HO_4.out)
                 have n2_ := Aside0.mk (Kd.R_drew HO_5.out)
                 have n3_ := Aside0.mk (Kd.R_drew HO_7.out)
                 have n4_ := Aside0.mk (below_drew1 HB.out)
                 clear HO_3
                 clear HO_4
                 clear HO_5
                 clear HO_7
                 clear HB
                 have HO_3 := n0_
                 have HO_4 := n1_
                 have HO_5 := n2_
                 have HO_7 := n3_
                 have HB := n4_
                 clear n0_ n1_ n2_ n3_ n4_
                 have p587 : 0 ≤ (x8_2 : Int) := of_decide_eq_true as_
                 have q587 : x8_2 < (t582.length : Int) := of_decide_eq_true as_
                 obtain ⟨ad587, e587, hx587_0, hx587_1, hx587_2⟩ := at_T33 (Kd.R_reads' HO_7.out).2.2 x8_2 p587 q587
                 obtain rfl : ad585 = ad587 := (by injection e587)
                 replace p587 := eq_true p587
                 replace q587 := eq_true q587
                 have p588 : 0 ≤ (t586 : Int) := of_decide_eq_true as_
                 have q588 : t586 < (t572.length : Int) := of_decide_eq_true as_
                 obtain ⟨ad588, e588, hx588_0, hx588_1, hx588_2, hx588_3, hx588_4, hx588_5, hx588_6, hx588_7⟩ := at_T38 (Kd.R_reads' HO_3.out).2.2 t586 p588 q588
                 cases e588
                 replace p588 := eq_true p588
                 replace q588 := eq_true q588
                 have p602 : 0 ≤ (x8_2 : Int) := of_decide_eq_true as_
                 have q602 : x8_2 < (t582.length : Int) := of_decide_eq_true as_
                 obtain ⟨ad602, e602, hx602_0, hx602_1, hx602_2⟩ := at_T33 (Kd.R_reads' HO_7.out).2.2 x8_2 p602 q602
                 obtain rfl : ad585 = ad602 := (by injection e602)
                 replace p602 := eq_true p602
                 replace q602 := eq_true q602
                 have p604 : 0 ≤ (x8_2 : Int) := of_decide_eq_true as_
                 have q604 : x8_2 < (t582.length : Int) := of_decide_eq_true as_
                 obtain ⟨ad604, e604, hx604_0, hx604_1, hx604_2⟩ := at_T33 (Kd.R_reads' HO_7.out).2.2 x8_2 p604 q604
                 obtain rfl : ad585 = ad604 := (by injection e604)
                 replace p604 := eq_true p604
                 replace q604 := eq_true q604
                 have p607 : 0 ≤ (x8_2 : Int) := of_decide_eq_true as_
                 have q607 : x8_2 < (t582.length : Int) := of_decide_eq_true as_
                 obtain ⟨ad607, e607, hx607_0, hx607_1, hx607_2⟩ := at_T33 (Kd.R_reads' HO_7.out).2.2 x8_2 p607 q607
                 obtain rfl : ad585 = ad607 := (by injection e607)
                 replace p607 := eq_true p607
                 replace q607 := eq_true q607
                 refine start_ (n := 69) (S := fun w' => q6_ w' (ad585.add ((x8_2).toNat * 3)) ((rd_T33 t582 x8_2).f0) ((rd_T33 t582 x8_2).f1) ((rd_T33 t582 x8_2).f2) (q4_ w' (ad588.add ((t586).toNat * 8)) ((rd_T38 t572 t586).f0.f0) ((rd_T38 t572 t586).f0.f1) ((rd_T38 t572 t586).f0.f2) ((rd_T38 t572 t586).f0.f3) ((rd_T38 t572 t586).f0.f4) ((rd_T38 t572 t586).f1) ((rd_T38 t572 t586).f2) ((rd_T38 t572 t586).f3) (q6_ w' (ad585.add ((x8_2).toNat * 3)) ((rd_T33 t582 x8_2).f0) ((rd_T33 t582 x8_2).f1) ((rd_T33 t582 x8_2).f2) (q6_ w' (ad585.add ((x8_2).toNat * 3)) ((rd_T33 t582 x8_2).f0) ((rd_T33 t582 x8_2).f1) ((rd_T33 t582 x8_2).f2) (q6e_ w' (ad585.add ((x8_2).toNat * 3)) ((rd_T33 t582 x8_2).f0) ((rd_T33 t582 x8_2).f1) ((rd_T33 t582 x8_2).f2)))))) (ds := []) M4_0 (by kernel_rfl) rfl rfl ⟨hx587_0, hx587_1, hx587_2, hx588_0, hx588_1, hx588_2, hx588_3, hx588_4, hx588_5, hx588_6, hx588_7, hx602_0, hx602_1, hx602_2, hx604_0, hx604_1, hx604_2, hx607_0, hx607_1, hx607_2⟩ (fun hHeld => ?_); refine with_tabW laws_FnTasks.tab11 laws_FnTasks.bits11 (fun HT_ HW_ => ?_)
                 generalize w71.drew = w72 at HO_3 HO_4 HO_5 HO_7 HB hx587_0 hx587_1 hx587_2 hx588_0 hx588_1 hx588_2 hx588_3 hx588_4 hx588_5 hx588_6 hx588_7 hx602_0 hx602_1 hx602_2 hx604_0 hx604_1 hx604_2 hx607_0 hx607_1 hx607_2 hHeld ⊢
                 refine pu_ 0 (some 49) M4_1 HT_ ?_
                 refine pu_ 1 (some 50) M4_2 HT_ ?_
                 refine pu_ 2 (some 51) M4_3 HT_ ?_
                 refine pu_ 3 (some 52) M4_4 HT_ ?_
                 refine pu_ 4 (some 53) M4_5 HT_ ?_
                 refine pu_ 5 (some 54) M4_6 HT_ ?_
                 refine pu_ 7 (some 56) M4_7 HT_ ?_
                 refine pu_ 8 (some 57) M4_8 HT_ ?_
                 refine pu_ 9 (some 58) M4_9 HT_ ?_
                 refine pu_ 11 (some 60) M4_10 HT_ ?_
                 refine pu_ 12 (some 61) M4_11 HT_ ?_
                 refine pu_ 13 (some 62) M4_12 HT_ ?_
                 refine tk_ 6 (some 55) M4_13 HT_ HW_ hHeld ?_
                 refine tk_ 10 (some 59) M4_14 HT_ HW_ hHeld ?_
                 refine one_ (i := 14) (N := some 63) M4_15 rfl rfl (one_of HT_.out (by kernel_rfl)) (by decide) (fun K hK => ?_)
                 refine goes_ Tryd.func9 (by kernel_rfl) rfl #[.agg #[.int .i64 ((rd_T38 t572 t586).f0.f0), .int .i64 ((rd_T38 t572 t586).f0.f1), .int .i64 ((rd_T38 t572 t586).f0.f2), .int .i64 ((rd_T38 t572 t586).f0.f3), .int .i64 ((rd_T38 t572 t586).f0.f4), .int .i64 ((rd_T38 t572 t586).f1), .int .i64 ((rd_T38 t572 t586).f2), .int .i64 ((rd_T38 t572 t586).f3)], .slice Ao9 t573.length co9, .slice Ao10 t574.length co10, .int .i64 t575] (by rfl) rfl rfl ma_ ?_
                 with_reducible refine (impl_TaskOf.calls k2 ((rd_T38 t572 t586).f0.f0) ((rd_T38 t572 t586).f0.f1) ((rd_T38 t572 t586).f0.f2) ((rd_T38 t572 t586).f0.f3) ((rd_T38 t572 t586).f0.f4) ((rd_T38 t572 t586).f1) ((rd_T38 t572 t586).f2) ((rd_T38 t572 t586).f3) _ _ t573 _ _ t574 t575 t589 t590 t591 _ ?side1 ?side2 ?side3 ?side4 A22.out).mono ?_
                 (case side1 => exact cd_ (Kd.R_reads' HO_4.out).2.2)
                 (case side2 => exact (Kd.R_reads' HO_4.out).2.1)
                 (case side3 => exact cd_ (Kd.R_reads' HO_5.out).2.2)
                 (case side4 => exact (Kd.R_reads' HO_5.out).2.1)
                 rintro e w73 ⟨rfl, hb⟩
                 have HS0_ := (hb.cell (World.block_lt_of_cell? _ _ (hHeld.1))).trans (hHeld.1)
                 have HS1_ := (hb.cell (World.block_lt_of_cell? _ _ (hHeld.2.1))).trans (hHeld.2.1)
                 have HS2_ := (hb.cell (World.block_lt_of_cell? _ _ (hHeld.2.2.1))).trans (hHeld.2.2.1)
                 have HS3_ := (hb.cell (World.block_lt_of_cell? _ _ (hHeld.2.2.2.1))).trans (hHeld.2.2.2.1)
                 have HS4_ := (hb.cell (World.block_lt_of_cell? _ _ (hHeld.2.2.2.2.1))).trans (hHeld.2.2.2.2.1)
                 have HS5_ := (hb.cell (World.block_lt_of_cell? _ _ (hHeld.2.2.2.2.2.1))).trans (hHeld.2.2.2.2.2.1)
                 have HS6_ := (hb.cell (World.block_lt_of_cell? _ _ (hHeld.2.2.2.2.2.2.1))).trans (hHeld.2.2.2.2.2.2.1)
                 have HS7_ := (hb.cell (World.block_lt_of_cell? _ _ (hHeld.2.2.2.2.2.2.2.1))).trans (hHeld.2.2.2.2.2.2.2.1)
                 have HS8_ := (hb.cell (World.block_lt_of_cell? _ _ (hHeld.2.2.2.2.2.2.2.2.1))).trans (hHeld.2.2.2.2.2.2.2.2.1)
                 have HS9_ := (hb.cell (World.block_lt_of_cell? _ _ (hHeld.2.2.2.2.2.2.2.2.2.1))).trans (hHeld.2.2.2.2.2.2.2.2.2.1)
                 have HS10_ := (hb.cell (World.block_lt_of_cell? _ _ (hHeld.2.2.2.2.2.2.2.2.2.2.1))).trans (hHeld.2.2.2.2.2.2.2.2.2.2.1)
                 have HS11_ := (hb.cell (World.block_lt_of_cell? _ _ (hHeld.2.2.2.2.2.2.2.2.2.2.2.1))).trans (hHeld.2.2.2.2.2.2.2.2.2.2.2.1)
                 have HS12_ := (hb.cell (World.block_lt_of_cell? _ _ (hHeld.2.2.2.2.2.2.2.2.2.2.2.2.1))).trans (hHeld.2.2.2.2.2.2.2.2.2.2.2.2.1)
                 have HS13_ := (hb.cell (World.block_lt_of_cell? _ _ (hHeld.2.2.2.2.2.2.2.2.2.2.2.2.2.1))).trans (hHeld.2.2.2.2.2.2.2.2.2.2.2.2.2.1)
                 have HS14_ := (hb.cell (World.block_lt_of_cell? _ _ (hHeld.2.2.2.2.2.2.2.2.2.2.2.2.2.2.1))).trans (hHeld.2.2.2.2.2.2.2.2.2.2.2.2.2.2.1)
                 have HS15_ := (hb.cell (World.block_lt_of_cell? _ _ (hHeld.2.2.2.2.2.2.2.2.2.2.2.2.2.2.2.1))).trans (hHeld.2.2.2.2.2.2.2.2.2.2.2.2.2.2.2.1)
                 have HS16_ := (hb.cell (World.block_lt_of_cell? _ _ (hHeld.2.2.2.2.2.2.2.2.2.2.2.2.2.2.2.2.1))).trans (hHeld.2.2.2.2.2.2.2.2.2.2.2.2.2.2.2.2.1)
                 have HS17_ := (hb.cell (World.block_lt_of_cell? _ _ (hHeld.2.2.2.2.2.2.2.2.2.2.2.2.2.2.2.2.2.1))).trans (hHeld.2.2.2.2.2.2.2.2.2.2.2.2.2.2.2.2.2.1)
                 have HS18_ := (hb.cell (World.block_lt_of_cell? _ _ (hHeld.2.2.2.2.2.2.2.2.2.2.2.2.2.2.2.2.2.2.1))).trans (hHeld.2.2.2.2.2.2.2.2.2.2.2.2.2.2.2.2.2.2.1)
                 have HS19_ := (hb.cell (World.block_lt_of_cell? _ _ (hHeld.2.2.2.2.2.2.2.2.2.2.2.2.2.2.2.2.2.2.2))).trans (hHeld.2.2.2.2.2.2.2.2.2.2.2.2.2.2.2.2.2.2.2)
                 refine ⟨_, rfl, ?_⟩
                 have n0_ := Aside0.mk (Kd.R_below (rd_ HO_3.out) hb)
                 have n1_ := Aside0.mk (Kd.R_below (rd_ HO_4.out) hb)
                 have n2_ := Aside0.mk (Kd.R_below (rd_ HO_5.out) hb)
                 have n3_ := Aside0.mk (Kd.R_below (rd_ HO_7.out) hb)
                 have n4_ := Aside0.mk (below_step (hd_ HB.out) hb)
                 clear HO_3
                 clear HO_4
                 clear HO_5
                 clear HO_7
                 clear HB
                 have HO_3 := n0_
                 have HO_4 := n1_
                 have HO_5 := n2_
                 have HO_7 := n3_
                 have HB := n4_
                 clear n0_ n1_ n2_ n3_ n4_
                 (try clear hb)
                 (try clear hb2)
                 (try clear hk)
                 (try clear hi)
                 refine hK.out _ _ ⟨HS0_, HS1_, HS2_, HS3_, HS4_, HS5_, HS6_, HS7_, HS8_, HS9_, HS10_, HS11_, HS12_, HS13_, HS14_, HS15_, HS16_, HS17_, HS18_, HS19_⟩ (fun hHeld => ?_)
                 clear hK K
                 refine norm_ (a' := ?_) ?_ ?_
                 rotate_left
                 ·
                  show Act.put _ (some 63) _ = _
                  simp only [Act.put, P4_1, P4_2, P4_3, i64_w, i32_w]
                  rfl
                 refine pu_ 15 (some 64) M4_16 HT_ ?_
                 refine pu_ 16 (some 65) M4_17 HT_ ?_
                 refine pu_ 17 (some 66) M4_18 HT_ ?_
                 refine pu_ 18 (some 67) M4_19 HT_ ?_
                 refine pu_ 19 (some 68) M4_20 HT_ ?_
                 refine pu_ 20 (some 69) M4_21 HT_ ?_
                 refine pn_ 21 (some 70) M4_22 HT_ ?_
                 refine pn_ 22 (some 71) M4_23 HT_ ?_
                 refine pn_ 23 (some 72) M4_24 HT_ ?_
                 refine pn_ 24 (some 73) M4_25 HT_ ?_
                 refine pn_ 25 (some 74) M4_26 HT_ ?_
                 refine pn_ 26 (some 75) M4_70 HT_ ?_
                 refine pn_ 27 (some 76) M4_71 HT_ ?_
                 refine pn_ 28 (some 77) M4_72 HT_ ?_
                 refine pn_ 29 (some 78) M4_73 HT_ ?_
                 refine pn_ 30 (some 79) M4_31 HT_ ?_
                 refine pn_ 31 (some 80) M4_32 HT_ ?_
                 refine pn_ 32 (some 81) M4_33 HT_ ?_
                 refine pu_ 33 (some 82) M4_34 HT_ ?_
                 refine pu_ 34 (some 83) M4_35 HT_ ?_
                 refine pu_ 35 (some 84) M4_36 HT_ ?_
                 refine pu_ 36 (some 85) M4_37 HT_ ?_
                 refine pu_ 37 (some 86) M4_38 HT_ ?_
                 refine pu_ 38 (some 87) M4_39 HT_ ?_
                 refine tk_ 39 (some 88) M4_40 HT_ HW_ hHeld ?_
                 refine one_ (i := 40) (N := some 89) M4_41 rfl rfl (one_of HT_.out (by kernel_rfl)) (by decide) (fun K hK => ?_)
                 refine goes_ Tryd.func10 (by kernel_rfl) rfl #[.agg #[.int .i64 ((rd_T33 t582 x8_2).f0), .int .i64 ((rd_T33 t582 x8_2).f1), .int .i64 ((rd_T33 t582 x8_2).f2)]] (by rfl) rfl rfl ma_ ?_
                 with_reducible refine (impl_TaskText.calls ((rd_T33 t582 x8_2).f0) ((rd_T33 t582 x8_2).f1) ((rd_T33 t582 x8_2).f2) t603 _ A52.out (TB_.below (hd_ HB.out))).mono ?_
                 rintro e w74 ⟨rfl, hb⟩
                 have HS0_ := (hb.cell (World.block_lt_of_cell? _ _ (hHeld.1))).trans (hHeld.1)
                 have HS1_ := (hb.cell (World.block_lt_of_cell? _ _ (hHeld.2.1))).trans (hHeld.2.1)
                 have HS2_ := (hb.cell (World.block_lt_of_cell? _ _ (hHeld.2.2.1))).trans (hHeld.2.2.1)
                 have HS3_ := (hb.cell (World.block_lt_of_cell? _ _ (hHeld.2.2.2.1))).trans (hHeld.2.2.2.1)
                 have HS4_ := (hb.cell (World.block_lt_of_cell? _ _ (hHeld.2.2.2.2.1))).trans (hHeld.2.2.2.2.1)
                 have HS5_ := (hb.cell (World.block_lt_of_cell? _ _ (hHeld.2.2.2.2.2.1))).trans (hHeld.2.2.2.2.2.1)
                 have HS6_ := (hb.cell (World.block_lt_of_cell? _ _ (hHeld.2.2.2.2.2.2.1))).trans (hHeld.2.2.2.2.2.2.1)
                 have HS7_ := (hb.cell (World.block_lt_of_cell? _ _ (hHeld.2.2.2.2.2.2.2.1))).trans (hHeld.2.2.2.2.2.2.2.1)
                 have HS8_ := (hb.cell (World.block_lt_of_cell? _ _ (hHeld.2.2.2.2.2.2.2.2.1))).trans (hHeld.2.2.2.2.2.2.2.2.1)
                 have HS9_ := (hb.cell (World.block_lt_of_cell? _ _ (hHeld.2.2.2.2.2.2.2.2.2.1))).trans (hHeld.2.2.2.2.2.2.2.2.2.1)
                 have HS10_ := (hb.cell (World.block_lt_of_cell? _ _ (hHeld.2.2.2.2.2.2.2.2.2.2.1))).trans (hHeld.2.2.2.2.2.2.2.2.2.2.1)
                 have HS11_ := (hb.cell (World.block_lt_of_cell? _ _ (hHeld.2.2.2.2.2.2.2.2.2.2.2.1))).trans (hHeld.2.2.2.2.2.2.2.2.2.2.2.1)
                 have HS12_ := (hb.cell (World.block_lt_of_cell? _ _ (hHeld.2.2.2.2.2.2.2.2.2.2.2.2.1))).trans (hHeld.2.2.2.2.2.2.2.2.2.2.2.2.1)
                 have HS13_ := (hb.cell (World.block_lt_of_cell? _ _ (hHeld.2.2.2.2.2.2.2.2.2.2.2.2.2.1))).trans (hHeld.2.2.2.2.2.2.2.2.2.2.2.2.2.1)
                 have HS14_ := (hb.cell (World.block_lt_of_cell? _ _ (hHeld.2.2.2.2.2.2.2.2.2.2.2.2.2.2.1))).trans (hHeld.2.2.2.2.2.2.2.2.2.2.2.2.2.2.1)
                 have HS15_ := (hb.cell (World.block_lt_of_cell? _ _ (hHeld.2.2.2.2.2.2.2.2.2.2.2.2.2.2.2.1))).trans (hHeld.2.2.2.2.2.2.2.2.2.2.2.2.2.2.2.1)
                 have HS16_ := (hb.cell (World.block_lt_of_cell? _ _ (hHeld.2.2.2.2.2.2.2.2.2.2.2.2.2.2.2.2.1))).trans (hHeld.2.2.2.2.2.2.2.2.2.2.2.2.2.2.2.2.1)
                 have HS17_ := (hb.cell (World.block_lt_of_cell? _ _ (hHeld.2.2.2.2.2.2.2.2.2.2.2.2.2.2.2.2.2.1))).trans (hHeld.2.2.2.2.2.2.2.2.2.2.2.2.2.2.2.2.2.1)
                 have HS18_ := (hb.cell (World.block_lt_of_cell? _ _ (hHeld.2.2.2.2.2.2.2.2.2.2.2.2.2.2.2.2.2.2.1))).trans (hHeld.2.2.2.2.2.2.2.2.2.2.2.2.2.2.2.2.2.2.1)
                 have HS19_ := (hb.cell (World.block_lt_of_cell? _ _ (hHeld.2.2.2.2.2.2.2.2.2.2.2.2.2.2.2.2.2.2.2))).trans (hHeld.2.2.2.2.2.2.2.2.2.2.2.2.2.2.2.2.2.2.2)
                 refine ⟨_, rfl, ?_⟩
                 have n0_ := Aside0.mk (Kd.R_below (rd_ HO_3.out) hb)
                 have n1_ := Aside0.mk (Kd.R_below (rd_ HO_4.out) hb)
                 have n2_ := Aside0.mk (Kd.R_below (rd_ HO_5.out) hb)
                 have n3_ := Aside0.mk (Kd.R_below (rd_ HO_7.out) hb)
                 have n4_ := Aside0.mk (below_step (hd_ HB.out) hb)
                 clear HO_3
                 clear HO_4
                 clear HO_5
                 clear HO_7
                 clear HB
                 have HO_3 := n0_
                 have HO_4 := n1_
                 have HO_5 := n2_
                 have HO_7 := n3_
                 have HB := n4_
                 clear n0_ n1_ n2_ n3_ n4_
                 (try clear hb)
                 (try clear hb2)
                 (try clear hk)
                 (try clear hi)
                 refine hK.out _ _ ⟨HS0_, HS1_, HS2_, HS3_, HS4_, HS5_, HS6_, HS7_, HS8_, HS9_, HS10_, HS11_, HS12_, HS13_, HS14_, HS15_, HS16_, HS17_, HS18_, HS19_⟩ (fun hHeld => ?_)
                 clear hK K
                 refine norm_ (a' := ?_) ?_ ?_
                 rotate_left
                 ·
                  show Act.put _ (some 89) _ = _
                  simp only [Act.put, P4_1, P4_2, P4_3, i64_w, i32_w]
                  rfl
                 refine pu_ 41 (some 90) M4_42 HT_ ?_
                 refine pu_ 42 (some 91) M4_43 HT_ ?_
                 refine pu_ 43 (some 92) M4_44 HT_ ?_
                 refine pu_ 44 (some 93) M4_45 HT_ ?_
                 refine pu_ 45 (some 94) M4_46 HT_ ?_
                 refine pu_ 46 (some 95) M4_47 HT_ ?_
                 refine pu_ 47 (some 96) M4_48 HT_ ?_
                 refine tk_ 48 (some 97) M4_49 HT_ HW_ hHeld ?_
                 refine pu_ 49 (some 98) M4_50 HT_ ?_
                 refine pu_ 50 (some 99) M4_51 HT_ ?_
                 refine pu_ 51 (some 100) M4_52 HT_ ?_
                 refine pu_ 52 (some 101) M4_53 HT_ ?_
                 refine pu_ 53 (some 102) M4_54 HT_ ?_
                 refine pu_ 54 (some 103) M4_55 HT_ ?_
                 refine tk_ 55 (some 104) M4_56 HT_ HW_ hHeld ?_
                 refine pu_ 56 (some 105) M4_57 HT_ ?_
                 refine pu_ 57 (some 106) M4_58 HT_ ?_
                 refine pu_ 58 (some 107) M4_59 HT_ ?_
                 refine pn_ 59 (some 108) M4_60 HT_ ?_
                 refine pn_ 60 (some 109) M4_61 HT_ ?_
                 refine pn_ 61 (some 110) M4_62 HT_ ?_
                 refine pn_ 62 (some 111) M4_63 HT_ ?_
                 refine pn_ 63 (some 112) M4_64 HT_ ?_
                 refine pn_ 64 (some 113) M4_65 HT_ ?_
                 refine pn_ 65 (some 114) M4_66 HT_ ?_
                 refine pn_ 66 (some 115) M4_67 HT_ ?_
                 refine pu_ 67 (some 116) M4_68 HT_ ?_
                 refine pu_ 68 (some 117) M4_69 HT_ ?_
                 refine done_ (done_of HT_.out (by kernel_rfl)) ?_
                 try go_wp2
                 go_roundg k2
                 case measure => have := HJ5.out; have := HK2.out; omega
                 case rel => exact ⟨(wrap64 (x8_2 + 1)), y232_, H', ⟨by have := HJ5.out; have := HK2.out; omega⟩, ⟨rd_ HO_3.out⟩, ⟨rd_ HO_4.out⟩, ⟨rd_ HO_5.out⟩, ⟨rd_ HO_7.out⟩, ⟨hd_ HB.out⟩⟩
           ·
            rw [if_neg c21] at H
            exact absurd H (by simp)
          ·
           rw [if_neg c20] at H
           exact absurd H (by simp)
        ·
         rw [if_neg c17] at H
         exact absurd H (by simp)
       ·
        rw [if_neg c16] at H
        have c16b0 : decide (x8_2 < (t582.length : Int)) = false := decide_eq_false c16
        clear c16
        replace H := Option.bind_eq_some_iff.mp H
        obtain ⟨t610, A750, H⟩ := H
        replace H : (laws_FnTasks.l1 k2 t575 t582 t610 0) = some true := H
        have A75 := Aside0.mk A750
        clear A750
        have H' := Aside0.mk H
        clear H
        obtain ⟨Ao76, co76, eo76⟩ := Kd.R_slice HO_7.out
        subst eo76
        go_wp2_with (first | ((with_reducible refine gate_callee (f := 12) rfl ?_); refine goesL_ (some 120) rfl rfl Tryd.func12 (by kernel_rfl) rfl #[.slice Ao76 t582.length co76, .int .i64 t575] rfl ma_ ?_; (with_reducible refine (impl_Today.calls k2 _ _ t582 t575 t610 _ ?side1 ?side2 A75.out).mono ?_); (case side1 => exact cd_ (Kd.R_reads' HO_7.out).2.2); (case side2 => exact (Kd.R_reads' HO_7.out).2.1); rintro e w77 ⟨v611, rfl, ho0, hb⟩; refine ⟨_, rfl, ?_⟩; have n0_ := Aside0.mk (Kd.R_below (rd_ HO_3.out) hb); have n1_ := Aside0.mk (Kd.R_below (rd_ HO_4.out) hb); have n2_ := Aside0.mk (Kd.R_below (rd_ HO_5.out) hb); have n3_ := Aside0.mk (Kd.R_elder' (rd_ HO_7.out) (Kd.R_base ho0) hb); have HO612 := Aside0.mk (Kd.R_lower (Kd.R_new' ho0 (Kd.R_lt (rd_ HO_7.out))) (below_size (hd_ HB.out))); have n5_ := Aside0.mk (below_step (hd_ HB.out) hb); clear HO_3; clear HO_4; clear HO_5; clear HO_7; clear HB; have HO_3 := n0_; have HO_4 := n1_; have HO_5 := n2_; have HO_7 := n3_; have HB := n5_; clear n0_ n1_ n2_ n3_ n5_; (try clear hb); (try clear ho0)))
        go_loopg [11] k2 (fun kq v11 w' => ∃ (x11_3 : Int), v11 = .int .i64 x11_3 ∧ Aside0 (laws_FnTasks.l1 kq t575 t582 t610 x11_3 = some true) ∧ Aside0 (kq ≤ k2) ∧ Aside0 (Kd.R k33 33 w' w.heap.size (fun k_ => some k_ ≠ (v611 : Value).ownBlock) (.slice Ao76 t582.length co76) t582) ∧ Aside0 (Kd.R k33 33 w' w.heap.size (fun k_ => some k_ ≠ ((.slice Ao76 t582.length co76) : Value).ownBlock) v611 t610) ∧ Aside0 (Below w.heap.size w w'))
        case atStart => exact ⟨(0), y232_, H', ⟨Nat.le_refl _⟩, ⟨by (with_reducible repeat (first | apply Kd.R_alloc | apply Kd.R_drewN | apply Kd.R_drew)); exact Kd.R_mono HO_7.out (fun _ hk => hk.2)⟩, ⟨by (with_reducible repeat (first | apply Kd.R_alloc | apply Kd.R_drewN | apply Kd.R_drew)); exact Kd.R_mono HO612.out (fun _ hk => hk.2)⟩, ⟨hd_ HB.out⟩⟩
        case round =>
         clear H'
         try clear c1
         try clear c2
         try clear p2
         try clear hx5
         try clear p6
         try clear q6
         try clear hx6
         try clear c9
         try clear c10
         try clear c12
         try clear c16
         try clear c16b0
         try clear c17
         try clear c20
         try clear c21
         try clear hx58
         try clear p60
         try clear q60
         try clear hx60
         try clear p64
         try clear hx587_0
         try clear hx587_1
         try clear hx587_2
         try clear hx588_0
         try clear hx588_1
         try clear hx588_2
         try clear hx588_3
         try clear hx588_4
         try clear hx588_5
         try clear hx588_6
         try clear hx588_7
         try clear hx602_0
         try clear hx602_1
         try clear hx602_2
         try clear hx604_0
         try clear hx604_1
         try clear hx604_2
         try clear hx607_0
         try clear hx607_1
         try clear hx607_2
         try clear p607
         try clear q607
         obtain ⟨x11_3, rfl, HA, HK3, HO_7, HO_10, HB⟩ := hrel
         cases gk with
         | zero => exact absurd HA.out (by simp [laws_FnTasks.l1])
         | succ k3 =>
          have H := HA.out
          clear HA
          simp only [laws_FnTasks.l1] at H
          by_cases c78 : x11_3 < (t610.length : Int)
          ·
           rw [if_pos c78] at H
           have c78b0 : decide (x11_3 < (t610.length : Int)) = true := decide_eq_true c78
           clear c78
           by_cases c79 : 0 ≤ x11_3
           ·
            rw [if_pos c79] at H
            have c79b0 : decide (0 ≤ x11_3) = true := decide_eq_true c79
            clear c79
            by_cases c80 : ((rd_T33 t610 x11_3).f1) = 0
            ·
             rw [if_pos c80] at H
             have c80b0 : (((rd_T33 t610 x11_3).f1) == 0) = true := beq_iff_eq.mpr c80
             have c80b1 : (((rd_T33 t610 x11_3).f1) != 0) = false := bne_eq_false_iff_eq.mpr c80
             clear c80
             exact absurd H (by simp)
            ·
             rw [if_neg c80] at H
             have c80b0 : (((rd_T33 t610 x11_3).f1) == 0) = false := beq_eq_false_iff_ne.mpr c80
             have c80b1 : (((rd_T33 t610 x11_3).f1) != 0) = true := bne_iff_ne.mpr c80
             have H' := Aside0.mk H
             clear H
             obtain ⟨Ao81, co81, eo81⟩ := Kd.R_slice HO_10.out
             subst eo81
             have p613 : 0 ≤ (x11_3 : Int) := of_decide_eq_true as_
             have q613 : x11_3 < (t610.length : Int) := of_decide_eq_true as_
             obtain ⟨ad613, e613, hx613_0, hx613_1, hx613_2⟩ := at_T33 (Kd.R_reads' HO_10.out).2.2 x11_3 p613 q613
             cases e613
             replace p613 := eq_true p613
             replace q613 := eq_true q613
             go_wp2
             go_roundg k3
             case measure => have := HJ5.out; have := HK2.out; have := HK3.out; omega
             case rel => exact ⟨(wrap64 (x11_3 + 1)), y232_, H', ⟨by have := HJ5.out; have := HK2.out; have := HK3.out; omega⟩, ⟨rd_ HO_7.out⟩, ⟨rd_ HO_10.out⟩, ⟨hd_ HB.out⟩⟩
           ·
            rw [if_neg c79] at H
            exact absurd H (by simp)
          ·
           rw [if_neg c78] at H
           have c78b0 : decide (x11_3 < (t610.length : Int)) = false := decide_eq_false c78
           clear c78
           replace H := Option.bind_eq_some_iff.mp H
           obtain ⟨t614, A820, H⟩ := H
           replace H : (some (t614 == ((t610.length : Int) == 0))) = some true := H
           have A82 := Aside0.mk A820
           clear A820
           first | (obtain rfl := Option.some.inj H) | (have Hr_ := Option.some.inj H; clear H)
           obtain ⟨Ao83, co83, eo83⟩ := Kd.R_slice HO_10.out
           subst eo83
           go_wp2_with (first | ((with_reducible refine gate_callee (f := 13) rfl ?_); refine goesL_ (some 135) rfl rfl Tryd.func13 (by kernel_rfl) rfl #[.slice Ao76 t582.length co76, .int .i64 t575] rfl ma_ ?_; (with_reducible refine (impl_Quiet.calls k3 _ _ t582 t575 t614 _ ?side1 ?side2 A82.out).mono ?_); (case side1 => exact cd_ (Kd.R_reads' HO_7.out).2.2); (case side2 => exact (Kd.R_reads' HO_7.out).2.1); rintro e w84 ⟨rfl, hb⟩; refine ⟨_, rfl, ?_⟩; have n0_ := Aside0.mk (Kd.R_below (rd_ HO_7.out) hb); have n1_ := Aside0.mk (Kd.R_below (rd_ HO_10.out) hb); have n2_ := Aside0.mk (below_step (hd_ HB.out) hb); clear HO_7; clear HO_10; clear HB; have HO_7 := n0_; have HO_10 := n1_; have HB := n2_; clear n0_ n1_ n2_; (try clear hb)))
           go_ret
           exact ⟨rt_, hd_ HB.out⟩

end Go.Proofs.YtnlgilmbmoiniaaDoor.PFnTasks
