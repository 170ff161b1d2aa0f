-- Written for this claim by a program (a printer turned to this claim); Lean checks it.
import Derived.Test.YtfghapankndioaaPFnSecretsx0
import Derived.Test.YtfghapankndioaaPFnSecretsx3
import Derived.Test.YtfghapankndioaaPFnSecretsx4
import Derived.Test.YtfghapankndioaaPFnSecretsx5
import Derived.Test.YtfghapankndioaaPFnSecretsx9
import Derived.Test.YtfghapankndioaaPFnSecretsx10
import Derived.Test.YtfghapankndioaaPFnSecretsx11
namespace Go.Proofs.Ytfghapankndioaa.PFnSecrets
open Go.RowKit Go.Proofs.YtfghapankndioaaW.PrintWords Go.Proofs.YtfghapankndioaaW.PrintLast Go.Proofs.YtfghapankndioaaW.PrintMore
attribute [local go_sem] max2_int min2_int max_two min_two max_three min_three max_four min_four   -- for this text's walks alone
set_option linter.unusedVariables false
set_option linter.unusedSimpArgs false

/-! ### laws_FnSecrets: function 9 -/
mutual
def laws_FnSecrets.j0 : Nat → List Int → Option (Bool)
 | 0, _ => none
 | k + 1, x0 => (spec_DrawSealOf.f k x0).bind fun bt481 => ((impl_SealOf.f k bt481.1 bt481.2).bind fun t485 => (if t485 = (-1) then (laws_FnSecrets.j1 k x0 false) else ((impl_MarksOf.f bt481.1 bt481.2).bind fun t486 => ((laws_saltOf.f k bt481.1 bt481.2).bind fun t489 => ((impl_SealMarks.f k t486 t489).bind fun t490 => (laws_FnSecrets.j1 k x0 (t485 != t490)))))))
def laws_FnSecrets.j1 : Nat → List Int → Bool → Option (Bool)
 | 0, _, _ => none
 | k + 1, x0, x83 => if x83 = true then (some false) else ((spec_DrawEqualSecrets.f k x0).bind fun bt491 => ((spec_DrawIsSecretOf.f k x0).bind fun bt497 => ((impl_EqualSecrets.f k bt491.1 bt491.2).bind fun t504 => ((impl_EqualSecrets.f k bt491.2 bt491.1).bind fun t505 => (if (t504 == t505) = true then ((impl_IsSecretOf.f k bt497.1 bt497.2.1 bt497.2.2.1 bt497.2.2.2).bind fun t506 => ((impl_OpensSeal.f k bt497.2.1 bt497.2.2.1 bt497.2.2.2).bind fun t507 => (some (t506 == t507)))) else (some false))))))
end
def laws_FnSecrets.f (k : Nat) (l0 : List Int) : Option (Bool) := (laws_big.f l0).bind fun t460 => (if t460 = true then (some true) else ((spec_DrawPutSecret.f k l0).bind fun bt461 => ((impl_PutSecret.f k bt461.1 bt461.2.1 bt461.2.2.1 bt461.2.2.2).bind fun bt470 => (if bt470.2 = true then ((impl_AreSecrets.f k bt470.1).bind fun t474 => (if t474 = true then (if (bt470.1.length : Int) = (wrap64 ((bt461.1.length : Int) + 1)) then ((impl_MarksOf.f bt470.1 bt461.2.1).bind fun t475 => (if (t475.length : Int) = (bt461.2.2.1.length : Int) then ((impl_SealOf.f k bt470.1 bt461.2.1).bind fun t478 => ((impl_IsSecretOf.f k bt461.2.1 bt461.2.2.1 bt461.2.2.2 t478).bind fun t479 => (if t479 = true then (laws_FnSecrets.j0 k l0) else (some false)))) else (some false))) else (some false)) else (some false))) else ((impl_EqualSecrets.f k bt470.1 bt461.1).bind fun t480 => (if t480 = true then (laws_FnSecrets.j0 k l0) else (some false)))))))
theorem laws_FnSecrets.mono_l : ∀ k, (∀ y0, LeO (laws_FnSecrets.j0 k y0) (laws_FnSecrets.j0 (k + 1) y0)) ∧ (∀ y0 y1, LeO (laws_FnSecrets.j1 k y0 y1) (laws_FnSecrets.j1 (k + 1) y0 y1))
 | 0 => ⟨fun _ r h => by simp [laws_FnSecrets.j0] at h, fun _ _ r h => by simp [laws_FnSecrets.j1] at h⟩
 | k + 1 => by
  obtain ⟨ih0, ih1⟩ := laws_FnSecrets.mono_l k
  refine ⟨?_, ?_⟩
  ·
   intro y0
   unfold laws_FnSecrets.j0
   repeat' first
   | (with_reducible exact ih0 _)
   | (with_reducible exact ih1 _ _)
   | (with_reducible exact impl_AreSecrets.mono _ _)
   | (with_reducible exact impl_EqualSecrets.mono _ _ _)
   | (with_reducible exact impl_IsSecretOf.mono _ _ _ _ _)
   | (with_reducible exact impl_OpensSeal.mono _ _ _ _)
   | (with_reducible exact impl_PutSecret.mono _ _ _ _ _)
   | (with_reducible exact impl_SealMarks.mono _ _ _)
   | (with_reducible exact impl_SealOf.mono _ _ _)
   | (with_reducible exact laws_saltOf.mono _ _ _)
   | (with_reducible exact spec_DrawEqualSecrets.mono _ _)
   | (with_reducible exact spec_DrawIsSecretOf.mono _ _)
   | (with_reducible exact spec_DrawPutSecret.mono _ _)
   | (with_reducible exact spec_DrawSealOf.mono _ _)
   | (with_reducible exact LeO.refl _)
   | (with_reducible exact LeO.none _)
   | (with_reducible refine LeO.ite ?_ ?_)
   | (with_reducible refine LeO.bind ?_ (fun _ => ?_))
   | exact ih0 _
   | exact ih1 _ _
   | exact impl_AreSecrets.mono _ _
   | exact impl_EqualSecrets.mono _ _ _
   | exact impl_IsSecretOf.mono _ _ _ _ _
   | exact impl_OpensSeal.mono _ _ _ _
   | exact impl_PutSecret.mono _ _ _ _ _
   | exact impl_SealMarks.mono _ _ _
   | exact impl_SealOf.mono _ _ _
   | exact laws_saltOf.mono _ _ _
   | exact spec_DrawEqualSecrets.mono _ _
   | exact spec_DrawIsSecretOf.mono _ _
   | exact spec_DrawPutSecret.mono _ _
   | exact spec_DrawSealOf.mono _ _
   | exact LeO.none _
   | refine LeO.ite ?_ ?_
   | refine LeO.bind ?_ (fun _ => ?_)
  ·
   intro y0 y1
   unfold laws_FnSecrets.j1
   repeat' first
   | (with_reducible exact ih0 _)
   | (with_reducible exact ih1 _ _)
   | (with_reducible exact impl_AreSecrets.mono _ _)
   | (with_reducible exact impl_EqualSecrets.mono _ _ _)
   | (with_reducible exact impl_IsSecretOf.mono _ _ _ _ _)
   | (with_reducible exact impl_OpensSeal.mono _ _ _ _)
   | (with_reducible exact impl_PutSecret.mono _ _ _ _ _)
   | (with_reducible exact impl_SealMarks.mono _ _ _)
   | (with_reducible exact impl_SealOf.mono _ _ _)
   | (with_reducible exact laws_saltOf.mono _ _ _)
   | (with_reducible exact spec_DrawEqualSecrets.mono _ _)
   | (with_reducible exact spec_DrawIsSecretOf.mono _ _)
   | (with_reducible exact spec_DrawPutSecret.mono _ _)
   | (with_reducible exact spec_DrawSealOf.mono _ _)
   | (with_reducible exact LeO.refl _)
   | (with_reducible exact LeO.none _)
   | (with_reducible refine LeO.ite ?_ ?_)
   | (with_reducible refine LeO.bind ?_ (fun _ => ?_))
   | exact ih0 _
   | exact ih1 _ _
   | exact impl_AreSecrets.mono _ _
   | exact impl_EqualSecrets.mono _ _ _
   | exact impl_IsSecretOf.mono _ _ _ _ _
   | exact impl_OpensSeal.mono _ _ _ _
   | exact impl_PutSecret.mono _ _ _ _ _
   | exact impl_SealMarks.mono _ _ _
   | exact impl_SealOf.mono _ _ _
   | exact laws_saltOf.mono _ _ _
   | exact spec_DrawEqualSecrets.mono _ _
   | exact spec_DrawIsSecretOf.mono _ _
   | exact spec_DrawPutSecret.mono _ _
   | exact spec_DrawSealOf.mono _ _
   | exact LeO.none _
   | refine LeO.ite ?_ ?_
   | refine LeO.bind ?_ (fun _ => ?_)
theorem laws_FnSecrets.mono : ∀ a0 k, LeO (laws_FnSecrets.f k a0) (laws_FnSecrets.f (k + 1) a0) := by
 intro a0 k
 obtain ⟨ih0, ih1⟩ := laws_FnSecrets.mono_l k
 unfold laws_FnSecrets.f
 repeat' first
   | (with_reducible exact ih0 _)
   | (with_reducible exact ih1 _ _)
   | (with_reducible exact impl_AreSecrets.mono _ _)
   | (with_reducible exact impl_EqualSecrets.mono _ _ _)
   | (with_reducible exact impl_IsSecretOf.mono _ _ _ _ _)
   | (with_reducible exact impl_OpensSeal.mono _ _ _ _)
   | (with_reducible exact impl_PutSecret.mono _ _ _ _ _)
   | (with_reducible exact impl_SealMarks.mono _ _ _)
   | (with_reducible exact impl_SealOf.mono _ _ _)
   | (with_reducible exact laws_saltOf.mono _ _ _)
   | (with_reducible exact spec_DrawEqualSecrets.mono _ _)
   | (with_reducible exact spec_DrawIsSecretOf.mono _ _)
   | (with_reducible exact spec_DrawPutSecret.mono _ _)
   | (with_reducible exact spec_DrawSealOf.mono _ _)
   | (with_reducible exact LeO.refl _)
   | (with_reducible exact LeO.none _)
   | (with_reducible refine LeO.ite ?_ ?_)
   | (with_reducible refine LeO.bind ?_ (fun _ => ?_))
   | exact ih0 _
   | exact ih1 _ _
   | exact impl_AreSecrets.mono _ _
   | exact impl_EqualSecrets.mono _ _ _
   | exact impl_IsSecretOf.mono _ _ _ _ _
   | exact impl_OpensSeal.mono _ _ _ _
   | exact impl_PutSecret.mono _ _ _ _ _
   | exact impl_SealMarks.mono _ _ _
   | exact impl_SealOf.mono _ _ _
   | exact laws_saltOf.mono _ _ _
   | exact spec_DrawEqualSecrets.mono _ _
   | exact spec_DrawIsSecretOf.mono _ _
   | exact spec_DrawPutSecret.mono _ _
   | exact spec_DrawSealOf.mono _ _
   | exact LeO.none _
   | refine LeO.ite ?_ ?_
   | refine LeO.bind ?_ (fun _ => ?_)
def laws_FnSecrets.T6 : Bool × List (List Nat × List Nat) := (true, [([], []), ([0], [0]), ([1], [1]), ([2, 1], [2]), ([3], [3]), ([4, 3], [3, 4]), ([3], [3]), ([6, 3], [3, 6]), ([7, 3], [3, 7]), ([5, 8, 3], [3, 5, 8]), ([3, 9], [3, 9]), ([10, 3], [10]), ([11], [11]), ([11], [11]), ([13, 11], [11, 13]), ([12, 14, 11, 11], [11, 12, 14]), ([15, 11], [11, 15]), ([11], [11]), ([17, 11], [11, 17]), ([18, 11], [11, 18]), ([16, 19, 11], [11, 16, 19]), ([11, 20], [11, 20]), ([21, 15], [21]), ([22], [22]), ([22], [22]), ([22], [22]), ([25, 22], [22, 25]), ([24, 26, 22, 22], [22, 24, 26]), ([23, 27, 27, 22], [22, 23, 27]), ([28, 22], [22, 28]), ([22, 29], [22, 29])])
def laws_FnSecrets.B6 : List Nat := [0, 1, 3, 7, 15, 31, 15, 79, 207, 511, 1023, 2047, 4095, 4095, 12287, 32767, 65535, 4095, 135167, 397311, 1048575, 2097151, 4194303, 8388607, 8388607, 8388607, 41943039, 125829119, 268435455, 536870911, 1073741823]
theorem laws_FnSecrets.tab6 : rtab .any (opsOf Try.f9 6) = laws_FnSecrets.T6 := by kernel_rfl
theorem laws_FnSecrets.bits6 : waitsOk laws_FnSecrets.T6.2 laws_FnSecrets.B6 = true := by kernel_rfl
def laws_FnSecrets.T16 : Bool × List (List Nat × List Nat) := (true, [([], []), ([], []), ([0, 1], [0, 1]), ([], []), ([], []), ([3, 4, 2], [3, 4]), ([2, 5], [2, 5]), ([6, 5], [6]), ([7], [7]), ([7], [7]), ([8, 9, 7, 7], [7, 8, 9]), ([7], [7]), ([11, 7], [7, 11]), ([7], [7]), ([13, 7], [7, 13]), ([7], [7]), ([12, 14, 15, 10, 7], [7, 12, 14, 15]), ([10, 16, 7], [7, 10, 16]), ([7, 17], [7, 17]), ([18, 16, 0, 1, 2, 3, 4, 5, 6, 7, 8, 9, 10, 11, 12, 13, 14, 15, 16, 17, 18], [18])])
def laws_FnSecrets.B16 : List Nat := [0, 0, 3, 0, 0, 31, 63, 127, 255, 255, 1023, 255, 2303, 255, 8447, 255, 65535, 131071, 262143, 524287]
theorem laws_FnSecrets.tab16 : rtab .any (opsOf Try.f9 16) = laws_FnSecrets.T16 := by kernel_rfl
theorem laws_FnSecrets.bits16 : waitsOk laws_FnSecrets.T16.2 laws_FnSecrets.B16 = true := by kernel_rfl
abbrev M6_0 : Array Bool := #[false, false, false, false, false, false, false, false, false, false, false, false, false, false, false, false, false, false, false, false, false, false, false, false, false, false, false, false, false, false, false]
abbrev M6_1 : Array Bool := #[true, false, false, false, false, false, false, false, false, false, false, false, false, false, false, false, false, false, false, false, false, false, false, false, false, false, false, false, false, false, false]
abbrev M6_2 : Array Bool := #[true, true, false, false, false, false, false, false, false, false, false, false, false, false, false, false, false, false, false, false, false, false, false, false, false, false, false, false, false, false, false]
abbrev M6_3 : Array Bool := #[true, true, true, false, false, false, false, false, false, false, false, false, false, false, false, false, false, false, false, false, false, false, false, false, false, false, false, false, false, false, false]
abbrev M6_4 : Array Bool := #[true, true, true, true, false, false, false, false, false, false, false, false, false, false, false, false, false, false, false, false, false, false, false, false, false, false, false, false, false, false, false]
abbrev M6_5 : Array Bool := #[true, true, true, true, true, false, false, false, false, false, false, false, false, false, false, false, false, false, false, false, false, false, false, false, false, false, false, false, false, false, false]
abbrev M6_6 : Array Bool := #[true, true, true, true, true, true, false, false, false, false, false, false, false, false, false, false, false, false, false, false, false, false, false, false, false, false, false, false, false, false, false]
abbrev M6_7 : Array Bool := #[true, true, true, true, true, true, true, false, false, false, false, false, false, false, false, false, false, false, false, false, false, false, false, false, false, false, false, false, false, false, false]
abbrev M6_8 : Array Bool := #[true, true, true, true, true, true, true, true, false, false, false, false, false, false, false, false, false, false, false, false, false, false, false, false, false, false, false, false, false, false, false]
abbrev M6_9 : Array Bool := #[true, true, true, true, true, true, true, true, true, false, false, false, false, false, false, false, false, false, false, false, false, false, false, false, false, false, false, false, false, false, false]
abbrev M6_10 : Array Bool := #[true, true, true, true, true, true, true, true, true, true, false, false, false, false, false, false, false, false, false, false, false, false, false, false, false, false, false, false, false, false, false]
abbrev M6_11 : Array Bool := #[true, true, true, true, true, true, true, true, true, true, true, false, false, false, false, false, false, false, false, false, false, false, false, false, false, false, false, false, false, false, false]
abbrev M6_12 : Array Bool := #[true, true, true, true, true, true, true, true, true, true, true, true, false, false, false, false, false, false, false, false, false, false, false, false, false, false, false, false, false, false, false]
abbrev M6_13 : Array Bool := #[true, true, true, true, true, true, true, true, true, true, true, true, true, false, false, false, false, false, false, false, false, false, false, false, false, false, false, false, false, false, false]
abbrev M6_14 : Array Bool := #[true, true, true, true, true, true, true, true, true, true, true, true, true, true, false, false, false, false, false, false, false, false, false, false, false, false, false, false, false, false, false]
abbrev M6_15 : Array Bool := #[true, true, true, true, true, true, true, true, true, true, true, true, true, true, false, false, false, true, false, false, false, false, false, false, false, false, false, false, false, false, false]
abbrev M6_16 : Array Bool := #[true, true, true, true, true, true, true, true, true, true, true, true, true, true, true, false, false, true, false, false, false, false, false, false, false, false, false, false, false, false, false]
abbrev M6_17 : Array Bool := #[true, true, true, true, true, true, true, true, true, true, true, true, true, true, true, false, false, true, true, false, false, false, false, false, false, false, false, false, false, false, false]
abbrev M6_18 : Array Bool := #[true, true, true, true, true, true, true, true, true, true, true, true, true, true, true, false, false, true, true, true, false, false, false, false, false, false, false, false, false, false, false]
abbrev M6_19 : Array Bool := #[true, true, true, true, true, true, true, true, true, true, true, true, true, true, true, true, false, true, true, true, false, false, false, false, false, false, false, false, false, false, false]
abbrev M6_20 : Array Bool := #[true, true, true, true, true, true, true, true, true, true, true, true, true, true, true, true, true, true, true, true, false, false, false, false, false, false, false, false, false, false, false]
abbrev M6_21 : Array Bool := #[true, true, true, true, true, true, true, true, true, true, true, true, true, true, true, true, true, true, true, true, true, false, false, false, false, false, false, false, false, false, false]
abbrev M6_22 : Array Bool := #[true, true, true, true, true, true, true, true, true, true, true, true, true, true, true, true, true, true, true, true, true, true, false, false, false, false, false, false, false, false, false]
abbrev M6_23 : Array Bool := #[true, true, true, true, true, true, true, true, true, true, true, true, true, true, true, true, true, true, true, true, true, true, true, false, false, false, false, false, false, false, false]
abbrev M6_24 : Array Bool := #[true, true, true, true, true, true, true, true, true, true, true, true, true, true, true, true, true, true, true, true, true, true, true, false, true, false, false, false, false, false, false]
abbrev M6_25 : Array Bool := #[true, true, true, true, true, true, true, true, true, true, true, true, true, true, true, true, true, true, true, true, true, true, true, false, true, true, false, false, false, false, false]
abbrev M6_26 : Array Bool := #[true, true, true, true, true, true, true, true, true, true, true, true, true, true, true, true, true, true, true, true, true, true, true, true, true, true, false, false, false, false, false]
abbrev M6_27 : Array Bool := #[true, true, true, true, true, true, true, true, true, true, true, true, true, true, true, true, true, true, true, true, true, true, true, true, true, true, true, false, false, false, false]
abbrev M6_28 : Array Bool := #[true, true, true, true, true, true, true, true, true, true, true, true, true, true, true, true, true, true, true, true, true, true, true, true, true, true, true, true, false, false, false]
abbrev M6_29 : Array Bool := #[true, true, true, true, true, true, true, true, true, true, true, true, true, true, true, true, true, true, true, true, true, true, true, true, true, true, true, true, true, false, false]
abbrev M6_30 : Array Bool := #[true, true, true, true, true, true, true, true, true, true, true, true, true, true, true, true, true, true, true, true, true, true, true, true, true, true, true, true, true, true, false]
abbrev M6_31 : Array Bool := #[true, true, true, true, true, true, true, true, true, true, true, true, true, true, true, true, true, true, true, true, true, true, true, true, true, true, true, true, true, true, true]
abbrev M6_32 : Array Bool := #[false, false, false, false, false, false, false, false, false, false, false, false, false, false, false, false, false, false, false, false]
abbrev M6_33 : Array Bool := #[true, false, false, false, false, false, false, false, false, false, false, false, false, false, false, false, false, false, false, false]
abbrev M6_34 : Array Bool := #[true, true, false, false, false, false, false, false, false, false, false, false, false, false, false, false, false, false, false, false]
abbrev M6_35 : Array Bool := #[true, true, false, true, false, false, false, false, false, false, false, false, false, false, false, false, false, false, false, false]
abbrev M6_36 : Array Bool := #[true, true, false, true, true, false, false, false, false, false, false, false, false, false, false, false, false, false, false, false]
abbrev M6_37 : Array Bool := #[true, true, true, true, true, false, false, false, false, false, false, false, false, false, false, false, false, false, false, false]
abbrev M6_38 : Array Bool := #[true, true, true, true, true, true, false, false, false, false, false, false, false, false, false, false, false, false, false, false]
abbrev M6_39 : Array Bool := #[true, true, true, true, true, true, true, false, false, false, false, false, false, false, false, false, false, false, false, false]
abbrev M6_40 : Array Bool := #[true, true, true, true, true, true, true, true, false, false, false, false, false, false, false, false, false, false, false, false]
abbrev M6_41 : Array Bool := #[true, true, true, true, true, true, true, true, false, true, false, false, false, false, false, false, false, false, false, false]
abbrev M6_42 : Array Bool := #[true, true, true, true, true, true, true, true, false, true, false, true, false, false, false, false, false, false, false, false]
abbrev M6_43 : Array Bool := #[true, true, true, true, true, true, true, true, false, true, false, true, false, true, false, false, false, false, false, false]
abbrev M6_44 : Array Bool := #[true, true, true, true, true, true, true, true, false, true, false, true, false, true, false, true, false, false, false, false]
abbrev M6_45 : Array Bool := #[true, true, true, true, true, true, true, true, true, true, false, true, false, true, false, true, false, false, false, false]
abbrev M6_46 : Array Bool := #[true, true, true, true, true, true, true, true, true, true, false, true, true, true, false, true, false, false, false, false]
abbrev M6_47 : Array Bool := #[true, true, true, true, true, true, true, true, true, true, false, true, true, true, true, true, false, false, false, false]
abbrev M6_48 : Array Bool := #[true, true, true, true, true, true, true, true, true, true, true, true, true, true, true, true, false, false, false, false]
abbrev M6_49 : Array Bool := #[true, true, true, true, true, true, true, true, true, true, true, true, true, true, true, true, true, false, false, false]
abbrev M6_50 : Array Bool := #[true, true, true, true, true, true, true, true, true, true, true, true, true, true, true, true, true, true, false, false]
abbrev M6_51 : Array Bool := #[true, true, true, true, true, true, true, true, true, true, true, true, true, true, true, true, true, true, true, false]
abbrev M6_52 : Array Bool := #[true, true, true, true, true, true, true, true, true, true, true, true, true, true, true, true, true, true, true, true]
theorem P6_1 {α : Type} (l : List α) (i : Nat) (a : α) : l.toArray.setIfInBounds i a = (l.set i a).toArray := List.setIfInBounds_toArray l i a
theorem P6_2 {α : Type} (x : α) (l : List α) (a : α) : (x :: l).set 0 a = a :: l := List.set_cons_zero
theorem P6_3 {α : Type} (x : α) (l : List α) (n : Nat) (a : α) : (x :: l).set (n + 1) a = x :: l.set n a := List.set_cons_succ
theorem e136_ {w : World} {g : Nat} {t : TypeId} {i0 : Int} {A1 : Option Addr} {n1 c1 : Nat} {i2 : Int} (h : w.heap[g]? = some (.cells #[.int .i64 i0, .slice A1 n1 c1, .int .i64 i2] t (0, 0))) : w.cell? ⟨g, 0, none⟩ = some (.int .i64 i0) ∧ w.cell? ⟨g, 1, none⟩ = some (.slice A1 n1 c1) ∧ w.cell? ⟨g, 2, none⟩ = some (.int .i64 i2) := ⟨(blk_cell h 0).trans rfl, (blk_cell h 1).trans rfl, (blk_cell h 2).trans rfl⟩
theorem z137_ {w : World} {g : Nat} {t : TypeId} {cs : Array Value} (h : w.heap[g]? = some (.cells cs t (0, 0))) : w.frozen? ⟨g, 0, none⟩ = false ∧ w.frozen? ⟨g, 1, none⟩ = false ∧ w.frozen? ⟨g, 2, none⟩ = false := ⟨blk_frozen h 0, blk_frozen h 1, blk_frozen h 2⟩
theorem y138_ {P : Prop} (h : P := by repeat (first | (with_reducible first | exact HB.out | apply below_alloc | apply pw_below_drewN | apply below_drew1 | refine below_set ?_ GE469.out) | exact HB.out)) : P := h
theorem y142_ {P : Prop} (h : P := by (with_reducible repeat (first | apply Kd.S_alloc | apply Kd.S_drewN | apply Kd.S_drew)); exact (Kd.S_mono (Kd.S_far (p := ⟨gb469, 2, none⟩) (Kd.S_far (p := ⟨gb469, 1, none⟩) (Kd.S_far (p := ⟨gb469, 0, none⟩) (Kd.S_mono HO463.out (fun k_ hk => (⟨hk, hk.2⟩ : _ ∧ k_ ≠ gb469))) (fun _ hk => hk.2) (.int .i64 t464)) (fun _ hk => hk.2) (.slice Ao10 t465.length co10)) (fun _ hk => hk.2) (.int .i64 t468)) (fun _ h_ => h_.1))) : P := h
theorem y143_ {P : Prop} (h : P := by (with_reducible repeat (first | apply Kd.R_alloc | apply Kd.R_drewN | apply Kd.R_drew)); exact (Kd.R_mono (Kd.R_far (p := ⟨gb469, 2, none⟩) (Kd.R_far (p := ⟨gb469, 1, none⟩) (Kd.R_far (p := ⟨gb469, 0, none⟩) (Kd.R_types HO467.out BK469.out (by decide)) (fun _ hk => hk.2) (.int .i64 t464)) (fun _ hk => hk.2) (.slice Ao10 t465.length co10)) (fun _ hk => hk.2) (.int .i64 t468)) (fun _ h_ => h_.1))) : P := h
theorem y144_ {P : Prop} (h : P := by (with_reducible repeat (first | refine blk_drewN ?_ _ | refine blk_drew ?_ | refine blk_alloc ?_ _)); refine blk_put (cs := #[.int .i64 t464, .slice Ao10 t465.length co10, .int .i64 0]) ?_ 2 _ rfl; (with_reducible repeat (first | refine blk_drewN ?_ _ | refine blk_drew ?_ | refine blk_alloc ?_ _)); refine blk_put (cs := #[.int .i64 t464, .slice none 0 0, .int .i64 0]) ?_ 1 _ rfl; (with_reducible repeat (first | refine blk_drewN ?_ _ | refine blk_drew ?_ | refine blk_alloc ?_ _)); refine blk_put (cs := #[.int .i64 0, .slice none 0 0, .int .i64 0]) ?_ 0 _ rfl; (with_reducible repeat (first | refine blk_drewN ?_ _ | refine blk_drew ?_ | refine blk_alloc ?_ _)); exact BK469.out) : P := h
theorem y147_ {P : Prop} (h : P := by repeat (first | (with_reducible first | exact HB.out | apply below_alloc | apply pw_below_drewN | apply below_drew1 | refine below_set ?_ GE469.out | refine below_set ?_ GE503.out) | exact HB.out)) : P := h
theorem y148_ {P : Prop} (h : P := by (with_reducible repeat (first | apply Kd.S_alloc | apply Kd.S_drewN | apply Kd.S_drew)); exact HO463.out) : P := h
theorem y149_ {P : Prop} (h : P := by (with_reducible repeat (first | apply Kd.S_alloc | apply Kd.S_drewN | apply Kd.S_drew)); exact HO494.out) : P := h
theorem y150_ {P : Prop} (h : P := by (with_reducible repeat (first | apply Kd.S_alloc | apply Kd.S_drewN | apply Kd.S_drew)); exact HO496.out) : P := h
theorem y151_ {P : Prop} (h : P := by repeat (first | (with_reducible first | exact HB.out | apply below_alloc | apply pw_below_drewN | apply below_drew1 | refine below_set ?_ GE469.out) | exact HB.out)) : P := h
theorem y152_ {P : Prop} (h : P := by (with_reducible repeat (first | apply Kd.S_alloc | apply Kd.S_drewN | apply Kd.S_drew)); exact HO472.out) : P := h
theorem y155_ {P : Prop} (h : P := by (with_reducible repeat (first | apply Kd.S_alloc | apply Kd.S_drewN | apply Kd.S_drew)); exact HO484.out) : P := h
set_option maxHeartbeats 8000000 in
set_option maxRecDepth 100000 in
theorem laws_FnSecrets.calls (k : Nat) (A0 : Option Addr) (c0 : Nat) (l0 : List Int) (w : World) (hr0 : Kd.C (Kd.int .u8) w A0 l0.length l0) (hc0 : l0.length ≤ c0) (h : laws_FnSecrets.f k l0 = some true) :
  Calls Try.prog 9 #[.slice A0 l0.length c0] w fun e w' => e = .returned (.bool true) ∧ Below w.heap.size w w' := by
 have hu36 := Try.underlying36
 have HR0 := Aside0.mk hr0
 have HC0 := Aside0.mk hc0
 clear hr0 hc0
 have HB := Aside0.mk (Below.refl w.heap.size w)
 have H : ((laws_big.f l0).bind fun t460 => (if t460 = true then (some true) else ((spec_DrawPutSecret.f k l0).bind fun bt461 => ((impl_PutSecret.f k bt461.1 bt461.2.1 bt461.2.2.1 bt461.2.2.2).bind fun bt470 => (if bt470.2 = true then ((impl_AreSecrets.f k bt470.1).bind fun t474 => (if t474 = true then (if (bt470.1.length : Int) = (wrap64 ((bt461.1.length : Int) + 1)) then ((impl_MarksOf.f bt470.1 bt461.2.1).bind fun t475 => (if (t475.length : Int) = (bt461.2.2.1.length : Int) then ((impl_SealOf.f k bt470.1 bt461.2.1).bind fun t478 => ((impl_IsSecretOf.f k bt461.2.1 bt461.2.2.1 bt461.2.2.2 t478).bind fun t479 => (if t479 = true then (laws_FnSecrets.j0 k l0) else (some false)))) else (some false))) else (some false)) else (some false))) else ((impl_EqualSecrets.f k bt470.1 bt461.1).bind fun t480 => (if t480 = true then (laws_FnSecrets.j0 k l0) else (some false)))))))) = some true := h
 clear h
 replace H := Option.bind_eq_some_iff.mp H
 obtain ⟨t460, A20, H⟩ := H
 replace H : (if t460 = true then (some true) else ((spec_DrawPutSecret.f k l0).bind fun bt461 => ((impl_PutSecret.f k bt461.1 bt461.2.1 bt461.2.2.1 bt461.2.2.2).bind fun bt470 => (if bt470.2 = true then ((impl_AreSecrets.f k bt470.1).bind fun t474 => (if t474 = true then (if (bt470.1.length : Int) = (wrap64 ((bt461.1.length : Int) + 1)) then ((impl_MarksOf.f bt470.1 bt461.2.1).bind fun t475 => (if (t475.length : Int) = (bt461.2.2.1.length : Int) then ((impl_SealOf.f k bt470.1 bt461.2.1).bind fun t478 => ((impl_IsSecretOf.f k bt461.2.1 bt461.2.2.1 bt461.2.2.2 t478).bind fun t479 => (if t479 = true then (laws_FnSecrets.j0 k l0) else (some false)))) else (some false))) else (some false)) else (some false))) else ((impl_EqualSecrets.f k bt470.1 bt461.1).bind fun t480 => (if t480 = true then (laws_FnSecrets.j0 k l0) else (some false))))))) = some true := H
 have A2 := Aside0.mk A20
 clear A20
 by_cases c3 : t460 = true
 ·
  subst c3
  have H1 : (some true : Option Bool) = some true := rfl
  clear H
  have H := H1
  clear H1
  first | (obtain rfl := Option.some.inj H) | (have Hr_ := Option.some.inj H; clear H)
  go_enter Try.func9, Try.ntmps9
  go_wp2_with (first | ((with_reducible refine gate_callee (f := 34) rfl ?_); refine goesL_ (some 15) rfl rfl Try.func34 (by kernel_rfl) rfl #[.slice A0 l0.length c0] rfl ma_ ?_; (with_reducible refine (laws_big.calls _ _ l0 true _ ?side1 ?side2 A2.out).mono ?_); (case side1 => exact cd_ HR0.out); (case side2 => exact HC0.out); rintro e w' ⟨rfl, ⟨nd, rfl⟩⟩; refine ⟨_, rfl, ?_⟩))
  go_ret
  exact ⟨by first | rfl | (simp [errW_none, errW_some] <;> rfl) | (simp [*, errW_none, errW_some] <;> rfl), hd_ HB.out⟩
 ·
  replace c3 := Bool.eq_false_iff.mpr c3
  subst c3
  have H1 : ((spec_DrawPutSecret.f k l0).bind fun bt461 => ((impl_PutSecret.f k bt461.1 bt461.2.1 bt461.2.2.1 bt461.2.2.2).bind fun bt470 => (if bt470.2 = true then ((impl_AreSecrets.f k bt470.1).bind fun t474 => (if t474 = true then (if (bt470.1.length : Int) = (wrap64 ((bt461.1.length : Int) + 1)) then ((impl_MarksOf.f bt470.1 bt461.2.1).bind fun t475 => (if (t475.length : Int) = (bt461.2.2.1.length : Int) then ((impl_SealOf.f k bt470.1 bt461.2.1).bind fun t478 => ((impl_IsSecretOf.f k bt461.2.1 bt461.2.2.1 bt461.2.2.2 t478).bind fun t479 => (if t479 = true then (laws_FnSecrets.j0 k l0) else (some false)))) else (some false))) else (some false)) else (some false))) else ((impl_EqualSecrets.f k bt470.1 bt461.1).bind fun t480 => (if t480 = true then (laws_FnSecrets.j0 k l0) else (some false)))))) = some true := by rw [if_neg (show ¬ (false = true) by decide)] at H; exact H
  clear H
  have H := H1
  clear H1
  replace H := Option.bind_eq_some_iff.mp H
  obtain ⟨⟨t461, t464, t465, t468⟩, A40, H⟩ := H
  replace H : ((impl_PutSecret.f k t461 t464 t465 t468).bind fun bt470 => (if bt470.2 = true then ((impl_AreSecrets.f k bt470.1).bind fun t474 => (if t474 = true then (if (bt470.1.length : Int) = (wrap64 ((t461.length : Int) + 1)) then ((impl_MarksOf.f bt470.1 t464).bind fun t475 => (if (t475.length : Int) = (t465.length : Int) then ((impl_SealOf.f k bt470.1 t464).bind fun t478 => ((impl_IsSecretOf.f k t464 t465 t468 t478).bind fun t479 => (if t479 = true then (laws_FnSecrets.j0 k l0) else (some false)))) else (some false))) else (some false)) else (some false))) else ((impl_EqualSecrets.f k bt470.1 t461).bind fun t480 => (if t480 = true then (laws_FnSecrets.j0 k l0) else (some false))))) = some true := H
  have A4 := Aside0.mk A40
  clear A40
  replace H := Option.bind_eq_some_iff.mp H
  obtain ⟨⟨t470, t473⟩, A50, H⟩ := H
  replace H : (if t473 = true then ((impl_AreSecrets.f k t470).bind fun t474 => (if t474 = true then (if (t470.length : Int) = (wrap64 ((t461.length : Int) + 1)) then ((impl_MarksOf.f t470 t464).bind fun t475 => (if (t475.length : Int) = (t465.length : Int) then ((impl_SealOf.f k t470 t464).bind fun t478 => ((impl_IsSecretOf.f k t464 t465 t468 t478).bind fun t479 => (if t479 = true then (laws_FnSecrets.j0 k l0) else (some false)))) else (some false))) else (some false)) else (some false))) else ((impl_EqualSecrets.f k t470 t461).bind fun t480 => (if t480 = true then (laws_FnSecrets.j0 k l0) else (some false)))) = some true := H
  have A5 := Aside0.mk A50
  clear A50
  have HC6 := Aside0.mk H
  clear H
  go_enter Try.func9, Try.ntmps9
  go_upto_if 27 with (first | ((with_reducible refine gate_callee (f := 34) rfl ?_); refine goesL_ (some 15) rfl rfl Try.func34 (by kernel_rfl) rfl #[.slice A0 l0.length c0] rfl ma_ ?_; (with_reducible refine (laws_big.calls _ _ l0 false _ ?side1 ?side2 A2.out).mono ?_); (case side1 => exact cd_ HR0.out); (case side2 => exact HC0.out); rintro e w' ⟨rfl, ⟨nd, rfl⟩⟩; refine ⟨_, rfl, ?_⟩) | ((with_reducible refine gate_callee (f := 35) rfl ?_); refine goesL_ (some 18) rfl rfl Try.func35 (by kernel_rfl) rfl #[.slice A0 l0.length c0] rfl ma_ ?_; (with_reducible refine (spec_DrawPutSecret.calls k _ _ l0 t461 t464 t465 t468 _ ?side1 ?side2 A4.out).mono ?_); (case side1 => exact cd_ HR0.out); (case side2 => exact HC0.out); rintro e w7 ⟨v462, v466, rfl, ho0, ho1, hb⟩; refine ⟨_, rfl, ?_⟩; have HO463 := Aside0.mk (Kd.S_lower ho0 (below_size (hd_ HB.out))); have HO467 := Aside0.mk (Kd.R_lower ho1 (below_size (hd_ HB.out))); have n2_ := Aside0.mk (below_step (hd_ HB.out) hb); clear HB; have HB := n2_; clear n2_; (try clear hb); (try clear hb2); (try clear hk); (try clear hi); (try clear ho0); (try clear ho1)) | ((with_reducible refine gate_dst (N := 4) rfl ?_); (try (refine gate_guard (by rfl) ?_; dsimp only)); refine box_event ?hg (N := 4) ?hd (cs := #[.int .i64 0, .slice none 0 0, .int .i64 0]) (t := 36) ?hr ?_; (case hd => rfl); (case hg => rfl); (case hr => first | (go_simp; done) | (go_simp; rfl)); intro gb469 hg w8 hbox hb; have n0_ := Aside0.mk (Kd.S_below (Kd.S_elderB y148_ gb469 (Nat.le_of_eq hg.symm)) hb); have n1_ := Aside0.mk (Kd.R_below (rd_ HO467.out) hb); have n2_ := Aside0.mk (below_step (hd_ HB.out) hb); have BK469 := Aside0.mk (hbox); have GW469 := Aside0.mk ((by rw [hg]; exact (below_size (hd_ HB.out)) : w.heap.size ≤ gb469)); have GE469 := Aside0.mk ((by rw [hg]; exact (below_size (hd_ HB.out)) : w.heap.size ≤ gb469)); clear HO463; clear HO467; clear HB; have HO463 := n0_; have HO467 := n1_; have HB := n2_; clear n0_ n1_ n2_; clear hb hbox hg; obtain ⟨hcz9_0, hcz9_1, hcz9_2⟩ := e136_ BK469.out; obtain ⟨hfz9_0, hfz9_1, hfz9_2⟩ := z137_ BK469.out; obtain ⟨Ao10, co10, eo10⟩ := Kd.R_slice HO467.out; subst eo10; obtain ⟨Ao11, co11, eo11⟩ := Kd.S_slice HO463.out; subst eo11) | ((with_reducible refine gate_callee (f := 31) rfl ?_); refine goesL_ (some 24) rfl rfl Try.func31 (by kernel_rfl) rfl #[.slice Ao11 t461.length co11, .agg #[.int .i64 t464, .slice Ao10 t465.length co10, .int .i64 t468]] rfl ma_ ?_; (with_reducible refine (impl_PutSecret.calls k _ _ t461 t464 _ _ t465 t468 t470 t473 _ ?side1 ?side2 ?side3 ?side4 A5.out).mono ?_); (case side1 => refine (Kd.S_reads' (e := 36) (base := w.heap.size) (ok := fun k_ => (some k_ ≠ (.slice Ao10 t465.length co10 : Value).ownBlock ∧ k_ ≠ gb469)) (n := t461.length) (c := co11) ?_).2.2; exact y142_); (case side2 => exact (Kd.S_reads' HO463.out).2.1); (case side3 => refine (Kd.R_reads' (e := 67) (base := w.heap.size) (ok := fun k_ => True) (n := t465.length) (c := co10) ?_).2.2; exact y143_); (case side4 => exact (Kd.R_reads' HO467.out).2.1); rintro e w12 ⟨v471, rfl, ho0, hb⟩; refine ⟨_, rfl, ?_⟩; have n0_ := Aside0.mk (Kd.S_elder' y142_ (Kd.S_base ho0) hb); have n1_ := Aside0.mk (Kd.R_below y143_ hb); have HO472 := Aside0.mk (Kd.S_lower (Kd.S_newB (Kd.S_new' (Kd.S_new' ho0 (Kd.S_lt y142_)) (Kd.R_lt y143_)) (g := gb469) (o := .cells #[.int .i64 t464, .slice Ao10 t465.length co10, .int .i64 t468] 36 (0, 0)) y144_) (below_size y138_)); have n3_ := Aside0.mk (blk_below (g := gb469) (o := .cells #[.int .i64 t464, .slice Ao10 t465.length co10, .int .i64 t468] 36 (0, 0)) y144_ hb); have n4_ := Aside0.mk (below_step y138_ hb); clear HO463; clear HO467; clear BK469; clear HB; have HO463 := n0_; have HO467 := n1_; have BK469 := n3_; have HB := n4_; clear n0_ n1_ n3_ n4_; (try clear hb); (try clear hb2); (try clear hk); (try clear hi); (try clear ho0)))
  (try simp only [Act.put, List.setIfInBounds_toArray, List.set_cons_zero, List.set_cons_succ])
  go_cut [] (fun wc => ∃ (kq : Nat), Aside0 (laws_FnSecrets.j0 kq l0 = some true) ∧ Aside0 (kq ≤ k) ∧ Aside0 (Kd.R k67 67 wc w.heap.size (fun _ => True) (.slice Ao10 t465.length co10) t465) ∧ Aside0 (wc.heap[gb469]? = some (.cells #[.int .i64 t464, (.slice Ao10 t465.length co10), .int .i64 t468] 36 (0, 0))) ∧ Aside0 (Below w.heap.size w wc))
  case first =>
   have H := HC6.out
   clear HC6
   by_cases c13 : t473 = true
   ·
    subst c13
    have H1 : ((impl_AreSecrets.f k t470).bind fun t474 => (if t474 = true then (if (t470.length : Int) = (wrap64 ((t461.length : Int) + 1)) then ((impl_MarksOf.f t470 t464).bind fun t475 => (if (t475.length : Int) = (t465.length : Int) then ((impl_SealOf.f k t470 t464).bind fun t478 => ((impl_IsSecretOf.f k t464 t465 t468 t478).bind fun t479 => (if t479 = true then (laws_FnSecrets.j0 k l0) else (some false)))) else (some false))) else (some false)) else (some false))) = some true := by rw [if_pos rfl] at H; exact H
    clear H
    have H := H1
    clear H1
    replace H := Option.bind_eq_some_iff.mp H
    obtain ⟨t474, A140, H⟩ := H
    replace H : (if t474 = true then (if (t470.length : Int) = (wrap64 ((t461.length : Int) + 1)) then ((impl_MarksOf.f t470 t464).bind fun t475 => (if (t475.length : Int) = (t465.length : Int) then ((impl_SealOf.f k t470 t464).bind fun t478 => ((impl_IsSecretOf.f k t464 t465 t468 t478).bind fun t479 => (if t479 = true then (laws_FnSecrets.j0 k l0) else (some false)))) else (some false))) else (some false)) else (some false)) = some true := H
    have A14 := Aside0.mk A140
    clear A140
    by_cases c15 : t474 = true
    ·
     subst c15
     have H1 : (if (t470.length : Int) = (wrap64 ((t461.length : Int) + 1)) then ((impl_MarksOf.f t470 t464).bind fun t475 => (if (t475.length : Int) = (t465.length : Int) then ((impl_SealOf.f k t470 t464).bind fun t478 => ((impl_IsSecretOf.f k t464 t465 t468 t478).bind fun t479 => (if t479 = true then (laws_FnSecrets.j0 k l0) else (some false)))) else (some false))) else (some false)) = some true := by rw [if_pos rfl] at H; exact H
     clear H
     have H := H1
     clear H1
     by_cases c16 : (t470.length : Int) = (wrap64 ((t461.length : Int) + 1))
     ·
      rw [if_pos c16] at H
      have c16b0 : ((t470.length : Int) == (wrap64 ((t461.length : Int) + 1))) = true := beq_iff_eq.mpr c16
      have c16b1 : ((t470.length : Int) != (wrap64 ((t461.length : Int) + 1))) = false := bne_eq_false_iff_eq.mpr c16
      clear c16
      (first | rw [c16b0] | (simp only [i64_w, i32_w]; rw [c16b0]) | skip)
      replace H := Option.bind_eq_some_iff.mp H
      obtain ⟨t475, A170, H⟩ := H
      replace H : (if (t475.length : Int) = (t465.length : Int) then ((impl_SealOf.f k t470 t464).bind fun t478 => ((impl_IsSecretOf.f k t464 t465 t468 t478).bind fun t479 => (if t479 = true then (laws_FnSecrets.j0 k l0) else (some false)))) else (some false)) = some true := H
      have A17 := Aside0.mk A170
      clear A170
      by_cases c18 : (t475.length : Int) = (t465.length : Int)
      ·
       rw [if_pos c18] at H
       have c18b0 : ((t475.length : Int) == (t465.length : Int)) = true := beq_iff_eq.mpr c18
       have c18b1 : ((t475.length : Int) != (t465.length : Int)) = false := bne_eq_false_iff_eq.mpr c18
       have c18b2 : (t475.length == t465.length) = true := by first | simpa using c18 | (simp at c18 ⊢; omega)
       clear c18
       replace H := Option.bind_eq_some_iff.mp H
       obtain ⟨t478, A190, H⟩ := H
       replace H : ((impl_IsSecretOf.f k t464 t465 t468 t478).bind fun t479 => (if t479 = true then (laws_FnSecrets.j0 k l0) else (some false))) = some true := H
       have A19 := Aside0.mk A190
       clear A190
       replace H := Option.bind_eq_some_iff.mp H
       obtain ⟨t479, A200, H⟩ := H
       replace H : (if t479 = true then (laws_FnSecrets.j0 k l0) else (some false)) = some true := H
       have A20 := Aside0.mk A200
       clear A200
       by_cases c21 : t479 = true
       ·
        subst c21
        have H1 : (laws_FnSecrets.j0 k l0) = some true := by rw [if_pos rfl] at H; exact H
        clear H
        have H := H1
        clear H1
        have H' := Aside0.mk H
        clear H
        try go_wp2
        have n0_ := Aside0.mk (Kd.S_drew HO463.out)
        have n1_ := Aside0.mk (Kd.R_drew HO467.out)
        have n2_ := Aside0.mk (Kd.S_drew HO472.out)
        have n3_ := Aside0.mk (blk_drew BK469.out)
        have n4_ := Aside0.mk (below_drew1 HB.out)
        clear HO463
        clear HO467
        clear HO472
        clear BK469
        clear HB
        have HO463 := n0_
        have HO467 := n1_
        have HO472 := n2_
        have BK469 := n3_
        have HB := n4_
        clear n0_ n1_ n2_ n3_ n4_
        obtain ⟨Ao23, co23, eo23⟩ := Kd.S_slice HO472.out
        (first | subst eo23 | (injection eo23 with f1_ f2_ f3_; have f4_ := f1_.symm; have f5_ := f3_.symm; clear f1_ f2_ f3_; subst f4_; subst f5_))
        refine start_ (n := 31) (S := fun w' => q2e_ w' gb469 t464 Ao10 t465.length co10 t468) (ds := []) M6_0 (by kernel_rfl) rfl rfl (k2e_ BK469.out) (fun hHeld => ?_); refine with_tabW laws_FnSecrets.tab6 laws_FnSecrets.bits6 (fun HT_ HW_ => ?_)
        generalize w12.drew = w22 at HO463 HO467 HO472 BK469 HB hHeld ⊢
        refine pu_ 0 (some 28) M6_1 HT_ ?_
        refine one_ (i := 1) (N := some 29) M6_2 rfl rfl (one_of HT_.out (by kernel_rfl)) (by decide) (fun K hK => ?_)
        refine goes_ Try.func13 (by kernel_rfl) rfl #[.slice Ao23 t470.length co23] (by rfl) rfl rfl ma_ ?_
        with_reducible refine (impl_AreSecrets.calls k _ _ t470 true _ ?side1 ?side2 A14.out).mono ?_
        (case side1 => exact cd_ (Kd.S_reads' HO472.out).2.2)
        (case side2 => exact (Kd.S_reads' HO472.out).2.1)
        rintro e w24 ⟨rfl, hb⟩
        refine ⟨_, rfl, ?_⟩
        have n0_ := Aside0.mk (Kd.S_below y148_ hb)
        have n1_ := Aside0.mk (Kd.R_below (rd_ HO467.out) hb)
        have n2_ := Aside0.mk (Kd.S_below y152_ hb)
        have n3_ := Aside0.mk (blk_below (bd_ BK469.out) hb)
        have n4_ := Aside0.mk (below_step y138_ hb)
        clear HO463
        clear HO467
        clear HO472
        clear BK469
        clear HB
        have HO463 := n0_
        have HO467 := n1_
        have HO472 := n2_
        have BK469 := n3_
        have HB := n4_
        clear n0_ n1_ n2_ n3_ n4_
        (try clear hb)
        (try clear hb2)
        (try clear hk)
        (try clear hi)
        refine hK.out _ _ (k2e_ BK469.out) (fun hHeld => ?_)
        clear hK K
        refine norm_ (a' := ?_) ?_ ?_
        rotate_left
        ·
         show Act.put _ (some 29) _ = _
         simp only [Act.put, P6_1, P6_2, P6_3, i64_w, i32_w]
         rfl
        refine pu_ 2 (some 30) M6_3 HT_ ?_
        refine pu_ 3 (some 31) M6_4 HT_ ?_
        refine pu_ 4 (some 32) M6_5 HT_ ?_
        refine pu_ 5 (some 33) M6_6 HT_ ?_
        refine pu_ 6 (some 34) M6_7 HT_ ?_
        refine pu_ 7 (some 35) M6_8 HT_ ?_
        refine pu_ 8 (some 36) M6_9 HT_ ?_
        refine pu_ 9 (some 37) M6_10 HT_ ?_
        refine pu_ 10 (some 38) M6_11 HT_ ?_
        refine pu_ 11 (some 39) M6_12 HT_ ?_
        refine pu_ 12 (some 40) M6_13 HT_ ?_
        refine pu_ 13 (some 41) M6_14 HT_ ?_
        refine pu_ 17 (some 45) M6_15 HT_ ?_
        refine tk_ 14 (some 42) M6_16 HT_ HW_ hHeld ?_
        refine tk_ 18 (some 46) M6_17 HT_ HW_ hHeld ?_
        refine pu_ 19 (some 47) M6_18 HT_ ?_
        refine one_ (i := 15) (N := some 43) M6_19 rfl rfl (one_of HT_.out (by kernel_rfl)) (by decide) (fun K hK => ?_)
        refine goes_ Try.func23 (by kernel_rfl) rfl #[.slice Ao23 t470.length co23, .int .i64 t464] (by rfl) rfl rfl ma_ ?_
        with_reducible refine (impl_MarksOf.calls _ _ t470 t464 t475 _ ?side1 ?side2 A17.out).mono ?_
        (case side1 => exact cd_ (Kd.S_reads' HO472.out).2.2)
        (case side2 => exact (Kd.S_reads' HO472.out).2.1)
        rintro e w25 ⟨v476, rfl, ho0, hb⟩
        refine ⟨_, rfl, ?_⟩
        have n0_ := Aside0.mk (Kd.S_elder' y148_ (Kd.R_base ho0) hb)
        have n1_ := Aside0.mk (Kd.R_elder' (rd_ HO467.out) (Kd.R_base ho0) hb)
        have n2_ := Aside0.mk (Kd.S_elder' y152_ (Kd.R_base ho0) hb)
        have HO477 := Aside0.mk (Kd.R_lower (Kd.R_new' ho0 (Kd.R_lt (rd_ HO467.out))) (below_size y138_))
        have n4_ := Aside0.mk (blk_below (bd_ BK469.out) hb)
        have n5_ := Aside0.mk (below_step y138_ hb)
        clear HO463
        clear HO467
        clear HO472
        clear BK469
        clear HB
        have HO463 := n0_
        have HO467 := n1_
        have HO472 := n2_
        have BK469 := n4_
        have HB := n5_
        clear n0_ n1_ n2_ n4_ n5_
        (try clear hb)
        (try clear hb2)
        (try clear hk)
        (try clear hi)
        (try clear ho0)
        obtain ⟨Ao26, co26, eo26⟩ := Kd.R_slice HO477.out
        (first | subst eo26 | (injection eo26 with f1_ f2_ f3_; have f4_ := f1_.symm; have f5_ := f3_.symm; clear f1_ f2_ f3_; subst f4_; subst f5_))
        refine hK.out _ _ (k2e_ BK469.out) (fun hHeld => ?_)
        clear hK K
        refine norm_ (a' := ?_) ?_ ?_
        rotate_left
        ·
         show Act.put _ (some 43) _ = _
         simp only [Act.put, P6_1, P6_2, P6_3, i64_w, i32_w]
         rfl
        refine pu_ 16 (some 44) M6_20 HT_ ?_
        refine pu_ 20 (some 48) M6_21 HT_ ?_
        refine pu_ 21 (some 49) M6_22 HT_ ?_
        refine pu_ 22 (some 50) M6_23 HT_ ?_
        refine pu_ 24 (some 52) M6_24 HT_ ?_
        refine pu_ 25 (some 53) M6_25 HT_ ?_
        refine tk_ 23 (some 51) M6_26 HT_ HW_ hHeld ?_
        refine tk_ 26 (some 54) M6_27 HT_ HW_ hHeld ?_
        refine one_ (i := 27) (N := some 55) M6_28 rfl rfl (one_of HT_.out (by kernel_rfl)) (by decide) (fun K hK => ?_)
        refine goes_ Try.func29 (by kernel_rfl) rfl #[.slice Ao23 t470.length co23, .int .i64 t464] (by rfl) rfl rfl ma_ ?_
        with_reducible refine (impl_SealOf.calls k _ _ t470 t464 t478 _ ?side1 ?side2 A19.out).mono ?_
        (case side1 => exact cd_ (Kd.S_reads' HO472.out).2.2)
        (case side2 => exact (Kd.S_reads' HO472.out).2.1)
        rintro e w27 ⟨rfl, hb⟩
        refine ⟨_, rfl, ?_⟩
        have n0_ := Aside0.mk (Kd.S_below y148_ hb)
        have n1_ := Aside0.mk (Kd.R_below (rd_ HO467.out) hb)
        have n2_ := Aside0.mk (Kd.S_below y152_ hb)
        have n3_ := Aside0.mk (Kd.R_below (rd_ HO477.out) hb)
        have n4_ := Aside0.mk (blk_below (bd_ BK469.out) hb)
        have n5_ := Aside0.mk (below_step y138_ hb)
        clear HO463
        clear HO467
        clear HO472
        clear HO477
        clear BK469
        clear HB
        have HO463 := n0_
        have HO467 := n1_
        have HO472 := n2_
        have HO477 := n3_
        have BK469 := n4_
        have HB := n5_
        clear n0_ n1_ n2_ n3_ n4_ n5_
        (try clear hb)
        (try clear hb2)
        (try clear hk)
        (try clear hi)
        refine hK.out _ _ (k2e_ BK469.out) (fun hHeld => ?_)
        clear hK K
        refine norm_ (a' := ?_) ?_ ?_
        rotate_left
        ·
         show Act.put _ (some 55) _ = _
         simp only [Act.put, P6_1, P6_2, P6_3, i64_w, i32_w]
         rfl
        refine one_ (i := 28) (N := some 56) M6_29 rfl rfl (one_of HT_.out (by kernel_rfl)) (by decide) (fun K hK => ?_)
        refine goes_ Try.func18 (by kernel_rfl) rfl #[.agg #[.int .i64 t464, .slice Ao10 t465.length co10, .int .i64 t468], .int .i64 t478] (by rfl) rfl rfl ma_ ?_
        with_reducible refine (impl_IsSecretOf.calls k t464 _ _ t465 t468 t478 true _ ?side1 ?side2 A20.out).mono ?_
        (case side1 => exact cd_ (Kd.R_reads' HO467.out).2.2)
        (case side2 => exact (Kd.R_reads' HO467.out).2.1)
        rintro e w28 ⟨rfl, hb⟩
        refine ⟨_, rfl, ?_⟩
        have n0_ := Aside0.mk (Kd.S_below y148_ hb)
        have n1_ := Aside0.mk (Kd.R_below (rd_ HO467.out) hb)
        have n2_ := Aside0.mk (Kd.S_below y152_ hb)
        have n3_ := Aside0.mk (Kd.R_below (rd_ HO477.out) hb)
        have n4_ := Aside0.mk (blk_below (bd_ BK469.out) hb)
        have n5_ := Aside0.mk (below_step y138_ hb)
        clear HO463
        clear HO467
        clear HO472
        clear HO477
        clear BK469
        clear HB
        have HO463 := n0_
        have HO467 := n1_
        have HO472 := n2_
        have HO477 := n3_
        have BK469 := n4_
        have HB := n5_
        clear n0_ n1_ n2_ n3_ n4_ n5_
        (try clear hb)
        (try clear hb2)
        (try clear hk)
        (try clear hi)
        refine hK.out _ _ (k2e_ BK469.out) (fun hHeld => ?_)
        clear hK K
        refine norm_ (a' := ?_) ?_ ?_
        rotate_left
        ·
         show Act.put _ (some 56) _ = _
         simp only [Act.put, P6_1, P6_2, P6_3, i64_w, i32_w]
         rfl
        refine pu_ 29 (some 57) M6_30 HT_ ?_
        refine pu_ 30 (some 58) M6_31 HT_ ?_
        refine done_ (done_of HT_.out (by kernel_rfl)) ?_
        try go_wp2
        go_meet
        case rel => exact ⟨_, H', ⟨by first | omega | exact Nat.le_refl _⟩, ⟨by (with_reducible repeat (first | apply Kd.R_alloc | apply Kd.R_drewN | apply Kd.R_drew)); exact Kd.R_mono HO467.out (fun _ hk => trivial)⟩, ⟨bd_ BK469.out⟩, ⟨y151_⟩⟩
       ·
        replace c21 := Bool.eq_false_iff.mpr c21
        subst c21
        have H1 : (some false) = some true := by rw [if_neg (show ¬ (false = true) by decide)] at H; exact H
        clear H
        have H := H1
        clear H1
        exact absurd H (by simp)
      ·
       rw [if_neg c18] at H
       have c18b0 : ((t475.length : Int) == (t465.length : Int)) = false := beq_eq_false_iff_ne.mpr c18
       have c18b1 : ((t475.length : Int) != (t465.length : Int)) = true := bne_iff_ne.mpr c18
       have c18b2 : (t475.length == t465.length) = false := by first | simpa using c18 | (simp at c18 ⊢; omega)
       exact absurd H (by simp)
     ·
      rw [if_neg c16] at H
      have c16b0 : ((t470.length : Int) == (wrap64 ((t461.length : Int) + 1))) = false := beq_eq_false_iff_ne.mpr c16
      have c16b1 : ((t470.length : Int) != (wrap64 ((t461.length : Int) + 1))) = true := bne_iff_ne.mpr c16
      (first | rw [c16b0] | (simp only [i64_w, i32_w]; rw [c16b0]) | skip)
      exact absurd H (by simp)
    ·
     replace c15 := Bool.eq_false_iff.mpr c15
     subst c15
     have H1 : (some false) = some true := by rw [if_neg (show ¬ (false = true) by decide)] at H; exact H
     clear H
     have H := H1
     clear H1
     exact absurd H (by simp)
   ·
    replace c13 := Bool.eq_false_iff.mpr c13
    subst c13
    have H1 : ((impl_EqualSecrets.f k t470 t461).bind fun t480 => (if t480 = true then (laws_FnSecrets.j0 k l0) else (some false))) = some true := by rw [if_neg (show ¬ (false = true) by decide)] at H; exact H
    clear H
    have H := H1
    clear H1
    replace H := Option.bind_eq_some_iff.mp H
    obtain ⟨t480, A290, H⟩ := H
    replace H : (if t480 = true then (laws_FnSecrets.j0 k l0) else (some false)) = some true := H
    have A29 := Aside0.mk A290
    clear A290
    by_cases c30 : t480 = true
    ·
     subst c30
     have H1 : (laws_FnSecrets.j0 k l0) = some true := by rw [if_pos rfl] at H; exact H
     clear H
     have H := H1
     clear H1
     have H' := Aside0.mk H
     clear H
     obtain ⟨Ao31, co31, eo31⟩ := Kd.S_slice HO472.out
     subst eo31
     go_wp2_with (first | ((with_reducible refine gate_callee (f := 21) rfl ?_); refine goesL_ (some 61) rfl rfl Try.func21 (by kernel_rfl) rfl #[.slice Ao31 t470.length co31, .slice Ao11 t461.length co11] rfl ma_ ?_; (with_reducible refine (impl_EqualSecrets.calls k _ _ t470 _ _ t461 true _ ?side1 ?side2 ?side3 ?side4 A29.out).mono ?_); (case side1 => exact cd_ (Kd.S_reads' HO472.out).2.2); (case side2 => exact (Kd.S_reads' HO472.out).2.1); (case side3 => exact cd_ (Kd.S_reads' HO463.out).2.2); (case side4 => exact (Kd.S_reads' HO463.out).2.1); rintro e w32 ⟨rfl, hb⟩; refine ⟨_, rfl, ?_⟩; have n0_ := Aside0.mk (Kd.S_below y148_ hb); have n1_ := Aside0.mk (Kd.R_below (rd_ HO467.out) hb); have n2_ := Aside0.mk (Kd.S_below y152_ hb); have n3_ := Aside0.mk (blk_below (bd_ BK469.out) hb); have n4_ := Aside0.mk (below_step y138_ hb); clear HO463; clear HO467; clear HO472; clear BK469; clear HB; have HO463 := n0_; have HO467 := n1_; have HO472 := n2_; have BK469 := n3_; have HB := n4_; clear n0_ n1_ n2_ n3_ n4_; (try clear hb); (try clear hb2); (try clear hk); (try clear hi)))
     go_meet
     case rel => exact ⟨_, H', ⟨by first | omega | exact Nat.le_refl _⟩, ⟨rd_ HO467.out⟩, ⟨bd_ BK469.out⟩, ⟨y151_⟩⟩
    ·
     replace c30 := Bool.eq_false_iff.mpr c30
     subst c30
     have H1 : (some false) = some true := by rw [if_neg (show ¬ (false = true) by decide)] at H; exact H
     clear H
     have H := H1
     clear H1
     exact absurd H (by simp)
  case rest =>
   clear HC6
   try clear c1
   try clear c2
   try clear p2
   try clear c3
   try clear p6
   try clear c9
   try clear c13
   try clear c15
   try clear c16
   try clear c16b0
   try clear c16b1
   try clear c18
   try clear c18b0
   try clear c18b1
   try clear c18b2
   try clear c21
   try clear c23
   try clear c29
   try clear c30
   try clear c31
   obtain ⟨kq, HA, HJ5, HO_470001, BK469, HB⟩ := hcut
   cases kq with
   | zero => exact absurd HA.out (by simp [laws_FnSecrets.j0])
   | succ kj5 =>
    have H := HA.out
    clear HA
    simp only [laws_FnSecrets.j0] at H
    replace H := Option.bind_eq_some_iff.mp H
    obtain ⟨⟨t481, t482⟩, A330, H⟩ := H
    replace H : ((impl_SealOf.f kj5 t481 t482).bind fun t485 => (if t485 = (-1) then (laws_FnSecrets.j1 kj5 l0 false) else ((impl_MarksOf.f t481 t482).bind fun t486 => ((laws_saltOf.f kj5 t481 t482).bind fun t489 => ((impl_SealMarks.f kj5 t486 t489).bind fun t490 => (laws_FnSecrets.j1 kj5 l0 (t485 != t490))))))) = some true := H
    have A33 := Aside0.mk A330
    clear A330
    replace H := Option.bind_eq_some_iff.mp H
    obtain ⟨t485, A340, H⟩ := H
    replace H : (if t485 = (-1) then (laws_FnSecrets.j1 kj5 l0 false) else ((impl_MarksOf.f t481 t482).bind fun t486 => ((laws_saltOf.f kj5 t481 t482).bind fun t489 => ((impl_SealMarks.f kj5 t486 t489).bind fun t490 => (laws_FnSecrets.j1 kj5 l0 (t485 != t490)))))) = some true := H
    have A34 := Aside0.mk A340
    clear A340
    have HC35 := Aside0.mk H
    clear H
    go_upto_region 12 with (first | ((with_reducible refine gate_callee (f := 36) rfl ?_); refine goesL_ (some 65) rfl rfl Try.func36 (by kernel_rfl) rfl #[.slice A0 l0.length c0] rfl ma_ ?_; (with_reducible refine (spec_DrawSealOf.calls kj5 _ _ l0 t481 t482 _ ?side1 ?side2 A33.out).mono ?_); (case side1 => exact cd_ (Kd.C_below HR0.out HB.out)); (case side2 => exact HC0.out); rintro e w36 ⟨v483, rfl, ho0, hb⟩; refine ⟨_, rfl, ?_⟩; have n0_ := Aside0.mk (Kd.R_below (rd_ HO_470001.out) hb); have HO484 := Aside0.mk (Kd.S_lower (Kd.S_newB (Kd.S_new' ho0 (Kd.R_lt (rd_ HO_470001.out))) (g := gb469) (o := .cells #[.int .i64 t464, .slice Ao10 t465.length co10, .int .i64 t468] 36 (0, 0)) (bd_ BK469.out)) (below_size y138_)); have n2_ := Aside0.mk (blk_below (bd_ BK469.out) hb); have n3_ := Aside0.mk (below_step y138_ hb); clear HO_470001; clear BK469; clear HB; have HO_470001 := n0_; have BK469 := n2_; have HB := n3_; clear n0_ n2_ n3_; (try clear hb); (try clear hb2); (try clear hk); (try clear hi); (try clear ho0); obtain ⟨Ao37, co37, eo37⟩ := Kd.S_slice HO484.out; subst eo37) | ((with_reducible refine gate_callee (f := 29) rfl ?_); refine goesL_ (some 70) rfl rfl Try.func29 (by kernel_rfl) rfl #[.slice Ao37 t481.length co37, .int .i64 t482] rfl ma_ ?_; (with_reducible refine (impl_SealOf.calls kj5 _ _ t481 t482 t485 _ ?side1 ?side2 A34.out).mono ?_); (case side1 => exact cd_ (Kd.S_reads' HO484.out).2.2); (case side2 => exact (Kd.S_reads' HO484.out).2.1); rintro e w38 ⟨rfl, hb⟩; refine ⟨_, rfl, ?_⟩; have n0_ := Aside0.mk (Kd.R_below (rd_ HO_470001.out) hb); have n1_ := Aside0.mk (Kd.S_below y155_ hb); have n2_ := Aside0.mk (blk_below (bd_ BK469.out) hb); have n3_ := Aside0.mk (below_step y138_ hb); clear HO_470001; clear HO484; clear BK469; clear HB; have HO_470001 := n0_; have HO484 := n1_; have BK469 := n2_; have HB := n3_; clear n0_ n1_ n2_ n3_; (try clear hb); (try clear hb2); (try clear hk); (try clear hi)))
    (try simp only [Act.put, List.setIfInBounds_toArray, List.set_cons_zero, List.set_cons_succ])
    go_cut [83] (fun v83 wc => ∃ (kq : Nat) (x83_34 : Bool), v83 = .bool x83_34 ∧ Aside0 (laws_FnSecrets.j1 kq l0 x83_34 = some true) ∧ Aside0 (kq ≤ kj5) ∧ Aside0 (Kd.R k67 67 wc w.heap.size (fun _ => True) (.slice Ao10 t465.length co10) t465) ∧ Aside0 (wc.heap[gb469]? = some (.cells #[.int .i64 t464, (.slice Ao10 t465.length co10), .int .i64 t468] 36 (0, 0))) ∧ Aside0 (Below w.heap.size w wc))
    case first =>
     have H := HC35.out
     clear HC35
     by_cases c39 : t485 = (-1)
     ·
      rw [if_pos c39] at H
      have c39b0 : (t485 == (-1)) = true := beq_iff_eq.mpr c39
      have c39b1 : (t485 != (-1)) = false := bne_eq_false_iff_eq.mpr c39
      clear c39
      (first | rw [c39b0] | (simp only [i64_w, i32_w]; rw [c39b0]) | skip)
      have H' := Aside0.mk H
      clear H
      go_wp2
      go_meet
      case rel => exact ⟨_, (false), (by first | rfl | (simp; done) | (simp [*]; done)), H', ⟨by have := HJ5.out; first | omega | exact Nat.le_refl _⟩, ⟨rd_ HO_470001.out⟩, ⟨bd_ BK469.out⟩, ⟨y151_⟩⟩
     ·
      rw [if_neg c39] at H
      have c39b0 : (t485 == (-1)) = false := beq_eq_false_iff_ne.mpr c39
      have c39b1 : (t485 != (-1)) = true := bne_iff_ne.mpr c39
      (first | rw [c39b0] | (simp only [i64_w, i32_w]; rw [c39b0]) | skip)
      replace H := Option.bind_eq_some_iff.mp H
      obtain ⟨t486, A400, H⟩ := H
      replace H : ((laws_saltOf.f kj5 t481 t482).bind fun t489 => ((impl_SealMarks.f kj5 t486 t489).bind fun t490 => (laws_FnSecrets.j1 kj5 l0 (t485 != t490)))) = some true := H
      have A40 := Aside0.mk A400
      clear A400
      replace H := Option.bind_eq_some_iff.mp H
      obtain ⟨t489, A410, H⟩ := H
      replace H : ((impl_SealMarks.f kj5 t486 t489).bind fun t490 => (laws_FnSecrets.j1 kj5 l0 (t485 != t490))) = some true := H
      have A41 := Aside0.mk A410
      clear A410
      replace H := Option.bind_eq_some_iff.mp H
      obtain ⟨t490, A420, H⟩ := H
      replace H : (laws_FnSecrets.j1 kj5 l0 (t485 != t490)) = some true := H
      have A42 := Aside0.mk A420
      clear A420
      have H' := Aside0.mk H
      clear H
      go_wp2_with (first | (go_at_call 23; (with_reducible refine (impl_MarksOf.calls _ _ t481 t482 t486 _ ?side1 ?side2 A40.out).mono ?_); (case side1 => exact cd_ (Kd.S_reads' HO484.out).2.2); (case side2 => exact (Kd.S_reads' HO484.out).2.1); rintro e w43 ⟨v487, rfl, ho0, hb⟩; have n0_ := Aside0.mk (Kd.R_elder' (rd_ HO_470001.out) (Kd.R_base ho0) hb); have n1_ := Aside0.mk (Kd.S_elder' y155_ (Kd.R_base ho0) hb); have HO488 := Aside0.mk (Kd.R_lower (Kd.R_new' ho0 (Kd.R_lt (rd_ HO_470001.out))) (below_size y138_)); have n3_ := Aside0.mk (blk_below (bd_ BK469.out) hb); have n4_ := Aside0.mk (below_step y138_ hb); clear HO_470001; clear HO484; clear BK469; clear HB; have HO_470001 := n0_; have HO484 := n1_; have BK469 := n3_; have HB := n4_; clear n0_ n1_ n3_ n4_; (try clear hb); (try clear hb2); (try clear hk); (try clear hi); (try clear ho0)) | (go_at_call 38; (with_reducible refine (laws_saltOf.calls kj5 _ _ t481 t482 t489 _ ?side1 ?side2 A41.out).mono ?_); (case side1 => exact cd_ (Kd.S_reads' HO484.out).2.2); (case side2 => exact (Kd.S_reads' HO484.out).2.1); rintro e w' ⟨rfl, ⟨nd, rfl⟩⟩; obtain ⟨Ao44, co44, eo44⟩ := Kd.R_slice HO488.out; subst eo44) | (go_at_call 37; (with_reducible refine (impl_SealMarks.calls kj5 _ _ t486 t489 t490 _ ?side1 ?side2 A42.out).mono ?_); (case side1 => exact cd_ (Kd.R_reads' HO488.out).2.2); (case side2 => exact (Kd.R_reads' HO488.out).2.1); rintro e w45 ⟨rfl, hb⟩; have n0_ := Aside0.mk (Kd.R_below (rd_ HO_470001.out) hb); have n1_ := Aside0.mk (Kd.S_below y155_ hb); have n2_ := Aside0.mk (Kd.R_below (rd_ HO488.out) hb); have n3_ := Aside0.mk (blk_below (bd_ BK469.out) hb); have n4_ := Aside0.mk (below_step y138_ hb); clear HO_470001; clear HO484; clear HO488; clear BK469; clear HB; have HO_470001 := n0_; have HO484 := n1_; have HO488 := n2_; have BK469 := n3_; have HB := n4_; clear n0_ n1_ n2_ n3_ n4_; (try clear hb); (try clear hb2); (try clear hk); (try clear hi)))
      go_meet
      case rel => exact ⟨_, ((t485 != t490)), (by first | rfl | (simp; done) | (simp [*]; done)), H', ⟨by have := HJ5.out; first | omega | exact Nat.le_refl _⟩, ⟨by (with_reducible repeat (first | apply Kd.R_alloc | apply Kd.R_drewN | apply Kd.R_drew)); exact Kd.R_mono HO_470001.out (fun _ hk => trivial)⟩, ⟨bd_ BK469.out⟩, ⟨y151_⟩⟩
    case rest =>
     clear HC35
     try clear c1
     try clear c2
     try clear p2
     try clear c3
     try clear p6
     try clear c9
     try clear c13
     try clear c15
     try clear c16
     try clear c16b0
     try clear c16b1
     try clear c18
     try clear c18b0
     try clear c18b1
     try clear c18b2
     try clear c21
     try clear c23
     try clear c29
     try clear c30
     try clear c31
     try clear c34
     try clear c35
     try clear c36
     try clear c39
     try clear c39b0
     try clear c39b1
     try clear p2
     try clear p6
     obtain ⟨kq, x83_34, rfl, HA, HJ34, HO_470001, BK469, HB⟩ := hcut
     cases kq with
     | zero => exact absurd HA.out (by simp [laws_FnSecrets.j1])
     | succ kj34 =>
      have H := HA.out
      clear HA
      simp only [laws_FnSecrets.j1] at H
      by_cases c46 : x83_34 = true
      ·
       subst c46
       have H1 : (some false) = some true := by rw [if_pos rfl] at H; exact H
       clear H
       have H := H1
       clear H1
       exact absurd H (by simp)
      ·
       replace c46 := Bool.eq_false_iff.mpr c46
       subst c46
       have H1 : ((spec_DrawEqualSecrets.f kj34 l0).bind fun bt491 => ((spec_DrawIsSecretOf.f kj34 l0).bind fun bt497 => ((impl_EqualSecrets.f kj34 bt491.1 bt491.2).bind fun t504 => ((impl_EqualSecrets.f kj34 bt491.2 bt491.1).bind fun t505 => (if (t504 == t505) = true then ((impl_IsSecretOf.f kj34 bt497.1 bt497.2.1 bt497.2.2.1 bt497.2.2.2).bind fun t506 => ((impl_OpensSeal.f kj34 bt497.2.1 bt497.2.2.1 bt497.2.2.2).bind fun t507 => (some (t506 == t507)))) else (some false)))))) = some true := by rw [if_neg (show ¬ (false = true) by decide)] at H; exact H
       clear H
       have H := H1
       clear H1
       replace H := Option.bind_eq_some_iff.mp H
       obtain ⟨⟨t491, t492⟩, A470, H⟩ := H
       replace H : ((spec_DrawIsSecretOf.f kj34 l0).bind fun bt497 => ((impl_EqualSecrets.f kj34 t491 t492).bind fun t504 => ((impl_EqualSecrets.f kj34 t492 t491).bind fun t505 => (if (t504 == t505) = true then ((impl_IsSecretOf.f kj34 bt497.1 bt497.2.1 bt497.2.2.1 bt497.2.2.2).bind fun t506 => ((impl_OpensSeal.f kj34 bt497.2.1 bt497.2.2.1 bt497.2.2.2).bind fun t507 => (some (t506 == t507)))) else (some false))))) = some true := H
       have A47 := Aside0.mk A470
       clear A470
       replace H := Option.bind_eq_some_iff.mp H
       obtain ⟨⟨t497, t498, t501, t502⟩, A480, H⟩ := H
       replace H : ((impl_EqualSecrets.f kj34 t491 t492).bind fun t504 => ((impl_EqualSecrets.f kj34 t492 t491).bind fun t505 => (if (t504 == t505) = true then ((impl_IsSecretOf.f kj34 t497 t498 t501 t502).bind fun t506 => ((impl_OpensSeal.f kj34 t498 t501 t502).bind fun t507 => (some (t506 == t507)))) else (some false)))) = some true := H
       have A48 := Aside0.mk A480
       clear A480
       replace H := Option.bind_eq_some_iff.mp H
       obtain ⟨t504, A490, H⟩ := H
       replace H : ((impl_EqualSecrets.f kj34 t492 t491).bind fun t505 => (if (t504 == t505) = true then ((impl_IsSecretOf.f kj34 t497 t498 t501 t502).bind fun t506 => ((impl_OpensSeal.f kj34 t498 t501 t502).bind fun t507 => (some (t506 == t507)))) else (some false))) = some true := H
       have A49 := Aside0.mk A490
       clear A490
       replace H := Option.bind_eq_some_iff.mp H
       obtain ⟨t505, A500, H⟩ := H
       replace H : (if (t504 == t505) = true then ((impl_IsSecretOf.f kj34 t497 t498 t501 t502).bind fun t506 => ((impl_OpensSeal.f kj34 t498 t501 t502).bind fun t507 => (some (t506 == t507)))) else (some false)) = some true := H
       have A50 := Aside0.mk A500
       clear A500
       by_cases c51 : (t504 == t505) = true
       ·
        rw [if_pos c51] at H
        have c51b0 : (t504 == t505) = true := c51
        (try (have c51b1 : decide (t504 = t505) = true := by simpa using c51))
        (try (have c51b2 : (t504 == t505) = true := by simpa using c51))
        clear c51
        replace H := Option.bind_eq_some_iff.mp H
        obtain ⟨t506, A520, H⟩ := H
        replace H : ((impl_OpensSeal.f kj34 t498 t501 t502).bind fun t507 => (some (t506 == t507))) = some true := H
        have A52 := Aside0.mk A520
        clear A520
        replace H := Option.bind_eq_some_iff.mp H
        obtain ⟨t507, A530, H⟩ := H
        replace H : (some (t506 == t507)) = some true := H
        have A53 := Aside0.mk A530
        clear A530
        first | (obtain rfl := Option.some.inj H) | (have Hr_ := Option.some.inj H; clear H)
        try go_wp2_with (first | ((with_reducible refine gate_callee (f := 39) rfl ?_); refine goesL_ (some 86) rfl rfl Try.func39 (by kernel_rfl) rfl #[.slice A0 l0.length c0] rfl ma_ ?_; (with_reducible refine (spec_DrawEqualSecrets.calls kj34 _ _ l0 t491 t492 _ ?side1 ?side2 A47.out).mono ?_); (case side1 => exact cd_ (Kd.C_below HR0.out HB.out)); (case side2 => exact HC0.out); rintro e w54 ⟨v493, v495, rfl, ho0, ho1, hb⟩; refine ⟨_, rfl, ?_⟩; have n0_ := Aside0.mk (Kd.R_below (rd_ HO_470001.out) hb); have HO494 := Aside0.mk (Kd.S_lower (Kd.S_newB (Kd.S_new' ho0 (Kd.R_lt (rd_ HO_470001.out))) (g := gb469) (o := .cells #[.int .i64 t464, .slice Ao10 t465.length co10, .int .i64 t468] 36 (0, 0)) (bd_ BK469.out)) (below_size y138_)); have HO496 := Aside0.mk (Kd.S_lower (Kd.S_newB (Kd.S_new' ho1 (Kd.R_lt (rd_ HO_470001.out))) (g := gb469) (o := .cells #[.int .i64 t464, .slice Ao10 t465.length co10, .int .i64 t468] 36 (0, 0)) (bd_ BK469.out)) (below_size y138_)); have n3_ := Aside0.mk (blk_below (bd_ BK469.out) hb); have n4_ := Aside0.mk (below_step y138_ hb); clear HO_470001; clear BK469; clear HB; have HO_470001 := n0_; have BK469 := n3_; have HB := n4_; clear n0_ n3_ n4_; (try clear hb); (try clear hb2); (try clear hk); (try clear hi); (try clear ho0); (try clear ho1)) | ((with_reducible refine gate_callee (f := 40) rfl ?_); refine goesL_ (some 91) rfl rfl Try.func40 (by kernel_rfl) rfl #[.slice A0 l0.length c0] rfl ma_ ?_; (with_reducible refine (spec_DrawIsSecretOf.calls kj34 _ _ l0 t497 t498 t501 t502 _ ?side1 ?side2 A48.out).mono ?_); (case side1 => exact cd_ (Kd.C_below HR0.out HB.out)); (case side2 => exact HC0.out); rintro e w55 ⟨v499, rfl, ho0, hb⟩; refine ⟨_, rfl, ?_⟩; have n0_ := Aside0.mk (Kd.R_elder' (rd_ HO_470001.out) (Kd.R_base ho0) hb); have n1_ := Aside0.mk (Kd.S_elder' y149_ (Kd.R_base ho0) hb); have n2_ := Aside0.mk (Kd.S_elder' y150_ (Kd.R_base ho0) hb); have HO500 := Aside0.mk (Kd.R_lower (Kd.R_new' ho0 (Kd.R_lt (rd_ HO_470001.out))) (below_size y138_)); have n4_ := Aside0.mk (blk_below (bd_ BK469.out) hb); have n5_ := Aside0.mk (below_step y138_ hb); clear HO_470001; clear HO494; clear HO496; clear BK469; clear HB; have HO_470001 := n0_; have HO494 := n1_; have HO496 := n2_; have BK469 := n4_; have HB := n5_; clear n0_ n1_ n2_ n4_ n5_; (try clear hb); (try clear hb2); (try clear hk); (try clear hi); (try clear ho0)) | ((with_reducible refine gate_dst (N := 12) rfl ?_); (try (refine gate_guard (by rfl) ?_; dsimp only)); refine box_event ?hg (N := 12) ?hd (cs := #[.int .i64 0, .slice none 0 0, .int .i64 0]) (t := 36) ?hr ?_; (case hd => rfl); (case hg => rfl); (case hr => first | (go_simp; done) | (go_simp; rfl)); intro gb503 hg w56 hbox hb; have n0_ := Aside0.mk (Kd.R_below (rd_ HO_470001.out) hb); have n1_ := Aside0.mk (Kd.S_below (Kd.S_elderB y149_ gb503 (Nat.le_of_eq hg.symm)) hb); have n2_ := Aside0.mk (Kd.S_below (Kd.S_elderB y150_ gb503 (Nat.le_of_eq hg.symm)) hb); have n3_ := Aside0.mk (Kd.R_below (rd_ HO500.out) hb); have n4_ := Aside0.mk (blk_below (bd_ BK469.out) hb); have n5_ := Aside0.mk (below_step y138_ hb); have BK503 := Aside0.mk (hbox); have GW503 := Aside0.mk ((by rw [hg]; exact (below_size y138_) : w.heap.size ≤ gb503)); have GE503 := Aside0.mk ((by rw [hg]; exact (below_size y138_) : w.heap.size ≤ gb503)); have NB469_503 := Aside0.mk ((by rw [hg]; exact Nat.ne_of_lt (blk_lt (bd_ BK469.out)) : gb469 ≠ gb503)); have NB503_469 := Aside0.mk ((by rw [hg]; exact Nat.ne_of_gt (blk_lt (bd_ BK469.out)) : gb503 ≠ gb469)); clear HO_470001; clear HO494; clear HO496; clear HO500; clear BK469; clear HB; have HO_470001 := n0_; have HO494 := n1_; have HO496 := n2_; have HO500 := n3_; have BK469 := n4_; have HB := n5_; clear n0_ n1_ n2_ n3_ n4_ n5_; clear hb hbox hg; have hnb57 := NB503_469.out; have hnc57 := NB469_503.out; obtain ⟨hcz58_0, hcz58_1, hcz58_2⟩ := e136_ BK503.out; obtain ⟨hfz58_0, hfz58_1, hfz58_2⟩ := z137_ BK503.out; obtain ⟨Ao59, co59, eo59⟩ := Kd.R_slice HO500.out; subst eo59))
        have n0_ : Aside0 (Kd.R k67 67 (((w56.setCell ⟨gb503, 0, none⟩ (.int .i64 t497)).setCell ⟨gb503, 1, none⟩ (.slice Ao59 t498.length co59)).setCell ⟨gb503, 2, none⟩ (.int .i64 t501)) w.heap.size (fun k_ => some k_ ≠ (.slice Ao59 t498.length co59 : Value).ownBlock) (.slice Ao10 t465.length co10) t465) := ⟨by (with_reducible repeat (first | apply Kd.R_alloc | apply Kd.R_drewN | apply Kd.R_drew)); exact Kd.R_mono (Kd.R_far (p := ⟨gb503, 2, none⟩) (Kd.R_far (p := ⟨gb503, 1, none⟩) (Kd.R_far (p := ⟨gb503, 0, none⟩) (Kd.R_types HO_470001.out BK503.out (by decide)) (fun _ hk => hk.2) (.int .i64 t497)) (fun _ hk => hk.2) (.slice Ao59 t498.length co59)) (fun _ hk => hk.2) (.int .i64 t501)) (fun _ hk => hk.1.2)⟩
        have n1_ : Aside0 (Kd.S k36 36 (((w56.setCell ⟨gb503, 0, none⟩ (.int .i64 t497)).setCell ⟨gb503, 1, none⟩ (.slice Ao59 t498.length co59)).setCell ⟨gb503, 2, none⟩ (.int .i64 t501)) w.heap.size (fun k_ => some k_ ≠ (.slice Ao10 t465.length co10 : Value).ownBlock ∧ some k_ ≠ (v495 : Value).ownBlock ∧ some k_ ≠ (.slice Ao59 t498.length co59 : Value).ownBlock ∧ k_ ≠ gb469 ∧ k_ ≠ gb503) v493 t491) := ⟨by (with_reducible repeat (first | apply Kd.S_alloc | apply Kd.S_drewN | apply Kd.S_drew)); exact Kd.S_mono (Kd.S_far (p := ⟨gb503, 2, none⟩) (Kd.S_far (p := ⟨gb503, 1, none⟩) (Kd.S_far (p := ⟨gb503, 0, none⟩) (Kd.S_mono HO494.out (fun k_ hk => (⟨hk, hk.2⟩ : _ ∧ k_ ≠ gb503))) (fun _ hk => hk.2) (.int .i64 t497)) (fun _ hk => hk.2) (.slice Ao59 t498.length co59)) (fun _ hk => hk.2) (.int .i64 t501)) (fun _ hk => ⟨hk.1.1.1.1.2, ⟨hk.1.1.1.1.1, ⟨hk.1.1.2, ⟨hk.1.1.1.2, hk.1.2⟩⟩⟩⟩)⟩
        have n2_ : Aside0 (Kd.S k36 36 (((w56.setCell ⟨gb503, 0, none⟩ (.int .i64 t497)).setCell ⟨gb503, 1, none⟩ (.slice Ao59 t498.length co59)).setCell ⟨gb503, 2, none⟩ (.int .i64 t501)) w.heap.size (fun k_ => some k_ ≠ (.slice Ao10 t465.length co10 : Value).ownBlock ∧ some k_ ≠ (v493 : Value).ownBlock ∧ some k_ ≠ (.slice Ao59 t498.length co59 : Value).ownBlock ∧ k_ ≠ gb469 ∧ k_ ≠ gb503) v495 t492) := ⟨by (with_reducible repeat (first | apply Kd.S_alloc | apply Kd.S_drewN | apply Kd.S_drew)); exact Kd.S_mono (Kd.S_far (p := ⟨gb503, 2, none⟩) (Kd.S_far (p := ⟨gb503, 1, none⟩) (Kd.S_far (p := ⟨gb503, 0, none⟩) (Kd.S_mono HO496.out (fun k_ hk => (⟨hk, hk.2⟩ : _ ∧ k_ ≠ gb503))) (fun _ hk => hk.2) (.int .i64 t497)) (fun _ hk => hk.2) (.slice Ao59 t498.length co59)) (fun _ hk => hk.2) (.int .i64 t501)) (fun _ hk => ⟨hk.1.1.1.1.2, ⟨hk.1.1.1.1.1, ⟨hk.1.1.2, ⟨hk.1.1.1.2, hk.1.2⟩⟩⟩⟩)⟩
        have n3_ : Aside0 (Kd.R k67 67 (((w56.setCell ⟨gb503, 0, none⟩ (.int .i64 t497)).setCell ⟨gb503, 1, none⟩ (.slice Ao59 t498.length co59)).setCell ⟨gb503, 2, none⟩ (.int .i64 t501)) w.heap.size (fun k_ => some k_ ≠ (.slice Ao10 t465.length co10 : Value).ownBlock) (.slice Ao59 t498.length co59) t498) := ⟨by (with_reducible repeat (first | apply Kd.R_alloc | apply Kd.R_drewN | apply Kd.R_drew)); exact Kd.R_mono (Kd.R_far (p := ⟨gb503, 2, none⟩) (Kd.R_far (p := ⟨gb503, 1, none⟩) (Kd.R_far (p := ⟨gb503, 0, none⟩) (Kd.R_types HO500.out BK503.out (by decide)) (fun _ hk => hk.2) (.int .i64 t497)) (fun _ hk => hk.2) (.slice Ao59 t498.length co59)) (fun _ hk => hk.2) (.int .i64 t501)) (fun _ hk => hk.1.2)⟩
        have n4_ : Aside0 ((((w56.setCell ⟨gb503, 0, none⟩ (.int .i64 t497)).setCell ⟨gb503, 1, none⟩ (.slice Ao59 t498.length co59)).setCell ⟨gb503, 2, none⟩ (.int .i64 t501)).heap[gb469]? = some (.cells #[.int .i64 t464, .slice Ao10 t465.length co10, .int .i64 t468] 36 (0, 0))) := ⟨by (with_reducible repeat (first | refine blk_drewN ?_ _ | refine blk_drew ?_ | refine blk_alloc ?_ _)); refine blk_far ?_ NB469_503.out _; (with_reducible repeat (first | refine blk_drewN ?_ _ | refine blk_drew ?_ | refine blk_alloc ?_ _)); refine blk_far ?_ NB469_503.out _; (with_reducible repeat (first | refine blk_drewN ?_ _ | refine blk_drew ?_ | refine blk_alloc ?_ _)); refine blk_far ?_ NB469_503.out _; (with_reducible repeat (first | refine blk_drewN ?_ _ | refine blk_drew ?_ | refine blk_alloc ?_ _)); exact BK469.out⟩
        have n5_ : Aside0 ((((w56.setCell ⟨gb503, 0, none⟩ (.int .i64 t497)).setCell ⟨gb503, 1, none⟩ (.slice Ao59 t498.length co59)).setCell ⟨gb503, 2, none⟩ (.int .i64 t501)).heap[gb503]? = some (.cells #[.int .i64 t497, .slice Ao59 t498.length co59, .int .i64 t501] 36 (0, 0))) := ⟨by (with_reducible repeat (first | refine blk_drewN ?_ _ | refine blk_drew ?_ | refine blk_alloc ?_ _)); refine blk_put (cs := #[.int .i64 t497, .slice Ao59 t498.length co59, .int .i64 0]) ?_ 2 _ rfl; (with_reducible repeat (first | refine blk_drewN ?_ _ | refine blk_drew ?_ | refine blk_alloc ?_ _)); refine blk_put (cs := #[.int .i64 t497, .slice none 0 0, .int .i64 0]) ?_ 1 _ rfl; (with_reducible repeat (first | refine blk_drewN ?_ _ | refine blk_drew ?_ | refine blk_alloc ?_ _)); refine blk_put (cs := #[.int .i64 0, .slice none 0 0, .int .i64 0]) ?_ 0 _ rfl; (with_reducible repeat (first | refine blk_drewN ?_ _ | refine blk_drew ?_ | refine blk_alloc ?_ _)); exact BK503.out⟩
        have n6_ : Aside0 (Below w.heap.size w (((w56.setCell ⟨gb503, 0, none⟩ (.int .i64 t497)).setCell ⟨gb503, 1, none⟩ (.slice Ao59 t498.length co59)).setCell ⟨gb503, 2, none⟩ (.int .i64 t501))) := ⟨by repeat (first | (with_reducible first | exact HB.out | apply below_alloc | apply pw_below_drewN | apply below_drew1 | refine below_set ?_ GE469.out | refine below_set ?_ GE503.out) | exact HB.out)⟩
        (try clear HO_470001)
        (try clear HO494)
        (try clear HO496)
        (try clear HO500)
        (try clear BK469)
        (try clear BK503)
        (try clear HB)
        generalize (((w56.setCell ⟨gb503, 0, none⟩ (.int .i64 t497)).setCell ⟨gb503, 1, none⟩ (.slice Ao59 t498.length co59)).setCell ⟨gb503, 2, none⟩ (.int .i64 t501)) = w60 at n0_ n1_ n2_ n3_ n4_ n5_ n6_ ⊢
        have HO_470001 := n0_
        have HO494 := n1_
        have HO496 := n2_
        have HO500 := n3_
        have BK469 := n4_
        have BK503 := n5_
        have HB := n6_
        clear n0_ n1_ n2_ n3_ n4_ n5_ n6_
        have n0_ := Aside0.mk (Kd.R_drew HO_470001.out)
        have n1_ := Aside0.mk (Kd.S_drew HO494.out)
        have n2_ := Aside0.mk (Kd.S_drew HO496.out)
        have n3_ := Aside0.mk (Kd.R_drew HO500.out)
        have n4_ := Aside0.mk (blk_drew BK469.out)
        have n5_ := Aside0.mk (blk_drew BK503.out)
        have n6_ := Aside0.mk (below_drew1 HB.out)
        clear HO_470001
        clear HO494
        clear HO496
        clear HO500
        clear BK469
        clear BK503
        clear HB
        have HO_470001 := n0_
        have HO494 := n1_
        have HO496 := n2_
        have HO500 := n3_
        have BK469 := n4_
        have BK503 := n5_
        have HB := n6_
        clear n0_ n1_ n2_ n3_ n4_ n5_ n6_
        obtain ⟨Ao62, co62, eo62⟩ := Kd.S_slice HO494.out
        (first | subst eo62 | (injection eo62 with f1_ f2_ f3_; have f4_ := f1_.symm; have f5_ := f3_.symm; clear f1_ f2_ f3_; subst f4_; subst f5_))
        obtain ⟨Ao63, co63, eo63⟩ := Kd.S_slice HO496.out
        (first | subst eo63 | (injection eo63 with f1_ f2_ f3_; have f4_ := f1_.symm; have f5_ := f3_.symm; clear f1_ f2_ f3_; subst f4_; subst f5_))
        refine start_ (n := 20) (S := fun w' => q2e_ w' gb503 t497 Ao59 t498.length co59 t501) (ds := []) M6_32 (by kernel_rfl) rfl rfl (k2e_ BK503.out) (fun hHeld => ?_); refine with_tabW laws_FnSecrets.tab16 laws_FnSecrets.bits16 (fun HT_ HW_ => ?_)
        generalize w60.drew = w61 at HO_470001 HO494 HO496 HO500 BK469 BK503 HB hHeld ⊢
        refine pu_ 0 (some 94) M6_33 HT_ ?_
        refine pu_ 1 (some 95) M6_34 HT_ ?_
        refine pu_ 3 (some 97) M6_35 HT_ ?_
        refine pu_ 4 (some 98) M6_36 HT_ ?_
        refine one_ (i := 2) (N := some 96) M6_37 rfl rfl (one_of HT_.out (by kernel_rfl)) (by decide) (fun K hK => ?_)
        refine goes_ Try.func21 (by kernel_rfl) rfl #[.slice Ao62 t491.length co62, .slice Ao63 t492.length co63] (by rfl) rfl rfl ma_ ?_
        with_reducible refine (impl_EqualSecrets.calls kj34 _ _ t491 _ _ t492 t504 _ ?side1 ?side2 ?side3 ?side4 A49.out).mono ?_
        (case side1 => exact cd_ (Kd.S_reads' HO494.out).2.2)
        (case side2 => exact (Kd.S_reads' HO494.out).2.1)
        (case side3 => exact cd_ (Kd.S_reads' HO496.out).2.2)
        (case side4 => exact (Kd.S_reads' HO496.out).2.1)
        rintro e w64 ⟨rfl, hb⟩
        refine ⟨_, rfl, ?_⟩
        have n0_ := Aside0.mk (Kd.R_below (rd_ HO_470001.out) hb)
        have n1_ := Aside0.mk (Kd.S_below y149_ hb)
        have n2_ := Aside0.mk (Kd.S_below y150_ hb)
        have n3_ := Aside0.mk (Kd.R_below (rd_ HO500.out) hb)
        have n4_ := Aside0.mk (blk_below (bd_ BK469.out) hb)
        have n5_ := Aside0.mk (blk_below (bd_ BK503.out) hb)
        have n6_ := Aside0.mk (below_step y147_ hb)
        clear HO_470001
        clear HO494
        clear HO496
        clear HO500
        clear BK469
        clear BK503
        clear HB
        have HO_470001 := n0_
        have HO494 := n1_
        have HO496 := n2_
        have HO500 := n3_
        have BK469 := n4_
        have BK503 := n5_
        have HB := n6_
        clear n0_ n1_ n2_ n3_ n4_ n5_ n6_
        (try clear hb)
        (try clear hb2)
        (try clear hk)
        (try clear hi)
        refine hK.out _ _ (k2e_ BK503.out) (fun hHeld => ?_)
        clear hK K
        refine norm_ (a' := ?_) ?_ ?_
        rotate_left
        ·
         show Act.put _ (some 96) _ = _
         simp only [Act.put, P6_1, P6_2, P6_3, i64_w, i32_w]
         rfl
        refine one_ (i := 5) (N := some 99) M6_38 rfl rfl (one_of HT_.out (by kernel_rfl)) (by decide) (fun K hK => ?_)
        refine goes_ Try.func21 (by kernel_rfl) rfl #[.slice Ao63 t492.length co63, .slice Ao62 t491.length co62] (by rfl) rfl rfl ma_ ?_
        with_reducible refine (impl_EqualSecrets.calls kj34 _ _ t492 _ _ t491 t505 _ ?side1 ?side2 ?side3 ?side4 A50.out).mono ?_
        (case side1 => exact cd_ (Kd.S_reads' HO496.out).2.2)
        (case side2 => exact (Kd.S_reads' HO496.out).2.1)
        (case side3 => exact cd_ (Kd.S_reads' HO494.out).2.2)
        (case side4 => exact (Kd.S_reads' HO494.out).2.1)
        rintro e w65 ⟨rfl, hb⟩
        refine ⟨_, rfl, ?_⟩
        have n0_ := Aside0.mk (Kd.R_below (rd_ HO_470001.out) hb)
        have n1_ := Aside0.mk (Kd.S_below y149_ hb)
        have n2_ := Aside0.mk (Kd.S_below y150_ hb)
        have n3_ := Aside0.mk (Kd.R_below (rd_ HO500.out) hb)
        have n4_ := Aside0.mk (blk_below (bd_ BK469.out) hb)
        have n5_ := Aside0.mk (blk_below (bd_ BK503.out) hb)
        have n6_ := Aside0.mk (below_step y147_ hb)
        clear HO_470001
        clear HO494
        clear HO496
        clear HO500
        clear BK469
        clear BK503
        clear HB
        have HO_470001 := n0_
        have HO494 := n1_
        have HO496 := n2_
        have HO500 := n3_
        have BK469 := n4_
        have BK503 := n5_
        have HB := n6_
        clear n0_ n1_ n2_ n3_ n4_ n5_ n6_
        (try clear hb)
        (try clear hb2)
        (try clear hk)
        (try clear hi)
        refine hK.out _ _ (k2e_ BK503.out) (fun hHeld => ?_)
        clear hK K
        refine norm_ (a' := ?_) ?_ ?_
        rotate_left
        ·
         show Act.put _ (some 99) _ = _
         simp only [Act.put, P6_1, P6_2, P6_3, i64_w, i32_w]
         rfl
        refine pu_ 6 (some 100) M6_39 HT_ ?_
        refine pu_ 7 (some 101) M6_40 HT_ ?_
        refine pu_ 9 (some 103) M6_41 HT_ ?_
        refine pu_ 11 (some 105) M6_42 HT_ ?_
        refine pu_ 13 (some 107) M6_43 HT_ ?_
        refine pu_ 15 (some 109) M6_44 HT_ ?_
        refine tk_ 8 (some 102) M6_45 HT_ HW_ hHeld ?_
        refine tk_ 12 (some 106) M6_46 HT_ HW_ hHeld ?_
        refine tk_ 14 (some 108) M6_47 HT_ HW_ hHeld ?_
        refine one_ (i := 10) (N := some 104) M6_48 rfl rfl (one_of HT_.out (by kernel_rfl)) (by decide) (fun K hK => ?_)
        refine goes_ Try.func18 (by kernel_rfl) rfl #[.agg #[.int .i64 t497, .slice Ao59 t498.length co59, .int .i64 t501], .int .i64 t502] (by rfl) rfl rfl ma_ ?_
        with_reducible refine (impl_IsSecretOf.calls kj34 t497 _ _ t498 t501 t502 t506 _ ?side1 ?side2 A52.out).mono ?_
        (case side1 => exact cd_ (Kd.R_reads' HO500.out).2.2)
        (case side2 => exact (Kd.R_reads' HO500.out).2.1)
        rintro e w66 ⟨rfl, hb⟩
        refine ⟨_, rfl, ?_⟩
        have n0_ := Aside0.mk (Kd.R_below (rd_ HO_470001.out) hb)
        have n1_ := Aside0.mk (Kd.S_below y149_ hb)
        have n2_ := Aside0.mk (Kd.S_below y150_ hb)
        have n3_ := Aside0.mk (Kd.R_below (rd_ HO500.out) hb)
        have n4_ := Aside0.mk (blk_below (bd_ BK469.out) hb)
        have n5_ := Aside0.mk (blk_below (bd_ BK503.out) hb)
        have n6_ := Aside0.mk (below_step y147_ hb)
        clear HO_470001
        clear HO494
        clear HO496
        clear HO500
        clear BK469
        clear BK503
        clear HB
        have HO_470001 := n0_
        have HO494 := n1_
        have HO496 := n2_
        have HO500 := n3_
        have BK469 := n4_
        have BK503 := n5_
        have HB := n6_
        clear n0_ n1_ n2_ n3_ n4_ n5_ n6_
        (try clear hb)
        (try clear hb2)
        (try clear hk)
        (try clear hi)
        refine hK.out _ _ (k2e_ BK503.out) (fun hHeld => ?_)
        clear hK K
        refine norm_ (a' := ?_) ?_ ?_
        rotate_left
        ·
         show Act.put _ (some 104) _ = _
         simp only [Act.put, P6_1, P6_2, P6_3, i64_w, i32_w]
         rfl
        refine one_ (i := 16) (N := some 110) M6_49 rfl rfl (one_of HT_.out (by kernel_rfl)) (by decide) (fun K hK => ?_)
        refine goes_ Try.func41 (by kernel_rfl) rfl #[.slice Ao59 t498.length co59, .int .i64 t501, .int .i64 t502] (by rfl) rfl rfl ma_ ?_
        with_reducible refine (impl_OpensSeal.calls kj34 _ _ t498 t501 t502 t507 _ ?side1 ?side2 A53.out).mono ?_
        (case side1 => exact cd_ (Kd.R_reads' HO500.out).2.2)
        (case side2 => exact (Kd.R_reads' HO500.out).2.1)
        rintro e w67 ⟨rfl, hb⟩
        refine ⟨_, rfl, ?_⟩
        have n0_ := Aside0.mk (Kd.R_below (rd_ HO_470001.out) hb)
        have n1_ := Aside0.mk (Kd.S_below y149_ hb)
        have n2_ := Aside0.mk (Kd.S_below y150_ hb)
        have n3_ := Aside0.mk (Kd.R_below (rd_ HO500.out) hb)
        have n4_ := Aside0.mk (blk_below (bd_ BK469.out) hb)
        have n5_ := Aside0.mk (blk_below (bd_ BK503.out) hb)
        have n6_ := Aside0.mk (below_step y147_ hb)
        clear HO_470001
        clear HO494
        clear HO496
        clear HO500
        clear BK469
        clear BK503
        clear HB
        have HO_470001 := n0_
        have HO494 := n1_
        have HO496 := n2_
        have HO500 := n3_
        have BK469 := n4_
        have BK503 := n5_
        have HB := n6_
        clear n0_ n1_ n2_ n3_ n4_ n5_ n6_
        (try clear hb)
        (try clear hb2)
        (try clear hk)
        (try clear hi)
        refine hK.out _ _ (k2e_ BK503.out) (fun hHeld => ?_)
        clear hK K
        refine norm_ (a' := ?_) ?_ ?_
        rotate_left
        ·
         show Act.put _ (some 110) _ = _
         simp only [Act.put, P6_1, P6_2, P6_3, i64_w, i32_w]
         rfl
        refine pu_ 17 (some 111) M6_50 HT_ ?_
        refine pu_ 18 (some 112) M6_51 HT_ ?_
        refine pu_ 19 (some 2) M6_52 HT_ ?_
        refine done_ (done_of HT_.out (by kernel_rfl)) ?_
        try go_wp2
        go_ret
        exact ⟨by first | rfl | (simp [errW_none, errW_some] <;> rfl) | (simp [*, errW_none, errW_some] <;> rfl), by repeat (first | (with_reducible first | exact HB.out | apply below_alloc | apply pw_below_drewN | apply below_drew1 | refine below_set ?_ GE469.out | refine below_set ?_ GE503.out) | exact HB.out)⟩
       ·
        rw [if_neg c51] at H
        have c51b0 : (t504 == t505) = false := by simpa using c51
        (try (have c51b1 : decide (t504 = t505) = false := by simpa using c51))
        (try (have c51b2 : (t504 == t505) = false := by simpa using c51))
        (try (have c51b3 : ¬ (t504 = t505) := by simpa using c51))
        clear c51
        exact absurd H (by simp)

end Go.Proofs.Ytfghapankndioaa.PFnSecrets
