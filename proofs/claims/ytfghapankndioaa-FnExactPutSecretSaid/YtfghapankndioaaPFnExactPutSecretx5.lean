-- Written for this claim by a program (a printer turned to this claim); Lean checks it.
import Derived.Test.YtfghapankndioaaPFnExactPutSecretx0
import Derived.Test.YtfghapankndioaaPFnExactPutSecretx3
import Derived.Test.YtfghapankndioaaPFnExactPutSecretx4
namespace Go.Proofs.Ytfghapankndioaa.PFnExactPutSecret
open Go.RowKit Go.Proofs.YtfghapankndioaaW.PrintWords Go.Proofs.YtfghapankndioaaW.PrintLast Go.Proofs.YtfghapankndioaaW.PrintMore
attribute [local go_sem] max2_int min2_int max_two min_two max_three min_three max_four min_four   -- for this text's walks alone
set_option linter.unusedVariables false
set_option linter.unusedSimpArgs false

/-! ### spec_AreSecrets: function 11 -/
def spec_AreSecrets.l0 : Nat → List (S36) → Int → Option (Bool)
 | 0, _, _ => none
 | k + 1, x0, x3 => if x3 < (x0.length : Int) then (if 0 ≤ x3 then ((spec_l1In.f ((rd_T36 x0 x3).f0) 1 999).bind fun t151 => (if t151 = true then ((spec_AreMarks.f k ((rd_T36 x0 x3).f1)).bind fun t153 => (if t153 = true then (if (((rd_T36 x0 x3).f1).length : Int) = 0 then (some false) else ((spec_l1In.f ((rd_T36 x0 x3).f2) 0 1000000).bind fun t156 => (if t156 = true then (if x3 > 0 then (if 0 ≤ (wrap64 (x3 - 1)) then (if (wrap64 (x3 - 1)) < (x0.length : Int) then (if ((rd_T36 x0 (wrap64 (x3 - 1))).f0) ≥ ((rd_T36 x0 x3).f0) then (some false) else (spec_AreSecrets.l0 k x0 (wrap64 (x3 + 1)))) else (none)) else (none)) else (spec_AreSecrets.l0 k x0 (wrap64 (x3 + 1)))) else (some false)))) else (some false))) else (some false))) else (none)) else (some (decide ((x0.length : Int) ≤ 20)))
def spec_AreSecrets.f (k : Nat) (l0 : List (S36)) : Option (Bool) := spec_AreSecrets.l0 k l0 0
theorem spec_AreSecrets.mono_l : ∀ k, (∀ y0 y1, LeO (spec_AreSecrets.l0 k y0 y1) (spec_AreSecrets.l0 (k + 1) y0 y1))
 | 0 => fun _ _ r h => by simp [spec_AreSecrets.l0] at h
 | k + 1 => by
  have ih0 := spec_AreSecrets.mono_l k
  ·
   intro y0 y1
   unfold spec_AreSecrets.l0
   repeat' first
   | (with_reducible exact ih0 _ _)
   | (with_reducible exact spec_AreMarks.mono _ _)
   | (with_reducible exact LeO.refl _)
   | (with_reducible exact LeO.none _)
   | (with_reducible refine LeO.ite ?_ ?_)
   | (with_reducible refine LeO.bind ?_ (fun _ => ?_))
   | exact ih0 _ _
   | exact spec_AreMarks.mono _ _
   | exact LeO.none _
   | refine LeO.ite ?_ ?_
   | refine LeO.bind ?_ (fun _ => ?_)
theorem spec_AreSecrets.mono : ∀ a0 k, LeO (spec_AreSecrets.f k a0) (spec_AreSecrets.f (k + 1) a0) := by
 intro a0 k
 have ih0 := spec_AreSecrets.mono_l k
 unfold spec_AreSecrets.f
 repeat' first
   | (with_reducible exact ih0 _ _)
   | (with_reducible exact spec_AreMarks.mono _ _)
   | (with_reducible exact LeO.refl _)
   | (with_reducible exact LeO.none _)
   | (with_reducible refine LeO.ite ?_ ?_)
   | (with_reducible refine LeO.bind ?_ (fun _ => ?_))
   | exact ih0 _ _
   | exact spec_AreMarks.mono _ _
   | exact LeO.none _
   | refine LeO.ite ?_ ?_
   | refine LeO.bind ?_ (fun _ => ?_)
def spec_AreSecrets.T4 : Bool × List (List Nat × List Nat) := (true, [([], []), ([], []), ([0, 1], [0, 1]), ([2], [2]), ([3], [3]), ([4], [4]), ([5], [5]), ([6, 5], [6]), ([7], [7]), ([7], [7]), ([8, 9, 7], [7, 8, 9]), ([10, 7], [7, 10]), ([11, 7], [7, 11]), ([12, 7, 7], [7, 12]), ([13, 7], [7, 13]), ([7, 14], [7, 14]), ([15, 13], [15]), ([16], [16]), ([16], [16]), ([17, 18, 16], [16, 17, 18]), ([19, 16], [16, 19]), ([20, 16], [16, 20]), ([21, 16], [16, 21]), ([22, 16], [16, 22]), ([16, 23], [16, 23]), ([24, 16], [24]), ([25], [25]), ([25], [25]), ([26, 27, 25], [25, 26, 27]), ([28, 25], [25, 28]), ([29, 25], [25, 29]), ([30, 25, 25], [25, 30]), ([31, 25], [25, 31]), ([25, 32], [25, 32]), ([33, 31], [33]), ([34], [34]), ([35, 34], [34, 35]), ([36, 34, 34], [34, 36]), ([37], [37]), ([37], [37]), ([39, 37], [37, 39]), ([38, 40, 37], [37, 38, 40]), ([41, 37], [37, 41]), ([42, 37], [37, 42]), ([37], [37]), ([37], [37]), ([44, 45, 37], [37, 44, 45]), ([46, 37], [37, 46]), ([47, 37], [37, 47]), ([43, 48, 37], [37, 43, 48]), ([37, 49, 34], [34, 37, 49]), ([34, 50], [34, 50])])
def spec_AreSecrets.B4 : List Nat := [0, 0, 3, 7, 15, 31, 63, 127, 255, 255, 1023, 2047, 4095, 8191, 16383, 32767, 65535, 131071, 131071, 524287, 1048575, 2097151, 4194303, 8388607, 16777215, 33554431, 67108863, 67108863, 268435455, 536870911, 1073741823, 2147483647, 4294967295, 8589934591, 17179869183, 34359738367, 68719476735, 137438953471, 274877906943, 274877906943, 824633720831, 2199023255551, 4398046511103, 8796093022207, 274877906943, 274877906943, 53051436040191, 123420180217855, 264157668573183, 562949953421311, 1125899906842623, 2251799813685247]
theorem spec_AreSecrets.tab4 : rtab .any (opsOf Try.f11 4) = spec_AreSecrets.T4 := by kernel_rfl
theorem spec_AreSecrets.bits4 : waitsOk spec_AreSecrets.T4.2 spec_AreSecrets.B4 = true := by kernel_rfl
abbrev M3_0 : Array Bool := #[false, false, false, false, false, false, false, false, false, false, false, false, false, false, false, false, false, false, false, false, false, false, false, false, false, false, false, false, false, false, false, false, false, false, false, false, false, false, false, false, false, false, false, false, false, false, false, false, false, false, false, false]
abbrev M3_1 : Array Bool := #[true, false, false, false, false, false, false, false, false, false, false, false, false, false, false, false, false, false, false, false, false, false, false, false, false, false, false, false, false, false, false, false, false, false, false, false, false, false, false, false, false, false, false, false, false, false, false, false, false, false, false, false]
abbrev M3_2 : Array Bool := #[true, true, false, false, false, false, false, false, false, false, false, false, false, false, false, false, false, false, false, false, false, false, false, false, false, false, false, false, false, false, false, false, false, false, false, false, false, false, false, false, false, false, false, false, false, false, false, false, false, false, false, false]
abbrev M3_3 : Array Bool := #[true, true, true, false, false, false, false, false, false, false, false, false, false, false, false, false, false, false, false, false, false, false, false, false, false, false, false, false, false, false, false, false, false, false, false, false, false, false, false, false, false, false, false, false, false, false, false, false, false, false, false, false]
abbrev M3_4 : Array Bool := #[true, true, true, true, false, false, false, false, false, false, false, false, false, false, false, false, false, false, false, false, false, false, false, false, false, false, false, false, false, false, false, false, false, false, false, false, false, false, false, false, false, false, false, false, false, false, false, false, false, false, false, false]
abbrev M3_5 : Array Bool := #[true, true, true, true, true, false, false, false, false, false, false, false, false, false, false, false, false, false, false, false, false, false, false, false, false, false, false, false, false, false, false, false, false, false, false, false, false, false, false, false, false, false, false, false, false, false, false, false, false, false, false, false]
abbrev M3_6 : Array Bool := #[true, true, true, true, true, true, false, false, false, false, false, false, false, false, false, false, false, false, false, false, false, false, false, false, false, false, false, false, false, false, false, false, false, false, false, false, false, false, false, false, false, false, false, false, false, false, false, false, false, false, false, false]
abbrev M3_7 : Array Bool := #[true, true, true, true, true, true, true, false, false, false, false, false, false, false, false, false, false, false, false, false, false, false, false, false, false, false, false, false, false, false, false, false, false, false, false, false, false, false, false, false, false, false, false, false, false, false, false, false, false, false, false, false]
abbrev M3_8 : Array Bool := #[true, true, true, true, true, true, true, true, false, false, false, false, false, false, false, false, false, false, false, false, false, false, false, false, false, false, false, false, false, false, false, false, false, false, false, false, false, false, false, false, false, false, false, false, false, false, false, false, false, false, false, false]
abbrev M3_9 : Array Bool := #[true, true, true, true, true, true, true, true, true, false, false, false, false, false, false, false, false, false, false, false, false, false, false, false, false, false, false, false, false, false, false, false, false, false, false, false, false, false, false, false, false, false, false, false, false, false, false, false, false, false, false, false]
abbrev M3_10 : Array Bool := #[true, true, true, true, true, true, true, true, true, true, false, false, false, false, false, false, false, false, false, false, false, false, false, false, false, false, false, false, false, false, false, false, false, false, false, false, false, false, false, false, false, false, false, false, false, false, false, false, false, false, false, false]
abbrev M3_11 : Array Bool := #[true, true, true, true, true, true, true, true, true, true, true, false, false, false, false, false, false, false, false, false, false, false, false, false, false, false, false, false, false, false, false, false, false, false, false, false, false, false, false, false, false, false, false, false, false, false, false, false, false, false, false, false]
abbrev M3_12 : Array Bool := #[true, true, true, true, true, true, true, true, true, true, true, true, false, false, false, false, false, false, false, false, false, false, false, false, false, false, false, false, false, false, false, false, false, false, false, false, false, false, false, false, false, false, false, false, false, false, false, false, false, false, false, false]
abbrev M3_13 : Array Bool := #[true, true, true, true, true, true, true, true, true, true, true, true, true, false, false, false, false, false, false, false, false, false, false, false, false, false, false, false, false, false, false, false, false, false, false, false, false, false, false, false, false, false, false, false, false, false, false, false, false, false, false, false]
abbrev M3_14 : Array Bool := #[true, true, true, true, true, true, true, true, true, true, true, true, true, true, false, false, false, false, false, false, false, false, false, false, false, false, false, false, false, false, false, false, false, false, false, false, false, false, false, false, false, false, false, false, false, false, false, false, false, false, false, false]
abbrev M3_15 : Array Bool := #[true, true, true, true, true, true, true, true, true, true, true, true, true, true, true, false, false, false, false, false, false, false, false, false, false, false, false, false, false, false, false, false, false, false, false, false, false, false, false, false, false, false, false, false, false, false, false, false, false, false, false, false]
abbrev M3_16 : Array Bool := #[true, true, true, true, true, true, true, true, true, true, true, true, true, true, true, true, false, false, false, false, false, false, false, false, false, false, false, false, false, false, false, false, false, false, false, false, false, false, false, false, false, false, false, false, false, false, false, false, false, false, false, false]
abbrev M3_17 : Array Bool := #[true, true, true, true, true, true, true, true, true, true, true, true, true, true, true, true, true, false, false, false, false, false, false, false, false, false, false, false, false, false, false, false, false, false, false, false, false, false, false, false, false, false, false, false, false, false, false, false, false, false, false, false]
abbrev M3_18 : Array Bool := #[true, true, true, true, true, true, true, true, true, true, true, true, true, true, true, true, true, true, false, false, false, false, false, false, false, false, false, false, false, false, false, false, false, false, false, false, false, false, false, false, false, false, false, false, false, false, false, false, false, false, false, false]
abbrev M3_19 : Array Bool := #[true, true, true, true, true, true, true, true, true, true, true, true, true, true, true, true, true, true, true, false, false, false, false, false, false, false, false, false, false, false, false, false, false, false, false, false, false, false, false, false, false, false, false, false, false, false, false, false, false, false, false, false]
abbrev M3_20 : Array Bool := #[true, true, true, true, true, true, true, true, true, true, true, true, true, true, true, true, true, true, true, true, false, false, false, false, false, false, false, false, false, false, false, false, false, false, false, false, false, false, false, false, false, false, false, false, false, false, false, false, false, false, false, false]
abbrev M3_21 : Array Bool := #[true, true, true, true, true, true, true, true, true, true, true, true, true, true, true, true, true, true, true, true, true, false, false, false, false, false, false, false, false, false, false, false, false, false, false, false, false, false, false, false, false, false, false, false, false, false, false, false, false, false, false, false]
abbrev M3_22 : Array Bool := #[true, true, true, true, true, true, true, true, true, true, true, true, true, true, true, true, true, true, true, true, true, true, false, false, false, false, false, false, false, false, false, false, false, false, false, false, false, false, false, false, false, false, false, false, false, false, false, false, false, false, false, false]
abbrev M3_23 : Array Bool := #[true, true, true, true, true, true, true, true, true, true, true, true, true, true, true, true, true, true, true, true, true, true, true, false, false, false, false, false, false, false, false, false, false, false, false, false, false, false, false, false, false, false, false, false, false, false, false, false, false, false, false, false]
abbrev M3_24 : Array Bool := #[true, true, true, true, true, true, true, true, true, true, true, true, true, true, true, true, true, true, true, true, true, true, true, true, false, false, false, false, false, false, false, false, false, false, false, false, false, false, false, false, false, false, false, false, false, false, false, false, false, false, false, false]
abbrev M3_25 : Array Bool := #[true, true, true, true, true, true, true, true, true, true, true, true, true, true, true, true, true, true, true, true, true, true, true, true, true, false, false, false, false, false, false, false, false, false, false, false, false, false, false, false, false, false, false, false, false, false, false, false, false, false, false, false]
abbrev M3_26 : Array Bool := #[true, true, true, true, true, true, true, true, true, true, true, true, true, true, true, true, true, true, true, true, true, true, true, true, true, true, false, false, false, false, false, false, false, false, false, false, false, false, false, false, false, false, false, false, false, false, false, false, false, false, false, false]
abbrev M3_27 : Array Bool := #[true, true, true, true, true, true, true, true, true, true, true, true, true, true, true, true, true, true, true, true, true, true, true, true, true, true, true, false, false, false, false, false, false, false, false, false, false, false, false, false, false, false, false, false, false, false, false, false, false, false, false, false]
abbrev M3_28 : Array Bool := #[true, true, true, true, true, true, true, true, true, true, true, true, true, true, true, true, true, true, true, true, true, true, true, true, true, true, true, true, false, false, false, false, false, false, false, false, false, false, false, false, false, false, false, false, false, false, false, false, false, false, false, false]
abbrev M3_29 : Array Bool := #[true, true, true, true, true, true, true, true, true, true, true, true, true, true, true, true, true, true, true, true, true, true, true, true, true, true, true, true, true, false, false, false, false, false, false, false, false, false, false, false, false, false, false, false, false, false, false, false, false, false, false, false]
abbrev M3_30 : Array Bool := #[true, true, true, true, true, true, true, true, true, true, true, true, true, true, true, true, true, true, true, true, true, true, true, true, true, true, true, true, true, true, false, false, false, false, false, false, false, false, false, false, false, false, false, false, false, false, false, false, false, false, false, false]
abbrev M3_31 : Array Bool := #[true, true, true, true, true, true, true, true, true, true, true, true, true, true, true, true, true, true, true, true, true, true, true, true, true, true, true, true, true, true, true, false, false, false, false, false, false, false, false, false, false, false, false, false, false, false, false, false, false, false, false, false]
abbrev M3_32 : Array Bool := #[true, true, true, true, true, true, true, true, true, true, true, true, true, true, true, true, true, true, true, true, true, true, true, true, true, true, true, true, true, true, true, true, false, false, false, false, false, false, false, false, false, false, false, false, false, false, false, false, false, false, false, false]
abbrev M3_33 : Array Bool := #[true, true, true, true, true, true, true, true, true, true, true, true, true, true, true, true, true, true, true, true, true, true, true, true, true, true, true, true, true, true, true, true, true, false, false, false, false, false, false, false, false, false, false, false, false, false, false, false, false, false, false, false]
abbrev M3_34 : Array Bool := #[true, true, true, true, true, true, true, true, true, true, true, true, true, true, true, true, true, true, true, true, true, true, true, true, true, true, true, true, true, true, true, true, true, true, false, false, false, false, false, false, false, false, false, false, false, false, false, false, false, false, false, false]
abbrev M3_35 : Array Bool := #[true, true, true, true, true, true, true, true, true, true, true, true, true, true, true, true, true, true, true, true, true, true, true, true, true, true, true, true, true, true, true, true, true, true, true, false, false, false, false, false, false, false, false, false, false, false, false, false, false, false, false, false]
abbrev M3_36 : Array Bool := #[true, true, true, true, true, true, true, true, true, true, true, true, true, true, true, true, true, true, true, true, true, true, true, true, true, true, true, true, true, true, true, true, true, true, true, true, false, false, false, false, false, false, false, false, false, false, false, false, false, false, false, false]
abbrev M3_37 : Array Bool := #[true, true, true, true, true, true, true, true, true, true, true, true, true, true, true, true, true, true, true, true, true, true, true, true, true, true, true, true, true, true, true, true, true, true, true, true, true, false, false, false, false, false, false, false, false, false, false, false, false, false, false, false]
abbrev M3_38 : Array Bool := #[true, true, true, true, true, true, true, true, true, true, true, true, true, true, true, true, true, true, true, true, true, true, true, true, true, true, true, true, true, true, true, true, true, true, true, true, true, true, false, false, false, false, false, false, false, false, false, false, false, false, false, false]
abbrev M3_39 : Array Bool := #[true, true, true, true, true, true, true, true, true, true, true, true, true, true, true, true, true, true, true, true, true, true, true, true, true, true, true, true, true, true, true, true, true, true, true, true, true, true, true, false, false, false, false, false, false, false, false, false, false, false, false, false]
abbrev M3_40 : Array Bool := #[true, true, true, true, true, true, true, true, true, true, true, true, true, true, true, true, true, true, true, true, true, true, true, true, true, true, true, true, true, true, true, true, true, true, true, true, true, true, true, true, false, false, false, false, false, false, false, false, false, false, false, false]
abbrev M3_41 : Array Bool := #[true, true, true, true, true, true, true, true, true, true, true, true, true, true, true, true, true, true, true, true, true, true, true, true, true, true, true, true, true, true, true, true, true, true, true, true, true, true, true, true, true, false, false, false, false, false, false, false, false, false, false, false]
abbrev M3_42 : Array Bool := #[true, true, true, true, true, true, true, true, true, true, true, true, true, true, true, true, true, true, true, true, true, true, true, true, true, true, true, true, true, true, true, true, true, true, true, true, true, true, true, true, true, true, false, false, false, false, false, false, false, false, false, false]
abbrev M3_43 : Array Bool := #[true, true, true, true, true, true, true, true, true, true, true, true, true, true, true, true, true, true, true, true, true, true, true, true, true, true, true, true, true, true, true, true, true, true, true, true, true, true, true, true, true, true, true, false, false, false, false, false, false, false, false, false]
abbrev M3_44 : Array Bool := #[true, true, true, true, true, true, true, true, true, true, true, true, true, true, true, true, true, true, true, true, true, true, true, true, true, true, true, true, true, true, true, true, true, true, true, true, true, true, true, true, true, true, true, true, false, false, false, false, false, false, false, false]
abbrev M3_45 : Array Bool := #[true, true, true, true, true, true, true, true, true, true, true, true, true, true, true, true, true, true, true, true, true, true, true, true, true, true, true, true, true, true, true, true, true, true, true, true, true, true, true, true, true, true, true, true, true, false, false, false, false, false, false, false]
abbrev M3_46 : Array Bool := #[true, true, true, true, true, true, true, true, true, true, true, true, true, true, true, true, true, true, true, true, true, true, true, true, true, true, true, true, true, true, true, true, true, true, true, true, true, true, true, true, true, true, true, true, true, true, false, false, false, false, false, false]
abbrev M3_47 : Array Bool := #[true, true, true, true, true, true, true, true, true, true, true, true, true, true, true, true, true, true, true, true, true, true, true, true, true, true, true, true, true, true, true, true, true, true, true, true, true, true, true, true, true, true, true, true, true, true, true, false, false, false, false, false]
abbrev M3_48 : Array Bool := #[true, true, true, true, true, true, true, true, true, true, true, true, true, true, true, true, true, true, true, true, true, true, true, true, true, true, true, true, true, true, true, true, true, true, true, true, true, true, true, true, true, true, true, true, true, true, true, true, false, false, false, false]
abbrev M3_49 : Array Bool := #[true, true, true, true, true, true, true, true, true, true, true, true, true, true, true, true, true, true, true, true, true, true, true, true, true, true, true, true, true, true, true, true, true, true, true, true, true, true, true, true, true, true, true, true, true, true, true, true, true, false, false, false]
abbrev M3_50 : Array Bool := #[true, true, true, true, true, true, true, true, true, true, true, true, true, true, true, true, true, true, true, true, true, true, true, true, true, true, true, true, true, true, true, true, true, true, true, true, true, true, true, true, true, true, true, true, true, true, true, true, true, true, false, false]
abbrev M3_51 : Array Bool := #[true, true, true, true, true, true, true, true, true, true, true, true, true, true, true, true, true, true, true, true, true, true, true, true, true, true, true, true, true, true, true, true, true, true, true, true, true, true, true, true, true, true, true, true, true, true, true, true, true, true, true, false]
abbrev M3_52 : Array Bool := #[true, true, true, true, true, true, true, true, true, true, true, true, true, true, true, true, true, true, true, true, true, true, true, true, true, true, true, true, true, true, true, true, true, true, true, true, true, true, true, true, true, true, true, true, true, true, true, true, true, true, true, true]
abbrev M3_53 : Array Bool := #[true, true, true, true, true, true, true, true, true, true, true, true, true, true, true, true, true, true, true, true, true, true, true, true, true, true, true, true, true, true, true, true, true, true, true, true, true, true, true, true, true, true, true, false, true, false, false, false, false, false, false, false]
abbrev M3_54 : Array Bool := #[true, true, true, true, true, true, true, true, true, true, true, true, true, true, true, true, true, true, true, true, true, true, true, true, true, true, true, true, true, true, true, true, true, true, true, true, true, true, true, true, true, true, true, false, true, true, false, false, false, false, false, false]
abbrev M3_55 : Array Bool := #[true, true, true, true, true, true, true, true, true, true, true, true, true, true, true, true, true, true, true, true, true, true, true, true, true, true, true, true, true, true, true, true, true, true, true, true, true, true, true, true, true, true, true, false, true, true, true, false, false, false, false, false]
abbrev M3_56 : Array Bool := #[true, true, true, true, true, true, true, true, true, true, true, true, true, true, true, true, true, true, true, true, true, true, true, true, true, true, true, true, true, true, true, true, true, true, true, true, true, true, true, true, true, true, true, false, true, true, true, true, false, false, false, false]
theorem P3_1 {α : Type} (l : List α) (i : Nat) (a : α) : l.toArray.setIfInBounds i a = (l.set i a).toArray := List.setIfInBounds_toArray l i a
theorem P3_2 {α : Type} (x : α) (l : List α) (a : α) : (x :: l).set 0 a = a :: l := List.set_cons_zero
theorem P3_3 {α : Type} (x : α) (l : List α) (n : Nat) (a : α) : (x :: l).set (n + 1) a = x :: l.set n a := List.set_cons_succ
set_option maxHeartbeats 8000000 in
set_option maxRecDepth 100000 in
theorem spec_AreSecrets.calls (k : Nat) (A0 : Option Addr) (c0 : Nat) (l0 : List (S36)) (r : Bool) (w : World) (hr0 : Kd.C k36 w A0 l0.length l0) (hc0 : l0.length ≤ c0) (h : spec_AreSecrets.f k l0 = some r) :
  Calls Try.prog 11 #[.slice A0 l0.length c0] w fun e w' => e = .returned (.bool r) ∧ Below w.heap.size w w' := by
 have HR0 := Aside0.mk hr0
 have HC0 := Aside0.mk hc0
 clear hr0 hc0
 have HB := Aside0.mk (Below.refl w.heap.size w)
 have H : (spec_AreSecrets.l0 k l0 0) = some r := h
 clear h
 have H' := Aside0.mk H
 clear H
 go_enter Try.func11, Try.ntmps11
 go_wp2
 go_loopg [3] k (fun kq v3 w' => ∃ (x3_1 : Int), v3 = .int .i64 x3_1 ∧ Aside0 (spec_AreSecrets.l0 kq l0 x3_1 = some r) ∧ Aside0 (kq ≤ k) ∧ Aside0 (Below w.heap.size w w'))
 case atStart => exact ⟨(0), (by first | rfl | (simp; done) | (simp [*]; done)), H', ⟨Nat.le_refl _⟩, ⟨hd_ HB.out⟩⟩
 case round =>
  clear H'
  try clear c1
  obtain ⟨x3_1, rfl, HA, HK1, HB⟩ := hrel
  cases gk with
  | zero => exact absurd HA.out (by simp [spec_AreSecrets.l0])
  | succ k1 =>
   have H := HA.out
   clear HA
   simp only [spec_AreSecrets.l0] at H
   by_cases c2 : x3_1 < (l0.length : Int)
   ·
    rw [if_pos c2] at H
    have c2b0 : decide (x3_1 < (l0.length : Int)) = true := decide_eq_true c2
    clear c2
    by_cases c3 : 0 ≤ x3_1
    ·
     rw [if_pos c3] at H
     have c3b0 : decide (0 ≤ x3_1) = true := decide_eq_true c3
     clear c3
     replace H := Option.bind_eq_some_iff.mp H
     obtain ⟨t151, A40, H⟩ := H
     replace H : (if t151 = true then ((spec_AreMarks.f k1 ((rd_T36 l0 x3_1).f1)).bind fun t153 => (if t153 = true then (if (((rd_T36 l0 x3_1).f1).length : Int) = 0 then (some false) else ((spec_l1In.f ((rd_T36 l0 x3_1).f2) 0 1000000).bind fun t156 => (if t156 = true then (if x3_1 > 0 then (if 0 ≤ (wrap64 (x3_1 - 1)) then (if (wrap64 (x3_1 - 1)) < (l0.length : Int) then (if ((rd_T36 l0 (wrap64 (x3_1 - 1))).f0) ≥ ((rd_T36 l0 x3_1).f0) then (some false) else (spec_AreSecrets.l0 k1 l0 (wrap64 (x3_1 + 1)))) else (none)) else (none)) else (spec_AreSecrets.l0 k1 l0 (wrap64 (x3_1 + 1)))) else (some false)))) else (some false))) else (some false)) = some r := H
     have A4 := Aside0.mk A40
     clear A40
     by_cases c5 : t151 = true
     ·
      subst c5
      have H1 : ((spec_AreMarks.f k1 ((rd_T36 l0 x3_1).f1)).bind fun t153 => (if t153 = true then (if (((rd_T36 l0 x3_1).f1).length : Int) = 0 then (some false) else ((spec_l1In.f ((rd_T36 l0 x3_1).f2) 0 1000000).bind fun t156 => (if t156 = true then (if x3_1 > 0 then (if 0 ≤ (wrap64 (x3_1 - 1)) then (if (wrap64 (x3_1 - 1)) < (l0.length : Int) then (if ((rd_T36 l0 (wrap64 (x3_1 - 1))).f0) ≥ ((rd_T36 l0 x3_1).f0) then (some false) else (spec_AreSecrets.l0 k1 l0 (wrap64 (x3_1 + 1)))) else (none)) else (none)) else (spec_AreSecrets.l0 k1 l0 (wrap64 (x3_1 + 1)))) else (some false)))) else (some false))) = some r := by rw [if_pos rfl] at H; exact H
      clear H
      have H := H1
      clear H1
      replace H := Option.bind_eq_some_iff.mp H
      obtain ⟨t153, A60, H⟩ := H
      replace H : (if t153 = true then (if (((rd_T36 l0 x3_1).f1).length : Int) = 0 then (some false) else ((spec_l1In.f ((rd_T36 l0 x3_1).f2) 0 1000000).bind fun t156 => (if t156 = true then (if x3_1 > 0 then (if 0 ≤ (wrap64 (x3_1 - 1)) then (if (wrap64 (x3_1 - 1)) < (l0.length : Int) then (if ((rd_T36 l0 (wrap64 (x3_1 - 1))).f0) ≥ ((rd_T36 l0 x3_1).f0) then (some false) else (spec_AreSecrets.l0 k1 l0 (wrap64 (x3_1 + 1)))) else (none)) else (none)) else (spec_AreSecrets.l0 k1 l0 (wrap64 (x3_1 + 1)))) else (some false)))) else (some false)) = some r := H
      have A6 := Aside0.mk A60
      clear A60
      by_cases c7 : t153 = true
      ·
       subst c7
       have H1 : (if (((rd_T36 l0 x3_1).f1).length : Int) = 0 then (some false) else ((spec_l1In.f ((rd_T36 l0 x3_1).f2) 0 1000000).bind fun t156 => (if t156 = true then (if x3_1 > 0 then (if 0 ≤ (wrap64 (x3_1 - 1)) then (if (wrap64 (x3_1 - 1)) < (l0.length : Int) then (if ((rd_T36 l0 (wrap64 (x3_1 - 1))).f0) ≥ ((rd_T36 l0 x3_1).f0) then (some false) else (spec_AreSecrets.l0 k1 l0 (wrap64 (x3_1 + 1)))) else (none)) else (none)) else (spec_AreSecrets.l0 k1 l0 (wrap64 (x3_1 + 1)))) else (some false)))) = some r := by rw [if_pos rfl] at H; exact H
       clear H
       have H := H1
       clear H1
       by_cases c8 : (((rd_T36 l0 x3_1).f1).length : Int) = 0
       ·
        rw [if_pos c8] at H
        have c8b0 : ((((rd_T36 l0 x3_1).f1).length : Int) == 0) = true := beq_iff_eq.mpr c8
        have c8b1 : ((((rd_T36 l0 x3_1).f1).length : Int) != 0) = false := bne_eq_false_iff_eq.mpr c8
        clear c8
        obtain rfl := Option.some.inj H
        try go_wp2
        have n0_ := Aside0.mk (below_drew1 HB.out)
        clear HB
        have HB := n0_
        clear n0_
        have p150 : 0 ≤ (x3_1 : Int) := of_decide_eq_true as_
        have q150 : x3_1 < (l0.length : Int) := of_decide_eq_true as_
        obtain ⟨ad150, A150_1, c150_1, e150, hx150_0, hx150_1, hx150_2, hl150_1, hi150_1⟩ := at_T36 HR0.out x3_1 p150 q150
        have hw150_2 := hx150_2
        have hw150_1 := hx150_1
        have hw150_0 := hx150_0
        cases e150
        replace hx150_0 := cb_ HB.out hx150_0
        replace hx150_1 := cb_ HB.out hx150_1
        replace hx150_2 := cb_ HB.out hx150_2
        have HR150_1 := Aside0.mk hi150_1
        have HC150_1 := Aside0.mk hl150_1
        clear hi150_1 hl150_1
        replace p150 := eq_true p150
        replace q150 := eq_true q150
        have p152 : 0 ≤ (x3_1 : Int) := of_decide_eq_true as_
        have q152 : x3_1 < (l0.length : Int) := of_decide_eq_true as_
        obtain ⟨ad152, A152_1, c152_1, e152, hx152_0, hx152_1, hx152_2, hl152_1, hi152_1⟩ := at_T36 HR0.out x3_1 p152 q152
        have hw152_2 := hx152_2
        have hw152_1 := hx152_1
        have hw152_0 := hx152_0
        obtain rfl : ad150 = ad152 := (by injection e152)
        replace hx152_0 := cb_ HB.out hx152_0
        replace hx152_1 := cb_ HB.out hx152_1
        replace hx152_2 := cb_ HB.out hx152_2
        have HR152_1 := Aside0.mk hi152_1
        have HC152_1 := Aside0.mk hl152_1
        clear hi152_1 hl152_1
        replace p152 := eq_true p152
        replace q152 := eq_true q152
        have ea_ := Option.some.inj (hx150_1.symm.trans hx152_1)
        injection ea_ with ea_ en_ ec_
        subst ea_
        subst ec_
        clear en_
        have p154 : 0 ≤ (x3_1 : Int) := of_decide_eq_true as_
        have q154 : x3_1 < (l0.length : Int) := of_decide_eq_true as_
        obtain ⟨ad154, A154_1, c154_1, e154, hx154_0, hx154_1, hx154_2, hl154_1, hi154_1⟩ := at_T36 HR0.out x3_1 p154 q154
        have hw154_2 := hx154_2
        have hw154_1 := hx154_1
        have hw154_0 := hx154_0
        obtain rfl : ad150 = ad154 := (by injection e154)
        replace hx154_0 := cb_ HB.out hx154_0
        replace hx154_1 := cb_ HB.out hx154_1
        replace hx154_2 := cb_ HB.out hx154_2
        have HR154_1 := Aside0.mk hi154_1
        have HC154_1 := Aside0.mk hl154_1
        clear hi154_1 hl154_1
        replace p154 := eq_true p154
        replace q154 := eq_true q154
        refine start_ (n := 52) (S := fun w' => q2_ w' (ad150.add ((x3_1).toNat * 3)) ((rd_T36 l0 x3_1).f0) A150_1 ((rd_T36 l0 x3_1).f1).length c150_1 ((rd_T36 l0 x3_1).f2) (q2_ w' (ad150.add ((x3_1).toNat * 3)) ((rd_T36 l0 x3_1).f0) A150_1 ((rd_T36 l0 x3_1).f1).length c150_1 ((rd_T36 l0 x3_1).f2) (q2e_ w' (ad150.add ((x3_1).toNat * 3)) ((rd_T36 l0 x3_1).f0) A154_1 ((rd_T36 l0 x3_1).f1).length c154_1 ((rd_T36 l0 x3_1).f2)))) (ds := []) M3_0 (by kernel_rfl) rfl rfl ⟨(cb_ HB.out hw150_0), (cb_ HB.out hw150_1), (cb_ HB.out hw150_2), (cb_ HB.out hw152_0), (cb_ HB.out hw152_1), (cb_ HB.out hw152_2), (cb_ HB.out hw154_0), (cb_ HB.out hw154_1), (cb_ HB.out hw154_2)⟩ (fun hHeld => ?_); refine with_tabW spec_AreSecrets.tab4 spec_AreSecrets.bits4 (fun HT_ HW_ => ?_)
        generalize wr.drew = w9 at HB HR150_1 HR152_1 HR154_1 hx150_0 hx150_1 hx150_2 hx152_0 hx152_1 hx152_2 hx154_0 hx154_1 hx154_2 hHeld ⊢
        refine pu_ 0 (some 10) M3_1 HT_ ?_
        refine pu_ 1 (some 11) M3_2 HT_ ?_
        refine pu_ 2 (some 12) M3_3 HT_ ?_
        refine pu_ 3 (some 13) M3_4 HT_ ?_
        refine tk_ 4 (some 14) M3_5 HT_ HW_ hHeld ?_
        refine one_ (i := 5) (N := some 15) M3_6 rfl rfl (one_of HT_.out (by kernel_rfl)) (by decide) (fun K hK => ?_)
        refine goes_ Try.func42 (by kernel_rfl) rfl #[.int .i64 ((rd_T36 l0 x3_1).f0), .int .i64 1, .int .i64 999] (by rfl) rfl rfl ma_ ?_
        with_reducible refine (spec_l1In.calls ((rd_T36 l0 x3_1).f0) 1 999 true _ A4.out).mono ?_
        rintro e w' ⟨rfl, ⟨nd, rfl⟩⟩
        refine ⟨_, rfl, ?_⟩
        refine hK.out _ _ ⟨(cb_ HB.out hw150_0), (cb_ HB.out hw150_1), (cb_ HB.out hw150_2), (cb_ HB.out hw152_0), (cb_ HB.out hw152_1), (cb_ HB.out hw152_2), (cb_ HB.out hw154_0), (cb_ HB.out hw154_1), (cb_ HB.out hw154_2)⟩ (fun hHeld => ?_)
        clear hK K
        refine norm_ (a' := ?_) ?_ ?_
        rotate_left
        ·
         show Act.put _ (some 15) _ = _
         simp only [Act.put, P3_1, P3_2, P3_3, i64_w, i32_w]
         rfl
        refine pu_ 6 (some 16) M3_7 HT_ ?_
        refine pu_ 7 (some 17) M3_8 HT_ ?_
        refine pu_ 8 (some 18) M3_9 HT_ ?_
        refine pu_ 9 (some 19) M3_10 HT_ ?_
        refine pu_ 10 (some 20) M3_11 HT_ ?_
        refine pu_ 11 (some 21) M3_12 HT_ ?_
        refine tk_ 12 (some 22) M3_13 HT_ HW_ hHeld ?_
        refine one_ (i := 13) (N := some 23) M3_14 rfl rfl (one_of HT_.out (by kernel_rfl)) (by decide) (fun K hK => ?_)
        refine goes_ Try.func43 (by kernel_rfl) rfl #[.slice A150_1 ((rd_T36 l0 x3_1).f1).length c150_1] (by rfl) rfl rfl ma_ ?_
        with_reducible refine (spec_AreMarks.calls k1 _ _ ((rd_T36 l0 x3_1).f1) true _ ?side1 ?side2 A6.out).mono ?_
        (case side1 => repeat (first | exact (Kd.C_below HR152_1.out (hd_ HB.out)) | (with_reducible refine Kd.C_alloc ?_ _) | (with_reducible refine Kd.C_drewN ?_ _) | (with_reducible refine Kd.C_drew ?_)))
        (case side2 => exact HC152_1.out)
        rintro e w10 ⟨rfl, hb⟩
        refine ⟨_, rfl, ?_⟩
        have n0_ := Aside0.mk (below_step (hd_ HB.out) hb)
        clear HB
        have HB := n0_
        clear n0_
        (try clear hb)
        (try clear hb2)
        (try clear hk)
        (try clear hi)
        refine hK.out _ _ ⟨(cb_ HB.out hw150_0), (cb_ HB.out hw150_1), (cb_ HB.out hw150_2), (cb_ HB.out hw152_0), (cb_ HB.out hw152_1), (cb_ HB.out hw152_2), (cb_ HB.out hw154_0), (cb_ HB.out hw154_1), (cb_ HB.out hw154_2)⟩ (fun hHeld => ?_)
        clear hK K
        refine norm_ (a' := ?_) ?_ ?_
        rotate_left
        ·
         show Act.put _ (some 23) _ = _
         simp only [Act.put, P3_1, P3_2, P3_3, i64_w, i32_w]
         rfl
        refine pu_ 14 (some 24) M3_15 HT_ ?_
        refine pu_ 15 (some 25) M3_16 HT_ ?_
        refine pu_ 16 (some 26) M3_17 HT_ ?_
        refine pu_ 17 (some 27) M3_18 HT_ ?_
        refine pu_ 18 (some 28) M3_19 HT_ ?_
        refine pu_ 19 (some 29) M3_20 HT_ ?_
        refine pu_ 20 (some 30) M3_21 HT_ ?_
        refine tk_ 21 (some 31) M3_22 HT_ HW_ hHeld ?_
        refine pu_ 22 (some 32) M3_23 HT_ ?_
        refine pu_ 23 (some 33) M3_24 HT_ ?_
        refine pu_ 24 (some 34) M3_25 HT_ ?_
        refine pu_ 25 (some 35) M3_26 HT_ ?_
        refine pn_ 26 (some 36) M3_27 HT_ ?_
        refine pn_ 27 (some 37) M3_28 HT_ ?_
        refine pn_ 28 (some 38) M3_29 HT_ ?_
        refine pn_ 29 (some 39) M3_30 HT_ ?_
        refine pn_ 30 (some 40) M3_31 HT_ ?_
        refine pn_ 31 (some 41) M3_32 HT_ ?_
        refine pn_ 32 (some 42) M3_33 HT_ ?_
        refine pu_ 33 (some 43) M3_34 HT_ ?_
        refine pu_ 34 (some 44) M3_35 HT_ ?_
        refine pn_ 35 (some 45) M3_36 HT_ ?_
        refine pn_ 36 (some 46) M3_37 HT_ ?_
        refine pn_ 37 (some 47) M3_38 HT_ ?_
        refine pn_ 38 (some 48) M3_39 HT_ ?_
        refine pn_ 39 (some 49) M3_40 HT_ ?_
        refine pn_ 40 (some 50) M3_41 HT_ ?_
        refine pn_ 41 (some 51) M3_42 HT_ ?_
        refine pn_ 42 (some 52) M3_43 HT_ ?_
        refine pn_ 43 (some 53) M3_44 HT_ ?_
        refine pn_ 44 (some 54) M3_45 HT_ ?_
        refine pn_ 45 (some 55) M3_46 HT_ ?_
        refine pn_ 46 (some 56) M3_47 HT_ ?_
        refine pn_ 47 (some 57) M3_48 HT_ ?_
        refine pn_ 48 (some 58) M3_49 HT_ ?_
        refine pn_ 49 (some 59) M3_50 HT_ ?_
        refine pn_ 50 (some 60) M3_51 HT_ ?_
        refine pu_ 51 (some 61) M3_52 HT_ ?_
        refine done_ (done_of HT_.out (by kernel_rfl)) ?_
        try go_wp2
        go_ret
        exact ⟨by first | rfl | (simp [errW_none, errW_some] <;> rfl) | (simp [*, errW_none, errW_some] <;> rfl), hd_ HB.out⟩
       ·
        rw [if_neg c8] at H
        have c8b0 : ((((rd_T36 l0 x3_1).f1).length : Int) == 0) = false := beq_eq_false_iff_ne.mpr c8
        have c8b1 : ((((rd_T36 l0 x3_1).f1).length : Int) != 0) = true := bne_iff_ne.mpr c8
        have c8b2 : ¬ (((rd_T36 l0 x3_1).f1) = []) := fun h_ => c8 (by rw [h_]; rfl)
        replace H := Option.bind_eq_some_iff.mp H
        obtain ⟨t156, A110, H⟩ := H
        replace H : (if t156 = true then (if x3_1 > 0 then (if 0 ≤ (wrap64 (x3_1 - 1)) then (if (wrap64 (x3_1 - 1)) < (l0.length : Int) then (if ((rd_T36 l0 (wrap64 (x3_1 - 1))).f0) ≥ ((rd_T36 l0 x3_1).f0) then (some false) else (spec_AreSecrets.l0 k1 l0 (wrap64 (x3_1 + 1)))) else (none)) else (none)) else (spec_AreSecrets.l0 k1 l0 (wrap64 (x3_1 + 1)))) else (some false)) = some r := H
        have A11 := Aside0.mk A110
        clear A110
        by_cases c12 : t156 = true
        ·
         subst c12
         have H1 : (if x3_1 > 0 then (if 0 ≤ (wrap64 (x3_1 - 1)) then (if (wrap64 (x3_1 - 1)) < (l0.length : Int) then (if ((rd_T36 l0 (wrap64 (x3_1 - 1))).f0) ≥ ((rd_T36 l0 x3_1).f0) then (some false) else (spec_AreSecrets.l0 k1 l0 (wrap64 (x3_1 + 1)))) else (none)) else (none)) else (spec_AreSecrets.l0 k1 l0 (wrap64 (x3_1 + 1)))) = some r := by rw [if_pos rfl] at H; exact H
         clear H
         have H := H1
         clear H1
         by_cases c13 : x3_1 > 0
         ·
          rw [if_pos c13] at H
          have c13b0 : decide (0 < x3_1) = true := decide_eq_true c13
          clear c13
          obtain ⟨ji14, hji14⟩ : ∃ j_ : Int, (wrap64 (x3_1 - 1)) = j_ := ⟨_, rfl⟩
          replace H : (if 0 ≤ (ji14) then (if (ji14) < (l0.length : Int) then (if ((rd_T36 l0 (ji14)).f0) ≥ ((rd_T36 l0 x3_1).f0) then (some false) else (spec_AreSecrets.l0 k1 l0 (wrap64 (x3_1 + 1)))) else (none)) else (none)) = some r := by first | (rw [hji14] at H; exact H) | (simp only [hji14] at H ⊢; exact H)
          (try rw [hji14] at A4)
          (try rw [hji14] at A6)
          (try rw [hji14] at A11)
          have hji14w : (IntKind.i64.wrap (x3_1 - 1)) = ji14 := (i64_w _).trans hji14
          by_cases c15 : 0 ≤ (ji14)
          ·
           rw [if_pos c15] at H
           have c15b0 : decide (0 ≤ (ji14)) = true := decide_eq_true c15
           clear c15
           by_cases c16 : (ji14) < (l0.length : Int)
           ·
            rw [if_pos c16] at H
            have c16b0 : decide ((ji14) < (l0.length : Int)) = true := decide_eq_true c16
            clear c16
            by_cases c17 : ((rd_T36 l0 (ji14)).f0) ≥ ((rd_T36 l0 x3_1).f0)
            ·
             rw [if_pos c17] at H
             have c17b0 : decide (((rd_T36 l0 x3_1).f0) ≤ ((rd_T36 l0 (ji14)).f0)) = true := decide_eq_true c17
             clear c17
             obtain rfl := Option.some.inj H
             try go_wp2
             have n0_ := Aside0.mk (below_drew1 HB.out)
             clear HB
             have HB := n0_
             clear n0_
             have p150 : 0 ≤ (x3_1 : Int) := of_decide_eq_true as_
             have q150 : x3_1 < (l0.length : Int) := of_decide_eq_true as_
             obtain ⟨ad150, A150_1, c150_1, e150, hx150_0, hx150_1, hx150_2, hl150_1, hi150_1⟩ := at_T36 HR0.out x3_1 p150 q150
             have hw150_2 := hx150_2
             have hw150_1 := hx150_1
             have hw150_0 := hx150_0
             cases e150
             replace hx150_0 := cb_ HB.out hx150_0
             replace hx150_1 := cb_ HB.out hx150_1
             replace hx150_2 := cb_ HB.out hx150_2
             have HR150_1 := Aside0.mk hi150_1
             have HC150_1 := Aside0.mk hl150_1
             clear hi150_1 hl150_1
             replace p150 := eq_true p150
             replace q150 := eq_true q150
             have p152 : 0 ≤ (x3_1 : Int) := of_decide_eq_true as_
             have q152 : x3_1 < (l0.length : Int) := of_decide_eq_true as_
             obtain ⟨ad152, A152_1, c152_1, e152, hx152_0, hx152_1, hx152_2, hl152_1, hi152_1⟩ := at_T36 HR0.out x3_1 p152 q152
             have hw152_2 := hx152_2
             have hw152_1 := hx152_1
             have hw152_0 := hx152_0
             obtain rfl : ad150 = ad152 := (by injection e152)
             replace hx152_0 := cb_ HB.out hx152_0
             replace hx152_1 := cb_ HB.out hx152_1
             replace hx152_2 := cb_ HB.out hx152_2
             have HR152_1 := Aside0.mk hi152_1
             have HC152_1 := Aside0.mk hl152_1
             clear hi152_1 hl152_1
             replace p152 := eq_true p152
             replace q152 := eq_true q152
             have ea_ := Option.some.inj (hx150_1.symm.trans hx152_1)
             injection ea_ with ea_ en_ ec_
             subst ea_
             subst ec_
             clear en_
             have p154 : 0 ≤ (x3_1 : Int) := of_decide_eq_true as_
             have q154 : x3_1 < (l0.length : Int) := of_decide_eq_true as_
             obtain ⟨ad154, A154_1, c154_1, e154, hx154_0, hx154_1, hx154_2, hl154_1, hi154_1⟩ := at_T36 HR0.out x3_1 p154 q154
             have hw154_2 := hx154_2
             have hw154_1 := hx154_1
             have hw154_0 := hx154_0
             obtain rfl : ad150 = ad154 := (by injection e154)
             replace hx154_0 := cb_ HB.out hx154_0
             replace hx154_1 := cb_ HB.out hx154_1
             replace hx154_2 := cb_ HB.out hx154_2
             have HR154_1 := Aside0.mk hi154_1
             have HC154_1 := Aside0.mk hl154_1
             clear hi154_1 hl154_1
             replace p154 := eq_true p154
             replace q154 := eq_true q154
             have p155 : 0 ≤ (x3_1 : Int) := of_decide_eq_true as_
             have q155 : x3_1 < (l0.length : Int) := of_decide_eq_true as_
             obtain ⟨ad155, A155_1, c155_1, e155, hx155_0, hx155_1, hx155_2, hl155_1, hi155_1⟩ := at_T36 HR0.out x3_1 p155 q155
             have hw155_2 := hx155_2
             have hw155_1 := hx155_1
             have hw155_0 := hx155_0
             obtain rfl : ad150 = ad155 := (by injection e155)
             replace hx155_0 := cb_ HB.out hx155_0
             replace hx155_1 := cb_ HB.out hx155_1
             replace hx155_2 := cb_ HB.out hx155_2
             have HR155_1 := Aside0.mk hi155_1
             have HC155_1 := Aside0.mk hl155_1
             clear hi155_1 hl155_1
             replace p155 := eq_true p155
             replace q155 := eq_true q155
             have ea_ := Option.some.inj (hx154_1.symm.trans hx155_1)
             injection ea_ with ea_ en_ ec_
             subst ea_
             subst ec_
             clear en_
             have p157 : 0 ≤ ((ji14) : Int) := of_decide_eq_true as_
             have q157 : (ji14) < (l0.length : Int) := of_decide_eq_true as_
             obtain ⟨ad157, A157_1, c157_1, e157, hx157_0, hx157_1, hx157_2, hl157_1, hi157_1⟩ := at_T36 HR0.out (ji14) p157 q157
             have hw157_2 := hx157_2
             have hw157_1 := hx157_1
             have hw157_0 := hx157_0
             obtain rfl : ad150 = ad157 := (by injection e157)
             replace hx157_0 := cb_ HB.out hx157_0
             replace hx157_1 := cb_ HB.out hx157_1
             replace hx157_2 := cb_ HB.out hx157_2
             have HR157_1 := Aside0.mk hi157_1
             have HC157_1 := Aside0.mk hl157_1
             clear hi157_1 hl157_1
             replace p157 := eq_true p157
             replace q157 := eq_true q157
             have p158 : 0 ≤ (x3_1 : Int) := of_decide_eq_true as_
             have q158 : x3_1 < (l0.length : Int) := of_decide_eq_true as_
             obtain ⟨ad158, A158_1, c158_1, e158, hx158_0, hx158_1, hx158_2, hl158_1, hi158_1⟩ := at_T36 HR0.out x3_1 p158 q158
             have hw158_2 := hx158_2
             have hw158_1 := hx158_1
             have hw158_0 := hx158_0
             obtain rfl : ad150 = ad158 := (by injection e158)
             replace hx158_0 := cb_ HB.out hx158_0
             replace hx158_1 := cb_ HB.out hx158_1
             replace hx158_2 := cb_ HB.out hx158_2
             have HR158_1 := Aside0.mk hi158_1
             have HC158_1 := Aside0.mk hl158_1
             clear hi158_1 hl158_1
             replace p158 := eq_true p158
             replace q158 := eq_true q158
             have ea_ := Option.some.inj (hx154_1.symm.trans hx158_1)
             injection ea_ with ea_ en_ ec_
             subst ea_
             subst ec_
             clear en_
             refine start_ (n := 52) (S := fun w' => q2_ w' (ad150.add ((x3_1).toNat * 3)) ((rd_T36 l0 x3_1).f0) A150_1 ((rd_T36 l0 x3_1).f1).length c150_1 ((rd_T36 l0 x3_1).f2) (q2_ w' (ad150.add ((x3_1).toNat * 3)) ((rd_T36 l0 x3_1).f0) A150_1 ((rd_T36 l0 x3_1).f1).length c150_1 ((rd_T36 l0 x3_1).f2) (q2_ w' (ad150.add ((x3_1).toNat * 3)) ((rd_T36 l0 x3_1).f0) A154_1 ((rd_T36 l0 x3_1).f1).length c154_1 ((rd_T36 l0 x3_1).f2) (q2_ w' (ad150.add ((x3_1).toNat * 3)) ((rd_T36 l0 x3_1).f0) A154_1 ((rd_T36 l0 x3_1).f1).length c154_1 ((rd_T36 l0 x3_1).f2) (q2_ w' (ad150.add (((ji14)).toNat * 3)) ((rd_T36 l0 (ji14)).f0) A157_1 ((rd_T36 l0 (ji14)).f1).length c157_1 ((rd_T36 l0 (ji14)).f2) (q2e_ w' (ad150.add ((x3_1).toNat * 3)) ((rd_T36 l0 x3_1).f0) A154_1 ((rd_T36 l0 x3_1).f1).length c154_1 ((rd_T36 l0 x3_1).f2))))))) (ds := []) M3_0 (by kernel_rfl) rfl rfl ⟨(cb_ HB.out hw150_0), (cb_ HB.out hw150_1), (cb_ HB.out hw150_2), (cb_ HB.out hw152_0), (cb_ HB.out hw152_1), (cb_ HB.out hw152_2), (cb_ HB.out hw154_0), (cb_ HB.out hw154_1), (cb_ HB.out hw154_2), (cb_ HB.out hw155_0), (cb_ HB.out hw155_1), (cb_ HB.out hw155_2), (cb_ HB.out hw157_0), (cb_ HB.out hw157_1), (cb_ HB.out hw157_2), (cb_ HB.out hw158_0), (cb_ HB.out hw158_1), (cb_ HB.out hw158_2)⟩ (fun hHeld => ?_); refine with_tabW spec_AreSecrets.tab4 spec_AreSecrets.bits4 (fun HT_ HW_ => ?_)
             generalize wr.drew = w18 at HB HR150_1 HR152_1 HR154_1 HR155_1 HR157_1 HR158_1 hx150_0 hx150_1 hx150_2 hx152_0 hx152_1 hx152_2 hx154_0 hx154_1 hx154_2 hx155_0 hx155_1 hx155_2 hx157_0 hx157_1 hx157_2 hx158_0 hx158_1 hx158_2 hHeld ⊢
             refine pu_ 0 (some 10) M3_1 HT_ ?_
             refine pu_ 1 (some 11) M3_2 HT_ ?_
             refine pu_ 2 (some 12) M3_3 HT_ ?_
             refine pu_ 3 (some 13) M3_4 HT_ ?_
             refine tk_ 4 (some 14) M3_5 HT_ HW_ hHeld ?_
             refine one_ (i := 5) (N := some 15) M3_6 rfl rfl (one_of HT_.out (by kernel_rfl)) (by decide) (fun K hK => ?_)
             refine goes_ Try.func42 (by kernel_rfl) rfl #[.int .i64 ((rd_T36 l0 x3_1).f0), .int .i64 1, .int .i64 999] (by rfl) rfl rfl ma_ ?_
             with_reducible refine (spec_l1In.calls ((rd_T36 l0 x3_1).f0) 1 999 true _ A4.out).mono ?_
             rintro e w' ⟨rfl, ⟨nd, rfl⟩⟩
             refine ⟨_, rfl, ?_⟩
             refine hK.out _ _ ⟨(cb_ HB.out hw150_0), (cb_ HB.out hw150_1), (cb_ HB.out hw150_2), (cb_ HB.out hw152_0), (cb_ HB.out hw152_1), (cb_ HB.out hw152_2), (cb_ HB.out hw154_0), (cb_ HB.out hw154_1), (cb_ HB.out hw154_2), (cb_ HB.out hw155_0), (cb_ HB.out hw155_1), (cb_ HB.out hw155_2), (cb_ HB.out hw157_0), (cb_ HB.out hw157_1), (cb_ HB.out hw157_2), (cb_ HB.out hw158_0), (cb_ HB.out hw158_1), (cb_ HB.out hw158_2)⟩ (fun hHeld => ?_)
             clear hK K
             refine norm_ (a' := ?_) ?_ ?_
             rotate_left
             ·
              show Act.put _ (some 15) _ = _
              simp only [Act.put, P3_1, P3_2, P3_3, i64_w, i32_w]
              rfl
             refine pu_ 6 (some 16) M3_7 HT_ ?_
             refine pu_ 7 (some 17) M3_8 HT_ ?_
             refine pu_ 8 (some 18) M3_9 HT_ ?_
             refine pu_ 9 (some 19) M3_10 HT_ ?_
             refine pu_ 10 (some 20) M3_11 HT_ ?_
             refine pu_ 11 (some 21) M3_12 HT_ ?_
             refine tk_ 12 (some 22) M3_13 HT_ HW_ hHeld ?_
             refine one_ (i := 13) (N := some 23) M3_14 rfl rfl (one_of HT_.out (by kernel_rfl)) (by decide) (fun K hK => ?_)
             refine goes_ Try.func43 (by kernel_rfl) rfl #[.slice A150_1 ((rd_T36 l0 x3_1).f1).length c150_1] (by rfl) rfl rfl ma_ ?_
             with_reducible refine (spec_AreMarks.calls k1 _ _ ((rd_T36 l0 x3_1).f1) true _ ?side1 ?side2 A6.out).mono ?_
             (case side1 => repeat (first | exact (Kd.C_below HR152_1.out (hd_ HB.out)) | (with_reducible refine Kd.C_alloc ?_ _) | (with_reducible refine Kd.C_drewN ?_ _) | (with_reducible refine Kd.C_drew ?_)))
             (case side2 => exact HC152_1.out)
             rintro e w19 ⟨rfl, hb⟩
             refine ⟨_, rfl, ?_⟩
             have n0_ := Aside0.mk (below_step (hd_ HB.out) hb)
             clear HB
             have HB := n0_
             clear n0_
             (try clear hb)
             (try clear hb2)
             (try clear hk)
             (try clear hi)
             refine hK.out _ _ ⟨(cb_ HB.out hw150_0), (cb_ HB.out hw150_1), (cb_ HB.out hw150_2), (cb_ HB.out hw152_0), (cb_ HB.out hw152_1), (cb_ HB.out hw152_2), (cb_ HB.out hw154_0), (cb_ HB.out hw154_1), (cb_ HB.out hw154_2), (cb_ HB.out hw155_0), (cb_ HB.out hw155_1), (cb_ HB.out hw155_2), (cb_ HB.out hw157_0), (cb_ HB.out hw157_1), (cb_ HB.out hw157_2), (cb_ HB.out hw158_0), (cb_ HB.out hw158_1), (cb_ HB.out hw158_2)⟩ (fun hHeld => ?_)
             clear hK K
             refine norm_ (a' := ?_) ?_ ?_
             rotate_left
             ·
              show Act.put _ (some 23) _ = _
              simp only [Act.put, P3_1, P3_2, P3_3, i64_w, i32_w]
              rfl
             refine pu_ 14 (some 24) M3_15 HT_ ?_
             refine pu_ 15 (some 25) M3_16 HT_ ?_
             refine pu_ 16 (some 26) M3_17 HT_ ?_
             refine pu_ 17 (some 27) M3_18 HT_ ?_
             refine pu_ 18 (some 28) M3_19 HT_ ?_
             refine pu_ 19 (some 29) M3_20 HT_ ?_
             refine pu_ 20 (some 30) M3_21 HT_ ?_
             refine tk_ 21 (some 31) M3_22 HT_ HW_ hHeld ?_
             refine pu_ 22 (some 32) M3_23 HT_ ?_
             refine pu_ 23 (some 33) M3_24 HT_ ?_
             refine pu_ 24 (some 34) M3_25 HT_ ?_
             refine pu_ 25 (some 35) M3_26 HT_ ?_
             refine pu_ 26 (some 36) M3_27 HT_ ?_
             refine pu_ 27 (some 37) M3_28 HT_ ?_
             refine pu_ 28 (some 38) M3_29 HT_ ?_
             refine pu_ 29 (some 39) M3_30 HT_ ?_
             refine tk_ 30 (some 40) M3_31 HT_ HW_ hHeld ?_
             refine one_ (i := 31) (N := some 41) M3_32 rfl rfl (one_of HT_.out (by kernel_rfl)) (by decide) (fun K hK => ?_)
             refine goes_ Try.func42 (by kernel_rfl) rfl #[.int .i64 ((rd_T36 l0 x3_1).f2), .int .i64 0, .int .i64 1000000] (by rfl) rfl rfl ma_ ?_
             with_reducible refine (spec_l1In.calls ((rd_T36 l0 x3_1).f2) 0 1000000 true _ A11.out).mono ?_
             rintro e w' ⟨rfl, ⟨nd, rfl⟩⟩
             refine ⟨_, rfl, ?_⟩
             refine hK.out _ _ ⟨(cb_ HB.out hw150_0), (cb_ HB.out hw150_1), (cb_ HB.out hw150_2), (cb_ HB.out hw152_0), (cb_ HB.out hw152_1), (cb_ HB.out hw152_2), (cb_ HB.out hw154_0), (cb_ HB.out hw154_1), (cb_ HB.out hw154_2), (cb_ HB.out hw155_0), (cb_ HB.out hw155_1), (cb_ HB.out hw155_2), (cb_ HB.out hw157_0), (cb_ HB.out hw157_1), (cb_ HB.out hw157_2), (cb_ HB.out hw158_0), (cb_ HB.out hw158_1), (cb_ HB.out hw158_2)⟩ (fun hHeld => ?_)
             clear hK K
             refine norm_ (a' := ?_) ?_ ?_
             rotate_left
             ·
              show Act.put _ (some 41) _ = _
              simp only [Act.put, P3_1, P3_2, P3_3, i64_w, i32_w]
              rfl
             refine pu_ 32 (some 42) M3_33 HT_ ?_
             refine pu_ 33 (some 43) M3_34 HT_ ?_
             refine pu_ 34 (some 44) M3_35 HT_ ?_
             refine pu_ 35 (some 45) M3_36 HT_ ?_
             refine pu_ 36 (some 46) M3_37 HT_ ?_
             refine pu_ 37 (some 47) M3_38 HT_ ?_
             refine pu_ 38 (some 48) M3_39 HT_ ?_
             refine pu_ 39 (some 49) M3_40 HT_ ?_
             refine pu_ 40 (some 50) M3_41 HT_ ?_
             refine pu_ 41 (some 51) M3_42 HT_ ?_
             refine pu_ 42 (some 52) M3_43 HT_ ?_
             refine pu_ 44 (some 54) M3_53 HT_ ?_
             refine pu_ 45 (some 55) M3_54 HT_ ?_
             refine pu_ 46 (some 56) M3_55 HT_ ?_
             refine pu_ 47 (some 57) M3_56 HT_ ?_
             refine tk_ 43 (some 53) M3_48 HT_ HW_ hHeld ?_
             refine tk_ 48 (some 58) M3_49 HT_ HW_ hHeld ?_
             refine pu_ 49 (some 59) M3_50 HT_ ?_
             refine pu_ 50 (some 60) M3_51 HT_ ?_
             refine pu_ 51 (some 61) M3_52 HT_ ?_
             refine done_ (done_of HT_.out (by kernel_rfl)) ?_
             try go_wp2
             go_ret
             exact ⟨by first | rfl | (simp [errW_none, errW_some] <;> rfl) | (simp only [← hji14]; first | rfl | (simp [errW_none, errW_some] <;> rfl)) | (simp [*, errW_none, errW_some] <;> rfl), hd_ HB.out⟩
            ·
             rw [if_neg c17] at H
             have c17b0 : decide (((rd_T36 l0 x3_1).f0) ≤ ((rd_T36 l0 (ji14)).f0)) = false := decide_eq_false c17
             clear c17
             have H' := Aside0.mk H
             clear H
             try go_wp2
             have n0_ := Aside0.mk (below_drew1 HB.out)
             clear HB
             have HB := n0_
             clear n0_
             have p150 : 0 ≤ (x3_1 : Int) := of_decide_eq_true as_
             have q150 : x3_1 < (l0.length : Int) := of_decide_eq_true as_
             obtain ⟨ad150, A150_1, c150_1, e150, hx150_0, hx150_1, hx150_2, hl150_1, hi150_1⟩ := at_T36 HR0.out x3_1 p150 q150
             have hw150_2 := hx150_2
             have hw150_1 := hx150_1
             have hw150_0 := hx150_0
             cases e150
             replace hx150_0 := cb_ HB.out hx150_0
             replace hx150_1 := cb_ HB.out hx150_1
             replace hx150_2 := cb_ HB.out hx150_2
             have HR150_1 := Aside0.mk hi150_1
             have HC150_1 := Aside0.mk hl150_1
             clear hi150_1 hl150_1
             replace p150 := eq_true p150
             replace q150 := eq_true q150
             have p152 : 0 ≤ (x3_1 : Int) := of_decide_eq_true as_
             have q152 : x3_1 < (l0.length : Int) := of_decide_eq_true as_
             obtain ⟨ad152, A152_1, c152_1, e152, hx152_0, hx152_1, hx152_2, hl152_1, hi152_1⟩ := at_T36 HR0.out x3_1 p152 q152
             have hw152_2 := hx152_2
             have hw152_1 := hx152_1
             have hw152_0 := hx152_0
             obtain rfl : ad150 = ad152 := (by injection e152)
             replace hx152_0 := cb_ HB.out hx152_0
             replace hx152_1 := cb_ HB.out hx152_1
             replace hx152_2 := cb_ HB.out hx152_2
             have HR152_1 := Aside0.mk hi152_1
             have HC152_1 := Aside0.mk hl152_1
             clear hi152_1 hl152_1
             replace p152 := eq_true p152
             replace q152 := eq_true q152
             have ea_ := Option.some.inj (hx150_1.symm.trans hx152_1)
             injection ea_ with ea_ en_ ec_
             subst ea_
             subst ec_
             clear en_
             have p154 : 0 ≤ (x3_1 : Int) := of_decide_eq_true as_
             have q154 : x3_1 < (l0.length : Int) := of_decide_eq_true as_
             obtain ⟨ad154, A154_1, c154_1, e154, hx154_0, hx154_1, hx154_2, hl154_1, hi154_1⟩ := at_T36 HR0.out x3_1 p154 q154
             have hw154_2 := hx154_2
             have hw154_1 := hx154_1
             have hw154_0 := hx154_0
             obtain rfl : ad150 = ad154 := (by injection e154)
             replace hx154_0 := cb_ HB.out hx154_0
             replace hx154_1 := cb_ HB.out hx154_1
             replace hx154_2 := cb_ HB.out hx154_2
             have HR154_1 := Aside0.mk hi154_1
             have HC154_1 := Aside0.mk hl154_1
             clear hi154_1 hl154_1
             replace p154 := eq_true p154
             replace q154 := eq_true q154
             have p155 : 0 ≤ (x3_1 : Int) := of_decide_eq_true as_
             have q155 : x3_1 < (l0.length : Int) := of_decide_eq_true as_
             obtain ⟨ad155, A155_1, c155_1, e155, hx155_0, hx155_1, hx155_2, hl155_1, hi155_1⟩ := at_T36 HR0.out x3_1 p155 q155
             have hw155_2 := hx155_2
             have hw155_1 := hx155_1
             have hw155_0 := hx155_0
             obtain rfl : ad150 = ad155 := (by injection e155)
             replace hx155_0 := cb_ HB.out hx155_0
             replace hx155_1 := cb_ HB.out hx155_1
             replace hx155_2 := cb_ HB.out hx155_2
             have HR155_1 := Aside0.mk hi155_1
             have HC155_1 := Aside0.mk hl155_1
             clear hi155_1 hl155_1
             replace p155 := eq_true p155
             replace q155 := eq_true q155
             have ea_ := Option.some.inj (hx154_1.symm.trans hx155_1)
             injection ea_ with ea_ en_ ec_
             subst ea_
             subst ec_
             clear en_
             have p157 : 0 ≤ ((ji14) : Int) := of_decide_eq_true as_
             have q157 : (ji14) < (l0.length : Int) := of_decide_eq_true as_
             obtain ⟨ad157, A157_1, c157_1, e157, hx157_0, hx157_1, hx157_2, hl157_1, hi157_1⟩ := at_T36 HR0.out (ji14) p157 q157
             have hw157_2 := hx157_2
             have hw157_1 := hx157_1
             have hw157_0 := hx157_0
             obtain rfl : ad150 = ad157 := (by injection e157)
             replace hx157_0 := cb_ HB.out hx157_0
             replace hx157_1 := cb_ HB.out hx157_1
             replace hx157_2 := cb_ HB.out hx157_2
             have HR157_1 := Aside0.mk hi157_1
             have HC157_1 := Aside0.mk hl157_1
             clear hi157_1 hl157_1
             replace p157 := eq_true p157
             replace q157 := eq_true q157
             have p158 : 0 ≤ (x3_1 : Int) := of_decide_eq_true as_
             have q158 : x3_1 < (l0.length : Int) := of_decide_eq_true as_
             obtain ⟨ad158, A158_1, c158_1, e158, hx158_0, hx158_1, hx158_2, hl158_1, hi158_1⟩ := at_T36 HR0.out x3_1 p158 q158
             have hw158_2 := hx158_2
             have hw158_1 := hx158_1
             have hw158_0 := hx158_0
             obtain rfl : ad150 = ad158 := (by injection e158)
             replace hx158_0 := cb_ HB.out hx158_0
             replace hx158_1 := cb_ HB.out hx158_1
             replace hx158_2 := cb_ HB.out hx158_2
             have HR158_1 := Aside0.mk hi158_1
             have HC158_1 := Aside0.mk hl158_1
             clear hi158_1 hl158_1
             replace p158 := eq_true p158
             replace q158 := eq_true q158
             have ea_ := Option.some.inj (hx154_1.symm.trans hx158_1)
             injection ea_ with ea_ en_ ec_
             subst ea_
             subst ec_
             clear en_
             refine start_ (n := 52) (S := fun w' => q2_ w' (ad150.add ((x3_1).toNat * 3)) ((rd_T36 l0 x3_1).f0) A150_1 ((rd_T36 l0 x3_1).f1).length c150_1 ((rd_T36 l0 x3_1).f2) (q2_ w' (ad150.add ((x3_1).toNat * 3)) ((rd_T36 l0 x3_1).f0) A150_1 ((rd_T36 l0 x3_1).f1).length c150_1 ((rd_T36 l0 x3_1).f2) (q2_ w' (ad150.add ((x3_1).toNat * 3)) ((rd_T36 l0 x3_1).f0) A154_1 ((rd_T36 l0 x3_1).f1).length c154_1 ((rd_T36 l0 x3_1).f2) (q2_ w' (ad150.add ((x3_1).toNat * 3)) ((rd_T36 l0 x3_1).f0) A154_1 ((rd_T36 l0 x3_1).f1).length c154_1 ((rd_T36 l0 x3_1).f2) (q2_ w' (ad150.add (((ji14)).toNat * 3)) ((rd_T36 l0 (ji14)).f0) A157_1 ((rd_T36 l0 (ji14)).f1).length c157_1 ((rd_T36 l0 (ji14)).f2) (q2e_ w' (ad150.add ((x3_1).toNat * 3)) ((rd_T36 l0 x3_1).f0) A154_1 ((rd_T36 l0 x3_1).f1).length c154_1 ((rd_T36 l0 x3_1).f2))))))) (ds := []) M3_0 (by kernel_rfl) rfl rfl ⟨(cb_ HB.out hw150_0), (cb_ HB.out hw150_1), (cb_ HB.out hw150_2), (cb_ HB.out hw152_0), (cb_ HB.out hw152_1), (cb_ HB.out hw152_2), (cb_ HB.out hw154_0), (cb_ HB.out hw154_1), (cb_ HB.out hw154_2), (cb_ HB.out hw155_0), (cb_ HB.out hw155_1), (cb_ HB.out hw155_2), (cb_ HB.out hw157_0), (cb_ HB.out hw157_1), (cb_ HB.out hw157_2), (cb_ HB.out hw158_0), (cb_ HB.out hw158_1), (cb_ HB.out hw158_2)⟩ (fun hHeld => ?_); refine with_tabW spec_AreSecrets.tab4 spec_AreSecrets.bits4 (fun HT_ HW_ => ?_)
             generalize wr.drew = w20 at HB HR150_1 HR152_1 HR154_1 HR155_1 HR157_1 HR158_1 hx150_0 hx150_1 hx150_2 hx152_0 hx152_1 hx152_2 hx154_0 hx154_1 hx154_2 hx155_0 hx155_1 hx155_2 hx157_0 hx157_1 hx157_2 hx158_0 hx158_1 hx158_2 hHeld ⊢
             refine pu_ 0 (some 10) M3_1 HT_ ?_
             refine pu_ 1 (some 11) M3_2 HT_ ?_
             refine pu_ 2 (some 12) M3_3 HT_ ?_
             refine pu_ 3 (some 13) M3_4 HT_ ?_
             refine tk_ 4 (some 14) M3_5 HT_ HW_ hHeld ?_
             refine one_ (i := 5) (N := some 15) M3_6 rfl rfl (one_of HT_.out (by kernel_rfl)) (by decide) (fun K hK => ?_)
             refine goes_ Try.func42 (by kernel_rfl) rfl #[.int .i64 ((rd_T36 l0 x3_1).f0), .int .i64 1, .int .i64 999] (by rfl) rfl rfl ma_ ?_
             with_reducible refine (spec_l1In.calls ((rd_T36 l0 x3_1).f0) 1 999 true _ A4.out).mono ?_
             rintro e w' ⟨rfl, ⟨nd, rfl⟩⟩
             refine ⟨_, rfl, ?_⟩
             refine hK.out _ _ ⟨(cb_ HB.out hw150_0), (cb_ HB.out hw150_1), (cb_ HB.out hw150_2), (cb_ HB.out hw152_0), (cb_ HB.out hw152_1), (cb_ HB.out hw152_2), (cb_ HB.out hw154_0), (cb_ HB.out hw154_1), (cb_ HB.out hw154_2), (cb_ HB.out hw155_0), (cb_ HB.out hw155_1), (cb_ HB.out hw155_2), (cb_ HB.out hw157_0), (cb_ HB.out hw157_1), (cb_ HB.out hw157_2), (cb_ HB.out hw158_0), (cb_ HB.out hw158_1), (cb_ HB.out hw158_2)⟩ (fun hHeld => ?_)
             clear hK K
             refine norm_ (a' := ?_) ?_ ?_
             rotate_left
             ·
              show Act.put _ (some 15) _ = _
              simp only [Act.put, P3_1, P3_2, P3_3, i64_w, i32_w]
              rfl
             refine pu_ 6 (some 16) M3_7 HT_ ?_
             refine pu_ 7 (some 17) M3_8 HT_ ?_
             refine pu_ 8 (some 18) M3_9 HT_ ?_
             refine pu_ 9 (some 19) M3_10 HT_ ?_
             refine pu_ 10 (some 20) M3_11 HT_ ?_
             refine pu_ 11 (some 21) M3_12 HT_ ?_
             refine tk_ 12 (some 22) M3_13 HT_ HW_ hHeld ?_
             refine one_ (i := 13) (N := some 23) M3_14 rfl rfl (one_of HT_.out (by kernel_rfl)) (by decide) (fun K hK => ?_)
             refine goes_ Try.func43 (by kernel_rfl) rfl #[.slice A150_1 ((rd_T36 l0 x3_1).f1).length c150_1] (by rfl) rfl rfl ma_ ?_
             with_reducible refine (spec_AreMarks.calls k1 _ _ ((rd_T36 l0 x3_1).f1) true _ ?side1 ?side2 A6.out).mono ?_
             (case side1 => repeat (first | exact (Kd.C_below HR152_1.out (hd_ HB.out)) | (with_reducible refine Kd.C_alloc ?_ _) | (with_reducible refine Kd.C_drewN ?_ _) | (with_reducible refine Kd.C_drew ?_)))
             (case side2 => exact HC152_1.out)
             rintro e w21 ⟨rfl, hb⟩
             refine ⟨_, rfl, ?_⟩
             have n0_ := Aside0.mk (below_step (hd_ HB.out) hb)
             clear HB
             have HB := n0_
             clear n0_
             (try clear hb)
             (try clear hb2)
             (try clear hk)
             (try clear hi)
             refine hK.out _ _ ⟨(cb_ HB.out hw150_0), (cb_ HB.out hw150_1), (cb_ HB.out hw150_2), (cb_ HB.out hw152_0), (cb_ HB.out hw152_1), (cb_ HB.out hw152_2), (cb_ HB.out hw154_0), (cb_ HB.out hw154_1), (cb_ HB.out hw154_2), (cb_ HB.out hw155_0), (cb_ HB.out hw155_1), (cb_ HB.out hw155_2), (cb_ HB.out hw157_0), (cb_ HB.out hw157_1), (cb_ HB.out hw157_2), (cb_ HB.out hw158_0), (cb_ HB.out hw158_1), (cb_ HB.out hw158_2)⟩ (fun hHeld => ?_)
             clear hK K
             refine norm_ (a' := ?_) ?_ ?_
             rotate_left
             ·
              show Act.put _ (some 23) _ = _
              simp only [Act.put, P3_1, P3_2, P3_3, i64_w, i32_w]
              rfl
             refine pu_ 14 (some 24) M3_15 HT_ ?_
             refine pu_ 15 (some 25) M3_16 HT_ ?_
             refine pu_ 16 (some 26) M3_17 HT_ ?_
             refine pu_ 17 (some 27) M3_18 HT_ ?_
             refine pu_ 18 (some 28) M3_19 HT_ ?_
             refine pu_ 19 (some 29) M3_20 HT_ ?_
             refine pu_ 20 (some 30) M3_21 HT_ ?_
             refine tk_ 21 (some 31) M3_22 HT_ HW_ hHeld ?_
             refine pu_ 22 (some 32) M3_23 HT_ ?_
             refine pu_ 23 (some 33) M3_24 HT_ ?_
             refine pu_ 24 (some 34) M3_25 HT_ ?_
             refine pu_ 25 (some 35) M3_26 HT_ ?_
             refine pu_ 26 (some 36) M3_27 HT_ ?_
             refine pu_ 27 (some 37) M3_28 HT_ ?_
             refine pu_ 28 (some 38) M3_29 HT_ ?_
             refine pu_ 29 (some 39) M3_30 HT_ ?_
             refine tk_ 30 (some 40) M3_31 HT_ HW_ hHeld ?_
             refine one_ (i := 31) (N := some 41) M3_32 rfl rfl (one_of HT_.out (by kernel_rfl)) (by decide) (fun K hK => ?_)
             refine goes_ Try.func42 (by kernel_rfl) rfl #[.int .i64 ((rd_T36 l0 x3_1).f2), .int .i64 0, .int .i64 1000000] (by rfl) rfl rfl ma_ ?_
             with_reducible refine (spec_l1In.calls ((rd_T36 l0 x3_1).f2) 0 1000000 true _ A11.out).mono ?_
             rintro e w' ⟨rfl, ⟨nd, rfl⟩⟩
             refine ⟨_, rfl, ?_⟩
             refine hK.out _ _ ⟨(cb_ HB.out hw150_0), (cb_ HB.out hw150_1), (cb_ HB.out hw150_2), (cb_ HB.out hw152_0), (cb_ HB.out hw152_1), (cb_ HB.out hw152_2), (cb_ HB.out hw154_0), (cb_ HB.out hw154_1), (cb_ HB.out hw154_2), (cb_ HB.out hw155_0), (cb_ HB.out hw155_1), (cb_ HB.out hw155_2), (cb_ HB.out hw157_0), (cb_ HB.out hw157_1), (cb_ HB.out hw157_2), (cb_ HB.out hw158_0), (cb_ HB.out hw158_1), (cb_ HB.out hw158_2)⟩ (fun hHeld => ?_)
             clear hK K
             refine norm_ (a' := ?_) ?_ ?_
             rotate_left
             ·
              show Act.put _ (some 41) _ = _
              simp only [Act.put, P3_1, P3_2, P3_3, i64_w, i32_w]
              rfl
             refine pu_ 32 (some 42) M3_33 HT_ ?_
             refine pu_ 33 (some 43) M3_34 HT_ ?_
             refine pu_ 34 (some 44) M3_35 HT_ ?_
             refine pu_ 35 (some 45) M3_36 HT_ ?_
             refine pu_ 36 (some 46) M3_37 HT_ ?_
             refine pu_ 37 (some 47) M3_38 HT_ ?_
             refine pu_ 38 (some 48) M3_39 HT_ ?_
             refine pu_ 39 (some 49) M3_40 HT_ ?_
             refine pu_ 40 (some 50) M3_41 HT_ ?_
             refine pu_ 41 (some 51) M3_42 HT_ ?_
             refine pu_ 42 (some 52) M3_43 HT_ ?_
             refine pu_ 44 (some 54) M3_53 HT_ ?_
             refine pu_ 45 (some 55) M3_54 HT_ ?_
             refine pu_ 46 (some 56) M3_55 HT_ ?_
             refine pu_ 47 (some 57) M3_56 HT_ ?_
             refine tk_ 43 (some 53) M3_48 HT_ HW_ hHeld ?_
             refine tk_ 48 (some 58) M3_49 HT_ HW_ hHeld ?_
             refine pu_ 49 (some 59) M3_50 HT_ ?_
             refine pu_ 50 (some 60) M3_51 HT_ ?_
             refine pu_ 51 (some 61) M3_52 HT_ ?_
             refine done_ (done_of HT_.out (by kernel_rfl)) ?_
             try go_wp2
             go_roundg k1
             case measure => have := HK1.out; omega
             case rel => exact ⟨(wrap64 (x3_1 + 1)), (by first | rfl | (simp; done) | (simp [*]; done)), H', ⟨by have := HK1.out; omega⟩, ⟨hd_ HB.out⟩⟩
           ·
            rw [if_neg c16] at H
            exact absurd H (by simp)
          ·
           rw [if_neg c15] at H
           exact absurd H (by simp)
         ·
          rw [if_neg c13] at H
          have c13b0 : decide (0 < x3_1) = false := decide_eq_false c13
          clear c13
          have H' := Aside0.mk H
          clear H
          try go_wp2
          have n0_ := Aside0.mk (below_drew1 HB.out)
          clear HB
          have HB := n0_
          clear n0_
          have p150 : 0 ≤ (x3_1 : Int) := of_decide_eq_true as_
          have q150 : x3_1 < (l0.length : Int) := of_decide_eq_true as_
          obtain ⟨ad150, A150_1, c150_1, e150, hx150_0, hx150_1, hx150_2, hl150_1, hi150_1⟩ := at_T36 HR0.out x3_1 p150 q150
          have hw150_2 := hx150_2
          have hw150_1 := hx150_1
          have hw150_0 := hx150_0
          cases e150
          replace hx150_0 := cb_ HB.out hx150_0
          replace hx150_1 := cb_ HB.out hx150_1
          replace hx150_2 := cb_ HB.out hx150_2
          have HR150_1 := Aside0.mk hi150_1
          have HC150_1 := Aside0.mk hl150_1
          clear hi150_1 hl150_1
          replace p150 := eq_true p150
          replace q150 := eq_true q150
          have p152 : 0 ≤ (x3_1 : Int) := of_decide_eq_true as_
          have q152 : x3_1 < (l0.length : Int) := of_decide_eq_true as_
          obtain ⟨ad152, A152_1, c152_1, e152, hx152_0, hx152_1, hx152_2, hl152_1, hi152_1⟩ := at_T36 HR0.out x3_1 p152 q152
          have hw152_2 := hx152_2
          have hw152_1 := hx152_1
          have hw152_0 := hx152_0
          obtain rfl : ad150 = ad152 := (by injection e152)
          replace hx152_0 := cb_ HB.out hx152_0
          replace hx152_1 := cb_ HB.out hx152_1
          replace hx152_2 := cb_ HB.out hx152_2
          have HR152_1 := Aside0.mk hi152_1
          have HC152_1 := Aside0.mk hl152_1
          clear hi152_1 hl152_1
          replace p152 := eq_true p152
          replace q152 := eq_true q152
          have ea_ := Option.some.inj (hx150_1.symm.trans hx152_1)
          injection ea_ with ea_ en_ ec_
          subst ea_
          subst ec_
          clear en_
          have p154 : 0 ≤ (x3_1 : Int) := of_decide_eq_true as_
          have q154 : x3_1 < (l0.length : Int) := of_decide_eq_true as_
          obtain ⟨ad154, A154_1, c154_1, e154, hx154_0, hx154_1, hx154_2, hl154_1, hi154_1⟩ := at_T36 HR0.out x3_1 p154 q154
          have hw154_2 := hx154_2
          have hw154_1 := hx154_1
          have hw154_0 := hx154_0
          obtain rfl : ad150 = ad154 := (by injection e154)
          replace hx154_0 := cb_ HB.out hx154_0
          replace hx154_1 := cb_ HB.out hx154_1
          replace hx154_2 := cb_ HB.out hx154_2
          have HR154_1 := Aside0.mk hi154_1
          have HC154_1 := Aside0.mk hl154_1
          clear hi154_1 hl154_1
          replace p154 := eq_true p154
          replace q154 := eq_true q154
          have p155 : 0 ≤ (x3_1 : Int) := of_decide_eq_true as_
          have q155 : x3_1 < (l0.length : Int) := of_decide_eq_true as_
          obtain ⟨ad155, A155_1, c155_1, e155, hx155_0, hx155_1, hx155_2, hl155_1, hi155_1⟩ := at_T36 HR0.out x3_1 p155 q155
          have hw155_2 := hx155_2
          have hw155_1 := hx155_1
          have hw155_0 := hx155_0
          obtain rfl : ad150 = ad155 := (by injection e155)
          replace hx155_0 := cb_ HB.out hx155_0
          replace hx155_1 := cb_ HB.out hx155_1
          replace hx155_2 := cb_ HB.out hx155_2
          have HR155_1 := Aside0.mk hi155_1
          have HC155_1 := Aside0.mk hl155_1
          clear hi155_1 hl155_1
          replace p155 := eq_true p155
          replace q155 := eq_true q155
          have ea_ := Option.some.inj (hx154_1.symm.trans hx155_1)
          injection ea_ with ea_ en_ ec_
          subst ea_
          subst ec_
          clear en_
          refine start_ (n := 52) (S := fun w' => q2_ w' (ad150.add ((x3_1).toNat * 3)) ((rd_T36 l0 x3_1).f0) A150_1 ((rd_T36 l0 x3_1).f1).length c150_1 ((rd_T36 l0 x3_1).f2) (q2_ w' (ad150.add ((x3_1).toNat * 3)) ((rd_T36 l0 x3_1).f0) A150_1 ((rd_T36 l0 x3_1).f1).length c150_1 ((rd_T36 l0 x3_1).f2) (q2_ w' (ad150.add ((x3_1).toNat * 3)) ((rd_T36 l0 x3_1).f0) A154_1 ((rd_T36 l0 x3_1).f1).length c154_1 ((rd_T36 l0 x3_1).f2) (q2e_ w' (ad150.add ((x3_1).toNat * 3)) ((rd_T36 l0 x3_1).f0) A154_1 ((rd_T36 l0 x3_1).f1).length c154_1 ((rd_T36 l0 x3_1).f2))))) (ds := []) M3_0 (by kernel_rfl) rfl rfl ⟨(cb_ HB.out hw150_0), (cb_ HB.out hw150_1), (cb_ HB.out hw150_2), (cb_ HB.out hw152_0), (cb_ HB.out hw152_1), (cb_ HB.out hw152_2), (cb_ HB.out hw154_0), (cb_ HB.out hw154_1), (cb_ HB.out hw154_2), (cb_ HB.out hw155_0), (cb_ HB.out hw155_1), (cb_ HB.out hw155_2)⟩ (fun hHeld => ?_); refine with_tabW spec_AreSecrets.tab4 spec_AreSecrets.bits4 (fun HT_ HW_ => ?_)
          generalize wr.drew = w22 at HB HR150_1 HR152_1 HR154_1 HR155_1 hx150_0 hx150_1 hx150_2 hx152_0 hx152_1 hx152_2 hx154_0 hx154_1 hx154_2 hx155_0 hx155_1 hx155_2 hHeld ⊢
          refine pu_ 0 (some 10) M3_1 HT_ ?_
          refine pu_ 1 (some 11) M3_2 HT_ ?_
          refine pu_ 2 (some 12) M3_3 HT_ ?_
          refine pu_ 3 (some 13) M3_4 HT_ ?_
          refine tk_ 4 (some 14) M3_5 HT_ HW_ hHeld ?_
          refine one_ (i := 5) (N := some 15) M3_6 rfl rfl (one_of HT_.out (by kernel_rfl)) (by decide) (fun K hK => ?_)
          refine goes_ Try.func42 (by kernel_rfl) rfl #[.int .i64 ((rd_T36 l0 x3_1).f0), .int .i64 1, .int .i64 999] (by rfl) rfl rfl ma_ ?_
          with_reducible refine (spec_l1In.calls ((rd_T36 l0 x3_1).f0) 1 999 true _ A4.out).mono ?_
          rintro e w' ⟨rfl, ⟨nd, rfl⟩⟩
          refine ⟨_, rfl, ?_⟩
          refine hK.out _ _ ⟨(cb_ HB.out hw150_0), (cb_ HB.out hw150_1), (cb_ HB.out hw150_2), (cb_ HB.out hw152_0), (cb_ HB.out hw152_1), (cb_ HB.out hw152_2), (cb_ HB.out hw154_0), (cb_ HB.out hw154_1), (cb_ HB.out hw154_2), (cb_ HB.out hw155_0), (cb_ HB.out hw155_1), (cb_ HB.out hw155_2)⟩ (fun hHeld => ?_)
          clear hK K
          refine norm_ (a' := ?_) ?_ ?_
          rotate_left
          ·
           show Act.put _ (some 15) _ = _
           simp only [Act.put, P3_1, P3_2, P3_3, i64_w, i32_w]
           rfl
          refine pu_ 6 (some 16) M3_7 HT_ ?_
          refine pu_ 7 (some 17) M3_8 HT_ ?_
          refine pu_ 8 (some 18) M3_9 HT_ ?_
          refine pu_ 9 (some 19) M3_10 HT_ ?_
          refine pu_ 10 (some 20) M3_11 HT_ ?_
          refine pu_ 11 (some 21) M3_12 HT_ ?_
          refine tk_ 12 (some 22) M3_13 HT_ HW_ hHeld ?_
          refine one_ (i := 13) (N := some 23) M3_14 rfl rfl (one_of HT_.out (by kernel_rfl)) (by decide) (fun K hK => ?_)
          refine goes_ Try.func43 (by kernel_rfl) rfl #[.slice A150_1 ((rd_T36 l0 x3_1).f1).length c150_1] (by rfl) rfl rfl ma_ ?_
          with_reducible refine (spec_AreMarks.calls k1 _ _ ((rd_T36 l0 x3_1).f1) true _ ?side1 ?side2 A6.out).mono ?_
          (case side1 => repeat (first | exact (Kd.C_below HR152_1.out (hd_ HB.out)) | (with_reducible refine Kd.C_alloc ?_ _) | (with_reducible refine Kd.C_drewN ?_ _) | (with_reducible refine Kd.C_drew ?_)))
          (case side2 => exact HC152_1.out)
          rintro e w23 ⟨rfl, hb⟩
          refine ⟨_, rfl, ?_⟩
          have n0_ := Aside0.mk (below_step (hd_ HB.out) hb)
          clear HB
          have HB := n0_
          clear n0_
          (try clear hb)
          (try clear hb2)
          (try clear hk)
          (try clear hi)
          refine hK.out _ _ ⟨(cb_ HB.out hw150_0), (cb_ HB.out hw150_1), (cb_ HB.out hw150_2), (cb_ HB.out hw152_0), (cb_ HB.out hw152_1), (cb_ HB.out hw152_2), (cb_ HB.out hw154_0), (cb_ HB.out hw154_1), (cb_ HB.out hw154_2), (cb_ HB.out hw155_0), (cb_ HB.out hw155_1), (cb_ HB.out hw155_2)⟩ (fun hHeld => ?_)
          clear hK K
          refine norm_ (a' := ?_) ?_ ?_
          rotate_left
          ·
           show Act.put _ (some 23) _ = _
           simp only [Act.put, P3_1, P3_2, P3_3, i64_w, i32_w]
           rfl
          refine pu_ 14 (some 24) M3_15 HT_ ?_
          refine pu_ 15 (some 25) M3_16 HT_ ?_
          refine pu_ 16 (some 26) M3_17 HT_ ?_
          refine pu_ 17 (some 27) M3_18 HT_ ?_
          refine pu_ 18 (some 28) M3_19 HT_ ?_
          refine pu_ 19 (some 29) M3_20 HT_ ?_
          refine pu_ 20 (some 30) M3_21 HT_ ?_
          refine tk_ 21 (some 31) M3_22 HT_ HW_ hHeld ?_
          refine pu_ 22 (some 32) M3_23 HT_ ?_
          refine pu_ 23 (some 33) M3_24 HT_ ?_
          refine pu_ 24 (some 34) M3_25 HT_ ?_
          refine pu_ 25 (some 35) M3_26 HT_ ?_
          refine pu_ 26 (some 36) M3_27 HT_ ?_
          refine pu_ 27 (some 37) M3_28 HT_ ?_
          refine pu_ 28 (some 38) M3_29 HT_ ?_
          refine pu_ 29 (some 39) M3_30 HT_ ?_
          refine tk_ 30 (some 40) M3_31 HT_ HW_ hHeld ?_
          refine one_ (i := 31) (N := some 41) M3_32 rfl rfl (one_of HT_.out (by kernel_rfl)) (by decide) (fun K hK => ?_)
          refine goes_ Try.func42 (by kernel_rfl) rfl #[.int .i64 ((rd_T36 l0 x3_1).f2), .int .i64 0, .int .i64 1000000] (by rfl) rfl rfl ma_ ?_
          with_reducible refine (spec_l1In.calls ((rd_T36 l0 x3_1).f2) 0 1000000 true _ A11.out).mono ?_
          rintro e w' ⟨rfl, ⟨nd, rfl⟩⟩
          refine ⟨_, rfl, ?_⟩
          refine hK.out _ _ ⟨(cb_ HB.out hw150_0), (cb_ HB.out hw150_1), (cb_ HB.out hw150_2), (cb_ HB.out hw152_0), (cb_ HB.out hw152_1), (cb_ HB.out hw152_2), (cb_ HB.out hw154_0), (cb_ HB.out hw154_1), (cb_ HB.out hw154_2), (cb_ HB.out hw155_0), (cb_ HB.out hw155_1), (cb_ HB.out hw155_2)⟩ (fun hHeld => ?_)
          clear hK K
          refine norm_ (a' := ?_) ?_ ?_
          rotate_left
          ·
           show Act.put _ (some 41) _ = _
           simp only [Act.put, P3_1, P3_2, P3_3, i64_w, i32_w]
           rfl
          refine pu_ 32 (some 42) M3_33 HT_ ?_
          refine pu_ 33 (some 43) M3_34 HT_ ?_
          refine pu_ 34 (some 44) M3_35 HT_ ?_
          refine pu_ 35 (some 45) M3_36 HT_ ?_
          refine pu_ 36 (some 46) M3_37 HT_ ?_
          refine pu_ 37 (some 47) M3_38 HT_ ?_
          refine pn_ 38 (some 48) M3_39 HT_ ?_
          refine pn_ 39 (some 49) M3_40 HT_ ?_
          refine pn_ 40 (some 50) M3_41 HT_ ?_
          refine pn_ 41 (some 51) M3_42 HT_ ?_
          refine pn_ 42 (some 52) M3_43 HT_ ?_
          refine pn_ 43 (some 53) M3_44 HT_ ?_
          refine pn_ 44 (some 54) M3_45 HT_ ?_
          refine pn_ 45 (some 55) M3_46 HT_ ?_
          refine pn_ 46 (some 56) M3_47 HT_ ?_
          refine pn_ 47 (some 57) M3_48 HT_ ?_
          refine pn_ 48 (some 58) M3_49 HT_ ?_
          refine pn_ 49 (some 59) M3_50 HT_ ?_
          refine pu_ 50 (some 60) M3_51 HT_ ?_
          refine pu_ 51 (some 61) M3_52 HT_ ?_
          refine done_ (done_of HT_.out (by kernel_rfl)) ?_
          try go_wp2
          go_roundg k1
          case measure => have := HK1.out; omega
          case rel => exact ⟨(wrap64 (x3_1 + 1)), (by first | rfl | (simp; done) | (simp [*]; done)), H', ⟨by have := HK1.out; omega⟩, ⟨hd_ HB.out⟩⟩
        ·
         replace c12 := Bool.eq_false_iff.mpr c12
         subst c12
         have H1 : (some false) = some r := by rw [if_neg (show ¬ (false = true) by decide)] at H; exact H
         clear H
         have H := H1
         clear H1
         obtain rfl := Option.some.inj H
         try go_wp2
         have n0_ := Aside0.mk (below_drew1 HB.out)
         clear HB
         have HB := n0_
         clear n0_
         have p150 : 0 ≤ (x3_1 : Int) := of_decide_eq_true as_
         have q150 : x3_1 < (l0.length : Int) := of_decide_eq_true as_
         obtain ⟨ad150, A150_1, c150_1, e150, hx150_0, hx150_1, hx150_2, hl150_1, hi150_1⟩ := at_T36 HR0.out x3_1 p150 q150
         have hw150_2 := hx150_2
         have hw150_1 := hx150_1
         have hw150_0 := hx150_0
         cases e150
         replace hx150_0 := cb_ HB.out hx150_0
         replace hx150_1 := cb_ HB.out hx150_1
         replace hx150_2 := cb_ HB.out hx150_2
         have HR150_1 := Aside0.mk hi150_1
         have HC150_1 := Aside0.mk hl150_1
         clear hi150_1 hl150_1
         replace p150 := eq_true p150
         replace q150 := eq_true q150
         have p152 : 0 ≤ (x3_1 : Int) := of_decide_eq_true as_
         have q152 : x3_1 < (l0.length : Int) := of_decide_eq_true as_
         obtain ⟨ad152, A152_1, c152_1, e152, hx152_0, hx152_1, hx152_2, hl152_1, hi152_1⟩ := at_T36 HR0.out x3_1 p152 q152
         have hw152_2 := hx152_2
         have hw152_1 := hx152_1
         have hw152_0 := hx152_0
         obtain rfl : ad150 = ad152 := (by injection e152)
         replace hx152_0 := cb_ HB.out hx152_0
         replace hx152_1 := cb_ HB.out hx152_1
         replace hx152_2 := cb_ HB.out hx152_2
         have HR152_1 := Aside0.mk hi152_1
         have HC152_1 := Aside0.mk hl152_1
         clear hi152_1 hl152_1
         replace p152 := eq_true p152
         replace q152 := eq_true q152
         have ea_ := Option.some.inj (hx150_1.symm.trans hx152_1)
         injection ea_ with ea_ en_ ec_
         subst ea_
         subst ec_
         clear en_
         have p154 : 0 ≤ (x3_1 : Int) := of_decide_eq_true as_
         have q154 : x3_1 < (l0.length : Int) := of_decide_eq_true as_
         obtain ⟨ad154, A154_1, c154_1, e154, hx154_0, hx154_1, hx154_2, hl154_1, hi154_1⟩ := at_T36 HR0.out x3_1 p154 q154
         have hw154_2 := hx154_2
         have hw154_1 := hx154_1
         have hw154_0 := hx154_0
         obtain rfl : ad150 = ad154 := (by injection e154)
         replace hx154_0 := cb_ HB.out hx154_0
         replace hx154_1 := cb_ HB.out hx154_1
         replace hx154_2 := cb_ HB.out hx154_2
         have HR154_1 := Aside0.mk hi154_1
         have HC154_1 := Aside0.mk hl154_1
         clear hi154_1 hl154_1
         replace p154 := eq_true p154
         replace q154 := eq_true q154
         have p155 : 0 ≤ (x3_1 : Int) := of_decide_eq_true as_
         have q155 : x3_1 < (l0.length : Int) := of_decide_eq_true as_
         obtain ⟨ad155, A155_1, c155_1, e155, hx155_0, hx155_1, hx155_2, hl155_1, hi155_1⟩ := at_T36 HR0.out x3_1 p155 q155
         have hw155_2 := hx155_2
         have hw155_1 := hx155_1
         have hw155_0 := hx155_0
         obtain rfl : ad150 = ad155 := (by injection e155)
         replace hx155_0 := cb_ HB.out hx155_0
         replace hx155_1 := cb_ HB.out hx155_1
         replace hx155_2 := cb_ HB.out hx155_2
         have HR155_1 := Aside0.mk hi155_1
         have HC155_1 := Aside0.mk hl155_1
         clear hi155_1 hl155_1
         replace p155 := eq_true p155
         replace q155 := eq_true q155
         have ea_ := Option.some.inj (hx154_1.symm.trans hx155_1)
         injection ea_ with ea_ en_ ec_
         subst ea_
         subst ec_
         clear en_
         refine start_ (n := 52) (S := fun w' => q2_ w' (ad150.add ((x3_1).toNat * 3)) ((rd_T36 l0 x3_1).f0) A150_1 ((rd_T36 l0 x3_1).f1).length c150_1 ((rd_T36 l0 x3_1).f2) (q2_ w' (ad150.add ((x3_1).toNat * 3)) ((rd_T36 l0 x3_1).f0) A150_1 ((rd_T36 l0 x3_1).f1).length c150_1 ((rd_T36 l0 x3_1).f2) (q2_ w' (ad150.add ((x3_1).toNat * 3)) ((rd_T36 l0 x3_1).f0) A154_1 ((rd_T36 l0 x3_1).f1).length c154_1 ((rd_T36 l0 x3_1).f2) (q2e_ w' (ad150.add ((x3_1).toNat * 3)) ((rd_T36 l0 x3_1).f0) A154_1 ((rd_T36 l0 x3_1).f1).length c154_1 ((rd_T36 l0 x3_1).f2))))) (ds := []) M3_0 (by kernel_rfl) rfl rfl ⟨(cb_ HB.out hw150_0), (cb_ HB.out hw150_1), (cb_ HB.out hw150_2), (cb_ HB.out hw152_0), (cb_ HB.out hw152_1), (cb_ HB.out hw152_2), (cb_ HB.out hw154_0), (cb_ HB.out hw154_1), (cb_ HB.out hw154_2), (cb_ HB.out hw155_0), (cb_ HB.out hw155_1), (cb_ HB.out hw155_2)⟩ (fun hHeld => ?_); refine with_tabW spec_AreSecrets.tab4 spec_AreSecrets.bits4 (fun HT_ HW_ => ?_)
         generalize wr.drew = w24 at HB HR150_1 HR152_1 HR154_1 HR155_1 hx150_0 hx150_1 hx150_2 hx152_0 hx152_1 hx152_2 hx154_0 hx154_1 hx154_2 hx155_0 hx155_1 hx155_2 hHeld ⊢
         refine pu_ 0 (some 10) M3_1 HT_ ?_
         refine pu_ 1 (some 11) M3_2 HT_ ?_
         refine pu_ 2 (some 12) M3_3 HT_ ?_
         refine pu_ 3 (some 13) M3_4 HT_ ?_
         refine tk_ 4 (some 14) M3_5 HT_ HW_ hHeld ?_
         refine one_ (i := 5) (N := some 15) M3_6 rfl rfl (one_of HT_.out (by kernel_rfl)) (by decide) (fun K hK => ?_)
         refine goes_ Try.func42 (by kernel_rfl) rfl #[.int .i64 ((rd_T36 l0 x3_1).f0), .int .i64 1, .int .i64 999] (by rfl) rfl rfl ma_ ?_
         with_reducible refine (spec_l1In.calls ((rd_T36 l0 x3_1).f0) 1 999 true _ A4.out).mono ?_
         rintro e w' ⟨rfl, ⟨nd, rfl⟩⟩
         refine ⟨_, rfl, ?_⟩
         refine hK.out _ _ ⟨(cb_ HB.out hw150_0), (cb_ HB.out hw150_1), (cb_ HB.out hw150_2), (cb_ HB.out hw152_0), (cb_ HB.out hw152_1), (cb_ HB.out hw152_2), (cb_ HB.out hw154_0), (cb_ HB.out hw154_1), (cb_ HB.out hw154_2), (cb_ HB.out hw155_0), (cb_ HB.out hw155_1), (cb_ HB.out hw155_2)⟩ (fun hHeld => ?_)
         clear hK K
         refine norm_ (a' := ?_) ?_ ?_
         rotate_left
         ·
          show Act.put _ (some 15) _ = _
          simp only [Act.put, P3_1, P3_2, P3_3, i64_w, i32_w]
          rfl
         refine pu_ 6 (some 16) M3_7 HT_ ?_
         refine pu_ 7 (some 17) M3_8 HT_ ?_
         refine pu_ 8 (some 18) M3_9 HT_ ?_
         refine pu_ 9 (some 19) M3_10 HT_ ?_
         refine pu_ 10 (some 20) M3_11 HT_ ?_
         refine pu_ 11 (some 21) M3_12 HT_ ?_
         refine tk_ 12 (some 22) M3_13 HT_ HW_ hHeld ?_
         refine one_ (i := 13) (N := some 23) M3_14 rfl rfl (one_of HT_.out (by kernel_rfl)) (by decide) (fun K hK => ?_)
         refine goes_ Try.func43 (by kernel_rfl) rfl #[.slice A150_1 ((rd_T36 l0 x3_1).f1).length c150_1] (by rfl) rfl rfl ma_ ?_
         with_reducible refine (spec_AreMarks.calls k1 _ _ ((rd_T36 l0 x3_1).f1) true _ ?side1 ?side2 A6.out).mono ?_
         (case side1 => repeat (first | exact (Kd.C_below HR152_1.out (hd_ HB.out)) | (with_reducible refine Kd.C_alloc ?_ _) | (with_reducible refine Kd.C_drewN ?_ _) | (with_reducible refine Kd.C_drew ?_)))
         (case side2 => exact HC152_1.out)
         rintro e w25 ⟨rfl, hb⟩
         refine ⟨_, rfl, ?_⟩
         have n0_ := Aside0.mk (below_step (hd_ HB.out) hb)
         clear HB
         have HB := n0_
         clear n0_
         (try clear hb)
         (try clear hb2)
         (try clear hk)
         (try clear hi)
         refine hK.out _ _ ⟨(cb_ HB.out hw150_0), (cb_ HB.out hw150_1), (cb_ HB.out hw150_2), (cb_ HB.out hw152_0), (cb_ HB.out hw152_1), (cb_ HB.out hw152_2), (cb_ HB.out hw154_0), (cb_ HB.out hw154_1), (cb_ HB.out hw154_2), (cb_ HB.out hw155_0), (cb_ HB.out hw155_1), (cb_ HB.out hw155_2)⟩ (fun hHeld => ?_)
         clear hK K
         refine norm_ (a' := ?_) ?_ ?_
         rotate_left
         ·
          show Act.put _ (some 23) _ = _
          simp only [Act.put, P3_1, P3_2, P3_3, i64_w, i32_w]
          rfl
         refine pu_ 14 (some 24) M3_15 HT_ ?_
         refine pu_ 15 (some 25) M3_16 HT_ ?_
         refine pu_ 16 (some 26) M3_17 HT_ ?_
         refine pu_ 17 (some 27) M3_18 HT_ ?_
         refine pu_ 18 (some 28) M3_19 HT_ ?_
         refine pu_ 19 (some 29) M3_20 HT_ ?_
         refine pu_ 20 (some 30) M3_21 HT_ ?_
         refine tk_ 21 (some 31) M3_22 HT_ HW_ hHeld ?_
         refine pu_ 22 (some 32) M3_23 HT_ ?_
         refine pu_ 23 (some 33) M3_24 HT_ ?_
         refine pu_ 24 (some 34) M3_25 HT_ ?_
         refine pu_ 25 (some 35) M3_26 HT_ ?_
         refine pu_ 26 (some 36) M3_27 HT_ ?_
         refine pu_ 27 (some 37) M3_28 HT_ ?_
         refine pu_ 28 (some 38) M3_29 HT_ ?_
         refine pu_ 29 (some 39) M3_30 HT_ ?_
         refine tk_ 30 (some 40) M3_31 HT_ HW_ hHeld ?_
         refine one_ (i := 31) (N := some 41) M3_32 rfl rfl (one_of HT_.out (by kernel_rfl)) (by decide) (fun K hK => ?_)
         refine goes_ Try.func42 (by kernel_rfl) rfl #[.int .i64 ((rd_T36 l0 x3_1).f2), .int .i64 0, .int .i64 1000000] (by rfl) rfl rfl ma_ ?_
         with_reducible refine (spec_l1In.calls ((rd_T36 l0 x3_1).f2) 0 1000000 false _ A11.out).mono ?_
         rintro e w' ⟨rfl, ⟨nd, rfl⟩⟩
         refine ⟨_, rfl, ?_⟩
         refine hK.out _ _ ⟨(cb_ HB.out hw150_0), (cb_ HB.out hw150_1), (cb_ HB.out hw150_2), (cb_ HB.out hw152_0), (cb_ HB.out hw152_1), (cb_ HB.out hw152_2), (cb_ HB.out hw154_0), (cb_ HB.out hw154_1), (cb_ HB.out hw154_2), (cb_ HB.out hw155_0), (cb_ HB.out hw155_1), (cb_ HB.out hw155_2)⟩ (fun hHeld => ?_)
         clear hK K
         refine norm_ (a' := ?_) ?_ ?_
         rotate_left
         ·
          show Act.put _ (some 41) _ = _
          simp only [Act.put, P3_1, P3_2, P3_3, i64_w, i32_w]
          rfl
         refine pu_ 32 (some 42) M3_33 HT_ ?_
         refine pu_ 33 (some 43) M3_34 HT_ ?_
         refine pu_ 34 (some 44) M3_35 HT_ ?_
         refine pn_ 35 (some 45) M3_36 HT_ ?_
         refine pn_ 36 (some 46) M3_37 HT_ ?_
         refine pn_ 37 (some 47) M3_38 HT_ ?_
         refine pn_ 38 (some 48) M3_39 HT_ ?_
         refine pn_ 39 (some 49) M3_40 HT_ ?_
         refine pn_ 40 (some 50) M3_41 HT_ ?_
         refine pn_ 41 (some 51) M3_42 HT_ ?_
         refine pn_ 42 (some 52) M3_43 HT_ ?_
         refine pn_ 43 (some 53) M3_44 HT_ ?_
         refine pn_ 44 (some 54) M3_45 HT_ ?_
         refine pn_ 45 (some 55) M3_46 HT_ ?_
         refine pn_ 46 (some 56) M3_47 HT_ ?_
         refine pn_ 47 (some 57) M3_48 HT_ ?_
         refine pn_ 48 (some 58) M3_49 HT_ ?_
         refine pn_ 49 (some 59) M3_50 HT_ ?_
         refine pn_ 50 (some 60) M3_51 HT_ ?_
         refine pu_ 51 (some 61) M3_52 HT_ ?_
         refine done_ (done_of HT_.out (by kernel_rfl)) ?_
         try go_wp2
         go_ret
         exact ⟨by first | rfl | (simp [errW_none, errW_some] <;> rfl) | (simp [*, errW_none, errW_some] <;> rfl), hd_ HB.out⟩
      ·
       replace c7 := Bool.eq_false_iff.mpr c7
       subst c7
       have H1 : (some false) = some r := by rw [if_neg (show ¬ (false = true) by decide)] at H; exact H
       clear H
       have H := H1
       clear H1
       obtain rfl := Option.some.inj H
       try go_wp2
       have n0_ := Aside0.mk (below_drew1 HB.out)
       clear HB
       have HB := n0_
       clear n0_
       have p150 : 0 ≤ (x3_1 : Int) := of_decide_eq_true as_
       have q150 : x3_1 < (l0.length : Int) := of_decide_eq_true as_
       obtain ⟨ad150, A150_1, c150_1, e150, hx150_0, hx150_1, hx150_2, hl150_1, hi150_1⟩ := at_T36 HR0.out x3_1 p150 q150
       have hw150_2 := hx150_2
       have hw150_1 := hx150_1
       have hw150_0 := hx150_0
       cases e150
       replace hx150_0 := cb_ HB.out hx150_0
       replace hx150_1 := cb_ HB.out hx150_1
       replace hx150_2 := cb_ HB.out hx150_2
       have HR150_1 := Aside0.mk hi150_1
       have HC150_1 := Aside0.mk hl150_1
       clear hi150_1 hl150_1
       replace p150 := eq_true p150
       replace q150 := eq_true q150
       have p152 : 0 ≤ (x3_1 : Int) := of_decide_eq_true as_
       have q152 : x3_1 < (l0.length : Int) := of_decide_eq_true as_
       obtain ⟨ad152, A152_1, c152_1, e152, hx152_0, hx152_1, hx152_2, hl152_1, hi152_1⟩ := at_T36 HR0.out x3_1 p152 q152
       have hw152_2 := hx152_2
       have hw152_1 := hx152_1
       have hw152_0 := hx152_0
       obtain rfl : ad150 = ad152 := (by injection e152)
       replace hx152_0 := cb_ HB.out hx152_0
       replace hx152_1 := cb_ HB.out hx152_1
       replace hx152_2 := cb_ HB.out hx152_2
       have HR152_1 := Aside0.mk hi152_1
       have HC152_1 := Aside0.mk hl152_1
       clear hi152_1 hl152_1
       replace p152 := eq_true p152
       replace q152 := eq_true q152
       have ea_ := Option.some.inj (hx150_1.symm.trans hx152_1)
       injection ea_ with ea_ en_ ec_
       subst ea_
       subst ec_
       clear en_
       refine start_ (n := 52) (S := fun w' => q2_ w' (ad150.add ((x3_1).toNat * 3)) ((rd_T36 l0 x3_1).f0) A150_1 ((rd_T36 l0 x3_1).f1).length c150_1 ((rd_T36 l0 x3_1).f2) (q2e_ w' (ad150.add ((x3_1).toNat * 3)) ((rd_T36 l0 x3_1).f0) A150_1 ((rd_T36 l0 x3_1).f1).length c150_1 ((rd_T36 l0 x3_1).f2))) (ds := []) M3_0 (by kernel_rfl) rfl rfl ⟨(cb_ HB.out hw150_0), (cb_ HB.out hw150_1), (cb_ HB.out hw150_2), (cb_ HB.out hw152_0), (cb_ HB.out hw152_1), (cb_ HB.out hw152_2)⟩ (fun hHeld => ?_); refine with_tabW spec_AreSecrets.tab4 spec_AreSecrets.bits4 (fun HT_ HW_ => ?_)
       generalize wr.drew = w26 at HB HR150_1 HR152_1 hx150_0 hx150_1 hx150_2 hx152_0 hx152_1 hx152_2 hHeld ⊢
       refine pu_ 0 (some 10) M3_1 HT_ ?_
       refine pu_ 1 (some 11) M3_2 HT_ ?_
       refine pu_ 2 (some 12) M3_3 HT_ ?_
       refine pu_ 3 (some 13) M3_4 HT_ ?_
       refine tk_ 4 (some 14) M3_5 HT_ HW_ hHeld ?_
       refine one_ (i := 5) (N := some 15) M3_6 rfl rfl (one_of HT_.out (by kernel_rfl)) (by decide) (fun K hK => ?_)
       refine goes_ Try.func42 (by kernel_rfl) rfl #[.int .i64 ((rd_T36 l0 x3_1).f0), .int .i64 1, .int .i64 999] (by rfl) rfl rfl ma_ ?_
       with_reducible refine (spec_l1In.calls ((rd_T36 l0 x3_1).f0) 1 999 true _ A4.out).mono ?_
       rintro e w' ⟨rfl, ⟨nd, rfl⟩⟩
       refine ⟨_, rfl, ?_⟩
       refine hK.out _ _ ⟨(cb_ HB.out hw150_0), (cb_ HB.out hw150_1), (cb_ HB.out hw150_2), (cb_ HB.out hw152_0), (cb_ HB.out hw152_1), (cb_ HB.out hw152_2)⟩ (fun hHeld => ?_)
       clear hK K
       refine norm_ (a' := ?_) ?_ ?_
       rotate_left
       ·
        show Act.put _ (some 15) _ = _
        simp only [Act.put, P3_1, P3_2, P3_3, i64_w, i32_w]
        rfl
       refine pu_ 6 (some 16) M3_7 HT_ ?_
       refine pu_ 7 (some 17) M3_8 HT_ ?_
       refine pu_ 8 (some 18) M3_9 HT_ ?_
       refine pu_ 9 (some 19) M3_10 HT_ ?_
       refine pu_ 10 (some 20) M3_11 HT_ ?_
       refine pu_ 11 (some 21) M3_12 HT_ ?_
       refine tk_ 12 (some 22) M3_13 HT_ HW_ hHeld ?_
       refine one_ (i := 13) (N := some 23) M3_14 rfl rfl (one_of HT_.out (by kernel_rfl)) (by decide) (fun K hK => ?_)
       refine goes_ Try.func43 (by kernel_rfl) rfl #[.slice A150_1 ((rd_T36 l0 x3_1).f1).length c150_1] (by rfl) rfl rfl ma_ ?_
       with_reducible refine (spec_AreMarks.calls k1 _ _ ((rd_T36 l0 x3_1).f1) false _ ?side1 ?side2 A6.out).mono ?_
       (case side1 => repeat (first | exact (Kd.C_below HR152_1.out (hd_ HB.out)) | (with_reducible refine Kd.C_alloc ?_ _) | (with_reducible refine Kd.C_drewN ?_ _) | (with_reducible refine Kd.C_drew ?_)))
       (case side2 => exact HC152_1.out)
       rintro e w27 ⟨rfl, hb⟩
       refine ⟨_, rfl, ?_⟩
       have n0_ := Aside0.mk (below_step (hd_ HB.out) hb)
       clear HB
       have HB := n0_
       clear n0_
       (try clear hb)
       (try clear hb2)
       (try clear hk)
       (try clear hi)
       refine hK.out _ _ ⟨(cb_ HB.out hw150_0), (cb_ HB.out hw150_1), (cb_ HB.out hw150_2), (cb_ HB.out hw152_0), (cb_ HB.out hw152_1), (cb_ HB.out hw152_2)⟩ (fun hHeld => ?_)
       clear hK K
       refine norm_ (a' := ?_) ?_ ?_
       rotate_left
       ·
        show Act.put _ (some 23) _ = _
        simp only [Act.put, P3_1, P3_2, P3_3, i64_w, i32_w]
        rfl
       refine pu_ 14 (some 24) M3_15 HT_ ?_
       refine pu_ 15 (some 25) M3_16 HT_ ?_
       refine pu_ 16 (some 26) M3_17 HT_ ?_
       refine pn_ 17 (some 27) M3_18 HT_ ?_
       refine pn_ 18 (some 28) M3_19 HT_ ?_
       refine pn_ 19 (some 29) M3_20 HT_ ?_
       refine pn_ 20 (some 30) M3_21 HT_ ?_
       refine pn_ 21 (some 31) M3_22 HT_ ?_
       refine pn_ 22 (some 32) M3_23 HT_ ?_
       refine pn_ 23 (some 33) M3_24 HT_ ?_
       refine pu_ 24 (some 34) M3_25 HT_ ?_
       refine pu_ 25 (some 35) M3_26 HT_ ?_
       refine pn_ 26 (some 36) M3_27 HT_ ?_
       refine pn_ 27 (some 37) M3_28 HT_ ?_
       refine pn_ 28 (some 38) M3_29 HT_ ?_
       refine pn_ 29 (some 39) M3_30 HT_ ?_
       refine pn_ 30 (some 40) M3_31 HT_ ?_
       refine pn_ 31 (some 41) M3_32 HT_ ?_
       refine pn_ 32 (some 42) M3_33 HT_ ?_
       refine pu_ 33 (some 43) M3_34 HT_ ?_
       refine pu_ 34 (some 44) M3_35 HT_ ?_
       refine pn_ 35 (some 45) M3_36 HT_ ?_
       refine pn_ 36 (some 46) M3_37 HT_ ?_
       refine pn_ 37 (some 47) M3_38 HT_ ?_
       refine pn_ 38 (some 48) M3_39 HT_ ?_
       refine pn_ 39 (some 49) M3_40 HT_ ?_
       refine pn_ 40 (some 50) M3_41 HT_ ?_
       refine pn_ 41 (some 51) M3_42 HT_ ?_
       refine pn_ 42 (some 52) M3_43 HT_ ?_
       refine pn_ 43 (some 53) M3_44 HT_ ?_
       refine pn_ 44 (some 54) M3_45 HT_ ?_
       refine pn_ 45 (some 55) M3_46 HT_ ?_
       refine pn_ 46 (some 56) M3_47 HT_ ?_
       refine pn_ 47 (some 57) M3_48 HT_ ?_
       refine pn_ 48 (some 58) M3_49 HT_ ?_
       refine pn_ 49 (some 59) M3_50 HT_ ?_
       refine pn_ 50 (some 60) M3_51 HT_ ?_
       refine pu_ 51 (some 61) M3_52 HT_ ?_
       refine done_ (done_of HT_.out (by kernel_rfl)) ?_
       try go_wp2
       go_ret
       exact ⟨by first | rfl | (simp [errW_none, errW_some] <;> rfl) | (simp [*, errW_none, errW_some] <;> rfl), hd_ HB.out⟩
     ·
      replace c5 := Bool.eq_false_iff.mpr c5
      subst c5
      have H1 : (some false) = some r := by rw [if_neg (show ¬ (false = true) by decide)] at H; exact H
      clear H
      have H := H1
      clear H1
      obtain rfl := Option.some.inj H
      try go_wp2
      have n0_ := Aside0.mk (below_drew1 HB.out)
      clear HB
      have HB := n0_
      clear n0_
      have p150 : 0 ≤ (x3_1 : Int) := of_decide_eq_true as_
      have q150 : x3_1 < (l0.length : Int) := of_decide_eq_true as_
      obtain ⟨ad150, A150_1, c150_1, e150, hx150_0, hx150_1, hx150_2, hl150_1, hi150_1⟩ := at_T36 HR0.out x3_1 p150 q150
      have hw150_2 := hx150_2
      have hw150_1 := hx150_1
      have hw150_0 := hx150_0
      cases e150
      replace hx150_0 := cb_ HB.out hx150_0
      replace hx150_1 := cb_ HB.out hx150_1
      replace hx150_2 := cb_ HB.out hx150_2
      have HR150_1 := Aside0.mk hi150_1
      have HC150_1 := Aside0.mk hl150_1
      clear hi150_1 hl150_1
      replace p150 := eq_true p150
      replace q150 := eq_true q150
      refine start_ (n := 52) (S := fun w' => q2e_ w' (ad150.add ((x3_1).toNat * 3)) ((rd_T36 l0 x3_1).f0) A150_1 ((rd_T36 l0 x3_1).f1).length c150_1 ((rd_T36 l0 x3_1).f2)) (ds := []) M3_0 (by kernel_rfl) rfl rfl ⟨(cb_ HB.out hw150_0), (cb_ HB.out hw150_1), (cb_ HB.out hw150_2)⟩ (fun hHeld => ?_); refine with_tabW spec_AreSecrets.tab4 spec_AreSecrets.bits4 (fun HT_ HW_ => ?_)
      generalize wr.drew = w28 at HB HR150_1 hx150_0 hx150_1 hx150_2 hHeld ⊢
      refine pu_ 0 (some 10) M3_1 HT_ ?_
      refine pu_ 1 (some 11) M3_2 HT_ ?_
      refine pu_ 2 (some 12) M3_3 HT_ ?_
      refine pu_ 3 (some 13) M3_4 HT_ ?_
      refine tk_ 4 (some 14) M3_5 HT_ HW_ hHeld ?_
      refine one_ (i := 5) (N := some 15) M3_6 rfl rfl (one_of HT_.out (by kernel_rfl)) (by decide) (fun K hK => ?_)
      refine goes_ Try.func42 (by kernel_rfl) rfl #[.int .i64 ((rd_T36 l0 x3_1).f0), .int .i64 1, .int .i64 999] (by rfl) rfl rfl ma_ ?_
      with_reducible refine (spec_l1In.calls ((rd_T36 l0 x3_1).f0) 1 999 false _ A4.out).mono ?_
      rintro e w' ⟨rfl, ⟨nd, rfl⟩⟩
      refine ⟨_, rfl, ?_⟩
      refine hK.out _ _ ⟨(cb_ HB.out hw150_0), (cb_ HB.out hw150_1), (cb_ HB.out hw150_2)⟩ (fun hHeld => ?_)
      clear hK K
      refine norm_ (a' := ?_) ?_ ?_
      rotate_left
      ·
       show Act.put _ (some 15) _ = _
       simp only [Act.put, P3_1, P3_2, P3_3, i64_w, i32_w]
       rfl
      refine pu_ 6 (some 16) M3_7 HT_ ?_
      refine pu_ 7 (some 17) M3_8 HT_ ?_
      refine pn_ 8 (some 18) M3_9 HT_ ?_
      refine pn_ 9 (some 19) M3_10 HT_ ?_
      refine pn_ 10 (some 20) M3_11 HT_ ?_
      refine pn_ 11 (some 21) M3_12 HT_ ?_
      refine pn_ 12 (some 22) M3_13 HT_ ?_
      refine pn_ 13 (some 23) M3_14 HT_ ?_
      refine pn_ 14 (some 24) M3_15 HT_ ?_
      refine pu_ 15 (some 25) M3_16 HT_ ?_
      refine pu_ 16 (some 26) M3_17 HT_ ?_
      refine pn_ 17 (some 27) M3_18 HT_ ?_
      refine pn_ 18 (some 28) M3_19 HT_ ?_
      refine pn_ 19 (some 29) M3_20 HT_ ?_
      refine pn_ 20 (some 30) M3_21 HT_ ?_
      refine pn_ 21 (some 31) M3_22 HT_ ?_
      refine pn_ 22 (some 32) M3_23 HT_ ?_
      refine pn_ 23 (some 33) M3_24 HT_ ?_
      refine pu_ 24 (some 34) M3_25 HT_ ?_
      refine pu_ 25 (some 35) M3_26 HT_ ?_
      refine pn_ 26 (some 36) M3_27 HT_ ?_
      refine pn_ 27 (some 37) M3_28 HT_ ?_
      refine pn_ 28 (some 38) M3_29 HT_ ?_
      refine pn_ 29 (some 39) M3_30 HT_ ?_
      refine pn_ 30 (some 40) M3_31 HT_ ?_
      refine pn_ 31 (some 41) M3_32 HT_ ?_
      refine pn_ 32 (some 42) M3_33 HT_ ?_
      refine pu_ 33 (some 43) M3_34 HT_ ?_
      refine pu_ 34 (some 44) M3_35 HT_ ?_
      refine pn_ 35 (some 45) M3_36 HT_ ?_
      refine pn_ 36 (some 46) M3_37 HT_ ?_
      refine pn_ 37 (some 47) M3_38 HT_ ?_
      refine pn_ 38 (some 48) M3_39 HT_ ?_
      refine pn_ 39 (some 49) M3_40 HT_ ?_
      refine pn_ 40 (some 50) M3_41 HT_ ?_
      refine pn_ 41 (some 51) M3_42 HT_ ?_
      refine pn_ 42 (some 52) M3_43 HT_ ?_
      refine pn_ 43 (some 53) M3_44 HT_ ?_
      refine pn_ 44 (some 54) M3_45 HT_ ?_
      refine pn_ 45 (some 55) M3_46 HT_ ?_
      refine pn_ 46 (some 56) M3_47 HT_ ?_
      refine pn_ 47 (some 57) M3_48 HT_ ?_
      refine pn_ 48 (some 58) M3_49 HT_ ?_
      refine pn_ 49 (some 59) M3_50 HT_ ?_
      refine pn_ 50 (some 60) M3_51 HT_ ?_
      refine pu_ 51 (some 61) M3_52 HT_ ?_
      refine done_ (done_of HT_.out (by kernel_rfl)) ?_
      try go_wp2
      go_ret
      exact ⟨by first | rfl | (simp [errW_none, errW_some] <;> rfl) | (simp [*, errW_none, errW_some] <;> rfl), hd_ HB.out⟩
    ·
     rw [if_neg c3] at H
     exact absurd H (by simp)
   ·
    rw [if_neg c2] at H
    have c2b0 : decide (x3_1 < (l0.length : Int)) = false := decide_eq_false c2
    clear c2
    obtain rfl := Option.some.inj H
    go_wp2
    go_ret
    exact ⟨by first | rfl | (simp [errW_none, errW_some] <;> rfl) | (simp [*, errW_none, errW_some] <;> rfl), hd_ HB.out⟩

end Go.Proofs.Ytfghapankndioaa.PFnExactPutSecret
