-- Written for this claim by a program (a printer turned to this claim); Lean checks it.
import Derived.Test.YtglpmjcknhcjcaaPFnTwinsx0
import Derived.Test.YtglpmjcknhcjcaaPFnTwinsx2
import Derived.Test.YtglpmjcknhcjcaaPFnTwinsx3
import Derived.Test.YtglpmjcknhcjcaaPFnTwinsx6
import Derived.Test.YtglpmjcknhcjcaaPFnTwinsx9
import Derived.Test.YtglpmjcknhcjcaaPFnTwinsx11
import Derived.Test.YtglpmjcknhcjcaaPFnTwinsx15
import Derived.Test.YtglpmjcknhcjcaaPFnTwinsx18
import Derived.Test.YtglpmjcknhcjcaaPFnTwinsx20
namespace Go.Proofs.Ytglpmjcknhcjcaa.PFnTwins
open Go.RowKit Go.Proofs.YtglpmjcknhcjcaaW.PrintWords Go.Proofs.YtglpmjcknhcjcaaW.PrintLast Go.Proofs.YtglpmjcknhcjcaaW.PrintMore
attribute [local go_sem] max2_int min2_int max_two min_two max_three min_three max_four min_four   -- for this text's walks alone
set_option linter.unusedVariables false
set_option linter.unusedSimpArgs false

/-! ### laws_FnTwins: function 7 -/
mutual
def laws_FnTwins.j0 : Nat → List Int → Bool → Option (Bool)
 | 0, _, _ => none
 | k + 1, x0, x34 => if x34 = true then (some false) else ((spec_DrawTwinsOf.f k x0).bind fun t944 => ((impl_TwinsOf.f k t944).bind fun t947 => ((impl_DropTwins.f k t944).bind fun t950 => ((spec_DropTwins.f k t944).bind fun t953 => (if (t950.length : Int) = (t953.length : Int) then ((laws_ascends.f k t947).bind fun t956 => (if t956 = true then (if (t950.length : Int) = (wrap64 ((t944.length : Int) - (t947.length : Int))) then (if (t947.length : Int) > 0 then ((impl_AreFinds.f k t944).bind fun t957 => (laws_FnTwins.j1 k x0 t944 t950 (!t957))) else (laws_FnTwins.j1 k x0 t944 t950 false)) else ((impl_AreFinds.f k t944).bind fun t958 => (if t958 = true then (laws_FnTwins.j1 k x0 t944 t950 true) else (if (t947.length : Int) > 0 then ((impl_AreFinds.f k t944).bind fun t959 => (laws_FnTwins.j1 k x0 t944 t950 (!t959))) else (laws_FnTwins.j1 k x0 t944 t950 false))))) else (laws_FnTwins.j1 k x0 t944 t950 true))) else (some false))))))
def laws_FnTwins.j1 : Nat → List Int → List (S58) → List (S58) → Bool → Option (Bool)
 | 0, _, _, _, _ => none
 | k + 1, x0, x5, x7, x73 => if x73 = true then (some false) else (laws_FnTwins.l0 k x0 x5 x7 0)
def laws_FnTwins.l0 : Nat → List Int → List (S58) → List (S58) → Int → Option (Bool)
 | 0, _, _, _, _ => none
 | k + 1, x0, x5, x7, x8 => if x8 < (x7.length : Int) then (laws_FnTwins.l1 k x0 x5 x7 x8 0) else ((spec_DrawSameOwner.f k x0).bind fun bt964 => ((impl_SameOwner.f k bt964.1 bt964.2.1 bt964.2.2.1 bt964.2.2.2.1 bt964.2.2.2.2.1 bt964.2.2.2.2.2.1 bt964.2.2.2.2.2.2.1 bt964.2.2.2.2.2.2.2.1 bt964.2.2.2.2.2.2.2.2.1 bt964.2.2.2.2.2.2.2.2.2.1 bt964.2.2.2.2.2.2.2.2.2.2.1 bt964.2.2.2.2.2.2.2.2.2.2.2.1 bt964.2.2.2.2.2.2.2.2.2.2.2.2.1 bt964.2.2.2.2.2.2.2.2.2.2.2.2.2.1 bt964.2.2.2.2.2.2.2.2.2.2.2.2.2.2.1 bt964.2.2.2.2.2.2.2.2.2.2.2.2.2.2.2).bind fun t990 => ((impl_SameOwner.f k bt964.2.2.2.2.2.2.2.2.1 bt964.2.2.2.2.2.2.2.2.2.1 bt964.2.2.2.2.2.2.2.2.2.2.1 bt964.2.2.2.2.2.2.2.2.2.2.2.1 bt964.2.2.2.2.2.2.2.2.2.2.2.2.1 bt964.2.2.2.2.2.2.2.2.2.2.2.2.2.1 bt964.2.2.2.2.2.2.2.2.2.2.2.2.2.2.1 bt964.2.2.2.2.2.2.2.2.2.2.2.2.2.2.2 bt964.1 bt964.2.1 bt964.2.2.1 bt964.2.2.2.1 bt964.2.2.2.2.1 bt964.2.2.2.2.2.1 bt964.2.2.2.2.2.2.1 bt964.2.2.2.2.2.2.2.1).bind fun t991 => (if (t990 != t991) = true then (some false) else ((spec_DrawGroupReports.f k x0).bind fun t992 => ((impl_GroupReports.f k t992).bind fun t995 => (laws_FnTwins.l2 k t992 t995 0)))))))
def laws_FnTwins.l1 : Nat → List Int → List (S58) → List (S58) → Int → Int → Option (Bool)
 | 0, _, _, _, _, _ => none
 | k + 1, x0, x5, x7, x8, x9 => if x9 < x8 then ((impl_AreFinds.f k x5).bind fun t960 => (laws_FnTwins.j4 k x0 x5 x7 x8 x9 t960)) else (laws_FnTwins.j4 k x0 x5 x7 x8 x9 false)
def laws_FnTwins.j4 : Nat → List Int → List (S58) → List (S58) → Int → Int → Bool → Option (Bool)
 | 0, _, _, _, _, _, _ => none
 | k + 1, x0, x5, x7, x8, x9, x86 => if x86 = true then (if 0 ≤ x8 then (if x8 < (x7.length : Int) then (if 0 ≤ x9 then (if x9 < (x7.length : Int) then ((impl_AreTwins.f ((rd_T58 x7 x8).f0.f0) ((rd_T58 x7 x8).f0.f1) ((rd_T58 x7 x8).f0.f2) ((rd_T58 x7 x8).f0.f3) ((rd_T58 x7 x8).f0.f4) ((rd_T58 x7 x8).f1) ((rd_T58 x7 x8).f2) ((rd_T58 x7 x8).f3) ((rd_T58 x7 x9).f0.f0) ((rd_T58 x7 x9).f0.f1) ((rd_T58 x7 x9).f0.f2) ((rd_T58 x7 x9).f0.f3) ((rd_T58 x7 x9).f0.f4) ((rd_T58 x7 x9).f1) ((rd_T58 x7 x9).f2) ((rd_T58 x7 x9).f3)).bind fun t963 => (if t963 = true then (some false) else (laws_FnTwins.l1 k x0 x5 x7 x8 (wrap64 (x9 + 1))))) else (none)) else (none)) else (none)) else (none)) else (laws_FnTwins.l0 k x0 x5 x7 (wrap64 (x8 + 1)))
def laws_FnTwins.l2 : Nat → List (S41) → List Int → Int → Option (Bool)
 | 0, _, _, _ => none
 | k + 1, x12, x13, x14 => if x14 < (x13.length : Int) then (if 0 ≤ x14 then ((impl_FindReport.f x12 (rd x13 x14)).bind fun t999 => (if t999 < 0 then (some false) else (if t999 > x14 then (some false) else (if 0 ≤ t999 then (if t999 < (x13.length : Int) then (if (rd x13 t999) = (rd x13 x14) then (if t999 = x14 then (laws_FnTwins.l2 k x12 x13 (wrap64 (x14 + 1))) else (if t999 < (x12.length : Int) then (if x14 < (x12.length : Int) then ((impl_SameOwner.f k ((rd_T41 x12 t999).f0) ((rd_T41 x12 t999).f1) ((rd_T41 x12 t999).f2) ((rd_T41 x12 t999).f3) ((rd_T41 x12 t999).f4) ((rd_T41 x12 t999).f5) ((rd_T41 x12 t999).f6.f0) ((rd_T41 x12 t999).f6.f1) ((rd_T41 x12 x14).f0) ((rd_T41 x12 x14).f1) ((rd_T41 x12 x14).f2) ((rd_T41 x12 x14).f3) ((rd_T41 x12 x14).f4) ((rd_T41 x12 x14).f5) ((rd_T41 x12 x14).f6.f0) ((rd_T41 x12 x14).f6.f1)).bind fun t1004 => (if t1004 = true then (laws_FnTwins.l2 k x12 x13 (wrap64 (x14 + 1))) else (some false))) else (none)) else (none))) else (some false)) else (none)) else (none))))) else (none)) else (if (x13.length : Int) = (x12.length : Int) then (some true) else (some ((x13.length : Int) == 0)))
end
def laws_FnTwins.f (k : Nat) (l0 : List Int) : Option (Bool) := (laws_big.f l0).bind fun t922 => (if t922 = true then (some true) else ((spec_DrawAreTwins.f k l0).bind fun bt923 => ((impl_AreTwins.f bt923.1 bt923.2.1 bt923.2.2.1 bt923.2.2.2.1 bt923.2.2.2.2.1 bt923.2.2.2.2.2.1 bt923.2.2.2.2.2.2.1 bt923.2.2.2.2.2.2.2.1 bt923.2.2.2.2.2.2.2.2.1 bt923.2.2.2.2.2.2.2.2.2.1 bt923.2.2.2.2.2.2.2.2.2.2.1 bt923.2.2.2.2.2.2.2.2.2.2.2.1 bt923.2.2.2.2.2.2.2.2.2.2.2.2.1 bt923.2.2.2.2.2.2.2.2.2.2.2.2.2.1 bt923.2.2.2.2.2.2.2.2.2.2.2.2.2.2.1 bt923.2.2.2.2.2.2.2.2.2.2.2.2.2.2.2).bind fun t941 => ((impl_AreTwins.f bt923.2.2.2.2.2.2.2.2.1 bt923.2.2.2.2.2.2.2.2.2.1 bt923.2.2.2.2.2.2.2.2.2.2.1 bt923.2.2.2.2.2.2.2.2.2.2.2.1 bt923.2.2.2.2.2.2.2.2.2.2.2.2.1 bt923.2.2.2.2.2.2.2.2.2.2.2.2.2.1 bt923.2.2.2.2.2.2.2.2.2.2.2.2.2.2.1 bt923.2.2.2.2.2.2.2.2.2.2.2.2.2.2.2 bt923.1 bt923.2.1 bt923.2.2.1 bt923.2.2.2.1 bt923.2.2.2.2.1 bt923.2.2.2.2.2.1 bt923.2.2.2.2.2.2.1 bt923.2.2.2.2.2.2.2.1).bind fun t942 => (if (t941 != t942) = true then (laws_FnTwins.j0 k l0 true) else ((impl_AreTwins.f bt923.1 bt923.2.1 bt923.2.2.1 bt923.2.2.2.1 bt923.2.2.2.2.1 bt923.2.2.2.2.2.1 bt923.2.2.2.2.2.2.1 bt923.2.2.2.2.2.2.2.1 bt923.1 bt923.2.1 bt923.2.2.1 bt923.2.2.2.1 bt923.2.2.2.2.1 bt923.2.2.2.2.2.1 bt923.2.2.2.2.2.2.1 bt923.2.2.2.2.2.2.2.1).bind fun t943 => (laws_FnTwins.j0 k l0 t943)))))))
theorem laws_FnTwins.mono_l : ∀ k, (∀ y0 y1, LeO (laws_FnTwins.j0 k y0 y1) (laws_FnTwins.j0 (k + 1) y0 y1)) ∧ (∀ y0 y1 y2 y3, LeO (laws_FnTwins.j1 k y0 y1 y2 y3) (laws_FnTwins.j1 (k + 1) y0 y1 y2 y3)) ∧ (∀ y0 y1 y2 y3, LeO (laws_FnTwins.l0 k y0 y1 y2 y3) (laws_FnTwins.l0 (k + 1) y0 y1 y2 y3)) ∧ (∀ y0 y1 y2 y3 y4, LeO (laws_FnTwins.l1 k y0 y1 y2 y3 y4) (laws_FnTwins.l1 (k + 1) y0 y1 y2 y3 y4)) ∧ (∀ y0 y1 y2 y3 y4 y5, LeO (laws_FnTwins.j4 k y0 y1 y2 y3 y4 y5) (laws_FnTwins.j4 (k + 1) y0 y1 y2 y3 y4 y5)) ∧ (∀ y0 y1 y2, LeO (laws_FnTwins.l2 k y0 y1 y2) (laws_FnTwins.l2 (k + 1) y0 y1 y2))
 | 0 => ⟨fun _ _ r h => by simp [laws_FnTwins.j0] at h, fun _ _ _ _ r h => by simp [laws_FnTwins.j1] at h, fun _ _ _ _ r h => by simp [laws_FnTwins.l0] at h, fun _ _ _ _ _ r h => by simp [laws_FnTwins.l1] at h, fun _ _ _ _ _ _ r h => by simp [laws_FnTwins.j4] at h, fun _ _ _ r h => by simp [laws_FnTwins.l2] at h⟩
 | k + 1 => by
  obtain ⟨ih0, ih1, ih2, ih3, ih4, ih5⟩ := laws_FnTwins.mono_l k
  refine ⟨?_, ?_, ?_, ?_, ?_, ?_⟩
  ·
   intro y0 y1
   unfold laws_FnTwins.j0
   have jh0 := @impl_AreFinds.mono
   have jh1 := @impl_DropTwins.mono
   have jh2 := @impl_GroupReports.mono
   have jh3 := @impl_SameOwner.mono
   have jh4 := @impl_TwinsOf.mono
   have jh5 := @laws_ascends.mono
   have jh6 := @spec_DrawAreTwins.mono
   have jh7 := @spec_DrawGroupReports.mono
   have jh8 := @spec_DrawSameOwner.mono
   have jh9 := @spec_DrawTwinsOf.mono
   have jh10 := @spec_DropTwins.mono
   exact mo_
  ·
   intro y0 y1 y2 y3
   unfold laws_FnTwins.j1
   have jh0 := @impl_AreFinds.mono
   have jh1 := @impl_DropTwins.mono
   have jh2 := @impl_GroupReports.mono
   have jh3 := @impl_SameOwner.mono
   have jh4 := @impl_TwinsOf.mono
   have jh5 := @laws_ascends.mono
   have jh6 := @spec_DrawAreTwins.mono
   have jh7 := @spec_DrawGroupReports.mono
   have jh8 := @spec_DrawSameOwner.mono
   have jh9 := @spec_DrawTwinsOf.mono
   have jh10 := @spec_DropTwins.mono
   exact mo_
  ·
   intro y0 y1 y2 y3
   unfold laws_FnTwins.l0
   have jh0 := @impl_AreFinds.mono
   have jh1 := @impl_DropTwins.mono
   have jh2 := @impl_GroupReports.mono
   have jh3 := @impl_SameOwner.mono
   have jh4 := @impl_TwinsOf.mono
   have jh5 := @laws_ascends.mono
   have jh6 := @spec_DrawAreTwins.mono
   have jh7 := @spec_DrawGroupReports.mono
   have jh8 := @spec_DrawSameOwner.mono
   have jh9 := @spec_DrawTwinsOf.mono
   have jh10 := @spec_DropTwins.mono
   exact mo_
  ·
   intro y0 y1 y2 y3 y4
   unfold laws_FnTwins.l1
   have jh0 := @impl_AreFinds.mono
   have jh1 := @impl_DropTwins.mono
   have jh2 := @impl_GroupReports.mono
   have jh3 := @impl_SameOwner.mono
   have jh4 := @impl_TwinsOf.mono
   have jh5 := @laws_ascends.mono
   have jh6 := @spec_DrawAreTwins.mono
   have jh7 := @spec_DrawGroupReports.mono
   have jh8 := @spec_DrawSameOwner.mono
   have jh9 := @spec_DrawTwinsOf.mono
   have jh10 := @spec_DropTwins.mono
   exact mo_
  ·
   intro y0 y1 y2 y3 y4 y5
   unfold laws_FnTwins.j4
   have jh0 := @impl_AreFinds.mono
   have jh1 := @impl_DropTwins.mono
   have jh2 := @impl_GroupReports.mono
   have jh3 := @impl_SameOwner.mono
   have jh4 := @impl_TwinsOf.mono
   have jh5 := @laws_ascends.mono
   have jh6 := @spec_DrawAreTwins.mono
   have jh7 := @spec_DrawGroupReports.mono
   have jh8 := @spec_DrawSameOwner.mono
   have jh9 := @spec_DrawTwinsOf.mono
   have jh10 := @spec_DropTwins.mono
   exact mo_
  ·
   intro y0 y1 y2
   unfold laws_FnTwins.l2
   have jh0 := @impl_AreFinds.mono
   have jh1 := @impl_DropTwins.mono
   have jh2 := @impl_GroupReports.mono
   have jh3 := @impl_SameOwner.mono
   have jh4 := @impl_TwinsOf.mono
   have jh5 := @laws_ascends.mono
   have jh6 := @spec_DrawAreTwins.mono
   have jh7 := @spec_DrawGroupReports.mono
   have jh8 := @spec_DrawSameOwner.mono
   have jh9 := @spec_DrawTwinsOf.mono
   have jh10 := @spec_DropTwins.mono
   exact mo_
theorem laws_FnTwins.mono : ∀ a0 k, LeO (laws_FnTwins.f k a0) (laws_FnTwins.f (k + 1) a0) := by
 intro a0 k
 obtain ⟨ih0, ih1, ih2, ih3, ih4, ih5⟩ := laws_FnTwins.mono_l k
 unfold laws_FnTwins.f
 have jh0 := @impl_AreFinds.mono
 have jh1 := @impl_DropTwins.mono
 have jh2 := @impl_GroupReports.mono
 have jh3 := @impl_SameOwner.mono
 have jh4 := @impl_TwinsOf.mono
 have jh5 := @laws_ascends.mono
 have jh6 := @spec_DrawAreTwins.mono
 have jh7 := @spec_DrawGroupReports.mono
 have jh8 := @spec_DrawSameOwner.mono
 have jh9 := @spec_DrawTwinsOf.mono
 have jh10 := @spec_DropTwins.mono
 exact mo_
def laws_FnTwins.T4 : Bool × List (List Nat × List Nat) := (true, [([], []), ([], []), ([0, 1], [0, 1]), ([], []), ([], []), ([3, 4, 2], [3, 4]), ([2, 5], [2, 5]), ([6, 5], [6]), ([7], [7]), ([7], [7]), ([8, 9, 7, 7], [7, 8, 9]), ([7, 10], [7, 10])])
def laws_FnTwins.B4 : List Nat := [0, 0, 3, 0, 0, 31, 63, 127, 255, 255, 1023, 2047]
theorem laws_FnTwins.tab4 : rtab .any (opsOf Try.f7 4) = laws_FnTwins.T4 := by kernel_rfl
theorem laws_FnTwins.bits4 : waitsOk laws_FnTwins.T4.2 laws_FnTwins.B4 = true := by kernel_rfl
def laws_FnTwins.T19 : Bool × List (List Nat × List Nat) := (true, [([], []), ([], []), ([0, 1], [0, 1]), ([2], [2]), ([], []), ([], []), ([4, 5], [4, 5]), ([6], [6]), ([3, 7], [3, 7])])
def laws_FnTwins.B19 : List Nat := [0, 0, 3, 7, 0, 0, 48, 112, 255]
theorem laws_FnTwins.tab19 : rtab .any (opsOf Try.f7 19) = laws_FnTwins.T19 := by kernel_rfl
theorem laws_FnTwins.bits19 : waitsOk laws_FnTwins.T19.2 laws_FnTwins.B19 = true := by kernel_rfl
def laws_FnTwins.T30 : Bool × List (List Nat × List Nat) := (true, [([], []), ([0], [0]), ([1], [1]), ([2], [2]), ([2], [2]), ([3, 4, 2], [2, 3, 4]), ([2, 5], [2, 5]), ([6, 2], [6]), ([7], [7]), ([7], [7]), ([8, 9, 7], [7, 8, 9]), ([10, 7], [7, 10]), ([7], [7]), ([7], [7]), ([12, 13, 7], [7, 12, 13]), ([14, 7], [7, 14]), ([11, 15, 7], [7, 11, 15]), ([7, 16], [7, 16]), ([17, 7], [17]), ([18], [18]), ([18], [18]), ([19, 20, 18], [18, 19, 20]), ([21, 18, 18], [18, 21]), ([22], [22]), ([22], [22]), ([23, 24, 22], [22, 23, 24]), ([25, 22], [22, 25]), ([22], [22]), ([22], [22]), ([27, 28, 22], [22, 27, 28]), ([29, 22], [22, 29]), ([26, 30, 22, 22], [22, 26, 30]), ([31, 22], [22, 31]), ([22, 32, 18], [18, 22, 32]), ([18, 33], [18, 33])])
def laws_FnTwins.B30 : List Nat := [0, 1, 3, 7, 7, 31, 63, 127, 255, 255, 1023, 2047, 255, 255, 12543, 28927, 65535, 131071, 262143, 524287, 524287, 2097151, 4194303, 8388607, 8388607, 33554431, 67108863, 8388607, 8388607, 411041791, 947912703, 2147483647, 4294967295, 8589934591, 17179869183]
theorem laws_FnTwins.tab30 : rtab .any (opsOf Try.f7 30) = laws_FnTwins.T30 := by kernel_rfl
theorem laws_FnTwins.bits30 : waitsOk laws_FnTwins.T30.2 laws_FnTwins.B30 = true := by kernel_rfl
abbrev M8_0 := bm_ 12 0
abbrev M8_1 := bm_ 12 1
abbrev M8_2 := bm_ 12 3
abbrev M8_3 := bm_ 12 11
abbrev M8_4 := bm_ 12 27
abbrev M8_5 := bm_ 12 31
abbrev M8_6 := bm_ 12 63
abbrev M8_7 := bm_ 12 127
abbrev M8_8 := bm_ 12 255
abbrev M8_9 := bm_ 12 511
abbrev M8_10 := bm_ 12 1023
abbrev M8_11 := bm_ 12 2047
abbrev M8_12 := bm_ 12 4095
abbrev M8_13 := bm_ 9 0
abbrev M8_14 := bm_ 9 1
abbrev M8_15 := bm_ 9 3
abbrev M8_16 := bm_ 9 7
abbrev M8_17 := bm_ 9 23
abbrev M8_18 := bm_ 9 55
abbrev M8_19 := bm_ 9 119
abbrev M8_20 := bm_ 9 127
abbrev M8_21 := bm_ 9 255
abbrev M8_22 := bm_ 9 511
abbrev M8_23 := bm_ 35 0
abbrev M8_24 := bm_ 35 1
abbrev M8_25 := bm_ 35 3
abbrev M8_26 := bm_ 35 7
abbrev M8_27 := bm_ 35 15
abbrev M8_28 := bm_ 35 31
abbrev M8_29 := bm_ 35 63
abbrev M8_30 := bm_ 35 127
abbrev M8_31 := bm_ 35 255
abbrev M8_32 := bm_ 35 511
abbrev M8_33 := bm_ 35 1023
abbrev M8_34 := bm_ 35 2047
abbrev M8_35 := bm_ 35 6143
abbrev M8_36 := bm_ 35 14335
abbrev M8_37 := bm_ 35 30719
abbrev M8_38 := bm_ 35 32767
abbrev M8_39 := bm_ 35 65535
abbrev M8_40 := bm_ 35 131071
abbrev M8_41 := bm_ 35 262143
abbrev M8_42 := bm_ 35 524287
abbrev M8_43 := bm_ 35 1048575
abbrev M8_44 := bm_ 35 2097151
abbrev M8_45 := bm_ 35 4194303
abbrev M8_46 := bm_ 35 8388607
abbrev M8_47 := bm_ 35 16777215
abbrev M8_48 := bm_ 35 33554431
abbrev M8_49 := bm_ 35 67108863
abbrev M8_50 := bm_ 35 134217727
abbrev M8_51 := bm_ 35 268435455
abbrev M8_52 := bm_ 35 536870911
abbrev M8_53 := bm_ 35 1073741823
abbrev M8_54 := bm_ 35 2147483647
abbrev M8_55 := bm_ 35 4294967295
abbrev M8_56 := bm_ 35 8589934591
abbrev M8_57 := bm_ 35 17179869183
abbrev M8_58 := bm_ 35 34359738367
abbrev M8_59 := bm_ 35 201326591
abbrev M8_60 := bm_ 35 469762047
abbrev M8_61 := bm_ 35 1006632959
theorem P8_1 {α : Type} (l : List α) (i : Nat) (a : α) : l.toArray.setIfInBounds i a = (l.set i a).toArray := List.setIfInBounds_toArray l i a
theorem P8_2 {α : Type} (x : α) (l : List α) (a : α) : (x :: l).set 0 a = a :: l := List.set_cons_zero
theorem P8_3 {α : Type} (x : α) (l : List α) (n : Nat) (a : α) : (x :: l).set (n + 1) a = x :: l.set n a := List.set_cons_succ
set_option maxHeartbeats 8000000 in
set_option maxRecDepth 100000 in
theorem laws_FnTwins.calls (k : Nat) (A0 : Option Addr) (c0 : Nat) (l0 : List Int) (w : World) (hr0 : Kd.C (Kd.int .u8) w A0 l0.length l0) (hc0 : l0.length ≤ c0) (h : laws_FnTwins.f k l0 = some true) :
  Calls Try.prog 7 #[.slice A0 l0.length c0] w fun e w' => e = .returned (.bool true) ∧ Below w.heap.size w w' := by
 have hu58 := Try.underlying58
 have hu41 := Try.underlying41
 have HR0 := o_ hr0
 have HC0 := o_ hc0
 clear hr0 hc0
 have HB := o_ (Below.refl w.heap.size w)
 have H := h
 unfold laws_FnTwins.f at H
 clear h
 obtain ⟨t922, A2, H⟩ := ob_ H
 try dsimp only at H
 by_cases c3 : t922 = true
 ·
  subst c3
  have H1 : (some true : Option Bool) = some true := rfl
  clear H
  have H := H1
  clear H1
  first | (obtain rfl := Option.some.inj H) | (have Hr_ := Option.some.inj H; clear H)
  go_enter Try.func7, Try.ntmps7
  go_wp2_with (first | ((with_reducible refine g_ 31 ?_); refine gl_ (some 17) Try.func31 #[.slice A0 l0.length c0] ?_; (with_reducible refine (laws_big.calls _ _ l0 true _ (cd_ HR0.1) HC0.1 A2.1).mono ?_); rintro e w' ⟨rfl, ⟨nd, rfl⟩⟩; refine ⟨_, rfl, ?_⟩))
  go_ret
  exact ⟨rt_, hd_ HB.1⟩
 ·
  replace c3 := Bool.eq_false_iff.mpr c3
  subst c3
  have H1 := H
  rw [if_neg nt_] at H1
  clear H
  have H := H1
  clear H1
  obtain ⟨⟨t923, t924, t925, t926, t927, t928, t929, t930, t931, t932, t933, t934, t935, t936, t937, t938⟩, A4, H⟩ := ob_ H
  try dsimp only at H
  have HC5 := o_ H
  clear H
  go_enter Try.func7, Try.ntmps7
  go_upto_region 4 with (first | ((with_reducible refine g_ 31 ?_); refine gl_ (some 17) Try.func31 #[.slice A0 l0.length c0] ?_; (with_reducible refine (laws_big.calls _ _ l0 false _ (cd_ HR0.1) HC0.1 A2.1).mono ?_); rintro e w' ⟨rfl, ⟨nd, rfl⟩⟩; refine ⟨_, rfl, ?_⟩) | ((with_reducible refine g_ 32 ?_); refine gl_ (some 20) Try.func32 #[.slice A0 l0.length c0] ?_; (with_reducible refine (spec_DrawAreTwins.calls k _ _ l0 t923 t924 t925 t926 t927 t928 t929 t930 t931 t932 t933 t934 t935 t936 t937 t938 _ (cd_ HR0.1) HC0.1 A4.1).mono ?_); rintro e w6 ⟨rfl, hb⟩; refine ⟨_, rfl, ?_⟩; replace HB := o_ (below_step (hd_ HB.1) hb); (try clear hb)) | ((with_reducible refine gate_dst (N := 3) rfl ?_); (try (refine gate_guard (by rfl) ?_; dsimp only)); refine box_event ?hg (N := 3) ?hd (cs := #[.int .i64 0, .int .i64 0, .int .i64 0, .int .i64 0, .int .i64 0, .int .i64 0, .int .i64 0, .int .i64 0]) (t := 58) ?hr ?_; (case hd => rfl); (case hg => rfl); (case hr => first | (go_simp; done) | (go_simp; rfl)); intro gb939 hg w7 hbox hb; have BK939 := o_ (hbox); have GW939 := o_ ((by rw [hg]; exact (below_size (hd_ HB.1)) : w.heap.size ≤ gb939)); replace HB := o_ (below_step (hd_ HB.1) hb); have GE939 := GW939; clear hb hbox hg) | ((with_reducible refine gate_dst (N := 4) rfl ?_); (try (refine gate_guard (by rfl) ?_; dsimp only)); refine box_event ?hg (N := 4) ?hd (cs := #[.int .i64 0, .int .i64 0, .int .i64 0, .int .i64 0, .int .i64 0, .int .i64 0, .int .i64 0, .int .i64 0]) (t := 58) ?hr ?_; (case hd => rfl); (case hg => rfl); (case hr => first | (go_simp; done) | (go_simp; rfl)); intro gb940 hg w8 hbox hb; have BK940 := o_ (hbox); have GW940 := o_ ((by rw [hg]; exact (below_size wB_) : w.heap.size ≤ gb940)); replace HB := o_ (below_step wB_ hb); have GE940 := GW940; have NB939_940 := o_ ((by rw [hg]; exact Nat.ne_of_lt (blk_lt (bd_ BK939.1)) : gb939 ≠ gb940)); have NB940_939 := o_ ((by rw [hg]; exact Nat.ne_of_gt (blk_lt (bd_ BK939.1)) : gb940 ≠ gb939)); replace BK939 := o_ (blk_below (bd_ BK939.1) hb); clear hb hbox hg; have hnb9 := NB939_940.1; have hnc9 := NB940_939.1; obtain ⟨_, _, _, _, _, _, _, _⟩ := e4_ BK939.1; obtain ⟨_, _, _, _, _, _, _, _⟩ := z5_ BK939.1; obtain ⟨_, _, _, _, _, _, _, _⟩ := e4_ BK940.1; obtain ⟨_, _, _, _, _, _, _, _⟩ := z5_ BK940.1))
  (try simp only [Act.put, List.setIfInBounds_toArray, List.set_cons_zero, List.set_cons_succ])
  go_cut [34] (fun v34 wc => ∃ (kq : Nat) (x34_4 : Bool), v34 = .bool x34_4 ∧ Aside0 (laws_FnTwins.j0 kq l0 x34_4 = some true) ∧ Aside0 (kq ≤ k) ∧ Aside0 (wc.heap[gb939]? = some (c8_ t923 t924 t925 t926 t927 t928 t929 t930)) ∧ Aside0 (wc.heap[gb940]? = some (c8_ t931 t932 t933 t934 t935 t936 t937 t938)) ∧ Aside0 (Below w.heap.size w wc))
  case first =>
   as_aux_lemma =>
    have H := HC5.1
    clear HC5
    obtain ⟨t941, A12, H⟩ := ob_ H
    try dsimp only at H
    obtain ⟨t942, A13, H⟩ := ob_ H
    try dsimp only at H
    by_cases c14 : (t941 != t942) = true
    ·
     rw [if_pos c14] at H
     have c14b0 : (t941 != t942) = true := c14
     (try (have c14b1 : decide (t941 = t942) = false := by simpa using c14))
     (try (have c14b2 : (t941 == t942) = false := by simpa using c14))
     (try (have c14b3 : ¬ (t941 = t942) := by simpa using c14))
     clear c14
     (first | rw [c14b0] | (simp only [i64_w, i32_w]; rw [c14b0]) | skip)
     have H' := o_ H
     clear H
     try go_wp2
     generalize hw_ : ((((((((((((((((w8.setCell ⟨gb939, 0, none⟩ (.int .i64 t923)).setCell ⟨gb939, 1, none⟩ (.int .i64 t924)).setCell ⟨gb939, 2, none⟩ (.int .i64 t925)).setCell ⟨gb939, 3, none⟩ (.int .i64 t926)).setCell ⟨gb939, 4, none⟩ (.int .i64 t927)).setCell ⟨gb939, 5, none⟩ (.int .i64 t928)).setCell ⟨gb939, 6, none⟩ (.int .i64 t929)).setCell ⟨gb939, 7, none⟩ (.int .i64 t930)).setCell ⟨gb940, 0, none⟩ (.int .i64 t931)).setCell ⟨gb940, 1, none⟩ (.int .i64 t932)).setCell ⟨gb940, 2, none⟩ (.int .i64 t933)).setCell ⟨gb940, 3, none⟩ (.int .i64 t934)).setCell ⟨gb940, 4, none⟩ (.int .i64 t935)).setCell ⟨gb940, 5, none⟩ (.int .i64 t936)).setCell ⟨gb940, 6, none⟩ (.int .i64 t937)).setCell ⟨gb940, 7, none⟩ (.int .i64 t938)) = w15
     replace BK939 : Aside0 (w15.heap[gb939]? = some (c8_ t923 t924 t925 t926 t927 t928 t929 t930)) := ⟨by rw [← hw_]; exact bk_ BK939.1⟩
     replace BK940 : Aside0 (w15.heap[gb940]? = some (c8_ t931 t932 t933 t934 t935 t936 t937 t938)) := ⟨by rw [← hw_]; exact bk_ BK940.1⟩
     replace HB : Aside0 (Below w.heap.size w w15) := ⟨by rw [← hw_]; exact wB_⟩
     clear hw_
     replace BK939 := o_ (blk_drew BK939.1)
     replace BK940 := o_ (blk_drew BK940.1)
     replace HB := o_ (below_drew1 HB.1)
     refine start_ (n := 12) (S := fun w' => q3_ w' gb939 t923 t924 t925 t926 t927 t928 t929 t930 (q3e_ w' gb940 t931 t932 t933 t934 t935 t936 t937 t938)) (ds := []) M8_0 (by kernel_rfl) rfl rfl (k3_ BK939.1 (k3e_ BK940.1)) (fun hHeld => ?_); refine with_tabW laws_FnTwins.tab4 laws_FnTwins.bits4 (fun HT_ HW_ => ?_)
     generalize w15.drew = w16 at BK939 BK940 HB hHeld ⊢
     refine tk_ 0 (some 23) M8_1 HT_ HW_ hHeld ?_
     refine tk_ 1 (some 24) M8_2 HT_ HW_ hHeld ?_
     refine tk_ 3 (some 26) M8_3 HT_ HW_ hHeld ?_
     refine tk_ 4 (some 27) M8_4 HT_ HW_ hHeld ?_
     refine one_ (i := 2) (N := some 25) M8_5 rfl rfl (one_of HT_.1 (by kernel_rfl)) (by decide) (fun K hK => ?_)
     refine goes_ Try.func33 (by kernel_rfl) rfl #[.agg #[.int .i64 t923, .int .i64 t924, .int .i64 t925, .int .i64 t926, .int .i64 t927, .int .i64 t928, .int .i64 t929, .int .i64 t930], .agg #[.int .i64 t931, .int .i64 t932, .int .i64 t933, .int .i64 t934, .int .i64 t935, .int .i64 t936, .int .i64 t937, .int .i64 t938]] (by rfl) rfl rfl ma_ ?_
     with_reducible refine (impl_AreTwins.calls t923 t924 t925 t926 t927 t928 t929 t930 t931 t932 t933 t934 t935 t936 t937 t938 t941 _ A12.1).mono ?_
     rintro e w17 ⟨rfl, hb⟩
     refine ⟨_, rfl, ?_⟩
     replace BK939 := o_ (blk_below (bd_ BK939.1) hb)
     replace BK940 := o_ (blk_below (bd_ BK940.1) hb)
     replace HB := o_ (below_step wB_ hb)
     (try clear hb)
     (try clear hb2)
     (try clear hk)
     (try clear hi)
     refine hK.out _ _ (k3_ BK939.1 (k3e_ BK940.1)) (fun hHeld => ?_)
     clear hK K
     refine norm_ (a' := ?_) ?_ ?_
     rotate_left
     ·
      show Act.put _ (some 25) _ = _
      simp only [Act.put, P8_1, P8_2, P8_3, i64_w, i32_w]
      rfl
     refine one_ (i := 5) (N := some 28) M8_6 rfl rfl (one_of HT_.1 (by kernel_rfl)) (by decide) (fun K hK => ?_)
     refine goes_ Try.func33 (by kernel_rfl) rfl #[.agg #[.int .i64 t931, .int .i64 t932, .int .i64 t933, .int .i64 t934, .int .i64 t935, .int .i64 t936, .int .i64 t937, .int .i64 t938], .agg #[.int .i64 t923, .int .i64 t924, .int .i64 t925, .int .i64 t926, .int .i64 t927, .int .i64 t928, .int .i64 t929, .int .i64 t930]] (by rfl) rfl rfl ma_ ?_
     with_reducible refine (impl_AreTwins.calls t931 t932 t933 t934 t935 t936 t937 t938 t923 t924 t925 t926 t927 t928 t929 t930 t942 _ A13.1).mono ?_
     rintro e w18 ⟨rfl, hb⟩
     refine ⟨_, rfl, ?_⟩
     replace BK939 := o_ (blk_below (bd_ BK939.1) hb)
     replace BK940 := o_ (blk_below (bd_ BK940.1) hb)
     replace HB := o_ (below_step wB_ hb)
     (try clear hb)
     (try clear hb2)
     (try clear hk)
     (try clear hi)
     refine hK.out _ _ (k3_ BK939.1 (k3e_ BK940.1)) (fun hHeld => ?_)
     clear hK K
     refine norm_ (a' := ?_) ?_ ?_
     rotate_left
     ·
      show Act.put _ (some 28) _ = _
      simp only [Act.put, P8_1, P8_2, P8_3, i64_w, i32_w]
      rfl
     refine pu_ 6 (some 29) M8_7 HT_ ?_
     refine pu_ 7 (some 30) M8_8 HT_ ?_
     refine pn_ 8 (some 31) M8_9 HT_ ?_
     refine pn_ 9 (some 32) M8_10 HT_ ?_
     refine pn_ 10 (some 33) M8_11 HT_ ?_
     refine pu_ 11 (some 34) M8_12 HT_ ?_
     refine done_ (done_of HT_.1 (by kernel_rfl)) ?_
     try go_wp2
     go_meet
     case rel => exact ⟨_, (true), y152_, H', ⟨by first | omega | exact Nat.le_refl _⟩, ⟨bd_ BK939.1⟩, ⟨bd_ BK940.1⟩, ⟨wB_⟩⟩
    ·
     rw [if_neg c14] at H
     have c14b0 : (t941 != t942) = false := by simpa using c14
     (try (have c14b1 : decide (t941 = t942) = true := by simpa using c14))
     (try (have c14b2 : (t941 == t942) = true := by simpa using c14))
     clear c14
     (first | rw [c14b0] | (simp only [i64_w, i32_w]; rw [c14b0]) | skip)
     obtain ⟨t943, A19, H⟩ := ob_ H
     try dsimp only at H
     have H' := o_ H
     clear H
     try go_wp2
     generalize hw_ : ((((((((((((((((w8.setCell ⟨gb939, 0, none⟩ (.int .i64 t923)).setCell ⟨gb939, 1, none⟩ (.int .i64 t924)).setCell ⟨gb939, 2, none⟩ (.int .i64 t925)).setCell ⟨gb939, 3, none⟩ (.int .i64 t926)).setCell ⟨gb939, 4, none⟩ (.int .i64 t927)).setCell ⟨gb939, 5, none⟩ (.int .i64 t928)).setCell ⟨gb939, 6, none⟩ (.int .i64 t929)).setCell ⟨gb939, 7, none⟩ (.int .i64 t930)).setCell ⟨gb940, 0, none⟩ (.int .i64 t931)).setCell ⟨gb940, 1, none⟩ (.int .i64 t932)).setCell ⟨gb940, 2, none⟩ (.int .i64 t933)).setCell ⟨gb940, 3, none⟩ (.int .i64 t934)).setCell ⟨gb940, 4, none⟩ (.int .i64 t935)).setCell ⟨gb940, 5, none⟩ (.int .i64 t936)).setCell ⟨gb940, 6, none⟩ (.int .i64 t937)).setCell ⟨gb940, 7, none⟩ (.int .i64 t938)) = w20
     replace BK939 : Aside0 (w20.heap[gb939]? = some (c8_ t923 t924 t925 t926 t927 t928 t929 t930)) := ⟨by rw [← hw_]; exact bk_ BK939.1⟩
     replace BK940 : Aside0 (w20.heap[gb940]? = some (c8_ t931 t932 t933 t934 t935 t936 t937 t938)) := ⟨by rw [← hw_]; exact bk_ BK940.1⟩
     replace HB : Aside0 (Below w.heap.size w w20) := ⟨by rw [← hw_]; exact wB_⟩
     clear hw_
     replace BK939 := o_ (blk_drew BK939.1)
     replace BK940 := o_ (blk_drew BK940.1)
     replace HB := o_ (below_drew1 HB.1)
     refine start_ (n := 12) (S := fun w' => q3_ w' gb939 t923 t924 t925 t926 t927 t928 t929 t930 (q3e_ w' gb940 t931 t932 t933 t934 t935 t936 t937 t938)) (ds := []) M8_0 (by kernel_rfl) rfl rfl (k3_ BK939.1 (k3e_ BK940.1)) (fun hHeld => ?_); refine with_tabW laws_FnTwins.tab4 laws_FnTwins.bits4 (fun HT_ HW_ => ?_)
     generalize w20.drew = w21 at BK939 BK940 HB hHeld ⊢
     refine tk_ 0 (some 23) M8_1 HT_ HW_ hHeld ?_
     refine tk_ 1 (some 24) M8_2 HT_ HW_ hHeld ?_
     refine tk_ 3 (some 26) M8_3 HT_ HW_ hHeld ?_
     refine tk_ 4 (some 27) M8_4 HT_ HW_ hHeld ?_
     refine one_ (i := 2) (N := some 25) M8_5 rfl rfl (one_of HT_.1 (by kernel_rfl)) (by decide) (fun K hK => ?_)
     refine goes_ Try.func33 (by kernel_rfl) rfl #[.agg #[.int .i64 t923, .int .i64 t924, .int .i64 t925, .int .i64 t926, .int .i64 t927, .int .i64 t928, .int .i64 t929, .int .i64 t930], .agg #[.int .i64 t931, .int .i64 t932, .int .i64 t933, .int .i64 t934, .int .i64 t935, .int .i64 t936, .int .i64 t937, .int .i64 t938]] (by rfl) rfl rfl ma_ ?_
     with_reducible refine (impl_AreTwins.calls t923 t924 t925 t926 t927 t928 t929 t930 t931 t932 t933 t934 t935 t936 t937 t938 t941 _ A12.1).mono ?_
     rintro e w22 ⟨rfl, hb⟩
     refine ⟨_, rfl, ?_⟩
     replace BK939 := o_ (blk_below (bd_ BK939.1) hb)
     replace BK940 := o_ (blk_below (bd_ BK940.1) hb)
     replace HB := o_ (below_step wB_ hb)
     (try clear hb)
     (try clear hb2)
     (try clear hk)
     (try clear hi)
     refine hK.out _ _ (k3_ BK939.1 (k3e_ BK940.1)) (fun hHeld => ?_)
     clear hK K
     refine norm_ (a' := ?_) ?_ ?_
     rotate_left
     ·
      show Act.put _ (some 25) _ = _
      simp only [Act.put, P8_1, P8_2, P8_3, i64_w, i32_w]
      rfl
     refine one_ (i := 5) (N := some 28) M8_6 rfl rfl (one_of HT_.1 (by kernel_rfl)) (by decide) (fun K hK => ?_)
     refine goes_ Try.func33 (by kernel_rfl) rfl #[.agg #[.int .i64 t931, .int .i64 t932, .int .i64 t933, .int .i64 t934, .int .i64 t935, .int .i64 t936, .int .i64 t937, .int .i64 t938], .agg #[.int .i64 t923, .int .i64 t924, .int .i64 t925, .int .i64 t926, .int .i64 t927, .int .i64 t928, .int .i64 t929, .int .i64 t930]] (by rfl) rfl rfl ma_ ?_
     with_reducible refine (impl_AreTwins.calls t931 t932 t933 t934 t935 t936 t937 t938 t923 t924 t925 t926 t927 t928 t929 t930 t942 _ A13.1).mono ?_
     rintro e w23 ⟨rfl, hb⟩
     refine ⟨_, rfl, ?_⟩
     replace BK939 := o_ (blk_below (bd_ BK939.1) hb)
     replace BK940 := o_ (blk_below (bd_ BK940.1) hb)
     replace HB := o_ (below_step wB_ hb)
     (try clear hb)
     (try clear hb2)
     (try clear hk)
     (try clear hi)
     refine hK.out _ _ (k3_ BK939.1 (k3e_ BK940.1)) (fun hHeld => ?_)
     clear hK K
     refine norm_ (a' := ?_) ?_ ?_
     rotate_left
     ·
      show Act.put _ (some 28) _ = _
      simp only [Act.put, P8_1, P8_2, P8_3, i64_w, i32_w]
      rfl
     refine pu_ 6 (some 29) M8_7 HT_ ?_
     refine pu_ 7 (some 30) M8_8 HT_ ?_
     refine tk_ 8 (some 31) M8_9 HT_ HW_ hHeld ?_
     refine tk_ 9 (some 32) M8_10 HT_ HW_ hHeld ?_
     refine one_ (i := 10) (N := some 33) M8_11 rfl rfl (one_of HT_.1 (by kernel_rfl)) (by decide) (fun K hK => ?_)
     refine goes_ Try.func33 (by kernel_rfl) rfl #[.agg #[.int .i64 t923, .int .i64 t924, .int .i64 t925, .int .i64 t926, .int .i64 t927, .int .i64 t928, .int .i64 t929, .int .i64 t930], .agg #[.int .i64 t923, .int .i64 t924, .int .i64 t925, .int .i64 t926, .int .i64 t927, .int .i64 t928, .int .i64 t929, .int .i64 t930]] (by rfl) rfl rfl ma_ ?_
     with_reducible refine (impl_AreTwins.calls t923 t924 t925 t926 t927 t928 t929 t930 t923 t924 t925 t926 t927 t928 t929 t930 t943 _ A19.1).mono ?_
     rintro e w24 ⟨rfl, hb⟩
     refine ⟨_, rfl, ?_⟩
     replace BK939 := o_ (blk_below (bd_ BK939.1) hb)
     replace BK940 := o_ (blk_below (bd_ BK940.1) hb)
     replace HB := o_ (below_step wB_ hb)
     (try clear hb)
     (try clear hb2)
     (try clear hk)
     (try clear hi)
     refine hK.out _ _ (k3_ BK939.1 (k3e_ BK940.1)) (fun hHeld => ?_)
     clear hK K
     refine norm_ (a' := ?_) ?_ ?_
     rotate_left
     ·
      show Act.put _ (some 33) _ = _
      simp only [Act.put, P8_1, P8_2, P8_3, i64_w, i32_w]
      rfl
     refine pu_ 11 (some 34) M8_12 HT_ ?_
     refine done_ (done_of HT_.1 (by kernel_rfl)) ?_
     try go_wp2
     go_meet
     case rel => exact ⟨_, (t943), y152_, H', ⟨by first | omega | exact Nat.le_refl _⟩, ⟨bd_ BK939.1⟩, ⟨bd_ BK940.1⟩, ⟨wB_⟩⟩
  case rest =>
   clear HC5
   try clear c1
   try clear p2
   try clear c3
   try clear c7
   try clear c9
   try clear c14
   try clear c14b0
   try clear c14b1
   try clear c14b2
   obtain ⟨kq, x34_4, rfl, HA, HJ4, BK939, BK940, HB⟩ := hcut
   cases kq with
   | zero => exact absurd HA.1 (by simp [laws_FnTwins.j0])
   | succ kj4 =>
    have H := HA.1
    clear HA
    simp only [laws_FnTwins.j0] at H
    by_cases c25 : x34_4 = true
    ·
     subst c25
     have H1 := H
     rw [if_pos rfl] at H1
     clear H
     have H := H1
     clear H1
     exact absurd H (by simp)
    ·
     replace c25 := Bool.eq_false_iff.mpr c25
     subst c25
     have H1 := H
     rw [if_neg nt_] at H1
     clear H
     have H := H1
     clear H1
     obtain ⟨t944, A26, H⟩ := ob_ H
     try dsimp only at H
     obtain ⟨t947, A27, H⟩ := ob_ H
     try dsimp only at H
     obtain ⟨t950, A28, H⟩ := ob_ H
     try dsimp only at H
     obtain ⟨t953, A29, H⟩ := ob_ H
     try dsimp only at H
     by_cases c30 : (t950.length : Int) = (t953.length : Int)
     ·
      rw [if_pos c30] at H
      have c30b0 := beq_iff_eq.mpr c30
      have c30b1 := bne_eq_false_iff_eq.mpr c30
      have c30b2 : (t950.length == t953.length) = true := by first | simpa using c30 | (simp at c30 ⊢; omega)
      clear c30
      have HC31 := o_ H
      clear H
      go_upto_region 11 with (first | ((with_reducible refine g_ 34 ?_); refine gl_ (some 36) Try.func34 #[.slice A0 l0.length c0] ?_; (with_reducible refine (spec_DrawTwinsOf.calls kj4 _ _ l0 t944 _ (cd_ (Kd.C_below HR0.1 HB.1)) HC0.1 A26.1).mono ?_); rintro e w32 ⟨v945, rfl, ho0, hb⟩; refine ⟨_, rfl, ?_⟩; have HO946 := o_ (Kd.R_lower (Kd.R_newB (Kd.R_newB ho0 (g := gb939) (o := c8_ t923 t924 t925 t926 t927 t928 t929 t930) (bd_ BK939.1)) (g := gb940) (o := c8_ t931 t932 t933 t934 t935 t936 t937 t938) (bd_ BK940.1)) (below_size wB_)); replace BK939 := o_ (blk_below (bd_ BK939.1) hb); replace BK940 := o_ (blk_below (bd_ BK940.1) hb); replace HB := o_ (below_step wB_ hb); (try clear hb ho0); obtain ⟨Ao33, co33, eo33⟩ := Kd.R_slice HO946.1; subst eo33) | ((with_reducible refine g_ 11 ?_); refine gl_ (some 38) Try.func11 #[.slice Ao33 t944.length co33] ?_; (with_reducible refine (impl_TwinsOf.calls kj4 _ _ t944 t947 _ (cd_ (Kd.R_reads' HO946.1).2.2) ((Kd.R_reads' HO946.1).2.1) A27.1).mono ?_); rintro e w34 ⟨v948, rfl, ho0, hb⟩; refine ⟨_, rfl, ?_⟩; replace HO946 := o_ (Kd.R_below (rd_ HO946.1) hb); have HO949 := o_ (Kd.R_lower ho0 (below_size wB_)); replace BK939 := o_ (blk_below (bd_ BK939.1) hb); replace BK940 := o_ (blk_below (bd_ BK940.1) hb); replace HB := o_ (below_step wB_ hb); (try clear hb ho0)) | ((with_reducible refine g_ 23 ?_); refine gl_ (some 40) Try.func23 #[.slice Ao33 t944.length co33] ?_; (with_reducible refine (impl_DropTwins.calls kj4 _ _ t944 t950 _ (cd_ (Kd.R_reads' HO946.1).2.2) ((Kd.R_reads' HO946.1).2.1) A28.1).mono ?_); rintro e w35 ⟨v951, rfl, ho0, hb⟩; refine ⟨_, rfl, ?_⟩; replace HO949 := o_ (Kd.R_below (rd_ HO949.1) hb); have HO952 := o_ (Kd.R_lower (Kd.R_newB (Kd.R_newB (Kd.R_new' ho0 (Kd.R_lt (rd_ HO946.1))) (g := gb939) (o := c8_ t923 t924 t925 t926 t927 t928 t929 t930) (bd_ BK939.1)) (g := gb940) (o := c8_ t931 t932 t933 t934 t935 t936 t937 t938) (bd_ BK940.1)) (below_size wB_)); replace HO946 := o_ (Kd.R_elder' (rd_ HO946.1) (Kd.R_base ho0) hb); replace BK939 := o_ (blk_below (bd_ BK939.1) hb); replace BK940 := o_ (blk_below (bd_ BK940.1) hb); replace HB := o_ (below_step wB_ hb); (try clear hb ho0); obtain ⟨Ao36, co36, eo36⟩ := Kd.R_slice HO952.1; subst eo36) | ((with_reducible refine g_ 22 ?_); refine gl_ (some 44) Try.func22 #[.slice Ao33 t944.length co33] ?_; (with_reducible refine (spec_DropTwins.calls kj4 _ _ t944 t953 _ (cd_ (Kd.R_reads' HO946.1).2.2) ((Kd.R_reads' HO946.1).2.1) A29.1).mono ?_); rintro e w37 ⟨v954, rfl, ho0, hb⟩; refine ⟨_, rfl, ?_⟩; replace HO949 := o_ (Kd.R_below (rd_ HO949.1) hb); have HO955 := o_ (Kd.R_lower (Kd.R_newB (Kd.R_newB (Kd.R_new' (Kd.R_new' ho0 (Kd.R_lt (rd_ HO946.1))) (Kd.R_lt (rd_ HO952.1))) (g := gb939) (o := c8_ t923 t924 t925 t926 t927 t928 t929 t930) (bd_ BK939.1)) (g := gb940) (o := c8_ t931 t932 t933 t934 t935 t936 t937 t938) (bd_ BK940.1)) (below_size wB_)); replace HO946 := o_ (Kd.R_elder' (rd_ HO946.1) (Kd.R_base ho0) hb); replace HO952 := o_ (Kd.R_elder' (rd_ HO952.1) (Kd.R_base ho0) hb); replace BK939 := o_ (blk_below (bd_ BK939.1) hb); replace BK940 := o_ (blk_below (bd_ BK940.1) hb); replace HB := o_ (below_step wB_ hb); (try clear hb ho0); obtain ⟨Ao38, co38, eo38⟩ := Kd.R_slice HO955.1; subst eo38))
      (try simp only [Act.put, List.setIfInBounds_toArray, List.set_cons_zero, List.set_cons_succ])
      go_cut [73] (fun v73 wc => ∃ (kq : Nat) (x73_30 : Bool), v73 = .bool x73_30 ∧ Aside0 (laws_FnTwins.j1 kq l0 t944 t950 x73_30 = some true) ∧ Aside0 (kq ≤ kj4) ∧ Aside0 (Kd.R k58 58 wc w.heap.size (fun k_ => some k_ ≠ ((.slice Ao36 t950.length co36) : Value).ownBlock ∧ k_ ≠ gb939 ∧ k_ ≠ gb940) (.slice Ao33 t944.length co33) t944) ∧ Aside0 (Kd.R k58 58 wc w.heap.size (fun k_ => some k_ ≠ ((.slice Ao33 t944.length co33) : Value).ownBlock ∧ k_ ≠ gb939 ∧ k_ ≠ gb940) (.slice Ao36 t950.length co36) t950) ∧ Aside0 (wc.heap[gb939]? = some (c8_ t923 t924 t925 t926 t927 t928 t929 t930)) ∧ Aside0 (wc.heap[gb940]? = some (c8_ t931 t932 t933 t934 t935 t936 t937 t938)) ∧ Aside0 (Below w.heap.size w wc))
      case first =>
       as_aux_lemma =>
        have H := HC31.1
        clear HC31
        obtain ⟨t956, A39, H⟩ := ob_ H
        try dsimp only at H
        by_cases c40 : t956 = true
        ·
         subst c40
         have H1 := H
         rw [if_pos rfl] at H1
         clear H
         have H := H1
         clear H1
         by_cases c41 : (t950.length : Int) = (wrap64 ((t944.length : Int) - (t947.length : Int)))
         ·
          rw [if_pos c41] at H
          have c41b0 := beq_iff_eq.mpr c41
          have c41b1 := bne_eq_false_iff_eq.mpr c41
          clear c41
          (first | rw [c41b0] | (simp only [i64_w, i32_w]; rw [c41b0]) | skip)
          by_cases c42 : (t947.length : Int) > 0
          ·
           rw [if_pos c42] at H
           have c42b0 := decide_eq_true c42
           have c42b1 : decide (0 < t947.length) = true := decide_eq_true (by omega)
           clear c42
           obtain ⟨t957, A43, H⟩ := ob_ H
           try dsimp only at H
           have H' := o_ H
           clear H
           obtain ⟨Ao44, co44, eo44⟩ := Kd.R_slice HO949.1
           subst eo44
           go_wp2_with (first | ((with_reducible refine g_ 35 ?_); refine gl_ (some 48) Try.func35 #[.slice Ao44 t947.length co44] ?_; (with_reducible refine (laws_ascends.calls kj4 _ _ t947 true _ (cd_ (Kd.R_reads' HO949.1).2.2) ((Kd.R_reads' HO949.1).2.1) A39.1).mono ?_); rintro e w' ⟨rfl, ⟨nd, rfl⟩⟩; refine ⟨_, rfl, ?_⟩) | (go_at_call 36; (with_reducible refine (impl_AreFinds.calls kj4 _ _ t944 t957 _ (cd_ (Kd.R_reads' HO946.1).2.2) ((Kd.R_reads' HO946.1).2.1) A43.1).mono ?_); rintro e w45 ⟨rfl, hb⟩; replace HO946 := o_ (Kd.R_below (rd_ HO946.1) hb); replace HO949 := o_ (Kd.R_below (rd_ HO949.1) hb); replace HO952 := o_ (Kd.R_below (rd_ HO952.1) hb); replace HO955 := o_ (Kd.R_below (rd_ HO955.1) hb); replace BK939 := o_ (blk_below (blk_drewN BK939.1 nd) hb); replace BK940 := o_ (blk_below (blk_drewN BK940.1 nd) hb); replace HB := o_ (below_step wB_ hb); (try clear hb)))
           go_meet
           case rel => exact ⟨_, (!t957), y152_, H', ⟨by have := HJ4.1; first | omega | exact Nat.le_refl _⟩, ⟨by (with_reducible repeat (first | apply Kd.R_alloc | apply Kd.R_drewN | apply Kd.R_drew)); exact Kd.R_mono HO946.1 (fun _ hk => ⟨hk.1.2, ⟨hk.1.1.1.2, hk.1.1.2⟩⟩)⟩, ⟨by (with_reducible repeat (first | apply Kd.R_alloc | apply Kd.R_drewN | apply Kd.R_drew)); exact Kd.R_mono HO952.1 (fun _ hk => ⟨hk.1.1.1.2, ⟨hk.1.1.2, hk.1.2⟩⟩)⟩, ⟨bd_ BK939.1⟩, ⟨bd_ BK940.1⟩, ⟨wB_⟩⟩
          ·
           rw [if_neg c42] at H
           have c42b0 := decide_eq_false c42
           have c42b1 : decide (0 < t947.length) = false := decide_eq_false (by omega)
           clear c42
           have H' := o_ H
           clear H
           obtain ⟨Ao46, co46, eo46⟩ := Kd.R_slice HO949.1
           subst eo46
           go_wp2_with (first | ((with_reducible refine g_ 35 ?_); refine gl_ (some 48) Try.func35 #[.slice Ao46 t947.length co46] ?_; (with_reducible refine (laws_ascends.calls kj4 _ _ t947 true _ (cd_ (Kd.R_reads' HO949.1).2.2) ((Kd.R_reads' HO949.1).2.1) A39.1).mono ?_); rintro e w' ⟨rfl, ⟨nd, rfl⟩⟩; refine ⟨_, rfl, ?_⟩))
           go_meet
           case rel => exact ⟨_, (false), y152_, H', ⟨by have := HJ4.1; first | omega | exact Nat.le_refl _⟩, ⟨by (with_reducible repeat (first | apply Kd.R_alloc | apply Kd.R_drewN | apply Kd.R_drew)); exact Kd.R_mono HO946.1 (fun _ hk => ⟨hk.1.2, ⟨hk.1.1.1.2, hk.1.1.2⟩⟩)⟩, ⟨by (with_reducible repeat (first | apply Kd.R_alloc | apply Kd.R_drewN | apply Kd.R_drew)); exact Kd.R_mono HO952.1 (fun _ hk => ⟨hk.1.1.1.2, ⟨hk.1.1.2, hk.1.2⟩⟩)⟩, ⟨bd_ BK939.1⟩, ⟨bd_ BK940.1⟩, ⟨wB_⟩⟩
         ·
          rw [if_neg c41] at H
          have c41b0 := beq_eq_false_iff_ne.mpr c41
          have c41b1 := bne_iff_ne.mpr c41
          (first | rw [c41b0] | (simp only [i64_w, i32_w]; rw [c41b0]) | skip)
          obtain ⟨t958, A47, H⟩ := ob_ H
          try dsimp only at H
          by_cases c48 : t958 = true
          ·
           subst c48
           have H1 := H
           rw [if_pos rfl] at H1
           clear H
           have H := H1
           clear H1
           have H' := o_ H
           clear H
           obtain ⟨Ao49, co49, eo49⟩ := Kd.R_slice HO949.1
           subst eo49
           go_wp2_with (first | ((with_reducible refine g_ 35 ?_); refine gl_ (some 48) Try.func35 #[.slice Ao49 t947.length co49] ?_; (with_reducible refine (laws_ascends.calls kj4 _ _ t947 true _ (cd_ (Kd.R_reads' HO949.1).2.2) ((Kd.R_reads' HO949.1).2.1) A39.1).mono ?_); rintro e w' ⟨rfl, ⟨nd, rfl⟩⟩; refine ⟨_, rfl, ?_⟩) | (go_at_call 36; (with_reducible refine (impl_AreFinds.calls kj4 _ _ t944 true _ (cd_ (Kd.R_reads' HO946.1).2.2) ((Kd.R_reads' HO946.1).2.1) A47.1).mono ?_); rintro e w50 ⟨rfl, hb⟩; replace HO946 := o_ (Kd.R_below (rd_ HO946.1) hb); replace HO949 := o_ (Kd.R_below (rd_ HO949.1) hb); replace HO952 := o_ (Kd.R_below (rd_ HO952.1) hb); replace HO955 := o_ (Kd.R_below (rd_ HO955.1) hb); replace BK939 := o_ (blk_below (blk_drewN BK939.1 nd) hb); replace BK940 := o_ (blk_below (blk_drewN BK940.1 nd) hb); replace HB := o_ (below_step wB_ hb); (try clear hb)))
           go_meet
           case rel => exact ⟨_, (true), y152_, H', ⟨by have := HJ4.1; first | omega | exact Nat.le_refl _⟩, ⟨by (with_reducible repeat (first | apply Kd.R_alloc | apply Kd.R_drewN | apply Kd.R_drew)); exact Kd.R_mono HO946.1 (fun _ hk => ⟨hk.1.2, ⟨hk.1.1.1.2, hk.1.1.2⟩⟩)⟩, ⟨by (with_reducible repeat (first | apply Kd.R_alloc | apply Kd.R_drewN | apply Kd.R_drew)); exact Kd.R_mono HO952.1 (fun _ hk => ⟨hk.1.1.1.2, ⟨hk.1.1.2, hk.1.2⟩⟩)⟩, ⟨bd_ BK939.1⟩, ⟨bd_ BK940.1⟩, ⟨wB_⟩⟩
          ·
           replace c48 := Bool.eq_false_iff.mpr c48
           subst c48
           have H1 := H
           rw [if_neg nt_] at H1
           clear H
           have H := H1
           clear H1
           by_cases c51 : (t947.length : Int) > 0
           ·
            rw [if_pos c51] at H
            have c51b0 := decide_eq_true c51
            have c51b1 : decide (0 < t947.length) = true := decide_eq_true (by omega)
            clear c51
            obtain ⟨t959, A52, H⟩ := ob_ H
            try dsimp only at H
            have H' := o_ H
            clear H
            obtain ⟨Ao53, co53, eo53⟩ := Kd.R_slice HO949.1
            subst eo53
            go_wp2_with (first | ((with_reducible refine g_ 35 ?_); refine gl_ (some 48) Try.func35 #[.slice Ao53 t947.length co53] ?_; (with_reducible refine (laws_ascends.calls kj4 _ _ t947 true _ (cd_ (Kd.R_reads' HO949.1).2.2) ((Kd.R_reads' HO949.1).2.1) A39.1).mono ?_); rintro e w' ⟨rfl, ⟨nd, rfl⟩⟩; refine ⟨_, rfl, ?_⟩) | (go_at_call 36; (with_reducible refine (impl_AreFinds.calls kj4 _ _ t944 false _ (cd_ (Kd.R_reads' HO946.1).2.2) ((Kd.R_reads' HO946.1).2.1) A47.1).mono ?_); rintro e w54 ⟨rfl, hb⟩; replace HO946 := o_ (Kd.R_below (rd_ HO946.1) hb); replace HO949 := o_ (Kd.R_below (rd_ HO949.1) hb); replace HO952 := o_ (Kd.R_below (rd_ HO952.1) hb); replace HO955 := o_ (Kd.R_below (rd_ HO955.1) hb); replace BK939 := o_ (blk_below (blk_drewN BK939.1 nd) hb); replace BK940 := o_ (blk_below (blk_drewN BK940.1 nd) hb); replace HB := o_ (below_step wB_ hb); (try clear hb)) | (go_at_call 36; (with_reducible refine (impl_AreFinds.calls kj4 _ _ t944 t959 _ (cd_ (Kd.R_reads' HO946.1).2.2) ((Kd.R_reads' HO946.1).2.1) A52.1).mono ?_); rintro e w55 ⟨rfl, hb⟩; replace HO946 := o_ (Kd.R_below (rd_ HO946.1) hb); replace HO949 := o_ (Kd.R_below (rd_ HO949.1) hb); replace HO952 := o_ (Kd.R_below (rd_ HO952.1) hb); replace HO955 := o_ (Kd.R_below (rd_ HO955.1) hb); replace BK939 := o_ (blk_below (bd_ BK939.1) hb); replace BK940 := o_ (blk_below (bd_ BK940.1) hb); replace HB := o_ (below_step wB_ hb); (try clear hb)))
            go_meet
            case rel => exact ⟨_, (!t959), y152_, H', ⟨by have := HJ4.1; first | omega | exact Nat.le_refl _⟩, ⟨by (with_reducible repeat (first | apply Kd.R_alloc | apply Kd.R_drewN | apply Kd.R_drew)); exact Kd.R_mono HO946.1 (fun _ hk => ⟨hk.1.2, ⟨hk.1.1.1.2, hk.1.1.2⟩⟩)⟩, ⟨by (with_reducible repeat (first | apply Kd.R_alloc | apply Kd.R_drewN | apply Kd.R_drew)); exact Kd.R_mono HO952.1 (fun _ hk => ⟨hk.1.1.1.2, ⟨hk.1.1.2, hk.1.2⟩⟩)⟩, ⟨bd_ BK939.1⟩, ⟨bd_ BK940.1⟩, ⟨wB_⟩⟩
           ·
            rw [if_neg c51] at H
            have c51b0 := decide_eq_false c51
            have c51b1 : decide (0 < t947.length) = false := decide_eq_false (by omega)
            clear c51
            have H' := o_ H
            clear H
            obtain ⟨Ao56, co56, eo56⟩ := Kd.R_slice HO949.1
            subst eo56
            go_wp2_with (first | ((with_reducible refine g_ 35 ?_); refine gl_ (some 48) Try.func35 #[.slice Ao56 t947.length co56] ?_; (with_reducible refine (laws_ascends.calls kj4 _ _ t947 true _ (cd_ (Kd.R_reads' HO949.1).2.2) ((Kd.R_reads' HO949.1).2.1) A39.1).mono ?_); rintro e w' ⟨rfl, ⟨nd, rfl⟩⟩; refine ⟨_, rfl, ?_⟩) | (go_at_call 36; (with_reducible refine (impl_AreFinds.calls kj4 _ _ t944 false _ (cd_ (Kd.R_reads' HO946.1).2.2) ((Kd.R_reads' HO946.1).2.1) A47.1).mono ?_); rintro e w57 ⟨rfl, hb⟩; replace HO946 := o_ (Kd.R_below (rd_ HO946.1) hb); replace HO949 := o_ (Kd.R_below (rd_ HO949.1) hb); replace HO952 := o_ (Kd.R_below (rd_ HO952.1) hb); replace HO955 := o_ (Kd.R_below (rd_ HO955.1) hb); replace BK939 := o_ (blk_below (blk_drewN BK939.1 nd) hb); replace BK940 := o_ (blk_below (blk_drewN BK940.1 nd) hb); replace HB := o_ (below_step wB_ hb); (try clear hb)))
            go_meet
            case rel => exact ⟨_, (false), y152_, H', ⟨by have := HJ4.1; first | omega | exact Nat.le_refl _⟩, ⟨by (with_reducible repeat (first | apply Kd.R_alloc | apply Kd.R_drewN | apply Kd.R_drew)); exact Kd.R_mono HO946.1 (fun _ hk => ⟨hk.1.2, ⟨hk.1.1.1.2, hk.1.1.2⟩⟩)⟩, ⟨by (with_reducible repeat (first | apply Kd.R_alloc | apply Kd.R_drewN | apply Kd.R_drew)); exact Kd.R_mono HO952.1 (fun _ hk => ⟨hk.1.1.1.2, ⟨hk.1.1.2, hk.1.2⟩⟩)⟩, ⟨bd_ BK939.1⟩, ⟨bd_ BK940.1⟩, ⟨wB_⟩⟩
        ·
         replace c40 := Bool.eq_false_iff.mpr c40
         subst c40
         have H1 := H
         rw [if_neg nt_] at H1
         clear H
         have H := H1
         clear H1
         have H' := o_ H
         clear H
         obtain ⟨Ao58, co58, eo58⟩ := Kd.R_slice HO949.1
         subst eo58
         go_wp2_with (first | ((with_reducible refine g_ 35 ?_); refine gl_ (some 48) Try.func35 #[.slice Ao58 t947.length co58] ?_; (with_reducible refine (laws_ascends.calls kj4 _ _ t947 false _ (cd_ (Kd.R_reads' HO949.1).2.2) ((Kd.R_reads' HO949.1).2.1) A39.1).mono ?_); rintro e w' ⟨rfl, ⟨nd, rfl⟩⟩; refine ⟨_, rfl, ?_⟩))
         go_meet
         case rel => exact ⟨_, (true), y152_, H', ⟨by have := HJ4.1; first | omega | exact Nat.le_refl _⟩, ⟨by (with_reducible repeat (first | apply Kd.R_alloc | apply Kd.R_drewN | apply Kd.R_drew)); exact Kd.R_mono HO946.1 (fun _ hk => ⟨hk.1.2, ⟨hk.1.1.1.2, hk.1.1.2⟩⟩)⟩, ⟨by (with_reducible repeat (first | apply Kd.R_alloc | apply Kd.R_drewN | apply Kd.R_drew)); exact Kd.R_mono HO952.1 (fun _ hk => ⟨hk.1.1.1.2, ⟨hk.1.1.2, hk.1.2⟩⟩)⟩, ⟨bd_ BK939.1⟩, ⟨bd_ BK940.1⟩, ⟨wB_⟩⟩
      case rest =>
       clear HC31
       try clear c1
       try clear c2
       try clear p2
       try clear c3
       try clear c4
       try clear c5
       try clear p6
       try clear c7
       try clear c9
       try clear c11
       try clear c14
       try clear c14b0
       try clear c14b1
       try clear c14b2
       try clear c22
       try clear c23
       try clear c25
       try clear c30
       try clear c30b0
       try clear c30b1
       try clear c30b2
       try clear c31
       try clear c32
       try clear c33
       try clear c34
       try clear c35
       try clear c40
       try clear c41
       try clear c41b0
       try clear c41b1
       try clear c42
       try clear c42b0
       try clear c42b1
       try clear c48
       try clear c51
       try clear c51b0
       try clear c51b1
       try clear p2
       obtain ⟨kq, x73_30, rfl, HA, HJ30, HO_5, HO_7, BK939, BK940, HB⟩ := hcut
       cases kq with
       | zero => exact absurd HA.1 (by simp [laws_FnTwins.j1])
       | succ kj30 =>
        have H := HA.1
        clear HA
        simp only [laws_FnTwins.j1] at H
        by_cases c59 : x73_30 = true
        ·
         subst c59
         have H1 := H
         rw [if_pos rfl] at H1
         clear H
         have H := H1
         clear H1
         exact absurd H (by simp)
        ·
         replace c59 := Bool.eq_false_iff.mpr c59
         subst c59
         have H1 := H
         rw [if_neg nt_] at H1
         clear H
         have H := H1
         clear H1
         have H' := o_ H
         clear H
         go_wp2
         go_loopg [8] kj30 (fun kq v8 w' => ∃ (x8_3 : Int), v8 = .int .i64 x8_3 ∧ Aside0 (laws_FnTwins.l0 kq l0 t944 t950 x8_3 = some true) ∧ Aside0 (kq ≤ kj30) ∧ Aside0 (Kd.R k58 58 w' w.heap.size (fun k_ => some k_ ≠ ((.slice Ao36 t950.length co36) : Value).ownBlock ∧ k_ ≠ gb939 ∧ k_ ≠ gb940) (.slice Ao33 t944.length co33) t944) ∧ Aside0 (Kd.R k58 58 w' w.heap.size (fun k_ => some k_ ≠ ((.slice Ao33 t944.length co33) : Value).ownBlock ∧ k_ ≠ gb939 ∧ k_ ≠ gb940) (.slice Ao36 t950.length co36) t950) ∧ Aside0 (w'.heap[gb939]? = some (c8_ t923 t924 t925 t926 t927 t928 t929 t930)) ∧ Aside0 (w'.heap[gb940]? = some (c8_ t931 t932 t933 t934 t935 t936 t937 t938)) ∧ Aside0 (Below w.heap.size w w'))
         case atStart => exact ⟨(0), y152_, H', ⟨Nat.le_refl _⟩, ⟨rd_ HO_5.1⟩, ⟨rd_ HO_7.1⟩, ⟨bd_ BK939.1⟩, ⟨bd_ BK940.1⟩, ⟨wB_⟩⟩
         case round =>
          clear H'
          try clear c1
          try clear c2
          try clear p2
          try clear c3
          try clear c4
          try clear c5
          try clear p6
          try clear c7
          try clear c9
          try clear c11
          try clear c14
          try clear c14b0
          try clear c14b1
          try clear c14b2
          try clear c22
          try clear c23
          try clear c25
          try clear c30
          try clear c30b0
          try clear c30b1
          try clear c30b2
          try clear c31
          try clear c32
          try clear c33
          try clear c34
          try clear c35
          try clear c40
          try clear c41
          try clear c41b0
          try clear c41b1
          try clear c42
          try clear c42b0
          try clear c42b1
          try clear c48
          try clear c51
          try clear c51b0
          try clear c51b1
          try clear c59
          try clear p2
          try clear p6
          obtain ⟨x8_3, rfl, HA, HK3, HO_5, HO_7, BK939, BK940, HB⟩ := hrel
          cases gk with
          | zero => exact absurd HA.1 (by simp [laws_FnTwins.l0])
          | succ k3 =>
           have H := HA.1
           clear HA
           simp only [laws_FnTwins.l0] at H
           by_cases c60 : x8_3 < (t950.length : Int)
           ·
            rw [if_pos c60] at H
            have c60b0 := decide_eq_true c60
            clear c60
            have H' := o_ H
            clear H
            go_wp2
            go_loopg [9] k3 (fun kq v9 w' => ∃ (x9_4 : Int), v9 = .int .i64 x9_4 ∧ Aside0 (laws_FnTwins.l1 kq l0 t944 t950 x8_3 x9_4 = some true) ∧ Aside0 (kq ≤ k3) ∧ Aside0 (Kd.R k58 58 w' w.heap.size (fun k_ => some k_ ≠ ((.slice Ao36 t950.length co36) : Value).ownBlock ∧ k_ ≠ gb939 ∧ k_ ≠ gb940) (.slice Ao33 t944.length co33) t944) ∧ Aside0 (Kd.R k58 58 w' w.heap.size (fun k_ => some k_ ≠ ((.slice Ao33 t944.length co33) : Value).ownBlock ∧ k_ ≠ gb939 ∧ k_ ≠ gb940) (.slice Ao36 t950.length co36) t950) ∧ Aside0 (w'.heap[gb939]? = some (c8_ t923 t924 t925 t926 t927 t928 t929 t930)) ∧ Aside0 (w'.heap[gb940]? = some (c8_ t931 t932 t933 t934 t935 t936 t937 t938)) ∧ Aside0 (Below w.heap.size w w'))
            case atStart => exact ⟨(0), y152_, H', ⟨Nat.le_refl _⟩, ⟨rd_ HO_5.1⟩, ⟨rd_ HO_7.1⟩, ⟨bd_ BK939.1⟩, ⟨bd_ BK940.1⟩, ⟨wB_⟩⟩
            case round =>
             clear H'
             try clear c1
             try clear c2
             try clear p2
             try clear c3
             try clear c4
             try clear c5
             try clear c6
             try clear p6
             try clear c7
             try clear c9
             try clear c11
             try clear c14
             try clear c14b0
             try clear c14b1
             try clear c14b2
             try clear c22
             try clear c23
             try clear c25
             try clear c30
             try clear c30b0
             try clear c30b1
             try clear c30b2
             try clear c31
             try clear c32
             try clear c33
             try clear c34
             try clear c35
             try clear c40
             try clear c41
             try clear c41b0
             try clear c41b1
             try clear c42
             try clear c42b0
             try clear c42b1
             try clear c48
             try clear c51
             try clear c51b0
             try clear c51b1
             try clear c59
             try clear c60
             try clear c60b0
             try clear p2
             try clear p6
             obtain ⟨x9_4, rfl, HA, HK4, HO_5, HO_7, BK939, BK940, HB⟩ := hrel
             cases gk with
             | zero => exact absurd HA.1 (by simp [laws_FnTwins.l1])
             | succ k4 =>
              have H := HA.1
              clear HA
              simp only [laws_FnTwins.l1] at H
              have HC61 := o_ H
              clear H
              go_upto_region 17 with (fail)
              go_cut [86] (fun v86 wc => ∃ (kq : Nat) (x86_60 : Bool), v86 = .bool x86_60 ∧ Aside0 (laws_FnTwins.j4 kq l0 t944 t950 x8_3 x9_4 x86_60 = some true) ∧ Aside0 (kq ≤ k4) ∧ Aside0 (Kd.R k58 58 wc w.heap.size (fun k_ => some k_ ≠ ((.slice Ao36 t950.length co36) : Value).ownBlock ∧ k_ ≠ gb939 ∧ k_ ≠ gb940) (.slice Ao33 t944.length co33) t944) ∧ Aside0 (Kd.R k58 58 wc w.heap.size (fun k_ => some k_ ≠ ((.slice Ao33 t944.length co33) : Value).ownBlock ∧ k_ ≠ gb939 ∧ k_ ≠ gb940) (.slice Ao36 t950.length co36) t950) ∧ Aside0 (wc.heap[gb939]? = some (c8_ t923 t924 t925 t926 t927 t928 t929 t930)) ∧ Aside0 (wc.heap[gb940]? = some (c8_ t931 t932 t933 t934 t935 t936 t937 t938)) ∧ Aside0 (Below w.heap.size w wc))
              case first =>
               have H := HC61.1
               clear HC61
               by_cases c62 : x9_4 < x8_3
               ·
                rw [if_pos c62] at H
                have c62b0 := decide_eq_true c62
                clear c62
                (first | rw [c62b0] | (simp only [i64_w, i32_w]; rw [c62b0]) | skip)
                obtain ⟨t960, A63, H⟩ := ob_ H
                try dsimp only at H
                have H' := o_ H
                clear H
                go_wp2_with (first | (go_at_call 36; (with_reducible refine (impl_AreFinds.calls k4 _ _ t944 t960 _ (cd_ (Kd.R_reads' HO_5.1).2.2) ((Kd.R_reads' HO_5.1).2.1) A63.1).mono ?_); rintro e w64 ⟨rfl, hb⟩; replace HO_5 := o_ (Kd.R_below (rd_ HO_5.1) hb); replace HO_7 := o_ (Kd.R_below (rd_ HO_7.1) hb); replace BK939 := o_ (blk_below (bd_ BK939.1) hb); replace BK940 := o_ (blk_below (bd_ BK940.1) hb); replace HB := o_ (below_step wB_ hb); (try clear hb)))
                go_meet
                case rel => exact ⟨_, (t960), y152_, H', ⟨by have := HJ4.1; have := HJ30.1; have := HK3.1; have := HK4.1; first | omega | exact Nat.le_refl _⟩, ⟨rd_ HO_5.1⟩, ⟨rd_ HO_7.1⟩, ⟨bd_ BK939.1⟩, ⟨bd_ BK940.1⟩, ⟨wB_⟩⟩
               ·
                rw [if_neg c62] at H
                have c62b0 := decide_eq_false c62
                clear c62
                (first | rw [c62b0] | (simp only [i64_w, i32_w]; rw [c62b0]) | skip)
                have H' := o_ H
                clear H
                go_wp2
                go_meet
                case rel => exact ⟨_, (false), y152_, H', ⟨by have := HJ4.1; have := HJ30.1; have := HK3.1; have := HK4.1; first | omega | exact Nat.le_refl _⟩, ⟨rd_ HO_5.1⟩, ⟨rd_ HO_7.1⟩, ⟨bd_ BK939.1⟩, ⟨bd_ BK940.1⟩, ⟨wB_⟩⟩
              case rest =>
               clear HC61
               try clear c1
               try clear c2
               try clear p2
               try clear c3
               try clear c4
               try clear c5
               try clear c6
               try clear p6
               try clear c7
               try clear c9
               try clear c11
               try clear c14
               try clear c14b0
               try clear c14b1
               try clear c14b2
               try clear c22
               try clear c23
               try clear c25
               try clear c30
               try clear c30b0
               try clear c30b1
               try clear c30b2
               try clear c31
               try clear c32
               try clear c33
               try clear c34
               try clear c35
               try clear c40
               try clear c41
               try clear c41b0
               try clear c41b1
               try clear c42
               try clear c42b0
               try clear c42b1
               try clear c48
               try clear c51
               try clear c51b0
               try clear c51b1
               try clear c59
               try clear c60
               try clear c60b0
               try clear c62
               try clear c62b0
               try clear p64
               try clear p2
               try clear p6
               obtain ⟨kq, x86_60, rfl, HA, HJ60, HO_5, HO_7, BK939, BK940, HB⟩ := hcut
               cases kq with
               | zero => exact absurd HA.1 (by simp [laws_FnTwins.j4])
               | succ kj60 =>
                have H := HA.1
                clear HA
                simp only [laws_FnTwins.j4] at H
                by_cases c65 : x86_60 = true
                ·
                 as_aux_lemma =>
                  subst c65
                  have H1 := H
                  rw [if_pos rfl] at H1
                  clear H
                  have H := H1
                  clear H1
                  by_cases c66 : 0 ≤ x8_3
                  ·
                   rw [if_pos c66] at H
                   have c66b0 := decide_eq_true c66
                   clear c66
                   by_cases c67 : x8_3 < (t950.length : Int)
                   ·
                    rw [if_pos c67] at H
                    have c67b0 := decide_eq_true c67
                    clear c67
                    by_cases c68 : 0 ≤ x9_4
                    ·
                     rw [if_pos c68] at H
                     have c68b0 := decide_eq_true c68
                     clear c68
                     by_cases c69 : x9_4 < (t950.length : Int)
                     ·
                      rw [if_pos c69] at H
                      have c69b0 := decide_eq_true c69
                      clear c69
                      obtain ⟨t963, A70, H⟩ := ob_ H
                      try dsimp only at H
                      by_cases c71 : t963 = true
                      ·
                       subst c71
                       have H1 := H
                       rw [if_pos rfl] at H1
                       clear H
                       have H := H1
                       clear H1
                       exact absurd H (by simp)
                      ·
                       replace c71 := Bool.eq_false_iff.mpr c71
                       subst c71
                       have H1 := H
                       rw [if_neg nt_] at H1
                       clear H
                       have H := H1
                       clear H1
                       have H' := o_ H
                       clear H
                       try go_wp2
                       replace HO_5 := o_ (Kd.R_drew HO_5.1)
                       replace HO_7 := o_ (Kd.R_drew HO_7.1)
                       replace BK939 := o_ (blk_drew BK939.1)
                       replace BK940 := o_ (blk_drew BK940.1)
                       replace HB := o_ (below_drew1 HB.1)
                       have p961 : 0 ≤ (x8_3 : Int) := of_decide_eq_true as_
                       have q961 : x8_3 < (t950.length : Int) := of_decide_eq_true as_
                       obtain ⟨ad961, e961, hx961_0, hx961_1, hx961_2, hx961_3, hx961_4, hx961_5, hx961_6, hx961_7⟩ := at_T58 (Kd.R_reads' HO_7.1).2.2 x8_3 p961 q961
                       cases e961
                       replace p961 := eq_true p961
                       replace q961 := eq_true q961
                       have p962 : 0 ≤ (x9_4 : Int) := of_decide_eq_true as_
                       have q962 : x9_4 < (t950.length : Int) := of_decide_eq_true as_
                       obtain ⟨ad962, e962, hx962_0, hx962_1, hx962_2, hx962_3, hx962_4, hx962_5, hx962_6, hx962_7⟩ := at_T58 (Kd.R_reads' HO_7.1).2.2 x9_4 p962 q962
                       obtain rfl : ad961 = ad962 := (by injection e962)
                       replace p962 := eq_true p962
                       replace q962 := eq_true q962
                       refine start_ (n := 9) (S := fun w' => q4_ w' (ad961.add ((x8_3).toNat * 8)) ((rd_T58 t950 x8_3).f0.f0) ((rd_T58 t950 x8_3).f0.f1) ((rd_T58 t950 x8_3).f0.f2) ((rd_T58 t950 x8_3).f0.f3) ((rd_T58 t950 x8_3).f0.f4) ((rd_T58 t950 x8_3).f1) ((rd_T58 t950 x8_3).f2) ((rd_T58 t950 x8_3).f3) (q4e_ w' (ad961.add ((x9_4).toNat * 8)) ((rd_T58 t950 x9_4).f0.f0) ((rd_T58 t950 x9_4).f0.f1) ((rd_T58 t950 x9_4).f0.f2) ((rd_T58 t950 x9_4).f0.f3) ((rd_T58 t950 x9_4).f0.f4) ((rd_T58 t950 x9_4).f1) ((rd_T58 t950 x9_4).f2) ((rd_T58 t950 x9_4).f3))) (ds := []) M8_13 (by kernel_rfl) rfl rfl ⟨hx961_0, hx961_1, hx961_2, hx961_3, hx961_4, hx961_5, hx961_6, hx961_7, hx962_0, hx962_1, hx962_2, hx962_3, hx962_4, hx962_5, hx962_6, hx962_7⟩ (fun hHeld => ?_); refine with_tabW laws_FnTwins.tab19 laws_FnTwins.bits19 (fun HT_ HW_ => ?_)
                       generalize wc.drew = w72 at HO_5 HO_7 BK939 BK940 HB hx961_0 hx961_1 hx961_2 hx961_3 hx961_4 hx961_5 hx961_6 hx961_7 hx962_0 hx962_1 hx962_2 hx962_3 hx962_4 hx962_5 hx962_6 hx962_7 hHeld ⊢
                       refine pu_ 0 (some 89) M8_14 HT_ ?_
                       refine pu_ 1 (some 90) M8_15 HT_ ?_
                       refine pu_ 2 (some 91) M8_16 HT_ ?_
                       refine pu_ 4 (some 93) M8_17 HT_ ?_
                       refine pu_ 5 (some 94) M8_18 HT_ ?_
                       refine pu_ 6 (some 95) M8_19 HT_ ?_
                       refine tk_ 3 (some 92) M8_20 HT_ HW_ hHeld ?_
                       refine tk_ 7 (some 96) M8_21 HT_ HW_ hHeld ?_
                       refine one_ (i := 8) (N := some 97) M8_22 rfl rfl (one_of HT_.1 (by kernel_rfl)) (by decide) (fun K hK => ?_)
                       refine goes_ Try.func33 (by kernel_rfl) rfl #[.agg #[.int .i64 ((rd_T58 t950 x8_3).f0.f0), .int .i64 ((rd_T58 t950 x8_3).f0.f1), .int .i64 ((rd_T58 t950 x8_3).f0.f2), .int .i64 ((rd_T58 t950 x8_3).f0.f3), .int .i64 ((rd_T58 t950 x8_3).f0.f4), .int .i64 ((rd_T58 t950 x8_3).f1), .int .i64 ((rd_T58 t950 x8_3).f2), .int .i64 ((rd_T58 t950 x8_3).f3)], .agg #[.int .i64 ((rd_T58 t950 x9_4).f0.f0), .int .i64 ((rd_T58 t950 x9_4).f0.f1), .int .i64 ((rd_T58 t950 x9_4).f0.f2), .int .i64 ((rd_T58 t950 x9_4).f0.f3), .int .i64 ((rd_T58 t950 x9_4).f0.f4), .int .i64 ((rd_T58 t950 x9_4).f1), .int .i64 ((rd_T58 t950 x9_4).f2), .int .i64 ((rd_T58 t950 x9_4).f3)]] (by rfl) rfl rfl ma_ ?_
                       with_reducible refine (impl_AreTwins.calls ((rd_T58 t950 x8_3).f0.f0) ((rd_T58 t950 x8_3).f0.f1) ((rd_T58 t950 x8_3).f0.f2) ((rd_T58 t950 x8_3).f0.f3) ((rd_T58 t950 x8_3).f0.f4) ((rd_T58 t950 x8_3).f1) ((rd_T58 t950 x8_3).f2) ((rd_T58 t950 x8_3).f3) ((rd_T58 t950 x9_4).f0.f0) ((rd_T58 t950 x9_4).f0.f1) ((rd_T58 t950 x9_4).f0.f2) ((rd_T58 t950 x9_4).f0.f3) ((rd_T58 t950 x9_4).f0.f4) ((rd_T58 t950 x9_4).f1) ((rd_T58 t950 x9_4).f2) ((rd_T58 t950 x9_4).f3) false _ A70.1).mono ?_
                       rintro e w73 ⟨rfl, hb⟩
                       have HS0_ := (hb.cell (World.block_lt_of_cell? _ _ (hHeld.1))).trans (hHeld.1)
                       have HS1_ := (hb.cell (World.block_lt_of_cell? _ _ (hHeld.2.1))).trans (hHeld.2.1)
                       have HS2_ := (hb.cell (World.block_lt_of_cell? _ _ (hHeld.2.2.1))).trans (hHeld.2.2.1)
                       have HS3_ := (hb.cell (World.block_lt_of_cell? _ _ (hHeld.2.2.2.1))).trans (hHeld.2.2.2.1)
                       have HS4_ := (hb.cell (World.block_lt_of_cell? _ _ (hHeld.2.2.2.2.1))).trans (hHeld.2.2.2.2.1)
                       have HS5_ := (hb.cell (World.block_lt_of_cell? _ _ (hHeld.2.2.2.2.2.1))).trans (hHeld.2.2.2.2.2.1)
                       have HS6_ := (hb.cell (World.block_lt_of_cell? _ _ (hHeld.2.2.2.2.2.2.1))).trans (hHeld.2.2.2.2.2.2.1)
                       have HS7_ := (hb.cell (World.block_lt_of_cell? _ _ (hHeld.2.2.2.2.2.2.2.1))).trans (hHeld.2.2.2.2.2.2.2.1)
                       have HS8_ := (hb.cell (World.block_lt_of_cell? _ _ (hHeld.2.2.2.2.2.2.2.2.1))).trans (hHeld.2.2.2.2.2.2.2.2.1)
                       have HS9_ := (hb.cell (World.block_lt_of_cell? _ _ (hHeld.2.2.2.2.2.2.2.2.2.1))).trans (hHeld.2.2.2.2.2.2.2.2.2.1)
                       have HS10_ := (hb.cell (World.block_lt_of_cell? _ _ (hHeld.2.2.2.2.2.2.2.2.2.2.1))).trans (hHeld.2.2.2.2.2.2.2.2.2.2.1)
                       have HS11_ := (hb.cell (World.block_lt_of_cell? _ _ (hHeld.2.2.2.2.2.2.2.2.2.2.2.1))).trans (hHeld.2.2.2.2.2.2.2.2.2.2.2.1)
                       have HS12_ := (hb.cell (World.block_lt_of_cell? _ _ (hHeld.2.2.2.2.2.2.2.2.2.2.2.2.1))).trans (hHeld.2.2.2.2.2.2.2.2.2.2.2.2.1)
                       have HS13_ := (hb.cell (World.block_lt_of_cell? _ _ (hHeld.2.2.2.2.2.2.2.2.2.2.2.2.2.1))).trans (hHeld.2.2.2.2.2.2.2.2.2.2.2.2.2.1)
                       have HS14_ := (hb.cell (World.block_lt_of_cell? _ _ (hHeld.2.2.2.2.2.2.2.2.2.2.2.2.2.2.1))).trans (hHeld.2.2.2.2.2.2.2.2.2.2.2.2.2.2.1)
                       have HS15_ := (hb.cell (World.block_lt_of_cell? _ _ (hHeld.2.2.2.2.2.2.2.2.2.2.2.2.2.2.2))).trans (hHeld.2.2.2.2.2.2.2.2.2.2.2.2.2.2.2)
                       refine ⟨_, rfl, ?_⟩
                       replace HO_5 := o_ (Kd.R_below (rd_ HO_5.1) hb)
                       replace HO_7 := o_ (Kd.R_below (rd_ HO_7.1) hb)
                       replace BK939 := o_ (blk_below (bd_ BK939.1) hb)
                       replace BK940 := o_ (blk_below (bd_ BK940.1) hb)
                       replace HB := o_ (below_step wB_ hb)
                       (try clear hb)
                       (try clear hb2)
                       (try clear hk)
                       (try clear hi)
                       refine hK.out _ _ ⟨HS0_, HS1_, HS2_, HS3_, HS4_, HS5_, HS6_, HS7_, HS8_, HS9_, HS10_, HS11_, HS12_, HS13_, HS14_, HS15_⟩ (fun hHeld => ?_)
                       clear hK K
                       refine norm_ (a' := ?_) ?_ ?_
                       rotate_left
                       ·
                        show Act.put _ (some 97) _ = _
                        simp only [Act.put, P8_1, P8_2, P8_3, i64_w, i32_w]
                        rfl
                       refine done_ (done_of HT_.1 (by kernel_rfl)) ?_
                       try go_wp2
                       go_roundg kj60
                       case measure => have := HJ4.1; have := HJ30.1; have := HK3.1; have := HK4.1; have := HJ60.1; omega
                       case rel => exact ⟨(wrap64 (x9_4 + 1)), y152_, H', ⟨by have := HJ4.1; have := HJ30.1; have := HK3.1; have := HK4.1; have := HJ60.1; omega⟩, ⟨rd_ HO_5.1⟩, ⟨rd_ HO_7.1⟩, ⟨bd_ BK939.1⟩, ⟨bd_ BK940.1⟩, ⟨wB_⟩⟩
                     ·
                      rw [if_neg c69] at H
                      exact absurd H (by simp)
                    ·
                     rw [if_neg c68] at H
                     exact absurd H (by simp)
                   ·
                    rw [if_neg c67] at H
                    exact absurd H (by simp)
                  ·
                   rw [if_neg c66] at H
                   exact absurd H (by simp)
                ·
                 replace c65 := Bool.eq_false_iff.mpr c65
                 subst c65
                 have H1 := H
                 rw [if_neg nt_] at H1
                 clear H
                 have H := H1
                 clear H1
                 have H' := o_ H
                 clear H
                 go_wp2
                 go_roundg kj60
                 case measure => have := HJ4.1; have := HJ30.1; have := HK3.1; have := HK4.1; have := HJ60.1; omega
                 case rel => exact ⟨(wrap64 (x8_3 + 1)), y152_, H', ⟨by have := HJ4.1; have := HJ30.1; have := HK3.1; have := HK4.1; have := HJ60.1; omega⟩, ⟨rd_ HO_5.1⟩, ⟨rd_ HO_7.1⟩, ⟨bd_ BK939.1⟩, ⟨bd_ BK940.1⟩, ⟨wB_⟩⟩
           ·
            rw [if_neg c60] at H
            have c60b0 := decide_eq_false c60
            clear c60
            obtain ⟨⟨t964, t965, t966, t969, t970, t971, t974, t975, t976, t977, t978, t981, t982, t983, t986, t987⟩, A74, H⟩ := ob_ H
            try dsimp only at H
            obtain ⟨t990, A75, H⟩ := ob_ H
            try dsimp only at H
            obtain ⟨t991, A76, H⟩ := ob_ H
            try dsimp only at H
            by_cases c77 : (t990 != t991) = true
            ·
             rw [if_pos c77] at H
             have c77b0 : (t990 != t991) = true := c77
             (try (have c77b1 : decide (t990 = t991) = false := by simpa using c77))
             (try (have c77b2 : (t990 == t991) = false := by simpa using c77))
             (try (have c77b3 : ¬ (t990 = t991) := by simpa using c77))
             clear c77
             exact absurd H (by simp)
            ·
             rw [if_neg c77] at H
             have c77b0 : (t990 != t991) = false := by simpa using c77
             (try (have c77b1 : decide (t990 = t991) = true := by simpa using c77))
             (try (have c77b2 : (t990 == t991) = true := by simpa using c77))
             clear c77
             obtain ⟨t992, A78, H⟩ := ob_ H
             try dsimp only at H
             obtain ⟨t995, A79, H⟩ := ob_ H
             try dsimp only at H
             have H' := o_ H
             clear H
             try go_wp2_with (first | ((with_reducible refine g_ 37 ?_); refine gl_ (some 100) Try.func37 #[.slice A0 l0.length c0] ?_; (with_reducible refine (spec_DrawSameOwner.calls k3 _ _ l0 t964 t965 t966 t969 t970 t971 t974 t975 t976 t977 t978 t981 t982 t983 t986 t987 _ (cd_ (Kd.C_below HR0.1 HB.1)) HC0.1 A74.1).mono ?_); rintro e w80 ⟨v967, v972, v979, v984, rfl, ho0, ho1, ho2, ho3, hb⟩; refine ⟨_, rfl, ?_⟩; replace HO_5 := o_ (Kd.R_below (rd_ HO_5.1) hb); replace HO_7 := o_ (Kd.R_below (rd_ HO_7.1) hb); have HO968 := o_ (Kd.R_lower ho0 (below_size wB_)); have HO973 := o_ (Kd.R_lower ho1 (below_size wB_)); have HO980 := o_ (Kd.R_lower ho2 (below_size wB_)); have HO985 := o_ (Kd.R_lower ho3 (below_size wB_)); replace BK939 := o_ (blk_below (bd_ BK939.1) hb); replace BK940 := o_ (blk_below (bd_ BK940.1) hb); replace HB := o_ (below_step wB_ hb); (try clear hb ho0 ho1 ho2 ho3)) | ((with_reducible refine gate_dst (N := 10) rfl ?_); (try (refine gate_guard (by rfl) ?_; dsimp only)); refine box_event ?hg (N := 10) ?hd (cs := #[.int .i64 0, .int .i64 0, .slice none 0 0, .int .i64 0, .int .i64 0, .slice none 0 0, .int .i64 0, .int .i64 0]) (t := 41) ?hr ?_; (case hd => rfl); (case hg => rfl); (case hr => first | (go_simp; done) | (go_simp; rfl)); intro gb988 hg w81 hbox hb; replace HO_5 := o_ (Kd.R_below (rd_ HO_5.1) hb); replace HO_7 := o_ (Kd.R_below (rd_ HO_7.1) hb); replace HO968 := o_ (Kd.R_below (rd_ HO968.1) hb); replace HO973 := o_ (Kd.R_below (rd_ HO973.1) hb); replace HO980 := o_ (Kd.R_below (rd_ HO980.1) hb); replace HO985 := o_ (Kd.R_below (rd_ HO985.1) hb); have BK988 := o_ (hbox); have GW988 := o_ ((by rw [hg]; exact (below_size wB_) : w.heap.size ≤ gb988)); replace HB := o_ (below_step wB_ hb); have GE988 := GW988; have NB939_988 := o_ ((by rw [hg]; exact Nat.ne_of_lt (blk_lt (bd_ BK939.1)) : gb939 ≠ gb988)); have NB988_939 := o_ ((by rw [hg]; exact Nat.ne_of_gt (blk_lt (bd_ BK939.1)) : gb988 ≠ gb939)); replace BK939 := o_ (blk_below (bd_ BK939.1) hb); have NB940_988 := o_ ((by rw [hg]; exact Nat.ne_of_lt (blk_lt (bd_ BK940.1)) : gb940 ≠ gb988)); have NB988_940 := o_ ((by rw [hg]; exact Nat.ne_of_gt (blk_lt (bd_ BK940.1)) : gb988 ≠ gb940)); replace BK940 := o_ (blk_below (bd_ BK940.1) hb); clear hb hbox hg) | ((with_reducible refine gate_dst (N := 11) rfl ?_); (try (refine gate_guard (by rfl) ?_; dsimp only)); refine box_event ?hg (N := 11) ?hd (cs := #[.int .i64 0, .int .i64 0, .slice none 0 0, .int .i64 0, .int .i64 0, .slice none 0 0, .int .i64 0, .int .i64 0]) (t := 41) ?hr ?_; (case hd => rfl); (case hg => rfl); (case hr => first | (go_simp; done) | (go_simp; rfl)); intro gb989 hg w82 hbox hb; replace HO_5 := o_ (Kd.R_below (rd_ HO_5.1) hb); replace HO_7 := o_ (Kd.R_below (rd_ HO_7.1) hb); replace HO968 := o_ (Kd.R_below (rd_ HO968.1) hb); replace HO973 := o_ (Kd.R_below (rd_ HO973.1) hb); replace HO980 := o_ (Kd.R_below (rd_ HO980.1) hb); replace HO985 := o_ (Kd.R_below (rd_ HO985.1) hb); have BK989 := o_ (hbox); have GW989 := o_ ((by rw [hg]; exact (below_size wB_) : w.heap.size ≤ gb989)); replace HB := o_ (below_step wB_ hb); have GE989 := GW989; have NB939_989 := o_ ((by rw [hg]; exact Nat.ne_of_lt (blk_lt (bd_ BK939.1)) : gb939 ≠ gb989)); have NB989_939 := o_ ((by rw [hg]; exact Nat.ne_of_gt (blk_lt (bd_ BK939.1)) : gb989 ≠ gb939)); replace BK939 := o_ (blk_below (bd_ BK939.1) hb); have NB940_989 := o_ ((by rw [hg]; exact Nat.ne_of_lt (blk_lt (bd_ BK940.1)) : gb940 ≠ gb989)); have NB989_940 := o_ ((by rw [hg]; exact Nat.ne_of_gt (blk_lt (bd_ BK940.1)) : gb989 ≠ gb940)); replace BK940 := o_ (blk_below (bd_ BK940.1) hb); have NB988_989 := o_ ((by rw [hg]; exact Nat.ne_of_lt (blk_lt (bd_ BK988.1)) : gb988 ≠ gb989)); have NB989_988 := o_ ((by rw [hg]; exact Nat.ne_of_gt (blk_lt (bd_ BK988.1)) : gb989 ≠ gb988)); replace BK988 := o_ (blk_below (bd_ BK988.1) hb); clear hb hbox hg; have hnb83 := NB988_939.1; have hnc83 := NB939_988.1; have hnb84 := NB988_940.1; have hnc84 := NB940_988.1; have hnb85 := NB988_989.1; have hnc85 := NB989_988.1; obtain ⟨_, _, _, _, _, _, _, _⟩ := e6_ BK988.1; obtain ⟨_, _, _, _, _, _, _, _⟩ := z5_ BK988.1; obtain ⟨Ao87, co87, eo87⟩ := Kd.R_slice HO968.1; subst eo87; obtain ⟨Ao88, co88, eo88⟩ := Kd.R_slice HO973.1; subst eo88; have hnb89 := NB989_939.1; have hnc89 := NB939_989.1; have hnb90 := NB989_940.1; have hnc90 := NB940_989.1; obtain ⟨_, _, _, _, _, _, _, _⟩ := e6_ BK989.1; obtain ⟨_, _, _, _, _, _, _, _⟩ := z5_ BK989.1; obtain ⟨Ao92, co92, eo92⟩ := Kd.R_slice HO980.1; subst eo92; obtain ⟨Ao93, co93, eo93⟩ := Kd.R_slice HO985.1; subst eo93))
             generalize hw_ : ((((((((((((((((w82.setCell ⟨gb988, 0, none⟩ (.int .i64 t964)).setCell ⟨gb988, 1, none⟩ (.int .i64 t965)).setCell ⟨gb988, 2, none⟩ (.slice Ao87 t966.length co87)).setCell ⟨gb988, 3, none⟩ (.int .i64 t969)).setCell ⟨gb988, 4, none⟩ (.int .i64 t970)).setCell ⟨gb988, 5, none⟩ (.slice Ao88 t971.length co88)).setCell ⟨gb988, 6, none⟩ (.int .i64 t974)).setCell ⟨gb988, 7, none⟩ (.int .i64 t975)).setCell ⟨gb989, 0, none⟩ (.int .i64 t976)).setCell ⟨gb989, 1, none⟩ (.int .i64 t977)).setCell ⟨gb989, 2, none⟩ (.slice Ao92 t978.length co92)).setCell ⟨gb989, 3, none⟩ (.int .i64 t981)).setCell ⟨gb989, 4, none⟩ (.int .i64 t982)).setCell ⟨gb989, 5, none⟩ (.slice Ao93 t983.length co93)).setCell ⟨gb989, 6, none⟩ (.int .i64 t986)).setCell ⟨gb989, 7, none⟩ (.int .i64 t987)) = w94
             replace HO_5 : Aside0 (Kd.R k58 58 w94 w.heap.size (fun k_ => some k_ ≠ (.slice Ao36 t950.length co36 : Value).ownBlock ∧ k_ ≠ gb939 ∧ k_ ≠ gb940) (.slice Ao33 t944.length co33) t944) := ⟨by rw [← hw_]; exact rf_ (R2_ (R2_ HO_5.1 BK988.1) BK989.1) (fun _ hk => ⟨hk.1.1.1, ⟨hk.1.1.2.1, hk.1.1.2.2⟩⟩)⟩
             replace HO_7 : Aside0 (Kd.R k58 58 w94 w.heap.size (fun k_ => some k_ ≠ (.slice Ao33 t944.length co33 : Value).ownBlock ∧ k_ ≠ gb939 ∧ k_ ≠ gb940) (.slice Ao36 t950.length co36) t950) := ⟨by rw [← hw_]; exact rf_ (R2_ (R2_ HO_7.1 BK988.1) BK989.1) (fun _ hk => ⟨hk.1.1.1, ⟨hk.1.1.2.1, hk.1.1.2.2⟩⟩)⟩
             replace HO968 : Aside0 (Kd.R (Kd.int .i64) 3 w94 w.heap.size (fun k_ => some k_ ≠ (.slice Ao88 t971.length co88 : Value).ownBlock ∧ some k_ ≠ (.slice Ao92 t978.length co92 : Value).ownBlock ∧ some k_ ≠ (.slice Ao93 t983.length co93 : Value).ownBlock) (.slice Ao87 t966.length co87) t966) := ⟨by rw [← hw_]; exact rf_ (R2_ (R2_ HO968.1 BK988.1) BK989.1) (fun _ hk => ⟨hk.1.1.1, ⟨hk.1.1.2.1, hk.1.1.2.2⟩⟩)⟩
             replace HO973 : Aside0 (Kd.R (Kd.int .i64) 3 w94 w.heap.size (fun k_ => some k_ ≠ (.slice Ao87 t966.length co87 : Value).ownBlock ∧ some k_ ≠ (.slice Ao92 t978.length co92 : Value).ownBlock ∧ some k_ ≠ (.slice Ao93 t983.length co93 : Value).ownBlock) (.slice Ao88 t971.length co88) t971) := ⟨by rw [← hw_]; exact rf_ (R2_ (R2_ HO973.1 BK988.1) BK989.1) (fun _ hk => ⟨hk.1.1.1, ⟨hk.1.1.2.1, hk.1.1.2.2⟩⟩)⟩
             replace HO980 : Aside0 (Kd.R (Kd.int .i64) 3 w94 w.heap.size (fun k_ => some k_ ≠ (.slice Ao87 t966.length co87 : Value).ownBlock ∧ some k_ ≠ (.slice Ao88 t971.length co88 : Value).ownBlock ∧ some k_ ≠ (.slice Ao93 t983.length co93 : Value).ownBlock) (.slice Ao92 t978.length co92) t978) := ⟨by rw [← hw_]; exact rf_ (R2_ (R2_ HO980.1 BK988.1) BK989.1) (fun _ hk => ⟨hk.1.1.1, ⟨hk.1.1.2.1, hk.1.1.2.2⟩⟩)⟩
             replace HO985 : Aside0 (Kd.R (Kd.int .i64) 3 w94 w.heap.size (fun k_ => some k_ ≠ (.slice Ao87 t966.length co87 : Value).ownBlock ∧ some k_ ≠ (.slice Ao88 t971.length co88 : Value).ownBlock ∧ some k_ ≠ (.slice Ao92 t978.length co92 : Value).ownBlock) (.slice Ao93 t983.length co93) t983) := ⟨by rw [← hw_]; exact rf_ (R2_ (R2_ HO985.1 BK988.1) BK989.1) (fun _ hk => ⟨hk.1.1.1, ⟨hk.1.1.2.1, hk.1.1.2.2⟩⟩)⟩
             replace BK939 : Aside0 (w94.heap[gb939]? = some (c8_ t923 t924 t925 t926 t927 t928 t929 t930)) := ⟨by rw [← hw_]; exact bk_ BK939.1⟩
             replace BK940 : Aside0 (w94.heap[gb940]? = some (c8_ t931 t932 t933 t934 t935 t936 t937 t938)) := ⟨by rw [← hw_]; exact bk_ BK940.1⟩
             replace BK988 : Aside0 (w94.heap[gb988]? = some (c7_ t964 t965 Ao87 t966.length co87 t969 t970 Ao88 t971.length co88 t974 t975)) := ⟨by rw [← hw_]; exact bk_ BK988.1⟩
             replace BK989 : Aside0 (w94.heap[gb989]? = some (c7_ t976 t977 Ao92 t978.length co92 t981 t982 Ao93 t983.length co93 t986 t987)) := ⟨by rw [← hw_]; exact bk_ BK989.1⟩
             replace HB : Aside0 (Below w.heap.size w w94) := ⟨by rw [← hw_]; exact wB_⟩
             clear hw_
             replace HO_5 := o_ (Kd.R_drew HO_5.1)
             replace HO_7 := o_ (Kd.R_drew HO_7.1)
             replace HO968 := o_ (Kd.R_drew HO968.1)
             replace HO973 := o_ (Kd.R_drew HO973.1)
             replace HO980 := o_ (Kd.R_drew HO980.1)
             replace HO985 := o_ (Kd.R_drew HO985.1)
             replace BK939 := o_ (blk_drew BK939.1)
             replace BK940 := o_ (blk_drew BK940.1)
             replace BK988 := o_ (blk_drew BK988.1)
             replace BK989 := o_ (blk_drew BK989.1)
             replace HB := o_ (below_drew1 HB.1)
             refine start_ (n := 7) (S := fun w' => q1_ w' gb988 t964 t965 Ao87 t966.length co87 t969 t970 Ao88 t971.length co88 t974 t975 (q1e_ w' gb989 t976 t977 Ao92 t978.length co92 t981 t982 Ao93 t983.length co93 t986 t987)) (ds := []) #[false, false, false, false, false, false, false] (by kernel_rfl) rfl rfl (k1_ BK988.1 (k1e_ BK989.1)) (fun hHeld => ?_)
             generalize w94.drew = w95 at HO_5 HO_7 HO968 HO973 HO980 HO985 BK939 BK940 BK988 BK989 HB hHeld ⊢
             refine take_ (i := 0) (N := some 103) (v := ?_) (a' := ?_) #[true, false, false, false, false, false, false] rfl rfl (by kernel_rfl) (fun _ _ _ h => h) (Or.inl ⟨by rfl, ?_⟩) hHeld ?_ ?_
             rotate_left; · rintro w' ⟨s0, s1, s2, s3, s4, s5, s6, s7, s8, s9, s10, s11, s12, s13, s14, s15⟩; go_simp; with_reducible rfl
             rotate_left; · simp only [Act.put, P8_1, P8_2, P8_3, i64_w, i32_w]; rfl
             refine take_ (i := 1) (N := some 104) (v := ?_) (a' := ?_) #[true, true, false, false, false, false, false] rfl rfl (by kernel_rfl) (fun _ _ _ h => h) (Or.inl ⟨by rfl, ?_⟩) hHeld ?_ ?_
             rotate_left; · rintro w' ⟨s0, s1, s2, s3, s4, s5, s6, s7, s8, s9, s10, s11, s12, s13, s14, s15⟩; go_simp; with_reducible rfl
             rotate_left; · simp only [Act.put, P8_1, P8_2, P8_3, i64_w, i32_w]; rfl
             refine take_ (i := 3) (N := some 106) (v := ?_) (a' := ?_) #[true, true, false, true, false, false, false] rfl rfl (by kernel_rfl) (fun _ _ _ h => h) (Or.inl ⟨by rfl, ?_⟩) hHeld ?_ ?_
             rotate_left; · rintro w' ⟨s0, s1, s2, s3, s4, s5, s6, s7, s8, s9, s10, s11, s12, s13, s14, s15⟩; go_simp; with_reducible rfl
             rotate_left; · simp only [Act.put, P8_1, P8_2, P8_3, i64_w, i32_w]; rfl
             refine take_ (i := 4) (N := some 107) (v := ?_) (a' := ?_) #[true, true, false, true, true, false, false] rfl rfl (by kernel_rfl) (fun _ _ _ h => h) (Or.inl ⟨by rfl, ?_⟩) hHeld ?_ ?_
             rotate_left; · rintro w' ⟨s0, s1, s2, s3, s4, s5, s6, s7, s8, s9, s10, s11, s12, s13, s14, s15⟩; go_simp; with_reducible rfl
             rotate_left; · simp only [Act.put, P8_1, P8_2, P8_3, i64_w, i32_w]; rfl
             refine one_ (i := 2) (N := some 105) #[true, true, true, true, true, false, false] rfl rfl (by kernel_rfl) (by decide) (fun K hK => ?_)
             refine goes_ Try.func20 (by kernel_rfl) rfl #[.agg #[.int .i64 t964, .int .i64 t965, .slice Ao87 t966.length co87, .int .i64 t969, .int .i64 t970, .slice Ao88 t971.length co88, .int .i64 t974, .int .i64 t975], .agg #[.int .i64 t976, .int .i64 t977, .slice Ao92 t978.length co92, .int .i64 t981, .int .i64 t982, .slice Ao93 t983.length co93, .int .i64 t986, .int .i64 t987]] (by rfl) rfl rfl ma_ ?_
             with_reducible refine (impl_SameOwner.calls k3 t964 t965 _ _ t966 t969 t970 _ _ t971 t974 t975 t976 t977 _ _ t978 t981 t982 _ _ t983 t986 t987 t990 _ ?side1 ?side2 ?side3 ?side4 ?side5 ?side6 ?side7 ?side8 A75.1).mono ?_
             (case side1 => exact cd_ (Kd.R_reads' HO968.1).2.2)
             (case side2 => exact (Kd.R_reads' HO968.1).2.1)
             (case side3 => exact cd_ (Kd.R_reads' HO973.1).2.2)
             (case side4 => exact (Kd.R_reads' HO973.1).2.1)
             (case side5 => exact cd_ (Kd.R_reads' HO980.1).2.2)
             (case side6 => exact (Kd.R_reads' HO980.1).2.1)
             (case side7 => exact cd_ (Kd.R_reads' HO985.1).2.2)
             (case side8 => exact (Kd.R_reads' HO985.1).2.1)
             rintro e w96 ⟨rfl, hb⟩
             refine ⟨_, rfl, ?_⟩
             replace HO_5 := o_ (Kd.R_below (rd_ HO_5.1) hb)
             replace HO_7 := o_ (Kd.R_below (rd_ HO_7.1) hb)
             replace HO968 := o_ (Kd.R_below (rd_ HO968.1) hb)
             replace HO973 := o_ (Kd.R_below (rd_ HO973.1) hb)
             replace HO980 := o_ (Kd.R_below (rd_ HO980.1) hb)
             replace HO985 := o_ (Kd.R_below (rd_ HO985.1) hb)
             replace BK939 := o_ (blk_below (bd_ BK939.1) hb)
             replace BK940 := o_ (blk_below (bd_ BK940.1) hb)
             replace BK988 := o_ (blk_below (bd_ BK988.1) hb)
             replace BK989 := o_ (blk_below (bd_ BK989.1) hb)
             replace HB := o_ (below_step wB_ hb)
             (try clear hb)
             (try clear hb2)
             (try clear hk)
             (try clear hi)
             refine hK.out _ _ (k1_ BK988.1 (k1e_ BK989.1)) (fun hHeld => ?_)
             clear hK K
             refine norm_ (a' := ?_) ?_ ?_
             rotate_left
             ·
              show Act.put _ (some 105) _ = _
              simp only [Act.put, P8_1, P8_2, P8_3, i64_w, i32_w]
              rfl
             refine one_ (i := 5) (N := some 108) #[true, true, true, true, true, true, false] rfl rfl (by kernel_rfl) (by decide) (fun K hK => ?_)
             refine goes_ Try.func20 (by kernel_rfl) rfl #[.agg #[.int .i64 t976, .int .i64 t977, .slice Ao92 t978.length co92, .int .i64 t981, .int .i64 t982, .slice Ao93 t983.length co93, .int .i64 t986, .int .i64 t987], .agg #[.int .i64 t964, .int .i64 t965, .slice Ao87 t966.length co87, .int .i64 t969, .int .i64 t970, .slice Ao88 t971.length co88, .int .i64 t974, .int .i64 t975]] (by rfl) rfl rfl ma_ ?_
             with_reducible refine (impl_SameOwner.calls k3 t976 t977 _ _ t978 t981 t982 _ _ t983 t986 t987 t964 t965 _ _ t966 t969 t970 _ _ t971 t974 t975 t991 _ ?side1 ?side2 ?side3 ?side4 ?side5 ?side6 ?side7 ?side8 A76.1).mono ?_
             (case side1 => exact cd_ (Kd.R_reads' HO980.1).2.2)
             (case side2 => exact (Kd.R_reads' HO980.1).2.1)
             (case side3 => exact cd_ (Kd.R_reads' HO985.1).2.2)
             (case side4 => exact (Kd.R_reads' HO985.1).2.1)
             (case side5 => exact cd_ (Kd.R_reads' HO968.1).2.2)
             (case side6 => exact (Kd.R_reads' HO968.1).2.1)
             (case side7 => exact cd_ (Kd.R_reads' HO973.1).2.2)
             (case side8 => exact (Kd.R_reads' HO973.1).2.1)
             rintro e w97 ⟨rfl, hb⟩
             refine ⟨_, rfl, ?_⟩
             replace HO_5 := o_ (Kd.R_below (rd_ HO_5.1) hb)
             replace HO_7 := o_ (Kd.R_below (rd_ HO_7.1) hb)
             replace HO968 := o_ (Kd.R_below (rd_ HO968.1) hb)
             replace HO973 := o_ (Kd.R_below (rd_ HO973.1) hb)
             replace HO980 := o_ (Kd.R_below (rd_ HO980.1) hb)
             replace HO985 := o_ (Kd.R_below (rd_ HO985.1) hb)
             replace BK939 := o_ (blk_below (bd_ BK939.1) hb)
             replace BK940 := o_ (blk_below (bd_ BK940.1) hb)
             replace BK988 := o_ (blk_below (bd_ BK988.1) hb)
             replace BK989 := o_ (blk_below (bd_ BK989.1) hb)
             replace HB := o_ (below_step wB_ hb)
             (try clear hb)
             (try clear hb2)
             (try clear hk)
             (try clear hi)
             refine hK.out _ _ (k1_ BK988.1 (k1e_ BK989.1)) (fun hHeld => ?_)
             clear hK K
             refine norm_ (a' := ?_) ?_ ?_
             rotate_left
             ·
              show Act.put _ (some 108) _ = _
              simp only [Act.put, P8_1, P8_2, P8_3, i64_w, i32_w]
              rfl
             refine pure_ (i := 6) (N := some 109) (v := ?_) (a' := ?_) #[true, true, true, true, true, true, true] rfl rfl (by kernel_rfl) (fun _ _ _ h => h) (Or.inl ⟨by rfl, ?_⟩) ?_ ?_
             rotate_left; · intro w'; go_simp; with_reducible rfl
             rotate_left; · simp only [Act.put, P8_1, P8_2, P8_3, i64_w, i32_w]; rfl
             refine done_ (by kernel_rfl) ?_
             try go_wp2_with (first | ((with_reducible refine g_ 38 ?_); refine gl_ (some 111) Try.func38 #[.slice A0 l0.length c0] ?_; (with_reducible refine (spec_DrawGroupReports.calls k3 _ _ l0 t992 _ (cd_ (Kd.C_below HR0.1 HB.1)) HC0.1 A78.1).mono ?_); rintro e w98 ⟨v993, rfl, ho0, hb⟩; refine ⟨_, rfl, ?_⟩; have HO994 := o_ (Kd.N_lower (Kd.N_mono (ok' := fun k_ => some k_ ≠ (.slice Ao33 t944.length co33 : Value).ownBlock ∧ some k_ ≠ (.slice Ao36 t950.length co36 : Value).ownBlock ∧ some k_ ≠ (.slice Ao87 t966.length co87 : Value).ownBlock ∧ some k_ ≠ (.slice Ao88 t971.length co88 : Value).ownBlock ∧ some k_ ≠ (.slice Ao92 t978.length co92 : Value).ownBlock ∧ some k_ ≠ (.slice Ao93 t983.length co93 : Value).ownBlock ∧ k_ ≠ gb939 ∧ k_ ≠ gb940 ∧ k_ ≠ gb988 ∧ k_ ≠ gb989) ho0 (fun k_ hk_ => ⟨(Kd.fresh' (Kd.R_lt (rd_ HO_5.1)) k_ hk_), (Kd.fresh' (Kd.R_lt (rd_ HO_7.1)) k_ hk_), (Kd.fresh' (Kd.R_lt (rd_ HO968.1)) k_ hk_), (Kd.fresh' (Kd.R_lt (rd_ HO973.1)) k_ hk_), (Kd.fresh' (Kd.R_lt (rd_ HO980.1)) k_ hk_), (Kd.fresh' (Kd.R_lt (rd_ HO985.1)) k_ hk_), (Kd.freshB (g := gb939) (o := c8_ t923 t924 t925 t926 t927 t928 t929 t930) (bd_ BK939.1) k_ hk_), (Kd.freshB (g := gb940) (o := c8_ t931 t932 t933 t934 t935 t936 t937 t938) (bd_ BK940.1) k_ hk_), (Kd.freshB (g := gb988) (o := c7_ t964 t965 Ao87 t966.length co87 t969 t970 Ao88 t971.length co88 t974 t975) (bd_ BK988.1) k_ hk_), (Kd.freshB (g := gb989) (o := c7_ t976 t977 Ao92 t978.length co92 t981 t982 Ao93 t983.length co93 t986 t987) (bd_ BK989.1) k_ hk_)⟩)) (below_size wB_)); replace HO_5 := o_ (Kd.R_below (rd_ HO_5.1) hb); replace HO_7 := o_ (Kd.R_below (rd_ HO_7.1) hb); replace HO968 := o_ (Kd.R_below (rd_ HO968.1) hb); replace HO973 := o_ (Kd.R_below (rd_ HO973.1) hb); replace HO980 := o_ (Kd.R_below (rd_ HO980.1) hb); replace HO985 := o_ (Kd.R_below (rd_ HO985.1) hb); replace BK939 := o_ (blk_below (bd_ BK939.1) hb); replace BK940 := o_ (blk_below (bd_ BK940.1) hb); replace BK988 := o_ (blk_below (bd_ BK988.1) hb); replace BK989 := o_ (blk_below (bd_ BK989.1) hb); replace HB := o_ (below_step wB_ hb); (try clear hb ho0); obtain ⟨Ao99, co99, eo99⟩ := Kd.N_slice HO994.1; subst eo99) | ((with_reducible refine g_ 28 ?_); refine gl_ (some 113) Try.func28 #[.slice Ao99 t992.length co99] ?_; (with_reducible refine (impl_GroupReports.calls k3 _ _ t992 t995 _ (cd_ (Kd.N_reads' HO994.1).2.2) ((Kd.N_reads' HO994.1).2.1) A79.1).mono ?_); rintro e w100 ⟨v996, rfl, ho0, hb⟩; refine ⟨_, rfl, ?_⟩; replace HO_5 := o_ (Kd.R_below (rd_ HO_5.1) hb); replace HO_7 := o_ (Kd.R_below (rd_ HO_7.1) hb); replace HO994 := o_ (Kd.N_elder' (by (with_reducible repeat (first | apply Kd.N_alloc | apply Kd.N_drewN | apply Kd.N_drew)); exact HO994.1) (Kd.R_base ho0) hb); have HO997 := o_ (Kd.R_lower (Kd.R_new' (Kd.R_new' (Kd.R_new' (Kd.R_new' ho0 (Kd.R_lt (rd_ HO968.1))) (Kd.R_lt (rd_ HO973.1))) (Kd.R_lt (rd_ HO980.1))) (Kd.R_lt (rd_ HO985.1))) (below_size wB_)); replace HO968 := o_ (Kd.R_elder' (rd_ HO968.1) (Kd.R_base ho0) hb); replace HO973 := o_ (Kd.R_elder' (rd_ HO973.1) (Kd.R_base ho0) hb); replace HO980 := o_ (Kd.R_elder' (rd_ HO980.1) (Kd.R_base ho0) hb); replace HO985 := o_ (Kd.R_elder' (rd_ HO985.1) (Kd.R_base ho0) hb); replace BK939 := o_ (blk_below (bd_ BK939.1) hb); replace BK940 := o_ (blk_below (bd_ BK940.1) hb); replace BK988 := o_ (blk_below (bd_ BK988.1) hb); replace BK989 := o_ (blk_below (bd_ BK989.1) hb); replace HB := o_ (below_step wB_ hb); (try clear hb ho0)))
             go_loopg [14] k3 (fun kq v14 w' => ∃ (x14_4 : Int), v14 = .int .i64 x14_4 ∧ Aside0 (laws_FnTwins.l2 kq t992 t995 x14_4 = some true) ∧ Aside0 (kq ≤ k3) ∧ Aside0 (Kd.N k41 41 w' w.heap.size (fun k_ => some k_ ≠ (v996 : Value).ownBlock ∧ some k_ ≠ ((.slice Ao87 t966.length co87) : Value).ownBlock ∧ some k_ ≠ ((.slice Ao88 t971.length co88) : Value).ownBlock ∧ some k_ ≠ ((.slice Ao92 t978.length co92) : Value).ownBlock ∧ some k_ ≠ ((.slice Ao93 t983.length co93) : Value).ownBlock ∧ k_ ≠ gb939 ∧ k_ ≠ gb940 ∧ k_ ≠ gb988 ∧ k_ ≠ gb989) (.slice Ao99 t992.length co99) t992) ∧ Aside0 (Kd.R (Kd.int .i64) 3 w' w.heap.size (fun k_ => some k_ ≠ ((.slice Ao87 t966.length co87) : Value).ownBlock ∧ some k_ ≠ ((.slice Ao88 t971.length co88) : Value).ownBlock ∧ some k_ ≠ ((.slice Ao92 t978.length co92) : Value).ownBlock ∧ some k_ ≠ ((.slice Ao93 t983.length co93) : Value).ownBlock) v996 t995) ∧ Aside0 (Kd.R (Kd.int .i64) 3 w' w.heap.size (fun k_ => some k_ ≠ (v996 : Value).ownBlock ∧ some k_ ≠ ((.slice Ao88 t971.length co88) : Value).ownBlock ∧ some k_ ≠ ((.slice Ao92 t978.length co92) : Value).ownBlock ∧ some k_ ≠ ((.slice Ao93 t983.length co93) : Value).ownBlock) (.slice Ao87 t966.length co87) t966) ∧ Aside0 (Kd.R (Kd.int .i64) 3 w' w.heap.size (fun k_ => some k_ ≠ (v996 : Value).ownBlock ∧ some k_ ≠ ((.slice Ao87 t966.length co87) : Value).ownBlock ∧ some k_ ≠ ((.slice Ao92 t978.length co92) : Value).ownBlock ∧ some k_ ≠ ((.slice Ao93 t983.length co93) : Value).ownBlock) (.slice Ao88 t971.length co88) t971) ∧ Aside0 (Kd.R (Kd.int .i64) 3 w' w.heap.size (fun k_ => some k_ ≠ (v996 : Value).ownBlock ∧ some k_ ≠ ((.slice Ao87 t966.length co87) : Value).ownBlock ∧ some k_ ≠ ((.slice Ao88 t971.length co88) : Value).ownBlock ∧ some k_ ≠ ((.slice Ao93 t983.length co93) : Value).ownBlock) (.slice Ao92 t978.length co92) t978) ∧ Aside0 (Kd.R (Kd.int .i64) 3 w' w.heap.size (fun k_ => some k_ ≠ (v996 : Value).ownBlock ∧ some k_ ≠ ((.slice Ao87 t966.length co87) : Value).ownBlock ∧ some k_ ≠ ((.slice Ao88 t971.length co88) : Value).ownBlock ∧ some k_ ≠ ((.slice Ao92 t978.length co92) : Value).ownBlock) (.slice Ao93 t983.length co93) t983) ∧ Aside0 (w'.heap[gb939]? = some (c8_ t923 t924 t925 t926 t927 t928 t929 t930)) ∧ Aside0 (w'.heap[gb940]? = some (c8_ t931 t932 t933 t934 t935 t936 t937 t938)) ∧ Aside0 (w'.heap[gb988]? = some (.cells #[.int .i64 t964, .int .i64 t965, (.slice Ao87 t966.length co87), .int .i64 t969, .int .i64 t970, (.slice Ao88 t971.length co88), .int .i64 t974, .int .i64 t975] 41 (0, 0))) ∧ Aside0 (w'.heap[gb989]? = some (.cells #[.int .i64 t976, .int .i64 t977, (.slice Ao92 t978.length co92), .int .i64 t981, .int .i64 t982, (.slice Ao93 t983.length co93), .int .i64 t986, .int .i64 t987] 41 (0, 0))) ∧ Aside0 (Below w.heap.size w w'))
             case atStart => exact ⟨(0), y152_, H', ⟨Nat.le_refl _⟩, ⟨by (with_reducible repeat (first | apply Kd.N_alloc | apply Kd.N_drewN | apply Kd.N_drew)); exact Kd.N_mono HO994.1 (fun _ hk => ⟨hk.2, ⟨hk.1.2.2.1, ⟨hk.1.2.2.2.1, ⟨hk.1.2.2.2.2.1, ⟨hk.1.2.2.2.2.2.1, ⟨hk.1.2.2.2.2.2.2.1, ⟨hk.1.2.2.2.2.2.2.2.1, ⟨hk.1.2.2.2.2.2.2.2.2.1, hk.1.2.2.2.2.2.2.2.2.2⟩⟩⟩⟩⟩⟩⟩⟩)⟩, ⟨by (with_reducible repeat (first | apply Kd.R_alloc | apply Kd.R_drewN | apply Kd.R_drew)); exact Kd.R_mono HO997.1 (fun _ hk => ⟨hk.1.1.1.2, ⟨hk.1.1.2, ⟨hk.1.2, hk.2⟩⟩⟩)⟩, ⟨by (with_reducible repeat (first | apply Kd.R_alloc | apply Kd.R_drewN | apply Kd.R_drew)); exact Kd.R_mono HO968.1 (fun _ hk => ⟨hk.2, ⟨hk.1.1, ⟨hk.1.2.1, hk.1.2.2⟩⟩⟩)⟩, ⟨by (with_reducible repeat (first | apply Kd.R_alloc | apply Kd.R_drewN | apply Kd.R_drew)); exact Kd.R_mono HO973.1 (fun _ hk => ⟨hk.2, ⟨hk.1.1, ⟨hk.1.2.1, hk.1.2.2⟩⟩⟩)⟩, ⟨by (with_reducible repeat (first | apply Kd.R_alloc | apply Kd.R_drewN | apply Kd.R_drew)); exact Kd.R_mono HO980.1 (fun _ hk => ⟨hk.2, ⟨hk.1.1, ⟨hk.1.2.1, hk.1.2.2⟩⟩⟩)⟩, ⟨by (with_reducible repeat (first | apply Kd.R_alloc | apply Kd.R_drewN | apply Kd.R_drew)); exact Kd.R_mono HO985.1 (fun _ hk => ⟨hk.2, ⟨hk.1.1, ⟨hk.1.2.1, hk.1.2.2⟩⟩⟩)⟩, ⟨bd_ BK939.1⟩, ⟨bd_ BK940.1⟩, ⟨bd_ BK988.1⟩, ⟨bd_ BK989.1⟩, ⟨wB_⟩⟩
             case round =>
              clear H'
              try clear c1
              try clear c2
              try clear p2
              try clear c3
              try clear c4
              try clear c5
              try clear c6
              try clear p6
              try clear c7
              try clear c8
              try clear c9
              try clear p9
              try clear q9
              try clear hx9
              try clear c11
              try clear c14
              try clear c14b0
              try clear c14b1
              try clear c14b2
              try clear c20
              try clear c22
              try clear c23
              try clear c25
              try clear c28
              try clear c30
              try clear c30b0
              try clear c30b1
              try clear c30b2
              try clear c31
              try clear c32
              try clear c33
              try clear c34
              try clear c35
              try clear c37
              try clear c38
              try clear c40
              try clear c41
              try clear c41b0
              try clear c41b1
              try clear c42
              try clear c42b0
              try clear c42b1
              try clear c48
              try clear c51
              try clear c51b0
              try clear c51b1
              try clear c59
              try clear c60
              try clear c60b0
              try clear c62
              try clear c62b0
              try clear p64
              try clear c65
              try clear c66
              try clear c66b0
              try clear c67
              try clear c67b0
              try clear c68
              try clear c68b0
              try clear c69
              try clear c69b0
              try clear c71
              try clear c77
              try clear c77b0
              try clear c77b1
              try clear c77b2
              try clear c83
              try clear c84
              try clear c85
              try clear c89
              try clear c90
              try clear p96
              try clear q96
              try clear hx96
              try clear hx961_0
              try clear hx961_1
              try clear hx961_2
              try clear hx961_3
              try clear hx961_4
              try clear hx961_5
              try clear hx961_6
              try clear hx961_7
              try clear hx962_0
              try clear hx962_1
              try clear hx962_2
              try clear hx962_3
              try clear hx962_4
              try clear hx962_5
              try clear hx962_6
              try clear hx962_7
              try clear p2
              try clear p6
              try clear p64
              try clear p961
              try clear p962
              try clear q961
              try clear q962
              obtain ⟨x14_4, rfl, HA, HK4, HO_12, HO_13, HO_989002, HO_989005, HO_990002, HO_990005, BK939, BK940, BK988, BK989, HB⟩ := hrel
              cases gk with
              | zero => exact absurd HA.1 (by simp [laws_FnTwins.l2])
              | succ k4 =>
               have H := HA.1
               clear HA
               simp only [laws_FnTwins.l2] at H
               by_cases c101 : x14_4 < (t995.length : Int)
               ·
                rw [if_pos c101] at H
                have c101b0 := decide_eq_true c101
                clear c101
                by_cases c102 : 0 ≤ x14_4
                ·
                 rw [if_pos c102] at H
                 have c102b0 := decide_eq_true c102
                 clear c102
                 obtain ⟨t999, A103, H⟩ := ob_ H
                 try dsimp only at H
                 by_cases c104 : t999 < 0
                 ·
                  rw [if_pos c104] at H
                  have c104b0 := decide_eq_true c104
                  clear c104
                  exact absurd H (by simp)
                 ·
                  rw [if_neg c104] at H
                  have c104b0 := decide_eq_false c104
                  clear c104
                  by_cases c105 : t999 > x14_4
                  ·
                   rw [if_pos c105] at H
                   have c105b0 := decide_eq_true c105
                   clear c105
                   exact absurd H (by simp)
                  ·
                   rw [if_neg c105] at H
                   have c105b0 := decide_eq_false c105
                   clear c105
                   by_cases c106 : 0 ≤ t999
                   ·
                    rw [if_pos c106] at H
                    have c106b0 := decide_eq_true c106
                    clear c106
                    by_cases c107 : t999 < (t995.length : Int)
                    ·
                     rw [if_pos c107] at H
                     have c107b0 := decide_eq_true c107
                     clear c107
                     by_cases c108 : (rd t995 t999) = (rd t995 x14_4)
                     ·
                      rw [if_pos c108] at H
                      have c108b0 := beq_iff_eq.mpr c108
                      have c108b1 := bne_eq_false_iff_eq.mpr c108
                      clear c108
                      by_cases c109 : t999 = x14_4
                      ·
                       as_aux_lemma =>
                        rw [if_pos c109] at H
                        have c109b0 := beq_iff_eq.mpr c109
                        have c109b1 := bne_eq_false_iff_eq.mpr c109
                        clear c109
                        have H' := o_ H
                        clear H
                        obtain ⟨Ao110, co110, eo110⟩ := Kd.R_slice HO_13.1
                        subst eo110
                        have p998 : 0 ≤ (x14_4 : Int) := of_decide_eq_true as_
                        have q998 : x14_4 < (t995.length : Int) := of_decide_eq_true as_
                        obtain ⟨ad998, e998, hx998_0⟩ := Kd.at_int (Kd.R_reads' HO_13.1).2.2 x14_4 p998 q998
                        cases e998
                        replace p998 := eq_true p998
                        replace q998 := eq_true q998
                        try go_wp2_with (first | ((with_reducible refine g_ 39 ?_); refine gl_ (some 125) Try.func39 #[.slice Ao99 t992.length co99, .int .i64 (rd t995 x14_4)] ?_; (with_reducible refine (impl_FindReport.calls _ _ t992 (rd t995 x14_4) t999 _ (cd_ (Kd.N_reads' HO_12.1).2.2) ((Kd.N_reads' HO_12.1).2.1) A103.1).mono ?_); rintro e w111 ⟨rfl, hb⟩; refine ⟨_, rfl, ?_⟩; replace HO_12 := o_ (Kd.N_below y575_ hb); replace HO_13 := o_ (Kd.R_below (rd_ HO_13.1) hb); replace HO_989002 := o_ (Kd.R_below (rd_ HO_989002.1) hb); replace HO_989005 := o_ (Kd.R_below (rd_ HO_989005.1) hb); replace HO_990002 := o_ (Kd.R_below (rd_ HO_990002.1) hb); replace HO_990005 := o_ (Kd.R_below (rd_ HO_990005.1) hb); replace BK939 := o_ (blk_below (bd_ BK939.1) hb); replace BK940 := o_ (blk_below (bd_ BK940.1) hb); replace BK988 := o_ (blk_below (bd_ BK988.1) hb); replace BK989 := o_ (blk_below (bd_ BK989.1) hb); replace HB := o_ (below_step wB_ hb); (try clear hb)))
                        replace HO_12 := o_ (Kd.N_drew HO_12.1)
                        replace HO_13 := o_ (Kd.R_drew HO_13.1)
                        replace HO_989002 := o_ (Kd.R_drew HO_989002.1)
                        replace HO_989005 := o_ (Kd.R_drew HO_989005.1)
                        replace HO_990002 := o_ (Kd.R_drew HO_990002.1)
                        replace HO_990005 := o_ (Kd.R_drew HO_990005.1)
                        replace BK939 := o_ (blk_drew BK939.1)
                        replace BK940 := o_ (blk_drew BK940.1)
                        replace BK988 := o_ (blk_drew BK988.1)
                        replace BK989 := o_ (blk_drew BK989.1)
                        replace HB := o_ (below_drew1 HB.1)
                        have p1000 : 0 ≤ (t999 : Int) := of_decide_eq_true as_
                        have q1000 : t999 < (t995.length : Int) := of_decide_eq_true as_
                        obtain ⟨ad1000, e1000, hx1000_0⟩ := Kd.at_int (Kd.R_reads' HO_13.1).2.2 t999 p1000 q1000
                        obtain rfl : ad998 = ad1000 := (by injection e1000)
                        replace p1000 := eq_true p1000
                        replace q1000 := eq_true q1000
                        have p1001 : 0 ≤ (x14_4 : Int) := of_decide_eq_true as_
                        have q1001 : x14_4 < (t995.length : Int) := of_decide_eq_true as_
                        obtain ⟨ad1001, e1001, hx1001_0⟩ := Kd.at_int (Kd.R_reads' HO_13.1).2.2 x14_4 p1001 q1001
                        obtain rfl : ad998 = ad1001 := (by injection e1001)
                        replace p1001 := eq_true p1001
                        replace q1001 := eq_true q1001
                        refine start_ (n := 35) (S := fun w' => w'.cell? (ad998.add (t999).toNat) = some (.int .i64 (rd t995 t999)) ∧ w'.cell? (ad998.add (x14_4).toNat) = some (.int .i64 (rd t995 x14_4))) (ds := []) M8_23 (by kernel_rfl) rfl rfl ⟨hx1000_0, hx1001_0⟩ (fun hHeld => ?_); refine with_tabW laws_FnTwins.tab30 laws_FnTwins.bits30 (fun HT_ HW_ => ?_)
                        generalize w111.drew = w112 at HO_12 HO_13 HO_989002 HO_989005 HO_990002 HO_990005 BK939 BK940 BK988 BK989 HB hx1000_0 hx1001_0 hHeld ⊢
                        refine pu_ 0 (some 126) M8_24 HT_ ?_
                        refine pu_ 1 (some 127) M8_25 HT_ ?_
                        refine pu_ 2 (some 128) M8_26 HT_ ?_
                        refine pu_ 3 (some 129) M8_27 HT_ ?_
                        refine pu_ 4 (some 130) M8_28 HT_ ?_
                        refine pu_ 5 (some 131) M8_29 HT_ ?_
                        refine pu_ 6 (some 132) M8_30 HT_ ?_
                        refine pu_ 7 (some 133) M8_31 HT_ ?_
                        refine pu_ 8 (some 134) M8_32 HT_ ?_
                        refine pu_ 9 (some 135) M8_33 HT_ ?_
                        refine pu_ 10 (some 136) M8_34 HT_ ?_
                        refine pu_ 12 (some 138) M8_35 HT_ ?_
                        refine pu_ 13 (some 139) M8_36 HT_ ?_
                        refine pu_ 14 (some 140) M8_37 HT_ ?_
                        refine tk_ 11 (some 137) M8_38 HT_ HW_ hHeld ?_
                        refine tk_ 15 (some 141) M8_39 HT_ HW_ hHeld ?_
                        refine pu_ 16 (some 142) M8_40 HT_ ?_
                        refine pu_ 17 (some 143) M8_41 HT_ ?_
                        refine pu_ 18 (some 144) M8_42 HT_ ?_
                        refine pu_ 19 (some 145) M8_43 HT_ ?_
                        refine pu_ 20 (some 146) M8_44 HT_ ?_
                        refine pu_ 21 (some 147) M8_45 HT_ ?_
                        refine pu_ 22 (some 148) M8_46 HT_ ?_
                        refine pn_ 23 (some 149) M8_47 HT_ ?_
                        refine pn_ 24 (some 150) M8_48 HT_ ?_
                        refine pn_ 25 (some 151) M8_49 HT_ ?_
                        refine pn_ 26 (some 152) M8_50 HT_ ?_
                        refine pn_ 27 (some 153) M8_51 HT_ ?_
                        refine pn_ 28 (some 154) M8_52 HT_ ?_
                        refine pn_ 29 (some 155) M8_53 HT_ ?_
                        refine pn_ 30 (some 156) M8_54 HT_ ?_
                        refine pn_ 31 (some 157) M8_55 HT_ ?_
                        refine pn_ 32 (some 158) M8_56 HT_ ?_
                        refine pu_ 33 (some 159) M8_57 HT_ ?_
                        refine pu_ 34 (some 160) M8_58 HT_ ?_
                        refine done_ (done_of HT_.1 (by kernel_rfl)) ?_
                        try go_wp2
                        go_roundg k4
                        case measure => have := HJ4.1; have := HJ30.1; have := HK3.1; have := HK4.1; omega
                        case rel => exact ⟨(wrap64 (x14_4 + 1)), y152_, H', ⟨by have := HJ4.1; have := HJ30.1; have := HK3.1; have := HK4.1; omega⟩, ⟨by (with_reducible repeat (first | apply Kd.N_alloc | apply Kd.N_drewN | apply Kd.N_drew)); exact HO_12.1⟩, ⟨rd_ HO_13.1⟩, ⟨rd_ HO_989002.1⟩, ⟨rd_ HO_989005.1⟩, ⟨rd_ HO_990002.1⟩, ⟨rd_ HO_990005.1⟩, ⟨bd_ BK939.1⟩, ⟨bd_ BK940.1⟩, ⟨bd_ BK988.1⟩, ⟨bd_ BK989.1⟩, ⟨wB_⟩⟩
                      ·
                       rw [if_neg c109] at H
                       have c109b0 := beq_eq_false_iff_ne.mpr c109
                       have c109b1 := bne_iff_ne.mpr c109
                       by_cases c113 : t999 < (t992.length : Int)
                       ·
                        rw [if_pos c113] at H
                        have c113b0 := decide_eq_true c113
                        clear c113
                        by_cases c114 : x14_4 < (t992.length : Int)
                        ·
                         rw [if_pos c114] at H
                         have c114b0 := decide_eq_true c114
                         clear c114
                         obtain ⟨t1004, A115, H⟩ := ob_ H
                         try dsimp only at H
                         by_cases c116 : t1004 = true
                         ·
                          as_aux_lemma =>
                           subst c116
                           have H1 := H
                           rw [if_pos rfl] at H1
                           clear H
                           have H := H1
                           clear H1
                           have H' := o_ H
                           clear H
                           obtain ⟨Ao117, co117, eo117⟩ := Kd.R_slice HO_13.1
                           subst eo117
                           have p998 : 0 ≤ (x14_4 : Int) := of_decide_eq_true as_
                           have q998 : x14_4 < (t995.length : Int) := of_decide_eq_true as_
                           obtain ⟨ad998, e998, hx998_0⟩ := Kd.at_int (Kd.R_reads' HO_13.1).2.2 x14_4 p998 q998
                           cases e998
                           replace p998 := eq_true p998
                           replace q998 := eq_true q998
                           try go_wp2_with (first | ((with_reducible refine g_ 39 ?_); refine gl_ (some 125) Try.func39 #[.slice Ao99 t992.length co99, .int .i64 (rd t995 x14_4)] ?_; (with_reducible refine (impl_FindReport.calls _ _ t992 (rd t995 x14_4) t999 _ (cd_ (Kd.N_reads' HO_12.1).2.2) ((Kd.N_reads' HO_12.1).2.1) A103.1).mono ?_); rintro e w118 ⟨rfl, hb⟩; refine ⟨_, rfl, ?_⟩; replace HO_12 := o_ (Kd.N_below y575_ hb); replace HO_13 := o_ (Kd.R_below (rd_ HO_13.1) hb); replace HO_989002 := o_ (Kd.R_below (rd_ HO_989002.1) hb); replace HO_989005 := o_ (Kd.R_below (rd_ HO_989005.1) hb); replace HO_990002 := o_ (Kd.R_below (rd_ HO_990002.1) hb); replace HO_990005 := o_ (Kd.R_below (rd_ HO_990005.1) hb); replace BK939 := o_ (blk_below (bd_ BK939.1) hb); replace BK940 := o_ (blk_below (bd_ BK940.1) hb); replace BK988 := o_ (blk_below (bd_ BK988.1) hb); replace BK989 := o_ (blk_below (bd_ BK989.1) hb); replace HB := o_ (below_step wB_ hb); (try clear hb)))
                           replace HO_12 := o_ (Kd.N_drew HO_12.1)
                           replace HO_13 := o_ (Kd.R_drew HO_13.1)
                           replace HO_989002 := o_ (Kd.R_drew HO_989002.1)
                           replace HO_989005 := o_ (Kd.R_drew HO_989005.1)
                           replace HO_990002 := o_ (Kd.R_drew HO_990002.1)
                           replace HO_990005 := o_ (Kd.R_drew HO_990005.1)
                           replace BK939 := o_ (blk_drew BK939.1)
                           replace BK940 := o_ (blk_drew BK940.1)
                           replace BK988 := o_ (blk_drew BK988.1)
                           replace BK989 := o_ (blk_drew BK989.1)
                           replace HB := o_ (below_drew1 HB.1)
                           have p1000 : 0 ≤ (t999 : Int) := of_decide_eq_true as_
                           have q1000 : t999 < (t995.length : Int) := of_decide_eq_true as_
                           obtain ⟨ad1000, e1000, hx1000_0⟩ := Kd.at_int (Kd.R_reads' HO_13.1).2.2 t999 p1000 q1000
                           obtain rfl : ad998 = ad1000 := (by injection e1000)
                           replace p1000 := eq_true p1000
                           replace q1000 := eq_true q1000
                           have p1001 : 0 ≤ (x14_4 : Int) := of_decide_eq_true as_
                           have q1001 : x14_4 < (t995.length : Int) := of_decide_eq_true as_
                           obtain ⟨ad1001, e1001, hx1001_0⟩ := Kd.at_int (Kd.R_reads' HO_13.1).2.2 x14_4 p1001 q1001
                           obtain rfl : ad998 = ad1001 := (by injection e1001)
                           replace p1001 := eq_true p1001
                           replace q1001 := eq_true q1001
                           have p1002 : 0 ≤ (t999 : Int) := of_decide_eq_true as_
                           have q1002 : t999 < (t992.length : Int) := of_decide_eq_true as_
                           obtain ⟨ad1002, A1002_2, c1002_2, A1002_5, c1002_5, e1002, hx1002_0, hx1002_1, hx1002_2, hx1002_3, hx1002_4, hx1002_5, hx1002_6, hx1002_7, hl1002_2, hi1002_2, hl1002_5, hi1002_5⟩ := at_T41 (Kd.N_reads' HO_12.1).2.2 t999 p1002 q1002
                           cases e1002
                           obtain ⟨ce1002, hce1002, hMe1002, hcc1002⟩ := Kd.N_get HO_12.1 z41 t999 p1002 (by first | exact q1002 | exact of_decide_eq_true as_ | (have e_ := (Kd.N_reads' HO_12.1).1; omega))
                           obtain ⟨ua1002_2, uc1002_2, ua1002_5, uc1002_5, rfl, ul1002_2, ge1002_2, ul1002_5, ge1002_5⟩ := k41_openF hMe1002
                           have hv1002_2 := hcc1002 2 _ rfl
                           rw [add_field _ _ 2 (by omega)] at hv1002_2
                           replace hv1002_2 := Option.some.inj (hv1002_2.symm.trans hx1002_2)
                           injection hv1002_2 with hva_ hvn_ hvc_
                           rw [hva_] at ge1002_2
                           rw [hvc_] at ul1002_2
                           have HL1002_2 := o_ (show Kd.V (Kd.int .i64) 3 _ w.heap.size _ _ ((rd_T41 t992 t999).f2) from Kd.V_mk ul1002_2 ge1002_2)
                           clear hva_ hvn_ hvc_ ge1002_2 ul1002_2
                           have hv1002_5 := hcc1002 5 _ rfl
                           rw [add_field _ _ 5 (by omega)] at hv1002_5
                           replace hv1002_5 := Option.some.inj (hv1002_5.symm.trans hx1002_5)
                           injection hv1002_5 with hva_ hvn_ hvc_
                           rw [hva_] at ge1002_5
                           rw [hvc_] at ul1002_5
                           have HL1002_5 := o_ (show Kd.V (Kd.int .i64) 3 _ w.heap.size _ _ ((rd_T41 t992 t999).f5) from Kd.V_mk ul1002_5 ge1002_5)
                           clear hva_ hvn_ hvc_ ge1002_5 ul1002_5 hcc1002 hce1002
                           have HR1002_2 := o_ hi1002_2
                           have HC1002_2 := o_ hl1002_2
                           clear hi1002_2 hl1002_2
                           have HR1002_5 := o_ hi1002_5
                           have HC1002_5 := o_ hl1002_5
                           clear hi1002_5 hl1002_5
                           replace p1002 := eq_true p1002
                           replace q1002 := eq_true q1002
                           have p1003 : 0 ≤ (x14_4 : Int) := of_decide_eq_true as_
                           have q1003 : x14_4 < (t992.length : Int) := of_decide_eq_true as_
                           obtain ⟨ad1003, A1003_2, c1003_2, A1003_5, c1003_5, e1003, hx1003_0, hx1003_1, hx1003_2, hx1003_3, hx1003_4, hx1003_5, hx1003_6, hx1003_7, hl1003_2, hi1003_2, hl1003_5, hi1003_5⟩ := at_T41 (Kd.N_reads' HO_12.1).2.2 x14_4 p1003 q1003
                           obtain rfl : ad1002 = ad1003 := (by injection e1003)
                           obtain ⟨ce1003, hce1003, hMe1003, hcc1003⟩ := Kd.N_get HO_12.1 z41 x14_4 p1003 (by first | exact q1003 | exact of_decide_eq_true as_ | (have e_ := (Kd.N_reads' HO_12.1).1; omega))
                           obtain ⟨ua1003_2, uc1003_2, ua1003_5, uc1003_5, rfl, ul1003_2, ge1003_2, ul1003_5, ge1003_5⟩ := k41_openF hMe1003
                           have hv1003_2 := hcc1003 2 _ rfl
                           rw [add_field _ _ 2 (by omega)] at hv1003_2
                           replace hv1003_2 := Option.some.inj (hv1003_2.symm.trans hx1003_2)
                           injection hv1003_2 with hva_ hvn_ hvc_
                           rw [hva_] at ge1003_2
                           rw [hvc_] at ul1003_2
                           have HL1003_2 := o_ (show Kd.V (Kd.int .i64) 3 _ w.heap.size _ _ ((rd_T41 t992 x14_4).f2) from Kd.V_mk ul1003_2 ge1003_2)
                           clear hva_ hvn_ hvc_ ge1003_2 ul1003_2
                           have hv1003_5 := hcc1003 5 _ rfl
                           rw [add_field _ _ 5 (by omega)] at hv1003_5
                           replace hv1003_5 := Option.some.inj (hv1003_5.symm.trans hx1003_5)
                           injection hv1003_5 with hva_ hvn_ hvc_
                           rw [hva_] at ge1003_5
                           rw [hvc_] at ul1003_5
                           have HL1003_5 := o_ (show Kd.V (Kd.int .i64) 3 _ w.heap.size _ _ ((rd_T41 t992 x14_4).f5) from Kd.V_mk ul1003_5 ge1003_5)
                           clear hva_ hvn_ hvc_ ge1003_5 ul1003_5 hcc1003 hce1003
                           have HR1003_2 := o_ hi1003_2
                           have HC1003_2 := o_ hl1003_2
                           clear hi1003_2 hl1003_2
                           have HR1003_5 := o_ hi1003_5
                           have HC1003_5 := o_ hl1003_5
                           clear hi1003_5 hl1003_5
                           replace p1003 := eq_true p1003
                           replace q1003 := eq_true q1003
                           refine start_ (n := 35) (S := fun w' => w'.cell? (ad998.add (t999).toNat) = some (.int .i64 (rd t995 t999)) ∧ w'.cell? (ad998.add (x14_4).toNat) = some (.int .i64 (rd t995 x14_4)) ∧ q2_ w' (ad1002.add ((t999).toNat * 8)) ((rd_T41 t992 t999).f0) ((rd_T41 t992 t999).f1) A1002_2 ((rd_T41 t992 t999).f2).length c1002_2 ((rd_T41 t992 t999).f3) ((rd_T41 t992 t999).f4) A1002_5 ((rd_T41 t992 t999).f5).length c1002_5 ((rd_T41 t992 t999).f6.f0) ((rd_T41 t992 t999).f6.f1) (q2e_ w' (ad1002.add ((x14_4).toNat * 8)) ((rd_T41 t992 x14_4).f0) ((rd_T41 t992 x14_4).f1) A1003_2 ((rd_T41 t992 x14_4).f2).length c1003_2 ((rd_T41 t992 x14_4).f3) ((rd_T41 t992 x14_4).f4) A1003_5 ((rd_T41 t992 x14_4).f5).length c1003_5 ((rd_T41 t992 x14_4).f6.f0) ((rd_T41 t992 x14_4).f6.f1))) (ds := []) M8_23 (by kernel_rfl) rfl rfl ⟨hx1000_0, hx1001_0, hx1002_0, hx1002_1, hx1002_2, hx1002_3, hx1002_4, hx1002_5, hx1002_6, hx1002_7, hx1003_0, hx1003_1, hx1003_2, hx1003_3, hx1003_4, hx1003_5, hx1003_6, hx1003_7⟩ (fun hHeld => ?_); refine with_tabW laws_FnTwins.tab30 laws_FnTwins.bits30 (fun HT_ HW_ => ?_)
                           generalize w118.drew = w119 at HO_12 HO_13 HO_989002 HO_989005 HO_990002 HO_990005 BK939 BK940 BK988 BK989 HB HL1002_2 HL1002_5 HL1003_2 HL1003_5 HR1002_2 HR1002_5 HR1003_2 HR1003_5 hx1000_0 hx1001_0 hx1002_0 hx1002_1 hx1002_2 hx1002_3 hx1002_4 hx1002_5 hx1002_6 hx1002_7 hx1003_0 hx1003_1 hx1003_2 hx1003_3 hx1003_4 hx1003_5 hx1003_6 hx1003_7 hHeld ⊢
                           refine pu_ 0 (some 126) M8_24 HT_ ?_
                           refine pu_ 1 (some 127) M8_25 HT_ ?_
                           refine pu_ 2 (some 128) M8_26 HT_ ?_
                           refine pu_ 3 (some 129) M8_27 HT_ ?_
                           refine pu_ 4 (some 130) M8_28 HT_ ?_
                           refine pu_ 5 (some 131) M8_29 HT_ ?_
                           refine pu_ 6 (some 132) M8_30 HT_ ?_
                           refine pu_ 7 (some 133) M8_31 HT_ ?_
                           refine pu_ 8 (some 134) M8_32 HT_ ?_
                           refine pu_ 9 (some 135) M8_33 HT_ ?_
                           refine pu_ 10 (some 136) M8_34 HT_ ?_
                           refine pu_ 12 (some 138) M8_35 HT_ ?_
                           refine pu_ 13 (some 139) M8_36 HT_ ?_
                           refine pu_ 14 (some 140) M8_37 HT_ ?_
                           refine tk_ 11 (some 137) M8_38 HT_ HW_ hHeld ?_
                           refine tk_ 15 (some 141) M8_39 HT_ HW_ hHeld ?_
                           refine pu_ 16 (some 142) M8_40 HT_ ?_
                           refine pu_ 17 (some 143) M8_41 HT_ ?_
                           refine pu_ 18 (some 144) M8_42 HT_ ?_
                           refine pu_ 19 (some 145) M8_43 HT_ ?_
                           refine pu_ 20 (some 146) M8_44 HT_ ?_
                           refine pu_ 21 (some 147) M8_45 HT_ ?_
                           refine pu_ 22 (some 148) M8_46 HT_ ?_
                           refine pu_ 23 (some 149) M8_47 HT_ ?_
                           refine pu_ 24 (some 150) M8_48 HT_ ?_
                           refine pu_ 25 (some 151) M8_49 HT_ ?_
                           refine pu_ 27 (some 153) M8_59 HT_ ?_
                           refine pu_ 28 (some 154) M8_60 HT_ ?_
                           refine pu_ 29 (some 155) M8_61 HT_ ?_
                           refine tk_ 26 (some 152) M8_53 HT_ HW_ hHeld ?_
                           refine tk_ 30 (some 156) M8_54 HT_ HW_ hHeld ?_
                           refine one_ (i := 31) (N := some 157) M8_55 rfl rfl (one_of HT_.1 (by kernel_rfl)) (by decide) (fun K hK => ?_)
                           refine goes_ Try.func20 (by kernel_rfl) rfl #[.agg #[.int .i64 ((rd_T41 t992 t999).f0), .int .i64 ((rd_T41 t992 t999).f1), .slice A1002_2 ((rd_T41 t992 t999).f2).length c1002_2, .int .i64 ((rd_T41 t992 t999).f3), .int .i64 ((rd_T41 t992 t999).f4), .slice A1002_5 ((rd_T41 t992 t999).f5).length c1002_5, .int .i64 ((rd_T41 t992 t999).f6.f0), .int .i64 ((rd_T41 t992 t999).f6.f1)], .agg #[.int .i64 ((rd_T41 t992 x14_4).f0), .int .i64 ((rd_T41 t992 x14_4).f1), .slice A1003_2 ((rd_T41 t992 x14_4).f2).length c1003_2, .int .i64 ((rd_T41 t992 x14_4).f3), .int .i64 ((rd_T41 t992 x14_4).f4), .slice A1003_5 ((rd_T41 t992 x14_4).f5).length c1003_5, .int .i64 ((rd_T41 t992 x14_4).f6.f0), .int .i64 ((rd_T41 t992 x14_4).f6.f1)]] (by rfl) rfl rfl ma_ ?_
                           with_reducible refine (impl_SameOwner.calls k4 ((rd_T41 t992 t999).f0) ((rd_T41 t992 t999).f1) _ _ ((rd_T41 t992 t999).f2) ((rd_T41 t992 t999).f3) ((rd_T41 t992 t999).f4) _ _ ((rd_T41 t992 t999).f5) ((rd_T41 t992 t999).f6.f0) ((rd_T41 t992 t999).f6.f1) ((rd_T41 t992 x14_4).f0) ((rd_T41 t992 x14_4).f1) _ _ ((rd_T41 t992 x14_4).f2) ((rd_T41 t992 x14_4).f3) ((rd_T41 t992 x14_4).f4) _ _ ((rd_T41 t992 x14_4).f5) ((rd_T41 t992 x14_4).f6.f0) ((rd_T41 t992 x14_4).f6.f1) true _ ?side1 ?side2 ?side3 ?side4 ?side5 ?side6 ?side7 ?side8 A115.1).mono ?_
                           (case side1 => repeat (first | exact (by repeat (first | (with_reducible exact HR1002_2.1) | (with_reducible refine Kd.C_alloc ?_ _) | (with_reducible refine Kd.C_drewN ?_ _) | (with_reducible refine Kd.C_drew ?_) | exact HR1002_2.1)) | (with_reducible refine Kd.C_alloc ?_ _) | (with_reducible refine Kd.C_drewN ?_ _) | (with_reducible refine Kd.C_drew ?_)))
                           (case side2 => exact HC1002_2.1)
                           (case side3 => repeat (first | exact (by repeat (first | (with_reducible exact HR1002_5.1) | (with_reducible refine Kd.C_alloc ?_ _) | (with_reducible refine Kd.C_drewN ?_ _) | (with_reducible refine Kd.C_drew ?_) | exact HR1002_5.1)) | (with_reducible refine Kd.C_alloc ?_ _) | (with_reducible refine Kd.C_drewN ?_ _) | (with_reducible refine Kd.C_drew ?_)))
                           (case side4 => exact HC1002_5.1)
                           (case side5 => repeat (first | exact (by repeat (first | (with_reducible exact HR1003_2.1) | (with_reducible refine Kd.C_alloc ?_ _) | (with_reducible refine Kd.C_drewN ?_ _) | (with_reducible refine Kd.C_drew ?_) | exact HR1003_2.1)) | (with_reducible refine Kd.C_alloc ?_ _) | (with_reducible refine Kd.C_drewN ?_ _) | (with_reducible refine Kd.C_drew ?_)))
                           (case side6 => exact HC1003_2.1)
                           (case side7 => repeat (first | exact (by repeat (first | (with_reducible exact HR1003_5.1) | (with_reducible refine Kd.C_alloc ?_ _) | (with_reducible refine Kd.C_drewN ?_ _) | (with_reducible refine Kd.C_drew ?_) | exact HR1003_5.1)) | (with_reducible refine Kd.C_alloc ?_ _) | (with_reducible refine Kd.C_drewN ?_ _) | (with_reducible refine Kd.C_drew ?_)))
                           (case side8 => exact HC1003_5.1)
                           rintro e w120 ⟨rfl, hb⟩
                           have HS0_ := (hb.cell (World.block_lt_of_cell? _ _ (hHeld.1))).trans (hHeld.1)
                           have HS1_ := (hb.cell (World.block_lt_of_cell? _ _ (hHeld.2.1))).trans (hHeld.2.1)
                           have HS2_ := (hb.cell (World.block_lt_of_cell? _ _ (hHeld.2.2.1))).trans (hHeld.2.2.1)
                           have HS3_ := (hb.cell (World.block_lt_of_cell? _ _ (hHeld.2.2.2.1))).trans (hHeld.2.2.2.1)
                           have HS4_ := (hb.cell (World.block_lt_of_cell? _ _ (hHeld.2.2.2.2.1))).trans (hHeld.2.2.2.2.1)
                           have HS5_ := (hb.cell (World.block_lt_of_cell? _ _ (hHeld.2.2.2.2.2.1))).trans (hHeld.2.2.2.2.2.1)
                           have HS6_ := (hb.cell (World.block_lt_of_cell? _ _ (hHeld.2.2.2.2.2.2.1))).trans (hHeld.2.2.2.2.2.2.1)
                           have HS7_ := (hb.cell (World.block_lt_of_cell? _ _ (hHeld.2.2.2.2.2.2.2.1))).trans (hHeld.2.2.2.2.2.2.2.1)
                           have HS8_ := (hb.cell (World.block_lt_of_cell? _ _ (hHeld.2.2.2.2.2.2.2.2.1))).trans (hHeld.2.2.2.2.2.2.2.2.1)
                           have HS9_ := (hb.cell (World.block_lt_of_cell? _ _ (hHeld.2.2.2.2.2.2.2.2.2.1))).trans (hHeld.2.2.2.2.2.2.2.2.2.1)
                           have HS10_ := (hb.cell (World.block_lt_of_cell? _ _ (hHeld.2.2.2.2.2.2.2.2.2.2.1))).trans (hHeld.2.2.2.2.2.2.2.2.2.2.1)
                           have HS11_ := (hb.cell (World.block_lt_of_cell? _ _ (hHeld.2.2.2.2.2.2.2.2.2.2.2.1))).trans (hHeld.2.2.2.2.2.2.2.2.2.2.2.1)
                           have HS12_ := (hb.cell (World.block_lt_of_cell? _ _ (hHeld.2.2.2.2.2.2.2.2.2.2.2.2.1))).trans (hHeld.2.2.2.2.2.2.2.2.2.2.2.2.1)
                           have HS13_ := (hb.cell (World.block_lt_of_cell? _ _ (hHeld.2.2.2.2.2.2.2.2.2.2.2.2.2.1))).trans (hHeld.2.2.2.2.2.2.2.2.2.2.2.2.2.1)
                           have HS14_ := (hb.cell (World.block_lt_of_cell? _ _ (hHeld.2.2.2.2.2.2.2.2.2.2.2.2.2.2.1))).trans (hHeld.2.2.2.2.2.2.2.2.2.2.2.2.2.2.1)
                           have HS15_ := (hb.cell (World.block_lt_of_cell? _ _ (hHeld.2.2.2.2.2.2.2.2.2.2.2.2.2.2.2.1))).trans (hHeld.2.2.2.2.2.2.2.2.2.2.2.2.2.2.2.1)
                           have HS16_ := (hb.cell (World.block_lt_of_cell? _ _ (hHeld.2.2.2.2.2.2.2.2.2.2.2.2.2.2.2.2.1))).trans (hHeld.2.2.2.2.2.2.2.2.2.2.2.2.2.2.2.2.1)
                           have HS17_ := (hb.cell (World.block_lt_of_cell? _ _ (hHeld.2.2.2.2.2.2.2.2.2.2.2.2.2.2.2.2.2))).trans (hHeld.2.2.2.2.2.2.2.2.2.2.2.2.2.2.2.2.2)
                           refine ⟨_, rfl, ?_⟩
                           replace HO_12 := o_ (Kd.N_below y575_ hb)
                           replace HO_13 := o_ (Kd.R_below (rd_ HO_13.1) hb)
                           replace HO_989002 := o_ (Kd.R_below (rd_ HO_989002.1) hb)
                           replace HO_989005 := o_ (Kd.R_below (rd_ HO_989005.1) hb)
                           replace HO_990002 := o_ (Kd.R_below (rd_ HO_990002.1) hb)
                           replace HO_990005 := o_ (Kd.R_below (rd_ HO_990005.1) hb)
                           replace HL1002_2 := o_ (Kd.V_below (by (with_reducible repeat (first | apply Kd.V_alloc | apply Kd.V_drewN | apply Kd.V_drew)); exact HL1002_2.1) hb)
                           replace HL1002_5 := o_ (Kd.V_below (by (with_reducible repeat (first | apply Kd.V_alloc | apply Kd.V_drewN | apply Kd.V_drew)); exact HL1002_5.1) hb)
                           replace HL1003_2 := o_ (Kd.V_below (by (with_reducible repeat (first | apply Kd.V_alloc | apply Kd.V_drewN | apply Kd.V_drew)); exact HL1003_2.1) hb)
                           replace HL1003_5 := o_ (Kd.V_below (by (with_reducible repeat (first | apply Kd.V_alloc | apply Kd.V_drewN | apply Kd.V_drew)); exact HL1003_5.1) hb)
                           replace BK939 := o_ (blk_below (bd_ BK939.1) hb)
                           replace BK940 := o_ (blk_below (bd_ BK940.1) hb)
                           replace BK988 := o_ (blk_below (bd_ BK988.1) hb)
                           replace BK989 := o_ (blk_below (bd_ BK989.1) hb)
                           replace HR1002_2 := o_ (Kd.C_below (by repeat (first | (with_reducible exact HR1002_2.1) | (with_reducible refine Kd.C_alloc ?_ _) | (with_reducible refine Kd.C_drewN ?_ _) | (with_reducible refine Kd.C_drew ?_) | exact HR1002_2.1)) hb)
                           replace HR1002_5 := o_ (Kd.C_below (by repeat (first | (with_reducible exact HR1002_5.1) | (with_reducible refine Kd.C_alloc ?_ _) | (with_reducible refine Kd.C_drewN ?_ _) | (with_reducible refine Kd.C_drew ?_) | exact HR1002_5.1)) hb)
                           replace HR1003_2 := o_ (Kd.C_below (by repeat (first | (with_reducible exact HR1003_2.1) | (with_reducible refine Kd.C_alloc ?_ _) | (with_reducible refine Kd.C_drewN ?_ _) | (with_reducible refine Kd.C_drew ?_) | exact HR1003_2.1)) hb)
                           replace HR1003_5 := o_ (Kd.C_below (by repeat (first | (with_reducible exact HR1003_5.1) | (with_reducible refine Kd.C_alloc ?_ _) | (with_reducible refine Kd.C_drewN ?_ _) | (with_reducible refine Kd.C_drew ?_) | exact HR1003_5.1)) hb)
                           replace HB := o_ (below_step wB_ hb)
                           (try clear hb)
                           (try clear hb2)
                           (try clear hk)
                           (try clear hi)
                           refine hK.out _ _ ⟨HS0_, HS1_, HS2_, HS3_, HS4_, HS5_, HS6_, HS7_, HS8_, HS9_, HS10_, HS11_, HS12_, HS13_, HS14_, HS15_, HS16_, HS17_⟩ (fun hHeld => ?_)
                           clear hK K
                           refine norm_ (a' := ?_) ?_ ?_
                           rotate_left
                           ·
                            show Act.put _ (some 157) _ = _
                            simp only [Act.put, P8_1, P8_2, P8_3, i64_w, i32_w]
                            rfl
                           refine pu_ 32 (some 158) M8_56 HT_ ?_
                           refine pu_ 33 (some 159) M8_57 HT_ ?_
                           refine pu_ 34 (some 160) M8_58 HT_ ?_
                           refine done_ (done_of HT_.1 (by kernel_rfl)) ?_
                           try go_wp2
                           go_roundg k4
                           case measure => have := HJ4.1; have := HJ30.1; have := HK3.1; have := HK4.1; omega
                           case rel => exact ⟨(wrap64 (x14_4 + 1)), y152_, H', ⟨by have := HJ4.1; have := HJ30.1; have := HK3.1; have := HK4.1; omega⟩, ⟨by (with_reducible repeat (first | apply Kd.N_alloc | apply Kd.N_drewN | apply Kd.N_drew)); exact HO_12.1⟩, ⟨rd_ HO_13.1⟩, ⟨rd_ HO_989002.1⟩, ⟨rd_ HO_989005.1⟩, ⟨rd_ HO_990002.1⟩, ⟨rd_ HO_990005.1⟩, ⟨bd_ BK939.1⟩, ⟨bd_ BK940.1⟩, ⟨bd_ BK988.1⟩, ⟨bd_ BK989.1⟩, ⟨wB_⟩⟩
                         ·
                          replace c116 := Bool.eq_false_iff.mpr c116
                          subst c116
                          have H1 := H
                          rw [if_neg nt_] at H1
                          clear H
                          have H := H1
                          clear H1
                          exact absurd H (by simp)
                        ·
                         rw [if_neg c114] at H
                         exact absurd H (by simp)
                       ·
                        rw [if_neg c113] at H
                        exact absurd H (by simp)
                     ·
                      rw [if_neg c108] at H
                      have c108b0 := beq_eq_false_iff_ne.mpr c108
                      have c108b1 := bne_iff_ne.mpr c108
                      exact absurd H (by simp)
                    ·
                     rw [if_neg c107] at H
                     exact absurd H (by simp)
                   ·
                    rw [if_neg c106] at H
                    exact absurd H (by simp)
                ·
                 rw [if_neg c102] at H
                 exact absurd H (by simp)
               ·
                rw [if_neg c101] at H
                have c101b0 := decide_eq_false c101
                clear c101
                by_cases c121 : (t995.length : Int) = (t992.length : Int)
                ·
                 rw [if_pos c121] at H
                 have c121b0 := beq_iff_eq.mpr c121
                 have c121b1 := bne_eq_false_iff_eq.mpr c121
                 have c121b2 : (t995.length == t992.length) = true := by first | simpa using c121 | (simp at c121 ⊢; omega)
                 clear c121
                 first | (obtain rfl := Option.some.inj H) | (have Hr_ := Option.some.inj H; clear H)
                 obtain ⟨Ao122, co122, eo122⟩ := Kd.R_slice HO_13.1
                 subst eo122
                 go_wp2
                 go_ret
                 exact ⟨rt_, wB_⟩
                ·
                 rw [if_neg c121] at H
                 have c121b0 := beq_eq_false_iff_ne.mpr c121
                 have c121b1 := bne_iff_ne.mpr c121
                 have c121b2 : (t995.length == t992.length) = false := by first | simpa using c121 | (simp at c121 ⊢; omega)
                 first | (obtain rfl := Option.some.inj H) | (have Hr_ := Option.some.inj H; clear H)
                 obtain ⟨Ao123, co123, eo123⟩ := Kd.R_slice HO_13.1
                 subst eo123
                 go_wp2
                 go_ret
                 exact ⟨rt_, wB_⟩
     ·
      rw [if_neg c30] at H
      have c30b0 := beq_eq_false_iff_ne.mpr c30
      have c30b1 := bne_iff_ne.mpr c30
      have c30b2 : (t950.length == t953.length) = false := by first | simpa using c30 | (simp at c30 ⊢; omega)
      exact absurd H (by simp)

end Go.Proofs.Ytglpmjcknhcjcaa.PFnTwins
