-- Written for this claim by a program (a printer turned to this claim); Lean checks it.
import Derived.Test.YtglpmjcknhcjcaaPFnTwinsx0
import Derived.Test.YtglpmjcknhcjcaaPFnTwinsx12
import Derived.Test.YtglpmjcknhcjcaaPFnTwinsx13
import Derived.Test.YtglpmjcknhcjcaaPFnTwinsx15
namespace Go.Proofs.Ytglpmjcknhcjcaa.PFnTwins
open Go.RowKit Go.Proofs.YtglpmjcknhcjcaaW.PrintWords Go.Proofs.YtglpmjcknhcjcaaW.PrintLast Go.Proofs.YtglpmjcknhcjcaaW.PrintMore
attribute [local go_sem] max2_int min2_int max_two min_two max_three min_three max_four min_four   -- for this text's walks alone
set_option linter.unusedVariables false
set_option linter.unusedSimpArgs false

/-! ### spec_l8For: function 67 -/
mutual
def spec_l8For.j0 : Nat → List Int → Int → Int → Int → Int → Int → Int → Int → Int → Int → Int → Int → Int → List Int → Int → Int → List Int → Int → Int → Option (Int × Int × List Int × Int × Int × List Int × Int × Int × Int × Int)
 | 0, _, _, _, _, _, _, _, _, _, _, _, _, _, _, _, _, _, _, _ => none
 | k + 1, x1000, x1001, x1002, x836000, x836001, x836002, x836003, x836004, x836005, x836006, x836007, x852000, x852001, x852002, x852003, x852004, x852005, x852006, x852007 => (spec_l1Once.f x1000 x1001 x1002 6).bind fun bt858 => (if bt858.1 = true then (spec_l8For.j1 k x1000 bt858.2.1 bt858.2.2 x836000 x836001 x836002 x836003 x836004 x836005 x836006 x836007 x852000 x852001 x852002 x852003 x852004 x852005 x852006 x852007) else ((spec_l1Below.f x1000 bt858.2.1 bt858.2.2 4).bind fun bt861 => ((spec_Max.f 1 (wrap64 (x836003 - bt861.1))).bind fun t864 => ((spec_l1Below.f x1000 bt861.2.1 bt861.2.2 4).bind fun bt865 => ((spec_Min.f 50 (wrap64 (x836003 + bt865.1))).bind fun t868 => (spec_l8For.j1 k x1000 bt865.2.1 bt865.2.2 x836000 x836001 x836002 x836003 x836004 x836005 x836006 x836007 x852000 x852001 x852002 t864 t868 x852005 x852006 x852007))))))
def spec_l8For.j1 : Nat → List Int → Int → Int → Int → Int → Int → Int → Int → Int → Int → Int → Int → Int → List Int → Int → Int → List Int → Int → Int → Option (Int × Int × List Int × Int × Int × List Int × Int × Int × Int × Int)
 | 0, _, _, _, _, _, _, _, _, _, _, _, _, _, _, _, _, _, _, _ => none
 | k + 1, x1000, x1001, x1002, x836000, x836001, x836002, x836003, x836004, x836005, x836006, x836007, x852000, x852001, x852002, x852003, x852004, x852005, x852006, x852007 => (spec_l1Once.f x1000 x1001 x1002 6).bind fun bt869 => (if bt869.1 = true then (spec_l8For.j2 k x1000 bt869.2.1 bt869.2.2 x836000 x836001 x836002 x836003 x836004 x836005 x836006 x836007 x852000 x852001 x852002 x852003 x852004 x852005 x852006 x852007) else (spec_l8For.j2 k x1000 bt869.2.1 bt869.2.2 x836000 x836001 x836002 x836003 x836004 x836005 x836006 x836007 x852000 x852001 x852002 x852003 x852004 (([x836005] : List Int)) x852006 x852007))
def spec_l8For.j2 : Nat → List Int → Int → Int → Int → Int → Int → Int → Int → Int → Int → Int → Int → Int → List Int → Int → Int → List Int → Int → Int → Option (Int × Int × List Int × Int × Int × List Int × Int × Int × Int × Int)
 | 0, _, _, _, _, _, _, _, _, _, _, _, _, _, _, _, _, _, _, _ => none
 | k + 1, x1000, x1001, x1002, x836000, x836001, x836002, x836003, x836004, x836005, x836006, x836007, x852000, x852001, x852002, x852003, x852004, x852005, x852006, x852007 => (spec_l1Once.f x1000 x1001 x1002 6).bind fun bt875 => (if bt875.1 = true then (some (x852000, x852001, x852002, x852003, x852004, x852005, x852006, x852007, bt875.2.1, bt875.2.2)) else ((spec_l1Below.f x1000 bt875.2.1 bt875.2.2 40).bind fun bt878 => ((spec_Max.f 0 (wrap64 (x836006 - bt878.1))).bind fun t881 => ((spec_Max.f 0 x836006).bind fun t882 => (some (x852000, x852001, x852002, x852003, x852004, x852005, t881, t882, bt878.2.1, bt878.2.2))))))
end
def spec_l8For.f (k : Nat) (s0_0 : List Int) (s0_1 : Int) (s0_2 : Int) (a1_0 : Int) (a1_1 : Int) (a1_2 : Int) (a1_3 : Int) (a1_4 : Int) (a1_5 : Int) (a1_6 : Int) (a1_7 : Int) (a2 : Int) : Option (Int × Int × List Int × Int × Int × List Int × Int × Int × Int × Int) := (spec_l7Draw.f k s0_0 s0_1 s0_2 a2).bind fun bt837 => ((spec_l1Once.f s0_0 bt837.2.2.2.2.2.2.2.2.1 bt837.2.2.2.2.2.2.2.2.2 6).bind fun bt852 => (if bt852.1 = true then (spec_l8For.j0 k s0_0 bt852.2.1 bt852.2.2 a1_0 a1_1 a1_2 a1_3 a1_4 a1_5 a1_6 a1_7 bt837.1 a1_1 bt837.2.2.1 bt837.2.2.2.1 bt837.2.2.2.2.1 bt837.2.2.2.2.2.1 bt837.2.2.2.2.2.2.1 bt837.2.2.2.2.2.2.2.1) else (spec_l8For.j0 k s0_0 bt852.2.1 bt852.2.2 a1_0 a1_1 a1_2 a1_3 a1_4 a1_5 a1_6 a1_7 bt837.1 a1_1 (([a1_2] : List Int)) bt837.2.2.2.1 bt837.2.2.2.2.1 bt837.2.2.2.2.2.1 bt837.2.2.2.2.2.2.1 bt837.2.2.2.2.2.2.2.1)))
theorem spec_l8For.mono_l : ∀ k, (∀ y0 y1 y2 y3 y4 y5 y6 y7 y8 y9 y10 y11 y12 y13 y14 y15 y16 y17 y18, LeO (spec_l8For.j0 k y0 y1 y2 y3 y4 y5 y6 y7 y8 y9 y10 y11 y12 y13 y14 y15 y16 y17 y18) (spec_l8For.j0 (k + 1) y0 y1 y2 y3 y4 y5 y6 y7 y8 y9 y10 y11 y12 y13 y14 y15 y16 y17 y18)) ∧ (∀ y0 y1 y2 y3 y4 y5 y6 y7 y8 y9 y10 y11 y12 y13 y14 y15 y16 y17 y18, LeO (spec_l8For.j1 k y0 y1 y2 y3 y4 y5 y6 y7 y8 y9 y10 y11 y12 y13 y14 y15 y16 y17 y18) (spec_l8For.j1 (k + 1) y0 y1 y2 y3 y4 y5 y6 y7 y8 y9 y10 y11 y12 y13 y14 y15 y16 y17 y18)) ∧ (∀ y0 y1 y2 y3 y4 y5 y6 y7 y8 y9 y10 y11 y12 y13 y14 y15 y16 y17 y18, LeO (spec_l8For.j2 k y0 y1 y2 y3 y4 y5 y6 y7 y8 y9 y10 y11 y12 y13 y14 y15 y16 y17 y18) (spec_l8For.j2 (k + 1) y0 y1 y2 y3 y4 y5 y6 y7 y8 y9 y10 y11 y12 y13 y14 y15 y16 y17 y18))
 | 0 => ⟨fun _ _ _ _ _ _ _ _ _ _ _ _ _ _ _ _ _ _ _ r h => by simp [spec_l8For.j0] at h, fun _ _ _ _ _ _ _ _ _ _ _ _ _ _ _ _ _ _ _ r h => by simp [spec_l8For.j1] at h, fun _ _ _ _ _ _ _ _ _ _ _ _ _ _ _ _ _ _ _ r h => by simp [spec_l8For.j2] at h⟩
 | k + 1 => by
  obtain ⟨ih0, ih1, ih2⟩ := spec_l8For.mono_l k
  refine ⟨?_, ?_, ?_⟩
  ·
   intro y0 y1 y2 y3 y4 y5 y6 y7 y8 y9 y10 y11 y12 y13 y14 y15 y16 y17 y18
   unfold spec_l8For.j0
   have jh0 := @spec_l7Draw.mono
   exact mo_
  ·
   intro y0 y1 y2 y3 y4 y5 y6 y7 y8 y9 y10 y11 y12 y13 y14 y15 y16 y17 y18
   unfold spec_l8For.j1
   have jh0 := @spec_l7Draw.mono
   exact mo_
  ·
   intro y0 y1 y2 y3 y4 y5 y6 y7 y8 y9 y10 y11 y12 y13 y14 y15 y16 y17 y18
   unfold spec_l8For.j2
   have jh0 := @spec_l7Draw.mono
   exact mo_
theorem spec_l8For.mono : ∀ a0 a1 a2 a3 a4 a5 a6 a7 a8 a9 a10 a11 k, LeO (spec_l8For.f k a0 a1 a2 a3 a4 a5 a6 a7 a8 a9 a10 a11) (spec_l8For.f (k + 1) a0 a1 a2 a3 a4 a5 a6 a7 a8 a9 a10 a11) := by
 intro a0 a1 a2 a3 a4 a5 a6 a7 a8 a9 a10 a11 k
 obtain ⟨ih0, ih1, ih2⟩ := spec_l8For.mono_l k
 unfold spec_l8For.f
 have jh0 := @spec_l7Draw.mono
 exact mo_
def spec_l8For.T6 : Bool × List (List Nat × List Nat) := (true, [([], []), ([0], [0]), ([1], [1]), ([], []), ([3], [3]), ([2, 4], [2, 4]), ([5, 4], [5]), ([0, 1, 2, 3, 4, 5, 6], []), ([7, 6, 6, 0, 1, 2, 3, 4, 5, 6], [6, 7])])
def spec_l8For.B6 : List Nat := [0, 1, 3, 0, 8, 31, 63, 127, 255]
theorem spec_l8For.tab6 : rtab .any (opsOf Try.f67 6) = spec_l8For.T6 := by kernel_rfl
theorem spec_l8For.bits6 : waitsOk spec_l8For.T6.2 spec_l8For.B6 = true := by kernel_rfl
def spec_l8For.T7 : Bool × List (List Nat × List Nat) := (true, [([], []), ([0], [0]), ([1], [1]), ([], []), ([3], [3]), ([2, 4], [2, 4]), ([5, 4], [5]), ([0, 1, 2, 3, 4, 5, 6], []), ([7, 6, 6, 0, 1, 2, 3, 4, 5, 6], [6, 7])])
def spec_l8For.B7 : List Nat := [0, 1, 3, 0, 8, 31, 63, 127, 255]
theorem spec_l8For.tab7 : rtab .any (opsOf Try.f67 7) = spec_l8For.T7 := by kernel_rfl
theorem spec_l8For.bits7 : waitsOk spec_l8For.T7.2 spec_l8For.B7 = true := by kernel_rfl
def spec_l8For.T11 : Bool × List (List Nat × List Nat) := (true, [([], []), ([0], [0]), ([], []), ([2], [2]), ([1, 3], [1, 3]), ([4, 3], [4]), ([], []), ([6], [6]), ([7, 5], [7]), ([5, 8], [5, 8]), ([0, 1, 2, 3, 4, 5, 6, 7, 8, 9], []), ([10, 9, 8, 0, 1, 2, 3, 4, 5, 6, 7, 8, 9], [9, 10])])
def spec_l8For.B11 : List Nat := [0, 1, 0, 4, 15, 31, 0, 64, 255, 511, 1023, 2047]
theorem spec_l8For.tab11 : rtab .any (opsOf Try.f67 11) = spec_l8For.T11 := by kernel_rfl
theorem spec_l8For.bits11 : waitsOk spec_l8For.T11.2 spec_l8For.B11 = true := by kernel_rfl
abbrev M6_0 := bm_ 9 0
abbrev M6_1 := bm_ 9 1
abbrev M6_2 := bm_ 9 3
abbrev M6_3 := bm_ 9 11
abbrev M6_4 := bm_ 9 15
abbrev M6_5 := bm_ 9 31
abbrev M6_6 := bm_ 9 63
abbrev M6_7 := bm_ 9 127
abbrev M6_8 := bm_ 9 255
abbrev M6_9 := bm_ 9 511
abbrev M6_10 := bm_ 12 0
abbrev M6_11 := bm_ 12 1
abbrev M6_12 := bm_ 12 5
abbrev M6_13 := bm_ 12 69
abbrev M6_14 := bm_ 12 71
abbrev M6_15 := bm_ 12 199
abbrev M6_16 := bm_ 12 207
abbrev M6_17 := bm_ 12 223
abbrev M6_18 := bm_ 12 255
abbrev M6_19 := bm_ 12 511
abbrev M6_20 := bm_ 12 1023
abbrev M6_21 := bm_ 12 2047
abbrev M6_22 := bm_ 12 4095
theorem P6_1 {α : Type} (l : List α) (i : Nat) (a : α) : l.toArray.setIfInBounds i a = (l.set i a).toArray := List.setIfInBounds_toArray l i a
theorem P6_2 {α : Type} (x : α) (l : List α) (a : α) : (x :: l).set 0 a = a :: l := List.set_cons_zero
theorem P6_3 {α : Type} (x : α) (l : List α) (n : Nat) (a : α) : (x :: l).set (n + 1) a = x :: l.set n a := List.set_cons_succ
set_option maxHeartbeats 8000000 in
set_option maxRecDepth 100000 in
theorem spec_l8For.calls (k : Nat) (g : Nat) (s0_0 : List Int) (s0_1 : Int) (s0_2 : Int) (a1_0 : Int) (a1_1 : Int) (a1_2 : Int) (a1_3 : Int) (a1_4 : Int) (a1_5 : Int) (a1_6 : Int) (a1_7 : Int) (a2 : Int) (r1 : Int) (r2 : Int) (r3 : List Int) (r4 : Int) (r5 : Int) (r6 : List Int) (r7 : Int) (r8 : Int) (r9 : Int) (r10 : Int) (w0 w : World) (hI : IsS102 w0 w g s0_0 s0_1 s0_2) (hB : Below w0.heap.size w0 w) (h : spec_l8For.f k s0_0 s0_1 s0_2 a1_0 a1_1 a1_2 a1_3 a1_4 a1_5 a1_6 a1_7 a2 = some (r1, r2, r3, r4, r5, r6, r7, r8, r9, r10)) :
  Calls Try.prog 67 #[.pointer (some ⟨g, 0, none⟩), .agg #[.int .i64 a1_0, .int .i64 a1_1, .int .i64 a1_2, .int .i64 a1_3, .int .i64 a1_4, .int .i64 a1_5, .int .i64 a1_6, .int .i64 a1_7], .int .i64 a2] w fun e w' => ∃ v2_ v5_ : Value, e = .returned (.agg #[.int .i64 r1, .int .i64 r2, v2_, .int .i64 r4, .int .i64 r5, v5_, .int .i64 r7, .int .i64 r8]) ∧ Kd.R (Kd.int .i64) 3 w' w.heap.size (fun k_ => some k_ ≠ (v5_ : Value).ownBlock) v2_ r3 ∧ Kd.R (Kd.int .i64) 3 w' w.heap.size (fun k_ => some k_ ≠ (v2_ : Value).ownBlock) v5_ r6 ∧ IsS102 w0 w' g s0_0 r9 r10 ∧ Below w0.heap.size w0 w' ∧ KeepBut w w' g none := by
 have hu58 := Try.underlying58
 have hu41 := Try.underlying41
 have hu39 := Try.underlying39
 have HI0 := o_ hI
 have HK := o_ (KeepBut.refl w g none)
 have HL := o_ hB.size
 clear hI
 have HW0 := o_ hB.size
 have HB := o_ hB
 clear hB
 have H := h
 unfold spec_l8For.f at H
 clear h
 obtain ⟨⟨t837, t838, t839, t842, t843, t844, t847, t848, t849, t850⟩, A4, H⟩ := ob_ H
 try dsimp only at H
 obtain ⟨⟨t852, t853, t854⟩, A5, H⟩ := ob_ H
 try dsimp only at H
 have HC6 := o_ H
 clear H
 go_enter Try.func67, Try.ntmps67
 go_upto_if 17 with (first | ((with_reducible refine gate_dst (N := 4) rfl ?_); refine bx_ 4 #[.int .i64 a1_0, .int .i64 a1_1, .int .i64 a1_2, .int .i64 a1_3, .int .i64 a1_4, .int .i64 a1_5, .int .i64 a1_6, .int .i64 a1_7] 58 ?_; intro gb835 hg w7 hbox hb; replace HB := o_ (below_step wB_ hb); have BK835 := o_ (hbox); have GW835 := o_ ((by rw [hg]; exact (keep_size (w := w) (g := g) (row := none) wK_) : w.heap.size ≤ gb835)); have GE835 := o_ ((Nat.le_trans HW0.1 (by rw [hg]; exact (keep_size (w := w) (g := g) (row := none) wK_) : w.heap.size ≤ gb835) : w0.heap.size ≤ gb835)); replace HK := o_ (KeepBut.trans wK_ (KeepBut.of_below hb g none) (.inl rfl)); have NB0_835 := o_ ((by rw [hg]; exact Nat.ne_of_lt (IsS102.lt (show IsS102 w0 _ g s0_0 s0_1 s0_2 from wI_)) : g ≠ gb835)); have NB835_0 := o_ ((by rw [hg]; exact Nat.ne_of_gt (IsS102.lt (show IsS102 w0 _ g s0_0 s0_1 s0_2 from wI_)) : gb835 ≠ g)); replace HI0 := o_ (IsS102.below wI_ hb); clear hb hbox hg) | ((with_reducible refine gate_dst (N := 6) rfl ?_); refine bx_ 6 #[.int .i64 0, .int .i64 0, .slice none 0 0, .int .i64 0, .int .i64 0, .slice none 0 0, .int .i64 0, .int .i64 0] 41 ?_; intro gb836 hg w8 hbox hb; replace HB := o_ (below_step wB_ hb); have BK836 := o_ (hbox); have GW836 := o_ ((by rw [hg]; exact (keep_size (w := w) (g := g) (row := none) wK_) : w.heap.size ≤ gb836)); have GE836 := o_ ((Nat.le_trans HW0.1 (by rw [hg]; exact (keep_size (w := w) (g := g) (row := none) wK_) : w.heap.size ≤ gb836) : w0.heap.size ≤ gb836)); replace HK := o_ (KeepBut.trans wK_ (KeepBut.of_below hb g none) (.inl rfl)); have NB835_836 := o_ ((by rw [hg]; exact Nat.ne_of_lt (blk_lt (bd_ BK835.1)) : gb835 ≠ gb836)); have NB836_835 := o_ ((by rw [hg]; exact Nat.ne_of_gt (blk_lt (bd_ BK835.1)) : gb836 ≠ gb835)); replace BK835 := o_ (blk_below (bd_ BK835.1) hb); have NB0_836 := o_ ((by rw [hg]; exact Nat.ne_of_lt (IsS102.lt (show IsS102 w0 _ g s0_0 s0_1 s0_2 from wI_)) : g ≠ gb836)); have NB836_0 := o_ ((by rw [hg]; exact Nat.ne_of_gt (IsS102.lt (show IsS102 w0 _ g s0_0 s0_1 s0_2 from wI_)) : gb836 ≠ g)); replace HI0 := o_ (IsS102.below wI_ hb); clear hb hbox hg) | ((with_reducible refine g_ 90 ?_); refine gl_ (some 10) Try.func90 #[.pointer (some ⟨g, 0, none⟩), .int .i64 a2] ?_; (with_reducible refine (spec_l7Draw.calls k g s0_0 s0_1 s0_2 a2 t837 t838 t839 t842 t843 t844 t847 t848 t849 t850 w0 _ wI_ wB_ A4.1).mono ?_); rintro e w9 ⟨v840, v845, rfl, ho0, ho1, hi, hb, hk⟩; refine ⟨_, rfl, ?_⟩; replace BK835 := o_ (KeepBut.blk hk (g' := gb835) (o := c8_ a1_0 a1_1 a1_2 a1_3 a1_4 a1_5 a1_6 a1_7) (bd_ BK835.1) NB835_0.1 (by simp)); replace BK836 := o_ (KeepBut.blk hk (g' := gb836) (o := c7_ 0 0 none 0 0 0 0 none 0 0 0 0) (bd_ BK836.1) NB836_0.1 (by simp)); have HO841 := o_ (Kd.R_lower ho0 (keep_size (w := w) (g := g) (row := none) wK_)); have HO846 := o_ (Kd.R_lower ho1 (keep_size (w := w) (g := g) (row := none) wK_)); replace HK := o_ (KeepBut.trans wK_ hk (.inl rfl)); replace HB := o_ (hb); replace HI0 := o_ (hi); (try clear hb hk hi ho0 ho1)) | ((with_reducible refine gate_dst (N := 7) rfl ?_); refine bx_ 7 #[.int .i64 0, .int .i64 0, .slice none 0 0, .int .i64 0, .int .i64 0, .slice none 0 0, .int .i64 0, .int .i64 0] 41 ?_; intro gb851 hg w10 hbox hb; replace HO841 := o_ (Kd.R_below (rd_ HO841.1) hb); replace HO846 := o_ (Kd.R_below (rd_ HO846.1) hb); replace HB := o_ (below_step wB_ hb); have BK851 := o_ (hbox); have GW851 := o_ ((by rw [hg]; exact (keep_size (w := w) (g := g) (row := none) wK_) : w.heap.size ≤ gb851)); have GE851 := o_ ((Nat.le_trans HW0.1 (by rw [hg]; exact (keep_size (w := w) (g := g) (row := none) wK_) : w.heap.size ≤ gb851) : w0.heap.size ≤ gb851)); replace HK := o_ (KeepBut.trans wK_ (KeepBut.of_below hb g none) (.inl rfl)); have NB835_851 := o_ ((by rw [hg]; exact Nat.ne_of_lt (blk_lt (bd_ BK835.1)) : gb835 ≠ gb851)); have NB851_835 := o_ ((by rw [hg]; exact Nat.ne_of_gt (blk_lt (bd_ BK835.1)) : gb851 ≠ gb835)); replace BK835 := o_ (blk_below (bd_ BK835.1) hb); have NB836_851 := o_ ((by rw [hg]; exact Nat.ne_of_lt (blk_lt (bd_ BK836.1)) : gb836 ≠ gb851)); have NB851_836 := o_ ((by rw [hg]; exact Nat.ne_of_gt (blk_lt (bd_ BK836.1)) : gb851 ≠ gb836)); replace BK836 := o_ (blk_below (bd_ BK836.1) hb); have NB0_851 := o_ ((by rw [hg]; exact Nat.ne_of_lt (IsS102.lt (show IsS102 w0 _ g s0_0 t849 t850 from wI_)) : g ≠ gb851)); have NB851_0 := o_ ((by rw [hg]; exact Nat.ne_of_gt (IsS102.lt (show IsS102 w0 _ g s0_0 t849 t850 from wI_)) : gb851 ≠ g)); replace HI0 := o_ (IsS102.below wI_ hb); clear hb hbox hg; have hnb11 := NB851_835.1; have hnc11 := NB835_851.1; have hnb12 := NB851_836.1; have hnc12 := NB836_851.1; have hnb13 := NB851_0.1; have hnc13 := NB0_851.1; obtain ⟨_, _, _, _, _, _, _, _⟩ := e6_ BK851.1; obtain ⟨_, _, _, _, _, _, _, _⟩ := z5_ BK851.1; obtain ⟨Ao15, co15, eo15⟩ := Kd.R_slice HO841.1; subst eo15; obtain ⟨Ao16, co16, eo16⟩ := Kd.R_slice HO846.1; subst eo16; have hnb17 := NB835_836.1; have hnc17 := NB836_835.1; have hnb18 := NB835_0.1; have hnc18 := NB0_835.1; obtain ⟨_, _, _, _, _, _, _, _⟩ := e4_ BK835.1; obtain ⟨_, _, _, _, _, _, _, _⟩ := z5_ BK835.1) | ((with_reducible refine g_ 66 ?_); refine gl_ (some 16) Try.func66 #[.pointer (some ⟨g, 0, none⟩), .int .i64 6] ?_; (with_reducible refine (spec_l1Once.calls g s0_0 t849 t850 6 t852 t853 t854 w0 _ wI_ wB_ A5.1).mono ?_); rintro e w20 ⟨rfl, hi, hb, hk⟩; refine ⟨_, rfl, ?_⟩; replace BK835 := o_ (KeepBut.blk hk (g' := gb835) (o := c8_ a1_0 a1_1 a1_2 a1_3 a1_4 a1_5 a1_6 a1_7) (bk_ BK835.1) NB835_0.1 (by simp)); replace BK836 := o_ (KeepBut.blk hk (g' := gb836) (o := c7_ 0 0 none 0 0 0 0 none 0 0 0 0) (bk_ BK836.1) NB836_0.1 (by simp)); replace HO841 := o_ (kp_ (show IsS102 w0 _ g s0_0 t849 t850 from wI_) (rf_ (R2_ HO841.1 BK851.1) (fun _ h_ => h_.1)) hk); replace HO846 := o_ (kp_ (show IsS102 w0 _ g s0_0 t849 t850 from wI_) (rf_ (R2_ HO846.1 BK851.1) (fun _ h_ => h_.1)) hk); replace BK851 := o_ (KeepBut.blk hk (g' := gb851) (o := c7_ t837 a1_1 Ao15 t839.length co15 t842 t843 Ao16 t844.length co16 t847 t848) (bk_ BK851.1) NB851_0.1 (by simp)); replace HK := o_ (KeepBut.trans wK_ hk (.inl rfl)); replace HB := o_ (hb); replace HI0 := o_ (hi); (try clear hb hk hi)))
 (try simp only [Act.put, List.setIfInBounds_toArray, List.set_cons_zero, List.set_cons_succ])
 go_cut [] (fun wc => ∃ (kq : Nat) (x852002_5 : List Int) (u852002 : Value), Aside0 (spec_l8For.j0 kq s0_0 t853 t854 a1_0 a1_1 a1_2 a1_3 a1_4 a1_5 a1_6 a1_7 t837 a1_1 x852002_5 t842 t843 t844 t847 t848 = some (r1, r2, r3, r4, r5, r6, r7, r8, r9, r10)) ∧ Aside0 (kq ≤ k) ∧ Aside0 (Kd.R (Kd.int .i64) 3 wc w.heap.size (fun k_ => some k_ ≠ ((.slice Ao16 t844.length co16) : Value).ownBlock) u852002 x852002_5) ∧ Aside0 (Kd.R (Kd.int .i64) 3 wc w.heap.size (fun k_ => some k_ ≠ (u852002 : Value).ownBlock) (.slice Ao16 t844.length co16) t844) ∧ Aside0 (wc.heap[gb835]? = some (c8_ a1_0 a1_1 a1_2 a1_3 a1_4 a1_5 a1_6 a1_7)) ∧ Aside0 (wc.heap[gb836]? = some (.cells #[.int .i64 0, .int .i64 0, (.slice none 0 0), .int .i64 0, .int .i64 0, (.slice none 0 0), .int .i64 0, .int .i64 0] 41 (0, 0))) ∧ Aside0 (wc.heap[gb851]? = some (.cells #[.int .i64 t837, .int .i64 a1_1, u852002, .int .i64 t842, .int .i64 t843, (.slice Ao16 t844.length co16), .int .i64 t847, .int .i64 t848] 41 (0, 0))) ∧ Aside0 (IsS102 w0 wc g s0_0 t853 t854) ∧ Aside0 (KeepBut w wc g none) ∧ Aside0 (Below w0.heap.size w0 wc))
 case first =>
  have H := HC6.1
  clear HC6
  by_cases c21 : t852 = true
  ·
   subst c21
   have H1 := H
   rw [if_pos rfl] at H1
   clear H
   have H := H1
   clear H1
   have H' := o_ H
   clear H
   go_wp2
   go_meet
   case rel => exact ⟨_, (t839), (.slice Ao15 t839.length co15), H', ⟨by first | omega | exact Nat.le_refl _⟩, ⟨rd_ HO841.1⟩, ⟨rd_ HO846.1⟩, ⟨bd_ BK835.1⟩, ⟨bd_ BK836.1⟩, ⟨bd_ BK851.1⟩, ⟨wI_⟩, ⟨wK_⟩, ⟨wB_⟩⟩
  ·
   replace c21 := Bool.eq_false_iff.mpr c21
   subst c21
   have H1 := H
   rw [if_neg nt_] at H1
   clear H
   have H := H1
   clear H1
   obtain ⟨y855, hy855⟩ : ∃ y_ : List Int, y_ = (([a1_2] : List Int)) := ⟨_, rfl⟩
   replace H : (spec_l8For.j0 k s0_0 t853 t854 a1_0 a1_1 a1_2 a1_3 a1_4 a1_5 a1_6 a1_7 t837 a1_1 y855 t842 t843 t844 t847 t848) = some (r1, r2, r3, r4, r5, r6, r7, r8, r9, r10) := hy_ H hy855
   have Ny855 := o_ hy855
   clear hy855
   have H' := o_ H
   clear H
   have hnb22 := NB835_836.1
   have hnc22 := NB836_835.1
   have hnb23 := NB835_851.1
   have hnc23 := NB851_835.1
   have hnb24 := NB835_0.1
   have hnc24 := NB0_835.1
   obtain ⟨_, _, _, _, _, _, _, _⟩ := e4_ BK835.1
   obtain ⟨_, _, _, _, _, _, _, _⟩ := z5_ BK835.1
   go_wp2_with (first | ((with_reducible refine gate_dst (N := 21) rfl ?_); refine Kd.R_lit (Kd.int .i64) _ 3 ?hg (N := 21) ?hd (xs := ([a1_2] : List Int)) (inner := [.int .i64 a1_2]) (ok := fun _ => True) (okp := fun _ => True) ?hr ?hp (fun _ hk => hk) trivial (Below.refl _ _) (Nat.le_refl _) (by simp) ?_; (case hd => rfl); (case hg => rfl); (case hr => first | (go_simp; done) | (go_simp; rfl)); (case hp => exact (Reps.one (show Kd.M (Kd.int .i64) _ _ _ a1_2 [.int .i64 a1_2] from rfl) (Reps.none _ _))); intro v856 w26 ho27 hb hg_ hnew_; clear hg_ hnew_; (first | rw [← Ny855.1] at ho27 | (simp only [Int.reduceToNat] at ho27; rw [← Ny855.1] at ho27)); have HO857 := o_ (Kd.R_lower (Kd.R_new' (Kd.R_new' ho27 (Kd.R_lt (rd_ HO841.1))) (Kd.R_lt (rd_ HO846.1))) (keep_size (w := w) (g := g) (row := none) wK_)); replace HO841 := o_ (Kd.R_elder' (rd_ HO841.1) (Kd.R_base ho27) hb); replace HO846 := o_ (Kd.R_elder' (rd_ HO846.1) (Kd.R_base ho27) hb); replace BK835 := o_ (blk_below (bd_ BK835.1) hb); replace BK836 := o_ (blk_below (bd_ BK836.1) hb); replace BK851 := o_ (blk_below (bd_ BK851.1) hb); replace HK := o_ (KeepBut.trans wK_ (KeepBut.of_below hb g none) (.inl rfl)); replace HB := o_ (below_step (wB_) hb); replace HI0 := o_ (IsS102.below (wI_) hb); clear hb ho27; obtain ⟨Ao28, co28, eo28⟩ := Kd.R_slice HO857.1; subst eo28; have hnb29 := NB851_836.1; have hnc29 := NB836_851.1; have hnb30 := NB851_0.1; have hnc30 := NB0_851.1; obtain ⟨_, _, _, _, _, _, _, _⟩ := e6_ BK851.1; obtain ⟨_, _, _, _, _, _, _, _⟩ := z5_ BK851.1))
   go_meet
   case rel => exact ⟨_, (y855), (.slice Ao28 y855.length co28), H', ⟨by first | omega | exact Nat.le_refl _⟩, ⟨rf_ (R2_ HO857.1 BK851.1) (fun _ hk => hk.1.2)⟩, ⟨rf_ (R2_ HO846.1 BK851.1) (fun _ hk => hk.1.2)⟩, ⟨bk_ BK835.1⟩, ⟨bk_ BK836.1⟩, ⟨bk_ BK851.1⟩, ⟨wI_⟩, ⟨wK_⟩, ⟨wB_⟩⟩
 case rest =>
  clear HC6
  try clear c1
  try clear c2
  try clear p2
  try clear c3
  try clear c6
  try clear c9
  try clear c11
  try clear c12
  try clear c13
  try clear c17
  try clear c18
  try clear c21
  try clear c22
  try clear c23
  try clear c24
  try clear c29
  try clear c30
  obtain ⟨kq, x852002_5, u852002, HA, HJ5, HO_852002, HO_852005, BK835, BK836, BK851, HI0, HK, HB⟩ := hcut
  cases kq with
  | zero => exact absurd HA.1 (by simp [spec_l8For.j0])
  | succ kj5 =>
   have H := HA.1
   clear HA
   simp only [spec_l8For.j0] at H
   obtain ⟨⟨t858, t859, t860⟩, A32, H⟩ := ob_ H
   try dsimp only at H
   have HC33 := o_ H
   clear H
   go_upto_if 25 with (first | ((with_reducible refine g_ 66 ?_); refine gl_ (some 24) Try.func66 #[.pointer (some ⟨g, 0, none⟩), .int .i64 6] ?_; (with_reducible refine (spec_l1Once.calls g s0_0 t853 t854 6 t858 t859 t860 w0 _ wI_ wB_ A32.1).mono ?_); rintro e w34 ⟨rfl, hi, hb, hk⟩; refine ⟨_, rfl, ?_⟩; replace HO_852002 := o_ (kp_ (show IsS102 w0 _ g s0_0 t853 t854 from wI_) (rd_ HO_852002.1) hk); replace HO_852005 := o_ (kp_ (show IsS102 w0 _ g s0_0 t853 t854 from wI_) (rd_ HO_852005.1) hk); replace BK835 := o_ (KeepBut.blk hk (g' := gb835) (o := c8_ a1_0 a1_1 a1_2 a1_3 a1_4 a1_5 a1_6 a1_7) (bd_ BK835.1) NB835_0.1 (by simp)); replace BK836 := o_ (KeepBut.blk hk (g' := gb836) (o := c7_ 0 0 none 0 0 0 0 none 0 0 0 0) (bd_ BK836.1) NB836_0.1 (by simp)); replace BK851 := o_ (KeepBut.blk hk (g' := gb851) (o := .cells #[.int .i64 t837, .int .i64 a1_1, u852002, .int .i64 t842, .int .i64 t843, .slice Ao16 t844.length co16, .int .i64 t847, .int .i64 t848] 41 (0, 0)) (bd_ BK851.1) NB851_0.1 (by simp)); replace HK := o_ (KeepBut.trans wK_ hk (.inl rfl)); replace HB := o_ (hb); replace HI0 := o_ (hi); (try clear hb hk hi)))
   (try simp only [Act.put, List.setIfInBounds_toArray, List.set_cons_zero, List.set_cons_succ])
   go_cut [] (fun wc => ∃ (kq : Nat) (x1001_32 : Int) (x1002_32 : Int) (x852003_32 : Int) (x852004_32 : Int), Aside0 (spec_l8For.j1 kq s0_0 x1001_32 x1002_32 a1_0 a1_1 a1_2 a1_3 a1_4 a1_5 a1_6 a1_7 t837 a1_1 x852002_5 x852003_32 x852004_32 t844 t847 t848 = some (r1, r2, r3, r4, r5, r6, r7, r8, r9, r10)) ∧ Aside0 (kq ≤ kj5) ∧ Aside0 (Kd.R (Kd.int .i64) 3 wc w.heap.size (fun k_ => some k_ ≠ ((.slice Ao16 t844.length co16) : Value).ownBlock) u852002 x852002_5) ∧ Aside0 (Kd.R (Kd.int .i64) 3 wc w.heap.size (fun k_ => some k_ ≠ (u852002 : Value).ownBlock) (.slice Ao16 t844.length co16) t844) ∧ Aside0 (wc.heap[gb835]? = some (c8_ a1_0 a1_1 a1_2 a1_3 a1_4 a1_5 a1_6 a1_7)) ∧ Aside0 (wc.heap[gb836]? = some (.cells #[.int .i64 0, .int .i64 0, (.slice none 0 0), .int .i64 0, .int .i64 0, (.slice none 0 0), .int .i64 0, .int .i64 0] 41 (0, 0))) ∧ Aside0 (wc.heap[gb851]? = some (.cells #[.int .i64 t837, .int .i64 a1_1, u852002, .int .i64 x852003_32, .int .i64 x852004_32, (.slice Ao16 t844.length co16), .int .i64 t847, .int .i64 t848] 41 (0, 0))) ∧ Aside0 (IsS102 w0 wc g s0_0 x1001_32 x1002_32) ∧ Aside0 (KeepBut w wc g none) ∧ Aside0 (Below w0.heap.size w0 wc))
   case first =>
    have H := HC33.1
    clear HC33
    by_cases c35 : t858 = true
    ·
     subst c35
     have H1 := H
     rw [if_pos rfl] at H1
     clear H
     have H := H1
     clear H1
     have H' := o_ H
     clear H
     go_wp2
     go_meet
     case rel => exact ⟨_, (t859), (t860), (t842), (t843), H', ⟨by have := HJ5.1; first | omega | exact Nat.le_refl _⟩, ⟨rd_ HO_852002.1⟩, ⟨rd_ HO_852005.1⟩, ⟨bd_ BK835.1⟩, ⟨bd_ BK836.1⟩, ⟨bd_ BK851.1⟩, ⟨wI_⟩, ⟨wK_⟩, ⟨wB_⟩⟩
    ·
     replace c35 := Bool.eq_false_iff.mpr c35
     subst c35
     have H1 := H
     rw [if_neg nt_] at H1
     clear H
     have H := H1
     clear H1
     obtain ⟨⟨t861, t862, t863⟩, A36, H⟩ := ob_ H
     try dsimp only at H
     obtain ⟨t864, A37, H⟩ := ob_ H
     try dsimp only at H
     obtain ⟨⟨t865, t866, t867⟩, A38, H⟩ := ob_ H
     try dsimp only at H
     obtain ⟨t868, A39, H⟩ := ob_ H
     try dsimp only at H
     have H' := o_ H
     clear H
     try go_wp2
     replace HO_852002 := o_ (Kd.R_drew HO_852002.1)
     replace HO_852005 := o_ (Kd.R_drew HO_852005.1)
     replace BK835 := o_ (blk_drew BK835.1)
     replace BK836 := o_ (blk_drew BK836.1)
     replace BK851 := o_ (blk_drew BK851.1)
     replace HI0 := o_ (IsS102.drew HI0.1)
     replace HK := o_ (keep_drew HK.1)
     replace HB := o_ (below_drew1 HB.1)
     refine start_ (n := 9) (S := fun w' => q3e_ w' gb835 a1_0 a1_1 a1_2 a1_3 a1_4 a1_5 a1_6 a1_7) (ds := []) M6_0 (by kernel_rfl) rfl rfl (k3e_ BK835.1) (fun hHeld => ?_); refine with_tabW spec_l8For.tab6 spec_l8For.bits6 (fun HT_ HW_ => ?_)
     generalize w34.drew = w40 at HO_852002 HO_852005 BK835 BK836 BK851 HI0 HK HB hHeld ⊢
     refine pu_ 0 (some 26) M6_1 HT_ ?_
     refine pu_ 1 (some 27) M6_2 HT_ ?_
     refine pu_ 3 (some 29) M6_3 HT_ ?_
     refine tk_ 2 (some 28) M6_4 HT_ HW_ hHeld ?_
     refine one_ (i := 4) (N := some 30) M6_5 rfl rfl (one_of HT_.1 (by kernel_rfl)) (by decide) (fun K hK => ?_)
     refine goes_ Try.func84 (by kernel_rfl) rfl #[.pointer (some ⟨g, 0, none⟩), .int .i64 4] (by rfl) rfl rfl ma_ ?_
     with_reducible refine (spec_l1Below.calls g s0_0 t859 t860 4 t861 t862 t863 w0 _ ?side1 ?side2 A36.1).mono ?_
     (case side1 => exact wI_)
     (case side2 => exact wB_)
     rintro e w41 ⟨rfl, hi, hb, hk⟩
     refine ⟨_, rfl, ?_⟩
     replace HO_852002 := o_ (kp_ (show IsS102 w0 _ g s0_0 t859 t860 from wI_) (rd_ HO_852002.1) hk)
     replace HO_852005 := o_ (kp_ (show IsS102 w0 _ g s0_0 t859 t860 from wI_) (rd_ HO_852005.1) hk)
     replace BK835 := o_ (KeepBut.blk hk (g' := gb835) (o := c8_ a1_0 a1_1 a1_2 a1_3 a1_4 a1_5 a1_6 a1_7) (bd_ BK835.1) NB835_0.1 (by simp))
     replace BK836 := o_ (KeepBut.blk hk (g' := gb836) (o := c7_ 0 0 none 0 0 0 0 none 0 0 0 0) (bd_ BK836.1) NB836_0.1 (by simp))
     replace BK851 := o_ (KeepBut.blk hk (g' := gb851) (o := .cells #[.int .i64 t837, .int .i64 a1_1, u852002, .int .i64 t842, .int .i64 t843, .slice Ao16 t844.length co16, .int .i64 t847, .int .i64 t848] 41 (0, 0)) (bd_ BK851.1) NB851_0.1 (by simp))
     replace HK := o_ (KeepBut.trans wK_ hk (.inl rfl))
     replace HB := o_ (hb)
     replace HI0 := o_ (hi)
     (try clear hb)
     (try clear hb2)
     (try clear hk)
     (try clear hi)
     refine hK.out _ _ (k3e_ BK835.1) (fun hHeld => ?_)
     clear hK K
     refine norm_ (a' := ?_) ?_ ?_
     rotate_left
     ·
      show Act.put _ (some 30) _ = _
      simp only [Act.put, P6_1, P6_2, P6_3, i64_w, i32_w]
      rfl
     refine pu_ 5 (some 31) M6_6 HT_ ?_
     refine one_ (i := 6) (N := some 32) M6_7 rfl rfl (one_of HT_.1 (by kernel_rfl)) (by decide) (fun K hK => ?_)
     refine goes_ Try.func77 (by kernel_rfl) rfl #[.int .i64 1, .int .i64 (wrap64 (a1_3 - t861))] (by rfl) rfl rfl ma_ ?_
     with_reducible refine (spec_Max.calls 1 (wrap64 (a1_3 - t861)) t864 _ A37.1).mono ?_
     rintro e w' ⟨rfl, ⟨nd, rfl⟩⟩
     refine ⟨_, rfl, ?_⟩
     generalize hq_ : World.drewN w41 nd = w41
     replace HO_852002 := o_ (Kd.R_at hq_ HO_852002.1)
     replace HO_852005 := o_ (Kd.R_at hq_ HO_852005.1)
     replace BK835 := o_ (blk_at hq_ BK835.1)
     replace BK836 := o_ (blk_at hq_ BK836.1)
     replace BK851 := o_ (blk_at hq_ BK851.1)
     replace HK := o_ (keep_at hq_ HK.1)
     replace HB := o_ (below_at hq_ HB.1)
     replace HI0 := o_ (IsS102.at_ hq_ HI0.1)
     clear hq_
     refine hK.out _ _ (k3e_ BK835.1) (fun hHeld => ?_)
     clear hK K
     refine norm_ (a' := ?_) ?_ ?_
     rotate_left
     ·
      show Act.put _ (some 32) _ = _
      simp only [Act.put, P6_1, P6_2, P6_3, i64_w, i32_w]
      rfl
     refine pu_ 7 (some 33) M6_8 HT_ ?_
     refine one_ (i := 8) (N := none) M6_9 rfl rfl (one_of HT_.1 (by kernel_rfl)) (by decide) (fun K hK => ?_)
     have hs42 : w41.cell? ⟨gb851, 3, none⟩ = some (.int .i64 t842) := (blk_cell BK851.1 3).trans rfl
     have hfs42 := blk_frozen BK851.1 3
     have hns42_0 := NB835_851.1
     have hns42_1 := NB836_851.1
     have hms42_0 := NB851_835.1
     have hms42_1 := NB851_836.1
     refine skip_ (w1 := ?_) (by rfl) rfl ?_ ?_
     rotate_left
     ·
      go_simp
      rfl
     refine hK.out _ _ (q3em_ (fun e_ => (cell_far (p := ⟨gb851, _, none⟩) NB835_851.1 _).trans (e_)) hHeld) (fun hHeld => ?_)
     clear hK K
     refine done_ (done_of HT_.1 (by kernel_rfl)) ?_
     try go_wp2
     generalize hw_ : (w41.setCell ⟨gb851, 3, none⟩ (.int .i64 t864)) = w43
     replace HO_852002 : Aside0 (Kd.R (Kd.int .i64) 3 w43 w.heap.size (fun k_ => some k_ ≠ (.slice Ao16 t844.length co16 : Value).ownBlock) u852002 x852002_5) := ⟨by rw [← hw_]; exact rf_ (R2_ HO_852002.1 BK851.1) (fun _ hk => hk.1)⟩
     replace HO_852005 : Aside0 (Kd.R (Kd.int .i64) 3 w43 w.heap.size (fun k_ => some k_ ≠ (u852002 : Value).ownBlock) (.slice Ao16 t844.length co16) t844) := ⟨by rw [← hw_]; exact rf_ (R2_ HO_852005.1 BK851.1) (fun _ hk => hk.1)⟩
     replace BK835 : Aside0 (w43.heap[gb835]? = some (c8_ a1_0 a1_1 a1_2 a1_3 a1_4 a1_5 a1_6 a1_7)) := ⟨by rw [← hw_]; exact bk_ BK835.1⟩
     replace BK836 : Aside0 (w43.heap[gb836]? = some (c7_ 0 0 none 0 0 0 0 none 0 0 0 0)) := ⟨by rw [← hw_]; exact bk_ BK836.1⟩
     replace BK851 : Aside0 (w43.heap[gb851]? = some (.cells #[.int .i64 t837, .int .i64 a1_1, u852002, .int .i64 t864, .int .i64 t843, .slice Ao16 t844.length co16, .int .i64 t847, .int .i64 t848] 41 (0, 0))) := ⟨by rw [← hw_]; exact bk_ BK851.1⟩
     replace HK : Aside0 (KeepBut w w43 g none) := ⟨by rw [← hw_]; exact wK_⟩
     replace HB : Aside0 (Below w0.heap.size w0 w43) := ⟨by rw [← hw_]; exact wB_⟩
     replace HI0 : Aside0 (IsS102 w0 w43 g s0_0 t862 t863) := ⟨by rw [← hw_]; exact wI_⟩
     clear hw_
     (try (rw [drewN_self w43]; generalize hq_ : World.drewN w43 _ = w43; replace HO_852002 : Aside0 (Kd.R (Kd.int .i64) 3 w43 w.heap.size (fun k_ => some k_ ≠ (.slice Ao16 t844.length co16 : Value).ownBlock) u852002 x852002_5) := ⟨by rw [← hq_]; exact rd_ HO_852002.1⟩; replace HO_852005 : Aside0 (Kd.R (Kd.int .i64) 3 w43 w.heap.size (fun k_ => some k_ ≠ (u852002 : Value).ownBlock) (.slice Ao16 t844.length co16) t844) := ⟨by rw [← hq_]; exact rd_ HO_852005.1⟩; replace BK835 : Aside0 (w43.heap[gb835]? = some (c8_ a1_0 a1_1 a1_2 a1_3 a1_4 a1_5 a1_6 a1_7)) := ⟨by rw [← hq_]; exact bd_ BK835.1⟩; replace BK836 : Aside0 (w43.heap[gb836]? = some (c7_ 0 0 none 0 0 0 0 none 0 0 0 0)) := ⟨by rw [← hq_]; exact bd_ BK836.1⟩; replace BK851 : Aside0 (w43.heap[gb851]? = some (.cells #[.int .i64 t837, .int .i64 a1_1, u852002, .int .i64 t864, .int .i64 t843, .slice Ao16 t844.length co16, .int .i64 t847, .int .i64 t848] 41 (0, 0))) := ⟨by rw [← hq_]; exact bd_ BK851.1⟩; replace HK : Aside0 (KeepBut w w43 g none) := ⟨by rw [← hq_]; exact wK_⟩; replace HB : Aside0 (Below w0.heap.size w0 w43) := ⟨by rw [← hq_]; exact (wB_)⟩; replace HI0 : Aside0 (IsS102 w0 w43 g s0_0 t862 t863) := ⟨by rw [← hq_]; exact (wI_)⟩; clear hq_))
     replace HO_852002 := o_ (Kd.R_drew HO_852002.1)
     replace HO_852005 := o_ (Kd.R_drew HO_852005.1)
     replace BK835 := o_ (blk_drew BK835.1)
     replace BK836 := o_ (blk_drew BK836.1)
     replace BK851 := o_ (blk_drew BK851.1)
     replace HI0 := o_ (IsS102.drew HI0.1)
     replace HK := o_ (keep_drew HK.1)
     replace HB := o_ (below_drew1 HB.1)
     refine start_ (n := 9) (S := fun w' => q3e_ w' gb835 a1_0 a1_1 a1_2 a1_3 a1_4 a1_5 a1_6 a1_7) (ds := []) M6_0 (by kernel_rfl) rfl rfl (k3e_ BK835.1) (fun hHeld => ?_); refine with_tabW spec_l8For.tab7 spec_l8For.bits7 (fun HT_ HW_ => ?_)
     generalize w43.drew = w44 at HO_852002 HO_852005 BK835 BK836 BK851 HI0 HK HB hHeld ⊢
     refine pu_ 0 (some 34) M6_1 HT_ ?_
     refine pu_ 1 (some 35) M6_2 HT_ ?_
     refine pu_ 3 (some 37) M6_3 HT_ ?_
     refine tk_ 2 (some 36) M6_4 HT_ HW_ hHeld ?_
     refine one_ (i := 4) (N := some 38) M6_5 rfl rfl (one_of HT_.1 (by kernel_rfl)) (by decide) (fun K hK => ?_)
     refine goes_ Try.func84 (by kernel_rfl) rfl #[.pointer (some ⟨g, 0, none⟩), .int .i64 4] (by rfl) rfl rfl ma_ ?_
     with_reducible refine (spec_l1Below.calls g s0_0 t862 t863 4 t865 t866 t867 w0 _ ?side1 ?side2 A38.1).mono ?_
     (case side1 => exact wI_)
     (case side2 => exact wB_)
     rintro e w45 ⟨rfl, hi, hb, hk⟩
     refine ⟨_, rfl, ?_⟩
     replace HO_852002 := o_ (kp_ (show IsS102 w0 _ g s0_0 t862 t863 from wI_) (rd_ HO_852002.1) hk)
     replace HO_852005 := o_ (kp_ (show IsS102 w0 _ g s0_0 t862 t863 from wI_) (rd_ HO_852005.1) hk)
     replace BK835 := o_ (KeepBut.blk hk (g' := gb835) (o := c8_ a1_0 a1_1 a1_2 a1_3 a1_4 a1_5 a1_6 a1_7) (bd_ BK835.1) NB835_0.1 (by simp))
     replace BK836 := o_ (KeepBut.blk hk (g' := gb836) (o := c7_ 0 0 none 0 0 0 0 none 0 0 0 0) (bd_ BK836.1) NB836_0.1 (by simp))
     replace BK851 := o_ (KeepBut.blk hk (g' := gb851) (o := .cells #[.int .i64 t837, .int .i64 a1_1, u852002, .int .i64 t864, .int .i64 t843, .slice Ao16 t844.length co16, .int .i64 t847, .int .i64 t848] 41 (0, 0)) (bd_ BK851.1) NB851_0.1 (by simp))
     replace HK := o_ (KeepBut.trans wK_ hk (.inl rfl))
     replace HB := o_ (hb)
     replace HI0 := o_ (hi)
     (try clear hb)
     (try clear hb2)
     (try clear hk)
     (try clear hi)
     refine hK.out _ _ (k3e_ BK835.1) (fun hHeld => ?_)
     clear hK K
     refine norm_ (a' := ?_) ?_ ?_
     rotate_left
     ·
      show Act.put _ (some 38) _ = _
      simp only [Act.put, P6_1, P6_2, P6_3, i64_w, i32_w]
      rfl
     refine pu_ 5 (some 39) M6_6 HT_ ?_
     refine one_ (i := 6) (N := some 40) M6_7 rfl rfl (one_of HT_.1 (by kernel_rfl)) (by decide) (fun K hK => ?_)
     refine goes_ Try.func78 (by kernel_rfl) rfl #[.int .i64 50, .int .i64 (wrap64 (a1_3 + t865))] (by rfl) rfl rfl ma_ ?_
     with_reducible refine (spec_Min.calls 50 (wrap64 (a1_3 + t865)) t868 _ A39.1).mono ?_
     rintro e w' ⟨rfl, ⟨nd, rfl⟩⟩
     refine ⟨_, rfl, ?_⟩
     generalize hq_ : World.drewN w45 nd = w45
     replace HO_852002 := o_ (Kd.R_at hq_ HO_852002.1)
     replace HO_852005 := o_ (Kd.R_at hq_ HO_852005.1)
     replace BK835 := o_ (blk_at hq_ BK835.1)
     replace BK836 := o_ (blk_at hq_ BK836.1)
     replace BK851 := o_ (blk_at hq_ BK851.1)
     replace HK := o_ (keep_at hq_ HK.1)
     replace HB := o_ (below_at hq_ HB.1)
     replace HI0 := o_ (IsS102.at_ hq_ HI0.1)
     clear hq_
     refine hK.out _ _ (k3e_ BK835.1) (fun hHeld => ?_)
     clear hK K
     refine norm_ (a' := ?_) ?_ ?_
     rotate_left
     ·
      show Act.put _ (some 40) _ = _
      simp only [Act.put, P6_1, P6_2, P6_3, i64_w, i32_w]
      rfl
     refine pu_ 7 (some 41) M6_8 HT_ ?_
     refine one_ (i := 8) (N := none) M6_9 rfl rfl (one_of HT_.1 (by kernel_rfl)) (by decide) (fun K hK => ?_)
     have hs46 : w45.cell? ⟨gb851, 4, none⟩ = some (.int .i64 t843) := (blk_cell BK851.1 4).trans rfl
     have hfs46 := blk_frozen BK851.1 4
     have hns46_0 := NB835_851.1
     have hns46_1 := NB836_851.1
     have hms46_0 := NB851_835.1
     have hms46_1 := NB851_836.1
     refine skip_ (w1 := ?_) (by rfl) rfl ?_ ?_
     rotate_left
     ·
      go_simp
      rfl
     refine hK.out _ _ (q3em_ (fun e_ => (cell_far (p := ⟨gb851, _, none⟩) NB835_851.1 _).trans (e_)) hHeld) (fun hHeld => ?_)
     clear hK K
     refine done_ (done_of HT_.1 (by kernel_rfl)) ?_
     try go_wp2
     go_meet
     case rel => exact ⟨_, (t866), (t867), (t864), (t868), H', ⟨by have := HJ5.1; first | omega | exact Nat.le_refl _⟩, ⟨rf_ (R2_ HO_852002.1 BK851.1) (fun _ hk => hk.1)⟩, ⟨rf_ (R2_ HO_852005.1 BK851.1) (fun _ hk => hk.1)⟩, ⟨bk_ BK835.1⟩, ⟨bk_ BK836.1⟩, ⟨bk_ BK851.1⟩, ⟨wI_⟩, ⟨wK_⟩, ⟨wB_⟩⟩
   case rest =>
    clear HC33
    try clear c1
    try clear c2
    try clear p2
    try clear c3
    try clear c6
    try clear p6
    try clear c7
    try clear c8
    try clear c9
    try clear c11
    try clear c12
    try clear c13
    try clear c17
    try clear c18
    try clear c21
    try clear c22
    try clear c23
    try clear c24
    try clear c29
    try clear c30
    try clear c35
    try clear p2
    obtain ⟨kq, x1001_32, x1002_32, x852003_32, x852004_32, HA, HJ32, HO_852002, HO_852005, BK835, BK836, BK851, HI0, HK, HB⟩ := hcut
    cases kq with
    | zero => exact absurd HA.1 (by simp [spec_l8For.j1])
    | succ kj32 =>
     have H := HA.1
     clear HA
     simp only [spec_l8For.j1] at H
     obtain ⟨⟨t869, t870, t871⟩, A47, H⟩ := ob_ H
     try dsimp only at H
     have HC48 := o_ H
     clear H
     go_upto_if 44 with (first | ((with_reducible refine g_ 66 ?_); refine gl_ (some 43) Try.func66 #[.pointer (some ⟨g, 0, none⟩), .int .i64 6] ?_; (with_reducible refine (spec_l1Once.calls g s0_0 x1001_32 x1002_32 6 t869 t870 t871 w0 _ wI_ wB_ A47.1).mono ?_); rintro e w49 ⟨rfl, hi, hb, hk⟩; refine ⟨_, rfl, ?_⟩; replace HO_852002 := o_ (kp_ (show IsS102 w0 _ g s0_0 x1001_32 x1002_32 from wI_) (rd_ HO_852002.1) hk); replace HO_852005 := o_ (kp_ (show IsS102 w0 _ g s0_0 x1001_32 x1002_32 from wI_) (rd_ HO_852005.1) hk); replace BK835 := o_ (KeepBut.blk hk (g' := gb835) (o := c8_ a1_0 a1_1 a1_2 a1_3 a1_4 a1_5 a1_6 a1_7) (bd_ BK835.1) NB835_0.1 (by simp)); replace BK836 := o_ (KeepBut.blk hk (g' := gb836) (o := c7_ 0 0 none 0 0 0 0 none 0 0 0 0) (bd_ BK836.1) NB836_0.1 (by simp)); replace BK851 := o_ (KeepBut.blk hk (g' := gb851) (o := .cells #[.int .i64 t837, .int .i64 a1_1, u852002, .int .i64 x852003_32, .int .i64 x852004_32, .slice Ao16 t844.length co16, .int .i64 t847, .int .i64 t848] 41 (0, 0)) (bd_ BK851.1) NB851_0.1 (by simp)); replace HK := o_ (KeepBut.trans wK_ hk (.inl rfl)); replace HB := o_ (hb); replace HI0 := o_ (hi); (try clear hb hk hi)))
     (try simp only [Act.put, List.setIfInBounds_toArray, List.set_cons_zero, List.set_cons_succ])
     go_cut [] (fun wc => ∃ (kq : Nat) (x852005_47 : List Int) (u852005 : Value), Aside0 (spec_l8For.j2 kq s0_0 t870 t871 a1_0 a1_1 a1_2 a1_3 a1_4 a1_5 a1_6 a1_7 t837 a1_1 x852002_5 x852003_32 x852004_32 x852005_47 t847 t848 = some (r1, r2, r3, r4, r5, r6, r7, r8, r9, r10)) ∧ Aside0 (kq ≤ kj32) ∧ Aside0 (Kd.R (Kd.int .i64) 3 wc w.heap.size (fun k_ => some k_ ≠ (u852005 : Value).ownBlock) u852002 x852002_5) ∧ Aside0 (Kd.R (Kd.int .i64) 3 wc w.heap.size (fun k_ => some k_ ≠ (u852002 : Value).ownBlock) u852005 x852005_47) ∧ Aside0 (wc.heap[gb835]? = some (c8_ a1_0 a1_1 a1_2 a1_3 a1_4 a1_5 a1_6 a1_7)) ∧ Aside0 (wc.heap[gb836]? = some (.cells #[.int .i64 0, .int .i64 0, (.slice none 0 0), .int .i64 0, .int .i64 0, (.slice none 0 0), .int .i64 0, .int .i64 0] 41 (0, 0))) ∧ Aside0 (wc.heap[gb851]? = some (.cells #[.int .i64 t837, .int .i64 a1_1, u852002, .int .i64 x852003_32, .int .i64 x852004_32, u852005, .int .i64 t847, .int .i64 t848] 41 (0, 0))) ∧ Aside0 (IsS102 w0 wc g s0_0 t870 t871) ∧ Aside0 (KeepBut w wc g none) ∧ Aside0 (Below w0.heap.size w0 wc))
     case first =>
      have H := HC48.1
      clear HC48
      by_cases c50 : t869 = true
      ·
       subst c50
       have H1 := H
       rw [if_pos rfl] at H1
       clear H
       have H := H1
       clear H1
       have H' := o_ H
       clear H
       go_wp2
       go_meet
       case rel => exact ⟨_, (t844), (.slice Ao16 t844.length co16), H', ⟨by have := HJ5.1; have := HJ32.1; first | omega | exact Nat.le_refl _⟩, ⟨rd_ HO_852002.1⟩, ⟨rd_ HO_852005.1⟩, ⟨bd_ BK835.1⟩, ⟨bd_ BK836.1⟩, ⟨bd_ BK851.1⟩, ⟨wI_⟩, ⟨wK_⟩, ⟨wB_⟩⟩
      ·
       replace c50 := Bool.eq_false_iff.mpr c50
       subst c50
       have H1 := H
       rw [if_neg nt_] at H1
       clear H
       have H := H1
       clear H1
       obtain ⟨y872, hy872⟩ : ∃ y_ : List Int, y_ = (([a1_5] : List Int)) := ⟨_, rfl⟩
       replace H : (spec_l8For.j2 kj32 s0_0 t870 t871 a1_0 a1_1 a1_2 a1_3 a1_4 a1_5 a1_6 a1_7 t837 a1_1 x852002_5 x852003_32 x852004_32 y872 t847 t848) = some (r1, r2, r3, r4, r5, r6, r7, r8, r9, r10) := hy_ H hy872
       have Ny872 := o_ hy872
       clear hy872
       have H' := o_ H
       clear H
       have hnb51 := NB835_836.1
       have hnc51 := NB836_835.1
       have hnb52 := NB835_851.1
       have hnc52 := NB851_835.1
       have hnb53 := NB835_0.1
       have hnc53 := NB0_835.1
       obtain ⟨_, _, _, _, _, _, _, _⟩ := e4_ BK835.1
       obtain ⟨_, _, _, _, _, _, _, _⟩ := z5_ BK835.1
       go_wp2_with (first | ((with_reducible refine gate_dst (N := 47) rfl ?_); refine Kd.R_lit (Kd.int .i64) _ 3 ?hg (N := 47) ?hd (xs := ([a1_5] : List Int)) (inner := [.int .i64 a1_5]) (ok := fun _ => True) (okp := fun _ => True) ?hr ?hp (fun _ hk => hk) trivial (Below.refl _ _) (Nat.le_refl _) (by simp) ?_; (case hd => rfl); (case hg => rfl); (case hr => first | (go_simp; done) | (go_simp; rfl)); (case hp => exact (Reps.one (show Kd.M (Kd.int .i64) _ _ _ a1_5 [.int .i64 a1_5] from rfl) (Reps.none _ _))); intro v873 w55 ho56 hb hg_ hnew_; clear hg_ hnew_; (first | rw [← Ny872.1] at ho56 | (simp only [Int.reduceToNat] at ho56; rw [← Ny872.1] at ho56)); have HO874 := o_ (Kd.R_lower (Kd.R_new' (Kd.R_new' ho56 (Kd.R_lt (rd_ HO_852002.1))) (Kd.R_lt (rd_ HO_852005.1))) (keep_size (w := w) (g := g) (row := none) wK_)); replace HO_852002 := o_ (Kd.R_elder' (rd_ HO_852002.1) (Kd.R_base ho56) hb); replace HO_852005 := o_ (Kd.R_elder' (rd_ HO_852005.1) (Kd.R_base ho56) hb); replace BK835 := o_ (blk_below (bd_ BK835.1) hb); replace BK836 := o_ (blk_below (bd_ BK836.1) hb); replace BK851 := o_ (blk_below (bd_ BK851.1) hb); replace HK := o_ (KeepBut.trans wK_ (KeepBut.of_below hb g none) (.inl rfl)); replace HB := o_ (below_step (wB_) hb); replace HI0 := o_ (IsS102.below (wI_) hb); clear hb ho56; obtain ⟨Ao57, co57, eo57⟩ := Kd.R_slice HO874.1; subst eo57; have hnb58 := NB851_836.1; have hnc58 := NB836_851.1; have hnb59 := NB851_0.1; have hnc59 := NB0_851.1; have hcz60_0 : w55.cell? ⟨gb851, 0, none⟩ = some (.int .i64 t837) := (blk_cell BK851.1 0).trans rfl; have hcz60_1 : w55.cell? ⟨gb851, 1, none⟩ = some (.int .i64 a1_1) := (blk_cell BK851.1 1).trans rfl; have hcz60_2 : w55.cell? ⟨gb851, 2, none⟩ = some (u852002) := (blk_cell BK851.1 2).trans rfl; have hcz60_3 : w55.cell? ⟨gb851, 3, none⟩ = some (.int .i64 x852003_32) := (blk_cell BK851.1 3).trans rfl; have hcz60_4 : w55.cell? ⟨gb851, 4, none⟩ = some (.int .i64 x852004_32) := (blk_cell BK851.1 4).trans rfl; have hcz60_5 : w55.cell? ⟨gb851, 5, none⟩ = some (.slice Ao16 t844.length co16) := (blk_cell BK851.1 5).trans rfl; have hcz60_6 : w55.cell? ⟨gb851, 6, none⟩ = some (.int .i64 t847) := (blk_cell BK851.1 6).trans rfl; have hcz60_7 : w55.cell? ⟨gb851, 7, none⟩ = some (.int .i64 t848) := (blk_cell BK851.1 7).trans rfl; obtain ⟨_, _, _, _, _, _, _, _⟩ := z5_ BK851.1))
       go_meet
       case rel => exact ⟨_, (y872), (.slice Ao57 y872.length co57), H', ⟨by have := HJ5.1; have := HJ32.1; first | omega | exact Nat.le_refl _⟩, ⟨rf_ (R2_ HO_852002.1 BK851.1) (fun _ hk => hk.1.2)⟩, ⟨rf_ (R2_ HO874.1 BK851.1) (fun _ hk => hk.1.1.2)⟩, ⟨bk_ BK835.1⟩, ⟨bk_ BK836.1⟩, ⟨bk_ BK851.1⟩, ⟨wI_⟩, ⟨wK_⟩, ⟨wB_⟩⟩
     case rest =>
      clear HC48
      try clear c1
      try clear c2
      try clear p2
      try clear c3
      try clear c5
      try clear c6
      try clear p6
      try clear c7
      try clear c8
      try clear c9
      try clear c11
      try clear c12
      try clear c13
      try clear c17
      try clear c18
      try clear c21
      try clear c22
      try clear c23
      try clear c24
      try clear c29
      try clear c30
      try clear c35
      try clear c50
      try clear c51
      try clear c52
      try clear c53
      try clear c58
      try clear c59
      try clear p2
      try clear p6
      obtain ⟨kq, x852005_47, u852005, HA, HJ47, HO_852002, HO_852005, BK835, BK836, BK851, HI0, HK, HB⟩ := hcut
      cases kq with
      | zero => exact absurd HA.1 (by simp [spec_l8For.j2])
      | succ kj47 =>
       have H := HA.1
       clear HA
       simp only [spec_l8For.j2] at H
       obtain ⟨⟨t875, t876, t877⟩, A61, H⟩ := ob_ H
       try dsimp only at H
       by_cases c62 : t875 = true
       ·
        subst c62
        have H1 := H
        rw [if_pos rfl] at H1
        clear H
        have H := H1
        clear H1
        simp only [Option.some.injEq, Prod.mk.injEq] at H
        obtain ⟨rfl, rfl, rfl, rfl, rfl, rfl, rfl, rfl, rfl, rfl⟩ := H
        go_wp2_with (first | ((with_reducible refine g_ 66 ?_); refine gl_ (some 50) Try.func66 #[.pointer (some ⟨g, 0, none⟩), .int .i64 6] ?_; (with_reducible refine (spec_l1Once.calls g s0_0 t870 t871 6 true t876 t877 w0 _ wI_ wB_ A61.1).mono ?_); rintro e w63 ⟨rfl, hi, hb, hk⟩; refine ⟨_, rfl, ?_⟩; replace HO_852002 := o_ (kp_ (show IsS102 w0 _ g s0_0 t870 t871 from wI_) (rd_ HO_852002.1) hk); replace HO_852005 := o_ (kp_ (show IsS102 w0 _ g s0_0 t870 t871 from wI_) (rd_ HO_852005.1) hk); replace BK835 := o_ (KeepBut.blk hk (g' := gb835) (o := c8_ a1_0 a1_1 a1_2 a1_3 a1_4 a1_5 a1_6 a1_7) (bd_ BK835.1) NB835_0.1 (by simp)); replace BK836 := o_ (KeepBut.blk hk (g' := gb836) (o := c7_ 0 0 none 0 0 0 0 none 0 0 0 0) (bd_ BK836.1) NB836_0.1 (by simp)); replace BK851 := o_ (KeepBut.blk hk (g' := gb851) (o := .cells #[.int .i64 t837, .int .i64 a1_1, u852002, .int .i64 x852003_32, .int .i64 x852004_32, u852005, .int .i64 t847, .int .i64 t848] 41 (0, 0)) (bd_ BK851.1) NB851_0.1 (by simp)); replace HK := o_ (KeepBut.trans wK_ hk (.inl rfl)); replace HB := o_ (hb); replace HI0 := o_ (hi); (try clear hb hk hi); have hnb64 := NB851_835.1; have hnc64 := NB835_851.1; have hnb65 := NB851_836.1; have hnc65 := NB836_851.1; have hnb66 := NB851_0.1; have hnc66 := NB0_851.1; have hcz67_0 : w63.cell? ⟨gb851, 0, none⟩ = some (.int .i64 t837) := (blk_cell BK851.1 0).trans rfl; have hcz67_1 : w63.cell? ⟨gb851, 1, none⟩ = some (.int .i64 a1_1) := (blk_cell BK851.1 1).trans rfl; have hcz67_2 : w63.cell? ⟨gb851, 2, none⟩ = some (u852002) := (blk_cell BK851.1 2).trans rfl; have hcz67_3 : w63.cell? ⟨gb851, 3, none⟩ = some (.int .i64 x852003_32) := (blk_cell BK851.1 3).trans rfl; have hcz67_4 : w63.cell? ⟨gb851, 4, none⟩ = some (.int .i64 x852004_32) := (blk_cell BK851.1 4).trans rfl; have hcz67_5 : w63.cell? ⟨gb851, 5, none⟩ = some (u852005) := (blk_cell BK851.1 5).trans rfl; have hcz67_6 : w63.cell? ⟨gb851, 6, none⟩ = some (.int .i64 t847) := (blk_cell BK851.1 6).trans rfl; have hcz67_7 : w63.cell? ⟨gb851, 7, none⟩ = some (.int .i64 t848) := (blk_cell BK851.1 7).trans rfl; obtain ⟨_, _, _, _, _, _, _, _⟩ := z5_ BK851.1; have hnb68 := NB836_835.1; have hnc68 := NB835_836.1; have hnb69 := NB836_0.1; have hnc69 := NB0_836.1; obtain ⟨_, _, _, _, _, _, _, _⟩ := e6_ BK836.1; obtain ⟨_, _, _, _, _, _, _, _⟩ := z5_ BK836.1; obtain ⟨Ao71, co71, eo71⟩ := Kd.R_slice HO_852002.1; subst eo71; obtain ⟨Ao72, co72, eo72⟩ := Kd.R_slice HO_852005.1; subst eo72))
        refine bodyPost_ret (results_cell_row rfl _ _ gb836 41 #[.int .i64 t837, .int .i64 a1_1, .slice Ao71 x852002_5.length co71, .int .i64 x852003_32, .int .i64 x852004_32, .slice Ao72 x852005_47.length co72, .int .i64 t847, .int .i64 t848] (0, 0) _ rfl (bk_ BK836.1) Try.underlying41 rfl (by kernel_rfl)) rfl ?_
        exact ⟨_, _, rt_, rf_ (R2_ HO_852002.1 BK836.1) (fun _ hk => hk.1), rf_ (R2_ HO_852005.1 BK836.1) (fun _ hk => hk.1), wI_, wB_, wK_⟩
       ·
        replace c62 := Bool.eq_false_iff.mpr c62
        subst c62
        have H1 := H
        rw [if_neg nt_] at H1
        clear H
        have H := H1
        clear H1
        obtain ⟨⟨t878, t879, t880⟩, A73, H⟩ := ob_ H
        try dsimp only at H
        obtain ⟨t881, A74, H⟩ := ob_ H
        try dsimp only at H
        obtain ⟨t882, A75, H⟩ := ob_ H
        try dsimp only at H
        simp only [Option.some.injEq, Prod.mk.injEq] at H
        obtain ⟨rfl, rfl, rfl, rfl, rfl, rfl, rfl, rfl, rfl, rfl⟩ := H
        try go_wp2_with (first | ((with_reducible refine g_ 66 ?_); refine gl_ (some 50) Try.func66 #[.pointer (some ⟨g, 0, none⟩), .int .i64 6] ?_; (with_reducible refine (spec_l1Once.calls g s0_0 t870 t871 6 false t876 t877 w0 _ wI_ wB_ A61.1).mono ?_); rintro e w76 ⟨rfl, hi, hb, hk⟩; refine ⟨_, rfl, ?_⟩; replace HO_852002 := o_ (kp_ (show IsS102 w0 _ g s0_0 t870 t871 from wI_) (rd_ HO_852002.1) hk); replace HO_852005 := o_ (kp_ (show IsS102 w0 _ g s0_0 t870 t871 from wI_) (rd_ HO_852005.1) hk); replace BK835 := o_ (KeepBut.blk hk (g' := gb835) (o := c8_ a1_0 a1_1 a1_2 a1_3 a1_4 a1_5 a1_6 a1_7) (bd_ BK835.1) NB835_0.1 (by simp)); replace BK836 := o_ (KeepBut.blk hk (g' := gb836) (o := c7_ 0 0 none 0 0 0 0 none 0 0 0 0) (bd_ BK836.1) NB836_0.1 (by simp)); replace BK851 := o_ (KeepBut.blk hk (g' := gb851) (o := .cells #[.int .i64 t837, .int .i64 a1_1, u852002, .int .i64 x852003_32, .int .i64 x852004_32, u852005, .int .i64 t847, .int .i64 t848] 41 (0, 0)) (bd_ BK851.1) NB851_0.1 (by simp)); replace HK := o_ (KeepBut.trans wK_ hk (.inl rfl)); replace HB := o_ (hb); replace HI0 := o_ (hi); (try clear hb hk hi)))
        replace HO_852002 := o_ (Kd.R_drew HO_852002.1)
        replace HO_852005 := o_ (Kd.R_drew HO_852005.1)
        replace BK835 := o_ (blk_drew BK835.1)
        replace BK836 := o_ (blk_drew BK836.1)
        replace BK851 := o_ (blk_drew BK851.1)
        replace HI0 := o_ (IsS102.drew HI0.1)
        replace HK := o_ (keep_drew HK.1)
        replace HB := o_ (below_drew1 HB.1)
        refine start_ (n := 12) (S := fun w' => q3e_ w' gb835 a1_0 a1_1 a1_2 a1_3 a1_4 a1_5 a1_6 a1_7) (ds := []) M6_10 (by kernel_rfl) rfl rfl (k3e_ BK835.1) (fun hHeld => ?_); refine with_tabW spec_l8For.tab11 spec_l8For.bits11 (fun HT_ HW_ => ?_)
        generalize w76.drew = w77 at HO_852002 HO_852005 BK835 BK836 BK851 HI0 HK HB hHeld ⊢
        refine pu_ 0 (some 52) M6_11 HT_ ?_
        refine pu_ 2 (some 54) M6_12 HT_ ?_
        refine pu_ 6 (some 58) M6_13 HT_ ?_
        refine tk_ 1 (some 53) M6_14 HT_ HW_ hHeld ?_
        refine tk_ 7 (some 59) M6_15 HT_ HW_ hHeld ?_
        refine one_ (i := 3) (N := some 55) M6_16 rfl rfl (one_of HT_.1 (by kernel_rfl)) (by decide) (fun K hK => ?_)
        refine goes_ Try.func84 (by kernel_rfl) rfl #[.pointer (some ⟨g, 0, none⟩), .int .i64 40] (by rfl) rfl rfl ma_ ?_
        with_reducible refine (spec_l1Below.calls g s0_0 t876 t877 40 t878 t879 t880 w0 _ ?side1 ?side2 A73.1).mono ?_
        (case side1 => exact wI_)
        (case side2 => exact wB_)
        rintro e w78 ⟨rfl, hi, hb, hk⟩
        refine ⟨_, rfl, ?_⟩
        replace HO_852002 := o_ (kp_ (show IsS102 w0 _ g s0_0 t876 t877 from wI_) (rd_ HO_852002.1) hk)
        replace HO_852005 := o_ (kp_ (show IsS102 w0 _ g s0_0 t876 t877 from wI_) (rd_ HO_852005.1) hk)
        replace BK835 := o_ (KeepBut.blk hk (g' := gb835) (o := c8_ a1_0 a1_1 a1_2 a1_3 a1_4 a1_5 a1_6 a1_7) (bd_ BK835.1) NB835_0.1 (by simp))
        replace BK836 := o_ (KeepBut.blk hk (g' := gb836) (o := c7_ 0 0 none 0 0 0 0 none 0 0 0 0) (bd_ BK836.1) NB836_0.1 (by simp))
        replace BK851 := o_ (KeepBut.blk hk (g' := gb851) (o := .cells #[.int .i64 t837, .int .i64 a1_1, u852002, .int .i64 x852003_32, .int .i64 x852004_32, u852005, .int .i64 t847, .int .i64 t848] 41 (0, 0)) (bd_ BK851.1) NB851_0.1 (by simp))
        replace HK := o_ (KeepBut.trans wK_ hk (.inl rfl))
        replace HB := o_ (hb)
        replace HI0 := o_ (hi)
        (try clear hb)
        (try clear hb2)
        (try clear hk)
        (try clear hi)
        refine hK.out _ _ (k3e_ BK835.1) (fun hHeld => ?_)
        clear hK K
        refine norm_ (a' := ?_) ?_ ?_
        rotate_left
        ·
         show Act.put _ (some 55) _ = _
         simp only [Act.put, P6_1, P6_2, P6_3, i64_w, i32_w]
         rfl
        refine pu_ 4 (some 56) M6_17 HT_ ?_
        refine one_ (i := 5) (N := some 57) M6_18 rfl rfl (one_of HT_.1 (by kernel_rfl)) (by decide) (fun K hK => ?_)
        refine goes_ Try.func77 (by kernel_rfl) rfl #[.int .i64 0, .int .i64 (wrap64 (a1_6 - t878))] (by rfl) rfl rfl ma_ ?_
        with_reducible refine (spec_Max.calls 0 (wrap64 (a1_6 - t878)) t881 _ A74.1).mono ?_
        rintro e w' ⟨rfl, ⟨nd, rfl⟩⟩
        refine ⟨_, rfl, ?_⟩
        generalize hq_ : World.drewN w78 nd = w78
        replace HO_852002 := o_ (Kd.R_at hq_ HO_852002.1)
        replace HO_852005 := o_ (Kd.R_at hq_ HO_852005.1)
        replace BK835 := o_ (blk_at hq_ BK835.1)
        replace BK836 := o_ (blk_at hq_ BK836.1)
        replace BK851 := o_ (blk_at hq_ BK851.1)
        replace HK := o_ (keep_at hq_ HK.1)
        replace HB := o_ (below_at hq_ HB.1)
        replace HI0 := o_ (IsS102.at_ hq_ HI0.1)
        clear hq_
        refine hK.out _ _ (k3e_ BK835.1) (fun hHeld => ?_)
        clear hK K
        refine norm_ (a' := ?_) ?_ ?_
        rotate_left
        ·
         show Act.put _ (some 57) _ = _
         simp only [Act.put, P6_1, P6_2, P6_3, i64_w, i32_w]
         rfl
        refine one_ (i := 8) (N := some 60) M6_19 rfl rfl (one_of HT_.1 (by kernel_rfl)) (by decide) (fun K hK => ?_)
        refine goes_ Try.func77 (by kernel_rfl) rfl #[.int .i64 0, .int .i64 a1_6] (by rfl) rfl rfl ma_ ?_
        with_reducible refine (spec_Max.calls 0 a1_6 t882 _ A75.1).mono ?_
        rintro e w' ⟨rfl, ⟨nd, rfl⟩⟩
        refine ⟨_, rfl, ?_⟩
        generalize hq_ : World.drewN w78 nd = w78
        replace HO_852002 := o_ (Kd.R_at hq_ HO_852002.1)
        replace HO_852005 := o_ (Kd.R_at hq_ HO_852005.1)
        replace BK835 := o_ (blk_at hq_ BK835.1)
        replace BK836 := o_ (blk_at hq_ BK836.1)
        replace BK851 := o_ (blk_at hq_ BK851.1)
        replace HK := o_ (keep_at hq_ HK.1)
        replace HB := o_ (below_at hq_ HB.1)
        replace HI0 := o_ (IsS102.at_ hq_ HI0.1)
        clear hq_
        refine hK.out _ _ (k3e_ BK835.1) (fun hHeld => ?_)
        clear hK K
        refine norm_ (a' := ?_) ?_ ?_
        rotate_left
        ·
         show Act.put _ (some 60) _ = _
         simp only [Act.put, P6_1, P6_2, P6_3, i64_w, i32_w]
         rfl
        refine pu_ 9 (some 61) M6_20 HT_ ?_
        refine pu_ 10 (some 62) M6_21 HT_ ?_
        refine one_ (i := 11) (N := none) M6_22 rfl rfl (one_of HT_.1 (by kernel_rfl)) (by decide) (fun K hK => ?_)
        have hs79 : w78.cell? ⟨gb851, 6, none⟩ = some (.int .i64 t847) := (blk_cell BK851.1 6).trans rfl
        have hfs79 := blk_frozen BK851.1 6
        have hns79_0 := NB835_851.1
        have hns79_1 := NB836_851.1
        have hms79_0 := NB851_835.1
        have hms79_1 := NB851_836.1
        have hs80 : w78.cell? ⟨gb851, 7, none⟩ = some (.int .i64 t848) := (blk_cell BK851.1 7).trans rfl
        have hfs80 := blk_frozen BK851.1 7
        have hns80_0 := NB835_851.1
        have hns80_1 := NB836_851.1
        have hms80_0 := NB851_835.1
        have hms80_1 := NB851_836.1
        refine skip_ (w1 := ?_) (by rfl) rfl ?_ ?_
        rotate_left
        ·
         go_simp
         rfl
        refine hK.out _ _ (q3em_ (fun e_ => (cell_far (p := ⟨gb851, _, none⟩) NB835_851.1 _).trans (((cell_far (p := ⟨gb851, _, none⟩) NB835_851.1 _).trans (e_)))) hHeld) (fun hHeld => ?_)
        clear hK K
        refine done_ (done_of HT_.1 (by kernel_rfl)) ?_
        have hnb81 := NB851_835.1
        have hnc81 := NB835_851.1
        have hnb82 := NB851_836.1
        have hnc82 := NB836_851.1
        have hnb83 := NB851_0.1
        have hnc83 := NB0_851.1
        have hcz84_0 : w78.cell? ⟨gb851, 0, none⟩ = some (.int .i64 t837) := (blk_cell BK851.1 0).trans rfl
        have hcz84_1 : w78.cell? ⟨gb851, 1, none⟩ = some (.int .i64 a1_1) := (blk_cell BK851.1 1).trans rfl
        have hcz84_2 : w78.cell? ⟨gb851, 2, none⟩ = some (u852002) := (blk_cell BK851.1 2).trans rfl
        have hcz84_3 : w78.cell? ⟨gb851, 3, none⟩ = some (.int .i64 x852003_32) := (blk_cell BK851.1 3).trans rfl
        have hcz84_4 : w78.cell? ⟨gb851, 4, none⟩ = some (.int .i64 x852004_32) := (blk_cell BK851.1 4).trans rfl
        have hcz84_5 : w78.cell? ⟨gb851, 5, none⟩ = some (u852005) := (blk_cell BK851.1 5).trans rfl
        have hcz84_6 : w78.cell? ⟨gb851, 6, none⟩ = some (.int .i64 t847) := (blk_cell BK851.1 6).trans rfl
        have hcz84_7 : w78.cell? ⟨gb851, 7, none⟩ = some (.int .i64 t848) := (blk_cell BK851.1 7).trans rfl
        obtain ⟨_, _, _, _, _, _, _, _⟩ := z5_ BK851.1
        have hnb85 := NB836_835.1
        have hnc85 := NB835_836.1
        have hnb86 := NB836_0.1
        have hnc86 := NB0_836.1
        obtain ⟨_, _, _, _, _, _, _, _⟩ := e6_ BK836.1
        obtain ⟨_, _, _, _, _, _, _, _⟩ := z5_ BK836.1
        obtain ⟨Ao88, co88, eo88⟩ := Kd.R_slice HO_852002.1
        subst eo88
        obtain ⟨Ao89, co89, eo89⟩ := Kd.R_slice HO_852005.1
        subst eo89
        try go_wp2
        refine bodyPost_ret (results_cell_row rfl _ _ gb836 41 #[.int .i64 t837, .int .i64 a1_1, .slice Ao88 x852002_5.length co88, .int .i64 x852003_32, .int .i64 x852004_32, .slice Ao89 x852005_47.length co89, .int .i64 t881, .int .i64 t882] (0, 0) _ rfl (bk_ BK836.1) Try.underlying41 rfl (by kernel_rfl)) rfl ?_
        exact ⟨_, _, rt_, rf_ (R2_ (R2_ HO_852002.1 BK851.1) BK836.1) (fun _ hk => hk.1.1), rf_ (R2_ (R2_ HO_852005.1 BK851.1) BK836.1) (fun _ hk => hk.1.1), wI_, wB_, wK_⟩

end Go.Proofs.Ytglpmjcknhcjcaa.PFnTwins
