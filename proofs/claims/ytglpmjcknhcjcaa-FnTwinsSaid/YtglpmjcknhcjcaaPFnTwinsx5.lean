-- Written for this claim by a program (a printer turned to this claim); Lean checks it.
import Derived.Test.YtglpmjcknhcjcaaPFnTwinsx0
import Derived.Test.YtglpmjcknhcjcaaPFnTwinsx4
namespace Go.Proofs.Ytglpmjcknhcjcaa.PFnTwins
open Go.RowKit Go.Proofs.YtglpmjcknhcjcaaW.PrintWords Go.Proofs.YtglpmjcknhcjcaaW.PrintLast Go.Proofs.YtglpmjcknhcjcaaW.PrintMore
attribute [local go_sem] max2_int min2_int max_two min_two max_three min_three max_four min_four   -- for this text's walks alone
set_option linter.unusedVariables false
set_option linter.unusedSimpArgs false

/-! ### impl_Sharpen: function 51 -/
def impl_Sharpen.j0 : Nat → Bool → Int → Int → List Int → Int → Int → List Int → Int → Int → Int → Int → List Int → Int → Int → List Int → Int → Int → Option (Int × Int × List Int × Int × Int × List Int × Int × Int × Bool)
 | 0, _, _, _, _, _, _, _, _, _, _, _, _, _, _, _, _, _ => none
 | k + 1, x24, x145000, x145001, x145002, x145003, x145004, x145005, x145006, x145007, x146000, x146001, x146002, x146003, x146004, x146005, x146006, x146007 => if x24 = true then (some (0, 0, ([] : List Int), 0, 0, ([] : List Int), 0, 0, false)) else ((impl_both.f k x145002 x146002).bind fun bt150 => ((impl_both.f k x145005 x146005).bind fun bt154 => (if bt150.2 = true then (if bt154.2 = true then (if (mx x145003 x146003) > (mn x145004 x146004) then (some (0, 0, ([] : List Int), 0, 0, ([] : List Int), 0, 0, false)) else (some (x145000, x145001, bt150.1, mx x145003 x146003, mn x145004 x146004, bt154.1, mx x145006 x146006, mx (mx x145006 x146006) (mn x145007 x146007), true))) else (some (0, 0, ([] : List Int), 0, 0, ([] : List Int), 0, 0, false))) else (some (0, 0, ([] : List Int), 0, 0, ([] : List Int), 0, 0, false)))))
def impl_Sharpen.f (k : Nat) (a0_0 : Int) (a0_1 : Int) (l0_2 : List Int) (a0_3 : Int) (a0_4 : Int) (l0_5 : List Int) (a0_6 : Int) (a0_7 : Int) (a1_0 : Int) (a1_1 : Int) (l1_2 : List Int) (a1_3 : Int) (a1_4 : Int) (l1_5 : List Int) (a1_6 : Int) (a1_7 : Int) : Option (Int × Int × List Int × Int × Int × List Int × Int × Int × Bool) := (impl_IsReport.f k a0_0 a0_1 l0_2 a0_3 a0_4 l0_5 a0_6 a0_7).bind fun t147 => (if t147 = true then ((impl_IsReport.f k a1_0 a1_1 l1_2 a1_3 a1_4 l1_5 a1_6 a1_7).bind fun t148 => (if t148 = true then (impl_Sharpen.j0 k (a0_1 != a1_1) a0_0 a0_1 l0_2 a0_3 a0_4 l0_5 a0_6 a0_7 a1_0 a1_1 l1_2 a1_3 a1_4 l1_5 a1_6 a1_7) else (impl_Sharpen.j0 k true a0_0 a0_1 l0_2 a0_3 a0_4 l0_5 a0_6 a0_7 a1_0 a1_1 l1_2 a1_3 a1_4 l1_5 a1_6 a1_7))) else (impl_Sharpen.j0 k true a0_0 a0_1 l0_2 a0_3 a0_4 l0_5 a0_6 a0_7 a1_0 a1_1 l1_2 a1_3 a1_4 l1_5 a1_6 a1_7))
theorem impl_Sharpen.mono_l : ∀ k, (∀ y0 y1 y2 y3 y4 y5 y6 y7 y8 y9 y10 y11 y12 y13 y14 y15 y16, LeO (impl_Sharpen.j0 k y0 y1 y2 y3 y4 y5 y6 y7 y8 y9 y10 y11 y12 y13 y14 y15 y16) (impl_Sharpen.j0 (k + 1) y0 y1 y2 y3 y4 y5 y6 y7 y8 y9 y10 y11 y12 y13 y14 y15 y16))
 | 0 => fun _ _ _ _ _ _ _ _ _ _ _ _ _ _ _ _ _ r h => by simp [impl_Sharpen.j0] at h
 | k + 1 => by
  have ih0 := impl_Sharpen.mono_l k
  ·
   intro y0 y1 y2 y3 y4 y5 y6 y7 y8 y9 y10 y11 y12 y13 y14 y15 y16
   unfold impl_Sharpen.j0
   have jh0 := @impl_IsReport.mono
   have jh1 := @impl_both.mono
   exact mo_
theorem impl_Sharpen.mono : ∀ a0 a1 a2 a3 a4 a5 a6 a7 a8 a9 a10 a11 a12 a13 a14 a15 k, LeO (impl_Sharpen.f k a0 a1 a2 a3 a4 a5 a6 a7 a8 a9 a10 a11 a12 a13 a14 a15) (impl_Sharpen.f (k + 1) a0 a1 a2 a3 a4 a5 a6 a7 a8 a9 a10 a11 a12 a13 a14 a15) := by
 intro a0 a1 a2 a3 a4 a5 a6 a7 a8 a9 a10 a11 a12 a13 a14 a15 k
 have ih0 := impl_Sharpen.mono_l k
 unfold impl_Sharpen.f
 have jh0 := @impl_IsReport.mono
 have jh1 := @impl_both.mono
 exact mo_
def impl_Sharpen.T6 : Bool × List (List Nat × List Nat) := (true, [([], []), ([0], [0]), ([], []), ([2], [2]), ([1, 3], [1, 3]), ([], []), ([5], [5]), ([], []), ([7], [7]), ([6, 8], [6, 8]), ([0, 1, 2, 3, 4], []), ([10, 4, 0, 1, 2, 3, 4], [4, 10]), ([0, 1, 2, 3, 4, 5, 6, 7, 8, 9, 10, 11], []), ([12, 9, 11, 0, 1, 2, 3, 4, 5, 6, 7, 8, 9, 10, 11], [9, 12])])
def impl_Sharpen.B6 : List Nat := [0, 1, 0, 4, 15, 0, 32, 0, 128, 480, 31, 1055, 4095, 8191]
theorem impl_Sharpen.tab6 : rtab .any (opsOf Try.f51 6) = impl_Sharpen.T6 := by kernel_rfl
theorem impl_Sharpen.bits6 : waitsOk impl_Sharpen.T6.2 impl_Sharpen.B6 = true := by kernel_rfl
abbrev M1_0 := bm_ 14 0
abbrev M1_1 := bm_ 14 1
abbrev M1_2 := bm_ 14 5
abbrev M1_3 := bm_ 14 37
abbrev M1_4 := bm_ 14 165
abbrev M1_5 := bm_ 14 167
abbrev M1_6 := bm_ 14 175
abbrev M1_7 := bm_ 14 191
abbrev M1_8 := bm_ 14 1215
abbrev M1_9 := bm_ 14 1279
abbrev M1_10 := bm_ 14 1535
abbrev M1_11 := bm_ 14 2047
abbrev M1_12 := bm_ 14 4095
abbrev M1_13 := bm_ 14 8191
abbrev M1_14 := bm_ 14 16383
theorem P1_1 {α : Type} (l : List α) (i : Nat) (a : α) : l.toArray.setIfInBounds i a = (l.set i a).toArray := List.setIfInBounds_toArray l i a
theorem P1_2 {α : Type} (x : α) (l : List α) (a : α) : (x :: l).set 0 a = a :: l := List.set_cons_zero
theorem P1_3 {α : Type} (x : α) (l : List α) (n : Nat) (a : α) : (x :: l).set (n + 1) a = x :: l.set n a := List.set_cons_succ
set_option maxHeartbeats 8000000 in
set_option maxRecDepth 100000 in
theorem impl_Sharpen.calls (k : Nat) (a0_0 : Int) (a0_1 : Int) (A0_2 : Option Addr) (c0_2 : Nat) (l0_2 : List Int) (a0_3 : Int) (a0_4 : Int) (A0_5 : Option Addr) (c0_5 : Nat) (l0_5 : List Int) (a0_6 : Int) (a0_7 : Int) (a1_0 : Int) (a1_1 : Int) (A1_2 : Option Addr) (c1_2 : Nat) (l1_2 : List Int) (a1_3 : Int) (a1_4 : Int) (A1_5 : Option Addr) (c1_5 : Nat) (l1_5 : List Int) (a1_6 : Int) (a1_7 : Int) (r1 : Int) (r2 : Int) (r3 : List Int) (r4 : Int) (r5 : Int) (r6 : List Int) (r7 : Int) (r8 : Int) (r9 : Bool) (w : World) (hr0_2 : Kd.C (Kd.int .i64) w A0_2 l0_2.length l0_2) (hc0_2 : l0_2.length ≤ c0_2) (hr0_5 : Kd.C (Kd.int .i64) w A0_5 l0_5.length l0_5) (hc0_5 : l0_5.length ≤ c0_5) (hr1_2 : Kd.C (Kd.int .i64) w A1_2 l1_2.length l1_2) (hc1_2 : l1_2.length ≤ c1_2) (hr1_5 : Kd.C (Kd.int .i64) w A1_5 l1_5.length l1_5) (hc1_5 : l1_5.length ≤ c1_5) (h : impl_Sharpen.f k a0_0 a0_1 l0_2 a0_3 a0_4 l0_5 a0_6 a0_7 a1_0 a1_1 l1_2 a1_3 a1_4 l1_5 a1_6 a1_7 = some (r1, r2, r3, r4, r5, r6, r7, r8, r9)) :
  Calls Try.prog 51 #[.agg #[.int .i64 a0_0, .int .i64 a0_1, .slice A0_2 l0_2.length c0_2, .int .i64 a0_3, .int .i64 a0_4, .slice A0_5 l0_5.length c0_5, .int .i64 a0_6, .int .i64 a0_7], .agg #[.int .i64 a1_0, .int .i64 a1_1, .slice A1_2 l1_2.length c1_2, .int .i64 a1_3, .int .i64 a1_4, .slice A1_5 l1_5.length c1_5, .int .i64 a1_6, .int .i64 a1_7]] w fun e w' => ∃ v2_ v5_ : Value, e = .returned (.tuple #[.agg #[.int .i64 r1, .int .i64 r2, v2_, .int .i64 r4, .int .i64 r5, v5_, .int .i64 r7, .int .i64 r8], .bool r9]) ∧ Kd.R (Kd.int .i64) 3 w' w.heap.size (fun k_ => some k_ ≠ (v5_ : Value).ownBlock) v2_ r3 ∧ Kd.R (Kd.int .i64) 3 w' w.heap.size (fun k_ => some k_ ≠ (v2_ : Value).ownBlock) v5_ r6 ∧ Below w.heap.size w w' := by
 have hu41 := Try.underlying41
 have hu39 := Try.underlying39
 have HR0_2 := o_ hr0_2
 have HC0_2 := o_ hc0_2
 clear hr0_2 hc0_2
 have HR0_5 := o_ hr0_5
 have HC0_5 := o_ hc0_5
 clear hr0_5 hc0_5
 have HR1_2 := o_ hr1_2
 have HC1_2 := o_ hc1_2
 clear hr1_2 hc1_2
 have HR1_5 := o_ hr1_5
 have HC1_5 := o_ hc1_5
 clear hr1_5 hc1_5
 have HB := o_ (Below.refl w.heap.size w)
 have H := h
 unfold impl_Sharpen.f at H
 clear h
 have HC3 := o_ H
 clear H
 go_enter Try.func51, Try.ntmps51
 go_upto_region 1 with (first | ((with_reducible refine gate_dst (N := 2) rfl ?_); refine bx_ 2 #[.int .i64 a0_0, .int .i64 a0_1, .slice A0_2 l0_2.length c0_2, .int .i64 a0_3, .int .i64 a0_4, .slice A0_5 l0_5.length c0_5, .int .i64 a0_6, .int .i64 a0_7] 41 ?_; intro gb144 hg w4 hbox hb; have BK144 := o_ (hbox); have GW144 := o_ ((by rw [hg]; exact (below_size (hd_ HB.1)) : w.heap.size ≤ gb144)); replace HB := o_ (below_step (hd_ HB.1) hb); have GE144 := GW144; clear hb hbox hg) | ((with_reducible refine gate_dst (N := 3) rfl ?_); refine bx_ 3 #[.int .i64 a1_0, .int .i64 a1_1, .slice A1_2 l1_2.length c1_2, .int .i64 a1_3, .int .i64 a1_4, .slice A1_5 l1_5.length c1_5, .int .i64 a1_6, .int .i64 a1_7] 41 ?_; intro gb145 hg w5 hbox hb; have BK145 := o_ (hbox); have GW145 := o_ ((by rw [hg]; exact (below_size wb_) : w.heap.size ≤ gb145)); replace HB := o_ (below_step wb_ hb); have GE145 := GW145; have NB144_145 := o_ ((y59_ : gb144 ≠ gb145)); have NB145_144 := o_ ((y60_ : gb145 ≠ gb144)); replace BK144 := o_ (blk_below (bd_ BK144.1) hb); clear hb hbox hg) | ((with_reducible refine gate_dst (N := 4) rfl ?_); refine bx_ 4 #[.int .i64 0, .int .i64 0, .slice none 0 0, .int .i64 0, .int .i64 0, .slice none 0 0, .int .i64 0, .int .i64 0] 41 ?_; intro gb146 hg w6 hbox hb; have BK146 := o_ (hbox); have GW146 := o_ ((by rw [hg]; exact (below_size wb_) : w.heap.size ≤ gb146)); replace HB := o_ (below_step wb_ hb); have GE146 := GW146; have NB144_146 := o_ ((y59_ : gb144 ≠ gb146)); have NB146_144 := o_ ((y60_ : gb146 ≠ gb144)); replace BK144 := o_ (blk_below (bd_ BK144.1) hb); have NB145_146 := o_ ((y62_ : gb145 ≠ gb146)); have NB146_145 := o_ ((y63_ : gb146 ≠ gb145)); replace BK145 := o_ (blk_below (bd_ BK145.1) hb); clear hb hbox hg))
 (try simp only [Act.put, List.setIfInBounds_toArray, List.set_cons_zero, List.set_cons_succ])
 go_cut [24] (fun v24 wc => ∃ (kq : Nat) (x24_2 : Bool), v24 = .bool x24_2 ∧ Aside0 (impl_Sharpen.j0 kq x24_2 a0_0 a0_1 l0_2 a0_3 a0_4 l0_5 a0_6 a0_7 a1_0 a1_1 l1_2 a1_3 a1_4 l1_5 a1_6 a1_7 = some (r1, r2, r3, r4, r5, r6, r7, r8, r9)) ∧ Aside0 (kq ≤ k) ∧ Aside0 (wc.heap[gb144]? = some (.cells #[.int .i64 a0_0, .int .i64 a0_1, (.slice A0_2 l0_2.length c0_2), .int .i64 a0_3, .int .i64 a0_4, (.slice A0_5 l0_5.length c0_5), .int .i64 a0_6, .int .i64 a0_7] 41 (0, 0))) ∧ Aside0 (wc.heap[gb145]? = some (.cells #[.int .i64 a1_0, .int .i64 a1_1, (.slice A1_2 l1_2.length c1_2), .int .i64 a1_3, .int .i64 a1_4, (.slice A1_5 l1_5.length c1_5), .int .i64 a1_6, .int .i64 a1_7] 41 (0, 0))) ∧ Aside0 (wc.heap[gb146]? = some (.cells #[.int .i64 0, .int .i64 0, (.slice none 0 0), .int .i64 0, .int .i64 0, (.slice none 0 0), .int .i64 0, .int .i64 0] 41 (0, 0))) ∧ Aside0 (Below w.heap.size w wc))
 case first =>
  have H := HC3.1
  clear HC3
  obtain ⟨t147, A7, H⟩ := ob_ H
  try dsimp only at H
  by_cases c8 : t147 = true
  ·
   subst c8
   have H1 := H
   rw [if_pos rfl] at H1
   clear H
   have H := H1
   clear H1
   obtain ⟨t148, A9, H⟩ := ob_ H
   try dsimp only at H
   by_cases c10 : t148 = true
   ·
    subst c10
    have H1 := H
    rw [if_pos rfl] at H1
    clear H
    have H := H1
    clear H1
    have H' := o_ H
    clear H
    have hnb11 := NB144_145.1
    have hnc11 := NB145_144.1
    have hnb12 := NB144_146.1
    have hnc12 := NB146_144.1
    obtain ⟨_, _, _, _, _, _, _, _⟩ := e6_ BK144.1
    obtain ⟨_, _, _, _, _, _, _, _⟩ := z5_ BK144.1
    go_wp2_with (first | ((with_reducible refine g_ 80 ?_); refine gl_ (some 11) Try.func80 #[.agg #[.int .i64 a0_0, .int .i64 a0_1, .slice A0_2 l0_2.length c0_2, .int .i64 a0_3, .int .i64 a0_4, .slice A0_5 l0_5.length c0_5, .int .i64 a0_6, .int .i64 a0_7]] ?_; (with_reducible refine (impl_IsReport.calls k a0_0 a0_1 _ _ l0_2 a0_3 a0_4 _ _ l0_5 a0_6 a0_7 true _ (cd_ (Kd.C_below HR0_2.1 HB.1)) HC0_2.1 (cd_ (Kd.C_below HR0_5.1 HB.1)) HC0_5.1 A7.1).mono ?_); rintro e w14 ⟨rfl, hb⟩; refine ⟨_, rfl, ?_⟩; replace BK144 := o_ (blk_below (bd_ BK144.1) hb); replace BK145 := o_ (blk_below (bd_ BK145.1) hb); replace BK146 := o_ (blk_below (bd_ BK146.1) hb); replace HB := o_ (below_step wb_ hb); (try clear hb); have hnb15 := NB145_146.1; have hnc15 := NB146_145.1; obtain ⟨_, _, _, _, _, _, _, _⟩ := e6_ BK145.1; obtain ⟨_, _, _, _, _, _, _, _⟩ := z5_ BK145.1) | (go_at_call 80; (with_reducible refine (impl_IsReport.calls k a1_0 a1_1 _ _ l1_2 a1_3 a1_4 _ _ l1_5 a1_6 a1_7 true _ (cd_ (Kd.C_below HR1_2.1 HB.1)) HC1_2.1 (cd_ (Kd.C_below HR1_5.1 HB.1)) HC1_5.1 A9.1).mono ?_); rintro e w17 ⟨rfl, hb⟩; replace BK144 := o_ (blk_below (bd_ BK144.1) hb); replace BK145 := o_ (blk_below (bd_ BK145.1) hb); replace BK146 := o_ (blk_below (bd_ BK146.1) hb); replace HB := o_ (below_step wb_ hb); (try clear hb); obtain ⟨_, _, _, _, _, _, _, _⟩ := e6_ BK144.1; obtain ⟨_, _, _, _, _, _, _, _⟩ := z5_ BK144.1; obtain ⟨_, _, _, _, _, _, _, _⟩ := e6_ BK145.1; obtain ⟨_, _, _, _, _, _, _, _⟩ := z5_ BK145.1))
    go_meet
    case rel => exact ⟨_, ((a0_1 != a1_1)), rs_, H', ⟨by first | omega | exact Nat.le_refl _⟩, ⟨bd_ BK144.1⟩, ⟨bd_ BK145.1⟩, ⟨bd_ BK146.1⟩, ⟨wb_⟩⟩
   ·
    replace c10 := Bool.eq_false_iff.mpr c10
    subst c10
    have H1 := H
    rw [if_neg nt_] at H1
    clear H
    have H := H1
    clear H1
    have H' := o_ H
    clear H
    have hnb20 := NB144_145.1
    have hnc20 := NB145_144.1
    have hnb21 := NB144_146.1
    have hnc21 := NB146_144.1
    obtain ⟨_, _, _, _, _, _, _, _⟩ := e6_ BK144.1
    obtain ⟨_, _, _, _, _, _, _, _⟩ := z5_ BK144.1
    go_wp2_with (first | ((with_reducible refine g_ 80 ?_); refine gl_ (some 11) Try.func80 #[.agg #[.int .i64 a0_0, .int .i64 a0_1, .slice A0_2 l0_2.length c0_2, .int .i64 a0_3, .int .i64 a0_4, .slice A0_5 l0_5.length c0_5, .int .i64 a0_6, .int .i64 a0_7]] ?_; (with_reducible refine (impl_IsReport.calls k a0_0 a0_1 _ _ l0_2 a0_3 a0_4 _ _ l0_5 a0_6 a0_7 true _ (cd_ (Kd.C_below HR0_2.1 HB.1)) HC0_2.1 (cd_ (Kd.C_below HR0_5.1 HB.1)) HC0_5.1 A7.1).mono ?_); rintro e w23 ⟨rfl, hb⟩; refine ⟨_, rfl, ?_⟩; replace BK144 := o_ (blk_below (bd_ BK144.1) hb); replace BK145 := o_ (blk_below (bd_ BK145.1) hb); replace BK146 := o_ (blk_below (bd_ BK146.1) hb); replace HB := o_ (below_step wb_ hb); (try clear hb); have hnb24 := NB145_146.1; have hnc24 := NB146_145.1; obtain ⟨_, _, _, _, _, _, _, _⟩ := e6_ BK145.1; obtain ⟨_, _, _, _, _, _, _, _⟩ := z5_ BK145.1) | (go_at_call 80; (with_reducible refine (impl_IsReport.calls k a1_0 a1_1 _ _ l1_2 a1_3 a1_4 _ _ l1_5 a1_6 a1_7 false _ (cd_ (Kd.C_below HR1_2.1 HB.1)) HC1_2.1 (cd_ (Kd.C_below HR1_5.1 HB.1)) HC1_5.1 A9.1).mono ?_); rintro e w26 ⟨rfl, hb⟩; replace BK144 := o_ (blk_below (bd_ BK144.1) hb); replace BK145 := o_ (blk_below (bd_ BK145.1) hb); replace BK146 := o_ (blk_below (bd_ BK146.1) hb); replace HB := o_ (below_step wb_ hb); (try clear hb)))
    go_meet
    case rel => exact ⟨_, (true), rs_, H', ⟨by first | omega | exact Nat.le_refl _⟩, ⟨bd_ BK144.1⟩, ⟨bd_ BK145.1⟩, ⟨bd_ BK146.1⟩, ⟨wb_⟩⟩
  ·
   replace c8 := Bool.eq_false_iff.mpr c8
   subst c8
   have H1 := H
   rw [if_neg nt_] at H1
   clear H
   have H := H1
   clear H1
   have H' := o_ H
   clear H
   have hnb27 := NB144_145.1
   have hnc27 := NB145_144.1
   have hnb28 := NB144_146.1
   have hnc28 := NB146_144.1
   obtain ⟨_, _, _, _, _, _, _, _⟩ := e6_ BK144.1
   obtain ⟨_, _, _, _, _, _, _, _⟩ := z5_ BK144.1
   go_wp2_with (first | ((with_reducible refine g_ 80 ?_); refine gl_ (some 11) Try.func80 #[.agg #[.int .i64 a0_0, .int .i64 a0_1, .slice A0_2 l0_2.length c0_2, .int .i64 a0_3, .int .i64 a0_4, .slice A0_5 l0_5.length c0_5, .int .i64 a0_6, .int .i64 a0_7]] ?_; (with_reducible refine (impl_IsReport.calls k a0_0 a0_1 _ _ l0_2 a0_3 a0_4 _ _ l0_5 a0_6 a0_7 false _ (cd_ (Kd.C_below HR0_2.1 HB.1)) HC0_2.1 (cd_ (Kd.C_below HR0_5.1 HB.1)) HC0_5.1 A7.1).mono ?_); rintro e w30 ⟨rfl, hb⟩; refine ⟨_, rfl, ?_⟩; replace BK144 := o_ (blk_below (bd_ BK144.1) hb); replace BK145 := o_ (blk_below (bd_ BK145.1) hb); replace BK146 := o_ (blk_below (bd_ BK146.1) hb); replace HB := o_ (below_step wb_ hb); (try clear hb)))
   go_meet
   case rel => exact ⟨_, (true), rs_, H', ⟨by first | omega | exact Nat.le_refl _⟩, ⟨bd_ BK144.1⟩, ⟨bd_ BK145.1⟩, ⟨bd_ BK146.1⟩, ⟨wb_⟩⟩
 case rest =>
  clear HC3
  try clear c1
  try clear c2
  try clear p2
  try clear c5
  try clear c8
  try clear c10
  try clear c11
  try clear c12
  try clear c15
  try clear c20
  try clear c21
  try clear c24
  try clear c27
  try clear c28
  obtain ⟨kq, x24_2, rfl, HA, HJ2, BK144, BK145, BK146, HB⟩ := hcut
  cases kq with
  | zero => exact absurd HA.1 (by simp [impl_Sharpen.j0])
  | succ kj2 =>
   have H := HA.1
   clear HA
   simp only [impl_Sharpen.j0] at H
   by_cases c31 : x24_2 = true
   ·
    subst c31
    have H1 := H
    rw [if_pos rfl] at H1
    clear H
    have H := H1
    clear H1
    simp only [Option.some.injEq, Prod.mk.injEq] at H
    obtain ⟨rfl, rfl, rfl, rfl, rfl, rfl, rfl, rfl, rfl⟩ := H
    have hnb32 := NB146_144.1
    have hnc32 := NB144_146.1
    have hnb33 := NB146_145.1
    have hnc33 := NB145_146.1
    obtain ⟨_, _, _, _, _, _, _, _⟩ := e6_ BK146.1
    obtain ⟨_, _, _, _, _, _, _, _⟩ := z5_ BK146.1
    go_wp2
    refine bodyPost_ret (results_ct rfl _ _ gb146 41 #[.int .i64 0, .int .i64 0, .slice none 0 0, .int .i64 0, .int .i64 0, .slice none 0 0, .int .i64 0, .int .i64 0] (0, 0) _ rfl (bk_ BK146.1) Try.underlying41 rfl (by kernel_rfl)) rfl ?_
    exact ⟨_, _, rt_, by first | exact Kd.R_nil _ _ _ _ _ | exact Kd.N_nil _ _ _ _ _ | exact Kd.V_nil _ _ _ _ _ | exact Kd.Q_nil _ _ _ _ _ | exact Kd.S_nil _ _ _ _ _, by first | exact Kd.R_nil _ _ _ _ _ | exact Kd.N_nil _ _ _ _ _ | exact Kd.V_nil _ _ _ _ _ | exact Kd.Q_nil _ _ _ _ _ | exact Kd.S_nil _ _ _ _ _, wb_⟩
   ·
    replace c31 := Bool.eq_false_iff.mpr c31
    subst c31
    have H1 := H
    rw [if_neg nt_] at H1
    clear H
    have H := H1
    clear H1
    obtain ⟨⟨t150, t151⟩, A35, H⟩ := ob_ H
    try dsimp only at H
    obtain ⟨⟨t154, t155⟩, A36, H⟩ := ob_ H
    try dsimp only at H
    obtain ⟨ji37, hji37⟩ : ∃ j_ : Int, (mx a0_3 a1_3) = j_ := ⟨_, rfl⟩
    replace H : (if t151 = true then (if t155 = true then (if (ji37) > (mn a0_4 a1_4) then (some (0, 0, ([] : List Int), 0, 0, ([] : List Int), 0, 0, false)) else (some (a0_0, a0_1, t150, ji37, mn a0_4 a1_4, t154, mx a0_6 a1_6, mx (mx a0_6 a1_6) (mn a0_7 a1_7), true))) else (some (0, 0, ([] : List Int), 0, 0, ([] : List Int), 0, 0, false))) else (some (0, 0, ([] : List Int), 0, 0, ([] : List Int), 0, 0, false))) = some (r1, r2, r3, r4, r5, r6, r7, r8, r9) := by first | (rw [hji37] at H; exact H) | (simp only [hji37] at H ⊢; exact H)
    (try rw [hji37] at A35)
    (try rw [hji37] at A36)
    have hji37_ : (if a0_3 < a1_3 then a1_3 else a0_3) = ji37 := hji37
    obtain ⟨ji38, hji38⟩ : ∃ j_ : Int, (mn a0_4 a1_4) = j_ := ⟨_, rfl⟩
    replace H : (if t151 = true then (if t155 = true then (if (ji37) > (ji38) then (some (0, 0, ([] : List Int), 0, 0, ([] : List Int), 0, 0, false)) else (some (a0_0, a0_1, t150, ji37, ji38, t154, mx a0_6 a1_6, mx (mx a0_6 a1_6) (mn a0_7 a1_7), true))) else (some (0, 0, ([] : List Int), 0, 0, ([] : List Int), 0, 0, false))) else (some (0, 0, ([] : List Int), 0, 0, ([] : List Int), 0, 0, false))) = some (r1, r2, r3, r4, r5, r6, r7, r8, r9) := by first | (rw [hji38] at H; exact H) | (simp only [hji38] at H ⊢; exact H)
    (try rw [hji38] at A35)
    (try rw [hji38] at A36)
    have hji38_ : (if a1_4 < a0_4 then a1_4 else a0_4) = ji38 := hji38
    by_cases c39 : t151 = true
    ·
     subst c39
     have H1 := H
     rw [if_pos rfl] at H1
     clear H
     have H := H1
     clear H1
     by_cases c40 : t155 = true
     ·
      subst c40
      have H1 := H
      rw [if_pos rfl] at H1
      clear H
      have H := H1
      clear H1
      by_cases c41 : (ji37) > (ji38)
      ·
       rw [if_pos c41] at H
       have c41b0 := decide_eq_true c41
       clear c41
       simp only [Option.some.injEq, Prod.mk.injEq] at H
       obtain ⟨rfl, rfl, rfl, rfl, rfl, rfl, rfl, rfl, rfl⟩ := H
       have hnb42 := NB144_145.1
       have hnc42 := NB145_144.1
       have hnb43 := NB144_146.1
       have hnc43 := NB146_144.1
       obtain ⟨_, _, _, _, _, _, _, _⟩ := e6_ BK144.1
       obtain ⟨_, _, _, _, _, _, _, _⟩ := z5_ BK144.1
       try go_wp2_with (first | ((with_reducible refine gate_dst (N := 6) rfl ?_); refine bx_ 6 #[.int .i64 0, .int .i64 0, .slice none 0 0, .int .i64 0, .int .i64 0, .slice none 0 0, .int .i64 0, .int .i64 0] 41 ?_; intro gb149 hg w45 hbox hb; have BK149 := o_ (hbox); have GW149 := o_ ((y73e_ : w.heap.size ≤ gb149)); replace HB := o_ (below_step wb_ hb); have GE149 := GW149; have NB144_149 := o_ ((y59_ : gb144 ≠ gb149)); have NB149_144 := o_ ((y60_ : gb149 ≠ gb144)); replace BK144 := o_ (blk_below (bd_ BK144.1) hb); have NB145_149 := o_ ((y62_ : gb145 ≠ gb149)); have NB149_145 := o_ ((y63_ : gb149 ≠ gb145)); replace BK145 := o_ (blk_below (bd_ BK145.1) hb); have NB146_149 := o_ ((y66_ : gb146 ≠ gb149)); have NB149_146 := o_ ((y67_ : gb149 ≠ gb146)); replace BK146 := o_ (blk_below (bd_ BK146.1) hb); clear hb hbox hg; have hnb46 := NB149_144.1; have hnc46 := NB144_149.1; have hnb47 := NB149_145.1; have hnc47 := NB145_149.1; have hnb48 := NB149_146.1; have hnc48 := NB146_149.1; obtain ⟨_, _, _, _, _, _, _, _⟩ := e6_ BK149.1; obtain ⟨_, _, _, _, _, _, _, _⟩ := z5_ BK149.1; obtain ⟨_, _, _, _, _, _, _, _⟩ := e6_ BK144.1; obtain ⟨_, _, _, _, _, _, _, _⟩ := z5_ BK144.1; have hnb51 := NB145_146.1; have hnc51 := NB146_145.1; obtain ⟨_, _, _, _, _, _, _, _⟩ := e6_ BK145.1; obtain ⟨_, _, _, _, _, _, _, _⟩ := z5_ BK145.1) | ((with_reducible refine g_ 81 ?_); refine gl_ (some 32) Try.func81 #[.slice A0_2 l0_2.length c0_2, .slice A1_2 l1_2.length c1_2] ?_; (with_reducible refine (impl_both.calls kj2 _ _ l0_2 _ _ l1_2 t150 true _ (Kd.C_below HR0_2.1 wb_) HC0_2.1 (Kd.C_below HR1_2.1 wb_) HC1_2.1 A35.1).mono ?_); rintro e w53 ⟨v152, rfl, ho0, hb⟩; refine ⟨_, rfl, ?_⟩; have HO153 := o_ (Kd.R_lower ho0 (below_size wb_)); replace BK144 := o_ (blk_below (g := gb144) (o := c7_ a0_0 a0_1 A0_2 l0_2.length c0_2 a0_3 a0_4 A0_5 l0_5.length c0_5 a0_6 a0_7) (bk_ BK144.1) hb); replace BK145 := o_ (blk_below (g := gb145) (o := c7_ a1_0 a1_1 A1_2 l1_2.length c1_2 a1_3 a1_4 A1_5 l1_5.length c1_5 a1_6 a1_7) (bk_ BK145.1) hb); replace BK146 := o_ (blk_below (g := gb146) (o := c7_ 0 0 none 0 0 0 0 none 0 0 0 0) (bk_ BK146.1) hb); replace BK149 := o_ (blk_below (g := gb149) (o := c7_ a0_0 a0_1 A0_2 l0_2.length c0_2 a0_3 a0_4 A0_5 l0_5.length c0_5 a0_6 a0_7) (bk_ BK149.1) hb); replace HB := o_ (below_step wb_ hb); (try clear hb ho0); obtain ⟨Ao54, co54, eo54⟩ := Kd.R_slice HO153.1; subst eo54; obtain ⟨_, _, _, _, _, _, _, _⟩ := e6_ BK149.1; obtain ⟨_, _, _, _, _, _, _, _⟩ := z5_ BK149.1; obtain ⟨_, _, _, _, _, _, _, _⟩ := e6_ BK144.1; obtain ⟨_, _, _, _, _, _, _, _⟩ := z5_ BK144.1; obtain ⟨_, _, _, _, _, _, _, _⟩ := e6_ BK145.1; obtain ⟨_, _, _, _, _, _, _, _⟩ := z5_ BK145.1) | ((with_reducible refine g_ 81 ?_); refine gl_ (some 41) Try.func81 #[.slice A0_5 l0_5.length c0_5, .slice A1_5 l1_5.length c1_5] ?_; (with_reducible refine (impl_both.calls kj2 _ _ l0_5 _ _ l1_5 t154 true _ (Kd.C_below HR0_5.1 wb_) HC0_5.1 (Kd.C_below HR1_5.1 wb_) HC1_5.1 A36.1).mono ?_); rintro e w58 ⟨v156, rfl, ho0, hb⟩; refine ⟨_, rfl, ?_⟩; have HO157 := o_ (Kd.R_lower (Kd.R_new' ho0 (Kd.R_lt (rf_ (R2_ HO153.1 BK149.1) (fun _ h_ => h_.1)))) (below_size wb_)); replace HO153 := o_ (Kd.R_elder' (rf_ (R2_ HO153.1 BK149.1) (fun _ h_ => h_.1)) (Kd.R_base ho0) hb); replace BK144 := o_ (blk_below (g := gb144) (o := c7_ a0_0 a0_1 A0_2 l0_2.length c0_2 a0_3 a0_4 A0_5 l0_5.length c0_5 a0_6 a0_7) (bk_ BK144.1) hb); replace BK145 := o_ (blk_below (g := gb145) (o := c7_ a1_0 a1_1 A1_2 l1_2.length c1_2 a1_3 a1_4 A1_5 l1_5.length c1_5 a1_6 a1_7) (bk_ BK145.1) hb); replace BK146 := o_ (blk_below (g := gb146) (o := c7_ 0 0 none 0 0 0 0 none 0 0 0 0) (bk_ BK146.1) hb); replace BK149 := o_ (blk_below (g := gb149) (o := c7_ a0_0 a0_1 Ao54 t150.length co54 a0_3 a0_4 A0_5 l0_5.length c0_5 a0_6 a0_7) (bk_ BK149.1) hb); replace HB := o_ (below_step wb_ hb); (try clear hb ho0); obtain ⟨Ao59, co59, eo59⟩ := Kd.R_slice HO157.1; subst eo59; obtain ⟨_, _, _, _, _, _, _, _⟩ := e6_ BK149.1; obtain ⟨_, _, _, _, _, _, _, _⟩ := z5_ BK149.1))
       generalize hw_ : (w58.setCell ⟨gb149, 5, none⟩ (.slice Ao59 t154.length co59)) = w61
       replace HO153 : Aside0 (Kd.R (Kd.int .i64) 3 w61 w.heap.size (fun k_ => some k_ ≠ (.slice Ao59 t154.length co59 : Value).ownBlock) (.slice Ao54 t150.length co54) t150) := ⟨by rw [← hw_]; exact rf_ (R2_ HO153.1 BK149.1) (fun _ hk => hk.1.2)⟩
       replace HO157 : Aside0 (Kd.R (Kd.int .i64) 3 w61 w.heap.size (fun k_ => some k_ ≠ (.slice Ao54 t150.length co54 : Value).ownBlock) (.slice Ao59 t154.length co59) t154) := ⟨by rw [← hw_]; exact rf_ (R2_ HO157.1 BK149.1) (fun _ hk => hk.1.2)⟩
       replace BK144 : Aside0 (w61.heap[gb144]? = some (c7_ a0_0 a0_1 A0_2 l0_2.length c0_2 a0_3 a0_4 A0_5 l0_5.length c0_5 a0_6 a0_7)) := ⟨by rw [← hw_]; exact bk_ BK144.1⟩
       replace BK145 : Aside0 (w61.heap[gb145]? = some (c7_ a1_0 a1_1 A1_2 l1_2.length c1_2 a1_3 a1_4 A1_5 l1_5.length c1_5 a1_6 a1_7)) := ⟨by rw [← hw_]; exact bk_ BK145.1⟩
       replace BK146 : Aside0 (w61.heap[gb146]? = some (c7_ 0 0 none 0 0 0 0 none 0 0 0 0)) := ⟨by rw [← hw_]; exact bk_ BK146.1⟩
       replace BK149 : Aside0 (w61.heap[gb149]? = some (c7_ a0_0 a0_1 Ao54 t150.length co54 a0_3 a0_4 Ao59 t154.length co59 a0_6 a0_7)) := ⟨by rw [← hw_]; exact bk_ BK149.1⟩
       replace HB : Aside0 (Below w.heap.size w w61) := ⟨by rw [← hw_]; exact wb_⟩
       clear hw_
       replace HO153 := o_ (Kd.R_drew HO153.1)
       replace HO157 := o_ (Kd.R_drew HO157.1)
       replace BK144 := o_ (blk_drew BK144.1)
       replace BK145 := o_ (blk_drew BK145.1)
       replace BK146 := o_ (blk_drew BK146.1)
       replace BK149 := o_ (blk_drew BK149.1)
       replace HB := o_ (below_drew1 HB.1)
       refine start_ (n := 14) (S := fun w' => q1_ w' gb144 a0_0 a0_1 A0_2 l0_2.length c0_2 a0_3 a0_4 A0_5 l0_5.length c0_5 a0_6 a0_7 (q1e_ w' gb145 a1_0 a1_1 A1_2 l1_2.length c1_2 a1_3 a1_4 A1_5 l1_5.length c1_5 a1_6 a1_7)) (ds := []) M1_0 (by kernel_rfl) rfl rfl (k1_ BK144.1 (k1e_ BK145.1)) (fun hHeld => ?_); refine with_tabW impl_Sharpen.tab6 impl_Sharpen.bits6 (fun HT_ HW_ => ?_)
       generalize w61.drew = w62 at HO153 HO157 BK144 BK145 BK146 BK149 HB hHeld ⊢
       refine pu_ 0 (some 45) M1_1 HT_ ?_
       refine pu_ 2 (some 47) M1_2 HT_ ?_
       refine pu_ 5 (some 50) M1_3 HT_ ?_
       refine pu_ 7 (some 52) M1_4 HT_ ?_
       refine tk_ 1 (some 46) M1_5 HT_ HW_ hHeld ?_
       refine tk_ 3 (some 48) M1_6 HT_ HW_ hHeld ?_
       refine pu_ 4 (some 49) M1_7 HT_ ?_
       refine pu_ 10 (some 55) M1_8 HT_ ?_
       refine tk_ 6 (some 51) M1_9 HT_ HW_ hHeld ?_
       refine tk_ 8 (some 53) M1_10 HT_ HW_ hHeld ?_
       refine pu_ 9 (some 54) M1_11 HT_ ?_
       refine one_ (i := 11) (N := none) M1_12 rfl rfl (one_of HT_.1 (by kernel_rfl)) (by decide) (fun K hK => ?_)
       have hs63 : w62.cell? ⟨gb149, 3, none⟩ = some (.int .i64 a0_3) := (blk_cell BK149.1 3).trans rfl
       have hfs63 := blk_frozen BK149.1 3
       have hns63_0 := NB144_149.1
       have hns63_1 := NB145_149.1
       have hns63_2 := NB146_149.1
       have hms63_0 := NB149_144.1
       have hms63_1 := NB149_145.1
       have hms63_2 := NB149_146.1
       refine skip_ (w1 := ?_) (by rfl) rfl ?_ ?_
       rotate_left
       ·
        go_simp
        rfl
       refine hK.out _ _ (q1m_ (fun e_ => (cell_far (p := ⟨gb149, _, none⟩) NB144_149.1 _).trans (e_)) (q1em_ (fun e_ => (cell_far (p := ⟨gb149, _, none⟩) NB145_149.1 _).trans (e_))) hHeld) (fun hHeld => ?_)
       clear hK K
       refine pu_ 12 (some 56) M1_13 HT_ ?_
       refine one_ (i := 13) (N := none) M1_14 rfl rfl (one_of HT_.1 (by kernel_rfl)) (by decide) (fun K hK => ?_)
       have hs64 : w62.cell? ⟨gb149, 4, none⟩ = some (.int .i64 a0_4) := (blk_cell BK149.1 4).trans rfl
       have hfs64 := blk_frozen BK149.1 4
       have hns64_0 := NB144_149.1
       have hns64_1 := NB145_149.1
       have hns64_2 := NB146_149.1
       have hms64_0 := NB149_144.1
       have hms64_1 := NB149_145.1
       have hms64_2 := NB149_146.1
       refine skip_ (w1 := ?_) (by rfl) rfl ?_ ?_
       rotate_left
       ·
        go_simp
        rfl
       refine hK.out _ _ (q1m_ (fun e_ => (cell_far (p := ⟨gb149, _, none⟩) NB144_149.1 _).trans (e_)) (q1em_ (fun e_ => (cell_far (p := ⟨gb149, _, none⟩) NB145_149.1 _).trans (e_))) hHeld) (fun hHeld => ?_)
       clear hK K
       refine done_ (done_of HT_.1 (by kernel_rfl)) ?_
       obtain ⟨_, _, _, _, _, _, _, _⟩ := e6_ BK149.1
       obtain ⟨_, _, _, _, _, _, _, _⟩ := z5_ BK149.1
       obtain ⟨_, _, _, _, _, _, _, _⟩ := e6_ BK146.1
       obtain ⟨_, _, _, _, _, _, _, _⟩ := z5_ BK146.1
       try go_wp2
       refine bodyPost_ret (results_ct rfl _ _ gb146 41 #[.int .i64 0, .int .i64 0, .slice none 0 0, .int .i64 0, .int .i64 0, .slice none 0 0, .int .i64 0, .int .i64 0] (0, 0) _ rfl (bk_ BK146.1) Try.underlying41 rfl (by kernel_rfl)) rfl ?_
       exact ⟨_, _, by first | rfl | (simp [errW_none, errW_some] <;> rfl) | (simp only [← hji37, ← hji38]; first | rfl | (simp [errW_none, errW_some] <;> rfl)) | (simp [*, errW_none, errW_some] <;> rfl), by first | exact Kd.R_nil _ _ _ _ _ | exact Kd.N_nil _ _ _ _ _ | exact Kd.V_nil _ _ _ _ _ | exact Kd.Q_nil _ _ _ _ _ | exact Kd.S_nil _ _ _ _ _, by first | exact Kd.R_nil _ _ _ _ _ | exact Kd.N_nil _ _ _ _ _ | exact Kd.V_nil _ _ _ _ _ | exact Kd.Q_nil _ _ _ _ _ | exact Kd.S_nil _ _ _ _ _, wb_⟩
      ·
       rw [if_neg c41] at H
       have c41b0 := decide_eq_false c41
       clear c41
       obtain ⟨ji67, hji67⟩ : ∃ j_ : Int, (mx a0_6 a1_6) = j_ := ⟨_, rfl⟩
       replace H : (some (a0_0, a0_1, t150, ji37, ji38, t154, ji67, mx (ji67) (mn a0_7 a1_7), true)) = some (r1, r2, r3, r4, r5, r6, r7, r8, r9) := by first | (rw [hji67] at H; exact H) | (simp only [hji67] at H ⊢; exact H)
       (try rw [hji67] at A35)
       (try rw [hji67] at A36)
       have hji67_ : (if a0_6 < a1_6 then a1_6 else a0_6) = ji67 := hji67
       obtain ⟨ji68, hji68⟩ : ∃ j_ : Int, (mn a0_7 a1_7) = j_ := ⟨_, rfl⟩
       replace H : (some (a0_0, a0_1, t150, ji37, ji38, t154, ji67, mx (ji67) (ji68), true)) = some (r1, r2, r3, r4, r5, r6, r7, r8, r9) := by first | (rw [hji68] at H; exact H) | (simp only [hji68] at H ⊢; exact H)
       (try rw [hji68] at A35)
       (try rw [hji68] at A36)
       have hji68_ : (if a1_7 < a0_7 then a1_7 else a0_7) = ji68 := hji68
       obtain ⟨ji69, hji69⟩ : ∃ j_ : Int, (mx (ji67) (ji68)) = j_ := ⟨_, rfl⟩
       replace H : (some (a0_0, a0_1, t150, ji37, ji38, t154, ji67, ji69, true)) = some (r1, r2, r3, r4, r5, r6, r7, r8, r9) := by first | (rw [hji69] at H; exact H) | (simp only [hji69] at H ⊢; exact H)
       (try rw [hji69] at A35)
       (try rw [hji69] at A36)
       have hji69_ : (if (ji67) < (ji68) then (ji68) else (ji67)) = ji69 := hji69
       simp only [Option.some.injEq, Prod.mk.injEq] at H
       obtain ⟨rfl, rfl, rfl, rfl, rfl, rfl, rfl, rfl, rfl⟩ := H
       have hnb70 := NB144_145.1
       have hnc70 := NB145_144.1
       have hnb71 := NB144_146.1
       have hnc71 := NB146_144.1
       obtain ⟨_, _, _, _, _, _, _, _⟩ := e6_ BK144.1
       obtain ⟨_, _, _, _, _, _, _, _⟩ := z5_ BK144.1
       try go_wp2_with (first | ((with_reducible refine gate_dst (N := 6) rfl ?_); refine bx_ 6 #[.int .i64 0, .int .i64 0, .slice none 0 0, .int .i64 0, .int .i64 0, .slice none 0 0, .int .i64 0, .int .i64 0] 41 ?_; intro gb149 hg w73 hbox hb; have BK149 := o_ (hbox); have GW149 := o_ ((y73e_ : w.heap.size ≤ gb149)); replace HB := o_ (below_step wb_ hb); have GE149 := GW149; have NB144_149 := o_ ((y59_ : gb144 ≠ gb149)); have NB149_144 := o_ ((y60_ : gb149 ≠ gb144)); replace BK144 := o_ (blk_below (bd_ BK144.1) hb); have NB145_149 := o_ ((y62_ : gb145 ≠ gb149)); have NB149_145 := o_ ((y63_ : gb149 ≠ gb145)); replace BK145 := o_ (blk_below (bd_ BK145.1) hb); have NB146_149 := o_ ((y66_ : gb146 ≠ gb149)); have NB149_146 := o_ ((y67_ : gb149 ≠ gb146)); replace BK146 := o_ (blk_below (bd_ BK146.1) hb); clear hb hbox hg; have hnb74 := NB149_144.1; have hnc74 := NB144_149.1; have hnb75 := NB149_145.1; have hnc75 := NB145_149.1; have hnb76 := NB149_146.1; have hnc76 := NB146_149.1; obtain ⟨_, _, _, _, _, _, _, _⟩ := e6_ BK149.1; obtain ⟨_, _, _, _, _, _, _, _⟩ := z5_ BK149.1; obtain ⟨_, _, _, _, _, _, _, _⟩ := e6_ BK144.1; obtain ⟨_, _, _, _, _, _, _, _⟩ := z5_ BK144.1; have hnb79 := NB145_146.1; have hnc79 := NB146_145.1; obtain ⟨_, _, _, _, _, _, _, _⟩ := e6_ BK145.1; obtain ⟨_, _, _, _, _, _, _, _⟩ := z5_ BK145.1) | ((with_reducible refine g_ 81 ?_); refine gl_ (some 32) Try.func81 #[.slice A0_2 l0_2.length c0_2, .slice A1_2 l1_2.length c1_2] ?_; (with_reducible refine (impl_both.calls kj2 _ _ l0_2 _ _ l1_2 t150 true _ (Kd.C_below HR0_2.1 wb_) HC0_2.1 (Kd.C_below HR1_2.1 wb_) HC1_2.1 A35.1).mono ?_); rintro e w81 ⟨v152, rfl, ho0, hb⟩; refine ⟨_, rfl, ?_⟩; have HO153 := o_ (Kd.R_lower ho0 (below_size wb_)); replace BK144 := o_ (blk_below (g := gb144) (o := c7_ a0_0 a0_1 A0_2 l0_2.length c0_2 a0_3 a0_4 A0_5 l0_5.length c0_5 a0_6 a0_7) (bk_ BK144.1) hb); replace BK145 := o_ (blk_below (g := gb145) (o := c7_ a1_0 a1_1 A1_2 l1_2.length c1_2 a1_3 a1_4 A1_5 l1_5.length c1_5 a1_6 a1_7) (bk_ BK145.1) hb); replace BK146 := o_ (blk_below (g := gb146) (o := c7_ 0 0 none 0 0 0 0 none 0 0 0 0) (bk_ BK146.1) hb); replace BK149 := o_ (blk_below (g := gb149) (o := c7_ a0_0 a0_1 A0_2 l0_2.length c0_2 a0_3 a0_4 A0_5 l0_5.length c0_5 a0_6 a0_7) (bk_ BK149.1) hb); replace HB := o_ (below_step wb_ hb); (try clear hb ho0); obtain ⟨Ao82, co82, eo82⟩ := Kd.R_slice HO153.1; subst eo82; obtain ⟨_, _, _, _, _, _, _, _⟩ := e6_ BK149.1; obtain ⟨_, _, _, _, _, _, _, _⟩ := z5_ BK149.1; obtain ⟨_, _, _, _, _, _, _, _⟩ := e6_ BK144.1; obtain ⟨_, _, _, _, _, _, _, _⟩ := z5_ BK144.1; obtain ⟨_, _, _, _, _, _, _, _⟩ := e6_ BK145.1; obtain ⟨_, _, _, _, _, _, _, _⟩ := z5_ BK145.1) | ((with_reducible refine g_ 81 ?_); refine gl_ (some 41) Try.func81 #[.slice A0_5 l0_5.length c0_5, .slice A1_5 l1_5.length c1_5] ?_; (with_reducible refine (impl_both.calls kj2 _ _ l0_5 _ _ l1_5 t154 true _ (Kd.C_below HR0_5.1 wb_) HC0_5.1 (Kd.C_below HR1_5.1 wb_) HC1_5.1 A36.1).mono ?_); rintro e w86 ⟨v156, rfl, ho0, hb⟩; refine ⟨_, rfl, ?_⟩; have HO157 := o_ (Kd.R_lower (Kd.R_new' ho0 (Kd.R_lt (rf_ (R2_ HO153.1 BK149.1) (fun _ h_ => h_.1)))) (below_size wb_)); replace HO153 := o_ (Kd.R_elder' (rf_ (R2_ HO153.1 BK149.1) (fun _ h_ => h_.1)) (Kd.R_base ho0) hb); replace BK144 := o_ (blk_below (g := gb144) (o := c7_ a0_0 a0_1 A0_2 l0_2.length c0_2 a0_3 a0_4 A0_5 l0_5.length c0_5 a0_6 a0_7) (bk_ BK144.1) hb); replace BK145 := o_ (blk_below (g := gb145) (o := c7_ a1_0 a1_1 A1_2 l1_2.length c1_2 a1_3 a1_4 A1_5 l1_5.length c1_5 a1_6 a1_7) (bk_ BK145.1) hb); replace BK146 := o_ (blk_below (g := gb146) (o := c7_ 0 0 none 0 0 0 0 none 0 0 0 0) (bk_ BK146.1) hb); replace BK149 := o_ (blk_below (g := gb149) (o := c7_ a0_0 a0_1 Ao82 t150.length co82 a0_3 a0_4 A0_5 l0_5.length c0_5 a0_6 a0_7) (bk_ BK149.1) hb); replace HB := o_ (below_step wb_ hb); (try clear hb ho0); obtain ⟨Ao87, co87, eo87⟩ := Kd.R_slice HO157.1; subst eo87; obtain ⟨_, _, _, _, _, _, _, _⟩ := e6_ BK149.1; obtain ⟨_, _, _, _, _, _, _, _⟩ := z5_ BK149.1))
       generalize hw_ : (w86.setCell ⟨gb149, 5, none⟩ (.slice Ao87 t154.length co87)) = w89
       replace HO153 : Aside0 (Kd.R (Kd.int .i64) 3 w89 w.heap.size (fun k_ => some k_ ≠ (.slice Ao87 t154.length co87 : Value).ownBlock) (.slice Ao82 t150.length co82) t150) := ⟨by rw [← hw_]; exact rf_ (R2_ HO153.1 BK149.1) (fun _ hk => hk.1.2)⟩
       replace HO157 : Aside0 (Kd.R (Kd.int .i64) 3 w89 w.heap.size (fun k_ => some k_ ≠ (.slice Ao82 t150.length co82 : Value).ownBlock) (.slice Ao87 t154.length co87) t154) := ⟨by rw [← hw_]; exact rf_ (R2_ HO157.1 BK149.1) (fun _ hk => hk.1.2)⟩
       replace BK144 : Aside0 (w89.heap[gb144]? = some (c7_ a0_0 a0_1 A0_2 l0_2.length c0_2 a0_3 a0_4 A0_5 l0_5.length c0_5 a0_6 a0_7)) := ⟨by rw [← hw_]; exact bk_ BK144.1⟩
       replace BK145 : Aside0 (w89.heap[gb145]? = some (c7_ a1_0 a1_1 A1_2 l1_2.length c1_2 a1_3 a1_4 A1_5 l1_5.length c1_5 a1_6 a1_7)) := ⟨by rw [← hw_]; exact bk_ BK145.1⟩
       replace BK146 : Aside0 (w89.heap[gb146]? = some (c7_ 0 0 none 0 0 0 0 none 0 0 0 0)) := ⟨by rw [← hw_]; exact bk_ BK146.1⟩
       replace BK149 : Aside0 (w89.heap[gb149]? = some (c7_ a0_0 a0_1 Ao82 t150.length co82 a0_3 a0_4 Ao87 t154.length co87 a0_6 a0_7)) := ⟨by rw [← hw_]; exact bk_ BK149.1⟩
       replace HB : Aside0 (Below w.heap.size w w89) := ⟨by rw [← hw_]; exact wb_⟩
       clear hw_
       replace HO153 := o_ (Kd.R_drew HO153.1)
       replace HO157 := o_ (Kd.R_drew HO157.1)
       replace BK144 := o_ (blk_drew BK144.1)
       replace BK145 := o_ (blk_drew BK145.1)
       replace BK146 := o_ (blk_drew BK146.1)
       replace BK149 := o_ (blk_drew BK149.1)
       replace HB := o_ (below_drew1 HB.1)
       refine start_ (n := 14) (S := fun w' => q1_ w' gb144 a0_0 a0_1 A0_2 l0_2.length c0_2 a0_3 a0_4 A0_5 l0_5.length c0_5 a0_6 a0_7 (q1e_ w' gb145 a1_0 a1_1 A1_2 l1_2.length c1_2 a1_3 a1_4 A1_5 l1_5.length c1_5 a1_6 a1_7)) (ds := []) M1_0 (by kernel_rfl) rfl rfl (k1_ BK144.1 (k1e_ BK145.1)) (fun hHeld => ?_); refine with_tabW impl_Sharpen.tab6 impl_Sharpen.bits6 (fun HT_ HW_ => ?_)
       generalize w89.drew = w90 at HO153 HO157 BK144 BK145 BK146 BK149 HB hHeld ⊢
       refine pu_ 0 (some 45) M1_1 HT_ ?_
       refine pu_ 2 (some 47) M1_2 HT_ ?_
       refine pu_ 5 (some 50) M1_3 HT_ ?_
       refine pu_ 7 (some 52) M1_4 HT_ ?_
       refine tk_ 1 (some 46) M1_5 HT_ HW_ hHeld ?_
       refine tk_ 3 (some 48) M1_6 HT_ HW_ hHeld ?_
       refine pu_ 4 (some 49) M1_7 HT_ ?_
       refine pu_ 10 (some 55) M1_8 HT_ ?_
       refine tk_ 6 (some 51) M1_9 HT_ HW_ hHeld ?_
       refine tk_ 8 (some 53) M1_10 HT_ HW_ hHeld ?_
       refine pu_ 9 (some 54) M1_11 HT_ ?_
       refine one_ (i := 11) (N := none) M1_12 rfl rfl (one_of HT_.1 (by kernel_rfl)) (by decide) (fun K hK => ?_)
       have hs91 : w90.cell? ⟨gb149, 3, none⟩ = some (.int .i64 a0_3) := (blk_cell BK149.1 3).trans rfl
       have hfs91 := blk_frozen BK149.1 3
       have hns91_0 := NB144_149.1
       have hns91_1 := NB145_149.1
       have hns91_2 := NB146_149.1
       have hms91_0 := NB149_144.1
       have hms91_1 := NB149_145.1
       have hms91_2 := NB149_146.1
       refine skip_ (w1 := ?_) (by rfl) rfl ?_ ?_
       rotate_left
       ·
        go_simp
        rfl
       refine hK.out _ _ (q1m_ (fun e_ => (cell_far (p := ⟨gb149, _, none⟩) NB144_149.1 _).trans (e_)) (q1em_ (fun e_ => (cell_far (p := ⟨gb149, _, none⟩) NB145_149.1 _).trans (e_))) hHeld) (fun hHeld => ?_)
       clear hK K
       refine pu_ 12 (some 56) M1_13 HT_ ?_
       refine one_ (i := 13) (N := none) M1_14 rfl rfl (one_of HT_.1 (by kernel_rfl)) (by decide) (fun K hK => ?_)
       have hs92 : w90.cell? ⟨gb149, 4, none⟩ = some (.int .i64 a0_4) := (blk_cell BK149.1 4).trans rfl
       have hfs92 := blk_frozen BK149.1 4
       have hns92_0 := NB144_149.1
       have hns92_1 := NB145_149.1
       have hns92_2 := NB146_149.1
       have hms92_0 := NB149_144.1
       have hms92_1 := NB149_145.1
       have hms92_2 := NB149_146.1
       refine skip_ (w1 := ?_) (by rfl) rfl ?_ ?_
       rotate_left
       ·
        go_simp
        rfl
       refine hK.out _ _ (q1m_ (fun e_ => (cell_far (p := ⟨gb149, _, none⟩) NB144_149.1 _).trans (e_)) (q1em_ (fun e_ => (cell_far (p := ⟨gb149, _, none⟩) NB145_149.1 _).trans (e_))) hHeld) (fun hHeld => ?_)
       clear hK K
       refine done_ (done_of HT_.1 (by kernel_rfl)) ?_
       obtain ⟨_, _, _, _, _, _, _, _⟩ := e6_ BK149.1
       obtain ⟨_, _, _, _, _, _, _, _⟩ := z5_ BK149.1
       obtain ⟨_, _, _, _, _, _, _, _⟩ := e6_ BK144.1
       obtain ⟨_, _, _, _, _, _, _, _⟩ := z5_ BK144.1
       obtain ⟨_, _, _, _, _, _, _, _⟩ := e6_ BK145.1
       obtain ⟨_, _, _, _, _, _, _, _⟩ := z5_ BK145.1
       obtain ⟨_, _, _, _, _, _, _, _⟩ := e6_ BK146.1
       obtain ⟨_, _, _, _, _, _, _, _⟩ := z5_ BK146.1
       try go_wp2
       refine bodyPost_ret (results_ct rfl _ _ gb146 41 #[.int .i64 a0_0, .int .i64 a0_1, .slice Ao82 t150.length co82, .int .i64 ji37, .int .i64 ji38, .slice Ao87 t154.length co87, .int .i64 ji67, .int .i64 ji69] (0, 0) _ rfl (bk_ BK146.1) Try.underlying41 rfl (by kernel_rfl)) rfl ?_
       exact ⟨_, _, by first | rfl | (simp [errW_none, errW_some] <;> rfl) | (simp only [← hji37, ← hji38, ← hji67, ← hji68, ← hji69]; first | rfl | (simp [errW_none, errW_some] <;> rfl)) | (simp [*, errW_none, errW_some] <;> rfl), rf_ (R2_ (R2_ HO153.1 BK149.1) BK146.1) (fun _ hk => hk.1.1), rf_ (R2_ (R2_ HO157.1 BK149.1) BK146.1) (fun _ hk => hk.1.1), wb_⟩
     ·
      replace c40 := Bool.eq_false_iff.mpr c40
      subst c40
      have H1 := H
      rw [if_neg nt_] at H1
      clear H
      have H := H1
      clear H1
      simp only [Option.some.injEq, Prod.mk.injEq] at H
      obtain ⟨rfl, rfl, rfl, rfl, rfl, rfl, rfl, rfl, rfl⟩ := H
      have hnb97 := NB144_145.1
      have hnc97 := NB145_144.1
      have hnb98 := NB144_146.1
      have hnc98 := NB146_144.1
      obtain ⟨_, _, _, _, _, _, _, _⟩ := e6_ BK144.1
      obtain ⟨_, _, _, _, _, _, _, _⟩ := z5_ BK144.1
      try go_wp2_with (first | ((with_reducible refine gate_dst (N := 6) rfl ?_); refine bx_ 6 #[.int .i64 0, .int .i64 0, .slice none 0 0, .int .i64 0, .int .i64 0, .slice none 0 0, .int .i64 0, .int .i64 0] 41 ?_; intro gb149 hg w100 hbox hb; have BK149 := o_ (hbox); have GW149 := o_ ((y73e_ : w.heap.size ≤ gb149)); replace HB := o_ (below_step wb_ hb); have GE149 := GW149; have NB144_149 := o_ ((y59_ : gb144 ≠ gb149)); have NB149_144 := o_ ((y60_ : gb149 ≠ gb144)); replace BK144 := o_ (blk_below (bd_ BK144.1) hb); have NB145_149 := o_ ((y62_ : gb145 ≠ gb149)); have NB149_145 := o_ ((y63_ : gb149 ≠ gb145)); replace BK145 := o_ (blk_below (bd_ BK145.1) hb); have NB146_149 := o_ ((y66_ : gb146 ≠ gb149)); have NB149_146 := o_ ((y67_ : gb149 ≠ gb146)); replace BK146 := o_ (blk_below (bd_ BK146.1) hb); clear hb hbox hg; have hnb101 := NB149_144.1; have hnc101 := NB144_149.1; have hnb102 := NB149_145.1; have hnc102 := NB145_149.1; have hnb103 := NB149_146.1; have hnc103 := NB146_149.1; obtain ⟨_, _, _, _, _, _, _, _⟩ := e6_ BK149.1; obtain ⟨_, _, _, _, _, _, _, _⟩ := z5_ BK149.1; obtain ⟨_, _, _, _, _, _, _, _⟩ := e6_ BK144.1; obtain ⟨_, _, _, _, _, _, _, _⟩ := z5_ BK144.1; have hnb106 := NB145_146.1; have hnc106 := NB146_145.1; obtain ⟨_, _, _, _, _, _, _, _⟩ := e6_ BK145.1; obtain ⟨_, _, _, _, _, _, _, _⟩ := z5_ BK145.1) | ((with_reducible refine g_ 81 ?_); refine gl_ (some 32) Try.func81 #[.slice A0_2 l0_2.length c0_2, .slice A1_2 l1_2.length c1_2] ?_; (with_reducible refine (impl_both.calls kj2 _ _ l0_2 _ _ l1_2 t150 true _ (Kd.C_below HR0_2.1 wb_) HC0_2.1 (Kd.C_below HR1_2.1 wb_) HC1_2.1 A35.1).mono ?_); rintro e w108 ⟨v152, rfl, ho0, hb⟩; refine ⟨_, rfl, ?_⟩; have HO153 := o_ (Kd.R_lower ho0 (below_size wb_)); replace BK144 := o_ (blk_below (g := gb144) (o := c7_ a0_0 a0_1 A0_2 l0_2.length c0_2 a0_3 a0_4 A0_5 l0_5.length c0_5 a0_6 a0_7) (bk_ BK144.1) hb); replace BK145 := o_ (blk_below (g := gb145) (o := c7_ a1_0 a1_1 A1_2 l1_2.length c1_2 a1_3 a1_4 A1_5 l1_5.length c1_5 a1_6 a1_7) (bk_ BK145.1) hb); replace BK146 := o_ (blk_below (g := gb146) (o := c7_ 0 0 none 0 0 0 0 none 0 0 0 0) (bk_ BK146.1) hb); replace BK149 := o_ (blk_below (g := gb149) (o := c7_ a0_0 a0_1 A0_2 l0_2.length c0_2 a0_3 a0_4 A0_5 l0_5.length c0_5 a0_6 a0_7) (bk_ BK149.1) hb); replace HB := o_ (below_step wb_ hb); (try clear hb ho0); obtain ⟨Ao109, co109, eo109⟩ := Kd.R_slice HO153.1; subst eo109; obtain ⟨_, _, _, _, _, _, _, _⟩ := e6_ BK149.1; obtain ⟨_, _, _, _, _, _, _, _⟩ := z5_ BK149.1; obtain ⟨_, _, _, _, _, _, _, _⟩ := e6_ BK144.1; obtain ⟨_, _, _, _, _, _, _, _⟩ := z5_ BK144.1; obtain ⟨_, _, _, _, _, _, _, _⟩ := e6_ BK145.1; obtain ⟨_, _, _, _, _, _, _, _⟩ := z5_ BK145.1) | ((with_reducible refine g_ 81 ?_); refine gl_ (some 41) Try.func81 #[.slice A0_5 l0_5.length c0_5, .slice A1_5 l1_5.length c1_5] ?_; (with_reducible refine (impl_both.calls kj2 _ _ l0_5 _ _ l1_5 t154 false _ (Kd.C_below HR0_5.1 wb_) HC0_5.1 (Kd.C_below HR1_5.1 wb_) HC1_5.1 A36.1).mono ?_); rintro e w113 ⟨v156, rfl, ho0, hb⟩; refine ⟨_, rfl, ?_⟩; have HO157 := o_ (Kd.R_lower (Kd.R_new' ho0 (Kd.R_lt (rf_ (R2_ HO153.1 BK149.1) (fun _ h_ => h_.1)))) (below_size wb_)); replace HO153 := o_ (Kd.R_elder' (rf_ (R2_ HO153.1 BK149.1) (fun _ h_ => h_.1)) (Kd.R_base ho0) hb); replace BK144 := o_ (blk_below (g := gb144) (o := c7_ a0_0 a0_1 A0_2 l0_2.length c0_2 a0_3 a0_4 A0_5 l0_5.length c0_5 a0_6 a0_7) (bk_ BK144.1) hb); replace BK145 := o_ (blk_below (g := gb145) (o := c7_ a1_0 a1_1 A1_2 l1_2.length c1_2 a1_3 a1_4 A1_5 l1_5.length c1_5 a1_6 a1_7) (bk_ BK145.1) hb); replace BK146 := o_ (blk_below (g := gb146) (o := c7_ 0 0 none 0 0 0 0 none 0 0 0 0) (bk_ BK146.1) hb); replace BK149 := o_ (blk_below (g := gb149) (o := c7_ a0_0 a0_1 Ao109 t150.length co109 a0_3 a0_4 A0_5 l0_5.length c0_5 a0_6 a0_7) (bk_ BK149.1) hb); replace HB := o_ (below_step wb_ hb); (try clear hb ho0); obtain ⟨Ao114, co114, eo114⟩ := Kd.R_slice HO157.1; subst eo114; obtain ⟨_, _, _, _, _, _, _, _⟩ := e6_ BK149.1; obtain ⟨_, _, _, _, _, _, _, _⟩ := z5_ BK149.1))
      generalize hw_ : (w113.setCell ⟨gb149, 5, none⟩ (.slice Ao114 t154.length co114)) = w116
      replace HO153 : Aside0 (Kd.R (Kd.int .i64) 3 w116 w.heap.size (fun k_ => some k_ ≠ (.slice Ao114 t154.length co114 : Value).ownBlock) (.slice Ao109 t150.length co109) t150) := ⟨by rw [← hw_]; exact rf_ (R2_ HO153.1 BK149.1) (fun _ hk => hk.1.2)⟩
      replace HO157 : Aside0 (Kd.R (Kd.int .i64) 3 w116 w.heap.size (fun k_ => some k_ ≠ (.slice Ao109 t150.length co109 : Value).ownBlock) (.slice Ao114 t154.length co114) t154) := ⟨by rw [← hw_]; exact rf_ (R2_ HO157.1 BK149.1) (fun _ hk => hk.1.2)⟩
      replace BK144 : Aside0 (w116.heap[gb144]? = some (c7_ a0_0 a0_1 A0_2 l0_2.length c0_2 a0_3 a0_4 A0_5 l0_5.length c0_5 a0_6 a0_7)) := ⟨by rw [← hw_]; exact bk_ BK144.1⟩
      replace BK145 : Aside0 (w116.heap[gb145]? = some (c7_ a1_0 a1_1 A1_2 l1_2.length c1_2 a1_3 a1_4 A1_5 l1_5.length c1_5 a1_6 a1_7)) := ⟨by rw [← hw_]; exact bk_ BK145.1⟩
      replace BK146 : Aside0 (w116.heap[gb146]? = some (c7_ 0 0 none 0 0 0 0 none 0 0 0 0)) := ⟨by rw [← hw_]; exact bk_ BK146.1⟩
      replace BK149 : Aside0 (w116.heap[gb149]? = some (c7_ a0_0 a0_1 Ao109 t150.length co109 a0_3 a0_4 Ao114 t154.length co114 a0_6 a0_7)) := ⟨by rw [← hw_]; exact bk_ BK149.1⟩
      replace HB : Aside0 (Below w.heap.size w w116) := ⟨by rw [← hw_]; exact wb_⟩
      clear hw_
      replace HO153 := o_ (Kd.R_drew HO153.1)
      replace HO157 := o_ (Kd.R_drew HO157.1)
      replace BK144 := o_ (blk_drew BK144.1)
      replace BK145 := o_ (blk_drew BK145.1)
      replace BK146 := o_ (blk_drew BK146.1)
      replace BK149 := o_ (blk_drew BK149.1)
      replace HB := o_ (below_drew1 HB.1)
      refine start_ (n := 14) (S := fun w' => q1_ w' gb144 a0_0 a0_1 A0_2 l0_2.length c0_2 a0_3 a0_4 A0_5 l0_5.length c0_5 a0_6 a0_7 (q1e_ w' gb145 a1_0 a1_1 A1_2 l1_2.length c1_2 a1_3 a1_4 A1_5 l1_5.length c1_5 a1_6 a1_7)) (ds := []) M1_0 (by kernel_rfl) rfl rfl (k1_ BK144.1 (k1e_ BK145.1)) (fun hHeld => ?_); refine with_tabW impl_Sharpen.tab6 impl_Sharpen.bits6 (fun HT_ HW_ => ?_)
      generalize w116.drew = w117 at HO153 HO157 BK144 BK145 BK146 BK149 HB hHeld ⊢
      refine pu_ 0 (some 45) M1_1 HT_ ?_
      refine pu_ 2 (some 47) M1_2 HT_ ?_
      refine pu_ 5 (some 50) M1_3 HT_ ?_
      refine pu_ 7 (some 52) M1_4 HT_ ?_
      refine tk_ 1 (some 46) M1_5 HT_ HW_ hHeld ?_
      refine tk_ 3 (some 48) M1_6 HT_ HW_ hHeld ?_
      refine pu_ 4 (some 49) M1_7 HT_ ?_
      refine pu_ 10 (some 55) M1_8 HT_ ?_
      refine tk_ 6 (some 51) M1_9 HT_ HW_ hHeld ?_
      refine tk_ 8 (some 53) M1_10 HT_ HW_ hHeld ?_
      refine pu_ 9 (some 54) M1_11 HT_ ?_
      refine one_ (i := 11) (N := none) M1_12 rfl rfl (one_of HT_.1 (by kernel_rfl)) (by decide) (fun K hK => ?_)
      have hs118 : w117.cell? ⟨gb149, 3, none⟩ = some (.int .i64 a0_3) := (blk_cell BK149.1 3).trans rfl
      have hfs118 := blk_frozen BK149.1 3
      have hns118_0 := NB144_149.1
      have hns118_1 := NB145_149.1
      have hns118_2 := NB146_149.1
      have hms118_0 := NB149_144.1
      have hms118_1 := NB149_145.1
      have hms118_2 := NB149_146.1
      refine skip_ (w1 := ?_) (by rfl) rfl ?_ ?_
      rotate_left
      ·
       go_simp
       rfl
      refine hK.out _ _ (q1m_ (fun e_ => (cell_far (p := ⟨gb149, _, none⟩) NB144_149.1 _).trans (e_)) (q1em_ (fun e_ => (cell_far (p := ⟨gb149, _, none⟩) NB145_149.1 _).trans (e_))) hHeld) (fun hHeld => ?_)
      clear hK K
      refine pu_ 12 (some 56) M1_13 HT_ ?_
      refine one_ (i := 13) (N := none) M1_14 rfl rfl (one_of HT_.1 (by kernel_rfl)) (by decide) (fun K hK => ?_)
      have hs119 : w117.cell? ⟨gb149, 4, none⟩ = some (.int .i64 a0_4) := (blk_cell BK149.1 4).trans rfl
      have hfs119 := blk_frozen BK149.1 4
      have hns119_0 := NB144_149.1
      have hns119_1 := NB145_149.1
      have hns119_2 := NB146_149.1
      have hms119_0 := NB149_144.1
      have hms119_1 := NB149_145.1
      have hms119_2 := NB149_146.1
      refine skip_ (w1 := ?_) (by rfl) rfl ?_ ?_
      rotate_left
      ·
       go_simp
       rfl
      refine hK.out _ _ (q1m_ (fun e_ => (cell_far (p := ⟨gb149, _, none⟩) NB144_149.1 _).trans (e_)) (q1em_ (fun e_ => (cell_far (p := ⟨gb149, _, none⟩) NB145_149.1 _).trans (e_))) hHeld) (fun hHeld => ?_)
      clear hK K
      refine done_ (done_of HT_.1 (by kernel_rfl)) ?_
      obtain ⟨_, _, _, _, _, _, _, _⟩ := e6_ BK146.1
      obtain ⟨_, _, _, _, _, _, _, _⟩ := z5_ BK146.1
      try go_wp2
      refine bodyPost_ret (results_ct rfl _ _ gb146 41 #[.int .i64 0, .int .i64 0, .slice none 0 0, .int .i64 0, .int .i64 0, .slice none 0 0, .int .i64 0, .int .i64 0] (0, 0) _ rfl (bk_ BK146.1) Try.underlying41 rfl (by kernel_rfl)) rfl ?_
      exact ⟨_, _, by first | rfl | (simp [errW_none, errW_some] <;> rfl) | (simp only [← hji37, ← hji38]; first | rfl | (simp [errW_none, errW_some] <;> rfl)) | (simp [*, errW_none, errW_some] <;> rfl), by first | exact Kd.R_nil _ _ _ _ _ | exact Kd.N_nil _ _ _ _ _ | exact Kd.V_nil _ _ _ _ _ | exact Kd.Q_nil _ _ _ _ _ | exact Kd.S_nil _ _ _ _ _, by first | exact Kd.R_nil _ _ _ _ _ | exact Kd.N_nil _ _ _ _ _ | exact Kd.V_nil _ _ _ _ _ | exact Kd.Q_nil _ _ _ _ _ | exact Kd.S_nil _ _ _ _ _, wb_⟩
    ·
     replace c39 := Bool.eq_false_iff.mpr c39
     subst c39
     have H1 := H
     rw [if_neg nt_] at H1
     clear H
     have H := H1
     clear H1
     simp only [Option.some.injEq, Prod.mk.injEq] at H
     obtain ⟨rfl, rfl, rfl, rfl, rfl, rfl, rfl, rfl, rfl⟩ := H
     have hnb121 := NB144_145.1
     have hnc121 := NB145_144.1
     have hnb122 := NB144_146.1
     have hnc122 := NB146_144.1
     obtain ⟨_, _, _, _, _, _, _, _⟩ := e6_ BK144.1
     obtain ⟨_, _, _, _, _, _, _, _⟩ := z5_ BK144.1
     try go_wp2_with (first | ((with_reducible refine gate_dst (N := 6) rfl ?_); refine bx_ 6 #[.int .i64 0, .int .i64 0, .slice none 0 0, .int .i64 0, .int .i64 0, .slice none 0 0, .int .i64 0, .int .i64 0] 41 ?_; intro gb149 hg w124 hbox hb; have BK149 := o_ (hbox); have GW149 := o_ ((y73e_ : w.heap.size ≤ gb149)); replace HB := o_ (below_step wb_ hb); have GE149 := GW149; have NB144_149 := o_ ((y59_ : gb144 ≠ gb149)); have NB149_144 := o_ ((y60_ : gb149 ≠ gb144)); replace BK144 := o_ (blk_below (bd_ BK144.1) hb); have NB145_149 := o_ ((y62_ : gb145 ≠ gb149)); have NB149_145 := o_ ((y63_ : gb149 ≠ gb145)); replace BK145 := o_ (blk_below (bd_ BK145.1) hb); have NB146_149 := o_ ((y66_ : gb146 ≠ gb149)); have NB149_146 := o_ ((y67_ : gb149 ≠ gb146)); replace BK146 := o_ (blk_below (bd_ BK146.1) hb); clear hb hbox hg; have hnb125 := NB149_144.1; have hnc125 := NB144_149.1; have hnb126 := NB149_145.1; have hnc126 := NB145_149.1; have hnb127 := NB149_146.1; have hnc127 := NB146_149.1; obtain ⟨_, _, _, _, _, _, _, _⟩ := e6_ BK149.1; obtain ⟨_, _, _, _, _, _, _, _⟩ := z5_ BK149.1; obtain ⟨_, _, _, _, _, _, _, _⟩ := e6_ BK144.1; obtain ⟨_, _, _, _, _, _, _, _⟩ := z5_ BK144.1; have hnb130 := NB145_146.1; have hnc130 := NB146_145.1; obtain ⟨_, _, _, _, _, _, _, _⟩ := e6_ BK145.1; obtain ⟨_, _, _, _, _, _, _, _⟩ := z5_ BK145.1) | ((with_reducible refine g_ 81 ?_); refine gl_ (some 32) Try.func81 #[.slice A0_2 l0_2.length c0_2, .slice A1_2 l1_2.length c1_2] ?_; (with_reducible refine (impl_both.calls kj2 _ _ l0_2 _ _ l1_2 t150 false _ (Kd.C_below HR0_2.1 wb_) HC0_2.1 (Kd.C_below HR1_2.1 wb_) HC1_2.1 A35.1).mono ?_); rintro e w132 ⟨v152, rfl, ho0, hb⟩; refine ⟨_, rfl, ?_⟩; have HO153 := o_ (Kd.R_lower ho0 (below_size wb_)); replace BK144 := o_ (blk_below (g := gb144) (o := c7_ a0_0 a0_1 A0_2 l0_2.length c0_2 a0_3 a0_4 A0_5 l0_5.length c0_5 a0_6 a0_7) (bk_ BK144.1) hb); replace BK145 := o_ (blk_below (g := gb145) (o := c7_ a1_0 a1_1 A1_2 l1_2.length c1_2 a1_3 a1_4 A1_5 l1_5.length c1_5 a1_6 a1_7) (bk_ BK145.1) hb); replace BK146 := o_ (blk_below (g := gb146) (o := c7_ 0 0 none 0 0 0 0 none 0 0 0 0) (bk_ BK146.1) hb); replace BK149 := o_ (blk_below (g := gb149) (o := c7_ a0_0 a0_1 A0_2 l0_2.length c0_2 a0_3 a0_4 A0_5 l0_5.length c0_5 a0_6 a0_7) (bk_ BK149.1) hb); replace HB := o_ (below_step wb_ hb); (try clear hb ho0); obtain ⟨Ao133, co133, eo133⟩ := Kd.R_slice HO153.1; subst eo133; obtain ⟨_, _, _, _, _, _, _, _⟩ := e6_ BK149.1; obtain ⟨_, _, _, _, _, _, _, _⟩ := z5_ BK149.1; obtain ⟨_, _, _, _, _, _, _, _⟩ := e6_ BK144.1; obtain ⟨_, _, _, _, _, _, _, _⟩ := z5_ BK144.1; obtain ⟨_, _, _, _, _, _, _, _⟩ := e6_ BK145.1; obtain ⟨_, _, _, _, _, _, _, _⟩ := z5_ BK145.1) | ((with_reducible refine g_ 81 ?_); refine gl_ (some 41) Try.func81 #[.slice A0_5 l0_5.length c0_5, .slice A1_5 l1_5.length c1_5] ?_; (with_reducible refine (impl_both.calls kj2 _ _ l0_5 _ _ l1_5 t154 t155 _ (Kd.C_below HR0_5.1 wb_) HC0_5.1 (Kd.C_below HR1_5.1 wb_) HC1_5.1 A36.1).mono ?_); rintro e w137 ⟨v156, rfl, ho0, hb⟩; refine ⟨_, rfl, ?_⟩; have HO157 := o_ (Kd.R_lower (Kd.R_new' ho0 (Kd.R_lt (rf_ (R2_ HO153.1 BK149.1) (fun _ h_ => h_.1)))) (below_size wb_)); replace HO153 := o_ (Kd.R_elder' (rf_ (R2_ HO153.1 BK149.1) (fun _ h_ => h_.1)) (Kd.R_base ho0) hb); replace BK144 := o_ (blk_below (g := gb144) (o := c7_ a0_0 a0_1 A0_2 l0_2.length c0_2 a0_3 a0_4 A0_5 l0_5.length c0_5 a0_6 a0_7) (bk_ BK144.1) hb); replace BK145 := o_ (blk_below (g := gb145) (o := c7_ a1_0 a1_1 A1_2 l1_2.length c1_2 a1_3 a1_4 A1_5 l1_5.length c1_5 a1_6 a1_7) (bk_ BK145.1) hb); replace BK146 := o_ (blk_below (g := gb146) (o := c7_ 0 0 none 0 0 0 0 none 0 0 0 0) (bk_ BK146.1) hb); replace BK149 := o_ (blk_below (g := gb149) (o := c7_ a0_0 a0_1 Ao133 t150.length co133 a0_3 a0_4 A0_5 l0_5.length c0_5 a0_6 a0_7) (bk_ BK149.1) hb); replace HB := o_ (below_step wb_ hb); (try clear hb ho0); obtain ⟨Ao138, co138, eo138⟩ := Kd.R_slice HO157.1; subst eo138; obtain ⟨_, _, _, _, _, _, _, _⟩ := e6_ BK149.1; obtain ⟨_, _, _, _, _, _, _, _⟩ := z5_ BK149.1))
     generalize hw_ : (w137.setCell ⟨gb149, 5, none⟩ (.slice Ao138 t154.length co138)) = w140
     replace HO153 : Aside0 (Kd.R (Kd.int .i64) 3 w140 w.heap.size (fun k_ => some k_ ≠ (.slice Ao138 t154.length co138 : Value).ownBlock) (.slice Ao133 t150.length co133) t150) := ⟨by rw [← hw_]; exact rf_ (R2_ HO153.1 BK149.1) (fun _ hk => hk.1.2)⟩
     replace HO157 : Aside0 (Kd.R (Kd.int .i64) 3 w140 w.heap.size (fun k_ => some k_ ≠ (.slice Ao133 t150.length co133 : Value).ownBlock) (.slice Ao138 t154.length co138) t154) := ⟨by rw [← hw_]; exact rf_ (R2_ HO157.1 BK149.1) (fun _ hk => hk.1.2)⟩
     replace BK144 : Aside0 (w140.heap[gb144]? = some (c7_ a0_0 a0_1 A0_2 l0_2.length c0_2 a0_3 a0_4 A0_5 l0_5.length c0_5 a0_6 a0_7)) := ⟨by rw [← hw_]; exact bk_ BK144.1⟩
     replace BK145 : Aside0 (w140.heap[gb145]? = some (c7_ a1_0 a1_1 A1_2 l1_2.length c1_2 a1_3 a1_4 A1_5 l1_5.length c1_5 a1_6 a1_7)) := ⟨by rw [← hw_]; exact bk_ BK145.1⟩
     replace BK146 : Aside0 (w140.heap[gb146]? = some (c7_ 0 0 none 0 0 0 0 none 0 0 0 0)) := ⟨by rw [← hw_]; exact bk_ BK146.1⟩
     replace BK149 : Aside0 (w140.heap[gb149]? = some (c7_ a0_0 a0_1 Ao133 t150.length co133 a0_3 a0_4 Ao138 t154.length co138 a0_6 a0_7)) := ⟨by rw [← hw_]; exact bk_ BK149.1⟩
     replace HB : Aside0 (Below w.heap.size w w140) := ⟨by rw [← hw_]; exact wb_⟩
     clear hw_
     replace HO153 := o_ (Kd.R_drew HO153.1)
     replace HO157 := o_ (Kd.R_drew HO157.1)
     replace BK144 := o_ (blk_drew BK144.1)
     replace BK145 := o_ (blk_drew BK145.1)
     replace BK146 := o_ (blk_drew BK146.1)
     replace BK149 := o_ (blk_drew BK149.1)
     replace HB := o_ (below_drew1 HB.1)
     refine start_ (n := 14) (S := fun w' => q1_ w' gb144 a0_0 a0_1 A0_2 l0_2.length c0_2 a0_3 a0_4 A0_5 l0_5.length c0_5 a0_6 a0_7 (q1e_ w' gb145 a1_0 a1_1 A1_2 l1_2.length c1_2 a1_3 a1_4 A1_5 l1_5.length c1_5 a1_6 a1_7)) (ds := []) M1_0 (by kernel_rfl) rfl rfl (k1_ BK144.1 (k1e_ BK145.1)) (fun hHeld => ?_); refine with_tabW impl_Sharpen.tab6 impl_Sharpen.bits6 (fun HT_ HW_ => ?_)
     generalize w140.drew = w141 at HO153 HO157 BK144 BK145 BK146 BK149 HB hHeld ⊢
     refine pu_ 0 (some 45) M1_1 HT_ ?_
     refine pu_ 2 (some 47) M1_2 HT_ ?_
     refine pu_ 5 (some 50) M1_3 HT_ ?_
     refine pu_ 7 (some 52) M1_4 HT_ ?_
     refine tk_ 1 (some 46) M1_5 HT_ HW_ hHeld ?_
     refine tk_ 3 (some 48) M1_6 HT_ HW_ hHeld ?_
     refine pu_ 4 (some 49) M1_7 HT_ ?_
     refine pu_ 10 (some 55) M1_8 HT_ ?_
     refine tk_ 6 (some 51) M1_9 HT_ HW_ hHeld ?_
     refine tk_ 8 (some 53) M1_10 HT_ HW_ hHeld ?_
     refine pu_ 9 (some 54) M1_11 HT_ ?_
     refine one_ (i := 11) (N := none) M1_12 rfl rfl (one_of HT_.1 (by kernel_rfl)) (by decide) (fun K hK => ?_)
     have hs142 : w141.cell? ⟨gb149, 3, none⟩ = some (.int .i64 a0_3) := (blk_cell BK149.1 3).trans rfl
     have hfs142 := blk_frozen BK149.1 3
     have hns142_0 := NB144_149.1
     have hns142_1 := NB145_149.1
     have hns142_2 := NB146_149.1
     have hms142_0 := NB149_144.1
     have hms142_1 := NB149_145.1
     have hms142_2 := NB149_146.1
     refine skip_ (w1 := ?_) (by rfl) rfl ?_ ?_
     rotate_left
     ·
      go_simp
      rfl
     refine hK.out _ _ (q1m_ (fun e_ => (cell_far (p := ⟨gb149, _, none⟩) NB144_149.1 _).trans (e_)) (q1em_ (fun e_ => (cell_far (p := ⟨gb149, _, none⟩) NB145_149.1 _).trans (e_))) hHeld) (fun hHeld => ?_)
     clear hK K
     refine pu_ 12 (some 56) M1_13 HT_ ?_
     refine one_ (i := 13) (N := none) M1_14 rfl rfl (one_of HT_.1 (by kernel_rfl)) (by decide) (fun K hK => ?_)
     have hs143 : w141.cell? ⟨gb149, 4, none⟩ = some (.int .i64 a0_4) := (blk_cell BK149.1 4).trans rfl
     have hfs143 := blk_frozen BK149.1 4
     have hns143_0 := NB144_149.1
     have hns143_1 := NB145_149.1
     have hns143_2 := NB146_149.1
     have hms143_0 := NB149_144.1
     have hms143_1 := NB149_145.1
     have hms143_2 := NB149_146.1
     refine skip_ (w1 := ?_) (by rfl) rfl ?_ ?_
     rotate_left
     ·
      go_simp
      rfl
     refine hK.out _ _ (q1m_ (fun e_ => (cell_far (p := ⟨gb149, _, none⟩) NB144_149.1 _).trans (e_)) (q1em_ (fun e_ => (cell_far (p := ⟨gb149, _, none⟩) NB145_149.1 _).trans (e_))) hHeld) (fun hHeld => ?_)
     clear hK K
     refine done_ (done_of HT_.1 (by kernel_rfl)) ?_
     obtain ⟨_, _, _, _, _, _, _, _⟩ := e6_ BK146.1
     obtain ⟨_, _, _, _, _, _, _, _⟩ := z5_ BK146.1
     try go_wp2
     refine bodyPost_ret (results_ct rfl _ _ gb146 41 #[.int .i64 0, .int .i64 0, .slice none 0 0, .int .i64 0, .int .i64 0, .slice none 0 0, .int .i64 0, .int .i64 0] (0, 0) _ rfl (bk_ BK146.1) Try.underlying41 rfl (by kernel_rfl)) rfl ?_
     exact ⟨_, _, by first | rfl | (simp [errW_none, errW_some] <;> rfl) | (simp only [← hji37, ← hji38]; first | rfl | (simp [errW_none, errW_some] <;> rfl)) | (simp [*, errW_none, errW_some] <;> rfl), by first | exact Kd.R_nil _ _ _ _ _ | exact Kd.N_nil _ _ _ _ _ | exact Kd.V_nil _ _ _ _ _ | exact Kd.Q_nil _ _ _ _ _ | exact Kd.S_nil _ _ _ _ _, by first | exact Kd.R_nil _ _ _ _ _ | exact Kd.N_nil _ _ _ _ _ | exact Kd.V_nil _ _ _ _ _ | exact Kd.Q_nil _ _ _ _ _ | exact Kd.S_nil _ _ _ _ _, wb_⟩

end Go.Proofs.Ytglpmjcknhcjcaa.PFnTwins
