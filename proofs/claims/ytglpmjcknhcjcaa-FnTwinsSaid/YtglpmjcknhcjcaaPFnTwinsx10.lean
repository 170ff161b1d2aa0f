-- Written for this claim by a program (a printer turned to this claim); Lean checks it.
import Derived.Test.YtglpmjcknhcjcaaPFnTwinsx0
import Derived.Test.YtglpmjcknhcjcaaPFnTwinsx4
namespace Go.Proofs.Ytglpmjcknhcjcaa.PFnTwins
open Go.RowKit Go.Proofs.YtglpmjcknhcjcaaW.PrintWords Go.Proofs.YtglpmjcknhcjcaaW.PrintLast Go.Proofs.YtglpmjcknhcjcaaW.PrintMore
attribute [local go_sem] max2_int min2_int max_two min_two max_three min_three max_four min_four   -- for this text's walks alone
set_option linter.unusedVariables false
set_option linter.unusedSimpArgs false

/-! ### impl_AreReports: function 57 -/
def impl_AreReports.l0 : Nat → List (S41) → List (S41) → Int → Int → Option (Bool)
 | 0, _, _, _, _ => none
 | k + 1, x0, x8, x9, x10 => if x10 < x9 then (if 0 ≤ x10 then (if x10 < (x8.length : Int) then ((impl_IsReport.f k ((rd_T41 x8 x10).f0) ((rd_T41 x8 x10).f1) ((rd_T41 x8 x10).f2) ((rd_T41 x8 x10).f3) ((rd_T41 x8 x10).f4) ((rd_T41 x8 x10).f5) ((rd_T41 x8 x10).f6.f0) ((rd_T41 x8 x10).f6.f1)).bind fun t243 => (if t243 = true then (if x10 > 0 then (if 0 ≤ (wrap64 (x10 - 1)) then (if (wrap64 (x10 - 1)) < (x0.length : Int) then (if ((rd_T41 x8 x10).f0) ≤ ((rd_T41 x0 (wrap64 (x10 - 1))).f0) then (some false) else (impl_AreReports.l0 k x0 x8 x9 (wrap64 (x10 + 1)))) else (none)) else (none)) else (impl_AreReports.l0 k x0 x8 x9 (wrap64 (x10 + 1)))) else (some false))) else (none)) else (none)) else (some true)
def impl_AreReports.f (k : Nat) (l0 : List (S41)) : Option (Bool) := if (l0.length : Int) > 20 then (some false) else (impl_AreReports.l0 k l0 l0 (l0.length : Int) 0)
theorem impl_AreReports.mono_l : ∀ k, (∀ y0 y1 y2 y3, LeO (impl_AreReports.l0 k y0 y1 y2 y3) (impl_AreReports.l0 (k + 1) y0 y1 y2 y3))
 | 0 => fun _ _ _ _ r h => by simp [impl_AreReports.l0] at h
 | k + 1 => by
  have ih0 := impl_AreReports.mono_l k
  ·
   intro y0 y1 y2 y3
   unfold impl_AreReports.l0
   have jh0 := @impl_IsReport.mono
   exact mo_
theorem impl_AreReports.mono : ∀ a0 k, LeO (impl_AreReports.f k a0) (impl_AreReports.f (k + 1) a0) := by
 intro a0 k
 have ih0 := impl_AreReports.mono_l k
 unfold impl_AreReports.f
 have jh0 := @impl_IsReport.mono
 exact mo_
def impl_AreReports.T6 : Bool × List (List Nat × List Nat) := (true, [([], []), ([0], [0]), ([1], [1]), ([2, 1], [2]), ([3], [3]), ([4, 3], [3, 4]), ([5, 3, 3], [3, 5]), ([6], [6]), ([7, 6], [6, 7]), ([6], [6]), ([6], [6]), ([10, 6], [6, 10]), ([9, 11, 6], [6, 9, 11]), ([12, 6], [6, 12]), ([13, 6], [6, 13]), ([8, 14, 6], [6, 8, 14]), ([6, 15, 3], [3, 6, 15]), ([3, 16], [3, 16])])
def impl_AreReports.B6 : List Nat := [0, 1, 3, 7, 15, 31, 63, 127, 255, 127, 127, 1151, 3711, 7807, 15999, 32767, 65535, 131071]
theorem impl_AreReports.tab6 : rtab .any (opsOf Try.f57 6) = impl_AreReports.T6 := by kernel_rfl
theorem impl_AreReports.bits6 : waitsOk impl_AreReports.T6.2 impl_AreReports.B6 = true := by kernel_rfl
abbrev M4_0 := bm_ 18 0
abbrev M4_1 := bm_ 18 1
abbrev M4_2 := bm_ 18 3
abbrev M4_3 := bm_ 18 7
abbrev M4_4 := bm_ 18 15
abbrev M4_5 := bm_ 18 31
abbrev M4_6 := bm_ 18 63
abbrev M4_7 := bm_ 18 127
abbrev M4_8 := bm_ 18 255
abbrev M4_9 := bm_ 18 767
abbrev M4_10 := bm_ 18 1791
abbrev M4_11 := bm_ 18 3839
abbrev M4_12 := bm_ 18 7935
abbrev M4_13 := bm_ 18 16127
abbrev M4_14 := bm_ 18 16383
abbrev M4_15 := bm_ 18 32767
abbrev M4_16 := bm_ 18 65535
abbrev M4_17 := bm_ 18 131071
abbrev M4_18 := bm_ 18 262143
abbrev M4_19 := bm_ 18 511
abbrev M4_20 := bm_ 18 1023
abbrev M4_21 := bm_ 18 2047
abbrev M4_22 := bm_ 18 4095
abbrev M4_23 := bm_ 18 8191
theorem P4_1 {α : Type} (l : List α) (i : Nat) (a : α) : l.toArray.setIfInBounds i a = (l.set i a).toArray := List.setIfInBounds_toArray l i a
theorem P4_2 {α : Type} (x : α) (l : List α) (a : α) : (x :: l).set 0 a = a :: l := List.set_cons_zero
theorem P4_3 {α : Type} (x : α) (l : List α) (n : Nat) (a : α) : (x :: l).set (n + 1) a = x :: l.set n a := List.set_cons_succ
set_option maxHeartbeats 8000000 in
set_option maxRecDepth 100000 in
theorem impl_AreReports.calls (k : Nat) (A0 : Option Addr) (c0 : Nat) (l0 : List (S41)) (r : Bool) (w : World) (hr0 : Kd.C k41 w A0 l0.length l0) (hc0 : l0.length ≤ c0) (h : impl_AreReports.f k l0 = some r) :
  Calls Try.prog 57 #[.slice A0 l0.length c0] w fun e w' => e = .returned (.bool r) ∧ Below w.heap.size w w' := by
 have hu41 := Try.underlying41
 have HR0 := o_ hr0
 have HC0 := o_ hc0
 clear hr0 hc0
 have HB := o_ (Below.refl w.heap.size w)
 have H : (if (l0.length : Int) > 20 then (some false) else (impl_AreReports.l0 k l0 l0 (l0.length : Int) 0)) = some r := h
 clear h
 by_cases c2 : (l0.length : Int) > 20
 ·
  rw [if_pos c2] at H
  have c2b0 := decide_eq_true c2
  have c2b1 : decide (20 < l0.length) = true := decide_eq_true (by omega)
  clear c2
  obtain rfl := Option.some.inj H
  go_enter Try.func57, Try.ntmps57
  go_wp2
  go_ret
  exact ⟨rt_, hd_ HB.1⟩
 ·
  rw [if_neg c2] at H
  have c2b0 := decide_eq_false c2
  have c2b1 : decide (20 < l0.length) = false := decide_eq_false (by omega)
  clear c2
  have H' := o_ H
  clear H
  go_enter Try.func57, Try.ntmps57
  go_wp2
  go_loopg [10] k (fun kq v10 w' => ∃ (x10_1 : Int), v10 = .int .i64 x10_1 ∧ Aside0 (impl_AreReports.l0 kq l0 l0 (l0.length : Int) x10_1 = some r) ∧ Aside0 (kq ≤ k) ∧ Aside0 (Below w.heap.size w w'))
  case atStart => exact ⟨(0), rs_, H', ⟨Nat.le_refl _⟩, ⟨hd_ HB.1⟩⟩
  case round =>
   clear H'
   try clear c2
   try clear c2b0
   try clear c2b1
   try clear p2
   obtain ⟨x10_1, rfl, HA, HK1, HB⟩ := hrel
   cases gk with
   | zero => exact absurd HA.1 (by simp [impl_AreReports.l0])
   | succ k1 =>
    have H := HA.1
    clear HA
    simp only [impl_AreReports.l0] at H
    by_cases c3 : x10_1 < (l0.length : Int)
    ·
     rw [if_pos c3] at H
     have c3b0 := decide_eq_true c3
     clear c3
     by_cases c4 : 0 ≤ x10_1
     ·
      rw [if_pos c4] at H
      have c4b0 := decide_eq_true c4
      clear c4
      by_cases c5 : x10_1 < (l0.length : Int)
      ·
       rw [if_pos c5] at H
       have c5b0 := decide_eq_true c5
       clear c5
       obtain ⟨t243, A6, H⟩ := ob_ H
       try dsimp only at H
       by_cases c7 : t243 = true
       ·
        subst c7
        have H1 := H
        rw [if_pos rfl] at H1
        clear H
        have H := H1
        clear H1
        by_cases c8 : x10_1 > 0
        ·
         rw [if_pos c8] at H
         have c8b0 := decide_eq_true c8
         clear c8
         obtain ⟨ji9, hji9⟩ : ∃ j_ : Int, (wrap64 (x10_1 - 1)) = j_ := ⟨_, rfl⟩
         replace H : (if 0 ≤ (ji9) then (if (ji9) < (l0.length : Int) then (if ((rd_T41 l0 x10_1).f0) ≤ ((rd_T41 l0 (ji9)).f0) then (some false) else (impl_AreReports.l0 k1 l0 l0 (l0.length : Int) (wrap64 (x10_1 + 1)))) else (none)) else (none)) = some r := by first | (rw [hji9] at H; exact H) | (simp only [hji9] at H ⊢; exact H)
         (try rw [hji9] at A6)
         have hji9w : (IntKind.i64.wrap (x10_1 - 1)) = ji9 := (i64_w _).trans hji9
         by_cases c10 : 0 ≤ (ji9)
         ·
          rw [if_pos c10] at H
          have c10b0 := decide_eq_true c10
          clear c10
          by_cases c11 : (ji9) < (l0.length : Int)
          ·
           rw [if_pos c11] at H
           have c11b0 := decide_eq_true c11
           clear c11
           by_cases c12 : ((rd_T41 l0 x10_1).f0) ≤ ((rd_T41 l0 (ji9)).f0)
           ·
            rw [if_pos c12] at H
            have c12b0 := decide_eq_true c12
            clear c12
            obtain rfl := Option.some.inj H
            have p241 : 0 ≤ (x10_1 : Int) := of_decide_eq_true as_
            have q241 : x10_1 < (l0.length : Int) := of_decide_eq_true as_
            obtain ⟨ad241, A241_2, c241_2, A241_5, c241_5, e241, hx241_0, hx241_1, hx241_2, hx241_3, hx241_4, hx241_5, hx241_6, hx241_7, hl241_2, hi241_2, hl241_5, hi241_5⟩ := at_T41 HR0.1 x10_1 p241 q241
            cases e241
            replace hx241_0 := cb_ HB.1 hx241_0
            replace hx241_1 := cb_ HB.1 hx241_1
            replace hx241_2 := cb_ HB.1 hx241_2
            replace hx241_3 := cb_ HB.1 hx241_3
            replace hx241_4 := cb_ HB.1 hx241_4
            replace hx241_5 := cb_ HB.1 hx241_5
            replace hx241_6 := cb_ HB.1 hx241_6
            replace hx241_7 := cb_ HB.1 hx241_7
            have HR241_2 := o_ hi241_2
            have HC241_2 := o_ hl241_2
            clear hi241_2 hl241_2
            have HR241_5 := o_ hi241_5
            have HC241_5 := o_ hl241_5
            clear hi241_5 hl241_5
            replace p241 := eq_true p241
            replace q241 := eq_true q241
            try go_wp2_with (first | ((with_reducible refine gate_dst (N := 4) rfl ?_); refine bx_ 4 #[.int .i64 0, .int .i64 0, .slice none 0 0, .int .i64 0, .int .i64 0, .slice none 0 0, .int .i64 0, .int .i64 0] 41 ?_; intro gb242 hg w13 hbox hb; have BK242 := o_ (hbox); have GW242 := o_ ((y6_ : w.heap.size ≤ gb242)); replace HB := o_ (below_step (hd_ HB.1) hb); have GE242 := GW242; clear hb hbox hg; obtain ⟨_, _, _, _, _, _, _, _⟩ := e6_ BK242.1; obtain ⟨_, _, _, _, _, _, _, _⟩ := z5_ BK242.1))
            generalize hw_ : ((((((((w13.setCell ⟨gb242, 0, none⟩ (.int .i64 ((rd_T41 l0 x10_1).f0))).setCell ⟨gb242, 1, none⟩ (.int .i64 ((rd_T41 l0 x10_1).f1))).setCell ⟨gb242, 2, none⟩ (.slice A241_2 ((rd_T41 l0 x10_1).f2).length c241_2)).setCell ⟨gb242, 3, none⟩ (.int .i64 ((rd_T41 l0 x10_1).f3))).setCell ⟨gb242, 4, none⟩ (.int .i64 ((rd_T41 l0 x10_1).f4))).setCell ⟨gb242, 5, none⟩ (.slice A241_5 ((rd_T41 l0 x10_1).f5).length c241_5)).setCell ⟨gb242, 6, none⟩ (.int .i64 ((rd_T41 l0 x10_1).f6.f0))).setCell ⟨gb242, 7, none⟩ (.int .i64 ((rd_T41 l0 x10_1).f6.f1))) = w15
            replace BK242 : Aside0 (w15.heap[gb242]? = some (c7_ ((rd_T41 l0 x10_1).f0) ((rd_T41 l0 x10_1).f1) A241_2 ((rd_T41 l0 x10_1).f2).length c241_2 ((rd_T41 l0 x10_1).f3) ((rd_T41 l0 x10_1).f4) A241_5 ((rd_T41 l0 x10_1).f5).length c241_5 ((rd_T41 l0 x10_1).f6.f0) ((rd_T41 l0 x10_1).f6.f1))) := ⟨by rw [← hw_]; exact bk_ BK242.1⟩
            replace HB : Aside0 (Below w.heap.size w w15) := ⟨by rw [← hw_]; exact wb_⟩
            clear hw_
            replace BK242 := o_ (blk_drew BK242.1)
            replace HB := o_ (below_drew1 HB.1)
            have p244 : 0 ≤ ((ji9) : Int) := of_decide_eq_true as_
            have q244 : (ji9) < (l0.length : Int) := of_decide_eq_true as_
            obtain ⟨ad244, A244_2, c244_2, A244_5, c244_5, e244, hx244_0, hx244_1, hx244_2, hx244_3, hx244_4, hx244_5, hx244_6, hx244_7, hl244_2, hi244_2, hl244_5, hi244_5⟩ := at_T41 HR0.1 (ji9) p244 q244
            have hw244_7 := hx244_7
            have hw244_6 := hx244_6
            have hw244_5 := hx244_5
            have hw244_4 := hx244_4
            have hw244_3 := hx244_3
            have hw244_2 := hx244_2
            have hw244_1 := hx244_1
            have hw244_0 := hx244_0
            obtain rfl : ad241 = ad244 := (by injection e244)
            replace hx244_0 := cb_ HB.1 hx244_0
            replace hx244_1 := cb_ HB.1 hx244_1
            replace hx244_2 := cb_ HB.1 hx244_2
            replace hx244_3 := cb_ HB.1 hx244_3
            replace hx244_4 := cb_ HB.1 hx244_4
            replace hx244_5 := cb_ HB.1 hx244_5
            replace hx244_6 := cb_ HB.1 hx244_6
            replace hx244_7 := cb_ HB.1 hx244_7
            have HR244_2 := o_ hi244_2
            have HC244_2 := o_ hl244_2
            clear hi244_2 hl244_2
            have HR244_5 := o_ hi244_5
            have HC244_5 := o_ hl244_5
            clear hi244_5 hl244_5
            replace p244 := eq_true p244
            replace q244 := eq_true q244
            refine start_ (n := 18) (S := fun w' => q1_ w' gb242 ((rd_T41 l0 x10_1).f0) ((rd_T41 l0 x10_1).f1) A241_2 ((rd_T41 l0 x10_1).f2).length c241_2 ((rd_T41 l0 x10_1).f3) ((rd_T41 l0 x10_1).f4) A241_5 ((rd_T41 l0 x10_1).f5).length c241_5 ((rd_T41 l0 x10_1).f6.f0) ((rd_T41 l0 x10_1).f6.f1) (q2e_ w' (ad241.add (((ji9)).toNat * 8)) ((rd_T41 l0 (ji9)).f0) ((rd_T41 l0 (ji9)).f1) A244_2 ((rd_T41 l0 (ji9)).f2).length c244_2 ((rd_T41 l0 (ji9)).f3) ((rd_T41 l0 (ji9)).f4) A244_5 ((rd_T41 l0 (ji9)).f5).length c244_5 ((rd_T41 l0 (ji9)).f6.f0) ((rd_T41 l0 (ji9)).f6.f1))) (ds := []) M4_0 (by kernel_rfl) rfl rfl ⟨(blk_cell BK242.1 0).trans rfl, (blk_cell BK242.1 1).trans rfl, (blk_cell BK242.1 2).trans rfl, (blk_cell BK242.1 3).trans rfl, (blk_cell BK242.1 4).trans rfl, (blk_cell BK242.1 5).trans rfl, (blk_cell BK242.1 6).trans rfl, (blk_cell BK242.1 7).trans rfl, (cb_ HB.1 hw244_0), (cb_ HB.1 hw244_1), (cb_ HB.1 hw244_2), (cb_ HB.1 hw244_3), (cb_ HB.1 hw244_4), (cb_ HB.1 hw244_5), (cb_ HB.1 hw244_6), (cb_ HB.1 hw244_7)⟩ (fun hHeld => ?_); refine with_tabW impl_AreReports.tab6 impl_AreReports.bits6 (fun HT_ HW_ => ?_)
            generalize w15.drew = w16 at BK242 HB HR244_2 HR244_5 hx244_0 hx244_1 hx244_2 hx244_3 hx244_4 hx244_5 hx244_6 hx244_7 hHeld ⊢
            refine tk_ 0 (some 15) M4_1 HT_ HW_ hHeld ?_
            refine one_ (i := 1) (N := some 16) M4_2 rfl rfl (one_of HT_.1 (by kernel_rfl)) (by decide) (fun K hK => ?_)
            refine goes_ Try.func80 (by kernel_rfl) rfl #[.agg #[.int .i64 ((rd_T41 l0 x10_1).f0), .int .i64 ((rd_T41 l0 x10_1).f1), .slice A241_2 ((rd_T41 l0 x10_1).f2).length c241_2, .int .i64 ((rd_T41 l0 x10_1).f3), .int .i64 ((rd_T41 l0 x10_1).f4), .slice A241_5 ((rd_T41 l0 x10_1).f5).length c241_5, .int .i64 ((rd_T41 l0 x10_1).f6.f0), .int .i64 ((rd_T41 l0 x10_1).f6.f1)]] (by rfl) rfl rfl ma_ ?_
            with_reducible refine (impl_IsReport.calls k1 ((rd_T41 l0 x10_1).f0) ((rd_T41 l0 x10_1).f1) _ _ ((rd_T41 l0 x10_1).f2) ((rd_T41 l0 x10_1).f3) ((rd_T41 l0 x10_1).f4) _ _ ((rd_T41 l0 x10_1).f5) ((rd_T41 l0 x10_1).f6.f0) ((rd_T41 l0 x10_1).f6.f1) true _ ?side1 ?side2 ?side3 ?side4 A6.1).mono ?_
            (case side1 => exact cd_ (Kd.C_below HR241_2.1 HB.1))
            (case side2 => exact HC241_2.1)
            (case side3 => exact cd_ (Kd.C_below HR241_5.1 HB.1))
            (case side4 => exact HC241_5.1)
            rintro e w17 ⟨rfl, hb⟩
            refine ⟨_, rfl, ?_⟩
            replace BK242 := o_ (blk_below (bd_ BK242.1) hb)
            replace HB := o_ (below_step (wb_) hb)
            (try clear hb)
            (try clear hb2)
            (try clear hk)
            (try clear hi)
            refine hK.out _ _ ⟨(blk_cell BK242.1 0).trans rfl, (blk_cell BK242.1 1).trans rfl, (blk_cell BK242.1 2).trans rfl, (blk_cell BK242.1 3).trans rfl, (blk_cell BK242.1 4).trans rfl, (blk_cell BK242.1 5).trans rfl, (blk_cell BK242.1 6).trans rfl, (blk_cell BK242.1 7).trans rfl, (cb_ HB.1 hw244_0), (cb_ HB.1 hw244_1), (cb_ HB.1 hw244_2), (cb_ HB.1 hw244_3), (cb_ HB.1 hw244_4), (cb_ HB.1 hw244_5), (cb_ HB.1 hw244_6), (cb_ HB.1 hw244_7)⟩ (fun hHeld => ?_)
            clear hK K
            refine norm_ (a' := ?_) ?_ ?_
            rotate_left
            ·
             show Act.put _ (some 16) _ = _
             simp only [Act.put, P4_1, P4_2, P4_3, i64_w, i32_w]
             rfl
            refine pu_ 2 (some 17) M4_3 HT_ ?_
            refine pu_ 3 (some 18) M4_4 HT_ ?_
            refine pu_ 4 (some 19) M4_5 HT_ ?_
            refine pu_ 5 (some 20) M4_6 HT_ ?_
            refine pu_ 6 (some 21) M4_7 HT_ ?_
            refine pu_ 7 (some 22) M4_8 HT_ ?_
            refine pu_ 9 (some 24) M4_9 HT_ ?_
            refine pu_ 10 (some 25) M4_10 HT_ ?_
            refine pu_ 11 (some 26) M4_11 HT_ ?_
            refine pu_ 12 (some 27) M4_12 HT_ ?_
            refine pu_ 13 (some 28) M4_13 HT_ ?_
            refine tk_ 8 (some 23) M4_14 HT_ HW_ hHeld ?_
            refine tk_ 14 (some 29) M4_15 HT_ HW_ hHeld ?_
            refine pu_ 15 (some 30) M4_16 HT_ ?_
            refine pu_ 16 (some 31) M4_17 HT_ ?_
            refine pu_ 17 (some 32) M4_18 HT_ ?_
            refine done_ (done_of HT_.1 (by kernel_rfl)) ?_
            try go_wp2
            go_ret
            exact ⟨by first | rfl | (simp [errW_none, errW_some] <;> rfl) | (simp only [← hji9]; first | rfl | (simp [errW_none, errW_some] <;> rfl)) | (simp [*, errW_none, errW_some] <;> rfl), wb_⟩
           ·
            rw [if_neg c12] at H
            have c12b0 := decide_eq_false c12
            clear c12
            have H' := o_ H
            clear H
            have p241 : 0 ≤ (x10_1 : Int) := of_decide_eq_true as_
            have q241 : x10_1 < (l0.length : Int) := of_decide_eq_true as_
            obtain ⟨ad241, A241_2, c241_2, A241_5, c241_5, e241, hx241_0, hx241_1, hx241_2, hx241_3, hx241_4, hx241_5, hx241_6, hx241_7, hl241_2, hi241_2, hl241_5, hi241_5⟩ := at_T41 HR0.1 x10_1 p241 q241
            cases e241
            replace hx241_0 := cb_ HB.1 hx241_0
            replace hx241_1 := cb_ HB.1 hx241_1
            replace hx241_2 := cb_ HB.1 hx241_2
            replace hx241_3 := cb_ HB.1 hx241_3
            replace hx241_4 := cb_ HB.1 hx241_4
            replace hx241_5 := cb_ HB.1 hx241_5
            replace hx241_6 := cb_ HB.1 hx241_6
            replace hx241_7 := cb_ HB.1 hx241_7
            have HR241_2 := o_ hi241_2
            have HC241_2 := o_ hl241_2
            clear hi241_2 hl241_2
            have HR241_5 := o_ hi241_5
            have HC241_5 := o_ hl241_5
            clear hi241_5 hl241_5
            replace p241 := eq_true p241
            replace q241 := eq_true q241
            try go_wp2_with (first | ((with_reducible refine gate_dst (N := 4) rfl ?_); refine bx_ 4 #[.int .i64 0, .int .i64 0, .slice none 0 0, .int .i64 0, .int .i64 0, .slice none 0 0, .int .i64 0, .int .i64 0] 41 ?_; intro gb242 hg w18 hbox hb; have BK242 := o_ (hbox); have GW242 := o_ ((y6_ : w.heap.size ≤ gb242)); replace HB := o_ (below_step (hd_ HB.1) hb); have GE242 := GW242; clear hb hbox hg; obtain ⟨_, _, _, _, _, _, _, _⟩ := e6_ BK242.1; obtain ⟨_, _, _, _, _, _, _, _⟩ := z5_ BK242.1))
            generalize hw_ : ((((((((w18.setCell ⟨gb242, 0, none⟩ (.int .i64 ((rd_T41 l0 x10_1).f0))).setCell ⟨gb242, 1, none⟩ (.int .i64 ((rd_T41 l0 x10_1).f1))).setCell ⟨gb242, 2, none⟩ (.slice A241_2 ((rd_T41 l0 x10_1).f2).length c241_2)).setCell ⟨gb242, 3, none⟩ (.int .i64 ((rd_T41 l0 x10_1).f3))).setCell ⟨gb242, 4, none⟩ (.int .i64 ((rd_T41 l0 x10_1).f4))).setCell ⟨gb242, 5, none⟩ (.slice A241_5 ((rd_T41 l0 x10_1).f5).length c241_5)).setCell ⟨gb242, 6, none⟩ (.int .i64 ((rd_T41 l0 x10_1).f6.f0))).setCell ⟨gb242, 7, none⟩ (.int .i64 ((rd_T41 l0 x10_1).f6.f1))) = w20
            replace BK242 : Aside0 (w20.heap[gb242]? = some (c7_ ((rd_T41 l0 x10_1).f0) ((rd_T41 l0 x10_1).f1) A241_2 ((rd_T41 l0 x10_1).f2).length c241_2 ((rd_T41 l0 x10_1).f3) ((rd_T41 l0 x10_1).f4) A241_5 ((rd_T41 l0 x10_1).f5).length c241_5 ((rd_T41 l0 x10_1).f6.f0) ((rd_T41 l0 x10_1).f6.f1))) := ⟨by rw [← hw_]; exact bk_ BK242.1⟩
            replace HB : Aside0 (Below w.heap.size w w20) := ⟨by rw [← hw_]; exact wb_⟩
            clear hw_
            replace BK242 := o_ (blk_drew BK242.1)
            replace HB := o_ (below_drew1 HB.1)
            have p244 : 0 ≤ ((ji9) : Int) := of_decide_eq_true as_
            have q244 : (ji9) < (l0.length : Int) := of_decide_eq_true as_
            obtain ⟨ad244, A244_2, c244_2, A244_5, c244_5, e244, hx244_0, hx244_1, hx244_2, hx244_3, hx244_4, hx244_5, hx244_6, hx244_7, hl244_2, hi244_2, hl244_5, hi244_5⟩ := at_T41 HR0.1 (ji9) p244 q244
            have hw244_7 := hx244_7
            have hw244_6 := hx244_6
            have hw244_5 := hx244_5
            have hw244_4 := hx244_4
            have hw244_3 := hx244_3
            have hw244_2 := hx244_2
            have hw244_1 := hx244_1
            have hw244_0 := hx244_0
            obtain rfl : ad241 = ad244 := (by injection e244)
            replace hx244_0 := cb_ HB.1 hx244_0
            replace hx244_1 := cb_ HB.1 hx244_1
            replace hx244_2 := cb_ HB.1 hx244_2
            replace hx244_3 := cb_ HB.1 hx244_3
            replace hx244_4 := cb_ HB.1 hx244_4
            replace hx244_5 := cb_ HB.1 hx244_5
            replace hx244_6 := cb_ HB.1 hx244_6
            replace hx244_7 := cb_ HB.1 hx244_7
            have HR244_2 := o_ hi244_2
            have HC244_2 := o_ hl244_2
            clear hi244_2 hl244_2
            have HR244_5 := o_ hi244_5
            have HC244_5 := o_ hl244_5
            clear hi244_5 hl244_5
            replace p244 := eq_true p244
            replace q244 := eq_true q244
            refine start_ (n := 18) (S := fun w' => q1_ w' gb242 ((rd_T41 l0 x10_1).f0) ((rd_T41 l0 x10_1).f1) A241_2 ((rd_T41 l0 x10_1).f2).length c241_2 ((rd_T41 l0 x10_1).f3) ((rd_T41 l0 x10_1).f4) A241_5 ((rd_T41 l0 x10_1).f5).length c241_5 ((rd_T41 l0 x10_1).f6.f0) ((rd_T41 l0 x10_1).f6.f1) (q2e_ w' (ad241.add (((ji9)).toNat * 8)) ((rd_T41 l0 (ji9)).f0) ((rd_T41 l0 (ji9)).f1) A244_2 ((rd_T41 l0 (ji9)).f2).length c244_2 ((rd_T41 l0 (ji9)).f3) ((rd_T41 l0 (ji9)).f4) A244_5 ((rd_T41 l0 (ji9)).f5).length c244_5 ((rd_T41 l0 (ji9)).f6.f0) ((rd_T41 l0 (ji9)).f6.f1))) (ds := []) M4_0 (by kernel_rfl) rfl rfl ⟨(blk_cell BK242.1 0).trans rfl, (blk_cell BK242.1 1).trans rfl, (blk_cell BK242.1 2).trans rfl, (blk_cell BK242.1 3).trans rfl, (blk_cell BK242.1 4).trans rfl, (blk_cell BK242.1 5).trans rfl, (blk_cell BK242.1 6).trans rfl, (blk_cell BK242.1 7).trans rfl, (cb_ HB.1 hw244_0), (cb_ HB.1 hw244_1), (cb_ HB.1 hw244_2), (cb_ HB.1 hw244_3), (cb_ HB.1 hw244_4), (cb_ HB.1 hw244_5), (cb_ HB.1 hw244_6), (cb_ HB.1 hw244_7)⟩ (fun hHeld => ?_); refine with_tabW impl_AreReports.tab6 impl_AreReports.bits6 (fun HT_ HW_ => ?_)
            generalize w20.drew = w21 at BK242 HB HR244_2 HR244_5 hx244_0 hx244_1 hx244_2 hx244_3 hx244_4 hx244_5 hx244_6 hx244_7 hHeld ⊢
            refine tk_ 0 (some 15) M4_1 HT_ HW_ hHeld ?_
            refine one_ (i := 1) (N := some 16) M4_2 rfl rfl (one_of HT_.1 (by kernel_rfl)) (by decide) (fun K hK => ?_)
            refine goes_ Try.func80 (by kernel_rfl) rfl #[.agg #[.int .i64 ((rd_T41 l0 x10_1).f0), .int .i64 ((rd_T41 l0 x10_1).f1), .slice A241_2 ((rd_T41 l0 x10_1).f2).length c241_2, .int .i64 ((rd_T41 l0 x10_1).f3), .int .i64 ((rd_T41 l0 x10_1).f4), .slice A241_5 ((rd_T41 l0 x10_1).f5).length c241_5, .int .i64 ((rd_T41 l0 x10_1).f6.f0), .int .i64 ((rd_T41 l0 x10_1).f6.f1)]] (by rfl) rfl rfl ma_ ?_
            with_reducible refine (impl_IsReport.calls k1 ((rd_T41 l0 x10_1).f0) ((rd_T41 l0 x10_1).f1) _ _ ((rd_T41 l0 x10_1).f2) ((rd_T41 l0 x10_1).f3) ((rd_T41 l0 x10_1).f4) _ _ ((rd_T41 l0 x10_1).f5) ((rd_T41 l0 x10_1).f6.f0) ((rd_T41 l0 x10_1).f6.f1) true _ ?side1 ?side2 ?side3 ?side4 A6.1).mono ?_
            (case side1 => exact cd_ (Kd.C_below HR241_2.1 HB.1))
            (case side2 => exact HC241_2.1)
            (case side3 => exact cd_ (Kd.C_below HR241_5.1 HB.1))
            (case side4 => exact HC241_5.1)
            rintro e w22 ⟨rfl, hb⟩
            refine ⟨_, rfl, ?_⟩
            replace BK242 := o_ (blk_below (bd_ BK242.1) hb)
            replace HB := o_ (below_step (wb_) hb)
            (try clear hb)
            (try clear hb2)
            (try clear hk)
            (try clear hi)
            refine hK.out _ _ ⟨(blk_cell BK242.1 0).trans rfl, (blk_cell BK242.1 1).trans rfl, (blk_cell BK242.1 2).trans rfl, (blk_cell BK242.1 3).trans rfl, (blk_cell BK242.1 4).trans rfl, (blk_cell BK242.1 5).trans rfl, (blk_cell BK242.1 6).trans rfl, (blk_cell BK242.1 7).trans rfl, (cb_ HB.1 hw244_0), (cb_ HB.1 hw244_1), (cb_ HB.1 hw244_2), (cb_ HB.1 hw244_3), (cb_ HB.1 hw244_4), (cb_ HB.1 hw244_5), (cb_ HB.1 hw244_6), (cb_ HB.1 hw244_7)⟩ (fun hHeld => ?_)
            clear hK K
            refine norm_ (a' := ?_) ?_ ?_
            rotate_left
            ·
             show Act.put _ (some 16) _ = _
             simp only [Act.put, P4_1, P4_2, P4_3, i64_w, i32_w]
             rfl
            refine pu_ 2 (some 17) M4_3 HT_ ?_
            refine pu_ 3 (some 18) M4_4 HT_ ?_
            refine pu_ 4 (some 19) M4_5 HT_ ?_
            refine pu_ 5 (some 20) M4_6 HT_ ?_
            refine pu_ 6 (some 21) M4_7 HT_ ?_
            refine pu_ 7 (some 22) M4_8 HT_ ?_
            refine pu_ 9 (some 24) M4_9 HT_ ?_
            refine pu_ 10 (some 25) M4_10 HT_ ?_
            refine pu_ 11 (some 26) M4_11 HT_ ?_
            refine pu_ 12 (some 27) M4_12 HT_ ?_
            refine pu_ 13 (some 28) M4_13 HT_ ?_
            refine tk_ 8 (some 23) M4_14 HT_ HW_ hHeld ?_
            refine tk_ 14 (some 29) M4_15 HT_ HW_ hHeld ?_
            refine pu_ 15 (some 30) M4_16 HT_ ?_
            refine pu_ 16 (some 31) M4_17 HT_ ?_
            refine pu_ 17 (some 32) M4_18 HT_ ?_
            refine done_ (done_of HT_.1 (by kernel_rfl)) ?_
            try go_wp2
            go_roundg k1
            case measure => have := HK1.1; omega
            case rel => exact ⟨(wrap64 (x10_1 + 1)), rs_, H', ⟨by have := HK1.1; omega⟩, ⟨wb_⟩⟩
          ·
           rw [if_neg c11] at H
           exact absurd H (by simp)
         ·
          rw [if_neg c10] at H
          exact absurd H (by simp)
        ·
         rw [if_neg c8] at H
         have c8b0 := decide_eq_false c8
         clear c8
         have H' := o_ H
         clear H
         have p241 : 0 ≤ (x10_1 : Int) := of_decide_eq_true as_
         have q241 : x10_1 < (l0.length : Int) := of_decide_eq_true as_
         obtain ⟨ad241, A241_2, c241_2, A241_5, c241_5, e241, hx241_0, hx241_1, hx241_2, hx241_3, hx241_4, hx241_5, hx241_6, hx241_7, hl241_2, hi241_2, hl241_5, hi241_5⟩ := at_T41 HR0.1 x10_1 p241 q241
         cases e241
         replace hx241_0 := cb_ HB.1 hx241_0
         replace hx241_1 := cb_ HB.1 hx241_1
         replace hx241_2 := cb_ HB.1 hx241_2
         replace hx241_3 := cb_ HB.1 hx241_3
         replace hx241_4 := cb_ HB.1 hx241_4
         replace hx241_5 := cb_ HB.1 hx241_5
         replace hx241_6 := cb_ HB.1 hx241_6
         replace hx241_7 := cb_ HB.1 hx241_7
         have HR241_2 := o_ hi241_2
         have HC241_2 := o_ hl241_2
         clear hi241_2 hl241_2
         have HR241_5 := o_ hi241_5
         have HC241_5 := o_ hl241_5
         clear hi241_5 hl241_5
         replace p241 := eq_true p241
         replace q241 := eq_true q241
         try go_wp2_with (first | ((with_reducible refine gate_dst (N := 4) rfl ?_); refine bx_ 4 #[.int .i64 0, .int .i64 0, .slice none 0 0, .int .i64 0, .int .i64 0, .slice none 0 0, .int .i64 0, .int .i64 0] 41 ?_; intro gb242 hg w23 hbox hb; have BK242 := o_ (hbox); have GW242 := o_ ((y6_ : w.heap.size ≤ gb242)); replace HB := o_ (below_step (hd_ HB.1) hb); have GE242 := GW242; clear hb hbox hg; obtain ⟨_, _, _, _, _, _, _, _⟩ := e6_ BK242.1; obtain ⟨_, _, _, _, _, _, _, _⟩ := z5_ BK242.1))
         generalize hw_ : ((((((((w23.setCell ⟨gb242, 0, none⟩ (.int .i64 ((rd_T41 l0 x10_1).f0))).setCell ⟨gb242, 1, none⟩ (.int .i64 ((rd_T41 l0 x10_1).f1))).setCell ⟨gb242, 2, none⟩ (.slice A241_2 ((rd_T41 l0 x10_1).f2).length c241_2)).setCell ⟨gb242, 3, none⟩ (.int .i64 ((rd_T41 l0 x10_1).f3))).setCell ⟨gb242, 4, none⟩ (.int .i64 ((rd_T41 l0 x10_1).f4))).setCell ⟨gb242, 5, none⟩ (.slice A241_5 ((rd_T41 l0 x10_1).f5).length c241_5)).setCell ⟨gb242, 6, none⟩ (.int .i64 ((rd_T41 l0 x10_1).f6.f0))).setCell ⟨gb242, 7, none⟩ (.int .i64 ((rd_T41 l0 x10_1).f6.f1))) = w25
         replace BK242 : Aside0 (w25.heap[gb242]? = some (c7_ ((rd_T41 l0 x10_1).f0) ((rd_T41 l0 x10_1).f1) A241_2 ((rd_T41 l0 x10_1).f2).length c241_2 ((rd_T41 l0 x10_1).f3) ((rd_T41 l0 x10_1).f4) A241_5 ((rd_T41 l0 x10_1).f5).length c241_5 ((rd_T41 l0 x10_1).f6.f0) ((rd_T41 l0 x10_1).f6.f1))) := ⟨by rw [← hw_]; exact bk_ BK242.1⟩
         replace HB : Aside0 (Below w.heap.size w w25) := ⟨by rw [← hw_]; exact wb_⟩
         clear hw_
         replace BK242 := o_ (blk_drew BK242.1)
         replace HB := o_ (below_drew1 HB.1)
         refine start_ (n := 18) (S := fun w' => q1e_ w' gb242 ((rd_T41 l0 x10_1).f0) ((rd_T41 l0 x10_1).f1) A241_2 ((rd_T41 l0 x10_1).f2).length c241_2 ((rd_T41 l0 x10_1).f3) ((rd_T41 l0 x10_1).f4) A241_5 ((rd_T41 l0 x10_1).f5).length c241_5 ((rd_T41 l0 x10_1).f6.f0) ((rd_T41 l0 x10_1).f6.f1)) (ds := []) M4_0 (by kernel_rfl) rfl rfl (k1e_ BK242.1) (fun hHeld => ?_); refine with_tabW impl_AreReports.tab6 impl_AreReports.bits6 (fun HT_ HW_ => ?_)
         generalize w25.drew = w26 at BK242 HB hHeld ⊢
         refine tk_ 0 (some 15) M4_1 HT_ HW_ hHeld ?_
         refine one_ (i := 1) (N := some 16) M4_2 rfl rfl (one_of HT_.1 (by kernel_rfl)) (by decide) (fun K hK => ?_)
         refine goes_ Try.func80 (by kernel_rfl) rfl #[.agg #[.int .i64 ((rd_T41 l0 x10_1).f0), .int .i64 ((rd_T41 l0 x10_1).f1), .slice A241_2 ((rd_T41 l0 x10_1).f2).length c241_2, .int .i64 ((rd_T41 l0 x10_1).f3), .int .i64 ((rd_T41 l0 x10_1).f4), .slice A241_5 ((rd_T41 l0 x10_1).f5).length c241_5, .int .i64 ((rd_T41 l0 x10_1).f6.f0), .int .i64 ((rd_T41 l0 x10_1).f6.f1)]] (by rfl) rfl rfl ma_ ?_
         with_reducible refine (impl_IsReport.calls k1 ((rd_T41 l0 x10_1).f0) ((rd_T41 l0 x10_1).f1) _ _ ((rd_T41 l0 x10_1).f2) ((rd_T41 l0 x10_1).f3) ((rd_T41 l0 x10_1).f4) _ _ ((rd_T41 l0 x10_1).f5) ((rd_T41 l0 x10_1).f6.f0) ((rd_T41 l0 x10_1).f6.f1) true _ ?side1 ?side2 ?side3 ?side4 A6.1).mono ?_
         (case side1 => exact cd_ (Kd.C_below HR241_2.1 HB.1))
         (case side2 => exact HC241_2.1)
         (case side3 => exact cd_ (Kd.C_below HR241_5.1 HB.1))
         (case side4 => exact HC241_5.1)
         rintro e w27 ⟨rfl, hb⟩
         refine ⟨_, rfl, ?_⟩
         replace BK242 := o_ (blk_below (bd_ BK242.1) hb)
         replace HB := o_ (below_step (wb_) hb)
         (try clear hb)
         (try clear hb2)
         (try clear hk)
         (try clear hi)
         refine hK.out _ _ (k1e_ BK242.1) (fun hHeld => ?_)
         clear hK K
         refine norm_ (a' := ?_) ?_ ?_
         rotate_left
         ·
          show Act.put _ (some 16) _ = _
          simp only [Act.put, P4_1, P4_2, P4_3, i64_w, i32_w]
          rfl
         refine pu_ 2 (some 17) M4_3 HT_ ?_
         refine pu_ 3 (some 18) M4_4 HT_ ?_
         refine pu_ 4 (some 19) M4_5 HT_ ?_
         refine pu_ 5 (some 20) M4_6 HT_ ?_
         refine pu_ 6 (some 21) M4_7 HT_ ?_
         refine pn_ 7 (some 22) M4_8 HT_ ?_
         refine pn_ 8 (some 23) M4_19 HT_ ?_
         refine pn_ 9 (some 24) M4_20 HT_ ?_
         refine pn_ 10 (some 25) M4_21 HT_ ?_
         refine pn_ 11 (some 26) M4_22 HT_ ?_
         refine pn_ 12 (some 27) M4_23 HT_ ?_
         refine pn_ 13 (some 28) M4_14 HT_ ?_
         refine pn_ 14 (some 29) M4_15 HT_ ?_
         refine pn_ 15 (some 30) M4_16 HT_ ?_
         refine pu_ 16 (some 31) M4_17 HT_ ?_
         refine pu_ 17 (some 32) M4_18 HT_ ?_
         refine done_ (done_of HT_.1 (by kernel_rfl)) ?_
         try go_wp2
         go_roundg k1
         case measure => have := HK1.1; omega
         case rel => exact ⟨(wrap64 (x10_1 + 1)), rs_, H', ⟨by have := HK1.1; omega⟩, ⟨wb_⟩⟩
       ·
        replace c7 := Bool.eq_false_iff.mpr c7
        subst c7
        have H1 := H
        rw [if_neg nt_] at H1
        clear H
        have H := H1
        clear H1
        obtain rfl := Option.some.inj H
        have p241 : 0 ≤ (x10_1 : Int) := of_decide_eq_true as_
        have q241 : x10_1 < (l0.length : Int) := of_decide_eq_true as_
        obtain ⟨ad241, A241_2, c241_2, A241_5, c241_5, e241, hx241_0, hx241_1, hx241_2, hx241_3, hx241_4, hx241_5, hx241_6, hx241_7, hl241_2, hi241_2, hl241_5, hi241_5⟩ := at_T41 HR0.1 x10_1 p241 q241
        cases e241
        replace hx241_0 := cb_ HB.1 hx241_0
        replace hx241_1 := cb_ HB.1 hx241_1
        replace hx241_2 := cb_ HB.1 hx241_2
        replace hx241_3 := cb_ HB.1 hx241_3
        replace hx241_4 := cb_ HB.1 hx241_4
        replace hx241_5 := cb_ HB.1 hx241_5
        replace hx241_6 := cb_ HB.1 hx241_6
        replace hx241_7 := cb_ HB.1 hx241_7
        have HR241_2 := o_ hi241_2
        have HC241_2 := o_ hl241_2
        clear hi241_2 hl241_2
        have HR241_5 := o_ hi241_5
        have HC241_5 := o_ hl241_5
        clear hi241_5 hl241_5
        replace p241 := eq_true p241
        replace q241 := eq_true q241
        try go_wp2_with (first | ((with_reducible refine gate_dst (N := 4) rfl ?_); refine bx_ 4 #[.int .i64 0, .int .i64 0, .slice none 0 0, .int .i64 0, .int .i64 0, .slice none 0 0, .int .i64 0, .int .i64 0] 41 ?_; intro gb242 hg w28 hbox hb; have BK242 := o_ (hbox); have GW242 := o_ ((y6_ : w.heap.size ≤ gb242)); replace HB := o_ (below_step (hd_ HB.1) hb); have GE242 := GW242; clear hb hbox hg; obtain ⟨_, _, _, _, _, _, _, _⟩ := e6_ BK242.1; obtain ⟨_, _, _, _, _, _, _, _⟩ := z5_ BK242.1))
        generalize hw_ : ((((((((w28.setCell ⟨gb242, 0, none⟩ (.int .i64 ((rd_T41 l0 x10_1).f0))).setCell ⟨gb242, 1, none⟩ (.int .i64 ((rd_T41 l0 x10_1).f1))).setCell ⟨gb242, 2, none⟩ (.slice A241_2 ((rd_T41 l0 x10_1).f2).length c241_2)).setCell ⟨gb242, 3, none⟩ (.int .i64 ((rd_T41 l0 x10_1).f3))).setCell ⟨gb242, 4, none⟩ (.int .i64 ((rd_T41 l0 x10_1).f4))).setCell ⟨gb242, 5, none⟩ (.slice A241_5 ((rd_T41 l0 x10_1).f5).length c241_5)).setCell ⟨gb242, 6, none⟩ (.int .i64 ((rd_T41 l0 x10_1).f6.f0))).setCell ⟨gb242, 7, none⟩ (.int .i64 ((rd_T41 l0 x10_1).f6.f1))) = w30
        replace BK242 : Aside0 (w30.heap[gb242]? = some (c7_ ((rd_T41 l0 x10_1).f0) ((rd_T41 l0 x10_1).f1) A241_2 ((rd_T41 l0 x10_1).f2).length c241_2 ((rd_T41 l0 x10_1).f3) ((rd_T41 l0 x10_1).f4) A241_5 ((rd_T41 l0 x10_1).f5).length c241_5 ((rd_T41 l0 x10_1).f6.f0) ((rd_T41 l0 x10_1).f6.f1))) := ⟨by rw [← hw_]; exact bk_ BK242.1⟩
        replace HB : Aside0 (Below w.heap.size w w30) := ⟨by rw [← hw_]; exact wb_⟩
        clear hw_
        replace BK242 := o_ (blk_drew BK242.1)
        replace HB := o_ (below_drew1 HB.1)
        refine start_ (n := 18) (S := fun w' => q1e_ w' gb242 ((rd_T41 l0 x10_1).f0) ((rd_T41 l0 x10_1).f1) A241_2 ((rd_T41 l0 x10_1).f2).length c241_2 ((rd_T41 l0 x10_1).f3) ((rd_T41 l0 x10_1).f4) A241_5 ((rd_T41 l0 x10_1).f5).length c241_5 ((rd_T41 l0 x10_1).f6.f0) ((rd_T41 l0 x10_1).f6.f1)) (ds := []) M4_0 (by kernel_rfl) rfl rfl (k1e_ BK242.1) (fun hHeld => ?_); refine with_tabW impl_AreReports.tab6 impl_AreReports.bits6 (fun HT_ HW_ => ?_)
        generalize w30.drew = w31 at BK242 HB hHeld ⊢
        refine tk_ 0 (some 15) M4_1 HT_ HW_ hHeld ?_
        refine one_ (i := 1) (N := some 16) M4_2 rfl rfl (one_of HT_.1 (by kernel_rfl)) (by decide) (fun K hK => ?_)
        refine goes_ Try.func80 (by kernel_rfl) rfl #[.agg #[.int .i64 ((rd_T41 l0 x10_1).f0), .int .i64 ((rd_T41 l0 x10_1).f1), .slice A241_2 ((rd_T41 l0 x10_1).f2).length c241_2, .int .i64 ((rd_T41 l0 x10_1).f3), .int .i64 ((rd_T41 l0 x10_1).f4), .slice A241_5 ((rd_T41 l0 x10_1).f5).length c241_5, .int .i64 ((rd_T41 l0 x10_1).f6.f0), .int .i64 ((rd_T41 l0 x10_1).f6.f1)]] (by rfl) rfl rfl ma_ ?_
        with_reducible refine (impl_IsReport.calls k1 ((rd_T41 l0 x10_1).f0) ((rd_T41 l0 x10_1).f1) _ _ ((rd_T41 l0 x10_1).f2) ((rd_T41 l0 x10_1).f3) ((rd_T41 l0 x10_1).f4) _ _ ((rd_T41 l0 x10_1).f5) ((rd_T41 l0 x10_1).f6.f0) ((rd_T41 l0 x10_1).f6.f1) false _ ?side1 ?side2 ?side3 ?side4 A6.1).mono ?_
        (case side1 => exact cd_ (Kd.C_below HR241_2.1 HB.1))
        (case side2 => exact HC241_2.1)
        (case side3 => exact cd_ (Kd.C_below HR241_5.1 HB.1))
        (case side4 => exact HC241_5.1)
        rintro e w32 ⟨rfl, hb⟩
        refine ⟨_, rfl, ?_⟩
        replace BK242 := o_ (blk_below (bd_ BK242.1) hb)
        replace HB := o_ (below_step (wb_) hb)
        (try clear hb)
        (try clear hb2)
        (try clear hk)
        (try clear hi)
        refine hK.out _ _ (k1e_ BK242.1) (fun hHeld => ?_)
        clear hK K
        refine norm_ (a' := ?_) ?_ ?_
        rotate_left
        ·
         show Act.put _ (some 16) _ = _
         simp only [Act.put, P4_1, P4_2, P4_3, i64_w, i32_w]
         rfl
        refine pu_ 2 (some 17) M4_3 HT_ ?_
        refine pu_ 3 (some 18) M4_4 HT_ ?_
        refine pn_ 4 (some 19) M4_5 HT_ ?_
        refine pn_ 5 (some 20) M4_6 HT_ ?_
        refine pn_ 6 (some 21) M4_7 HT_ ?_
        refine pn_ 7 (some 22) M4_8 HT_ ?_
        refine pn_ 8 (some 23) M4_19 HT_ ?_
        refine pn_ 9 (some 24) M4_20 HT_ ?_
        refine pn_ 10 (some 25) M4_21 HT_ ?_
        refine pn_ 11 (some 26) M4_22 HT_ ?_
        refine pn_ 12 (some 27) M4_23 HT_ ?_
        refine pn_ 13 (some 28) M4_14 HT_ ?_
        refine pn_ 14 (some 29) M4_15 HT_ ?_
        refine pn_ 15 (some 30) M4_16 HT_ ?_
        refine pn_ 16 (some 31) M4_17 HT_ ?_
        refine pu_ 17 (some 32) M4_18 HT_ ?_
        refine done_ (done_of HT_.1 (by kernel_rfl)) ?_
        try go_wp2
        go_ret
        exact ⟨rt_, wb_⟩
      ·
       rw [if_neg c5] at H
       exact absurd H (by simp)
     ·
      rw [if_neg c4] at H
      exact absurd H (by simp)
    ·
     rw [if_neg c3] at H
     have c3b0 := decide_eq_false c3
     clear c3
     obtain rfl := Option.some.inj H
     go_wp2
     go_ret
     exact ⟨rt_, hd_ HB.1⟩

end Go.Proofs.Ytglpmjcknhcjcaa.PFnTwins
