-- Written for this claim by a program (a printer turned to this claim); Lean checks it.
import Derived.Test.YtglpmjcknhcjcaaPFnTwinsx0
import Derived.Test.YtglpmjcknhcjcaaPFnTwinsx1
namespace Go.Proofs.Ytglpmjcknhcjcaa.PFnTwins
open Go.RowKit Go.Proofs.YtglpmjcknhcjcaaW.PrintWords Go.Proofs.YtglpmjcknhcjcaaW.PrintLast Go.Proofs.YtglpmjcknhcjcaaW.PrintMore
attribute [local go_sem] max2_int min2_int max_two min_two max_three min_three max_four min_four   -- for this text's walks alone
set_option linter.unusedVariables false
set_option linter.unusedSimpArgs false

/-! ### impl_AreFinds: function 36 -/
def impl_AreFinds.l0 : Nat → List (S58) → List (S58) → Int → Int → Option (Bool)
 | 0, _, _, _, _ => none
 | k + 1, x0, x8, x9, x10 => if x10 < x9 then (if 0 ≤ x10 then (if x10 < (x8.length : Int) then ((impl_IsFind.f ((rd_T58 x8 x10).f0.f0) ((rd_T58 x8 x10).f0.f1) ((rd_T58 x8 x10).f0.f2) ((rd_T58 x8 x10).f0.f3) ((rd_T58 x8 x10).f0.f4) ((rd_T58 x8 x10).f1) ((rd_T58 x8 x10).f2) ((rd_T58 x8 x10).f3)).bind fun t114 => (if t114 = true then (if x10 > 0 then (if 0 ≤ (wrap64 (x10 - 1)) then (if (wrap64 (x10 - 1)) < (x0.length : Int) then (if ((rd_T58 x8 x10).f0.f0) ≤ ((rd_T58 x0 (wrap64 (x10 - 1))).f0.f0) then (some false) else (impl_AreFinds.l0 k x0 x8 x9 (wrap64 (x10 + 1)))) else (none)) else (none)) else (impl_AreFinds.l0 k x0 x8 x9 (wrap64 (x10 + 1)))) else (some false))) else (none)) else (none)) else (some true)
def impl_AreFinds.f (k : Nat) (l0 : List (S58)) : Option (Bool) := if (l0.length : Int) > 20 then (some false) else (impl_AreFinds.l0 k l0 l0 (l0.length : Int) 0)
theorem impl_AreFinds.mono_l : ∀ k, (∀ y0 y1 y2 y3, LeO (impl_AreFinds.l0 k y0 y1 y2 y3) (impl_AreFinds.l0 (k + 1) y0 y1 y2 y3))
 | 0 => fun _ _ _ _ r h => by simp [impl_AreFinds.l0] at h
 | k + 1 => by
  have ih0 := impl_AreFinds.mono_l k
  ·
   intro y0 y1 y2 y3
   unfold impl_AreFinds.l0
   exact mo_
theorem impl_AreFinds.mono : ∀ a0 k, LeO (impl_AreFinds.f k a0) (impl_AreFinds.f (k + 1) a0) := by
 intro a0 k
 have ih0 := impl_AreFinds.mono_l k
 unfold impl_AreFinds.f
 exact mo_
def impl_AreFinds.T6 : Bool × List (List Nat × List Nat) := (true, [([], []), ([0], [0]), ([1], [1]), ([2, 1], [2]), ([3], [3]), ([4, 3], [3, 4]), ([5, 3, 3], [3, 5]), ([6], [6]), ([7, 6], [6, 7]), ([8, 6], [6, 8]), ([6], [6]), ([6], [6]), ([11, 6], [6, 11]), ([10, 12, 6], [6, 10, 12]), ([13, 6], [6, 13]), ([14, 6], [6, 14]), ([15, 6], [6, 15]), ([9, 16, 6], [6, 9, 16]), ([6, 17, 3], [3, 6, 17]), ([3, 18], [3, 18])])
def impl_AreFinds.B6 : List Nat := [0, 1, 3, 7, 15, 31, 63, 127, 255, 511, 127, 127, 2175, 7295, 15487, 31871, 64639, 131071, 262143, 524287]
theorem impl_AreFinds.tab6 : rtab .any (opsOf Try.f36 6) = impl_AreFinds.T6 := by kernel_rfl
theorem impl_AreFinds.bits6 : waitsOk impl_AreFinds.T6.2 impl_AreFinds.B6 = true := by kernel_rfl
abbrev M0_0 := bm_ 20 0
abbrev M0_1 := bm_ 20 1
abbrev M0_2 := bm_ 20 3
abbrev M0_3 := bm_ 20 7
abbrev M0_4 := bm_ 20 15
abbrev M0_5 := bm_ 20 31
abbrev M0_6 := bm_ 20 63
abbrev M0_7 := bm_ 20 127
abbrev M0_8 := bm_ 20 255
abbrev M0_9 := bm_ 20 511
abbrev M0_10 := bm_ 20 1535
abbrev M0_11 := bm_ 20 3583
abbrev M0_12 := bm_ 20 7679
abbrev M0_13 := bm_ 20 15871
abbrev M0_14 := bm_ 20 32255
abbrev M0_15 := bm_ 20 65023
abbrev M0_16 := bm_ 20 65535
abbrev M0_17 := bm_ 20 131071
abbrev M0_18 := bm_ 20 262143
abbrev M0_19 := bm_ 20 524287
abbrev M0_20 := bm_ 20 1048575
abbrev M0_21 := bm_ 20 1023
abbrev M0_22 := bm_ 20 2047
abbrev M0_23 := bm_ 20 4095
abbrev M0_24 := bm_ 20 8191
abbrev M0_25 := bm_ 20 16383
abbrev M0_26 := bm_ 20 32767
theorem P0_1 {α : Type} (l : List α) (i : Nat) (a : α) : l.toArray.setIfInBounds i a = (l.set i a).toArray := List.setIfInBounds_toArray l i a
theorem P0_2 {α : Type} (x : α) (l : List α) (a : α) : (x :: l).set 0 a = a :: l := List.set_cons_zero
theorem P0_3 {α : Type} (x : α) (l : List α) (n : Nat) (a : α) : (x :: l).set (n + 1) a = x :: l.set n a := List.set_cons_succ
set_option maxHeartbeats 8000000 in
set_option maxRecDepth 100000 in
theorem impl_AreFinds.calls (k : Nat) (A0 : Option Addr) (c0 : Nat) (l0 : List (S58)) (r : Bool) (w : World) (hr0 : Kd.C k58 w A0 l0.length l0) (hc0 : l0.length ≤ c0) (h : impl_AreFinds.f k l0 = some r) :
  Calls Try.prog 36 #[.slice A0 l0.length c0] w fun e w' => e = .returned (.bool r) ∧ Below w.heap.size w w' := by
 have hu58 := Try.underlying58
 have HR0 := o_ hr0
 have HC0 := o_ hc0
 clear hr0 hc0
 have HB := o_ (Below.refl w.heap.size w)
 have H : (if (l0.length : Int) > 20 then (some false) else (impl_AreFinds.l0 k l0 l0 (l0.length : Int) 0)) = some r := h
 clear h
 by_cases c2 : (l0.length : Int) > 20
 ·
  rw [if_pos c2] at H
  have c2b0 := decide_eq_true c2
  have c2b1 : decide (20 < l0.length) = true := decide_eq_true (by omega)
  clear c2
  obtain rfl := Option.some.inj H
  go_enter Try.func36, Try.ntmps36
  go_wp2
  go_ret
  exact ⟨rt_, hd_ HB.1⟩
 ·
  rw [if_neg c2] at H
  have c2b0 := decide_eq_false c2
  have c2b1 : decide (20 < l0.length) = false := decide_eq_false (by omega)
  clear c2
  have H' := o_ H
  clear H
  go_enter Try.func36, Try.ntmps36
  go_wp2
  go_loopg [10] k (fun kq v10 w' => ∃ (x10_1 : Int), v10 = .int .i64 x10_1 ∧ Aside0 (impl_AreFinds.l0 kq l0 l0 (l0.length : Int) x10_1 = some r) ∧ Aside0 (kq ≤ k) ∧ Aside0 (Below w.heap.size w w'))
  case atStart => exact ⟨(0), rs_, H', ⟨Nat.le_refl _⟩, ⟨hd_ HB.1⟩⟩
  case round =>
   clear H'
   try clear c2
   try clear c2b0
   try clear c2b1
   try clear p2
   obtain ⟨x10_1, rfl, HA, HK1, HB⟩ := hrel
   cases gk with
   | zero => exact absurd HA.1 (by simp [impl_AreFinds.l0])
   | succ k1 =>
    have H := HA.1
    clear HA
    simp only [impl_AreFinds.l0] at H
    by_cases c3 : x10_1 < (l0.length : Int)
    ·
     rw [if_pos c3] at H
     have c3b0 := decide_eq_true c3
     clear c3
     by_cases c4 : 0 ≤ x10_1
     ·
      rw [if_pos c4] at H
      have c4b0 := decide_eq_true c4
      clear c4
      by_cases c5 : x10_1 < (l0.length : Int)
      ·
       rw [if_pos c5] at H
       have c5b0 := decide_eq_true c5
       clear c5
       obtain ⟨t114, A6, H⟩ := ob_ H
       try dsimp only at H
       by_cases c7 : t114 = true
       ·
        subst c7
        have H1 := H
        rw [if_pos rfl] at H1
        clear H
        have H := H1
        clear H1
        by_cases c8 : x10_1 > 0
        ·
         rw [if_pos c8] at H
         have c8b0 := decide_eq_true c8
         clear c8
         obtain ⟨ji9, hji9⟩ : ∃ j_ : Int, (wrap64 (x10_1 - 1)) = j_ := ⟨_, rfl⟩
         replace H : (if 0 ≤ (ji9) then (if (ji9) < (l0.length : Int) then (if ((rd_T58 l0 x10_1).f0.f0) ≤ ((rd_T58 l0 (ji9)).f0.f0) then (some false) else (impl_AreFinds.l0 k1 l0 l0 (l0.length : Int) (wrap64 (x10_1 + 1)))) else (none)) else (none)) = some r := by first | (rw [hji9] at H; exact H) | (simp only [hji9] at H ⊢; exact H)
         (try rw [hji9] at A6)
         have hji9w : (IntKind.i64.wrap (x10_1 - 1)) = ji9 := (i64_w _).trans hji9
         by_cases c10 : 0 ≤ (ji9)
         ·
          rw [if_pos c10] at H
          have c10b0 := decide_eq_true c10
          clear c10
          by_cases c11 : (ji9) < (l0.length : Int)
          ·
           rw [if_pos c11] at H
           have c11b0 := decide_eq_true c11
           clear c11
           by_cases c12 : ((rd_T58 l0 x10_1).f0.f0) ≤ ((rd_T58 l0 (ji9)).f0.f0)
           ·
            rw [if_pos c12] at H
            have c12b0 := decide_eq_true c12
            clear c12
            obtain rfl := Option.some.inj H
            have p112 : 0 ≤ (x10_1 : Int) := of_decide_eq_true as_
            have q112 : x10_1 < (l0.length : Int) := of_decide_eq_true as_
            obtain ⟨ad112, e112, hx112_0, hx112_1, hx112_2, hx112_3, hx112_4, hx112_5, hx112_6, hx112_7⟩ := at_T58 HR0.1 x10_1 p112 q112
            cases e112
            replace hx112_0 := cb_ HB.1 hx112_0
            replace hx112_1 := cb_ HB.1 hx112_1
            replace hx112_2 := cb_ HB.1 hx112_2
            replace hx112_3 := cb_ HB.1 hx112_3
            replace hx112_4 := cb_ HB.1 hx112_4
            replace hx112_5 := cb_ HB.1 hx112_5
            replace hx112_6 := cb_ HB.1 hx112_6
            replace hx112_7 := cb_ HB.1 hx112_7
            replace p112 := eq_true p112
            replace q112 := eq_true q112
            try go_wp2_with (first | ((with_reducible refine gate_dst (N := 4) rfl ?_); refine bx_ 4 #[.int .i64 0, .int .i64 0, .int .i64 0, .int .i64 0, .int .i64 0, .int .i64 0, .int .i64 0, .int .i64 0] 58 ?_; intro gb113 hg w13 hbox hb; have BK113 := o_ (hbox); have GW113 := o_ ((y6_ : w.heap.size ≤ gb113)); replace HB := o_ (below_step (hd_ HB.1) hb); have GE113 := GW113; clear hb hbox hg; obtain ⟨_, _, _, _, _, _, _, _⟩ := e4_ BK113.1; obtain ⟨_, _, _, _, _, _, _, _⟩ := z5_ BK113.1))
            generalize hw_ : ((((((((w13.setCell ⟨gb113, 0, none⟩ (.int .i64 ((rd_T58 l0 x10_1).f0.f0))).setCell ⟨gb113, 1, none⟩ (.int .i64 ((rd_T58 l0 x10_1).f0.f1))).setCell ⟨gb113, 2, none⟩ (.int .i64 ((rd_T58 l0 x10_1).f0.f2))).setCell ⟨gb113, 3, none⟩ (.int .i64 ((rd_T58 l0 x10_1).f0.f3))).setCell ⟨gb113, 4, none⟩ (.int .i64 ((rd_T58 l0 x10_1).f0.f4))).setCell ⟨gb113, 5, none⟩ (.int .i64 ((rd_T58 l0 x10_1).f1))).setCell ⟨gb113, 6, none⟩ (.int .i64 ((rd_T58 l0 x10_1).f2))).setCell ⟨gb113, 7, none⟩ (.int .i64 ((rd_T58 l0 x10_1).f3))) = w15
            replace BK113 : Aside0 (w15.heap[gb113]? = some (c8_ ((rd_T58 l0 x10_1).f0.f0) ((rd_T58 l0 x10_1).f0.f1) ((rd_T58 l0 x10_1).f0.f2) ((rd_T58 l0 x10_1).f0.f3) ((rd_T58 l0 x10_1).f0.f4) ((rd_T58 l0 x10_1).f1) ((rd_T58 l0 x10_1).f2) ((rd_T58 l0 x10_1).f3))) := ⟨by rw [← hw_]; exact bk_ BK113.1⟩
            replace HB : Aside0 (Below w.heap.size w w15) := ⟨by rw [← hw_]; exact wb_⟩
            clear hw_
            replace BK113 := o_ (blk_drew BK113.1)
            replace HB := o_ (below_drew1 HB.1)
            have p115 : 0 ≤ ((ji9) : Int) := of_decide_eq_true as_
            have q115 : (ji9) < (l0.length : Int) := of_decide_eq_true as_
            obtain ⟨ad115, e115, hx115_0, hx115_1, hx115_2, hx115_3, hx115_4, hx115_5, hx115_6, hx115_7⟩ := at_T58 HR0.1 (ji9) p115 q115
            have hw115_7 := hx115_7
            have hw115_6 := hx115_6
            have hw115_5 := hx115_5
            have hw115_4 := hx115_4
            have hw115_3 := hx115_3
            have hw115_2 := hx115_2
            have hw115_1 := hx115_1
            have hw115_0 := hx115_0
            obtain rfl : ad112 = ad115 := (by injection e115)
            replace hx115_0 := cb_ HB.1 hx115_0
            replace hx115_1 := cb_ HB.1 hx115_1
            replace hx115_2 := cb_ HB.1 hx115_2
            replace hx115_3 := cb_ HB.1 hx115_3
            replace hx115_4 := cb_ HB.1 hx115_4
            replace hx115_5 := cb_ HB.1 hx115_5
            replace hx115_6 := cb_ HB.1 hx115_6
            replace hx115_7 := cb_ HB.1 hx115_7
            replace p115 := eq_true p115
            replace q115 := eq_true q115
            refine start_ (n := 20) (S := fun w' => q3_ w' gb113 ((rd_T58 l0 x10_1).f0.f0) ((rd_T58 l0 x10_1).f0.f1) ((rd_T58 l0 x10_1).f0.f2) ((rd_T58 l0 x10_1).f0.f3) ((rd_T58 l0 x10_1).f0.f4) ((rd_T58 l0 x10_1).f1) ((rd_T58 l0 x10_1).f2) ((rd_T58 l0 x10_1).f3) (q4e_ w' (ad112.add (((ji9)).toNat * 8)) ((rd_T58 l0 (ji9)).f0.f0) ((rd_T58 l0 (ji9)).f0.f1) ((rd_T58 l0 (ji9)).f0.f2) ((rd_T58 l0 (ji9)).f0.f3) ((rd_T58 l0 (ji9)).f0.f4) ((rd_T58 l0 (ji9)).f1) ((rd_T58 l0 (ji9)).f2) ((rd_T58 l0 (ji9)).f3))) (ds := []) M0_0 (by kernel_rfl) rfl rfl ⟨(blk_cell BK113.1 0).trans rfl, (blk_cell BK113.1 1).trans rfl, (blk_cell BK113.1 2).trans rfl, (blk_cell BK113.1 3).trans rfl, (blk_cell BK113.1 4).trans rfl, (blk_cell BK113.1 5).trans rfl, (blk_cell BK113.1 6).trans rfl, (blk_cell BK113.1 7).trans rfl, (cb_ HB.1 hw115_0), (cb_ HB.1 hw115_1), (cb_ HB.1 hw115_2), (cb_ HB.1 hw115_3), (cb_ HB.1 hw115_4), (cb_ HB.1 hw115_5), (cb_ HB.1 hw115_6), (cb_ HB.1 hw115_7)⟩ (fun hHeld => ?_); refine with_tabW impl_AreFinds.tab6 impl_AreFinds.bits6 (fun HT_ HW_ => ?_)
            generalize w15.drew = w16 at BK113 HB hx115_0 hx115_1 hx115_2 hx115_3 hx115_4 hx115_5 hx115_6 hx115_7 hHeld ⊢
            refine tk_ 0 (some 15) M0_1 HT_ HW_ hHeld ?_
            refine one_ (i := 1) (N := some 16) M0_2 rfl rfl (one_of HT_.1 (by kernel_rfl)) (by decide) (fun K hK => ?_)
            refine goes_ Try.func60 (by kernel_rfl) rfl #[.agg #[.int .i64 ((rd_T58 l0 x10_1).f0.f0), .int .i64 ((rd_T58 l0 x10_1).f0.f1), .int .i64 ((rd_T58 l0 x10_1).f0.f2), .int .i64 ((rd_T58 l0 x10_1).f0.f3), .int .i64 ((rd_T58 l0 x10_1).f0.f4), .int .i64 ((rd_T58 l0 x10_1).f1), .int .i64 ((rd_T58 l0 x10_1).f2), .int .i64 ((rd_T58 l0 x10_1).f3)]] (by rfl) rfl rfl ma_ ?_
            with_reducible refine (impl_IsFind.calls ((rd_T58 l0 x10_1).f0.f0) ((rd_T58 l0 x10_1).f0.f1) ((rd_T58 l0 x10_1).f0.f2) ((rd_T58 l0 x10_1).f0.f3) ((rd_T58 l0 x10_1).f0.f4) ((rd_T58 l0 x10_1).f1) ((rd_T58 l0 x10_1).f2) ((rd_T58 l0 x10_1).f3) true _ A6.1).mono ?_
            rintro e w17 ⟨rfl, hb⟩
            refine ⟨_, rfl, ?_⟩
            replace BK113 := o_ (blk_below (bd_ BK113.1) hb)
            replace HB := o_ (below_step (wb_) hb)
            (try clear hb)
            (try clear hb2)
            (try clear hk)
            (try clear hi)
            refine hK.out _ _ ⟨(blk_cell BK113.1 0).trans rfl, (blk_cell BK113.1 1).trans rfl, (blk_cell BK113.1 2).trans rfl, (blk_cell BK113.1 3).trans rfl, (blk_cell BK113.1 4).trans rfl, (blk_cell BK113.1 5).trans rfl, (blk_cell BK113.1 6).trans rfl, (blk_cell BK113.1 7).trans rfl, (cb_ HB.1 hw115_0), (cb_ HB.1 hw115_1), (cb_ HB.1 hw115_2), (cb_ HB.1 hw115_3), (cb_ HB.1 hw115_4), (cb_ HB.1 hw115_5), (cb_ HB.1 hw115_6), (cb_ HB.1 hw115_7)⟩ (fun hHeld => ?_)
            clear hK K
            refine norm_ (a' := ?_) ?_ ?_
            rotate_left
            ·
             show Act.put _ (some 16) _ = _
             simp only [Act.put, P0_1, P0_2, P0_3, i64_w, i32_w]
             rfl
            refine pu_ 2 (some 17) M0_3 HT_ ?_
            refine pu_ 3 (some 18) M0_4 HT_ ?_
            refine pu_ 4 (some 19) M0_5 HT_ ?_
            refine pu_ 5 (some 20) M0_6 HT_ ?_
            refine pu_ 6 (some 21) M0_7 HT_ ?_
            refine pu_ 7 (some 22) M0_8 HT_ ?_
            refine pu_ 8 (some 23) M0_9 HT_ ?_
            refine pu_ 10 (some 25) M0_10 HT_ ?_
            refine pu_ 11 (some 26) M0_11 HT_ ?_
            refine pu_ 12 (some 27) M0_12 HT_ ?_
            refine pu_ 13 (some 28) M0_13 HT_ ?_
            refine pu_ 14 (some 29) M0_14 HT_ ?_
            refine pu_ 15 (some 30) M0_15 HT_ ?_
            refine tk_ 9 (some 24) M0_16 HT_ HW_ hHeld ?_
            refine tk_ 16 (some 31) M0_17 HT_ HW_ hHeld ?_
            refine pu_ 17 (some 32) M0_18 HT_ ?_
            refine pu_ 18 (some 33) M0_19 HT_ ?_
            refine pu_ 19 (some 34) M0_20 HT_ ?_
            refine done_ (done_of HT_.1 (by kernel_rfl)) ?_
            try go_wp2
            go_ret
            exact ⟨by first | rfl | (simp [errW_none, errW_some] <;> rfl) | (simp only [← hji9]; first | rfl | (simp [errW_none, errW_some] <;> rfl)) | (simp [*, errW_none, errW_some] <;> rfl), wb_⟩
           ·
            rw [if_neg c12] at H
            have c12b0 := decide_eq_false c12
            clear c12
            have H' := o_ H
            clear H
            have p112 : 0 ≤ (x10_1 : Int) := of_decide_eq_true as_
            have q112 : x10_1 < (l0.length : Int) := of_decide_eq_true as_
            obtain ⟨ad112, e112, hx112_0, hx112_1, hx112_2, hx112_3, hx112_4, hx112_5, hx112_6, hx112_7⟩ := at_T58 HR0.1 x10_1 p112 q112
            cases e112
            replace hx112_0 := cb_ HB.1 hx112_0
            replace hx112_1 := cb_ HB.1 hx112_1
            replace hx112_2 := cb_ HB.1 hx112_2
            replace hx112_3 := cb_ HB.1 hx112_3
            replace hx112_4 := cb_ HB.1 hx112_4
            replace hx112_5 := cb_ HB.1 hx112_5
            replace hx112_6 := cb_ HB.1 hx112_6
            replace hx112_7 := cb_ HB.1 hx112_7
            replace p112 := eq_true p112
            replace q112 := eq_true q112
            try go_wp2_with (first | ((with_reducible refine gate_dst (N := 4) rfl ?_); refine bx_ 4 #[.int .i64 0, .int .i64 0, .int .i64 0, .int .i64 0, .int .i64 0, .int .i64 0, .int .i64 0, .int .i64 0] 58 ?_; intro gb113 hg w18 hbox hb; have BK113 := o_ (hbox); have GW113 := o_ ((y6_ : w.heap.size ≤ gb113)); replace HB := o_ (below_step (hd_ HB.1) hb); have GE113 := GW113; clear hb hbox hg; obtain ⟨_, _, _, _, _, _, _, _⟩ := e4_ BK113.1; obtain ⟨_, _, _, _, _, _, _, _⟩ := z5_ BK113.1))
            generalize hw_ : ((((((((w18.setCell ⟨gb113, 0, none⟩ (.int .i64 ((rd_T58 l0 x10_1).f0.f0))).setCell ⟨gb113, 1, none⟩ (.int .i64 ((rd_T58 l0 x10_1).f0.f1))).setCell ⟨gb113, 2, none⟩ (.int .i64 ((rd_T58 l0 x10_1).f0.f2))).setCell ⟨gb113, 3, none⟩ (.int .i64 ((rd_T58 l0 x10_1).f0.f3))).setCell ⟨gb113, 4, none⟩ (.int .i64 ((rd_T58 l0 x10_1).f0.f4))).setCell ⟨gb113, 5, none⟩ (.int .i64 ((rd_T58 l0 x10_1).f1))).setCell ⟨gb113, 6, none⟩ (.int .i64 ((rd_T58 l0 x10_1).f2))).setCell ⟨gb113, 7, none⟩ (.int .i64 ((rd_T58 l0 x10_1).f3))) = w20
            replace BK113 : Aside0 (w20.heap[gb113]? = some (c8_ ((rd_T58 l0 x10_1).f0.f0) ((rd_T58 l0 x10_1).f0.f1) ((rd_T58 l0 x10_1).f0.f2) ((rd_T58 l0 x10_1).f0.f3) ((rd_T58 l0 x10_1).f0.f4) ((rd_T58 l0 x10_1).f1) ((rd_T58 l0 x10_1).f2) ((rd_T58 l0 x10_1).f3))) := ⟨by rw [← hw_]; exact bk_ BK113.1⟩
            replace HB : Aside0 (Below w.heap.size w w20) := ⟨by rw [← hw_]; exact wb_⟩
            clear hw_
            replace BK113 := o_ (blk_drew BK113.1)
            replace HB := o_ (below_drew1 HB.1)
            have p115 : 0 ≤ ((ji9) : Int) := of_decide_eq_true as_
            have q115 : (ji9) < (l0.length : Int) := of_decide_eq_true as_
            obtain ⟨ad115, e115, hx115_0, hx115_1, hx115_2, hx115_3, hx115_4, hx115_5, hx115_6, hx115_7⟩ := at_T58 HR0.1 (ji9) p115 q115
            have hw115_7 := hx115_7
            have hw115_6 := hx115_6
            have hw115_5 := hx115_5
            have hw115_4 := hx115_4
            have hw115_3 := hx115_3
            have hw115_2 := hx115_2
            have hw115_1 := hx115_1
            have hw115_0 := hx115_0
            obtain rfl : ad112 = ad115 := (by injection e115)
            replace hx115_0 := cb_ HB.1 hx115_0
            replace hx115_1 := cb_ HB.1 hx115_1
            replace hx115_2 := cb_ HB.1 hx115_2
            replace hx115_3 := cb_ HB.1 hx115_3
            replace hx115_4 := cb_ HB.1 hx115_4
            replace hx115_5 := cb_ HB.1 hx115_5
            replace hx115_6 := cb_ HB.1 hx115_6
            replace hx115_7 := cb_ HB.1 hx115_7
            replace p115 := eq_true p115
            replace q115 := eq_true q115
            refine start_ (n := 20) (S := fun w' => q3_ w' gb113 ((rd_T58 l0 x10_1).f0.f0) ((rd_T58 l0 x10_1).f0.f1) ((rd_T58 l0 x10_1).f0.f2) ((rd_T58 l0 x10_1).f0.f3) ((rd_T58 l0 x10_1).f0.f4) ((rd_T58 l0 x10_1).f1) ((rd_T58 l0 x10_1).f2) ((rd_T58 l0 x10_1).f3) (q4e_ w' (ad112.add (((ji9)).toNat * 8)) ((rd_T58 l0 (ji9)).f0.f0) ((rd_T58 l0 (ji9)).f0.f1) ((rd_T58 l0 (ji9)).f0.f2) ((rd_T58 l0 (ji9)).f0.f3) ((rd_T58 l0 (ji9)).f0.f4) ((rd_T58 l0 (ji9)).f1) ((rd_T58 l0 (ji9)).f2) ((rd_T58 l0 (ji9)).f3))) (ds := []) M0_0 (by kernel_rfl) rfl rfl ⟨(blk_cell BK113.1 0).trans rfl, (blk_cell BK113.1 1).trans rfl, (blk_cell BK113.1 2).trans rfl, (blk_cell BK113.1 3).trans rfl, (blk_cell BK113.1 4).trans rfl, (blk_cell BK113.1 5).trans rfl, (blk_cell BK113.1 6).trans rfl, (blk_cell BK113.1 7).trans rfl, (cb_ HB.1 hw115_0), (cb_ HB.1 hw115_1), (cb_ HB.1 hw115_2), (cb_ HB.1 hw115_3), (cb_ HB.1 hw115_4), (cb_ HB.1 hw115_5), (cb_ HB.1 hw115_6), (cb_ HB.1 hw115_7)⟩ (fun hHeld => ?_); refine with_tabW impl_AreFinds.tab6 impl_AreFinds.bits6 (fun HT_ HW_ => ?_)
            generalize w20.drew = w21 at BK113 HB hx115_0 hx115_1 hx115_2 hx115_3 hx115_4 hx115_5 hx115_6 hx115_7 hHeld ⊢
            refine tk_ 0 (some 15) M0_1 HT_ HW_ hHeld ?_
            refine one_ (i := 1) (N := some 16) M0_2 rfl rfl (one_of HT_.1 (by kernel_rfl)) (by decide) (fun K hK => ?_)
            refine goes_ Try.func60 (by kernel_rfl) rfl #[.agg #[.int .i64 ((rd_T58 l0 x10_1).f0.f0), .int .i64 ((rd_T58 l0 x10_1).f0.f1), .int .i64 ((rd_T58 l0 x10_1).f0.f2), .int .i64 ((rd_T58 l0 x10_1).f0.f3), .int .i64 ((rd_T58 l0 x10_1).f0.f4), .int .i64 ((rd_T58 l0 x10_1).f1), .int .i64 ((rd_T58 l0 x10_1).f2), .int .i64 ((rd_T58 l0 x10_1).f3)]] (by rfl) rfl rfl ma_ ?_
            with_reducible refine (impl_IsFind.calls ((rd_T58 l0 x10_1).f0.f0) ((rd_T58 l0 x10_1).f0.f1) ((rd_T58 l0 x10_1).f0.f2) ((rd_T58 l0 x10_1).f0.f3) ((rd_T58 l0 x10_1).f0.f4) ((rd_T58 l0 x10_1).f1) ((rd_T58 l0 x10_1).f2) ((rd_T58 l0 x10_1).f3) true _ A6.1).mono ?_
            rintro e w22 ⟨rfl, hb⟩
            refine ⟨_, rfl, ?_⟩
            replace BK113 := o_ (blk_below (bd_ BK113.1) hb)
            replace HB := o_ (below_step (wb_) hb)
            (try clear hb)
            (try clear hb2)
            (try clear hk)
            (try clear hi)
            refine hK.out _ _ ⟨(blk_cell BK113.1 0).trans rfl, (blk_cell BK113.1 1).trans rfl, (blk_cell BK113.1 2).trans rfl, (blk_cell BK113.1 3).trans rfl, (blk_cell BK113.1 4).trans rfl, (blk_cell BK113.1 5).trans rfl, (blk_cell BK113.1 6).trans rfl, (blk_cell BK113.1 7).trans rfl, (cb_ HB.1 hw115_0), (cb_ HB.1 hw115_1), (cb_ HB.1 hw115_2), (cb_ HB.1 hw115_3), (cb_ HB.1 hw115_4), (cb_ HB.1 hw115_5), (cb_ HB.1 hw115_6), (cb_ HB.1 hw115_7)⟩ (fun hHeld => ?_)
            clear hK K
            refine norm_ (a' := ?_) ?_ ?_
            rotate_left
            ·
             show Act.put _ (some 16) _ = _
             simp only [Act.put, P0_1, P0_2, P0_3, i64_w, i32_w]
             rfl
            refine pu_ 2 (some 17) M0_3 HT_ ?_
            refine pu_ 3 (some 18) M0_4 HT_ ?_
            refine pu_ 4 (some 19) M0_5 HT_ ?_
            refine pu_ 5 (some 20) M0_6 HT_ ?_
            refine pu_ 6 (some 21) M0_7 HT_ ?_
            refine pu_ 7 (some 22) M0_8 HT_ ?_
            refine pu_ 8 (some 23) M0_9 HT_ ?_
            refine pu_ 10 (some 25) M0_10 HT_ ?_
            refine pu_ 11 (some 26) M0_11 HT_ ?_
            refine pu_ 12 (some 27) M0_12 HT_ ?_
            refine pu_ 13 (some 28) M0_13 HT_ ?_
            refine pu_ 14 (some 29) M0_14 HT_ ?_
            refine pu_ 15 (some 30) M0_15 HT_ ?_
            refine tk_ 9 (some 24) M0_16 HT_ HW_ hHeld ?_
            refine tk_ 16 (some 31) M0_17 HT_ HW_ hHeld ?_
            refine pu_ 17 (some 32) M0_18 HT_ ?_
            refine pu_ 18 (some 33) M0_19 HT_ ?_
            refine pu_ 19 (some 34) M0_20 HT_ ?_
            refine done_ (done_of HT_.1 (by kernel_rfl)) ?_
            try go_wp2
            go_roundg k1
            case measure => have := HK1.1; omega
            case rel => exact ⟨(wrap64 (x10_1 + 1)), rs_, H', ⟨by have := HK1.1; omega⟩, ⟨wb_⟩⟩
          ·
           rw [if_neg c11] at H
           exact absurd H (by simp)
         ·
          rw [if_neg c10] at H
          exact absurd H (by simp)
        ·
         rw [if_neg c8] at H
         have c8b0 := decide_eq_false c8
         clear c8
         have H' := o_ H
         clear H
         have p112 : 0 ≤ (x10_1 : Int) := of_decide_eq_true as_
         have q112 : x10_1 < (l0.length : Int) := of_decide_eq_true as_
         obtain ⟨ad112, e112, hx112_0, hx112_1, hx112_2, hx112_3, hx112_4, hx112_5, hx112_6, hx112_7⟩ := at_T58 HR0.1 x10_1 p112 q112
         cases e112
         replace hx112_0 := cb_ HB.1 hx112_0
         replace hx112_1 := cb_ HB.1 hx112_1
         replace hx112_2 := cb_ HB.1 hx112_2
         replace hx112_3 := cb_ HB.1 hx112_3
         replace hx112_4 := cb_ HB.1 hx112_4
         replace hx112_5 := cb_ HB.1 hx112_5
         replace hx112_6 := cb_ HB.1 hx112_6
         replace hx112_7 := cb_ HB.1 hx112_7
         replace p112 := eq_true p112
         replace q112 := eq_true q112
         try go_wp2_with (first | ((with_reducible refine gate_dst (N := 4) rfl ?_); refine bx_ 4 #[.int .i64 0, .int .i64 0, .int .i64 0, .int .i64 0, .int .i64 0, .int .i64 0, .int .i64 0, .int .i64 0] 58 ?_; intro gb113 hg w23 hbox hb; have BK113 := o_ (hbox); have GW113 := o_ ((y6_ : w.heap.size ≤ gb113)); replace HB := o_ (below_step (hd_ HB.1) hb); have GE113 := GW113; clear hb hbox hg; obtain ⟨_, _, _, _, _, _, _, _⟩ := e4_ BK113.1; obtain ⟨_, _, _, _, _, _, _, _⟩ := z5_ BK113.1))
         generalize hw_ : ((((((((w23.setCell ⟨gb113, 0, none⟩ (.int .i64 ((rd_T58 l0 x10_1).f0.f0))).setCell ⟨gb113, 1, none⟩ (.int .i64 ((rd_T58 l0 x10_1).f0.f1))).setCell ⟨gb113, 2, none⟩ (.int .i64 ((rd_T58 l0 x10_1).f0.f2))).setCell ⟨gb113, 3, none⟩ (.int .i64 ((rd_T58 l0 x10_1).f0.f3))).setCell ⟨gb113, 4, none⟩ (.int .i64 ((rd_T58 l0 x10_1).f0.f4))).setCell ⟨gb113, 5, none⟩ (.int .i64 ((rd_T58 l0 x10_1).f1))).setCell ⟨gb113, 6, none⟩ (.int .i64 ((rd_T58 l0 x10_1).f2))).setCell ⟨gb113, 7, none⟩ (.int .i64 ((rd_T58 l0 x10_1).f3))) = w25
         replace BK113 : Aside0 (w25.heap[gb113]? = some (c8_ ((rd_T58 l0 x10_1).f0.f0) ((rd_T58 l0 x10_1).f0.f1) ((rd_T58 l0 x10_1).f0.f2) ((rd_T58 l0 x10_1).f0.f3) ((rd_T58 l0 x10_1).f0.f4) ((rd_T58 l0 x10_1).f1) ((rd_T58 l0 x10_1).f2) ((rd_T58 l0 x10_1).f3))) := ⟨by rw [← hw_]; exact bk_ BK113.1⟩
         replace HB : Aside0 (Below w.heap.size w w25) := ⟨by rw [← hw_]; exact wb_⟩
         clear hw_
         replace BK113 := o_ (blk_drew BK113.1)
         replace HB := o_ (below_drew1 HB.1)
         refine start_ (n := 20) (S := fun w' => q3e_ w' gb113 ((rd_T58 l0 x10_1).f0.f0) ((rd_T58 l0 x10_1).f0.f1) ((rd_T58 l0 x10_1).f0.f2) ((rd_T58 l0 x10_1).f0.f3) ((rd_T58 l0 x10_1).f0.f4) ((rd_T58 l0 x10_1).f1) ((rd_T58 l0 x10_1).f2) ((rd_T58 l0 x10_1).f3)) (ds := []) M0_0 (by kernel_rfl) rfl rfl (k3e_ BK113.1) (fun hHeld => ?_); refine with_tabW impl_AreFinds.tab6 impl_AreFinds.bits6 (fun HT_ HW_ => ?_)
         generalize w25.drew = w26 at BK113 HB hHeld ⊢
         refine tk_ 0 (some 15) M0_1 HT_ HW_ hHeld ?_
         refine one_ (i := 1) (N := some 16) M0_2 rfl rfl (one_of HT_.1 (by kernel_rfl)) (by decide) (fun K hK => ?_)
         refine goes_ Try.func60 (by kernel_rfl) rfl #[.agg #[.int .i64 ((rd_T58 l0 x10_1).f0.f0), .int .i64 ((rd_T58 l0 x10_1).f0.f1), .int .i64 ((rd_T58 l0 x10_1).f0.f2), .int .i64 ((rd_T58 l0 x10_1).f0.f3), .int .i64 ((rd_T58 l0 x10_1).f0.f4), .int .i64 ((rd_T58 l0 x10_1).f1), .int .i64 ((rd_T58 l0 x10_1).f2), .int .i64 ((rd_T58 l0 x10_1).f3)]] (by rfl) rfl rfl ma_ ?_
         with_reducible refine (impl_IsFind.calls ((rd_T58 l0 x10_1).f0.f0) ((rd_T58 l0 x10_1).f0.f1) ((rd_T58 l0 x10_1).f0.f2) ((rd_T58 l0 x10_1).f0.f3) ((rd_T58 l0 x10_1).f0.f4) ((rd_T58 l0 x10_1).f1) ((rd_T58 l0 x10_1).f2) ((rd_T58 l0 x10_1).f3) true _ A6.1).mono ?_
         rintro e w27 ⟨rfl, hb⟩
         refine ⟨_, rfl, ?_⟩
         replace BK113 := o_ (blk_below (bd_ BK113.1) hb)
         replace HB := o_ (below_step (wb_) hb)
         (try clear hb)
         (try clear hb2)
         (try clear hk)
         (try clear hi)
         refine hK.out _ _ (k3e_ BK113.1) (fun hHeld => ?_)
         clear hK K
         refine norm_ (a' := ?_) ?_ ?_
         rotate_left
         ·
          show Act.put _ (some 16) _ = _
          simp only [Act.put, P0_1, P0_2, P0_3, i64_w, i32_w]
          rfl
         refine pu_ 2 (some 17) M0_3 HT_ ?_
         refine pu_ 3 (some 18) M0_4 HT_ ?_
         refine pu_ 4 (some 19) M0_5 HT_ ?_
         refine pu_ 5 (some 20) M0_6 HT_ ?_
         refine pu_ 6 (some 21) M0_7 HT_ ?_
         refine pn_ 7 (some 22) M0_8 HT_ ?_
         refine pn_ 8 (some 23) M0_9 HT_ ?_
         refine pn_ 9 (some 24) M0_21 HT_ ?_
         refine pn_ 10 (some 25) M0_22 HT_ ?_
         refine pn_ 11 (some 26) M0_23 HT_ ?_
         refine pn_ 12 (some 27) M0_24 HT_ ?_
         refine pn_ 13 (some 28) M0_25 HT_ ?_
         refine pn_ 14 (some 29) M0_26 HT_ ?_
         refine pn_ 15 (some 30) M0_16 HT_ ?_
         refine pn_ 16 (some 31) M0_17 HT_ ?_
         refine pn_ 17 (some 32) M0_18 HT_ ?_
         refine pu_ 18 (some 33) M0_19 HT_ ?_
         refine pu_ 19 (some 34) M0_20 HT_ ?_
         refine done_ (done_of HT_.1 (by kernel_rfl)) ?_
         try go_wp2
         go_roundg k1
         case measure => have := HK1.1; omega
         case rel => exact ⟨(wrap64 (x10_1 + 1)), rs_, H', ⟨by have := HK1.1; omega⟩, ⟨wb_⟩⟩
       ·
        replace c7 := Bool.eq_false_iff.mpr c7
        subst c7
        have H1 := H
        rw [if_neg nt_] at H1
        clear H
        have H := H1
        clear H1
        obtain rfl := Option.some.inj H
        have p112 : 0 ≤ (x10_1 : Int) := of_decide_eq_true as_
        have q112 : x10_1 < (l0.length : Int) := of_decide_eq_true as_
        obtain ⟨ad112, e112, hx112_0, hx112_1, hx112_2, hx112_3, hx112_4, hx112_5, hx112_6, hx112_7⟩ := at_T58 HR0.1 x10_1 p112 q112
        cases e112
        replace hx112_0 := cb_ HB.1 hx112_0
        replace hx112_1 := cb_ HB.1 hx112_1
        replace hx112_2 := cb_ HB.1 hx112_2
        replace hx112_3 := cb_ HB.1 hx112_3
        replace hx112_4 := cb_ HB.1 hx112_4
        replace hx112_5 := cb_ HB.1 hx112_5
        replace hx112_6 := cb_ HB.1 hx112_6
        replace hx112_7 := cb_ HB.1 hx112_7
        replace p112 := eq_true p112
        replace q112 := eq_true q112
        try go_wp2_with (first | ((with_reducible refine gate_dst (N := 4) rfl ?_); refine bx_ 4 #[.int .i64 0, .int .i64 0, .int .i64 0, .int .i64 0, .int .i64 0, .int .i64 0, .int .i64 0, .int .i64 0] 58 ?_; intro gb113 hg w28 hbox hb; have BK113 := o_ (hbox); have GW113 := o_ ((y6_ : w.heap.size ≤ gb113)); replace HB := o_ (below_step (hd_ HB.1) hb); have GE113 := GW113; clear hb hbox hg; obtain ⟨_, _, _, _, _, _, _, _⟩ := e4_ BK113.1; obtain ⟨_, _, _, _, _, _, _, _⟩ := z5_ BK113.1))
        generalize hw_ : ((((((((w28.setCell ⟨gb113, 0, none⟩ (.int .i64 ((rd_T58 l0 x10_1).f0.f0))).setCell ⟨gb113, 1, none⟩ (.int .i64 ((rd_T58 l0 x10_1).f0.f1))).setCell ⟨gb113, 2, none⟩ (.int .i64 ((rd_T58 l0 x10_1).f0.f2))).setCell ⟨gb113, 3, none⟩ (.int .i64 ((rd_T58 l0 x10_1).f0.f3))).setCell ⟨gb113, 4, none⟩ (.int .i64 ((rd_T58 l0 x10_1).f0.f4))).setCell ⟨gb113, 5, none⟩ (.int .i64 ((rd_T58 l0 x10_1).f1))).setCell ⟨gb113, 6, none⟩ (.int .i64 ((rd_T58 l0 x10_1).f2))).setCell ⟨gb113, 7, none⟩ (.int .i64 ((rd_T58 l0 x10_1).f3))) = w30
        replace BK113 : Aside0 (w30.heap[gb113]? = some (c8_ ((rd_T58 l0 x10_1).f0.f0) ((rd_T58 l0 x10_1).f0.f1) ((rd_T58 l0 x10_1).f0.f2) ((rd_T58 l0 x10_1).f0.f3) ((rd_T58 l0 x10_1).f0.f4) ((rd_T58 l0 x10_1).f1) ((rd_T58 l0 x10_1).f2) ((rd_T58 l0 x10_1).f3))) := ⟨by rw [← hw_]; exact bk_ BK113.1⟩
        replace HB : Aside0 (Below w.heap.size w w30) := ⟨by rw [← hw_]; exact wb_⟩
        clear hw_
        replace BK113 := o_ (blk_drew BK113.1)
        replace HB := o_ (below_drew1 HB.1)
        refine start_ (n := 20) (S := fun w' => q3e_ w' gb113 ((rd_T58 l0 x10_1).f0.f0) ((rd_T58 l0 x10_1).f0.f1) ((rd_T58 l0 x10_1).f0.f2) ((rd_T58 l0 x10_1).f0.f3) ((rd_T58 l0 x10_1).f0.f4) ((rd_T58 l0 x10_1).f1) ((rd_T58 l0 x10_1).f2) ((rd_T58 l0 x10_1).f3)) (ds := []) M0_0 (by kernel_rfl) rfl rfl (k3e_ BK113.1) (fun hHeld => ?_); refine with_tabW impl_AreFinds.tab6 impl_AreFinds.bits6 (fun HT_ HW_ => ?_)
        generalize w30.drew = w31 at BK113 HB hHeld ⊢
        refine tk_ 0 (some 15) M0_1 HT_ HW_ hHeld ?_
        refine one_ (i := 1) (N := some 16) M0_2 rfl rfl (one_of HT_.1 (by kernel_rfl)) (by decide) (fun K hK => ?_)
        refine goes_ Try.func60 (by kernel_rfl) rfl #[.agg #[.int .i64 ((rd_T58 l0 x10_1).f0.f0), .int .i64 ((rd_T58 l0 x10_1).f0.f1), .int .i64 ((rd_T58 l0 x10_1).f0.f2), .int .i64 ((rd_T58 l0 x10_1).f0.f3), .int .i64 ((rd_T58 l0 x10_1).f0.f4), .int .i64 ((rd_T58 l0 x10_1).f1), .int .i64 ((rd_T58 l0 x10_1).f2), .int .i64 ((rd_T58 l0 x10_1).f3)]] (by rfl) rfl rfl ma_ ?_
        with_reducible refine (impl_IsFind.calls ((rd_T58 l0 x10_1).f0.f0) ((rd_T58 l0 x10_1).f0.f1) ((rd_T58 l0 x10_1).f0.f2) ((rd_T58 l0 x10_1).f0.f3) ((rd_T58 l0 x10_1).f0.f4) ((rd_T58 l0 x10_1).f1) ((rd_T58 l0 x10_1).f2) ((rd_T58 l0 x10_1).f3) false _ A6.1).mono ?_
        rintro e w32 ⟨rfl, hb⟩
        refine ⟨_, rfl, ?_⟩
        replace BK113 := o_ (blk_below (bd_ BK113.1) hb)
        replace HB := o_ (below_step (wb_) hb)
        (try clear hb)
        (try clear hb2)
        (try clear hk)
        (try clear hi)
        refine hK.out _ _ (k3e_ BK113.1) (fun hHeld => ?_)
        clear hK K
        refine norm_ (a' := ?_) ?_ ?_
        rotate_left
        ·
         show Act.put _ (some 16) _ = _
         simp only [Act.put, P0_1, P0_2, P0_3, i64_w, i32_w]
         rfl
        refine pu_ 2 (some 17) M0_3 HT_ ?_
        refine pu_ 3 (some 18) M0_4 HT_ ?_
        refine pn_ 4 (some 19) M0_5 HT_ ?_
        refine pn_ 5 (some 20) M0_6 HT_ ?_
        refine pn_ 6 (some 21) M0_7 HT_ ?_
        refine pn_ 7 (some 22) M0_8 HT_ ?_
        refine pn_ 8 (some 23) M0_9 HT_ ?_
        refine pn_ 9 (some 24) M0_21 HT_ ?_
        refine pn_ 10 (some 25) M0_22 HT_ ?_
        refine pn_ 11 (some 26) M0_23 HT_ ?_
        refine pn_ 12 (some 27) M0_24 HT_ ?_
        refine pn_ 13 (some 28) M0_25 HT_ ?_
        refine pn_ 14 (some 29) M0_26 HT_ ?_
        refine pn_ 15 (some 30) M0_16 HT_ ?_
        refine pn_ 16 (some 31) M0_17 HT_ ?_
        refine pn_ 17 (some 32) M0_18 HT_ ?_
        refine pn_ 18 (some 33) M0_19 HT_ ?_
        refine pu_ 19 (some 34) M0_20 HT_ ?_
        refine done_ (done_of HT_.1 (by kernel_rfl)) ?_
        try go_wp2
        go_ret
        exact ⟨rt_, wb_⟩
      ·
       rw [if_neg c5] at H
       exact absurd H (by simp)
     ·
      rw [if_neg c4] at H
      exact absurd H (by simp)
    ·
     rw [if_neg c3] at H
     have c3b0 := decide_eq_false c3
     clear c3
     obtain rfl := Option.some.inj H
     go_wp2
     go_ret
     exact ⟨rt_, hd_ HB.1⟩

/-! ### impl_Find_73: function 73 -/
set_option maxHeartbeats 8000000 in
set_option maxRecDepth 100000 in
theorem impl_Find_73.calls (p : S58 → Bool) (g : Nat) (lb : Array Value) (eg : ∀ args w, (callFunc g args).run Try.prog w = .ok (.enter g args) w) (A0 : Option Addr) (c0 : Nat) (l0 : List S58) (w : World) (hr0 : Kd.C k58 w A0 l0.length l0)
    (hp : ∀ (x : S58) (W : World), Below w.heap.size w W → Calls Try.prog g (#[.agg #[.int .i64 x.f0.f0, .int .i64 x.f0.f1, .int .i64 x.f0.f2, .int .i64 x.f0.f3, .int .i64 x.f0.f4, .int .i64 x.f1, .int .i64 x.f2, .int .i64 x.f3]] ++ lb) W fun e W' => e = .returned (.bool (p x)) ∧ Below W.heap.size W W') :
    Calls Try.prog 73 #[.slice A0 l0.length c0, .func (.func g) #[] lb] w fun e w' => e = .returned (.int .i64 (EvLib.idxB p l0 0)) ∧ Below w.heap.size w w' := by
  have hu58 := Try.underlying58
  have hu56 := Try.underlying56
  have HR0 := o_ hr0
  have HP := o_ hp
  have hmax := Kd.C_max hr0
  clear hr0 hp
  go_enter Try.func73, Try.ntmps73
  go_wp2
  go_loopg [5, 8] l0.length (fun gg _ v8 wr => ∃ z : Int, v8 = .int .i64 z ∧ Aside0 (0 ≤ z) ∧ Aside0 (z ≤ (l0.length : Int)) ∧ Aside0 ((l0.length : Int) - z ≤ gg) ∧ Aside0 (Below w.heap.size w wr) ∧ Aside0 (EvLib.idxB p (l0.drop z.toNat) z.toNat = EvLib.idxB p l0 0))
  case atStart => exact ⟨0, rfl, ⟨by omega⟩, ⟨by omega⟩, ⟨by omega⟩, ⟨Below.refl _ _⟩, ⟨rfl⟩⟩
  case round =>
    obtain ⟨z, rfl, Z0, Z1, ZG, HB, HI⟩ := hrel
    by_cases hlt : z < (l0.length : Int)
    · have p1 : 0 ≤ z := Z0.1
      obtain ⟨ad, e, hx0, hx1, hx2, hx3, hx4, hx5, hx6, hx7⟩ := at_T58 HR0.1 z p1 hlt
      cases e
      replace hx0 := pw_cell_below HB.1 hx0
      replace hx1 := pw_cell_below HB.1 hx1
      replace hx2 := pw_cell_below HB.1 hx2
      replace hx3 := pw_cell_below HB.1 hx3
      replace hx4 := pw_cell_below HB.1 hx4
      replace hx5 := pw_cell_below HB.1 hx5
      replace hx6 := pw_cell_below HB.1 hx6
      replace hx7 := pw_cell_below HB.1 hx7
      have hcall := HP.1 (rd_T58 l0 z) wr HB.1
      have hat := o_ (EvLib.idxB_at p z58 l0 z.toNat (by omega))
      cases hq : p (rd_T58 l0 z) with
      | true =>
        rw [hq] at hcall
        have HQ := o_ hq
        clear hq
        have hltb : decide (z < (l0.length : Int)) = true := decide_eq_true hlt
        replace p1 := eq_true p1
        replace hlt := eq_true hlt
        go_wp2_with (go_at_fn g; refine hcall.mono ?_; rintro e w' ⟨rfl, hb⟩; have n1_ := o_ (below_step HB.1 hb); clear HB; have HB := n1_; clear n1_ hb)
        go_ret
        have hz : EvLib.idxB p l0 0 = z := by rw [← HI.1, hat.1, if_pos (show p (l0.getD z.toNat z58) = true from HQ.1), Int.toNat_of_nonneg Z0.1]
        exact ⟨by rw [hz]; rfl, HB.1⟩
      | false =>
        rw [hq] at hcall
        have HQ := o_ hq
        clear hq
        have HL := o_ hlt
        have hltb : decide (z < (l0.length : Int)) = true := decide_eq_true hlt
        replace p1 := eq_true p1
        replace hlt := eq_true hlt
        have hwr : wrap64 (z + 1) = z + 1 := by have := Z0.1; have := HL.1; unfold wrap64; omega
        go_wp2_with (go_at_fn g; refine hcall.mono ?_; rintro e w' ⟨rfl, hb⟩; have n1_ := o_ (below_step HB.1 hb); clear HB; have HB := n1_; clear n1_ hb)
        go_roundg ((l0.length : Int) - (z + 1)).toNat
        case measure => have := Z0.1; have := HL.1; have := ZG.1; omega
        case rel =>
          refine ⟨z + 1, by first | rfl | (simp; done) | (simp [*]; done), ⟨by have := Z0.1; omega⟩, ⟨by have := HL.1; omega⟩, ⟨by have := HL.1; omega⟩, ⟨HB.1⟩, ⟨?_⟩⟩
          rw [← HI.1, hat.1, if_neg (by rw [show p (l0.getD z.toNat z58) = false from HQ.1]; simp)]
          have e1 : (z + 1).toNat = z.toNat + 1 := by have := Z0.1; omega
          rw [e1]
    · have hltb : decide (z < (l0.length : Int)) = false := decide_eq_false hlt
      have HE := o_ (EvLib.idxB_end p l0 z.toNat (by have := Z1.1; omega))
      clear hlt
      go_wp2
      go_ret
      have hz : EvLib.idxB p l0 0 = -1 := by rw [← HI.1, HE.1]
      exact ⟨by rw [hz]; rfl, HB.1⟩


end Go.Proofs.Ytglpmjcknhcjcaa.PFnTwins
