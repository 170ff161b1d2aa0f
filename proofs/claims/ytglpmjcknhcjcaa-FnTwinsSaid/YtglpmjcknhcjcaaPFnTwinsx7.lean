-- Written for this claim by a program (a printer turned to this claim); Lean checks it.
import Derived.Test.YtglpmjcknhcjcaaPFnTwinsx0
import Derived.Test.YtglpmjcknhcjcaaPFnTwinsx6
namespace Go.Proofs.Ytglpmjcknhcjcaa.PFnTwins
open Go.RowKit Go.Proofs.YtglpmjcknhcjcaaW.PrintWords Go.Proofs.YtglpmjcknhcjcaaW.PrintLast Go.Proofs.YtglpmjcknhcjcaaW.PrintMore
attribute [local go_sem] max2_int min2_int max_two min_two max_three min_three max_four min_four   -- for this text's walks alone
set_option linter.unusedVariables false
set_option linter.unusedSimpArgs false

/-! ### spec_AreFinds: function 40 -/
def spec_AreFinds.l0 : Nat → List (S58) → Int → Option (Bool)
 | 0, _, _ => none
 | k + 1, x0, x3 => if x3 < (x0.length : Int) then (if 0 ≤ x3 then ((spec_IsFind.f ((rd_T58 x0 x3).f0.f0) ((rd_T58 x0 x3).f0.f1) ((rd_T58 x0 x3).f0.f2) ((rd_T58 x0 x3).f0.f3) ((rd_T58 x0 x3).f0.f4) ((rd_T58 x0 x3).f1) ((rd_T58 x0 x3).f2) ((rd_T58 x0 x3).f3)).bind fun t197 => (if t197 = true then (if x3 > 0 then (if 0 ≤ (wrap64 (x3 - 1)) then (if (wrap64 (x3 - 1)) < (x0.length : Int) then (if ((rd_T58 x0 (wrap64 (x3 - 1))).f0.f0) ≥ ((rd_T58 x0 x3).f0.f0) then (some false) else (spec_AreFinds.l0 k x0 (wrap64 (x3 + 1)))) else (none)) else (none)) else (spec_AreFinds.l0 k x0 (wrap64 (x3 + 1)))) else (some false))) else (none)) else (some (decide ((x0.length : Int) ≤ 20)))
def spec_AreFinds.f (k : Nat) (l0 : List (S58)) : Option (Bool) := spec_AreFinds.l0 k l0 0
theorem spec_AreFinds.mono_l : ∀ k, (∀ y0 y1, LeO (spec_AreFinds.l0 k y0 y1) (spec_AreFinds.l0 (k + 1) y0 y1))
 | 0 => fun _ _ r h => by simp [spec_AreFinds.l0] at h
 | k + 1 => by
  have ih0 := spec_AreFinds.mono_l k
  ·
   intro y0 y1
   unfold spec_AreFinds.l0
   exact mo_
theorem spec_AreFinds.mono : ∀ a0 k, LeO (spec_AreFinds.f k a0) (spec_AreFinds.f (k + 1) a0) := by
 intro a0 k
 have ih0 := spec_AreFinds.mono_l k
 unfold spec_AreFinds.f
 exact mo_
def spec_AreFinds.T4 : Bool × List (List Nat × List Nat) := (true, [([], []), ([], []), ([0, 1], [0, 1]), ([2], [2]), ([3], [3]), ([4], [4]), ([5, 4], [5]), ([6], [6]), ([7, 6], [6, 7]), ([8, 6, 6], [6, 8]), ([9], [9]), ([9], [9]), ([11, 9], [9, 11]), ([10, 12, 9], [9, 10, 12]), ([13, 9], [9, 13]), ([14, 9], [9, 14]), ([15, 9], [9, 15]), ([9], [9]), ([9], [9]), ([17, 18, 9], [9, 17, 18]), ([19, 9], [9, 19]), ([20, 9], [9, 20]), ([21, 9], [9, 21]), ([16, 22, 9], [9, 16, 22]), ([9, 23, 6], [6, 9, 23]), ([6, 24], [6, 24])])
def spec_AreFinds.B4 : List Nat := [0, 0, 3, 7, 15, 31, 63, 127, 255, 511, 1023, 1023, 3071, 8191, 16383, 32767, 65535, 1023, 1023, 394239, 918527, 1967103, 4064255, 8388607, 16777215, 33554431]
theorem spec_AreFinds.tab4 : rtab .any (opsOf Try.f40 4) = spec_AreFinds.T4 := by kernel_rfl
theorem spec_AreFinds.bits4 : waitsOk spec_AreFinds.T4.2 spec_AreFinds.B4 = true := by kernel_rfl
abbrev M2_0 := bm_ 26 0
abbrev M2_1 := bm_ 26 1
abbrev M2_2 := bm_ 26 3
abbrev M2_3 := bm_ 26 7
abbrev M2_4 := bm_ 26 15
abbrev M2_5 := bm_ 26 31
abbrev M2_6 := bm_ 26 63
abbrev M2_7 := bm_ 26 127
abbrev M2_8 := bm_ 26 255
abbrev M2_9 := bm_ 26 511
abbrev M2_10 := bm_ 26 1023
abbrev M2_11 := bm_ 26 2047
abbrev M2_12 := bm_ 26 4095
abbrev M2_13 := bm_ 26 8191
abbrev M2_14 := bm_ 26 16383
abbrev M2_15 := bm_ 26 32767
abbrev M2_16 := bm_ 26 65535
abbrev M2_17 := bm_ 26 196607
abbrev M2_18 := bm_ 26 458751
abbrev M2_19 := bm_ 26 983039
abbrev M2_20 := bm_ 26 2031615
abbrev M2_21 := bm_ 26 4128767
abbrev M2_22 := bm_ 26 4194303
abbrev M2_23 := bm_ 26 8388607
abbrev M2_24 := bm_ 26 16777215
abbrev M2_25 := bm_ 26 33554431
abbrev M2_26 := bm_ 26 67108863
abbrev M2_27 := bm_ 26 131071
abbrev M2_28 := bm_ 26 262143
abbrev M2_29 := bm_ 26 524287
abbrev M2_30 := bm_ 26 1048575
abbrev M2_31 := bm_ 26 2097151
theorem P2_1 {α : Type} (l : List α) (i : Nat) (a : α) : l.toArray.setIfInBounds i a = (l.set i a).toArray := List.setIfInBounds_toArray l i a
theorem P2_2 {α : Type} (x : α) (l : List α) (a : α) : (x :: l).set 0 a = a :: l := List.set_cons_zero
theorem P2_3 {α : Type} (x : α) (l : List α) (n : Nat) (a : α) : (x :: l).set (n + 1) a = x :: l.set n a := List.set_cons_succ
set_option maxHeartbeats 8000000 in
set_option maxRecDepth 100000 in
theorem spec_AreFinds.calls (k : Nat) (A0 : Option Addr) (c0 : Nat) (l0 : List (S58)) (r : Bool) (w : World) (hr0 : Kd.C k58 w A0 l0.length l0) (hc0 : l0.length ≤ c0) (h : spec_AreFinds.f k l0 = some r) :
  Calls Try.prog 40 #[.slice A0 l0.length c0] w fun e w' => e = .returned (.bool r) ∧ Below w.heap.size w w' := by
 have hu58 := Try.underlying58
 have HR0 := o_ hr0
 have HC0 := o_ hc0
 clear hr0 hc0
 have HB := o_ (Below.refl w.heap.size w)
 have H : (spec_AreFinds.l0 k l0 0) = some r := h
 clear h
 have H' := o_ H
 clear H
 go_enter Try.func40, Try.ntmps40
 go_wp2
 go_loopg [3] k (fun kq v3 w' => ∃ (x3_1 : Int), v3 = .int .i64 x3_1 ∧ Aside0 (spec_AreFinds.l0 kq l0 x3_1 = some r) ∧ Aside0 (kq ≤ k) ∧ Aside0 (Below w.heap.size w w'))
 case atStart => exact ⟨(0), rs_, H', ⟨Nat.le_refl _⟩, ⟨hd_ HB.1⟩⟩
 case round =>
  clear H'
  obtain ⟨x3_1, rfl, HA, HK1, HB⟩ := hrel
  cases gk with
  | zero => exact absurd HA.1 (by simp [spec_AreFinds.l0])
  | succ k1 =>
   have H := HA.1
   clear HA
   simp only [spec_AreFinds.l0] at H
   by_cases c2 : x3_1 < (l0.length : Int)
   ·
    rw [if_pos c2] at H
    have c2b0 := decide_eq_true c2
    clear c2
    by_cases c3 : 0 ≤ x3_1
    ·
     rw [if_pos c3] at H
     have c3b0 := decide_eq_true c3
     clear c3
     obtain ⟨t197, A4, H⟩ := ob_ H
     try dsimp only at H
     by_cases c5 : t197 = true
     ·
      subst c5
      have H1 := H
      rw [if_pos rfl] at H1
      clear H
      have H := H1
      clear H1
      by_cases c6 : x3_1 > 0
      ·
       rw [if_pos c6] at H
       have c6b0 := decide_eq_true c6
       clear c6
       obtain ⟨ji7, hji7⟩ : ∃ j_ : Int, (wrap64 (x3_1 - 1)) = j_ := ⟨_, rfl⟩
       replace H : (if 0 ≤ (ji7) then (if (ji7) < (l0.length : Int) then (if ((rd_T58 l0 (ji7)).f0.f0) ≥ ((rd_T58 l0 x3_1).f0.f0) then (some false) else (spec_AreFinds.l0 k1 l0 (wrap64 (x3_1 + 1)))) else (none)) else (none)) = some r := by first | (rw [hji7] at H; exact H) | (simp only [hji7] at H ⊢; exact H)
       (try rw [hji7] at A4)
       have hji7w : (IntKind.i64.wrap (x3_1 - 1)) = ji7 := (i64_w _).trans hji7
       by_cases c8 : 0 ≤ (ji7)
       ·
        rw [if_pos c8] at H
        have c8b0 := decide_eq_true c8
        clear c8
        by_cases c9 : (ji7) < (l0.length : Int)
        ·
         rw [if_pos c9] at H
         have c9b0 := decide_eq_true c9
         clear c9
         have HH_ := Aside0.mk H
         clear H
         try go_wp2
         replace HB := o_ (below_drew1 HB.1)
         have p196 : 0 ≤ (x3_1 : Int) := of_decide_eq_true as_
         have q196 : x3_1 < (l0.length : Int) := of_decide_eq_true as_
         obtain ⟨ad196, e196, hx196_0, hx196_1, hx196_2, hx196_3, hx196_4, hx196_5, hx196_6, hx196_7⟩ := at_T58 HR0.1 x3_1 p196 q196
         have hw196_7 := hx196_7
         have hw196_6 := hx196_6
         have hw196_5 := hx196_5
         have hw196_4 := hx196_4
         have hw196_3 := hx196_3
         have hw196_2 := hx196_2
         have hw196_1 := hx196_1
         have hw196_0 := hx196_0
         cases e196
         replace hx196_0 := cb_ HB.1 hx196_0
         replace hx196_1 := cb_ HB.1 hx196_1
         replace hx196_2 := cb_ HB.1 hx196_2
         replace hx196_3 := cb_ HB.1 hx196_3
         replace hx196_4 := cb_ HB.1 hx196_4
         replace hx196_5 := cb_ HB.1 hx196_5
         replace hx196_6 := cb_ HB.1 hx196_6
         replace hx196_7 := cb_ HB.1 hx196_7
         replace p196 := eq_true p196
         replace q196 := eq_true q196
         have p198 : 0 ≤ ((ji7) : Int) := of_decide_eq_true as_
         have q198 : (ji7) < (l0.length : Int) := of_decide_eq_true as_
         obtain ⟨ad198, e198, hx198_0, hx198_1, hx198_2, hx198_3, hx198_4, hx198_5, hx198_6, hx198_7⟩ := at_T58 HR0.1 (ji7) p198 q198
         have hw198_7 := hx198_7
         have hw198_6 := hx198_6
         have hw198_5 := hx198_5
         have hw198_4 := hx198_4
         have hw198_3 := hx198_3
         have hw198_2 := hx198_2
         have hw198_1 := hx198_1
         have hw198_0 := hx198_0
         obtain rfl : ad196 = ad198 := (by injection e198)
         replace hx198_0 := cb_ HB.1 hx198_0
         replace hx198_1 := cb_ HB.1 hx198_1
         replace hx198_2 := cb_ HB.1 hx198_2
         replace hx198_3 := cb_ HB.1 hx198_3
         replace hx198_4 := cb_ HB.1 hx198_4
         replace hx198_5 := cb_ HB.1 hx198_5
         replace hx198_6 := cb_ HB.1 hx198_6
         replace hx198_7 := cb_ HB.1 hx198_7
         replace p198 := eq_true p198
         replace q198 := eq_true q198
         have p199 : 0 ≤ (x3_1 : Int) := of_decide_eq_true as_
         have q199 : x3_1 < (l0.length : Int) := of_decide_eq_true as_
         obtain ⟨ad199, e199, hx199_0, hx199_1, hx199_2, hx199_3, hx199_4, hx199_5, hx199_6, hx199_7⟩ := at_T58 HR0.1 x3_1 p199 q199
         have hw199_7 := hx199_7
         have hw199_6 := hx199_6
         have hw199_5 := hx199_5
         have hw199_4 := hx199_4
         have hw199_3 := hx199_3
         have hw199_2 := hx199_2
         have hw199_1 := hx199_1
         have hw199_0 := hx199_0
         obtain rfl : ad196 = ad199 := (by injection e199)
         replace hx199_0 := cb_ HB.1 hx199_0
         replace hx199_1 := cb_ HB.1 hx199_1
         replace hx199_2 := cb_ HB.1 hx199_2
         replace hx199_3 := cb_ HB.1 hx199_3
         replace hx199_4 := cb_ HB.1 hx199_4
         replace hx199_5 := cb_ HB.1 hx199_5
         replace hx199_6 := cb_ HB.1 hx199_6
         replace hx199_7 := cb_ HB.1 hx199_7
         replace p199 := eq_true p199
         replace q199 := eq_true q199
         refine start_ (n := 26) (S := fun w' => q4_ w' (ad196.add ((x3_1).toNat * 8)) ((rd_T58 l0 x3_1).f0.f0) ((rd_T58 l0 x3_1).f0.f1) ((rd_T58 l0 x3_1).f0.f2) ((rd_T58 l0 x3_1).f0.f3) ((rd_T58 l0 x3_1).f0.f4) ((rd_T58 l0 x3_1).f1) ((rd_T58 l0 x3_1).f2) ((rd_T58 l0 x3_1).f3) (q4_ w' (ad196.add (((ji7)).toNat * 8)) ((rd_T58 l0 (ji7)).f0.f0) ((rd_T58 l0 (ji7)).f0.f1) ((rd_T58 l0 (ji7)).f0.f2) ((rd_T58 l0 (ji7)).f0.f3) ((rd_T58 l0 (ji7)).f0.f4) ((rd_T58 l0 (ji7)).f1) ((rd_T58 l0 (ji7)).f2) ((rd_T58 l0 (ji7)).f3) (q4e_ w' (ad196.add ((x3_1).toNat * 8)) ((rd_T58 l0 x3_1).f0.f0) ((rd_T58 l0 x3_1).f0.f1) ((rd_T58 l0 x3_1).f0.f2) ((rd_T58 l0 x3_1).f0.f3) ((rd_T58 l0 x3_1).f0.f4) ((rd_T58 l0 x3_1).f1) ((rd_T58 l0 x3_1).f2) ((rd_T58 l0 x3_1).f3)))) (ds := []) M2_0 (by kernel_rfl) rfl rfl ⟨(cb_ HB.1 hw196_0), (cb_ HB.1 hw196_1), (cb_ HB.1 hw196_2), (cb_ HB.1 hw196_3), (cb_ HB.1 hw196_4), (cb_ HB.1 hw196_5), (cb_ HB.1 hw196_6), (cb_ HB.1 hw196_7), (cb_ HB.1 hw198_0), (cb_ HB.1 hw198_1), (cb_ HB.1 hw198_2), (cb_ HB.1 hw198_3), (cb_ HB.1 hw198_4), (cb_ HB.1 hw198_5), (cb_ HB.1 hw198_6), (cb_ HB.1 hw198_7), (cb_ HB.1 hw199_0), (cb_ HB.1 hw199_1), (cb_ HB.1 hw199_2), (cb_ HB.1 hw199_3), (cb_ HB.1 hw199_4), (cb_ HB.1 hw199_5), (cb_ HB.1 hw199_6), (cb_ HB.1 hw199_7)⟩ (fun hHeld => ?_); refine with_tabW spec_AreFinds.tab4 spec_AreFinds.bits4 (fun HT_ HW_ => ?_)
         generalize wr.drew = w11 at HB hx196_0 hx196_1 hx196_2 hx196_3 hx196_4 hx196_5 hx196_6 hx196_7 hx198_0 hx198_1 hx198_2 hx198_3 hx198_4 hx198_5 hx198_6 hx198_7 hx199_0 hx199_1 hx199_2 hx199_3 hx199_4 hx199_5 hx199_6 hx199_7 hHeld ⊢
         refine pu_ 0 (some 10) M2_1 HT_ ?_
         refine pu_ 1 (some 11) M2_2 HT_ ?_
         refine pu_ 2 (some 12) M2_3 HT_ ?_
         refine tk_ 3 (some 13) M2_4 HT_ HW_ hHeld ?_
         refine one_ (i := 4) (N := some 14) M2_5 rfl rfl (one_of HT_.1 (by kernel_rfl)) (by decide) (fun K hK => ?_)
         refine goes_ Try.func70 (by kernel_rfl) rfl #[.agg #[.int .i64 ((rd_T58 l0 x3_1).f0.f0), .int .i64 ((rd_T58 l0 x3_1).f0.f1), .int .i64 ((rd_T58 l0 x3_1).f0.f2), .int .i64 ((rd_T58 l0 x3_1).f0.f3), .int .i64 ((rd_T58 l0 x3_1).f0.f4), .int .i64 ((rd_T58 l0 x3_1).f1), .int .i64 ((rd_T58 l0 x3_1).f2), .int .i64 ((rd_T58 l0 x3_1).f3)]] (by rfl) rfl rfl ma_ ?_
         with_reducible refine (spec_IsFind.calls ((rd_T58 l0 x3_1).f0.f0) ((rd_T58 l0 x3_1).f0.f1) ((rd_T58 l0 x3_1).f0.f2) ((rd_T58 l0 x3_1).f0.f3) ((rd_T58 l0 x3_1).f0.f4) ((rd_T58 l0 x3_1).f1) ((rd_T58 l0 x3_1).f2) ((rd_T58 l0 x3_1).f3) true _ A4.1).mono ?_
         rintro e w12 ⟨rfl, hb⟩
         refine ⟨_, rfl, ?_⟩
         replace HB := o_ (below_step (hd_ HB.1) hb)
         (try clear hb)
         (try clear hb2)
         (try clear hk)
         (try clear hi)
         refine hK.out _ _ ⟨(cb_ HB.1 hw196_0), (cb_ HB.1 hw196_1), (cb_ HB.1 hw196_2), (cb_ HB.1 hw196_3), (cb_ HB.1 hw196_4), (cb_ HB.1 hw196_5), (cb_ HB.1 hw196_6), (cb_ HB.1 hw196_7), (cb_ HB.1 hw198_0), (cb_ HB.1 hw198_1), (cb_ HB.1 hw198_2), (cb_ HB.1 hw198_3), (cb_ HB.1 hw198_4), (cb_ HB.1 hw198_5), (cb_ HB.1 hw198_6), (cb_ HB.1 hw198_7), (cb_ HB.1 hw199_0), (cb_ HB.1 hw199_1), (cb_ HB.1 hw199_2), (cb_ HB.1 hw199_3), (cb_ HB.1 hw199_4), (cb_ HB.1 hw199_5), (cb_ HB.1 hw199_6), (cb_ HB.1 hw199_7)⟩ (fun hHeld => ?_)
         clear hK K
         refine norm_ (a' := ?_) ?_ ?_
         rotate_left
         ·
          show Act.put _ (some 14) _ = _
          simp only [Act.put, P2_1, P2_2, P2_3, i64_w, i32_w]
          rfl
         refine pu_ 5 (some 15) M2_6 HT_ ?_
         refine pu_ 6 (some 16) M2_7 HT_ ?_
         refine pu_ 7 (some 17) M2_8 HT_ ?_
         refine pu_ 8 (some 18) M2_9 HT_ ?_
         refine pu_ 9 (some 19) M2_10 HT_ ?_
         refine pu_ 10 (some 20) M2_11 HT_ ?_
         refine pu_ 11 (some 21) M2_12 HT_ ?_
         refine pu_ 12 (some 22) M2_13 HT_ ?_
         refine pu_ 13 (some 23) M2_14 HT_ ?_
         refine pu_ 14 (some 24) M2_15 HT_ ?_
         refine pu_ 15 (some 25) M2_16 HT_ ?_
         refine pu_ 17 (some 27) M2_17 HT_ ?_
         refine pu_ 18 (some 28) M2_18 HT_ ?_
         refine pu_ 19 (some 29) M2_19 HT_ ?_
         refine pu_ 20 (some 30) M2_20 HT_ ?_
         refine pu_ 21 (some 31) M2_21 HT_ ?_
         refine tk_ 16 (some 26) M2_22 HT_ HW_ hHeld ?_
         refine tk_ 22 (some 32) M2_23 HT_ HW_ hHeld ?_
         refine pu_ 23 (some 33) M2_24 HT_ ?_
         refine pu_ 24 (some 34) M2_25 HT_ ?_
         refine pu_ 25 (some 35) M2_26 HT_ ?_
         refine done_ (done_of HT_.1 (by kernel_rfl)) ?_
         have H := HH_.out
         clear HH_
         by_cases c10 : ((rd_T58 l0 (ji7)).f0.f0) ≥ ((rd_T58 l0 x3_1).f0.f0)
         ·
          rw [if_pos c10] at H
          have c10b0 := decide_eq_true c10
          (try rw [c10b0])
          clear c10
          obtain rfl := Option.some.inj H
          try go_wp2
          go_ret
          exact ⟨by first | rfl | (simp [errW_none, errW_some] <;> rfl) | (simp only [← hji7]; first | rfl | (simp [errW_none, errW_some] <;> rfl)) | (simp [*, errW_none, errW_some] <;> rfl), hd_ HB.1⟩
         ·
          rw [if_neg c10] at H
          have c10b0 := decide_eq_false c10
          (try rw [c10b0])
          clear c10
          have H' := o_ H
          clear H
          try go_wp2
          go_roundg k1
          case measure => have := HK1.1; omega
          case rel => exact ⟨(wrap64 (x3_1 + 1)), rs_, H', ⟨by have := HK1.1; omega⟩, ⟨hd_ HB.1⟩⟩
        ·
         rw [if_neg c9] at H
         exact absurd H (by simp)
       ·
        rw [if_neg c8] at H
        exact absurd H (by simp)
      ·
       rw [if_neg c6] at H
       have c6b0 := decide_eq_false c6
       clear c6
       have H' := o_ H
       clear H
       try go_wp2
       replace HB := o_ (below_drew1 HB.1)
       have p196 : 0 ≤ (x3_1 : Int) := of_decide_eq_true as_
       have q196 : x3_1 < (l0.length : Int) := of_decide_eq_true as_
       obtain ⟨ad196, e196, hx196_0, hx196_1, hx196_2, hx196_3, hx196_4, hx196_5, hx196_6, hx196_7⟩ := at_T58 HR0.1 x3_1 p196 q196
       have hw196_7 := hx196_7
       have hw196_6 := hx196_6
       have hw196_5 := hx196_5
       have hw196_4 := hx196_4
       have hw196_3 := hx196_3
       have hw196_2 := hx196_2
       have hw196_1 := hx196_1
       have hw196_0 := hx196_0
       cases e196
       replace hx196_0 := cb_ HB.1 hx196_0
       replace hx196_1 := cb_ HB.1 hx196_1
       replace hx196_2 := cb_ HB.1 hx196_2
       replace hx196_3 := cb_ HB.1 hx196_3
       replace hx196_4 := cb_ HB.1 hx196_4
       replace hx196_5 := cb_ HB.1 hx196_5
       replace hx196_6 := cb_ HB.1 hx196_6
       replace hx196_7 := cb_ HB.1 hx196_7
       replace p196 := eq_true p196
       replace q196 := eq_true q196
       refine start_ (n := 26) (S := fun w' => q4e_ w' (ad196.add ((x3_1).toNat * 8)) ((rd_T58 l0 x3_1).f0.f0) ((rd_T58 l0 x3_1).f0.f1) ((rd_T58 l0 x3_1).f0.f2) ((rd_T58 l0 x3_1).f0.f3) ((rd_T58 l0 x3_1).f0.f4) ((rd_T58 l0 x3_1).f1) ((rd_T58 l0 x3_1).f2) ((rd_T58 l0 x3_1).f3)) (ds := []) M2_0 (by kernel_rfl) rfl rfl ⟨(cb_ HB.1 hw196_0), (cb_ HB.1 hw196_1), (cb_ HB.1 hw196_2), (cb_ HB.1 hw196_3), (cb_ HB.1 hw196_4), (cb_ HB.1 hw196_5), (cb_ HB.1 hw196_6), (cb_ HB.1 hw196_7)⟩ (fun hHeld => ?_); refine with_tabW spec_AreFinds.tab4 spec_AreFinds.bits4 (fun HT_ HW_ => ?_)
       generalize wr.drew = w15 at HB hx196_0 hx196_1 hx196_2 hx196_3 hx196_4 hx196_5 hx196_6 hx196_7 hHeld ⊢
       refine pu_ 0 (some 10) M2_1 HT_ ?_
       refine pu_ 1 (some 11) M2_2 HT_ ?_
       refine pu_ 2 (some 12) M2_3 HT_ ?_
       refine tk_ 3 (some 13) M2_4 HT_ HW_ hHeld ?_
       refine one_ (i := 4) (N := some 14) M2_5 rfl rfl (one_of HT_.1 (by kernel_rfl)) (by decide) (fun K hK => ?_)
       refine goes_ Try.func70 (by kernel_rfl) rfl #[.agg #[.int .i64 ((rd_T58 l0 x3_1).f0.f0), .int .i64 ((rd_T58 l0 x3_1).f0.f1), .int .i64 ((rd_T58 l0 x3_1).f0.f2), .int .i64 ((rd_T58 l0 x3_1).f0.f3), .int .i64 ((rd_T58 l0 x3_1).f0.f4), .int .i64 ((rd_T58 l0 x3_1).f1), .int .i64 ((rd_T58 l0 x3_1).f2), .int .i64 ((rd_T58 l0 x3_1).f3)]] (by rfl) rfl rfl ma_ ?_
       with_reducible refine (spec_IsFind.calls ((rd_T58 l0 x3_1).f0.f0) ((rd_T58 l0 x3_1).f0.f1) ((rd_T58 l0 x3_1).f0.f2) ((rd_T58 l0 x3_1).f0.f3) ((rd_T58 l0 x3_1).f0.f4) ((rd_T58 l0 x3_1).f1) ((rd_T58 l0 x3_1).f2) ((rd_T58 l0 x3_1).f3) true _ A4.1).mono ?_
       rintro e w16 ⟨rfl, hb⟩
       refine ⟨_, rfl, ?_⟩
       replace HB := o_ (below_step (hd_ HB.1) hb)
       (try clear hb)
       (try clear hb2)
       (try clear hk)
       (try clear hi)
       refine hK.out _ _ ⟨(cb_ HB.1 hw196_0), (cb_ HB.1 hw196_1), (cb_ HB.1 hw196_2), (cb_ HB.1 hw196_3), (cb_ HB.1 hw196_4), (cb_ HB.1 hw196_5), (cb_ HB.1 hw196_6), (cb_ HB.1 hw196_7)⟩ (fun hHeld => ?_)
       clear hK K
       refine norm_ (a' := ?_) ?_ ?_
       rotate_left
       ·
        show Act.put _ (some 14) _ = _
        simp only [Act.put, P2_1, P2_2, P2_3, i64_w, i32_w]
        rfl
       refine pu_ 5 (some 15) M2_6 HT_ ?_
       refine pu_ 6 (some 16) M2_7 HT_ ?_
       refine pu_ 7 (some 17) M2_8 HT_ ?_
       refine pu_ 8 (some 18) M2_9 HT_ ?_
       refine pu_ 9 (some 19) M2_10 HT_ ?_
       refine pn_ 10 (some 20) M2_11 HT_ ?_
       refine pn_ 11 (some 21) M2_12 HT_ ?_
       refine pn_ 12 (some 22) M2_13 HT_ ?_
       refine pn_ 13 (some 23) M2_14 HT_ ?_
       refine pn_ 14 (some 24) M2_15 HT_ ?_
       refine pn_ 15 (some 25) M2_16 HT_ ?_
       refine pn_ 16 (some 26) M2_27 HT_ ?_
       refine pn_ 17 (some 27) M2_28 HT_ ?_
       refine pn_ 18 (some 28) M2_29 HT_ ?_
       refine pn_ 19 (some 29) M2_30 HT_ ?_
       refine pn_ 20 (some 30) M2_31 HT_ ?_
       refine pn_ 21 (some 31) M2_22 HT_ ?_
       refine pn_ 22 (some 32) M2_23 HT_ ?_
       refine pn_ 23 (some 33) M2_24 HT_ ?_
       refine pu_ 24 (some 34) M2_25 HT_ ?_
       refine pu_ 25 (some 35) M2_26 HT_ ?_
       refine done_ (done_of HT_.1 (by kernel_rfl)) ?_
       try go_wp2
       go_roundg k1
       case measure => have := HK1.1; omega
       case rel => exact ⟨(wrap64 (x3_1 + 1)), rs_, H', ⟨by have := HK1.1; omega⟩, ⟨hd_ HB.1⟩⟩
     ·
      replace c5 := Bool.eq_false_iff.mpr c5
      subst c5
      have H1 := H
      rw [if_neg nt_] at H1
      clear H
      have H := H1
      clear H1
      obtain rfl := Option.some.inj H
      try go_wp2
      replace HB := o_ (below_drew1 HB.1)
      have p196 : 0 ≤ (x3_1 : Int) := of_decide_eq_true as_
      have q196 : x3_1 < (l0.length : Int) := of_decide_eq_true as_
      obtain ⟨ad196, e196, hx196_0, hx196_1, hx196_2, hx196_3, hx196_4, hx196_5, hx196_6, hx196_7⟩ := at_T58 HR0.1 x3_1 p196 q196
      have hw196_7 := hx196_7
      have hw196_6 := hx196_6
      have hw196_5 := hx196_5
      have hw196_4 := hx196_4
      have hw196_3 := hx196_3
      have hw196_2 := hx196_2
      have hw196_1 := hx196_1
      have hw196_0 := hx196_0
      cases e196
      replace hx196_0 := cb_ HB.1 hx196_0
      replace hx196_1 := cb_ HB.1 hx196_1
      replace hx196_2 := cb_ HB.1 hx196_2
      replace hx196_3 := cb_ HB.1 hx196_3
      replace hx196_4 := cb_ HB.1 hx196_4
      replace hx196_5 := cb_ HB.1 hx196_5
      replace hx196_6 := cb_ HB.1 hx196_6
      replace hx196_7 := cb_ HB.1 hx196_7
      replace p196 := eq_true p196
      replace q196 := eq_true q196
      refine start_ (n := 26) (S := fun w' => q4e_ w' (ad196.add ((x3_1).toNat * 8)) ((rd_T58 l0 x3_1).f0.f0) ((rd_T58 l0 x3_1).f0.f1) ((rd_T58 l0 x3_1).f0.f2) ((rd_T58 l0 x3_1).f0.f3) ((rd_T58 l0 x3_1).f0.f4) ((rd_T58 l0 x3_1).f1) ((rd_T58 l0 x3_1).f2) ((rd_T58 l0 x3_1).f3)) (ds := []) M2_0 (by kernel_rfl) rfl rfl ⟨(cb_ HB.1 hw196_0), (cb_ HB.1 hw196_1), (cb_ HB.1 hw196_2), (cb_ HB.1 hw196_3), (cb_ HB.1 hw196_4), (cb_ HB.1 hw196_5), (cb_ HB.1 hw196_6), (cb_ HB.1 hw196_7)⟩ (fun hHeld => ?_); refine with_tabW spec_AreFinds.tab4 spec_AreFinds.bits4 (fun HT_ HW_ => ?_)
      generalize wr.drew = w17 at HB hx196_0 hx196_1 hx196_2 hx196_3 hx196_4 hx196_5 hx196_6 hx196_7 hHeld ⊢
      refine pu_ 0 (some 10) M2_1 HT_ ?_
      refine pu_ 1 (some 11) M2_2 HT_ ?_
      refine pu_ 2 (some 12) M2_3 HT_ ?_
      refine tk_ 3 (some 13) M2_4 HT_ HW_ hHeld ?_
      refine one_ (i := 4) (N := some 14) M2_5 rfl rfl (one_of HT_.1 (by kernel_rfl)) (by decide) (fun K hK => ?_)
      refine goes_ Try.func70 (by kernel_rfl) rfl #[.agg #[.int .i64 ((rd_T58 l0 x3_1).f0.f0), .int .i64 ((rd_T58 l0 x3_1).f0.f1), .int .i64 ((rd_T58 l0 x3_1).f0.f2), .int .i64 ((rd_T58 l0 x3_1).f0.f3), .int .i64 ((rd_T58 l0 x3_1).f0.f4), .int .i64 ((rd_T58 l0 x3_1).f1), .int .i64 ((rd_T58 l0 x3_1).f2), .int .i64 ((rd_T58 l0 x3_1).f3)]] (by rfl) rfl rfl ma_ ?_
      with_reducible refine (spec_IsFind.calls ((rd_T58 l0 x3_1).f0.f0) ((rd_T58 l0 x3_1).f0.f1) ((rd_T58 l0 x3_1).f0.f2) ((rd_T58 l0 x3_1).f0.f3) ((rd_T58 l0 x3_1).f0.f4) ((rd_T58 l0 x3_1).f1) ((rd_T58 l0 x3_1).f2) ((rd_T58 l0 x3_1).f3) false _ A4.1).mono ?_
      rintro e w18 ⟨rfl, hb⟩
      refine ⟨_, rfl, ?_⟩
      replace HB := o_ (below_step (hd_ HB.1) hb)
      (try clear hb)
      (try clear hb2)
      (try clear hk)
      (try clear hi)
      refine hK.out _ _ ⟨(cb_ HB.1 hw196_0), (cb_ HB.1 hw196_1), (cb_ HB.1 hw196_2), (cb_ HB.1 hw196_3), (cb_ HB.1 hw196_4), (cb_ HB.1 hw196_5), (cb_ HB.1 hw196_6), (cb_ HB.1 hw196_7)⟩ (fun hHeld => ?_)
      clear hK K
      refine norm_ (a' := ?_) ?_ ?_
      rotate_left
      ·
       show Act.put _ (some 14) _ = _
       simp only [Act.put, P2_1, P2_2, P2_3, i64_w, i32_w]
       rfl
      refine pu_ 5 (some 15) M2_6 HT_ ?_
      refine pu_ 6 (some 16) M2_7 HT_ ?_
      refine pn_ 7 (some 17) M2_8 HT_ ?_
      refine pn_ 8 (some 18) M2_9 HT_ ?_
      refine pn_ 9 (some 19) M2_10 HT_ ?_
      refine pn_ 10 (some 20) M2_11 HT_ ?_
      refine pn_ 11 (some 21) M2_12 HT_ ?_
      refine pn_ 12 (some 22) M2_13 HT_ ?_
      refine pn_ 13 (some 23) M2_14 HT_ ?_
      refine pn_ 14 (some 24) M2_15 HT_ ?_
      refine pn_ 15 (some 25) M2_16 HT_ ?_
      refine pn_ 16 (some 26) M2_27 HT_ ?_
      refine pn_ 17 (some 27) M2_28 HT_ ?_
      refine pn_ 18 (some 28) M2_29 HT_ ?_
      refine pn_ 19 (some 29) M2_30 HT_ ?_
      refine pn_ 20 (some 30) M2_31 HT_ ?_
      refine pn_ 21 (some 31) M2_22 HT_ ?_
      refine pn_ 22 (some 32) M2_23 HT_ ?_
      refine pn_ 23 (some 33) M2_24 HT_ ?_
      refine pn_ 24 (some 34) M2_25 HT_ ?_
      refine pu_ 25 (some 35) M2_26 HT_ ?_
      refine done_ (done_of HT_.1 (by kernel_rfl)) ?_
      try go_wp2
      go_ret
      exact ⟨rt_, hd_ HB.1⟩
    ·
     rw [if_neg c3] at H
     exact absurd H (by simp)
   ·
    rw [if_neg c2] at H
    have c2b0 := decide_eq_false c2
    clear c2
    obtain rfl := Option.some.inj H
    go_wp2
    go_ret
    exact ⟨rt_, hd_ HB.1⟩

end Go.Proofs.Ytglpmjcknhcjcaa.PFnTwins
