-- Written for this claim by a program (a printer turned to this claim); Lean checks it.
import Derived.Test.YtfghapankndioaaPFnExactPutSecretx0
namespace Go.Proofs.Ytfghapankndioaa.PFnExactPutSecret
open Go.RowKit Go.Proofs.YtfghapankndioaaW.PrintWords Go.Proofs.YtfghapankndioaaW.PrintLast Go.Proofs.YtfghapankndioaaW.PrintMore
attribute [local go_sem] max2_int min2_int max_two min_two max_three min_three max_four min_four   -- for this text's walks alone
set_option linter.unusedVariables false
set_option linter.unusedSimpArgs false

/-! ### spec_l31Copy: function 58 -/
def spec_l31Copy.l0 : Nat → List (S36) → List (S36) → Int → Option ((List (S36)))
  | 0, _, _, _ => none
  | k + 1, x0, x3, x4 => if x4 < (x0.length : Int) then (if 0 ≤ x4 then ((some (([] : List (S67)) : List (S67))).bind fun y163 => (if y163.length + ((rd_T36 x0 x4).f1).length < 8796093022208 then (if x3.length < 3518437208883 then (spec_l31Copy.l0 k x0 (x3 ++ [(⟨(rd_T36 x0 x4).f0, (y163 ++ ((rd_T36 x0 x4).f1)), (rd_T36 x0 x4).f2⟩ : S36)]) (wrap64 (x4 + 1))) else (none)) else (none))) else (none)) else (some x3)
def spec_l31Copy.f (k : Nat) (l0 : List (S36)) : Option ((List (S36))) := spec_l31Copy.l0 k l0 (([] : List (S36))) 0
theorem spec_l31Copy.mono_l : ∀ k, (∀ y0 y1 y2, LeO (spec_l31Copy.l0 k y0 y1 y2) (spec_l31Copy.l0 (k + 1) y0 y1 y2))
  | 0 => fun _ _ _ r h => by simp [spec_l31Copy.l0] at h
  | k + 1 => by
    have ih0 := spec_l31Copy.mono_l k
    · intro y0 y1 y2
      unfold spec_l31Copy.l0
      repeat' first
      | (with_reducible exact ih0 _ _ _)
      | (with_reducible exact LeO.refl _)
      | (with_reducible exact LeO.none _)
      | (with_reducible refine LeO.ite ?_ ?_)
      | (with_reducible refine LeO.bind ?_ (fun _ => ?_))
      | exact ih0 _ _ _
      | exact LeO.none _
      | refine LeO.ite ?_ ?_
      | refine LeO.bind ?_ (fun _ => ?_)
theorem spec_l31Copy.mono : ∀ a0 k, LeO (spec_l31Copy.f k a0) (spec_l31Copy.f (k + 1) a0) := by
  intro a0 k
  have ih0 := spec_l31Copy.mono_l k
  unfold spec_l31Copy.f
  repeat' first
      | (with_reducible exact ih0 _ _ _)
      | (with_reducible exact LeO.refl _)
      | (with_reducible exact LeO.none _)
      | (with_reducible refine LeO.ite ?_ ?_)
      | (with_reducible refine LeO.bind ?_ (fun _ => ?_))
      | exact ih0 _ _ _
      | exact LeO.none _
      | refine LeO.ite ?_ ?_
      | refine LeO.bind ?_ (fun _ => ?_)
def spec_l31Copy.T5 : Bool × List (List Nat × List Nat) := (true, [([], []), ([], []), ([], []), ([1, 2], [1, 2]), ([3], [3]), ([4], [4]), ([], []), ([], []), ([], []), ([7, 8], [7, 8]), ([9], [9]), ([10], [10]), ([6, 11], [6, 11]), ([], []), ([], []), ([13, 14], [13, 14]), ([15], [15]), ([16], [16]), ([5, 12, 17], [5, 12, 17]), ([18], [18]), ([0, 19, 12], [0, 19]), ([20, 20, 0, 1, 2, 3, 4, 5, 6, 7, 8, 9, 10, 11, 12, 13, 14, 15, 16, 17, 18, 19, 20], [0, 20])])
def spec_l31Copy.B5 : List Nat := [0, 0, 0, 6, 14, 30, 0, 0, 0, 384, 896, 1920, 4032, 0, 0, 24576, 57344, 122880, 262142, 524286, 1048575, 2097151]
theorem spec_l31Copy.tab5 : rtab .any (opsOf Try.f58 5) = spec_l31Copy.T5 := by kernel_rfl
theorem spec_l31Copy.bits5 : waitsOk spec_l31Copy.T5.2 spec_l31Copy.B5 = true := by kernel_rfl
abbrev M4_0 : Array Bool := #[false, false, false, false, false, false, false, false, false, false, false, false, false, false, false, false, false, false, false, false, false, false]
abbrev M4_1 : Array Bool := #[true, false, false, false, false, false, false, false, false, false, false, false, false, false, false, false, false, false, false, false, false, false]
abbrev M4_2 : Array Bool := #[true, true, false, false, false, false, false, false, false, false, false, false, false, false, false, false, false, false, false, false, false, false]
abbrev M4_3 : Array Bool := #[true, true, true, false, false, false, false, false, false, false, false, false, false, false, false, false, false, false, false, false, false, false]
abbrev M4_4 : Array Bool := #[true, true, true, true, false, false, false, false, false, false, false, false, false, false, false, false, false, false, false, false, false, false]
abbrev M4_5 : Array Bool := #[true, true, true, true, true, false, false, false, false, false, false, false, false, false, false, false, false, false, false, false, false, false]
abbrev M4_6 : Array Bool := #[true, true, true, true, true, false, false, true, false, false, false, false, false, false, false, false, false, false, false, false, false, false]
abbrev M4_7 : Array Bool := #[true, true, true, true, true, false, false, true, true, false, false, false, false, false, false, false, false, false, false, false, false, false]
abbrev M4_8 : Array Bool := #[true, true, true, true, true, false, false, true, true, true, false, false, false, false, false, false, false, false, false, false, false, false]
abbrev M4_9 : Array Bool := #[true, true, true, true, true, false, false, true, true, true, true, false, false, false, false, false, false, false, false, false, false, false]
abbrev M4_10 : Array Bool := #[true, true, true, true, true, false, false, true, true, true, true, false, false, true, false, false, false, false, false, false, false, false]
abbrev M4_11 : Array Bool := #[true, true, true, true, true, false, false, true, true, true, true, false, false, true, true, false, false, false, false, false, false, false]
abbrev M4_12 : Array Bool := #[true, true, true, true, true, false, false, true, true, true, true, false, false, true, true, true, false, false, false, false, false, false]
abbrev M4_13 : Array Bool := #[true, true, true, true, true, false, false, true, true, true, true, false, false, true, true, true, true, false, false, false, false, false]
abbrev M4_14 : Array Bool := #[true, true, true, true, true, true, false, true, true, true, true, false, false, true, true, true, true, false, false, false, false, false]
abbrev M4_15 : Array Bool := #[true, true, true, true, true, true, false, true, true, true, true, true, false, true, true, true, true, false, false, false, false, false]
abbrev M4_16 : Array Bool := #[true, true, true, true, true, true, false, true, true, true, true, true, false, true, true, true, true, true, false, false, false, false]
abbrev M4_17 : Array Bool := #[true, true, true, true, true, true, true, true, true, true, true, true, false, true, true, true, true, true, false, false, false, false]
abbrev M4_18 : Array Bool := #[true, true, true, true, true, true, true, true, true, true, true, true, true, true, true, true, true, true, false, false, false, false]
abbrev M4_19 : Array Bool := #[true, true, true, true, true, true, true, true, true, true, true, true, true, true, true, true, true, true, true, false, false, false]
abbrev M4_20 : Array Bool := #[true, true, true, true, true, true, true, true, true, true, true, true, true, true, true, true, true, true, true, true, false, false]
abbrev M4_21 : Array Bool := #[true, true, true, true, true, true, true, true, true, true, true, true, true, true, true, true, true, true, true, true, true, false]
abbrev M4_22 : Array Bool := #[true, true, true, true, true, true, true, true, true, true, true, true, true, true, true, true, true, true, true, true, true, true]
set_option maxHeartbeats 8000000 in
set_option maxRecDepth 100000 in
theorem spec_l31Copy.calls (k : Nat) (A0 : Option Addr) (c0 : Nat) (l0 : List (S36)) (r : List (S36)) (w : World) (hr0 : Kd.C k36 w A0 l0.length l0) (hc0 : l0.length ≤ c0) (h : spec_l31Copy.f k l0 = some r) :
    Calls Try.prog 58 #[.slice A0 l0.length c0] w fun e w' => ∃ v0_ : Value, e = .returned (v0_) ∧ Kd.S k36 36 w' w.heap.size (fun _ => True) v0_ r ∧ Below w.heap.size w w' := by
  have hu36 := Try.underlying36
  have HR0 := Aside0.mk hr0
  have HC0 := Aside0.mk hc0
  clear hr0 hc0
  have HB := Aside0.mk (Below.refl w.heap.size w)
  have H : (spec_l31Copy.l0 k l0 (([] : List (S36))) 0) = some r := h
  clear h
  obtain ⟨y159, hy159⟩ : ∃ y_ : List (S36), y_ = (([] : List (S36))) := ⟨_, rfl⟩
  replace H : (spec_l31Copy.l0 k l0 y159 0) = some r := by first | (rw [hy159]; with_reducible exact H) | (have H2_ := (Option.bind_some _ _).symm.trans H; rw [hy159]; with_reducible exact H2_) | (have H2_ := (Option.bind_some _ _).symm.trans H; with_reducible exact H2_) | with_reducible exact H | (rw [hy159]; exact H) | exact H
  have Ny159 := Aside0.mk hy159
  clear hy159
  have H' := Aside0.mk H
  clear H
  go_enter Try.func58, Try.ntmps58
  go_wp2_with (first | ((with_reducible refine gate_dst (N := 5) rfl ?_); refine Kd.S_lit k36 _ 36 ?hg (N := 5) ?hd (xs := ([] : List (S36))) (inner := []) (ok := fun _ => True) (okp := fun _ => True) ?hr ?hp (fun _ hk => hk) trivial (Below.refl _ _) (Nat.le_refl _) (by simp) ?_; (case hd => rfl); (case hg => rfl); (case hr => first | (go_simp; done) | (go_simp; rfl)); (case hp => exact (Reps.none _ _)); intro v160 w2 ho3 hb hg_ hnew_; clear hg_ hnew_; (first | rw [← Ny159.out] at ho3 | (simp only [Int.reduceToNat] at ho3; rw [← Ny159.out] at ho3)); have HO161 := Aside0.mk (Kd.S_lower ho3 (below_size (hd_ HB.out))); have n1_ := Aside0.mk (below_step (hd_ HB.out) hb); clear HB; have HB := n1_; clear n1_; clear hb ho3))
  go_loopg [3, 4] k (fun kq v3 v4 w' => ∃ (x3_1 : List (S36)) (x4_1 : Int), v4 = .int .i64 x4_1 ∧ Aside0 (spec_l31Copy.l0 kq l0 x3_1 x4_1 = some r) ∧ Aside0 (kq ≤ k) ∧ Aside0 (Kd.S k36 36 w' w.heap.size (fun _ => True) v3 x3_1) ∧ Aside0 (Below w.heap.size w w'))
  case atStart => exact ⟨(y159), (0), (by first | rfl | (simp; done) | (simp [*]; done)), H', ⟨Nat.le_refl _⟩, ⟨by (with_reducible repeat (first | apply Kd.S_alloc | apply Kd.S_drewN | apply Kd.S_drew)); exact HO161.out⟩, ⟨hd_ HB.out⟩⟩
  case round =>
    clear H'
    try clear p2
    obtain ⟨x3_1, x4_1, rfl, HA, HK1, HO_3, HB⟩ := hrel
    cases gk with
    | zero => exact absurd HA.out (by simp [spec_l31Copy.l0])
    | succ k1 =>
      have H := HA.out
      clear HA
      simp only [spec_l31Copy.l0] at H
      by_cases c4 : x4_1 < (l0.length : Int)
      · rw [if_pos c4] at H
        have c4b0 : decide (x4_1 < (l0.length : Int)) = true := decide_eq_true c4
        clear c4
        by_cases c5 : 0 ≤ x4_1
        · rw [if_pos c5] at H
          have c5b0 : decide (0 ≤ x4_1) = true := decide_eq_true c5
          clear c5
          obtain ⟨y163, hy163⟩ : ∃ y_ : List (S67), y_ = (([] : List (S67))) := ⟨_, rfl⟩
          replace H : (if y163.length + ((rd_T36 l0 x4_1).f1).length < 8796093022208 then (if x3_1.length < 3518437208883 then (spec_l31Copy.l0 k1 l0 (x3_1 ++ [(⟨(rd_T36 l0 x4_1).f0, (y163 ++ ((rd_T36 l0 x4_1).f1)), (rd_T36 l0 x4_1).f2⟩ : S36)]) (wrap64 (x4_1 + 1))) else (none)) else (none)) = some r := by first | (rw [hy163]; with_reducible exact H) | (have H2_ := (Option.bind_some _ _).symm.trans H; rw [hy163]; with_reducible exact H2_) | (have H2_ := (Option.bind_some _ _).symm.trans H; with_reducible exact H2_) | with_reducible exact H | (rw [hy163]; exact H) | exact H
          have Ny163 := Aside0.mk hy163
          clear hy163
          by_cases c6 : y163.length + ((rd_T36 l0 x4_1).f1).length < 8796093022208
          · rw [if_pos c6] at H
            have LMc6 := Aside0.mk c6
            clear c6
            obtain ⟨y167, hy167⟩ : ∃ y_ : List (S67), y_ = (y163 ++ ((rd_T36 l0 x4_1).f1)) := ⟨_, rfl⟩
            replace H : (if x3_1.length < 3518437208883 then (spec_l31Copy.l0 k1 l0 (x3_1 ++ [(⟨(rd_T36 l0 x4_1).f0, y167, (rd_T36 l0 x4_1).f2⟩ : S36)]) (wrap64 (x4_1 + 1))) else (none)) = some r := by first | (rw [hy167]; with_reducible exact H) | (have H2_ := (Option.bind_some _ _).symm.trans H; rw [hy167]; with_reducible exact H2_) | (have H2_ := (Option.bind_some _ _).symm.trans H; with_reducible exact H2_) | with_reducible exact H | (rw [hy167]; exact H) | exact H
            have Ny167 := Aside0.mk hy167
            clear hy167
            by_cases c7 : x3_1.length < 3518437208883
            · rw [if_pos c7] at H
              have LMc7 := Aside0.mk c7
              clear c7
              obtain ⟨y171, hy171⟩ : ∃ y_ : List (S36), y_ = (x3_1 ++ [(⟨(rd_T36 l0 x4_1).f0, y167, (rd_T36 l0 x4_1).f2⟩ : S36)]) := ⟨_, rfl⟩
              replace H : (spec_l31Copy.l0 k1 l0 y171 (wrap64 (x4_1 + 1))) = some r := by first | (rw [hy171]; with_reducible exact H) | (have H2_ := (Option.bind_some _ _).symm.trans H; rw [hy171]; with_reducible exact H2_) | (have H2_ := (Option.bind_some _ _).symm.trans H; with_reducible exact H2_) | with_reducible exact H | (rw [hy171]; exact H) | exact H
              have Ny171 := Aside0.mk hy171
              clear hy171
              have H' := Aside0.mk H
              clear H
              try go_wp2
              have n0_ := Aside0.mk (Kd.S_drew HO_3.out)
              have n1_ := Aside0.mk (below_drew1 HB.out)
              clear HO_3
              clear HB
              have HO_3 := n0_
              have HB := n1_
              clear n0_ n1_
              have p162 : 0 ≤ (x4_1 : Int) := of_decide_eq_true as_
              have q162 : x4_1 < (l0.length : Int) := of_decide_eq_true as_
              obtain ⟨ad162, A162_1, c162_1, e162, hx162_0, hx162_1, hx162_2, hl162_1, hi162_1⟩ := at_T36 HR0.out x4_1 p162 q162
              have hw162_2 := hx162_2
              have hw162_1 := hx162_1
              have hw162_0 := hx162_0
              cases e162
              replace hx162_0 := cb_ HB.out hx162_0
              replace hx162_1 := cb_ HB.out hx162_1
              replace hx162_2 := cb_ HB.out hx162_2
              have HR162_1 := Aside0.mk hi162_1
              have HC162_1 := Aside0.mk hl162_1
              clear hi162_1 hl162_1
              replace p162 := eq_true p162
              replace q162 := eq_true q162
              have p166 : 0 ≤ (x4_1 : Int) := of_decide_eq_true as_
              have q166 : x4_1 < (l0.length : Int) := of_decide_eq_true as_
              obtain ⟨ad166, A166_1, c166_1, e166, hx166_0, hx166_1, hx166_2, hl166_1, hi166_1⟩ := at_T36 HR0.out x4_1 p166 q166
              have hw166_2 := hx166_2
              have hw166_1 := hx166_1
              have hw166_0 := hx166_0
              obtain rfl : ad162 = ad166 := (by injection e166)
              replace hx166_0 := cb_ HB.out hx166_0
              replace hx166_1 := cb_ HB.out hx166_1
              replace hx166_2 := cb_ HB.out hx166_2
              have HR166_1 := Aside0.mk hi166_1
              have HC166_1 := Aside0.mk hl166_1
              clear hi166_1 hl166_1
              replace p166 := eq_true p166
              replace q166 := eq_true q166
              have ea_ := Option.some.inj (hx162_1.symm.trans hx166_1)
              injection ea_ with ea_ en_ ec_
              subst ea_
              subst ec_
              clear en_
              have p170 : 0 ≤ (x4_1 : Int) := of_decide_eq_true as_
              have q170 : x4_1 < (l0.length : Int) := of_decide_eq_true as_
              obtain ⟨ad170, A170_1, c170_1, e170, hx170_0, hx170_1, hx170_2, hl170_1, hi170_1⟩ := at_T36 HR0.out x4_1 p170 q170
              have hw170_2 := hx170_2
              have hw170_1 := hx170_1
              have hw170_0 := hx170_0
              obtain rfl : ad162 = ad170 := (by injection e170)
              replace hx170_0 := cb_ HB.out hx170_0
              replace hx170_1 := cb_ HB.out hx170_1
              replace hx170_2 := cb_ HB.out hx170_2
              have HR170_1 := Aside0.mk hi170_1
              have HC170_1 := Aside0.mk hl170_1
              clear hi170_1 hl170_1
              replace p170 := eq_true p170
              replace q170 := eq_true q170
              have ea_ := Option.some.inj (hx162_1.symm.trans hx170_1)
              injection ea_ with ea_ en_ ec_
              subst ea_
              subst ec_
              clear en_
              refine start_ (n := 22) (S := fun w' => q2_ w' (ad162.add ((x4_1).toNat * 3)) ((rd_T36 l0 x4_1).f0) A162_1 ((rd_T36 l0 x4_1).f1).length c162_1 ((rd_T36 l0 x4_1).f2) (q2_ w' (ad162.add ((x4_1).toNat * 3)) ((rd_T36 l0 x4_1).f0) A162_1 ((rd_T36 l0 x4_1).f1).length c162_1 ((rd_T36 l0 x4_1).f2) (q2e_ w' (ad162.add ((x4_1).toNat * 3)) ((rd_T36 l0 x4_1).f0) A162_1 ((rd_T36 l0 x4_1).f1).length c162_1 ((rd_T36 l0 x4_1).f2)))) (ds := []) M4_0 (by kernel_rfl) rfl rfl ⟨(cb_ HB.out hw162_0), (cb_ HB.out hw162_1), (cb_ HB.out hw162_2), (cb_ HB.out hw166_0), (cb_ HB.out hw166_1), (cb_ HB.out hw166_2), (cb_ HB.out hw170_0), (cb_ HB.out hw170_1), (cb_ HB.out hw170_2)⟩ (fun hHeld => ?_); refine with_tabW spec_l31Copy.tab5 spec_l31Copy.bits5 (fun HT_ HW_ => ?_)
              generalize wr.drew = w8 at HO_3 HB HR162_1 HR166_1 HR170_1 hx162_0 hx162_1 hx162_2 hx166_0 hx166_1 hx166_2 hx170_0 hx170_1 hx170_2 hHeld ⊢
              refine pu_ 0 (some 12) M4_1 HT_ ?_
              refine pu_ 1 (some 13) M4_2 HT_ ?_
              refine pu_ 2 (some 14) M4_3 HT_ ?_
              refine pu_ 3 (some 15) M4_4 HT_ ?_
              refine pu_ 4 (some 16) M4_5 HT_ ?_
              refine pu_ 7 (some 19) M4_6 HT_ ?_
              refine pu_ 8 (some 20) M4_7 HT_ ?_
              refine pu_ 9 (some 21) M4_8 HT_ ?_
              refine pu_ 10 (some 22) M4_9 HT_ ?_
              refine pu_ 13 (some 25) M4_10 HT_ ?_
              refine pu_ 14 (some 26) M4_11 HT_ ?_
              refine pu_ 15 (some 27) M4_12 HT_ ?_
              refine pu_ 16 (some 28) M4_13 HT_ ?_
              refine tk_ 5 (some 17) M4_14 HT_ HW_ hHeld ?_
              refine tk_ 11 (some 23) M4_15 HT_ HW_ hHeld ?_
              refine tk_ 17 (some 29) M4_16 HT_ HW_ hHeld ?_
              refine one_ (i := 6) (N := some 18) M4_17 rfl rfl (one_of HT_.out (by kernel_rfl)) (by decide) (fun K hK => ?_)
              refine Kd.R_lit_step k67 _ 67 ?hg (N := 18) ?hd (xs := ([] : List (S67))) (inner := []) (ok := fun _ => True) (okp := fun _ => True) ?hr ?hp (fun _ hk => hk) trivial (Below.refl _ _) (Nat.le_refl _) (by simp) ?_; (case hd => rfl); (case hg => rfl); (case hr => first | (go_simp; done) | (go_simp; rfl)); (case hp => exact (Reps.none _ _))
              intro v164 w9 ho10 hb hg_ hnew_
              clear hg_ hnew_
              (first | rw [← Ny163.out] at ho10 | (simp only [Int.reduceToNat] at ho10; rw [← Ny163.out] at ho10))
              have n0_ := Aside0.mk (Kd.S_elder' (by (with_reducible repeat (first | apply Kd.S_alloc | apply Kd.S_drewN | apply Kd.S_drew)); exact HO_3.out) (Kd.R_base ho10) hb)
              have HO165 := Aside0.mk (Kd.R_lower ho10 (below_size (hd_ HB.out)))
              have n2_ := Aside0.mk (below_step (hd_ HB.out) hb)
              clear HO_3
              clear HB
              have HO_3 := n0_
              have HB := n2_
              clear n0_ n2_
              clear hb ho10
              refine hK.out _ _ ⟨(cb_ HB.out hw162_0), (cb_ HB.out hw162_1), (cb_ HB.out hw162_2), (cb_ HB.out hw166_0), (cb_ HB.out hw166_1), (cb_ HB.out hw166_2), (cb_ HB.out hw170_0), (cb_ HB.out hw170_1), (cb_ HB.out hw170_2)⟩ (fun hHeld => ?_)
              clear hK K
              refine norm_ (a' := ?_) ?_ ?_
              rotate_left
              · show Act.put _ (some 18) _ = _
                simp only [Act.put, List.setIfInBounds_toArray, List.set_cons_zero, List.set_cons_succ, i64_w, i32_w]
                rfl
              refine one_ (i := 12) (N := some 24) M4_18 rfl rfl (one_of HT_.out (by kernel_rfl)) (by decide) (fun K hK => ?_)
              refine Kd.R_append_rows_step k67 (w0 := w) w.heap.size (by rfl) (.tmp 18) (.tmp 23) 34 67 (.agg #[(.int .i64 0), (.int .i64 0)]) 16 rfl Try.underlying34 info67 rfl (by decide) (by omega) v164 y163 ((rd_T36 l0 x4_1).f1) _ _ _ (fun _ => True) (fun _ => False) rfl rfl ?aO ?aR (fun _ _ h => h) (fun _ h => h.elim) ?aF ?aB ?aS ?aL ?_
              (case aR => repeat (first | exact (Kd.C_below HR166_1.out HB.out) | (with_reducible refine Kd.C_alloc ?_ _) | (with_reducible refine Kd.C_drewN ?_ _) | (with_reducible refine Kd.C_drew ?_)))
              (case aB => exact hd_ HB.out)
              (case aF => exact (fun _ _ => trivial))
              (case aO => exact (rd_ HO165.out))
              (case aS => exact (below_size (hd_ HB.out)))
              (case aL => have := LMc6.out; omega)
              intro v168 w11 ho hb hg hat
              rw [← Ny167.out] at ho
              have n0_ := Aside0.mk (Kd.S_after (ok := (fun _ => True)) (by (with_reducible repeat (first | apply Kd.S_alloc | apply Kd.S_drewN | apply Kd.S_drew)); exact HO_3.out) hg hat)
              have n1_ := Aside0.mk (hb)
              have HO169 := Aside0.mk (ho)
              clear HO_3
              clear HB
              clear HO165
              have HO_3 := n0_
              have HB := n1_
              clear n0_ n1_
              clear ho hb hg hat
              obtain ⟨Ao12, co12, eo12⟩ := Kd.R_slice HO169.out
              (first | subst eo12 | (injection eo12 with f1_ f2_ f3_; have f4_ := f1_.symm; have f5_ := f3_.symm; clear f1_ f2_ f3_; subst f4_; subst f5_))
              refine hK.out _ _ ⟨(cb_ HB.out hw162_0), (cb_ HB.out hw162_1), (cb_ HB.out hw162_2), (cb_ HB.out hw166_0), (cb_ HB.out hw166_1), (cb_ HB.out hw166_2), (cb_ HB.out hw170_0), (cb_ HB.out hw170_1), (cb_ HB.out hw170_2)⟩ (fun hHeld => ?_)
              clear hK K
              refine norm_ (a' := ?_) ?_ ?_
              rotate_left
              · show Act.put _ (some 24) _ = _
                simp only [Act.put, List.setIfInBounds_toArray, List.set_cons_zero, List.set_cons_succ, i64_w, i32_w]
                rfl
              refine pu_ 18 (some 30) M4_19 HT_ ?_
              refine one_ (i := 19) (N := some 31) M4_20 rfl rfl (one_of HT_.out (by kernel_rfl)) (by decide) (fun K hK => ?_)
              refine value_ (w1 := ?_) (v := ?_) (by rfl) rfl ?_ ?_
              rotate_left 2
              · go_simp
                constructor
                · rfl
                · rfl
              refine hK.out _ _ ⟨(World.cell?_alloc_lt _ _ _ (World.block_lt_of_cell? _ _ ((cb_ HB.out hw162_0)))).trans ((cb_ HB.out hw162_0)), (World.cell?_alloc_lt _ _ _ (World.block_lt_of_cell? _ _ ((cb_ HB.out hw162_1)))).trans ((cb_ HB.out hw162_1)), (World.cell?_alloc_lt _ _ _ (World.block_lt_of_cell? _ _ ((cb_ HB.out hw162_2)))).trans ((cb_ HB.out hw162_2)), (World.cell?_alloc_lt _ _ _ (World.block_lt_of_cell? _ _ ((cb_ HB.out hw166_0)))).trans ((cb_ HB.out hw166_0)), (World.cell?_alloc_lt _ _ _ (World.block_lt_of_cell? _ _ ((cb_ HB.out hw166_1)))).trans ((cb_ HB.out hw166_1)), (World.cell?_alloc_lt _ _ _ (World.block_lt_of_cell? _ _ ((cb_ HB.out hw166_2)))).trans ((cb_ HB.out hw166_2)), (World.cell?_alloc_lt _ _ _ (World.block_lt_of_cell? _ _ ((cb_ HB.out hw170_0)))).trans ((cb_ HB.out hw170_0)), (World.cell?_alloc_lt _ _ _ (World.block_lt_of_cell? _ _ ((cb_ HB.out hw170_1)))).trans ((cb_ HB.out hw170_1)), (World.cell?_alloc_lt _ _ _ (World.block_lt_of_cell? _ _ ((cb_ HB.out hw170_2)))).trans ((cb_ HB.out hw170_2))⟩ (fun hHeld => ?_)
              clear hK K
              refine norm_ (a' := ?_) ?_ ?_
              rotate_left
              · show Act.put _ (some 31) _ = _
                simp only [Act.put, List.setIfInBounds_toArray, List.set_cons_zero, List.set_cons_succ, i64_w, i32_w]
                rfl
              refine one_ (i := 20) (N := some 32) M4_21 rfl rfl (one_of HT_.out (by kernel_rfl)) (by decide) (fun K hK => ?_)
              refine Kd.S_append_step k36 (w0 := w) w.heap.size (by rfl) (.tmp 12) (.tmp 31) 25 36 (.agg #[(.int .i64 0), (.slice none 0 0), (.int .i64 0)]) 40 rfl Try.underlying25 info36 rfl (by decide) (by omega) u3 x3_1 (⟨(rd_T36 l0 x4_1).f0, y167, (rd_T36 l0 x4_1).f2⟩ : S36) [.int .i64 ((rd_T36 l0 x4_1).f0), .slice Ao12 y167.length co12, .int .i64 ((rd_T36 l0 x4_1).f2)] (fun _ => True) (fun k_ => some k_ = (.slice Ao12 y167.length co12 : Value).ownBlock) rfl rfl ?aP (fun k_ hk_ => ((Kd.R_mono (ok' := fun k_ => ((fun _ => True)) k_ ∧ some k_ ≠ (u3 : Value).ownBlock) (Kd.R_apart' (HO169.out) (Kd.S_typed HO_3.out) (by decide)) (fun k_ hk => ⟨trivial, hk.2⟩))).1 k_ hk_.symm) ?aF ?aO ?aB ?aS ?aL ?_
              (case aP => exact k36_mkM _ _ _ (⟨(rd_T36 l0 x4_1).f0, y167, (rd_T36 l0 x4_1).f2⟩ : S36) (Kd.R_mono (Kd.R_tight rfl (Kd.R_mono (ok' := fun k_ => ((fun _ => True)) k_ ∧ some k_ ≠ (u3 : Value).ownBlock) (Kd.R_apart' (HO169.out) (Kd.S_typed HO_3.out) (by decide)) (fun k_ hk => ⟨trivial, hk.2⟩))) (fun _ h_ => h_)))
              (case aB => exact hd_ HB.out)
              (case aF => exact (fun _ _ => trivial))
              (case aO => exact (by (with_reducible repeat (first | apply Kd.S_alloc | apply Kd.S_drewN | apply Kd.S_drew)); exact Kd.S_mono HO_3.out (fun k_ hk => ⟨trivial, fun e_ => hk.2 e_⟩)))
              (case aS => exact (below_size (hd_ HB.out)))
              (case aL => have := LMc7.out; omega)
              intro v172 w13 ho hb hg hat
              rw [← Ny171.out] at ho
              have n0_ := Aside0.mk (hb)
              have HO173 := Aside0.mk (ho)
              clear HB
              clear HO_3
              clear HO169
              have HB := n0_
              clear n0_
              clear ho hb hg hat
              refine hK.out _ _ ⟨(cb_ HB.out hw162_0), (cb_ HB.out hw162_1), (cb_ HB.out hw162_2), (cb_ HB.out hw166_0), (cb_ HB.out hw166_1), (cb_ HB.out hw166_2), (cb_ HB.out hw170_0), (cb_ HB.out hw170_1), (cb_ HB.out hw170_2)⟩ (fun hHeld => ?_)
              clear hK K
              refine norm_ (a' := ?_) ?_ ?_
              rotate_left
              · show Act.put _ (some 32) _ = _
                simp only [Act.put, List.setIfInBounds_toArray, List.set_cons_zero, List.set_cons_succ, i64_w, i32_w]
                rfl
              refine pu_ 21 (some 3) M4_22 HT_ ?_
              refine done_ (done_of HT_.out (by kernel_rfl)) ?_
              try go_wp2
              go_roundg k1
              case measure => have := HK1.out; omega
              case rel => exact ⟨(y171), (wrap64 (x4_1 + 1)), (by first | rfl | (simp; done) | (simp [*]; done)), H', ⟨by have := HK1.out; omega⟩, ⟨by (with_reducible repeat (first | apply Kd.S_alloc | apply Kd.S_drewN | apply Kd.S_drew)); exact HO173.out⟩, ⟨hd_ HB.out⟩⟩
            · rw [if_neg c7] at H
              exact absurd H (by simp)
          · rw [if_neg c6] at H
            exact absurd H (by simp)
        · rw [if_neg c5] at H
          exact absurd H (by simp)
      · rw [if_neg c4] at H
        have c4b0 : decide (x4_1 < (l0.length : Int)) = false := decide_eq_false c4
        clear c4
        obtain rfl := Option.some.inj H
        go_wp2
        go_ret
        exact ⟨_, by first | rfl | (simp [errW_none, errW_some] <;> rfl) | (simp [*, errW_none, errW_some] <;> rfl), by (with_reducible repeat (first | apply Kd.S_alloc | apply Kd.S_drewN | apply Kd.S_drew)); exact HO_3.out, hd_ HB.out⟩

end Go.Proofs.Ytfghapankndioaa.PFnExactPutSecret
