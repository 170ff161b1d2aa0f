-- Written for this claim by a program (a printer turned to this claim); Lean checks it.
import Derived.Test.YtfghapankndioaaPFnSecretsx0
import Derived.Test.YtfghapankndioaaPFnSecretsx5
import Derived.Test.YtfghapankndioaaPFnSecretsx9
import Derived.Test.YtfghapankndioaaPFnSecretsx10
namespace Go.Proofs.Ytfghapankndioaa.PFnSecrets
open Go.RowKit Go.Proofs.YtfghapankndioaaW.PrintWords Go.Proofs.YtfghapankndioaaW.PrintLast Go.Proofs.YtfghapankndioaaW.PrintMore
attribute [local go_sem] max2_int min2_int max_two min_two max_three min_three max_four min_four   -- for this text's walks alone
set_option linter.unusedVariables false
set_option linter.unusedSimpArgs false

/-! ### spec_SealMarks: function 57 -/
def spec_SealMarks.l0 : Nat → List (S67) → List Int → Int → Option (Int)
  | 0, _, _, _ => none
  | k + 1, x0, x5, x6 => if x6 < (x0.length : Int) then (if 0 ≤ x6 then ((some (([(rd_T67 x0 x6).f0, (rd_T67 x0 x6).f1] : List Int) : List Int)).bind fun y436 => (if x5.length + y436.length < 17592186044416 then (spec_SealMarks.l0 k x0 (x5 ++ y436) (wrap64 (x6 + 1))) else (none))) else (none)) else ((spec_Hash.f k x5).bind fun t442 => (some t442))
def spec_SealMarks.f (k : Nat) (l0 : List (S67)) (a1 : Int) : Option (Int) := spec_SealMarks.l0 k l0 (([a1] : List Int)) 0
theorem spec_SealMarks.mono_l : ∀ k, (∀ y0 y1 y2, LeO (spec_SealMarks.l0 k y0 y1 y2) (spec_SealMarks.l0 (k + 1) y0 y1 y2))
  | 0 => fun _ _ _ r h => by simp [spec_SealMarks.l0] at h
  | k + 1 => by
    have ih0 := spec_SealMarks.mono_l k
    · intro y0 y1 y2
      unfold spec_SealMarks.l0
      repeat' first
      | (with_reducible exact ih0 _ _ _)
      | (with_reducible exact spec_Hash.mono _ _)
      | (with_reducible exact LeO.refl _)
      | (with_reducible exact LeO.none _)
      | (with_reducible refine LeO.ite ?_ ?_)
      | (with_reducible refine LeO.bind ?_ (fun _ => ?_))
      | exact ih0 _ _ _
      | exact spec_Hash.mono _ _
      | exact LeO.none _
      | refine LeO.ite ?_ ?_
      | refine LeO.bind ?_ (fun _ => ?_)
theorem spec_SealMarks.mono : ∀ a0 a1 k, LeO (spec_SealMarks.f k a0 a1) (spec_SealMarks.f (k + 1) a0 a1) := by
  intro a0 a1 k
  have ih0 := spec_SealMarks.mono_l k
  unfold spec_SealMarks.f
  repeat' first
      | (with_reducible exact ih0 _ _ _)
      | (with_reducible exact spec_Hash.mono _ _)
      | (with_reducible exact LeO.refl _)
      | (with_reducible exact LeO.none _)
      | (with_reducible refine LeO.ite ?_ ?_)
      | (with_reducible refine LeO.bind ?_ (fun _ => ?_))
      | exact ih0 _ _ _
      | exact spec_Hash.mono _ _
      | exact LeO.none _
      | refine LeO.ite ?_ ?_
      | refine LeO.bind ?_ (fun _ => ?_)
def spec_SealMarks.T5 : Bool × List (List Nat × List Nat) := (true, [([], []), ([], []), ([], []), ([1, 2], [1, 2]), ([3], [3]), ([4], [4]), ([], []), ([], []), ([6, 7], [6, 7]), ([8], [8]), ([9], [9]), ([5, 10], [5, 10]), ([0, 11], [0, 11]), ([12, 12, 0, 1, 2, 3, 4, 5, 6, 7, 8, 9, 10, 11, 12], [0, 12])])
def spec_SealMarks.B5 : List Nat := [0, 0, 0, 6, 14, 30, 0, 0, 192, 448, 960, 2046, 4095, 8191]
theorem spec_SealMarks.tab5 : rtab .any (opsOf Try.f57 5) = spec_SealMarks.T5 := by kernel_rfl
theorem spec_SealMarks.bits5 : waitsOk spec_SealMarks.T5.2 spec_SealMarks.B5 = true := by kernel_rfl
abbrev M5_0 : Array Bool := #[false, false, false, false, false, false, false, false, false, false, false, false, false, false]
abbrev M5_1 : Array Bool := #[true, false, false, false, false, false, false, false, false, false, false, false, false, false]
abbrev M5_2 : Array Bool := #[true, true, false, false, false, false, false, false, false, false, false, false, false, false]
abbrev M5_3 : Array Bool := #[true, true, true, false, false, false, false, false, false, false, false, false, false, false]
abbrev M5_4 : Array Bool := #[true, true, true, true, false, false, false, false, false, false, false, false, false, false]
abbrev M5_5 : Array Bool := #[true, true, true, true, true, false, false, false, false, false, false, false, false, false]
abbrev M5_6 : Array Bool := #[true, true, true, true, true, false, true, false, false, false, false, false, false, false]
abbrev M5_7 : Array Bool := #[true, true, true, true, true, false, true, true, false, false, false, false, false, false]
abbrev M5_8 : Array Bool := #[true, true, true, true, true, false, true, true, true, false, false, false, false, false]
abbrev M5_9 : Array Bool := #[true, true, true, true, true, false, true, true, true, true, false, false, false, false]
abbrev M5_10 : Array Bool := #[true, true, true, true, true, true, true, true, true, true, false, false, false, false]
abbrev M5_11 : Array Bool := #[true, true, true, true, true, true, true, true, true, true, true, false, false, false]
abbrev M5_12 : Array Bool := #[true, true, true, true, true, true, true, true, true, true, true, true, false, false]
abbrev M5_13 : Array Bool := #[true, true, true, true, true, true, true, true, true, true, true, true, true, false]
abbrev M5_14 : Array Bool := #[true, true, true, true, true, true, true, true, true, true, true, true, true, true]
set_option maxHeartbeats 8000000 in
set_option maxRecDepth 100000 in
theorem spec_SealMarks.calls (k : Nat) (A0 : Option Addr) (c0 : Nat) (l0 : List (S67)) (a1 : Int) (r : Int) (w : World) (hr0 : Kd.C k67 w A0 l0.length l0) (hc0 : l0.length ≤ c0) (h : spec_SealMarks.f k l0 a1 = some r) :
    Calls Try.prog 57 #[.slice A0 l0.length c0, .int .i64 a1] w fun e w' => e = .returned (.int .i64 r) ∧ Below w.heap.size w w' := by
  have HR0 := Aside0.mk hr0
  have HC0 := Aside0.mk hc0
  clear hr0 hc0
  have HB := Aside0.mk (Below.refl w.heap.size w)
  have H : (spec_SealMarks.l0 k l0 (([a1] : List Int)) 0) = some r := h
  clear h
  obtain ⟨y431, hy431⟩ : ∃ y_ : List Int, y_ = (([a1] : List Int)) := ⟨_, rfl⟩
  replace H : (spec_SealMarks.l0 k l0 y431 0) = some r := by first | (rw [hy431]; with_reducible exact H) | (have H2_ := (Option.bind_some _ _).symm.trans H; rw [hy431]; with_reducible exact H2_) | (have H2_ := (Option.bind_some _ _).symm.trans H; with_reducible exact H2_) | with_reducible exact H | (rw [hy431]; exact H) | exact H
  have Ny431 := Aside0.mk hy431
  clear hy431
  have H' := Aside0.mk H
  clear H
  go_enter Try.func57, Try.ntmps57
  go_wp2_with (first | ((with_reducible refine gate_dst (N := 8) rfl ?_); refine Kd.R_lit (Kd.int .i64) _ 3 ?hg (N := 8) ?hd (xs := ([a1] : List Int)) (inner := [.int .i64 a1]) (ok := fun _ => True) (okp := fun _ => True) ?hr ?hp (fun _ hk => hk) trivial (Below.refl _ _) (Nat.le_refl _) (by simp) ?_; (case hd => rfl); (case hg => rfl); (case hr => first | (go_simp; done) | (go_simp; rfl)); (case hp => exact (Reps.one (show Kd.M (Kd.int .i64) _ _ _ a1 [.int .i64 a1] from rfl) (Reps.none _ _))); intro v432 w3 ho4 hb hg_ hnew_; clear hg_ hnew_; (first | rw [← Ny431.out] at ho4 | (simp only [Int.reduceToNat] at ho4; rw [← Ny431.out] at ho4)); have HO433 := Aside0.mk (Kd.R_lower ho4 (below_size (hd_ HB.out))); have n1_ := Aside0.mk (below_step (hd_ HB.out) hb); clear HB; have HB := n1_; clear n1_; clear hb ho4))
  go_loopg [5, 6] k (fun kq v5 v6 w' => ∃ (x5_1 : List Int) (x6_1 : Int), v6 = .int .i64 x6_1 ∧ Aside0 (spec_SealMarks.l0 kq l0 x5_1 x6_1 = some r) ∧ Aside0 (kq ≤ k) ∧ Aside0 (Kd.R (Kd.int .i64) 3 w' w.heap.size (fun _ => True) v5 x5_1) ∧ Aside0 (Below w.heap.size w w'))
  case atStart => exact ⟨(y431), (0), (by first | rfl | (simp; done) | (simp [*]; done)), H', ⟨Nat.le_refl _⟩, ⟨rd_ HO433.out⟩, ⟨hd_ HB.out⟩⟩
  case round =>
    clear H'
    try clear p2
    obtain ⟨x5_1, x6_1, rfl, HA, HK1, HO_5, HB⟩ := hrel
    cases gk with
    | zero => exact absurd HA.out (by simp [spec_SealMarks.l0])
    | succ k1 =>
      have H := HA.out
      clear HA
      simp only [spec_SealMarks.l0] at H
      by_cases c5 : x6_1 < (l0.length : Int)
      · rw [if_pos c5] at H
        have c5b0 : decide (x6_1 < (l0.length : Int)) = true := decide_eq_true c5
        clear c5
        by_cases c6 : 0 ≤ x6_1
        · rw [if_pos c6] at H
          have c6b0 : decide (0 ≤ x6_1) = true := decide_eq_true c6
          clear c6
          obtain ⟨y436, hy436⟩ : ∃ y_ : List Int, y_ = (([(rd_T67 l0 x6_1).f0, (rd_T67 l0 x6_1).f1] : List Int)) := ⟨_, rfl⟩
          replace H : (if x5_1.length + y436.length < 17592186044416 then (spec_SealMarks.l0 k1 l0 (x5_1 ++ y436) (wrap64 (x6_1 + 1))) else (none)) = some r := by first | (rw [hy436]; with_reducible exact H) | (have H2_ := (Option.bind_some _ _).symm.trans H; rw [hy436]; with_reducible exact H2_) | (have H2_ := (Option.bind_some _ _).symm.trans H; with_reducible exact H2_) | with_reducible exact H | (rw [hy436]; exact H) | exact H
          have Ny436 := Aside0.mk hy436
          clear hy436
          by_cases c7 : x5_1.length + y436.length < 17592186044416
          · rw [if_pos c7] at H
            have LMc7 := Aside0.mk c7
            clear c7
            obtain ⟨y439, hy439⟩ : ∃ y_ : List Int, y_ = (x5_1 ++ y436) := ⟨_, rfl⟩
            replace H : (spec_SealMarks.l0 k1 l0 y439 (wrap64 (x6_1 + 1))) = some r := by first | (rw [hy439]; with_reducible exact H) | (have H2_ := (Option.bind_some _ _).symm.trans H; rw [hy439]; with_reducible exact H2_) | (have H2_ := (Option.bind_some _ _).symm.trans H; with_reducible exact H2_) | with_reducible exact H | (rw [hy439]; exact H) | exact H
            have Ny439 := Aside0.mk hy439
            clear hy439
            have H' := Aside0.mk H
            clear H
            try go_wp2
            have n0_ := Aside0.mk (Kd.R_drew HO_5.out)
            have n1_ := Aside0.mk (below_drew1 HB.out)
            clear HO_5
            clear HB
            have HO_5 := n0_
            have HB := n1_
            clear n0_ n1_
            have p434 : 0 ≤ (x6_1 : Int) := of_decide_eq_true as_
            have q434 : x6_1 < (l0.length : Int) := of_decide_eq_true as_
            obtain ⟨ad434, e434, hx434_0, hx434_1⟩ := at_T67 HR0.out x6_1 p434 q434
            have hw434_1 := hx434_1
            have hw434_0 := hx434_0
            cases e434
            replace hx434_0 := cb_ HB.out hx434_0
            replace hx434_1 := cb_ HB.out hx434_1
            replace p434 := eq_true p434
            replace q434 := eq_true q434
            have p435 : 0 ≤ (x6_1 : Int) := of_decide_eq_true as_
            have q435 : x6_1 < (l0.length : Int) := of_decide_eq_true as_
            obtain ⟨ad435, e435, hx435_0, hx435_1⟩ := at_T67 HR0.out x6_1 p435 q435
            have hw435_1 := hx435_1
            have hw435_0 := hx435_0
            obtain rfl : ad434 = ad435 := (by injection e435)
            replace hx435_0 := cb_ HB.out hx435_0
            replace hx435_1 := cb_ HB.out hx435_1
            replace p435 := eq_true p435
            replace q435 := eq_true q435
            refine start_ (n := 14) (S := fun w' => w'.cell? (ad434.add ((x6_1).toNat * 2)) = some (.int .i64 ((rd_T67 l0 x6_1).f0)) ∧ w'.cell? ⟨(ad434.add ((x6_1).toNat * 2)).block, (ad434.add ((x6_1).toNat * 2)).off + 1, none⟩ = some (.int .i64 ((rd_T67 l0 x6_1).f1)) ∧ w'.cell? (ad434.add ((x6_1).toNat * 2)) = some (.int .i64 ((rd_T67 l0 x6_1).f0)) ∧ w'.cell? ⟨(ad434.add ((x6_1).toNat * 2)).block, (ad434.add ((x6_1).toNat * 2)).off + 1, none⟩ = some (.int .i64 ((rd_T67 l0 x6_1).f1))) (ds := []) M5_0 (by kernel_rfl) rfl rfl ⟨(cb_ HB.out hw434_0), (cb_ HB.out hw434_1), (cb_ HB.out hw435_0), (cb_ HB.out hw435_1)⟩ (fun hHeld => ?_); refine with_tabW spec_SealMarks.tab5 spec_SealMarks.bits5 (fun HT_ HW_ => ?_)
            generalize wr.drew = w8 at HO_5 HB hx434_0 hx434_1 hx435_0 hx435_1 hHeld ⊢
            refine pu_ 0 (some 15) M5_1 HT_ ?_
            refine pu_ 1 (some 16) M5_2 HT_ ?_
            refine pu_ 2 (some 17) M5_3 HT_ ?_
            refine pu_ 3 (some 18) M5_4 HT_ ?_
            refine pu_ 4 (some 19) M5_5 HT_ ?_
            refine pu_ 6 (some 21) M5_6 HT_ ?_
            refine pu_ 7 (some 22) M5_7 HT_ ?_
            refine pu_ 8 (some 23) M5_8 HT_ ?_
            refine pu_ 9 (some 24) M5_9 HT_ ?_
            refine tk_ 5 (some 20) M5_10 HT_ HW_ hHeld ?_
            refine tk_ 10 (some 25) M5_11 HT_ HW_ hHeld ?_
            refine one_ (i := 11) (N := some 26) M5_12 rfl rfl (one_of HT_.out (by kernel_rfl)) (by decide) (fun K hK => ?_)
            refine Kd.R_lit_step (Kd.int .i64) _ 3 ?hg (N := 26) ?hd (xs := ([(rd_T67 l0 x6_1).f0, (rd_T67 l0 x6_1).f1] : List Int)) (inner := [.int .i64 ((rd_T67 l0 x6_1).f0), .int .i64 ((rd_T67 l0 x6_1).f1)]) (ok := fun _ => True) (okp := fun _ => True) ?hr ?hp (fun _ hk => hk) trivial (Below.refl _ _) (Nat.le_refl _) (by simp) ?_; (case hd => rfl); (case hg => rfl); (case hr => first | (go_simp; done) | (go_simp; rfl)); (case hp => exact (Reps.one (show Kd.M (Kd.int .i64) _ _ _ ((rd_T67 l0 x6_1).f0) [.int .i64 ((rd_T67 l0 x6_1).f0)] from rfl) (Reps.one (show Kd.M (Kd.int .i64) _ _ _ ((rd_T67 l0 x6_1).f1) [.int .i64 ((rd_T67 l0 x6_1).f1)] from rfl) (Reps.none _ _))))
            intro v437 w9 ho10 hb hg_ hnew_
            clear hg_ hnew_
            (first | rw [← Ny436.out] at ho10 | (simp only [Int.reduceToNat] at ho10; rw [← Ny436.out] at ho10))
            have n0_ := Aside0.mk (Kd.R_elder' (rd_ HO_5.out) (Kd.R_base ho10) hb)
            have HO438 := Aside0.mk (Kd.R_lower (Kd.R_new' ho10 (Kd.R_lt (rd_ HO_5.out))) (below_size (hd_ HB.out)))
            have n2_ := Aside0.mk (below_step (hd_ HB.out) hb)
            clear HO_5
            clear HB
            have HO_5 := n0_
            have HB := n2_
            clear n0_ n2_
            clear hb ho10
            obtain ⟨Ao12, co12, eo12⟩ := Kd.R_slice HO438.out
            (first | subst eo12 | (injection eo12 with f1_ f2_ f3_; have f4_ := f1_.symm; have f5_ := f3_.symm; clear f1_ f2_ f3_; subst f4_; subst f5_))
            refine hK.out _ _ ⟨(cb_ HB.out hw434_0), (cb_ HB.out hw434_1), (cb_ HB.out hw435_0), (cb_ HB.out hw435_1)⟩ (fun hHeld => ?_)
            clear hK K
            refine norm_ (a' := ?_) ?_ ?_
            rotate_left
            · show Act.put _ (some 26) _ = _
              simp only [Act.put, List.setIfInBounds_toArray, List.set_cons_zero, List.set_cons_succ, i64_w, i32_w]
              rfl
            refine one_ (i := 12) (N := some 27) M5_13 rfl rfl (one_of HT_.out (by kernel_rfl)) (by decide) (fun K hK => ?_)
            refine Kd.R_append_rows_step (Kd.int .i64) (w0 := w) w.heap.size (by rfl) (.tmp 15) (.tmp 26) 77 3 (.int .i64 0) 8 rfl Try.underlying77 info3 rfl (by decide) (by omega) u5 x5_1 y436 _ _ _ (fun k_ => some k_ ≠ (.slice Ao12 y436.length co12 : Value).ownBlock) (fun _ => False) rfl rfl ?aO ?aR (fun _ _ h => h) (fun _ h => h.elim) ?aF ?aB ?aS ?aL ?_
            (case aR => repeat (first | exact (Kd.R_reads' HO438.out).2.2 | (with_reducible refine Kd.C_alloc ?_ _) | (with_reducible refine Kd.C_drewN ?_ _) | (with_reducible refine Kd.C_drew ?_)))
            (case aB => exact hd_ HB.out)
            (case aF => exact (fun k_ hk => Kd.fresh' (Kd.R_lt (rd_ HO438.out)) k_ hk))
            (case aO => exact (by (with_reducible repeat (first | apply Kd.R_alloc | apply Kd.R_drewN | apply Kd.R_drew)); exact Kd.R_mono HO_5.out (fun _ hk => hk.2)))
            (case aS => exact (below_size (hd_ HB.out)))
            (case aL => have := LMc7.out; omega)
            intro v440 w11 ho hb hg hat
            rw [← Ny439.out] at ho
            have n0_ := Aside0.mk (Kd.R_after (ok := (fun _ => True)) (rd_ HO438.out) hg hat)
            have n1_ := Aside0.mk (hb)
            have HO441 := Aside0.mk (ho)
            clear HO438
            clear HB
            clear HO_5
            have HO438 := n0_
            have HB := n1_
            clear n0_ n1_
            clear ho hb hg hat
            refine hK.out _ _ ⟨(cb_ HB.out hw434_0), (cb_ HB.out hw434_1), (cb_ HB.out hw435_0), (cb_ HB.out hw435_1)⟩ (fun hHeld => ?_)
            clear hK K
            refine norm_ (a' := ?_) ?_ ?_
            rotate_left
            · show Act.put _ (some 27) _ = _
              simp only [Act.put, List.setIfInBounds_toArray, List.set_cons_zero, List.set_cons_succ, i64_w, i32_w]
              rfl
            refine pu_ 13 (some 5) M5_14 HT_ ?_
            refine done_ (done_of HT_.out (by kernel_rfl)) ?_
            try go_wp2
            go_roundg k1
            case measure => have := HK1.out; omega
            case rel => exact ⟨(y439), (wrap64 (x6_1 + 1)), (by first | rfl | (simp; done) | (simp [*]; done)), H', ⟨by have := HK1.out; omega⟩, ⟨by (with_reducible repeat (first | apply Kd.R_alloc | apply Kd.R_drewN | apply Kd.R_drew)); exact Kd.R_mono HO441.out (fun _ hk => trivial)⟩, ⟨hd_ HB.out⟩⟩
          · rw [if_neg c7] at H
            exact absurd H (by simp)
        · rw [if_neg c6] at H
          exact absurd H (by simp)
      · rw [if_neg c5] at H
        have c5b0 : decide (x6_1 < (l0.length : Int)) = false := decide_eq_false c5
        clear c5
        replace H := Option.bind_eq_some_iff.mp H
        obtain ⟨t442, A130, H⟩ := H
        replace H : (some t442) = some r := H
        have A13 := Aside0.mk A130
        clear A130
        obtain rfl := Option.some.inj H
        obtain ⟨Ao14, co14, eo14⟩ := Kd.R_slice HO_5.out
        subst eo14
        go_wp2_with (first | ((with_reducible refine gate_callee (f := 71) rfl ?_); refine goesL_ (some 29) rfl rfl Try.func71 (by kernel_rfl) rfl #[.slice Ao14 x5_1.length co14] rfl ma_ ?_; (with_reducible refine (spec_Hash.calls k1 _ _ x5_1 t442 _ ?side1 ?side2 A13.out).mono ?_); (case side1 => exact cd_ (Kd.R_reads' HO_5.out).2.2); (case side2 => exact (Kd.R_reads' HO_5.out).2.1); rintro e w' ⟨rfl, ⟨nd, rfl⟩⟩; refine ⟨_, rfl, ?_⟩))
        go_ret
        exact ⟨by first | rfl | (simp [errW_none, errW_some] <;> rfl) | (simp [*, errW_none, errW_some] <;> rfl), hd_ HB.out⟩

/-! ### spec_DrawIsSecretOf: function 40 -/
def spec_DrawIsSecretOf.f (k : Nat) (l0 : List Int) : Option (Int × (List (S67)) × Int × Int) := (spec_l1New.f k l0).bind fun bt444 => ((spec_l31One.f k bt444.1 bt444.2.1 bt444.2.2 4).bind fun bt448 => ((spec_SealMarks.f k bt448.2.1 bt448.2.2.1).bind fun t456 => ((spec_l1Once.f bt444.1 bt448.2.2.2.1 bt448.2.2.2.2 3).bind fun bt457 => (if bt457.1 = true then (some (bt448.1, bt448.2.1, bt448.2.2.1, wrap64 (t456 - 1))) else (some (bt448.1, bt448.2.1, bt448.2.2.1, t456))))))
theorem spec_DrawIsSecretOf.mono : ∀ a0 k, LeO (spec_DrawIsSecretOf.f k a0) (spec_DrawIsSecretOf.f (k + 1) a0) := by
  intro a0 k
  unfold spec_DrawIsSecretOf.f
  repeat' first
      | (with_reducible exact spec_SealMarks.mono _ _ _)
      | (with_reducible exact spec_l1New.mono _ _)
      | (with_reducible exact spec_l31One.mono _ _ _ _ _)
      | (with_reducible exact LeO.refl _)
      | (with_reducible exact LeO.none _)
      | (with_reducible refine LeO.ite ?_ ?_)
      | (with_reducible refine LeO.bind ?_ (fun _ => ?_))
      | exact spec_SealMarks.mono _ _ _
      | exact spec_l1New.mono _ _
      | exact spec_l31One.mono _ _ _ _ _
      | exact LeO.none _
      | refine LeO.ite ?_ ?_
      | refine LeO.bind ?_ (fun _ => ?_)
theorem e121_ {w : World} {g : Nat} {t : TypeId} {i0 : Int} {A1 : Option Addr} {n1 c1 : Nat} {i2 : Int} (h : w.heap[g]? = some (.cells #[.int .i64 i0, .slice A1 n1 c1, .int .i64 i2] t (0, 0))) : w.cell? ⟨g, 0, none⟩ = some (.int .i64 i0) ∧ w.cell? ⟨g, 1, none⟩ = some (.slice A1 n1 c1) ∧ w.cell? ⟨g, 2, none⟩ = some (.int .i64 i2) := ⟨(blk_cell h 0).trans rfl, (blk_cell h 1).trans rfl, (blk_cell h 2).trans rfl⟩
theorem z122_ {w : World} {g : Nat} {t : TypeId} {cs : Array Value} (h : w.heap[g]? = some (.cells cs t (0, 0))) : w.frozen? ⟨g, 0, none⟩ = false ∧ w.frozen? ⟨g, 1, none⟩ = false ∧ w.frozen? ⟨g, 2, none⟩ = false := ⟨blk_frozen h 0, blk_frozen h 1, blk_frozen h 2⟩
theorem y124_ {P : Prop} (h : P := by repeat (first | (with_reducible first | exact HB.out | apply below_alloc | apply pw_below_drewN | apply below_drew1 | refine below_set ?_ (IsS86.ge HI447.out) | refine below_set ?_ GE443.out) | exact HB.out)) : P := h
theorem y127_ {P : Prop} (h : P := by (with_reducible repeat (first | refine blk_drewN ?_ _ | refine blk_drew ?_ | refine blk_alloc ?_ _)); refine blk_far ?_ NB443_455.out _; (with_reducible repeat (first | refine blk_drewN ?_ _ | refine blk_drew ?_ | refine blk_alloc ?_ _)); refine blk_far ?_ NB443_455.out _; (with_reducible repeat (first | refine blk_drewN ?_ _ | refine blk_drew ?_ | refine blk_alloc ?_ _)); refine blk_far ?_ NB443_455.out _; (with_reducible repeat (first | refine blk_drewN ?_ _ | refine blk_drew ?_ | refine blk_alloc ?_ _)); exact BK443.out) : P := h
theorem y128_ {P : Prop} (h : P := by (with_reducible repeat (first | apply Kd.R_alloc | apply Kd.R_drewN | apply Kd.R_drew)); exact (Kd.R_mono (Kd.R_far (p := ⟨gb455, 2, none⟩) (Kd.R_far (p := ⟨gb455, 1, none⟩) (Kd.R_far (p := ⟨gb455, 0, none⟩) (Kd.R_types HO451.out BK455.out (by decide)) (fun _ hk => hk.2) (.int .i64 t448)) (fun _ hk => hk.2) (.slice Ao14 t449.length co14)) (fun _ hk => hk.2) (.int .i64 t452)) (fun _ h_ => h_.1))) : P := h
theorem y129_ {P : Prop} (h : P := by (with_reducible repeat (first | apply Kd.R_alloc | apply Kd.R_drewN | apply Kd.R_drew)); exact (Kd.R_mono (Kd.R_far (p := ⟨gb455, 2, none⟩) (Kd.R_far (p := ⟨gb455, 1, none⟩) (Kd.R_far (p := ⟨gb455, 0, none⟩) (Kd.R_types HO451.out BK455.out (by decide)) (fun _ hk => hk.2) (.int .i64 t448)) (fun _ hk => hk.2) (.slice Ao27 t449.length co27)) (fun _ hk => hk.2) (.int .i64 t452)) (fun _ h_ => h_.1))) : P := h
theorem y131_ {P : Prop} (h : P := by rw [hg]; exact Nat.ne_of_lt (IsS86.lt (show IsS86 w _ g447 t444 t453 t454 from by repeat (first | (with_reducible first | exact HI447.out | apply IsS86.alloc | apply IsS86.drewN | apply IsS86.drew | refine IsS86.far ?_ NB447_443.out _ | apply IsS86.set_1 | apply IsS86.set_2) | exact HI447.out)))) : P := h
theorem y132_ {P : Prop} (h : P := by rw [hg]; exact Nat.ne_of_gt (IsS86.lt (show IsS86 w _ g447 t444 t453 t454 from by repeat (first | (with_reducible first | exact HI447.out | apply IsS86.alloc | apply IsS86.drewN | apply IsS86.drew | refine IsS86.far ?_ NB447_443.out _ | apply IsS86.set_1 | apply IsS86.set_2) | exact HI447.out)))) : P := h
theorem y133_ {P : Prop} (h : P := by repeat (first | (with_reducible first | exact HB.out | apply below_alloc | apply pw_below_drewN | apply below_drew1 | refine below_set ?_ (IsS86.ge HI447.out) | refine below_set ?_ GE443.out | refine below_set ?_ GE455.out) | exact HB.out)) : P := h
theorem y134_ {P : Prop} (h : P := by repeat (first | (with_reducible first | exact HB.out | apply below_alloc | apply pw_below_drewN | apply below_drew1 | refine below_set ?_ (IsS86.ge HI447.out) | refine below_set ?_ GE443.out | refine below_set ?_ GE455.out) | exact HB.out)) : P := h
theorem y135_ {P : Prop} (h : P := by repeat (first | (with_reducible first | exact HI447.out | apply IsS86.alloc | apply IsS86.drewN | apply IsS86.drew | refine IsS86.far ?_ NB447_443.out _ | apply IsS86.set_1 | apply IsS86.set_2) | exact HI447.out)) : P := h
set_option maxHeartbeats 8000000 in
set_option maxRecDepth 100000 in
theorem spec_DrawIsSecretOf.calls (k : Nat) (A0 : Option Addr) (c0 : Nat) (l0 : List Int) (r1 : Int) (r2 : List (S67)) (r3 : Int) (r4 : Int) (w : World) (hr0 : Kd.C (Kd.int .u8) w A0 l0.length l0) (hc0 : l0.length ≤ c0) (h : spec_DrawIsSecretOf.f k l0 = some (r1, r2, r3, r4)) :
    Calls Try.prog 40 #[.slice A0 l0.length c0] w fun e w' => ∃ v1_ : Value, e = .returned (.tuple #[.agg #[.int .i64 r1, v1_, .int .i64 r3], .int .i64 r4]) ∧ Kd.R k67 67 w' w.heap.size (fun _ => True) v1_ r2 ∧ Below w.heap.size w w' := by
  have hu36 := Try.underlying36
  have HR0 := Aside0.mk hr0
  have HC0 := Aside0.mk hc0
  clear hr0 hc0
  have HB := Aside0.mk (Below.refl w.heap.size w)
  have H : ((spec_l1New.f k l0).bind fun bt444 => ((spec_l31One.f k bt444.1 bt444.2.1 bt444.2.2 4).bind fun bt448 => ((spec_SealMarks.f k bt448.2.1 bt448.2.2.1).bind fun t456 => ((spec_l1Once.f bt444.1 bt448.2.2.2.1 bt448.2.2.2.2 3).bind fun bt457 => (if bt457.1 = true then (some (bt448.1, bt448.2.1, bt448.2.2.1, wrap64 (t456 - 1))) else (some (bt448.1, bt448.2.1, bt448.2.2.1, t456))))))) = some (r1, r2, r3, r4) := h
  clear h
  replace H := Option.bind_eq_some_iff.mp H
  obtain ⟨⟨t444, t445, t446⟩, A20, H⟩ := H
  replace H : ((spec_l31One.f k t444 t445 t446 4).bind fun bt448 => ((spec_SealMarks.f k bt448.2.1 bt448.2.2.1).bind fun t456 => ((spec_l1Once.f t444 bt448.2.2.2.1 bt448.2.2.2.2 3).bind fun bt457 => (if bt457.1 = true then (some (bt448.1, bt448.2.1, bt448.2.2.1, wrap64 (t456 - 1))) else (some (bt448.1, bt448.2.1, bt448.2.2.1, t456)))))) = some (r1, r2, r3, r4) := H
  have A2 := Aside0.mk A20
  clear A20
  replace H := Option.bind_eq_some_iff.mp H
  obtain ⟨⟨t448, t449, t452, t453, t454⟩, A30, H⟩ := H
  replace H : ((spec_SealMarks.f k t449 t452).bind fun t456 => ((spec_l1Once.f t444 t453 t454 3).bind fun bt457 => (if bt457.1 = true then (some (t448, t449, t452, wrap64 (t456 - 1))) else (some (t448, t449, t452, t456))))) = some (r1, r2, r3, r4) := H
  have A3 := Aside0.mk A30
  clear A30
  replace H := Option.bind_eq_some_iff.mp H
  obtain ⟨t456, A40, H⟩ := H
  replace H : ((spec_l1Once.f t444 t453 t454 3).bind fun bt457 => (if bt457.1 = true then (some (t448, t449, t452, wrap64 (t456 - 1))) else (some (t448, t449, t452, t456)))) = some (r1, r2, r3, r4) := H
  have A4 := Aside0.mk A40
  clear A40
  replace H := Option.bind_eq_some_iff.mp H
  obtain ⟨⟨t457, t458, t459⟩, A50, H⟩ := H
  replace H : (if t457 = true then (some (t448, t449, t452, wrap64 (t456 - 1))) else (some (t448, t449, t452, t456))) = some (r1, r2, r3, r4) := H
  have A5 := Aside0.mk A50
  clear A50
  by_cases c6 : t457 = true
  · subst c6
    have H1 : (some (t448, t449, t452, wrap64 (t456 - 1))) = some (r1, r2, r3, r4) := by rw [if_pos rfl] at H; exact H
    clear H
    have H := H1
    clear H1
    simp only [Option.some.injEq, Prod.mk.injEq] at H
    obtain ⟨rfl, rfl, rfl, rfl⟩ := H
    go_enter Try.func40, Try.ntmps40
    go_wp2_with (first | ((with_reducible refine gate_dst (N := 2) rfl ?_); refine box_event ?hg (N := 2) ?hd (cs := #[.int .i64 0, .slice none 0 0, .int .i64 0]) (t := 36) ?hr ?_; (case hd => rfl); (case hg => rfl); (case hr => first | (go_simp; done) | (go_simp; rfl)); intro gb443 hg w7 hbox hb; have n0_ := Aside0.mk (below_step (hd_ HB.out) hb); have BK443 := Aside0.mk (hbox); have GW443 := Aside0.mk ((by rw [hg]; exact (below_size (hd_ HB.out)) : w.heap.size ≤ gb443)); have GE443 := Aside0.mk ((by rw [hg]; exact (below_size (hd_ HB.out)) : w.heap.size ≤ gb443)); clear HB; have HB := n0_; clear n0_; clear hb hbox hg) | ((with_reducible refine gate_callee (f := 61) rfl ?_); refine goesL_ (some 8) rfl rfl Try.func61 (by kernel_rfl) rfl #[.slice A0 l0.length c0] rfl ma_ ?_; (with_reducible refine (spec_l1New.calls k _ _ l0 t444 t445 t446 w _ ?side1 ?side2 ?side3 A2.out).mono ?_); (case side1 => repeat (first | (with_reducible first | exact HB.out | apply below_alloc | apply pw_below_drewN | apply below_drew1 | refine below_set ?_ GE443.out) | exact HB.out)); (case side2 => exact HR0.out); (case side3 => exact HC0.out); rintro e w8 ⟨g447, rfl, hi, hb, hb2⟩; refine ⟨_, rfl, ?_⟩; have n0_ := Aside0.mk (blk_below (bd_ BK443.out) hb2); have n1_ := Aside0.mk (hb); have n2_ := Aside0.mk (hi); have NB447_443 := Aside0.mk (IsS86.ne_blk hi (blk_below (bd_ BK443.out) hb2) (by decide)); have NB443_447 := Aside0.mk (Ne.symm (IsS86.ne_blk hi (blk_below (bd_ BK443.out) hb2) (by decide))); clear BK443; clear HB; have BK443 := n0_; have HB := n1_; have HI447 := n2_; clear n0_ n1_ n2_; (try clear hb); (try clear hb2); (try clear hk); (try clear hi)) | ((with_reducible refine gate_callee (f := 63) rfl ?_); refine goesL_ (some 10) rfl rfl Try.func63 (by kernel_rfl) rfl #[.pointer (some ⟨g447, 0, none⟩), .int .i64 4] rfl ma_ ?_; (with_reducible refine (spec_l31One.calls k g447 t444 t445 t446 4 t448 t449 t452 t453 t454 w _ ?side1 ?side2 A3.out).mono ?_); (case side1 => repeat (first | (with_reducible first | exact HI447.out | apply IsS86.alloc | apply IsS86.drewN | apply IsS86.drew | refine IsS86.far ?_ NB447_443.out _ | apply IsS86.set_1 | apply IsS86.set_2) | exact HI447.out)); (case side2 => repeat (first | (with_reducible first | exact HB.out | apply below_alloc | apply pw_below_drewN | apply below_drew1 | refine below_set ?_ (IsS86.ge HI447.out) | refine below_set ?_ GE443.out) | exact HB.out)); rintro e w9 ⟨v450, rfl, ho0, hi, hb, hk⟩; refine ⟨_, rfl, ?_⟩; have n0_ := Aside0.mk (KeepBut.blk hk (g' := gb443) (o := .cells #[.int .i64 0, .slice none 0 0, .int .i64 0] 36 (0, 0)) (bd_ BK443.out) NB443_447.out (by simp)); have HO451 := Aside0.mk (Kd.R_lower ho0 (below_size y124_)); have n2_ := Aside0.mk (hb); have n3_ := Aside0.mk (hi); clear BK443; clear HB; clear HI447; have BK443 := n0_; have HB := n2_; have HI447 := n3_; clear n0_ n2_ n3_; (try clear hb); (try clear hb2); (try clear hk); (try clear hi); (try clear ho0)) | ((with_reducible refine gate_dst (N := 5) rfl ?_); refine box_event ?hg (N := 5) ?hd (cs := #[.int .i64 0, .slice none 0 0, .int .i64 0]) (t := 36) ?hr ?_; (case hd => rfl); (case hg => rfl); (case hr => first | (go_simp; done) | (go_simp; rfl)); intro gb455 hg w10 hbox hb; have n0_ := Aside0.mk (Kd.R_below (rd_ HO451.out) hb); have n1_ := Aside0.mk (blk_below (bd_ BK443.out) hb); have n2_ := Aside0.mk (IsS86.below y135_ hb); have n3_ := Aside0.mk (below_step y124_ hb); have BK455 := Aside0.mk (hbox); have GW455 := Aside0.mk ((by rw [hg]; exact (below_size y124_) : w.heap.size ≤ gb455)); have GE455 := Aside0.mk ((by rw [hg]; exact (below_size y124_) : w.heap.size ≤ gb455)); have NB443_455 := Aside0.mk ((by rw [hg]; exact Nat.ne_of_lt (blk_lt (bd_ BK443.out)) : gb443 ≠ gb455)); have NB455_443 := Aside0.mk ((by rw [hg]; exact Nat.ne_of_gt (blk_lt (bd_ BK443.out)) : gb455 ≠ gb443)); have NB447_455 := Aside0.mk ((y131_ : g447 ≠ gb455)); have NB455_447 := Aside0.mk ((y132_ : gb455 ≠ g447)); clear HO451; clear BK443; clear HI447; clear HB; have HO451 := n0_; have BK443 := n1_; have HI447 := n2_; have HB := n3_; clear n0_ n1_ n2_ n3_; clear hb hbox hg; have hnb11 := NB455_443.out; have hnc11 := NB443_455.out; have hnb12 := NB455_447.out; have hnc12 := NB447_455.out; obtain ⟨hcz13_0, hcz13_1, hcz13_2⟩ := e121_ BK455.out; obtain ⟨hfz13_0, hfz13_1, hfz13_2⟩ := z122_ BK455.out; obtain ⟨Ao14, co14, eo14⟩ := Kd.R_slice HO451.out; subst eo14) | ((with_reducible refine gate_callee (f := 57) rfl ?_); refine goesL_ (some 15) rfl rfl Try.func57 (by kernel_rfl) rfl #[.slice Ao14 t449.length co14, .int .i64 t452] rfl ma_ ?_; (with_reducible refine (spec_SealMarks.calls k _ _ t449 t452 t456 _ ?side1 ?side2 A4.out).mono ?_); (case side1 => refine (Kd.R_reads' (e := 67) (base := w.heap.size) (ok := fun k_ => True) (n := t449.length) (c := co14) ?_).2.2; exact y128_); (case side2 => exact (Kd.R_reads' HO451.out).2.1); rintro e w15 ⟨rfl, hb⟩; refine ⟨_, rfl, ?_⟩; have n0_ := Aside0.mk (Kd.R_below y128_ hb); have n1_ := Aside0.mk (blk_below (g := gb443) (o := .cells #[.int .i64 0, .slice none 0 0, .int .i64 0] 36 (0, 0)) y127_ hb); have n2_ := Aside0.mk (IsS86.below (show IsS86 w (((w10.setCell ⟨gb455, 0, none⟩ (.int .i64 t448)).setCell ⟨gb455, 1, none⟩ (.slice Ao14 t449.length co14)).setCell ⟨gb455, 2, none⟩ (.int .i64 t452)) g447 t444 t453 t454 from by repeat (first | (with_reducible first | exact HI447.out | apply IsS86.alloc | apply IsS86.drewN | apply IsS86.drew | refine IsS86.far ?_ NB447_443.out _ | refine IsS86.far ?_ NB447_455.out _ | apply IsS86.set_1 | apply IsS86.set_2) | exact HI447.out)) hb); have n3_ := Aside0.mk (blk_below (g := gb455) (o := .cells #[.int .i64 t448, .slice Ao14 t449.length co14, .int .i64 t452] 36 (0, 0)) (by (with_reducible repeat (first | refine blk_drewN ?_ _ | refine blk_drew ?_ | refine blk_alloc ?_ _)); refine blk_put (cs := #[.int .i64 t448, .slice Ao14 t449.length co14, .int .i64 0]) ?_ 2 _ rfl; (with_reducible repeat (first | refine blk_drewN ?_ _ | refine blk_drew ?_ | refine blk_alloc ?_ _)); refine blk_put (cs := #[.int .i64 t448, .slice none 0 0, .int .i64 0]) ?_ 1 _ rfl; (with_reducible repeat (first | refine blk_drewN ?_ _ | refine blk_drew ?_ | refine blk_alloc ?_ _)); refine blk_put (cs := #[.int .i64 0, .slice none 0 0, .int .i64 0]) ?_ 0 _ rfl; (with_reducible repeat (first | refine blk_drewN ?_ _ | refine blk_drew ?_ | refine blk_alloc ?_ _)); exact BK455.out) hb); have n4_ := Aside0.mk (below_step y133_ hb); clear HO451; clear BK443; clear HI447; clear BK455; clear HB; have HO451 := n0_; have BK443 := n1_; have HI447 := n2_; have BK455 := n3_; have HB := n4_; clear n0_ n1_ n2_ n3_ n4_; (try clear hb); (try clear hb2); (try clear hk); (try clear hi)) | ((with_reducible refine gate_callee (f := 67) rfl ?_); refine goesL_ (some 17) rfl rfl Try.func67 (by kernel_rfl) rfl #[.pointer (some ⟨g447, 0, none⟩), .int .i64 3] rfl ma_ ?_; (with_reducible refine (spec_l1Once.calls g447 t444 t453 t454 3 true t458 t459 w _ ?side1 ?side2 A5.out).mono ?_); (case side1 => repeat (first | (with_reducible first | exact HI447.out | apply IsS86.alloc | apply IsS86.drewN | apply IsS86.drew | refine IsS86.far ?_ NB447_443.out _ | refine IsS86.far ?_ NB447_455.out _ | apply IsS86.set_1 | apply IsS86.set_2) | exact HI447.out)); (case side2 => repeat (first | (with_reducible first | exact HB.out | apply below_alloc | apply pw_below_drewN | apply below_drew1 | refine below_set ?_ (IsS86.ge HI447.out) | refine below_set ?_ GE443.out | refine below_set ?_ GE455.out) | exact HB.out)); rintro e w16 ⟨rfl, hi, hb, hk⟩; refine ⟨_, rfl, ?_⟩; have n0_ := Aside0.mk (KeepBut.blk hk (g' := gb443) (o := .cells #[.int .i64 0, .slice none 0 0, .int .i64 0] 36 (0, 0)) (bd_ BK443.out) NB443_447.out (by simp)); have n1_ := Aside0.mk (Kd.R_mono (Kd.R_keep (IsS86.apart (show IsS86 w _ g447 t444 t453 t454 from by repeat (first | (with_reducible first | exact HI447.out | apply IsS86.alloc | apply IsS86.drewN | apply IsS86.drew | refine IsS86.far ?_ NB447_443.out _ | refine IsS86.far ?_ NB447_455.out _ | apply IsS86.set_1 | apply IsS86.set_2) | exact HI447.out)) (rd_ HO451.out) (by decide)) hk (fun _ h => h.2)) (fun _ h => h.1)); have n2_ := Aside0.mk (KeepBut.blk hk (g' := gb455) (o := .cells #[.int .i64 t448, .slice Ao14 t449.length co14, .int .i64 t452] 36 (0, 0)) (bd_ BK455.out) NB455_447.out (by simp)); have n3_ := Aside0.mk (hb); have n4_ := Aside0.mk (hi); clear BK443; clear HO451; clear BK455; clear HB; clear HI447; have BK443 := n0_; have HO451 := n1_; have BK455 := n2_; have HB := n3_; have HI447 := n4_; clear n0_ n1_ n2_ n3_ n4_; (try clear hb); (try clear hb2); (try clear hk); (try clear hi); obtain ⟨hcz17_0, hcz17_1, hcz17_2⟩ := e121_ BK455.out; obtain ⟨hfz17_0, hfz17_1, hfz17_2⟩ := z122_ BK455.out; have hnb18 := NB443_447.out; have hnc18 := NB447_443.out; obtain ⟨hcz19_0, hcz19_1, hcz19_2⟩ := e121_ BK443.out; obtain ⟨hfz19_0, hfz19_1, hfz19_2⟩ := z122_ BK443.out))
    refine bodyPost_ret (results_ct rfl _ _ gb443 36 #[.int .i64 t448, .slice Ao14 t449.length co14, .int .i64 t452] (0, 0) _ rfl (by (with_reducible repeat (first | refine blk_drewN ?_ _ | refine blk_drew ?_ | refine blk_alloc ?_ _)); refine blk_put (cs := #[.int .i64 t448, .slice Ao14 t449.length co14, .int .i64 0]) ?_ 2 _ rfl; (with_reducible repeat (first | refine blk_drewN ?_ _ | refine blk_drew ?_ | refine blk_alloc ?_ _)); refine blk_put (cs := #[.int .i64 t448, .slice none 0 0, .int .i64 0]) ?_ 1 _ rfl; (with_reducible repeat (first | refine blk_drewN ?_ _ | refine blk_drew ?_ | refine blk_alloc ?_ _)); refine blk_put (cs := #[.int .i64 0, .slice none 0 0, .int .i64 0]) ?_ 0 _ rfl; (with_reducible repeat (first | refine blk_drewN ?_ _ | refine blk_drew ?_ | refine blk_alloc ?_ _)); exact BK443.out) Try.underlying36 rfl (by kernel_rfl)) rfl ?_
    exact ⟨_, by first | rfl | (simp [errW_none, errW_some] <;> rfl) | (simp [*, errW_none, errW_some] <;> rfl), by (with_reducible repeat (first | apply Kd.R_alloc | apply Kd.R_drewN | apply Kd.R_drew)); exact Kd.R_mono (Kd.R_far (p := ⟨gb443, 2, none⟩) (Kd.R_far (p := ⟨gb443, 1, none⟩) (Kd.R_far (p := ⟨gb443, 0, none⟩) (Kd.R_types HO451.out BK443.out (by decide)) (fun _ hk => hk.2) (.int .i64 t448)) (fun _ hk => hk.2) (.slice Ao14 t449.length co14)) (fun _ hk => hk.2) (.int .i64 t452)) (fun _ hk => trivial), y134_⟩
  · replace c6 := Bool.eq_false_iff.mpr c6
    subst c6
    have H1 : (some (t448, t449, t452, t456)) = some (r1, r2, r3, r4) := by rw [if_neg (show ¬ (false = true) by decide)] at H; exact H
    clear H
    have H := H1
    clear H1
    simp only [Option.some.injEq, Prod.mk.injEq] at H
    obtain ⟨rfl, rfl, rfl, rfl⟩ := H
    go_enter Try.func40, Try.ntmps40
    go_wp2_with (first | ((with_reducible refine gate_dst (N := 2) rfl ?_); refine box_event ?hg (N := 2) ?hd (cs := #[.int .i64 0, .slice none 0 0, .int .i64 0]) (t := 36) ?hr ?_; (case hd => rfl); (case hg => rfl); (case hr => first | (go_simp; done) | (go_simp; rfl)); intro gb443 hg w20 hbox hb; have n0_ := Aside0.mk (below_step (hd_ HB.out) hb); have BK443 := Aside0.mk (hbox); have GW443 := Aside0.mk ((by rw [hg]; exact (below_size (hd_ HB.out)) : w.heap.size ≤ gb443)); have GE443 := Aside0.mk ((by rw [hg]; exact (below_size (hd_ HB.out)) : w.heap.size ≤ gb443)); clear HB; have HB := n0_; clear n0_; clear hb hbox hg) | ((with_reducible refine gate_callee (f := 61) rfl ?_); refine goesL_ (some 8) rfl rfl Try.func61 (by kernel_rfl) rfl #[.slice A0 l0.length c0] rfl ma_ ?_; (with_reducible refine (spec_l1New.calls k _ _ l0 t444 t445 t446 w _ ?side1 ?side2 ?side3 A2.out).mono ?_); (case side1 => repeat (first | (with_reducible first | exact HB.out | apply below_alloc | apply pw_below_drewN | apply below_drew1 | refine below_set ?_ GE443.out) | exact HB.out)); (case side2 => exact HR0.out); (case side3 => exact HC0.out); rintro e w21 ⟨g447, rfl, hi, hb, hb2⟩; refine ⟨_, rfl, ?_⟩; have n0_ := Aside0.mk (blk_below (bd_ BK443.out) hb2); have n1_ := Aside0.mk (hb); have n2_ := Aside0.mk (hi); have NB447_443 := Aside0.mk (IsS86.ne_blk hi (blk_below (bd_ BK443.out) hb2) (by decide)); have NB443_447 := Aside0.mk (Ne.symm (IsS86.ne_blk hi (blk_below (bd_ BK443.out) hb2) (by decide))); clear BK443; clear HB; have BK443 := n0_; have HB := n1_; have HI447 := n2_; clear n0_ n1_ n2_; (try clear hb); (try clear hb2); (try clear hk); (try clear hi)) | ((with_reducible refine gate_callee (f := 63) rfl ?_); refine goesL_ (some 10) rfl rfl Try.func63 (by kernel_rfl) rfl #[.pointer (some ⟨g447, 0, none⟩), .int .i64 4] rfl ma_ ?_; (with_reducible refine (spec_l31One.calls k g447 t444 t445 t446 4 t448 t449 t452 t453 t454 w _ ?side1 ?side2 A3.out).mono ?_); (case side1 => repeat (first | (with_reducible first | exact HI447.out | apply IsS86.alloc | apply IsS86.drewN | apply IsS86.drew | refine IsS86.far ?_ NB447_443.out _ | apply IsS86.set_1 | apply IsS86.set_2) | exact HI447.out)); (case side2 => repeat (first | (with_reducible first | exact HB.out | apply below_alloc | apply pw_below_drewN | apply below_drew1 | refine below_set ?_ (IsS86.ge HI447.out) | refine below_set ?_ GE443.out) | exact HB.out)); rintro e w22 ⟨v450, rfl, ho0, hi, hb, hk⟩; refine ⟨_, rfl, ?_⟩; have n0_ := Aside0.mk (KeepBut.blk hk (g' := gb443) (o := .cells #[.int .i64 0, .slice none 0 0, .int .i64 0] 36 (0, 0)) (bd_ BK443.out) NB443_447.out (by simp)); have HO451 := Aside0.mk (Kd.R_lower ho0 (below_size y124_)); have n2_ := Aside0.mk (hb); have n3_ := Aside0.mk (hi); clear BK443; clear HB; clear HI447; have BK443 := n0_; have HB := n2_; have HI447 := n3_; clear n0_ n2_ n3_; (try clear hb); (try clear hb2); (try clear hk); (try clear hi); (try clear ho0)) | ((with_reducible refine gate_dst (N := 5) rfl ?_); refine box_event ?hg (N := 5) ?hd (cs := #[.int .i64 0, .slice none 0 0, .int .i64 0]) (t := 36) ?hr ?_; (case hd => rfl); (case hg => rfl); (case hr => first | (go_simp; done) | (go_simp; rfl)); intro gb455 hg w23 hbox hb; have n0_ := Aside0.mk (Kd.R_below (rd_ HO451.out) hb); have n1_ := Aside0.mk (blk_below (bd_ BK443.out) hb); have n2_ := Aside0.mk (IsS86.below y135_ hb); have n3_ := Aside0.mk (below_step y124_ hb); have BK455 := Aside0.mk (hbox); have GW455 := Aside0.mk ((by rw [hg]; exact (below_size y124_) : w.heap.size ≤ gb455)); have GE455 := Aside0.mk ((by rw [hg]; exact (below_size y124_) : w.heap.size ≤ gb455)); have NB443_455 := Aside0.mk ((by rw [hg]; exact Nat.ne_of_lt (blk_lt (bd_ BK443.out)) : gb443 ≠ gb455)); have NB455_443 := Aside0.mk ((by rw [hg]; exact Nat.ne_of_gt (blk_lt (bd_ BK443.out)) : gb455 ≠ gb443)); have NB447_455 := Aside0.mk ((y131_ : g447 ≠ gb455)); have NB455_447 := Aside0.mk ((y132_ : gb455 ≠ g447)); clear HO451; clear BK443; clear HI447; clear HB; have HO451 := n0_; have BK443 := n1_; have HI447 := n2_; have HB := n3_; clear n0_ n1_ n2_ n3_; clear hb hbox hg; have hnb24 := NB455_443.out; have hnc24 := NB443_455.out; have hnb25 := NB455_447.out; have hnc25 := NB447_455.out; obtain ⟨hcz26_0, hcz26_1, hcz26_2⟩ := e121_ BK455.out; obtain ⟨hfz26_0, hfz26_1, hfz26_2⟩ := z122_ BK455.out; obtain ⟨Ao27, co27, eo27⟩ := Kd.R_slice HO451.out; subst eo27) | ((with_reducible refine gate_callee (f := 57) rfl ?_); refine goesL_ (some 15) rfl rfl Try.func57 (by kernel_rfl) rfl #[.slice Ao27 t449.length co27, .int .i64 t452] rfl ma_ ?_; (with_reducible refine (spec_SealMarks.calls k _ _ t449 t452 t456 _ ?side1 ?side2 A4.out).mono ?_); (case side1 => refine (Kd.R_reads' (e := 67) (base := w.heap.size) (ok := fun k_ => True) (n := t449.length) (c := co27) ?_).2.2; exact y129_); (case side2 => exact (Kd.R_reads' HO451.out).2.1); rintro e w28 ⟨rfl, hb⟩; refine ⟨_, rfl, ?_⟩; have n0_ := Aside0.mk (Kd.R_below y129_ hb); have n1_ := Aside0.mk (blk_below (g := gb443) (o := .cells #[.int .i64 0, .slice none 0 0, .int .i64 0] 36 (0, 0)) y127_ hb); have n2_ := Aside0.mk (IsS86.below (show IsS86 w (((w23.setCell ⟨gb455, 0, none⟩ (.int .i64 t448)).setCell ⟨gb455, 1, none⟩ (.slice Ao27 t449.length co27)).setCell ⟨gb455, 2, none⟩ (.int .i64 t452)) g447 t444 t453 t454 from by repeat (first | (with_reducible first | exact HI447.out | apply IsS86.alloc | apply IsS86.drewN | apply IsS86.drew | refine IsS86.far ?_ NB447_443.out _ | refine IsS86.far ?_ NB447_455.out _ | apply IsS86.set_1 | apply IsS86.set_2) | exact HI447.out)) hb); have n3_ := Aside0.mk (blk_below (g := gb455) (o := .cells #[.int .i64 t448, .slice Ao27 t449.length co27, .int .i64 t452] 36 (0, 0)) (by (with_reducible repeat (first | refine blk_drewN ?_ _ | refine blk_drew ?_ | refine blk_alloc ?_ _)); refine blk_put (cs := #[.int .i64 t448, .slice Ao27 t449.length co27, .int .i64 0]) ?_ 2 _ rfl; (with_reducible repeat (first | refine blk_drewN ?_ _ | refine blk_drew ?_ | refine blk_alloc ?_ _)); refine blk_put (cs := #[.int .i64 t448, .slice none 0 0, .int .i64 0]) ?_ 1 _ rfl; (with_reducible repeat (first | refine blk_drewN ?_ _ | refine blk_drew ?_ | refine blk_alloc ?_ _)); refine blk_put (cs := #[.int .i64 0, .slice none 0 0, .int .i64 0]) ?_ 0 _ rfl; (with_reducible repeat (first | refine blk_drewN ?_ _ | refine blk_drew ?_ | refine blk_alloc ?_ _)); exact BK455.out) hb); have n4_ := Aside0.mk (below_step y133_ hb); clear HO451; clear BK443; clear HI447; clear BK455; clear HB; have HO451 := n0_; have BK443 := n1_; have HI447 := n2_; have BK455 := n3_; have HB := n4_; clear n0_ n1_ n2_ n3_ n4_; (try clear hb); (try clear hb2); (try clear hk); (try clear hi)) | ((with_reducible refine gate_callee (f := 67) rfl ?_); refine goesL_ (some 17) rfl rfl Try.func67 (by kernel_rfl) rfl #[.pointer (some ⟨g447, 0, none⟩), .int .i64 3] rfl ma_ ?_; (with_reducible refine (spec_l1Once.calls g447 t444 t453 t454 3 false t458 t459 w _ ?side1 ?side2 A5.out).mono ?_); (case side1 => repeat (first | (with_reducible first | exact HI447.out | apply IsS86.alloc | apply IsS86.drewN | apply IsS86.drew | refine IsS86.far ?_ NB447_443.out _ | refine IsS86.far ?_ NB447_455.out _ | apply IsS86.set_1 | apply IsS86.set_2) | exact HI447.out)); (case side2 => repeat (first | (with_reducible first | exact HB.out | apply below_alloc | apply pw_below_drewN | apply below_drew1 | refine below_set ?_ (IsS86.ge HI447.out) | refine below_set ?_ GE443.out | refine below_set ?_ GE455.out) | exact HB.out)); rintro e w29 ⟨rfl, hi, hb, hk⟩; refine ⟨_, rfl, ?_⟩; have n0_ := Aside0.mk (KeepBut.blk hk (g' := gb443) (o := .cells #[.int .i64 0, .slice none 0 0, .int .i64 0] 36 (0, 0)) (bd_ BK443.out) NB443_447.out (by simp)); have n1_ := Aside0.mk (Kd.R_mono (Kd.R_keep (IsS86.apart (show IsS86 w _ g447 t444 t453 t454 from by repeat (first | (with_reducible first | exact HI447.out | apply IsS86.alloc | apply IsS86.drewN | apply IsS86.drew | refine IsS86.far ?_ NB447_443.out _ | refine IsS86.far ?_ NB447_455.out _ | apply IsS86.set_1 | apply IsS86.set_2) | exact HI447.out)) (rd_ HO451.out) (by decide)) hk (fun _ h => h.2)) (fun _ h => h.1)); have n2_ := Aside0.mk (KeepBut.blk hk (g' := gb455) (o := .cells #[.int .i64 t448, .slice Ao27 t449.length co27, .int .i64 t452] 36 (0, 0)) (bd_ BK455.out) NB455_447.out (by simp)); have n3_ := Aside0.mk (hb); have n4_ := Aside0.mk (hi); clear BK443; clear HO451; clear BK455; clear HB; clear HI447; have BK443 := n0_; have HO451 := n1_; have BK455 := n2_; have HB := n3_; have HI447 := n4_; clear n0_ n1_ n2_ n3_ n4_; (try clear hb); (try clear hb2); (try clear hk); (try clear hi); obtain ⟨hcz30_0, hcz30_1, hcz30_2⟩ := e121_ BK455.out; obtain ⟨hfz30_0, hfz30_1, hfz30_2⟩ := z122_ BK455.out; have hnb31 := NB443_447.out; have hnc31 := NB447_443.out; obtain ⟨hcz32_0, hcz32_1, hcz32_2⟩ := e121_ BK443.out; obtain ⟨hfz32_0, hfz32_1, hfz32_2⟩ := z122_ BK443.out))
    refine bodyPost_ret (results_ct rfl _ _ gb443 36 #[.int .i64 t448, .slice Ao27 t449.length co27, .int .i64 t452] (0, 0) _ rfl (by (with_reducible repeat (first | refine blk_drewN ?_ _ | refine blk_drew ?_ | refine blk_alloc ?_ _)); refine blk_put (cs := #[.int .i64 t448, .slice Ao27 t449.length co27, .int .i64 0]) ?_ 2 _ rfl; (with_reducible repeat (first | refine blk_drewN ?_ _ | refine blk_drew ?_ | refine blk_alloc ?_ _)); refine blk_put (cs := #[.int .i64 t448, .slice none 0 0, .int .i64 0]) ?_ 1 _ rfl; (with_reducible repeat (first | refine blk_drewN ?_ _ | refine blk_drew ?_ | refine blk_alloc ?_ _)); refine blk_put (cs := #[.int .i64 0, .slice none 0 0, .int .i64 0]) ?_ 0 _ rfl; (with_reducible repeat (first | refine blk_drewN ?_ _ | refine blk_drew ?_ | refine blk_alloc ?_ _)); exact BK443.out) Try.underlying36 rfl (by kernel_rfl)) rfl ?_
    exact ⟨_, by first | rfl | (simp [errW_none, errW_some] <;> rfl) | (simp [*, errW_none, errW_some] <;> rfl), by (with_reducible repeat (first | apply Kd.R_alloc | apply Kd.R_drewN | apply Kd.R_drew)); exact Kd.R_mono (Kd.R_far (p := ⟨gb443, 2, none⟩) (Kd.R_far (p := ⟨gb443, 1, none⟩) (Kd.R_far (p := ⟨gb443, 0, none⟩) (Kd.R_types HO451.out BK443.out (by decide)) (fun _ hk => hk.2) (.int .i64 t448)) (fun _ hk => hk.2) (.slice Ao27 t449.length co27)) (fun _ hk => hk.2) (.int .i64 t452)) (fun _ hk => trivial), y134_⟩

end Go.Proofs.Ytfghapankndioaa.PFnSecrets
