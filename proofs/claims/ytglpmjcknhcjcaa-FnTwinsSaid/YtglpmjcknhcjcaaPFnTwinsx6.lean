-- Written for this claim by a program (a printer turned to this claim); Lean checks it.
import Derived.Test.YtglpmjcknhcjcaaPFnTwinsx0
import Derived.Test.YtglpmjcknhcjcaaPFnTwinsx3
import Derived.Test.YtglpmjcknhcjcaaPFnTwinsx5
namespace Go.Proofs.Ytglpmjcknhcjcaa.PFnTwins
open Go.RowKit Go.Proofs.YtglpmjcknhcjcaaW.PrintWords Go.Proofs.YtglpmjcknhcjcaaW.PrintLast Go.Proofs.YtglpmjcknhcjcaaW.PrintMore
attribute [local go_sem] max2_int min2_int max_two min_two max_three min_three max_four min_four   -- for this text's walks alone
set_option linter.unusedVariables false
set_option linter.unusedSimpArgs false

/-! ### impl_Meet: function 52 -/
def impl_Meet.f (a0_0 : Int) (a0_1 : Int) (a1_0 : Int) (a1_1 : Int) : Option (Int × Int × Bool) := (impl_IsSpan.f a0_0 a0_1).bind fun t162 => (if t162 = true then ((impl_IsSpan.f a1_0 a1_1).bind fun t163 => (if t163 = true then ((impl_IsSpan.f (mx a0_0 a1_0) (mn a0_1 a1_1)).bind fun t164 => (if t164 = true then (some (mx a0_0 a1_0, mn a0_1 a1_1, true)) else (some (0, 0, false)))) else (some (0, 0, false)))) else (some (0, 0, false)))
set_option maxHeartbeats 8000000 in
set_option maxRecDepth 100000 in
theorem impl_Meet.calls (a0_0 : Int) (a0_1 : Int) (a1_0 : Int) (a1_1 : Int) (r1 : Int) (r2 : Int) (r3 : Bool) (w : World) (h : impl_Meet.f a0_0 a0_1 a1_0 a1_1 = some (r1, r2, r3)) :
  Calls Try.prog 52 #[.agg #[.int .i64 a0_0, .int .i64 a0_1], .agg #[.int .i64 a1_0, .int .i64 a1_1]] w fun e w' => e = .returned (.tuple #[.agg #[.int .i64 r1, .int .i64 r2], .bool r3]) ∧ Below w.heap.size w w' := by
 have hu39 := Try.underlying39
 have HB := o_ (Below.refl w.heap.size w)
 have H := h
 unfold impl_Meet.f at H
 clear h
 obtain ⟨ji3, hji3⟩ : ∃ j_ : Int, (mx a0_0 a1_0) = j_ := ⟨_, rfl⟩
 replace H : ((impl_IsSpan.f a0_0 a0_1).bind fun t162 => (if t162 = true then ((impl_IsSpan.f a1_0 a1_1).bind fun t163 => (if t163 = true then ((impl_IsSpan.f (ji3) (mn a0_1 a1_1)).bind fun t164 => (if t164 = true then (some (ji3, mn a0_1 a1_1, true)) else (some (0, 0, false)))) else (some (0, 0, false)))) else (some (0, 0, false)))) = some (r1, r2, r3) := by first | (rw [hji3] at H; exact H) | (simp only [hji3] at H ⊢; exact H)
 have hji3_ : (if a0_0 < a1_0 then a1_0 else a0_0) = ji3 := hji3
 obtain ⟨ji4, hji4⟩ : ∃ j_ : Int, (mn a0_1 a1_1) = j_ := ⟨_, rfl⟩
 replace H : ((impl_IsSpan.f a0_0 a0_1).bind fun t162 => (if t162 = true then ((impl_IsSpan.f a1_0 a1_1).bind fun t163 => (if t163 = true then ((impl_IsSpan.f (ji3) (ji4)).bind fun t164 => (if t164 = true then (some (ji3, ji4, true)) else (some (0, 0, false)))) else (some (0, 0, false)))) else (some (0, 0, false)))) = some (r1, r2, r3) := by first | (rw [hji4] at H; exact H) | (simp only [hji4] at H ⊢; exact H)
 have hji4_ : (if a1_1 < a0_1 then a1_1 else a0_1) = ji4 := hji4
 obtain ⟨t162, A5, H⟩ := ob_ H
 try dsimp only at H
 have HH_ := o_ H
 clear H
 go_enter Try.func52, Try.ntmps52
 go_upto_region 2 with (first | ((with_reducible refine gate_dst (N := 2) rfl ?_); refine bx_ 2 #[.int .i64 a0_0, .int .i64 a0_1] 39 ?_; intro gb158 hg w11 hbox hb; have BK158 := o_ (hbox); have GW158 := o_ ((y6_ : w.heap.size ≤ gb158)); replace HB := o_ (below_step (hd_ HB.1) hb); have GE158 := GW158; clear hb hbox hg) | ((with_reducible refine gate_dst (N := 3) rfl ?_); refine bx_ 3 #[.int .i64 a1_0, .int .i64 a1_1] 39 ?_; intro gb159 hg w12 hbox hb; have BK159 := o_ (hbox); have GW159 := o_ ((y73e_ : w.heap.size ≤ gb159)); replace HB := o_ (below_step wb_ hb); have GE159 := GW159; have NB158_159 := o_ ((y83_ : gb158 ≠ gb159)); have NB159_158 := o_ ((y84_ : gb159 ≠ gb158)); replace BK158 := o_ (blk_below (bd_ BK158.1) hb); clear hb hbox hg) | ((with_reducible refine gate_dst (N := 4) rfl ?_); refine bx_ 4 #[.int .i64 0, .int .i64 0] 39 ?_; intro gb160 hg w13 hbox hb; have BK160 := o_ (hbox); have GW160 := o_ ((y73e_ : w.heap.size ≤ gb160)); replace HB := o_ (below_step wb_ hb); have GE160 := GW160; have NB158_160 := o_ ((y83_ : gb158 ≠ gb160)); have NB160_158 := o_ ((y84_ : gb160 ≠ gb158)); replace BK158 := o_ (blk_below (bd_ BK158.1) hb); have NB159_160 := o_ ((y89_ : gb159 ≠ gb160)); have NB160_159 := o_ ((y90_ : gb160 ≠ gb159)); replace BK159 := o_ (blk_below (bd_ BK159.1) hb); clear hb hbox hg; have hnb14 := NB158_159.1; have hnc14 := NB159_158.1; have hnb15 := NB158_160.1; have hnc15 := NB160_158.1; have hcz16_0 : w13.cell? ⟨gb158, 0, none⟩ = some (.int .i64 a0_0) := (blk_cell BK158.1 0).trans rfl; have hcz16_1 : w13.cell? ⟨gb158, 1, none⟩ = some (.int .i64 a0_1) := (blk_cell BK158.1 1).trans rfl; have hfz16_0 := blk_frozen BK158.1 0; have hfz16_1 := blk_frozen BK158.1 1; have hnb17 := NB159_160.1; have hnc17 := NB160_159.1; have hcz18_0 : w13.cell? ⟨gb159, 0, none⟩ = some (.int .i64 a1_0) := (blk_cell BK159.1 0).trans rfl; have hcz18_1 : w13.cell? ⟨gb159, 1, none⟩ = some (.int .i64 a1_1) := (blk_cell BK159.1 1).trans rfl; have hfz18_0 := blk_frozen BK159.1 0; have hfz18_1 := blk_frozen BK159.1 1) | ((with_reducible refine gate_dst (N := 6) rfl ?_); refine bx_ 6 #[.int .i64 0, .int .i64 0] 39 ?_; intro gb161 hg w19 hbox hb; have BK161 := o_ (hbox); have GW161 := o_ ((y73e_ : w.heap.size ≤ gb161)); replace HB := o_ (below_step wb_ hb); have GE161 := GW161; have NB158_161 := o_ ((y83_ : gb158 ≠ gb161)); have NB161_158 := o_ ((y84_ : gb161 ≠ gb158)); replace BK158 := o_ (blk_below (bd_ BK158.1) hb); have NB159_161 := o_ ((y89_ : gb159 ≠ gb161)); have NB161_159 := o_ ((y90_ : gb161 ≠ gb159)); replace BK159 := o_ (blk_below (bd_ BK159.1) hb); have NB160_161 := o_ ((y94_ : gb160 ≠ gb161)); have NB161_160 := o_ ((y95_ : gb161 ≠ gb160)); replace BK160 := o_ (blk_below (bd_ BK160.1) hb); clear hb hbox hg; have hnb20 := NB161_158.1; have hnc20 := NB158_161.1; have hnb21 := NB161_159.1; have hnc21 := NB159_161.1; have hnb22 := NB161_160.1; have hnc22 := NB160_161.1; have hcz23_0 : w19.cell? ⟨gb161, 0, none⟩ = some (.int .i64 0) := (blk_cell BK161.1 0).trans rfl; have hcz23_1 : w19.cell? ⟨gb161, 1, none⟩ = some (.int .i64 0) := (blk_cell BK161.1 1).trans rfl; have hfz23_0 := blk_frozen BK161.1 0; have hfz23_1 := blk_frozen BK161.1 1; have hcz24_0 : w19.cell? ⟨gb158, 0, none⟩ = some (.int .i64 a0_0) := (blk_cell BK158.1 0).trans rfl; have hcz24_1 : w19.cell? ⟨gb158, 1, none⟩ = some (.int .i64 a0_1) := (blk_cell BK158.1 1).trans rfl; have hfz24_0 := blk_frozen BK158.1 0; have hfz24_1 := blk_frozen BK158.1 1))
 have H := HH_.1
 clear HH_
 by_cases c6 : t162 = true
 ·
  subst c6
  have H1 := H
  rw [if_pos rfl] at H1
  clear H
  have H := H1
  clear H1
  obtain ⟨t163, A7, H⟩ := ob_ H
  try dsimp only at H
  by_cases c8 : t163 = true
  ·
   subst c8
   have H1 := H
   rw [if_pos rfl] at H1
   clear H
   have H := H1
   clear H1
   obtain ⟨t164, A9, H⟩ := ob_ H
   try dsimp only at H
   by_cases c10 : t164 = true
   ·
    subst c10
    have H1 := H
    rw [if_pos rfl] at H1
    clear H
    have H := H1
    clear H1
    simp only [Option.some.injEq, Prod.mk.injEq] at H
    obtain ⟨rfl, rfl, rfl⟩ := H
    go_wp2_with (first | ((with_reducible refine g_ 82 ?_); refine gl_ (some 19) Try.func82 #[.agg #[.int .i64 a0_0, .int .i64 a0_1]] ?_; (with_reducible refine (impl_IsSpan.calls a0_0 a0_1 true _ A5.1).mono ?_); rintro e w25 ⟨rfl, hb⟩; refine ⟨_, rfl, ?_⟩; replace BK158 := o_ (blk_below (g := gb158) (o := .cells #[.int .i64 a0_0, .int .i64 a0_1] 39 (0, 0)) (bk_ BK158.1) hb); replace BK159 := o_ (blk_below (g := gb159) (o := .cells #[.int .i64 a1_0, .int .i64 a1_1] 39 (0, 0)) (bk_ BK159.1) hb); replace BK160 := o_ (blk_below (g := gb160) (o := .cells #[.int .i64 0, .int .i64 0] 39 (0, 0)) (bk_ BK160.1) hb); replace BK161 := o_ (blk_below (g := gb161) (o := .cells #[.int .i64 ji3, .int .i64 ji4] 39 (0, 0)) (bk_ BK161.1) hb); replace HB := o_ (below_step wb_ hb); (try clear hb); have hcz26_0 : w25.cell? ⟨gb159, 0, none⟩ = some (.int .i64 a1_0) := (blk_cell BK159.1 0).trans rfl; have hcz26_1 : w25.cell? ⟨gb159, 1, none⟩ = some (.int .i64 a1_1) := (blk_cell BK159.1 1).trans rfl; have hfz26_0 := blk_frozen BK159.1 0; have hfz26_1 := blk_frozen BK159.1 1) | (go_at_call 82; (with_reducible refine (impl_IsSpan.calls a1_0 a1_1 true _ A7.1).mono ?_); rintro e w27 ⟨rfl, hb⟩; replace BK158 := o_ (blk_below (bd_ BK158.1) hb); replace BK159 := o_ (blk_below (bd_ BK159.1) hb); replace BK160 := o_ (blk_below (bd_ BK160.1) hb); replace BK161 := o_ (blk_below (bd_ BK161.1) hb); replace HB := o_ (below_step wb_ hb); (try clear hb); have hcz28_0 : w27.cell? ⟨gb161, 0, none⟩ = some (.int .i64 ji3) := (blk_cell BK161.1 0).trans rfl; have hcz28_1 : w27.cell? ⟨gb161, 1, none⟩ = some (.int .i64 ji4) := (blk_cell BK161.1 1).trans rfl; have hfz28_0 := blk_frozen BK161.1 0; have hfz28_1 := blk_frozen BK161.1 1) | (go_at_call 82; (with_reducible refine (impl_IsSpan.calls ji3 ji4 true _ A9.1).mono ?_); rintro e w29 ⟨rfl, hb⟩; replace BK158 := o_ (blk_below (bd_ BK158.1) hb); replace BK159 := o_ (blk_below (bd_ BK159.1) hb); replace BK160 := o_ (blk_below (bd_ BK160.1) hb); replace BK161 := o_ (blk_below (bd_ BK161.1) hb); replace HB := o_ (below_step wb_ hb); (try clear hb); have hcz30_0 : w29.cell? ⟨gb161, 0, none⟩ = some (.int .i64 ji3) := (blk_cell BK161.1 0).trans rfl; have hcz30_1 : w29.cell? ⟨gb161, 1, none⟩ = some (.int .i64 ji4) := (blk_cell BK161.1 1).trans rfl; have hfz30_0 := blk_frozen BK161.1 0; have hfz30_1 := blk_frozen BK161.1 1; have hcz31_0 : w29.cell? ⟨gb160, 0, none⟩ = some (.int .i64 0) := (blk_cell BK160.1 0).trans rfl; have hcz31_1 : w29.cell? ⟨gb160, 1, none⟩ = some (.int .i64 0) := (blk_cell BK160.1 1).trans rfl; have hfz31_0 := blk_frozen BK160.1 0; have hfz31_1 := blk_frozen BK160.1 1))
    refine bodyPost_ret (results_ct rfl _ _ gb160 39 #[.int .i64 ji3, .int .i64 ji4] (0, 0) _ rfl (bk_ BK160.1) Try.underlying39 rfl (by kernel_rfl)) rfl ?_
    exact ⟨by first | rfl | (simp [errW_none, errW_some] <;> rfl) | (simp only [← hji3, ← hji4]; first | rfl | (simp [errW_none, errW_some] <;> rfl)) | (simp [*, errW_none, errW_some] <;> rfl), wb_⟩
   ·
    replace c10 := Bool.eq_false_iff.mpr c10
    subst c10
    have H1 := H
    rw [if_neg nt_] at H1
    clear H
    have H := H1
    clear H1
    simp only [Option.some.injEq, Prod.mk.injEq] at H
    obtain ⟨rfl, rfl, rfl⟩ := H
    go_wp2_with (first | ((with_reducible refine g_ 82 ?_); refine gl_ (some 19) Try.func82 #[.agg #[.int .i64 a0_0, .int .i64 a0_1]] ?_; (with_reducible refine (impl_IsSpan.calls a0_0 a0_1 true _ A5.1).mono ?_); rintro e w46 ⟨rfl, hb⟩; refine ⟨_, rfl, ?_⟩; replace BK158 := o_ (blk_below (g := gb158) (o := .cells #[.int .i64 a0_0, .int .i64 a0_1] 39 (0, 0)) (bk_ BK158.1) hb); replace BK159 := o_ (blk_below (g := gb159) (o := .cells #[.int .i64 a1_0, .int .i64 a1_1] 39 (0, 0)) (bk_ BK159.1) hb); replace BK160 := o_ (blk_below (g := gb160) (o := .cells #[.int .i64 0, .int .i64 0] 39 (0, 0)) (bk_ BK160.1) hb); replace BK161 := o_ (blk_below (g := gb161) (o := .cells #[.int .i64 ji3, .int .i64 ji4] 39 (0, 0)) (bk_ BK161.1) hb); replace HB := o_ (below_step wb_ hb); (try clear hb); have hcz47_0 : w46.cell? ⟨gb159, 0, none⟩ = some (.int .i64 a1_0) := (blk_cell BK159.1 0).trans rfl; have hcz47_1 : w46.cell? ⟨gb159, 1, none⟩ = some (.int .i64 a1_1) := (blk_cell BK159.1 1).trans rfl; have hfz47_0 := blk_frozen BK159.1 0; have hfz47_1 := blk_frozen BK159.1 1) | (go_at_call 82; (with_reducible refine (impl_IsSpan.calls a1_0 a1_1 true _ A7.1).mono ?_); rintro e w48 ⟨rfl, hb⟩; replace BK158 := o_ (blk_below (bd_ BK158.1) hb); replace BK159 := o_ (blk_below (bd_ BK159.1) hb); replace BK160 := o_ (blk_below (bd_ BK160.1) hb); replace BK161 := o_ (blk_below (bd_ BK161.1) hb); replace HB := o_ (below_step wb_ hb); (try clear hb); have hcz49_0 : w48.cell? ⟨gb161, 0, none⟩ = some (.int .i64 ji3) := (blk_cell BK161.1 0).trans rfl; have hcz49_1 : w48.cell? ⟨gb161, 1, none⟩ = some (.int .i64 ji4) := (blk_cell BK161.1 1).trans rfl; have hfz49_0 := blk_frozen BK161.1 0; have hfz49_1 := blk_frozen BK161.1 1) | (go_at_call 82; (with_reducible refine (impl_IsSpan.calls ji3 ji4 false _ A9.1).mono ?_); rintro e w50 ⟨rfl, hb⟩; replace BK158 := o_ (blk_below (bd_ BK158.1) hb); replace BK159 := o_ (blk_below (bd_ BK159.1) hb); replace BK160 := o_ (blk_below (bd_ BK160.1) hb); replace BK161 := o_ (blk_below (bd_ BK161.1) hb); replace HB := o_ (below_step wb_ hb); (try clear hb); have hcz51_0 : w50.cell? ⟨gb160, 0, none⟩ = some (.int .i64 0) := (blk_cell BK160.1 0).trans rfl; have hcz51_1 : w50.cell? ⟨gb160, 1, none⟩ = some (.int .i64 0) := (blk_cell BK160.1 1).trans rfl; have hfz51_0 := blk_frozen BK160.1 0; have hfz51_1 := blk_frozen BK160.1 1))
    refine bodyPost_ret (results_ct rfl _ _ gb160 39 #[.int .i64 0, .int .i64 0] (0, 0) _ rfl (bk_ BK160.1) Try.underlying39 rfl (by kernel_rfl)) rfl ?_
    exact ⟨by first | rfl | (simp [errW_none, errW_some] <;> rfl) | (simp only [← hji3, ← hji4]; first | rfl | (simp [errW_none, errW_some] <;> rfl)) | (simp [*, errW_none, errW_some] <;> rfl), wb_⟩
  ·
   replace c8 := Bool.eq_false_iff.mpr c8
   subst c8
   have H1 := H
   rw [if_neg nt_] at H1
   clear H
   have H := H1
   clear H1
   simp only [Option.some.injEq, Prod.mk.injEq] at H
   obtain ⟨rfl, rfl, rfl⟩ := H
   go_wp2_with (first | ((with_reducible refine g_ 82 ?_); refine gl_ (some 19) Try.func82 #[.agg #[.int .i64 a0_0, .int .i64 a0_1]] ?_; (with_reducible refine (impl_IsSpan.calls a0_0 a0_1 true _ A5.1).mono ?_); rintro e w66 ⟨rfl, hb⟩; refine ⟨_, rfl, ?_⟩; replace BK158 := o_ (blk_below (g := gb158) (o := .cells #[.int .i64 a0_0, .int .i64 a0_1] 39 (0, 0)) (bk_ BK158.1) hb); replace BK159 := o_ (blk_below (g := gb159) (o := .cells #[.int .i64 a1_0, .int .i64 a1_1] 39 (0, 0)) (bk_ BK159.1) hb); replace BK160 := o_ (blk_below (g := gb160) (o := .cells #[.int .i64 0, .int .i64 0] 39 (0, 0)) (bk_ BK160.1) hb); replace BK161 := o_ (blk_below (g := gb161) (o := .cells #[.int .i64 ji3, .int .i64 ji4] 39 (0, 0)) (bk_ BK161.1) hb); replace HB := o_ (below_step wb_ hb); (try clear hb); have hcz67_0 : w66.cell? ⟨gb159, 0, none⟩ = some (.int .i64 a1_0) := (blk_cell BK159.1 0).trans rfl; have hcz67_1 : w66.cell? ⟨gb159, 1, none⟩ = some (.int .i64 a1_1) := (blk_cell BK159.1 1).trans rfl; have hfz67_0 := blk_frozen BK159.1 0; have hfz67_1 := blk_frozen BK159.1 1) | (go_at_call 82; (with_reducible refine (impl_IsSpan.calls a1_0 a1_1 false _ A7.1).mono ?_); rintro e w68 ⟨rfl, hb⟩; replace BK158 := o_ (blk_below (bd_ BK158.1) hb); replace BK159 := o_ (blk_below (bd_ BK159.1) hb); replace BK160 := o_ (blk_below (bd_ BK160.1) hb); replace BK161 := o_ (blk_below (bd_ BK161.1) hb); replace HB := o_ (below_step wb_ hb); (try clear hb); have hcz69_0 : w68.cell? ⟨gb160, 0, none⟩ = some (.int .i64 0) := (blk_cell BK160.1 0).trans rfl; have hcz69_1 : w68.cell? ⟨gb160, 1, none⟩ = some (.int .i64 0) := (blk_cell BK160.1 1).trans rfl; have hfz69_0 := blk_frozen BK160.1 0; have hfz69_1 := blk_frozen BK160.1 1))
   refine bodyPost_ret (results_ct rfl _ _ gb160 39 #[.int .i64 0, .int .i64 0] (0, 0) _ rfl (bk_ BK160.1) Try.underlying39 rfl (by kernel_rfl)) rfl ?_
   exact ⟨by first | rfl | (simp [errW_none, errW_some] <;> rfl) | (simp only [← hji3, ← hji4]; first | rfl | (simp [errW_none, errW_some] <;> rfl)) | (simp [*, errW_none, errW_some] <;> rfl), wb_⟩
 ·
  replace c6 := Bool.eq_false_iff.mpr c6
  subst c6
  have H1 := H
  rw [if_neg nt_] at H1
  clear H
  have H := H1
  clear H1
  simp only [Option.some.injEq, Prod.mk.injEq] at H
  obtain ⟨rfl, rfl, rfl⟩ := H
  go_wp2_with (first | ((with_reducible refine g_ 82 ?_); refine gl_ (some 19) Try.func82 #[.agg #[.int .i64 a0_0, .int .i64 a0_1]] ?_; (with_reducible refine (impl_IsSpan.calls a0_0 a0_1 false _ A5.1).mono ?_); rintro e w84 ⟨rfl, hb⟩; refine ⟨_, rfl, ?_⟩; replace BK158 := o_ (blk_below (g := gb158) (o := .cells #[.int .i64 a0_0, .int .i64 a0_1] 39 (0, 0)) (bk_ BK158.1) hb); replace BK159 := o_ (blk_below (g := gb159) (o := .cells #[.int .i64 a1_0, .int .i64 a1_1] 39 (0, 0)) (bk_ BK159.1) hb); replace BK160 := o_ (blk_below (g := gb160) (o := .cells #[.int .i64 0, .int .i64 0] 39 (0, 0)) (bk_ BK160.1) hb); replace BK161 := o_ (blk_below (g := gb161) (o := .cells #[.int .i64 ji3, .int .i64 ji4] 39 (0, 0)) (bk_ BK161.1) hb); replace HB := o_ (below_step wb_ hb); (try clear hb); have hcz85_0 : w84.cell? ⟨gb160, 0, none⟩ = some (.int .i64 0) := (blk_cell BK160.1 0).trans rfl; have hcz85_1 : w84.cell? ⟨gb160, 1, none⟩ = some (.int .i64 0) := (blk_cell BK160.1 1).trans rfl; have hfz85_0 := blk_frozen BK160.1 0; have hfz85_1 := blk_frozen BK160.1 1))
  refine bodyPost_ret (results_ct rfl _ _ gb160 39 #[.int .i64 0, .int .i64 0] (0, 0) _ rfl (bk_ BK160.1) Try.underlying39 rfl (by kernel_rfl)) rfl ?_
  exact ⟨by first | rfl | (simp [errW_none, errW_some] <;> rfl) | (simp only [← hji3, ← hji4]; first | rfl | (simp [errW_none, errW_some] <;> rfl)) | (simp [*, errW_none, errW_some] <;> rfl), wb_⟩

/-! ### impl_SameOwner: function 20 -/
def impl_SameOwner.f (k : Nat) (a0_0 : Int) (a0_1 : Int) (l0_2 : List Int) (a0_3 : Int) (a0_4 : Int) (l0_5 : List Int) (a0_6 : Int) (a0_7 : Int) (a1_0 : Int) (a1_1 : Int) (l1_2 : List Int) (a1_3 : Int) (a1_4 : Int) (l1_5 : List Int) (a1_6 : Int) (a1_7 : Int) : Option (Bool) := (impl_Sharpen.f k a0_0 a0_1 l0_2 a0_3 a0_4 l0_5 a0_6 a0_7 a1_0 a1_1 l1_2 a1_3 a1_4 l1_5 a1_6 a1_7).bind fun bt167 => ((impl_Meet.f a0_6 a0_7 a1_6 a1_7).bind fun bt181 => (if bt167.2.2.2.2.2.2.2.2 = true then (some bt181.2.2) else (some false)))
theorem impl_SameOwner.mono : ∀ a0 a1 a2 a3 a4 a5 a6 a7 a8 a9 a10 a11 a12 a13 a14 a15 k, LeO (impl_SameOwner.f k a0 a1 a2 a3 a4 a5 a6 a7 a8 a9 a10 a11 a12 a13 a14 a15) (impl_SameOwner.f (k + 1) a0 a1 a2 a3 a4 a5 a6 a7 a8 a9 a10 a11 a12 a13 a14 a15) := by
 intro a0 a1 a2 a3 a4 a5 a6 a7 a8 a9 a10 a11 a12 a13 a14 a15 k
 unfold impl_SameOwner.f
 have jh0 := @impl_Sharpen.mono
 exact mo_
set_option maxHeartbeats 8000000 in
set_option maxRecDepth 100000 in
theorem impl_SameOwner.calls (k : Nat) (a0_0 : Int) (a0_1 : Int) (A0_2 : Option Addr) (c0_2 : Nat) (l0_2 : List Int) (a0_3 : Int) (a0_4 : Int) (A0_5 : Option Addr) (c0_5 : Nat) (l0_5 : List Int) (a0_6 : Int) (a0_7 : Int) (a1_0 : Int) (a1_1 : Int) (A1_2 : Option Addr) (c1_2 : Nat) (l1_2 : List Int) (a1_3 : Int) (a1_4 : Int) (A1_5 : Option Addr) (c1_5 : Nat) (l1_5 : List Int) (a1_6 : Int) (a1_7 : Int) (r : Bool) (w : World) (hr0_2 : Kd.C (Kd.int .i64) w A0_2 l0_2.length l0_2) (hc0_2 : l0_2.length ≤ c0_2) (hr0_5 : Kd.C (Kd.int .i64) w A0_5 l0_5.length l0_5) (hc0_5 : l0_5.length ≤ c0_5) (hr1_2 : Kd.C (Kd.int .i64) w A1_2 l1_2.length l1_2) (hc1_2 : l1_2.length ≤ c1_2) (hr1_5 : Kd.C (Kd.int .i64) w A1_5 l1_5.length l1_5) (hc1_5 : l1_5.length ≤ c1_5) (h : impl_SameOwner.f k a0_0 a0_1 l0_2 a0_3 a0_4 l0_5 a0_6 a0_7 a1_0 a1_1 l1_2 a1_3 a1_4 l1_5 a1_6 a1_7 = some r) :
  Calls Try.prog 20 #[.agg #[.int .i64 a0_0, .int .i64 a0_1, .slice A0_2 l0_2.length c0_2, .int .i64 a0_3, .int .i64 a0_4, .slice A0_5 l0_5.length c0_5, .int .i64 a0_6, .int .i64 a0_7], .agg #[.int .i64 a1_0, .int .i64 a1_1, .slice A1_2 l1_2.length c1_2, .int .i64 a1_3, .int .i64 a1_4, .slice A1_5 l1_5.length c1_5, .int .i64 a1_6, .int .i64 a1_7]] w fun e w' => e = .returned (.bool r) ∧ Below w.heap.size w w' := by
 have hu41 := Try.underlying41
 have hu39 := Try.underlying39
 have HR0_2 := o_ hr0_2
 have HC0_2 := o_ hc0_2
 clear hr0_2 hc0_2
 have HR0_5 := o_ hr0_5
 have HC0_5 := o_ hc0_5
 clear hr0_5 hc0_5
 have HR1_2 := o_ hr1_2
 have HC1_2 := o_ hc1_2
 clear hr1_2 hc1_2
 have HR1_5 := o_ hr1_5
 have HC1_5 := o_ hc1_5
 clear hr1_5 hc1_5
 have HB := o_ (Below.refl w.heap.size w)
 have H := h
 unfold impl_SameOwner.f at H
 clear h
 obtain ⟨⟨t167, t168, t169, t172, t173, t174, t177, t178, t179⟩, A3, H⟩ := ob_ H
 try dsimp only at H
 obtain ⟨⟨t181, t182, t183⟩, A4, H⟩ := ob_ H
 try dsimp only at H
 have HH_ := o_ H
 clear H
 go_enter Try.func20, Try.ntmps20
 go_upto_region 1 with (first | ((with_reducible refine gate_dst (N := 2) rfl ?_); refine bx_ 2 #[.int .i64 a0_0, .int .i64 a0_1, .slice A0_2 l0_2.length c0_2, .int .i64 a0_3, .int .i64 a0_4, .slice A0_5 l0_5.length c0_5, .int .i64 a0_6, .int .i64 a0_7] 41 ?_; intro gb165 hg w6 hbox hb; have BK165 := o_ (hbox); have GW165 := o_ ((by rw [hg]; exact (below_size (hd_ HB.1)) : w.heap.size ≤ gb165)); replace HB := o_ (below_step (hd_ HB.1) hb); have GE165 := GW165; clear hb hbox hg) | ((with_reducible refine gate_dst (N := 3) rfl ?_); refine bx_ 3 #[.int .i64 a1_0, .int .i64 a1_1, .slice A1_2 l1_2.length c1_2, .int .i64 a1_3, .int .i64 a1_4, .slice A1_5 l1_5.length c1_5, .int .i64 a1_6, .int .i64 a1_7] 41 ?_; intro gb166 hg w7 hbox hb; have BK166 := o_ (hbox); have GW166 := o_ ((by rw [hg]; exact (below_size wb_) : w.heap.size ≤ gb166)); replace HB := o_ (below_step wb_ hb); have GE166 := GW166; have NB165_166 := o_ ((y110_ : gb165 ≠ gb166)); have NB166_165 := o_ ((y111_ : gb166 ≠ gb165)); replace BK165 := o_ (blk_below (bd_ BK165.1) hb); clear hb hbox hg; have hnb8 := NB165_166.1; have hnc8 := NB166_165.1; obtain ⟨_, _, _, _, _, _, _, _⟩ := e6_ BK165.1; obtain ⟨_, _, _, _, _, _, _, _⟩ := z5_ BK165.1; obtain ⟨_, _, _, _, _, _, _, _⟩ := e6_ BK166.1; obtain ⟨_, _, _, _, _, _, _, _⟩ := z5_ BK166.1; obtain ⟨hcz30_0, hcz30_1, hcz30_2, hcz30_3, hcz30_4, hcz30_5, hcz30_6, hcz30_7⟩ := e6_ BK166.1; obtain ⟨hfz30_0, hfz30_1, hfz30_2, hfz30_3, hfz30_4, hfz30_5, hfz30_6, hfz30_7⟩ := z5_ BK166.1))
 have H := HH_.1
 clear HH_
 by_cases c5 : t179 = true
 ·
  subst c5
  have H1 := H
  rw [if_pos rfl] at H1
  clear H
  have H := H1
  clear H1
  obtain rfl := Option.some.inj H
  go_wp2_with (first | ((with_reducible refine g_ 51 ?_); refine gl_ (some 12) Try.func51 #[.agg #[.int .i64 a0_0, .int .i64 a0_1, .slice A0_2 l0_2.length c0_2, .int .i64 a0_3, .int .i64 a0_4, .slice A0_5 l0_5.length c0_5, .int .i64 a0_6, .int .i64 a0_7], .agg #[.int .i64 a1_0, .int .i64 a1_1, .slice A1_2 l1_2.length c1_2, .int .i64 a1_3, .int .i64 a1_4, .slice A1_5 l1_5.length c1_5, .int .i64 a1_6, .int .i64 a1_7]] ?_; (with_reducible refine (impl_Sharpen.calls k a0_0 a0_1 _ _ l0_2 a0_3 a0_4 _ _ l0_5 a0_6 a0_7 a1_0 a1_1 _ _ l1_2 a1_3 a1_4 _ _ l1_5 a1_6 a1_7 t167 t168 t169 t172 t173 t174 t177 t178 true _ (cd_ (Kd.C_below HR0_2.1 HB.1)) HC0_2.1 (cd_ (Kd.C_below HR0_5.1 HB.1)) HC0_5.1 (cd_ (Kd.C_below HR1_2.1 HB.1)) HC1_2.1 (cd_ (Kd.C_below HR1_5.1 HB.1)) HC1_5.1 A3.1).mono ?_); rintro e w11 ⟨v170, v175, rfl, ho0, ho1, hb⟩; refine ⟨_, rfl, ?_⟩; have HO171 := o_ (Kd.R_lower ho0 (below_size wb_)); have HO176 := o_ (Kd.R_lower ho1 (below_size wb_)); replace BK165 := o_ (blk_below (bd_ BK165.1) hb); replace BK166 := o_ (blk_below (bd_ BK166.1) hb); replace HB := o_ (below_step wb_ hb); (try clear hb ho0 ho1)) | ((with_reducible refine gate_dst (N := 5) rfl ?_); refine bx_ 5 #[.int .i64 0, .int .i64 0, .slice none 0 0, .int .i64 0, .int .i64 0, .slice none 0 0, .int .i64 0, .int .i64 0] 41 ?_; intro gb180 hg w12 hbox hb; replace HO171 := o_ (Kd.R_below (rd_ HO171.1) hb); replace HO176 := o_ (Kd.R_below (rd_ HO176.1) hb); have BK180 := o_ (hbox); have GW180 := o_ ((by rw [hg]; exact (below_size wb_) : w.heap.size ≤ gb180)); replace HB := o_ (below_step wb_ hb); have GE180 := GW180; have NB165_180 := o_ ((y110_ : gb165 ≠ gb180)); have NB180_165 := o_ ((y111_ : gb180 ≠ gb165)); replace BK165 := o_ (blk_below (bd_ BK165.1) hb); have NB166_180 := o_ ((y114_ : gb166 ≠ gb180)); have NB180_166 := o_ ((y115_ : gb180 ≠ gb166)); replace BK166 := o_ (blk_below (bd_ BK166.1) hb); clear hb hbox hg; have hnb13 := NB180_165.1; have hnc13 := NB165_180.1; have hnb14 := NB180_166.1; have hnc14 := NB166_180.1; obtain ⟨_, _, _, _, _, _, _, _⟩ := e6_ BK180.1; obtain ⟨_, _, _, _, _, _, _, _⟩ := z5_ BK180.1; obtain ⟨Ao16, co16, eo16⟩ := Kd.R_slice HO171.1; subst eo16; obtain ⟨Ao17, co17, eo17⟩ := Kd.R_slice HO176.1; subst eo17; obtain ⟨hcz18_0, hcz18_1, hcz18_2, hcz18_3, hcz18_4, hcz18_5, hcz18_6, hcz18_7⟩ := e6_ BK165.1; obtain ⟨hfz18_0, hfz18_1, hfz18_2, hfz18_3, hfz18_4, hfz18_5, hfz18_6, hfz18_7⟩ := z5_ BK165.1; obtain ⟨_, _, _, _, _, _, _, _⟩ := e6_ BK166.1; obtain ⟨_, _, _, _, _, _, _, _⟩ := z5_ BK166.1) | ((with_reducible refine g_ 52 ?_); refine gl_ (some 20) Try.func52 #[.agg #[.int .i64 a0_6, .int .i64 a0_7], .agg #[.int .i64 a1_6, .int .i64 a1_7]] ?_; (with_reducible refine (impl_Meet.calls a0_6 a0_7 a1_6 a1_7 t181 t182 t183 _ A4.1).mono ?_); rintro e w20 ⟨rfl, hb⟩; refine ⟨_, rfl, ?_⟩; replace HO171 := o_ (Kd.R_below (rf_ (R2_ HO171.1 BK180.1) (fun _ h_ => h_.1)) hb); replace HO176 := o_ (Kd.R_below (rf_ (R2_ HO176.1 BK180.1) (fun _ h_ => h_.1)) hb); replace BK165 := o_ (blk_below (g := gb165) (o := c7_ a0_0 a0_1 A0_2 l0_2.length c0_2 a0_3 a0_4 A0_5 l0_5.length c0_5 a0_6 a0_7) (bk_ BK165.1) hb); replace BK166 := o_ (blk_below (g := gb166) (o := c7_ a1_0 a1_1 A1_2 l1_2.length c1_2 a1_3 a1_4 A1_5 l1_5.length c1_5 a1_6 a1_7) (bk_ BK166.1) hb); replace BK180 := o_ (blk_below (g := gb180) (o := c7_ t167 t168 Ao16 t169.length co16 t172 t173 Ao17 t174.length co17 t177 t178) (bk_ BK180.1) hb); replace HB := o_ (below_step wb_ hb); (try clear hb)) | ((with_reducible refine gate_dst (N := 7) rfl ?_); refine bx_ 7 #[.int .i64 0, .int .i64 0] 39 ?_; intro gb184 hg w21 hbox hb; replace HO171 := o_ (Kd.R_below (rd_ HO171.1) hb); replace HO176 := o_ (Kd.R_below (rd_ HO176.1) hb); have BK184 := o_ (hbox); have GW184 := o_ ((by rw [hg]; exact (below_size wb_) : w.heap.size ≤ gb184)); replace HB := o_ (below_step wb_ hb); have GE184 := GW184; have NB165_184 := o_ ((y110_ : gb165 ≠ gb184)); have NB184_165 := o_ ((y111_ : gb184 ≠ gb165)); replace BK165 := o_ (blk_below (bd_ BK165.1) hb); have NB166_184 := o_ ((y114_ : gb166 ≠ gb184)); have NB184_166 := o_ ((y115_ : gb184 ≠ gb166)); replace BK166 := o_ (blk_below (bd_ BK166.1) hb); have NB180_184 := o_ ((by rw [hg]; exact Nat.ne_of_lt (blk_lt (bd_ BK180.1)) : gb180 ≠ gb184)); have NB184_180 := o_ ((by rw [hg]; exact Nat.ne_of_gt (blk_lt (bd_ BK180.1)) : gb184 ≠ gb180)); replace BK180 := o_ (blk_below (bd_ BK180.1) hb); clear hb hbox hg; have hnb22 := NB184_165.1; have hnc22 := NB165_184.1; have hnb23 := NB184_166.1; have hnc23 := NB166_184.1; have hnb24 := NB184_180.1; have hnc24 := NB180_184.1; have hcz25_0 : w21.cell? ⟨gb184, 0, none⟩ = some (.int .i64 0) := (blk_cell BK184.1 0).trans rfl; have hcz25_1 : w21.cell? ⟨gb184, 1, none⟩ = some (.int .i64 0) := (blk_cell BK184.1 1).trans rfl; have hfz25_0 := blk_frozen BK184.1 0; have hfz25_1 := blk_frozen BK184.1 1))
  go_ret
  exact ⟨rt_, wb_⟩
 ·
  replace c5 := Bool.eq_false_iff.mpr c5
  subst c5
  have H1 := H
  rw [if_neg nt_] at H1
  clear H
  have H := H1
  clear H1
  obtain rfl := Option.some.inj H
  go_wp2_with (first | ((with_reducible refine g_ 51 ?_); refine gl_ (some 12) Try.func51 #[.agg #[.int .i64 a0_0, .int .i64 a0_1, .slice A0_2 l0_2.length c0_2, .int .i64 a0_3, .int .i64 a0_4, .slice A0_5 l0_5.length c0_5, .int .i64 a0_6, .int .i64 a0_7], .agg #[.int .i64 a1_0, .int .i64 a1_1, .slice A1_2 l1_2.length c1_2, .int .i64 a1_3, .int .i64 a1_4, .slice A1_5 l1_5.length c1_5, .int .i64 a1_6, .int .i64 a1_7]] ?_; (with_reducible refine (impl_Sharpen.calls k a0_0 a0_1 _ _ l0_2 a0_3 a0_4 _ _ l0_5 a0_6 a0_7 a1_0 a1_1 _ _ l1_2 a1_3 a1_4 _ _ l1_5 a1_6 a1_7 t167 t168 t169 t172 t173 t174 t177 t178 false _ (cd_ (Kd.C_below HR0_2.1 HB.1)) HC0_2.1 (cd_ (Kd.C_below HR0_5.1 HB.1)) HC0_5.1 (cd_ (Kd.C_below HR1_2.1 HB.1)) HC1_2.1 (cd_ (Kd.C_below HR1_5.1 HB.1)) HC1_5.1 A3.1).mono ?_); rintro e w31 ⟨v170, v175, rfl, ho0, ho1, hb⟩; refine ⟨_, rfl, ?_⟩; have HO171 := o_ (Kd.R_lower ho0 (below_size wb_)); have HO176 := o_ (Kd.R_lower ho1 (below_size wb_)); replace BK165 := o_ (blk_below (bd_ BK165.1) hb); replace BK166 := o_ (blk_below (bd_ BK166.1) hb); replace HB := o_ (below_step wb_ hb); (try clear hb ho0 ho1)) | ((with_reducible refine gate_dst (N := 5) rfl ?_); refine bx_ 5 #[.int .i64 0, .int .i64 0, .slice none 0 0, .int .i64 0, .int .i64 0, .slice none 0 0, .int .i64 0, .int .i64 0] 41 ?_; intro gb180 hg w32 hbox hb; replace HO171 := o_ (Kd.R_below (rd_ HO171.1) hb); replace HO176 := o_ (Kd.R_below (rd_ HO176.1) hb); have BK180 := o_ (hbox); have GW180 := o_ ((by rw [hg]; exact (below_size wb_) : w.heap.size ≤ gb180)); replace HB := o_ (below_step wb_ hb); have GE180 := GW180; have NB165_180 := o_ ((y110_ : gb165 ≠ gb180)); have NB180_165 := o_ ((y111_ : gb180 ≠ gb165)); replace BK165 := o_ (blk_below (bd_ BK165.1) hb); have NB166_180 := o_ ((y114_ : gb166 ≠ gb180)); have NB180_166 := o_ ((y115_ : gb180 ≠ gb166)); replace BK166 := o_ (blk_below (bd_ BK166.1) hb); clear hb hbox hg; have hnb33 := NB180_165.1; have hnc33 := NB165_180.1; have hnb34 := NB180_166.1; have hnc34 := NB166_180.1; obtain ⟨_, _, _, _, _, _, _, _⟩ := e6_ BK180.1; obtain ⟨_, _, _, _, _, _, _, _⟩ := z5_ BK180.1; obtain ⟨Ao36, co36, eo36⟩ := Kd.R_slice HO171.1; subst eo36; obtain ⟨Ao37, co37, eo37⟩ := Kd.R_slice HO176.1; subst eo37; obtain ⟨_, _, _, _, _, _, _, _⟩ := e6_ BK165.1; obtain ⟨_, _, _, _, _, _, _, _⟩ := z5_ BK165.1; obtain ⟨hcz39_0, hcz39_1, hcz39_2, hcz39_3, hcz39_4, hcz39_5, hcz39_6, hcz39_7⟩ := e6_ BK166.1; obtain ⟨hfz39_0, hfz39_1, hfz39_2, hfz39_3, hfz39_4, hfz39_5, hfz39_6, hfz39_7⟩ := z5_ BK166.1) | ((with_reducible refine g_ 52 ?_); refine gl_ (some 20) Try.func52 #[.agg #[.int .i64 a0_6, .int .i64 a0_7], .agg #[.int .i64 a1_6, .int .i64 a1_7]] ?_; (with_reducible refine (impl_Meet.calls a0_6 a0_7 a1_6 a1_7 t181 t182 t183 _ A4.1).mono ?_); rintro e w40 ⟨rfl, hb⟩; refine ⟨_, rfl, ?_⟩; replace HO171 := o_ (Kd.R_below (rf_ (R2_ HO171.1 BK180.1) (fun _ h_ => h_.1)) hb); replace HO176 := o_ (Kd.R_below (rf_ (R2_ HO176.1 BK180.1) (fun _ h_ => h_.1)) hb); replace BK165 := o_ (blk_below (g := gb165) (o := c7_ a0_0 a0_1 A0_2 l0_2.length c0_2 a0_3 a0_4 A0_5 l0_5.length c0_5 a0_6 a0_7) (bk_ BK165.1) hb); replace BK166 := o_ (blk_below (g := gb166) (o := c7_ a1_0 a1_1 A1_2 l1_2.length c1_2 a1_3 a1_4 A1_5 l1_5.length c1_5 a1_6 a1_7) (bk_ BK166.1) hb); replace BK180 := o_ (blk_below (g := gb180) (o := c7_ t167 t168 Ao36 t169.length co36 t172 t173 Ao37 t174.length co37 t177 t178) (bk_ BK180.1) hb); replace HB := o_ (below_step wb_ hb); (try clear hb)) | ((with_reducible refine gate_dst (N := 7) rfl ?_); refine bx_ 7 #[.int .i64 0, .int .i64 0] 39 ?_; intro gb184 hg w41 hbox hb; replace HO171 := o_ (Kd.R_below (rd_ HO171.1) hb); replace HO176 := o_ (Kd.R_below (rd_ HO176.1) hb); have BK184 := o_ (hbox); have GW184 := o_ ((by rw [hg]; exact (below_size wb_) : w.heap.size ≤ gb184)); replace HB := o_ (below_step wb_ hb); have GE184 := GW184; have NB165_184 := o_ ((y110_ : gb165 ≠ gb184)); have NB184_165 := o_ ((y111_ : gb184 ≠ gb165)); replace BK165 := o_ (blk_below (bd_ BK165.1) hb); have NB166_184 := o_ ((y114_ : gb166 ≠ gb184)); have NB184_166 := o_ ((y115_ : gb184 ≠ gb166)); replace BK166 := o_ (blk_below (bd_ BK166.1) hb); have NB180_184 := o_ ((by rw [hg]; exact Nat.ne_of_lt (blk_lt (bd_ BK180.1)) : gb180 ≠ gb184)); have NB184_180 := o_ ((by rw [hg]; exact Nat.ne_of_gt (blk_lt (bd_ BK180.1)) : gb184 ≠ gb180)); replace BK180 := o_ (blk_below (bd_ BK180.1) hb); clear hb hbox hg; have hnb42 := NB184_165.1; have hnc42 := NB165_184.1; have hnb43 := NB184_166.1; have hnc43 := NB166_184.1; have hnb44 := NB184_180.1; have hnc44 := NB180_184.1; have hcz45_0 : w41.cell? ⟨gb184, 0, none⟩ = some (.int .i64 0) := (blk_cell BK184.1 0).trans rfl; have hcz45_1 : w41.cell? ⟨gb184, 1, none⟩ = some (.int .i64 0) := (blk_cell BK184.1 1).trans rfl; have hfz45_0 := blk_frozen BK184.1 0; have hfz45_1 := blk_frozen BK184.1 1))
  go_ret
  exact ⟨rt_, wb_⟩

/-! ### spec_l1In: function 71 -/
def spec_l1In.f (a0 : Int) (a1 : Int) (a2 : Int) : Option (Bool) := if a0 ≥ a1 then (some (decide (a0 ≤ a2))) else (some false)
set_option maxHeartbeats 8000000 in
set_option maxRecDepth 100000 in
theorem spec_l1In.calls (a0 : Int) (a1 : Int) (a2 : Int) (r : Bool) (w : World) (h : spec_l1In.f a0 a1 a2 = some r) :
    Calls Try.prog 71 #[.int .i64 a0, .int .i64 a1, .int .i64 a2] w fun e w' => e = .returned (.bool r) ∧ Drawn0 w w' := by
  have H : (if a0 ≥ a1 then (some (decide (a0 ≤ a2))) else (some false)) = some r := h
  clear h
  by_cases c4 : a0 ≥ a1
  · rw [if_pos c4] at H
    have c4b0 := decide_eq_true c4
    clear c4
    obtain rfl := Option.some.inj H
    go_enter Try.func71, Try.ntmps71
    go_wp2
    go_ret
    exact ⟨rs_, by repeat (first | exact Drawn0.refl _ | apply Drawn0.step)⟩
  · rw [if_neg c4] at H
    have c4b0 := decide_eq_false c4
    clear c4
    obtain rfl := Option.some.inj H
    go_enter Try.func71, Try.ntmps71
    go_wp2
    go_ret
    exact ⟨rs_, by repeat (first | exact Drawn0.refl _ | apply Drawn0.step)⟩

/-! ### spec_IsThing: function 91 -/
def spec_IsThing.f (a0_0 : Int) (a0_1 : Int) (a0_2 : Int) (a0_3 : Int) (a0_4 : Int) : Option (Bool) := (spec_l1In.f a0_0 1 999).bind fun t186 => (if t186 = true then ((spec_l1In.f a0_1 1 8).bind fun t187 => (if t187 = true then ((spec_l1In.f a0_2 0 7).bind fun t188 => (if t188 = true then ((spec_l1In.f a0_3 1 50).bind fun t189 => (if t189 = true then ((spec_l1In.f a0_4 0 10000000).bind fun t190 => (some t190)) else (some false))) else (some false))) else (some false))) else (some false))
set_option maxHeartbeats 8000000 in
set_option maxRecDepth 100000 in
theorem spec_IsThing.calls (a0_0 : Int) (a0_1 : Int) (a0_2 : Int) (a0_3 : Int) (a0_4 : Int) (r : Bool) (w : World) (h : spec_IsThing.f a0_0 a0_1 a0_2 a0_3 a0_4 = some r) :
    Calls Try.prog 91 #[.agg #[.int .i64 a0_0, .int .i64 a0_1, .int .i64 a0_2, .int .i64 a0_3, .int .i64 a0_4]] w fun e w' => e = .returned (.bool r) ∧ Below w.heap.size w w' := by
  have hu56 := Try.underlying56
  have HB := o_ (Below.refl w.heap.size w)
  have H := h
  unfold spec_IsThing.f at H
  clear h
  obtain ⟨t186, A2, H⟩ := ob_ H
  try dsimp only at H
  by_cases c3 : t186 = true
  · subst c3
    have H1 := H
    rw [if_pos rfl] at H1
    clear H
    have H := H1
    clear H1
    obtain ⟨t187, A4, H⟩ := ob_ H
    try dsimp only at H
    by_cases c5 : t187 = true
    · subst c5
      have H1 := H
      rw [if_pos rfl] at H1
      clear H
      have H := H1
      clear H1
      obtain ⟨t188, A6, H⟩ := ob_ H
      try dsimp only at H
      by_cases c7 : t188 = true
      · subst c7
        have H1 := H
        rw [if_pos rfl] at H1
        clear H
        have H := H1
        clear H1
        obtain ⟨t189, A8, H⟩ := ob_ H
        try dsimp only at H
        by_cases c9 : t189 = true
        · subst c9
          have H1 := H
          rw [if_pos rfl] at H1
          clear H
          have H := H1
          clear H1
          obtain ⟨t190, A10, H⟩ := ob_ H
          try dsimp only at H
          obtain rfl := Option.some.inj H
          go_enter Try.func91, Try.ntmps91
          go_wp2_with (first | ((with_reducible refine gate_dst (N := 1) rfl ?_); refine bx_ 1 #[.int .i64 a0_0, .int .i64 a0_1, .int .i64 a0_2, .int .i64 a0_3, .int .i64 a0_4] 56 ?_; intro gb185 hg w11 hbox hb; have BK185 := o_ (hbox); have GW185 := o_ ((y6_ : w.heap.size ≤ gb185)); replace HB := o_ (below_step (hd_ HB.1) hb); have GE185 := GW185; clear hb hbox hg; obtain ⟨_, _, _, _, _⟩ := e2_ BK185.1; obtain ⟨_, _, _, _, _⟩ := z3_ BK185.1) | ((with_reducible refine g_ 71 ?_); refine gl_ (some 5) Try.func71 #[.int .i64 a0_0, .int .i64 1, .int .i64 999] ?_; (with_reducible refine (spec_l1In.calls a0_0 1 999 true _ A2.1).mono ?_); rintro e w' ⟨rfl, ⟨nd, rfl⟩⟩; refine ⟨_, rfl, ?_⟩) | (go_at_call 71; (with_reducible refine (spec_l1In.calls a0_1 1 8 true _ A4.1).mono ?_); rintro e w' ⟨rfl, ⟨nd, rfl⟩⟩) | (go_at_call 71; (with_reducible refine (spec_l1In.calls a0_2 0 7 true _ A6.1).mono ?_); rintro e w' ⟨rfl, ⟨nd, rfl⟩⟩) | (go_at_call 71; (with_reducible refine (spec_l1In.calls a0_3 1 50 true _ A8.1).mono ?_); rintro e w' ⟨rfl, ⟨nd, rfl⟩⟩) | (go_at_call 71; (with_reducible refine (spec_l1In.calls a0_4 0 10000000 t190 _ A10.1).mono ?_); rintro e w' ⟨rfl, ⟨nd, rfl⟩⟩))
          go_ret
          exact ⟨rt_, wb_⟩
        · replace c9 := Bool.eq_false_iff.mpr c9
          subst c9
          have H1 := H
          rw [if_neg nt_] at H1
          clear H
          have H := H1
          clear H1
          obtain rfl := Option.some.inj H
          go_enter Try.func91, Try.ntmps91
          go_wp2_with (first | ((with_reducible refine gate_dst (N := 1) rfl ?_); refine bx_ 1 #[.int .i64 a0_0, .int .i64 a0_1, .int .i64 a0_2, .int .i64 a0_3, .int .i64 a0_4] 56 ?_; intro gb185 hg w13 hbox hb; have BK185 := o_ (hbox); have GW185 := o_ ((y6_ : w.heap.size ≤ gb185)); replace HB := o_ (below_step (hd_ HB.1) hb); have GE185 := GW185; clear hb hbox hg; obtain ⟨_, _, _, _, _⟩ := e2_ BK185.1; obtain ⟨_, _, _, _, _⟩ := z3_ BK185.1) | ((with_reducible refine g_ 71 ?_); refine gl_ (some 5) Try.func71 #[.int .i64 a0_0, .int .i64 1, .int .i64 999] ?_; (with_reducible refine (spec_l1In.calls a0_0 1 999 true _ A2.1).mono ?_); rintro e w' ⟨rfl, ⟨nd, rfl⟩⟩; refine ⟨_, rfl, ?_⟩) | (go_at_call 71; (with_reducible refine (spec_l1In.calls a0_1 1 8 true _ A4.1).mono ?_); rintro e w' ⟨rfl, ⟨nd, rfl⟩⟩) | (go_at_call 71; (with_reducible refine (spec_l1In.calls a0_2 0 7 true _ A6.1).mono ?_); rintro e w' ⟨rfl, ⟨nd, rfl⟩⟩) | (go_at_call 71; (with_reducible refine (spec_l1In.calls a0_3 1 50 false _ A8.1).mono ?_); rintro e w' ⟨rfl, ⟨nd, rfl⟩⟩))
          go_ret
          exact ⟨rt_, wb_⟩
      · replace c7 := Bool.eq_false_iff.mpr c7
        subst c7
        have H1 := H
        rw [if_neg nt_] at H1
        clear H
        have H := H1
        clear H1
        obtain rfl := Option.some.inj H
        go_enter Try.func91, Try.ntmps91
        go_wp2_with (first | ((with_reducible refine gate_dst (N := 1) rfl ?_); refine bx_ 1 #[.int .i64 a0_0, .int .i64 a0_1, .int .i64 a0_2, .int .i64 a0_3, .int .i64 a0_4] 56 ?_; intro gb185 hg w15 hbox hb; have BK185 := o_ (hbox); have GW185 := o_ ((y6_ : w.heap.size ≤ gb185)); replace HB := o_ (below_step (hd_ HB.1) hb); have GE185 := GW185; clear hb hbox hg; obtain ⟨hcz16_0, hcz16_1, hcz16_2, hcz16_3, hcz16_4⟩ := e2_ BK185.1; obtain ⟨hfz16_0, hfz16_1, hfz16_2, hfz16_3, hfz16_4⟩ := z3_ BK185.1) | ((with_reducible refine g_ 71 ?_); refine gl_ (some 5) Try.func71 #[.int .i64 a0_0, .int .i64 1, .int .i64 999] ?_; (with_reducible refine (spec_l1In.calls a0_0 1 999 true _ A2.1).mono ?_); rintro e w' ⟨rfl, ⟨nd, rfl⟩⟩; refine ⟨_, rfl, ?_⟩) | (go_at_call 71; (with_reducible refine (spec_l1In.calls a0_1 1 8 true _ A4.1).mono ?_); rintro e w' ⟨rfl, ⟨nd, rfl⟩⟩) | (go_at_call 71; (with_reducible refine (spec_l1In.calls a0_2 0 7 false _ A6.1).mono ?_); rintro e w' ⟨rfl, ⟨nd, rfl⟩⟩))
        go_ret
        exact ⟨rt_, wb_⟩
    · replace c5 := Bool.eq_false_iff.mpr c5
      subst c5
      have H1 := H
      rw [if_neg nt_] at H1
      clear H
      have H := H1
      clear H1
      obtain rfl := Option.some.inj H
      go_enter Try.func91, Try.ntmps91
      go_wp2_with (first | ((with_reducible refine gate_dst (N := 1) rfl ?_); refine bx_ 1 #[.int .i64 a0_0, .int .i64 a0_1, .int .i64 a0_2, .int .i64 a0_3, .int .i64 a0_4] 56 ?_; intro gb185 hg w17 hbox hb; have BK185 := o_ (hbox); have GW185 := o_ ((y6_ : w.heap.size ≤ gb185)); replace HB := o_ (below_step (hd_ HB.1) hb); have GE185 := GW185; clear hb hbox hg; obtain ⟨hcz18_0, hcz18_1, hcz18_2, hcz18_3, hcz18_4⟩ := e2_ BK185.1; obtain ⟨hfz18_0, hfz18_1, hfz18_2, hfz18_3, hfz18_4⟩ := z3_ BK185.1) | ((with_reducible refine g_ 71 ?_); refine gl_ (some 5) Try.func71 #[.int .i64 a0_0, .int .i64 1, .int .i64 999] ?_; (with_reducible refine (spec_l1In.calls a0_0 1 999 true _ A2.1).mono ?_); rintro e w' ⟨rfl, ⟨nd, rfl⟩⟩; refine ⟨_, rfl, ?_⟩) | (go_at_call 71; (with_reducible refine (spec_l1In.calls a0_1 1 8 false _ A4.1).mono ?_); rintro e w' ⟨rfl, ⟨nd, rfl⟩⟩))
      go_ret
      exact ⟨rt_, wb_⟩
  · replace c3 := Bool.eq_false_iff.mpr c3
    subst c3
    have H1 := H
    rw [if_neg nt_] at H1
    clear H
    have H := H1
    clear H1
    obtain rfl := Option.some.inj H
    go_enter Try.func91, Try.ntmps91
    go_wp2_with (first | ((with_reducible refine gate_dst (N := 1) rfl ?_); refine bx_ 1 #[.int .i64 a0_0, .int .i64 a0_1, .int .i64 a0_2, .int .i64 a0_3, .int .i64 a0_4] 56 ?_; intro gb185 hg w19 hbox hb; have BK185 := o_ (hbox); have GW185 := o_ ((y6_ : w.heap.size ≤ gb185)); replace HB := o_ (below_step (hd_ HB.1) hb); have GE185 := GW185; clear hb hbox hg; obtain ⟨_, _, _, _, _⟩ := e2_ BK185.1; obtain ⟨_, _, _, _, _⟩ := z3_ BK185.1) | ((with_reducible refine g_ 71 ?_); refine gl_ (some 5) Try.func71 #[.int .i64 a0_0, .int .i64 1, .int .i64 999] ?_; (with_reducible refine (spec_l1In.calls a0_0 1 999 false _ A2.1).mono ?_); rintro e w' ⟨rfl, ⟨nd, rfl⟩⟩; refine ⟨_, rfl, ?_⟩))
    go_ret
    exact ⟨rt_, wb_⟩

/-! ### spec_IsFind: function 70 -/
def spec_IsFind.f (a0_0 : Int) (a0_1 : Int) (a0_2 : Int) (a0_3 : Int) (a0_4 : Int) (a0_5 : Int) (a0_6 : Int) (a0_7 : Int) : Option (Bool) := (spec_IsThing.f a0_0 a0_1 a0_2 a0_3 a0_4).bind fun t192 => (if t192 = true then ((spec_l1In.f a0_5 1 30).bind fun t193 => (if t193 = true then ((spec_l1In.f a0_6 0 100000).bind fun t194 => (if t194 = true then ((spec_l1In.f a0_7 0 999).bind fun t195 => (some t195)) else (some false))) else (some false))) else (some false))
set_option maxHeartbeats 8000000 in
set_option maxRecDepth 100000 in
theorem spec_IsFind.calls (a0_0 : Int) (a0_1 : Int) (a0_2 : Int) (a0_3 : Int) (a0_4 : Int) (a0_5 : Int) (a0_6 : Int) (a0_7 : Int) (r : Bool) (w : World) (h : spec_IsFind.f a0_0 a0_1 a0_2 a0_3 a0_4 a0_5 a0_6 a0_7 = some r) :
    Calls Try.prog 70 #[.agg #[.int .i64 a0_0, .int .i64 a0_1, .int .i64 a0_2, .int .i64 a0_3, .int .i64 a0_4, .int .i64 a0_5, .int .i64 a0_6, .int .i64 a0_7]] w fun e w' => e = .returned (.bool r) ∧ Below w.heap.size w w' := by
  have hu58 := Try.underlying58
  have hu56 := Try.underlying56
  have HB := o_ (Below.refl w.heap.size w)
  have H := h
  unfold spec_IsFind.f at H
  clear h
  obtain ⟨t192, A2, H⟩ := ob_ H
  try dsimp only at H
  by_cases c3 : t192 = true
  · subst c3
    have H1 := H
    rw [if_pos rfl] at H1
    clear H
    have H := H1
    clear H1
    obtain ⟨t193, A4, H⟩ := ob_ H
    try dsimp only at H
    by_cases c5 : t193 = true
    · subst c5
      have H1 := H
      rw [if_pos rfl] at H1
      clear H
      have H := H1
      clear H1
      obtain ⟨t194, A6, H⟩ := ob_ H
      try dsimp only at H
      by_cases c7 : t194 = true
      · subst c7
        have H1 := H
        rw [if_pos rfl] at H1
        clear H
        have H := H1
        clear H1
        obtain ⟨t195, A8, H⟩ := ob_ H
        try dsimp only at H
        obtain rfl := Option.some.inj H
        go_enter Try.func70, Try.ntmps70
        go_wp2_with (first | ((with_reducible refine gate_dst (N := 1) rfl ?_); refine bx_ 1 #[.int .i64 a0_0, .int .i64 a0_1, .int .i64 a0_2, .int .i64 a0_3, .int .i64 a0_4, .int .i64 a0_5, .int .i64 a0_6, .int .i64 a0_7] 58 ?_; intro gb191 hg w9 hbox hb; have BK191 := o_ (hbox); have GW191 := o_ ((y6_ : w.heap.size ≤ gb191)); replace HB := o_ (below_step (hd_ HB.1) hb); have GE191 := GW191; clear hb hbox hg; obtain ⟨_, _, _, _, _, _, _, _⟩ := e4_ BK191.1; obtain ⟨_, _, _, _, _, _, _, _⟩ := z5_ BK191.1) | ((with_reducible refine g_ 91 ?_); refine gl_ (some 5) Try.func91 #[.agg #[.int .i64 a0_0, .int .i64 a0_1, .int .i64 a0_2, .int .i64 a0_3, .int .i64 a0_4]] ?_; (with_reducible refine (spec_IsThing.calls a0_0 a0_1 a0_2 a0_3 a0_4 true _ A2.1).mono ?_); rintro e w11 ⟨rfl, hb⟩; refine ⟨_, rfl, ?_⟩; replace BK191 := o_ (blk_below (bd_ BK191.1) hb); replace HB := o_ (below_step wb_ hb); (try clear hb); obtain ⟨_, _, _, _, _, _, _, _⟩ := e4_ BK191.1; obtain ⟨_, _, _, _, _, _, _, _⟩ := z5_ BK191.1) | (go_at_call 71; (with_reducible refine (spec_l1In.calls a0_5 1 30 true _ A4.1).mono ?_); rintro e w' ⟨rfl, ⟨nd, rfl⟩⟩) | (go_at_call 71; (with_reducible refine (spec_l1In.calls a0_6 0 100000 true _ A6.1).mono ?_); rintro e w' ⟨rfl, ⟨nd, rfl⟩⟩) | (go_at_call 71; (with_reducible refine (spec_l1In.calls a0_7 0 999 t195 _ A8.1).mono ?_); rintro e w' ⟨rfl, ⟨nd, rfl⟩⟩))
        go_ret
        exact ⟨rt_, wb_⟩
      · replace c7 := Bool.eq_false_iff.mpr c7
        subst c7
        have H1 := H
        rw [if_neg nt_] at H1
        clear H
        have H := H1
        clear H1
        obtain rfl := Option.some.inj H
        go_enter Try.func70, Try.ntmps70
        go_wp2_with (first | ((with_reducible refine gate_dst (N := 1) rfl ?_); refine bx_ 1 #[.int .i64 a0_0, .int .i64 a0_1, .int .i64 a0_2, .int .i64 a0_3, .int .i64 a0_4, .int .i64 a0_5, .int .i64 a0_6, .int .i64 a0_7] 58 ?_; intro gb191 hg w13 hbox hb; have BK191 := o_ (hbox); have GW191 := o_ ((y6_ : w.heap.size ≤ gb191)); replace HB := o_ (below_step (hd_ HB.1) hb); have GE191 := GW191; clear hb hbox hg; obtain ⟨_, _, _, _, _, _, _, _⟩ := e4_ BK191.1; obtain ⟨_, _, _, _, _, _, _, _⟩ := z5_ BK191.1) | ((with_reducible refine g_ 91 ?_); refine gl_ (some 5) Try.func91 #[.agg #[.int .i64 a0_0, .int .i64 a0_1, .int .i64 a0_2, .int .i64 a0_3, .int .i64 a0_4]] ?_; (with_reducible refine (spec_IsThing.calls a0_0 a0_1 a0_2 a0_3 a0_4 true _ A2.1).mono ?_); rintro e w15 ⟨rfl, hb⟩; refine ⟨_, rfl, ?_⟩; replace BK191 := o_ (blk_below (bd_ BK191.1) hb); replace HB := o_ (below_step wb_ hb); (try clear hb); obtain ⟨hcz16_0, hcz16_1, hcz16_2, hcz16_3, hcz16_4, hcz16_5, hcz16_6, hcz16_7⟩ := e4_ BK191.1; obtain ⟨hfz16_0, hfz16_1, hfz16_2, hfz16_3, hfz16_4, hfz16_5, hfz16_6, hfz16_7⟩ := z5_ BK191.1) | (go_at_call 71; (with_reducible refine (spec_l1In.calls a0_5 1 30 true _ A4.1).mono ?_); rintro e w' ⟨rfl, ⟨nd, rfl⟩⟩) | (go_at_call 71; (with_reducible refine (spec_l1In.calls a0_6 0 100000 false _ A6.1).mono ?_); rintro e w' ⟨rfl, ⟨nd, rfl⟩⟩))
        go_ret
        exact ⟨rt_, wb_⟩
    · replace c5 := Bool.eq_false_iff.mpr c5
      subst c5
      have H1 := H
      rw [if_neg nt_] at H1
      clear H
      have H := H1
      clear H1
      obtain rfl := Option.some.inj H
      go_enter Try.func70, Try.ntmps70
      go_wp2_with (first | ((with_reducible refine gate_dst (N := 1) rfl ?_); refine bx_ 1 #[.int .i64 a0_0, .int .i64 a0_1, .int .i64 a0_2, .int .i64 a0_3, .int .i64 a0_4, .int .i64 a0_5, .int .i64 a0_6, .int .i64 a0_7] 58 ?_; intro gb191 hg w17 hbox hb; have BK191 := o_ (hbox); have GW191 := o_ ((y6_ : w.heap.size ≤ gb191)); replace HB := o_ (below_step (hd_ HB.1) hb); have GE191 := GW191; clear hb hbox hg; obtain ⟨hcz18_0, hcz18_1, hcz18_2, hcz18_3, hcz18_4, hcz18_5, hcz18_6, hcz18_7⟩ := e4_ BK191.1; obtain ⟨hfz18_0, hfz18_1, hfz18_2, hfz18_3, hfz18_4, hfz18_5, hfz18_6, hfz18_7⟩ := z5_ BK191.1) | ((with_reducible refine g_ 91 ?_); refine gl_ (some 5) Try.func91 #[.agg #[.int .i64 a0_0, .int .i64 a0_1, .int .i64 a0_2, .int .i64 a0_3, .int .i64 a0_4]] ?_; (with_reducible refine (spec_IsThing.calls a0_0 a0_1 a0_2 a0_3 a0_4 true _ A2.1).mono ?_); rintro e w19 ⟨rfl, hb⟩; refine ⟨_, rfl, ?_⟩; replace BK191 := o_ (blk_below (bd_ BK191.1) hb); replace HB := o_ (below_step wb_ hb); (try clear hb); obtain ⟨_, _, _, _, _, _, _, _⟩ := e4_ BK191.1; obtain ⟨_, _, _, _, _, _, _, _⟩ := z5_ BK191.1) | (go_at_call 71; (with_reducible refine (spec_l1In.calls a0_5 1 30 false _ A4.1).mono ?_); rintro e w' ⟨rfl, ⟨nd, rfl⟩⟩))
      go_ret
      exact ⟨rt_, wb_⟩
  · replace c3 := Bool.eq_false_iff.mpr c3
    subst c3
    have H1 := H
    rw [if_neg nt_] at H1
    clear H
    have H := H1
    clear H1
    obtain rfl := Option.some.inj H
    go_enter Try.func70, Try.ntmps70
    go_wp2_with (first | ((with_reducible refine gate_dst (N := 1) rfl ?_); refine bx_ 1 #[.int .i64 a0_0, .int .i64 a0_1, .int .i64 a0_2, .int .i64 a0_3, .int .i64 a0_4, .int .i64 a0_5, .int .i64 a0_6, .int .i64 a0_7] 58 ?_; intro gb191 hg w21 hbox hb; have BK191 := o_ (hbox); have GW191 := o_ ((y6_ : w.heap.size ≤ gb191)); replace HB := o_ (below_step (hd_ HB.1) hb); have GE191 := GW191; clear hb hbox hg; obtain ⟨_, _, _, _, _, _, _, _⟩ := e4_ BK191.1; obtain ⟨_, _, _, _, _, _, _, _⟩ := z5_ BK191.1) | ((with_reducible refine g_ 91 ?_); refine gl_ (some 5) Try.func91 #[.agg #[.int .i64 a0_0, .int .i64 a0_1, .int .i64 a0_2, .int .i64 a0_3, .int .i64 a0_4]] ?_; (with_reducible refine (spec_IsThing.calls a0_0 a0_1 a0_2 a0_3 a0_4 false _ A2.1).mono ?_); rintro e w23 ⟨rfl, hb⟩; refine ⟨_, rfl, ?_⟩; replace BK191 := o_ (blk_below (bd_ BK191.1) hb); replace HB := o_ (below_step wb_ hb); (try clear hb)))
    go_ret
    exact ⟨rt_, wb_⟩

end Go.Proofs.Ytglpmjcknhcjcaa.PFnTwins
