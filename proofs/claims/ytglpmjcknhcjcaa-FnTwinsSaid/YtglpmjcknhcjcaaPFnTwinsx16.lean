-- Written for this claim by a program (a printer turned to this claim); Lean checks it.
import Derived.Test.YtglpmjcknhcjcaaPFnTwinsx0
import Derived.Test.YtglpmjcknhcjcaaPFnTwinsx12
import Derived.Test.YtglpmjcknhcjcaaPFnTwinsx15
namespace Go.Proofs.Ytglpmjcknhcjcaa.PFnTwins
open Go.RowKit Go.Proofs.YtglpmjcknhcjcaaW.PrintWords Go.Proofs.YtglpmjcknhcjcaaW.PrintLast Go.Proofs.YtglpmjcknhcjcaaW.PrintMore
attribute [local go_sem] max2_int min2_int max_two min_two max_three min_three max_four min_four   -- for this text's walks alone
set_option linter.unusedVariables false
set_option linter.unusedSimpArgs false

/-! ### spec_l7Any: function 89 -/
def spec_l7Any.f (k : Nat) (s0_0 : List Int) (s0_1 : Int) (s0_2 : Int) : Option (Int × Int × List Int × Int × Int × List Int × Int × Int × Int × Int) := (spec_l1Below.f s0_0 s0_1 s0_2 9).bind fun bt584 => ((spec_l7Draw.f k s0_0 bt584.2.1 bt584.2.2 (wrap64 (1 + bt584.1))).bind fun bt587 => ((spec_l1Below.f s0_0 bt587.2.2.2.2.2.2.2.2.1 bt587.2.2.2.2.2.2.2.2.2 14).bind fun bt602 => (if bt602.1 = 0 then ((spec_l1Int.f s0_0 bt602.2.1 bt602.2.2 (([0, 999, 1000] : List Int))).bind fun bt608 => (some (bt608.1, bt587.2.1, bt587.2.2.1, bt587.2.2.2.1, bt587.2.2.2.2.1, bt587.2.2.2.2.2.1, bt587.2.2.2.2.2.2.1, bt587.2.2.2.2.2.2.2.1, bt608.2.1, bt608.2.2))) else (if bt602.1 = 1 then ((spec_l1Int.f s0_0 bt602.2.1 bt602.2.2 (([0, 8, 9] : List Int))).bind fun bt614 => (some (bt587.1, bt614.1, bt587.2.2.1, bt587.2.2.2.1, bt587.2.2.2.2.1, bt587.2.2.2.2.2.1, bt587.2.2.2.2.2.2.1, bt587.2.2.2.2.2.2.2.1, bt614.2.1, bt614.2.2))) else (if bt602.1 = 2 then ((spec_l1Int.f s0_0 bt602.2.1 bt602.2.2 (([(-1), 3, 8] : List Int))).bind fun bt620 => (some (bt587.1, bt587.2.1, (([bt620.1, 3] : List Int)), bt587.2.2.2.1, bt587.2.2.2.2.1, bt587.2.2.2.2.2.1, bt587.2.2.2.2.2.2.1, bt587.2.2.2.2.2.2.2.1, bt620.2.1, bt620.2.2))) else (if bt602.1 = 3 then ((spec_l4Raw.f s0_0 bt602.2.1 bt602.2.2).bind fun bt626 => (some (bt587.1, bt587.2.1, bt587.2.2.1, bt626.1, bt587.2.2.2.2.1, bt587.2.2.2.2.2.1, bt587.2.2.2.2.2.2.1, bt587.2.2.2.2.2.2.2.1, bt626.2.1, bt626.2.2))) else (if bt602.1 = 4 then ((spec_l4Raw.f s0_0 bt602.2.1 bt602.2.2).bind fun bt629 => (some (bt587.1, bt587.2.1, bt587.2.2.1, bt587.2.2.2.1, bt629.1, bt587.2.2.2.2.2.1, bt587.2.2.2.2.2.2.1, bt587.2.2.2.2.2.2.2.1, bt629.2.1, bt629.2.2))) else (if bt602.1 = 5 then ((spec_l1Int.f s0_0 bt602.2.1 bt602.2.2 (([0, 30, 31] : List Int))).bind fun bt635 => (some (bt587.1, bt587.2.1, bt587.2.2.1, bt587.2.2.2.1, bt587.2.2.2.2.1, (([bt635.1] : List Int)), bt587.2.2.2.2.2.2.1, bt587.2.2.2.2.2.2.2.1, bt635.2.1, bt635.2.2))) else (if bt602.1 = 6 then ((spec_l5Any.f s0_0 bt602.2.1 bt602.2.2).bind fun bt641 => (some (bt587.1, bt587.2.1, bt587.2.2.1, bt587.2.2.2.1, bt587.2.2.2.2.1, bt587.2.2.2.2.2.1, bt641.1, bt641.2.1, bt641.2.2.1, bt641.2.2.2))) else (if bt602.1 = 7 then (some (bt587.1, bt587.2.1, ([] : List Int), 1, 50, ([] : List Int), bt587.2.2.2.2.2.2.1, bt587.2.2.2.2.2.2.2.1, bt602.2.1, bt602.2.2)) else (some (bt587.1, bt587.2.1, bt587.2.2.1, bt587.2.2.2.1, bt587.2.2.2.2.1, bt587.2.2.2.2.2.1, bt587.2.2.2.2.2.2.1, bt587.2.2.2.2.2.2.2.1, bt602.2.1, bt602.2.2))))))))))))
theorem spec_l7Any.mono : ∀ a0 a1 a2 k, LeO (spec_l7Any.f k a0 a1 a2) (spec_l7Any.f (k + 1) a0 a1 a2) := by
 intro a0 a1 a2 k
 unfold spec_l7Any.f
 have jh0 := @spec_l7Draw.mono
 exact mo_
set_option maxHeartbeats 8000000 in
set_option maxRecDepth 100000 in
theorem spec_l7Any.calls (k : Nat) (g : Nat) (s0_0 : List Int) (s0_1 : Int) (s0_2 : Int) (r1 : Int) (r2 : Int) (r3 : List Int) (r4 : Int) (r5 : Int) (r6 : List Int) (r7 : Int) (r8 : Int) (r9 : Int) (r10 : Int) (w0 w : World) (hI : IsS102 w0 w g s0_0 s0_1 s0_2) (hB : Below w0.heap.size w0 w) (h : spec_l7Any.f k s0_0 s0_1 s0_2 = some (r1, r2, r3, r4, r5, r6, r7, r8, r9, r10)) :
  Calls Try.prog 89 #[.pointer (some ⟨g, 0, none⟩)] w fun e w' => ∃ v2_ v5_ : Value, e = .returned (.agg #[.int .i64 r1, .int .i64 r2, v2_, .int .i64 r4, .int .i64 r5, v5_, .int .i64 r7, .int .i64 r8]) ∧ Kd.R (Kd.int .i64) 3 w' w.heap.size (fun k_ => some k_ ≠ (v5_ : Value).ownBlock) v2_ r3 ∧ Kd.R (Kd.int .i64) 3 w' w.heap.size (fun k_ => some k_ ≠ (v2_ : Value).ownBlock) v5_ r6 ∧ IsS102 w0 w' g s0_0 r9 r10 ∧ Below w0.heap.size w0 w' ∧ KeepBut w w' g none := by
 have hu41 := Try.underlying41
 have hu39 := Try.underlying39
 have HI0 := o_ hI
 have HK := o_ (KeepBut.refl w g none)
 have HL := o_ hB.size
 clear hI
 have HW0 := o_ hB.size
 have HB := o_ hB
 clear hB
 have H := h
 unfold spec_l7Any.f at H
 clear h
 obtain ⟨⟨t584, t585, t586⟩, A2, H⟩ := ob_ H
 try dsimp only at H
 obtain ⟨⟨t587, t588, t589, t592, t593, t594, t597, t598, t599, t600⟩, A3, H⟩ := ob_ H
 try dsimp only at H
 obtain ⟨⟨t602, t603, t604⟩, A4, H⟩ := ob_ H
 try dsimp only at H
 have HH_ := o_ H
 clear H
 go_enter Try.func89, Try.ntmps89
 go_upto_region 3 with (first | ((with_reducible refine gate_dst (N := 2) rfl ?_); refine bx_ 2 #[.int .i64 0, .int .i64 0, .slice none 0 0, .int .i64 0, .int .i64 0, .slice none 0 0, .int .i64 0, .int .i64 0] 41 ?_; intro gb583 hg w7 hbox hb; replace HB := o_ (below_step wB_ hb); have BK583 := o_ (hbox); have GW583 := o_ ((y232_ : w.heap.size ≤ gb583)); have GE583 := o_ ((Nat.le_trans HW0.1 (y232_ : w.heap.size ≤ gb583) : w0.heap.size ≤ gb583)); replace HK := o_ (KeepBut.trans wK_ (KeepBut.of_below hb g none) (.inl rfl)); have NB0_583 := o_ ((y222_ : g ≠ gb583)); have NB583_0 := o_ ((y223_ : gb583 ≠ g)); replace HI0 := o_ (IsS102.below wI_ hb); clear hb hbox hg) | ((with_reducible refine g_ 84 ?_); refine gl_ (some 6) Try.func84 #[.pointer (some ⟨g, 0, none⟩), .int .i64 9] ?_; (with_reducible refine (spec_l1Below.calls g s0_0 s0_1 s0_2 9 t584 t585 t586 w0 _ wI_ wB_ A2.1).mono ?_); rintro e w8 ⟨rfl, hi, hb, hk⟩; refine ⟨_, rfl, ?_⟩; replace BK583 := o_ (KeepBut.blk hk (g' := gb583) (o := c7_ 0 0 none 0 0 0 0 none 0 0 0 0) (bd_ BK583.1) NB583_0.1 (by simp)); replace HK := o_ (KeepBut.trans wK_ hk (.inl rfl)); replace HB := o_ (hb); replace HI0 := o_ (hi); (try clear hb hk hi)) | ((with_reducible refine g_ 90 ?_); refine gl_ (some 8) Try.func90 #[.pointer (some ⟨g, 0, none⟩), .int .i64 (wrap64 (1 + t584))] ?_; (with_reducible refine (spec_l7Draw.calls k g s0_0 t585 t586 (wrap64 (1 + t584)) t587 t588 t589 t592 t593 t594 t597 t598 t599 t600 w0 _ wI_ wB_ A3.1).mono ?_); rintro e w9 ⟨v590, v595, rfl, ho0, ho1, hi, hb, hk⟩; refine ⟨_, rfl, ?_⟩; replace BK583 := o_ (KeepBut.blk hk (g' := gb583) (o := c7_ 0 0 none 0 0 0 0 none 0 0 0 0) (bd_ BK583.1) NB583_0.1 (by simp)); have HO591 := o_ (Kd.R_lower ho0 (keep_size (w := w) (g := g) (row := none) wK_)); have HO596 := o_ (Kd.R_lower ho1 (keep_size (w := w) (g := g) (row := none) wK_)); replace HK := o_ (KeepBut.trans wK_ hk (.inl rfl)); replace HB := o_ (hb); replace HI0 := o_ (hi); (try clear hb hk hi ho0 ho1)) | ((with_reducible refine gate_dst (N := 3) rfl ?_); refine bx_ 3 #[.int .i64 0, .int .i64 0, .slice none 0 0, .int .i64 0, .int .i64 0, .slice none 0 0, .int .i64 0, .int .i64 0] 41 ?_; intro gb601 hg w10 hbox hb; replace HO591 := o_ (Kd.R_below (rd_ HO591.1) hb); replace HO596 := o_ (Kd.R_below (rd_ HO596.1) hb); replace HB := o_ (below_step wB_ hb); have BK601 := o_ (hbox); have GW601 := o_ ((y232_ : w.heap.size ≤ gb601)); have GE601 := o_ ((Nat.le_trans HW0.1 (y232_ : w.heap.size ≤ gb601) : w0.heap.size ≤ gb601)); replace HK := o_ (KeepBut.trans wK_ (KeepBut.of_below hb g none) (.inl rfl)); have NB583_601 := o_ ((y407_ : gb583 ≠ gb601)); have NB601_583 := o_ ((y408_ : gb601 ≠ gb583)); replace BK583 := o_ (blk_below (bd_ BK583.1) hb); have NB0_601 := o_ ((y393_ : g ≠ gb601)); have NB601_0 := o_ ((y394_ : gb601 ≠ g)); replace HI0 := o_ (IsS102.below wI_ hb); clear hb hbox hg; have hnb11 := NB601_583.1; have hnc11 := NB583_601.1; have hnb12 := NB601_0.1; have hnc12 := NB0_601.1; obtain ⟨_, _, _, _, _, _, _, _⟩ := e6_ BK601.1; obtain ⟨_, _, _, _, _, _, _, _⟩ := z5_ BK601.1; obtain ⟨Ao14, co14, eo14⟩ := Kd.R_slice HO591.1; subst eo14; obtain ⟨Ao15, co15, eo15⟩ := Kd.R_slice HO596.1; subst eo15) | ((with_reducible refine g_ 84 ?_); refine gl_ (some 10) Try.func84 #[.pointer (some ⟨g, 0, none⟩), .int .i64 14] ?_; (with_reducible refine (spec_l1Below.calls g s0_0 t599 t600 14 t602 t603 t604 w0 _ wI_ wB_ A4.1).mono ?_); rintro e w145 ⟨rfl, hi, hb, hk⟩; refine ⟨_, rfl, ?_⟩; replace BK583 := o_ (KeepBut.blk hk (g' := gb583) (o := c7_ 0 0 none 0 0 0 0 none 0 0 0 0) (bk_ BK583.1) NB583_0.1 (by simp)); replace HO591 := o_ (kp_ (show IsS102 w0 _ g s0_0 t599 t600 from wI_) (rf_ (R2_ HO591.1 BK601.1) (fun _ h_ => h_.1)) hk); replace HO596 := o_ (kp_ (show IsS102 w0 _ g s0_0 t599 t600 from wI_) (rf_ (R2_ HO596.1 BK601.1) (fun _ h_ => h_.1)) hk); replace BK601 := o_ (KeepBut.blk hk (g' := gb601) (o := c7_ t587 t588 Ao14 t589.length co14 t592 t593 Ao15 t594.length co15 t597 t598) (bk_ BK601.1) NB601_0.1 (by simp)); replace HK := o_ (KeepBut.trans wK_ hk (.inl rfl)); replace HB := o_ (hb); replace HI0 := o_ (hi); (try clear hb hk hi); obtain ⟨_, _, _, _, _, _, _, _⟩ := e6_ BK601.1; obtain ⟨_, _, _, _, _, _, _, _⟩ := z5_ BK601.1; have hnb147 := NB583_0.1; have hnc147 := NB0_583.1; obtain ⟨_, _, _, _, _, _, _, _⟩ := e6_ BK583.1; obtain ⟨_, _, _, _, _, _, _, _⟩ := z5_ BK583.1))
 have H := HH_.1
 clear HH_
 by_cases c5 : t602 = 0
 ·
  rw [if_pos c5] at H
  have c5b0 := beq_iff_eq.mpr c5
  have c5b1 := bne_eq_false_iff_eq.mpr c5
  clear c5
  obtain ⟨y605, hy605⟩ : ∃ y_ : List Int, y_ = (([0, 999, 1000] : List Int)) := ⟨_, rfl⟩
  replace H : ((spec_l1Int.f s0_0 t603 t604 y605).bind fun bt608 => (some (bt608.1, t588, t589, t592, t593, t594, t597, t598, bt608.2.1, bt608.2.2))) = some (r1, r2, r3, r4, r5, r6, r7, r8, r9, r10) := hy_ H hy605
  have Ny605 := o_ hy605
  clear hy605
  obtain ⟨⟨t608, t609, t610⟩, A6, H⟩ := ob_ H
  try dsimp only at H
  simp only [Option.some.injEq, Prod.mk.injEq] at H
  obtain ⟨rfl, rfl, rfl, rfl, rfl, rfl, rfl, rfl, rfl, rfl⟩ := H
  go_wp2_with (first | ((with_reducible refine gate_dst (N := 14) rfl ?_); refine Kd.R_lit (Kd.int .i64) _ 3 ?hg (N := 14) ?hd (xs := ([0, 999, 1000] : List Int)) (inner := [.int .i64 0, .int .i64 999, .int .i64 1000]) (ok := fun _ => True) (okp := fun _ => True) ?hr ?hp (fun _ hk => hk) trivial (Below.refl _ _) (Nat.le_refl _) (by simp) ?_; (case hd => rfl); (case hg => rfl); (case hr => first | (go_simp; done) | (go_simp; rfl)); (case hp => exact (Reps.one (show Kd.M (Kd.int .i64) _ _ _ 0 [.int .i64 0] from rfl) (Reps.one (show Kd.M (Kd.int .i64) _ _ _ 999 [.int .i64 999] from rfl) (Reps.one (show Kd.M (Kd.int .i64) _ _ _ 1000 [.int .i64 1000] from rfl) (Reps.none _ _))))); intro v606 w17 ho18 hb hg_ hnew_; clear hg_ hnew_; (first | rw [← Ny605.1] at ho18 | (simp only [Int.reduceToNat] at ho18; rw [← Ny605.1] at ho18)); have HO607 := o_ (Kd.R_lower (Kd.R_new' (Kd.R_new' ho18 (Kd.R_lt (rd_ HO591.1))) (Kd.R_lt (rd_ HO596.1))) (keep_size (w := w) (g := g) (row := none) wK_)); replace HO591 := o_ (Kd.R_elder' (rd_ HO591.1) (Kd.R_base ho18) hb); replace HO596 := o_ (Kd.R_elder' (rd_ HO596.1) (Kd.R_base ho18) hb); replace BK583 := o_ (blk_below (bd_ BK583.1) hb); replace BK601 := o_ (blk_below (bd_ BK601.1) hb); replace HK := o_ (KeepBut.trans wK_ (KeepBut.of_below hb g none) (.inl rfl)); replace HB := o_ (below_step (wB_) hb); replace HI0 := o_ (IsS102.below (wI_) hb); clear hb ho18; obtain ⟨Ao19, co19, eo19⟩ := Kd.R_slice HO607.1; subst eo19) | ((with_reducible refine g_ 85 ?_); refine gl_ (some 15) Try.func85 #[.pointer (some ⟨g, 0, none⟩), .slice Ao19 y605.length co19] ?_; (with_reducible refine (spec_l1Int.calls g s0_0 t603 t604 _ _ y605 t608 t609 t610 w0 _ wI_ wB_ (cd_ (Kd.R_reads' HO607.1).2.2) ((Kd.R_reads' HO607.1).2.1) ?side5 A6.1).mono ?_); (case side5 => exact far_slice (IsS102.own_ne HI0.1 HO607.1 (by decide))); rintro e w20 ⟨rfl, hi, hb, hk⟩; refine ⟨_, rfl, ?_⟩; replace BK583 := o_ (KeepBut.blk hk (g' := gb583) (o := c7_ 0 0 none 0 0 0 0 none 0 0 0 0) (bd_ BK583.1) NB583_0.1 (by simp)); replace HO591 := o_ (kp_ (show IsS102 w0 _ g s0_0 t603 t604 from wI_) (rd_ HO591.1) hk); replace HO596 := o_ (kp_ (show IsS102 w0 _ g s0_0 t603 t604 from wI_) (rd_ HO596.1) hk); replace BK601 := o_ (KeepBut.blk hk (g' := gb601) (o := c7_ t587 t588 Ao14 t589.length co14 t592 t593 Ao15 t594.length co15 t597 t598) (bd_ BK601.1) NB601_0.1 (by simp)); replace HO607 := o_ (kp_ (show IsS102 w0 _ g s0_0 t603 t604 from wI_) (rd_ HO607.1) hk); replace HK := o_ (KeepBut.trans wK_ hk (.inl rfl)); replace HB := o_ (hb); replace HI0 := o_ (hi); (try clear hb hk hi); obtain ⟨_, _, _, _, _, _, _, _⟩ := e6_ BK601.1; obtain ⟨_, _, _, _, _, _, _, _⟩ := z5_ BK601.1; have hnb22 := NB583_0.1; have hnc22 := NB0_583.1; obtain ⟨_, _, _, _, _, _, _, _⟩ := e6_ BK583.1; obtain ⟨_, _, _, _, _, _, _, _⟩ := z5_ BK583.1))
  refine bodyPost_ret (results_cell_row rfl _ _ gb583 41 #[.int .i64 t608, .int .i64 t588, .slice Ao14 t589.length co14, .int .i64 t592, .int .i64 t593, .slice Ao15 t594.length co15, .int .i64 t597, .int .i64 t598] (0, 0) _ rfl (bk_ BK583.1) Try.underlying41 rfl (by kernel_rfl)) rfl ?_
  exact ⟨_, _, rt_, rf_ (R2_ (R2_ HO591.1 BK601.1) BK583.1) (fun _ hk => hk.1.1.1), rf_ (R2_ (R2_ HO596.1 BK601.1) BK583.1) (fun _ hk => hk.1.1.1), wI_, wB_, wK_⟩
 ·
  rw [if_neg c5] at H
  have c5b0 := beq_eq_false_iff_ne.mpr c5
  have c5b1 := bne_iff_ne.mpr c5
  by_cases c24 : t602 = 1
  ·
   rw [if_pos c24] at H
   have c24b0 := beq_iff_eq.mpr c24
   have c24b1 := bne_eq_false_iff_eq.mpr c24
   clear c24
   obtain ⟨y611, hy611⟩ : ∃ y_ : List Int, y_ = (([0, 8, 9] : List Int)) := ⟨_, rfl⟩
   replace H : ((spec_l1Int.f s0_0 t603 t604 y611).bind fun bt614 => (some (t587, bt614.1, t589, t592, t593, t594, t597, t598, bt614.2.1, bt614.2.2))) = some (r1, r2, r3, r4, r5, r6, r7, r8, r9, r10) := hy_ H hy611
   have Ny611 := o_ hy611
   clear hy611
   obtain ⟨⟨t614, t615, t616⟩, A25, H⟩ := ob_ H
   try dsimp only at H
   simp only [Option.some.injEq, Prod.mk.injEq] at H
   obtain ⟨rfl, rfl, rfl, rfl, rfl, rfl, rfl, rfl, rfl, rfl⟩ := H
   go_wp2_with (first | ((with_reducible refine gate_dst (N := 20) rfl ?_); refine Kd.R_lit (Kd.int .i64) _ 3 ?hg (N := 20) ?hd (xs := ([0, 8, 9] : List Int)) (inner := [.int .i64 0, .int .i64 8, .int .i64 9]) (ok := fun _ => True) (okp := fun _ => True) ?hr ?hp (fun _ hk => hk) trivial (Below.refl _ _) (Nat.le_refl _) (by simp) ?_; (case hd => rfl); (case hg => rfl); (case hr => first | (go_simp; done) | (go_simp; rfl)); (case hp => exact (Reps.one (show Kd.M (Kd.int .i64) _ _ _ 0 [.int .i64 0] from rfl) (Reps.one (show Kd.M (Kd.int .i64) _ _ _ 8 [.int .i64 8] from rfl) (Reps.one (show Kd.M (Kd.int .i64) _ _ _ 9 [.int .i64 9] from rfl) (Reps.none _ _))))); intro v612 w36 ho37 hb hg_ hnew_; clear hg_ hnew_; (first | rw [← Ny611.1] at ho37 | (simp only [Int.reduceToNat] at ho37; rw [← Ny611.1] at ho37)); have HO613 := o_ (Kd.R_lower (Kd.R_new' (Kd.R_new' ho37 (Kd.R_lt (rd_ HO591.1))) (Kd.R_lt (rd_ HO596.1))) (keep_size (w := w) (g := g) (row := none) wK_)); replace HO591 := o_ (Kd.R_elder' (rd_ HO591.1) (Kd.R_base ho37) hb); replace HO596 := o_ (Kd.R_elder' (rd_ HO596.1) (Kd.R_base ho37) hb); replace BK583 := o_ (blk_below (bd_ BK583.1) hb); replace BK601 := o_ (blk_below (bd_ BK601.1) hb); replace HK := o_ (KeepBut.trans wK_ (KeepBut.of_below hb g none) (.inl rfl)); replace HB := o_ (below_step (wB_) hb); replace HI0 := o_ (IsS102.below (wI_) hb); clear hb ho37; obtain ⟨Ao38, co38, eo38⟩ := Kd.R_slice HO613.1; subst eo38) | ((with_reducible refine g_ 85 ?_); refine gl_ (some 21) Try.func85 #[.pointer (some ⟨g, 0, none⟩), .slice Ao38 y611.length co38] ?_; (with_reducible refine (spec_l1Int.calls g s0_0 t603 t604 _ _ y611 t614 t615 t616 w0 _ wI_ wB_ (cd_ (Kd.R_reads' HO613.1).2.2) ((Kd.R_reads' HO613.1).2.1) ?side5 A25.1).mono ?_); (case side5 => exact far_slice (IsS102.own_ne HI0.1 HO613.1 (by decide))); rintro e w39 ⟨rfl, hi, hb, hk⟩; refine ⟨_, rfl, ?_⟩; replace BK583 := o_ (KeepBut.blk hk (g' := gb583) (o := c7_ 0 0 none 0 0 0 0 none 0 0 0 0) (bd_ BK583.1) NB583_0.1 (by simp)); replace HO591 := o_ (kp_ (show IsS102 w0 _ g s0_0 t603 t604 from wI_) (rd_ HO591.1) hk); replace HO596 := o_ (kp_ (show IsS102 w0 _ g s0_0 t603 t604 from wI_) (rd_ HO596.1) hk); replace BK601 := o_ (KeepBut.blk hk (g' := gb601) (o := c7_ t587 t588 Ao14 t589.length co14 t592 t593 Ao15 t594.length co15 t597 t598) (bd_ BK601.1) NB601_0.1 (by simp)); replace HO613 := o_ (kp_ (show IsS102 w0 _ g s0_0 t603 t604 from wI_) (rd_ HO613.1) hk); replace HK := o_ (KeepBut.trans wK_ hk (.inl rfl)); replace HB := o_ (hb); replace HI0 := o_ (hi); (try clear hb hk hi); obtain ⟨_, _, _, _, _, _, _, _⟩ := e6_ BK601.1; obtain ⟨_, _, _, _, _, _, _, _⟩ := z5_ BK601.1; have hnb41 := NB583_0.1; have hnc41 := NB0_583.1; obtain ⟨_, _, _, _, _, _, _, _⟩ := e6_ BK583.1; obtain ⟨_, _, _, _, _, _, _, _⟩ := z5_ BK583.1))
   refine bodyPost_ret (results_cell_row rfl _ _ gb583 41 #[.int .i64 t587, .int .i64 t614, .slice Ao14 t589.length co14, .int .i64 t592, .int .i64 t593, .slice Ao15 t594.length co15, .int .i64 t597, .int .i64 t598] (0, 0) _ rfl (bk_ BK583.1) Try.underlying41 rfl (by kernel_rfl)) rfl ?_
   exact ⟨_, _, rt_, rf_ (R2_ (R2_ HO591.1 BK601.1) BK583.1) (fun _ hk => hk.1.1.1), rf_ (R2_ (R2_ HO596.1 BK601.1) BK583.1) (fun _ hk => hk.1.1.1), wI_, wB_, wK_⟩
  ·
   rw [if_neg c24] at H
   have c24b0 := beq_eq_false_iff_ne.mpr c24
   have c24b1 := bne_iff_ne.mpr c24
   by_cases c43 : t602 = 2
   ·
    rw [if_pos c43] at H
    have c43b0 := beq_iff_eq.mpr c43
    have c43b1 := bne_eq_false_iff_eq.mpr c43
    clear c43
    obtain ⟨y617, hy617⟩ : ∃ y_ : List Int, y_ = (([(-1), 3, 8] : List Int)) := ⟨_, rfl⟩
    replace H : ((spec_l1Int.f s0_0 t603 t604 y617).bind fun bt620 => (some (t587, t588, (([bt620.1, 3] : List Int)), t592, t593, t594, t597, t598, bt620.2.1, bt620.2.2))) = some (r1, r2, r3, r4, r5, r6, r7, r8, r9, r10) := hy_ H hy617
    have Ny617 := o_ hy617
    clear hy617
    obtain ⟨⟨t620, t621, t622⟩, A44, H⟩ := ob_ H
    try dsimp only at H
    obtain ⟨y623, hy623⟩ : ∃ y_ : List Int, y_ = (([t620, 3] : List Int)) := ⟨_, rfl⟩
    replace H : (some (t587, t588, y623, t592, t593, t594, t597, t598, t621, t622)) = some (r1, r2, r3, r4, r5, r6, r7, r8, r9, r10) := hy_ H hy623
    have Ny623 := o_ hy623
    clear hy623
    simp only [Option.some.injEq, Prod.mk.injEq] at H
    obtain ⟨rfl, rfl, rfl, rfl, rfl, rfl, rfl, rfl, rfl, rfl⟩ := H
    go_wp2_with (first | ((with_reducible refine gate_dst (N := 26) rfl ?_); refine Kd.R_lit (Kd.int .i64) _ 3 ?hg (N := 26) ?hd (xs := ([(-1), 3, 8] : List Int)) (inner := [.int .i64 (-1), .int .i64 3, .int .i64 8]) (ok := fun _ => True) (okp := fun _ => True) ?hr ?hp (fun _ hk => hk) trivial (Below.refl _ _) (Nat.le_refl _) (by simp) ?_; (case hd => rfl); (case hg => rfl); (case hr => first | (go_simp; done) | (go_simp; rfl)); (case hp => exact (Reps.one (show Kd.M (Kd.int .i64) _ _ _ (-1) [.int .i64 (-1)] from rfl) (Reps.one (show Kd.M (Kd.int .i64) _ _ _ 3 [.int .i64 3] from rfl) (Reps.one (show Kd.M (Kd.int .i64) _ _ _ 8 [.int .i64 8] from rfl) (Reps.none _ _))))); intro v618 w55 ho56 hb hg_ hnew_; clear hg_ hnew_; (first | rw [← Ny617.1] at ho56 | (simp only [Int.reduceToNat] at ho56; rw [← Ny617.1] at ho56)); have HO619 := o_ (Kd.R_lower (Kd.R_new' (Kd.R_new' ho56 (Kd.R_lt (rd_ HO591.1))) (Kd.R_lt (rd_ HO596.1))) (keep_size (w := w) (g := g) (row := none) wK_)); replace HO591 := o_ (Kd.R_elder' (rd_ HO591.1) (Kd.R_base ho56) hb); replace HO596 := o_ (Kd.R_elder' (rd_ HO596.1) (Kd.R_base ho56) hb); replace BK583 := o_ (blk_below (bd_ BK583.1) hb); replace BK601 := o_ (blk_below (bd_ BK601.1) hb); replace HK := o_ (KeepBut.trans wK_ (KeepBut.of_below hb g none) (.inl rfl)); replace HB := o_ (below_step (wB_) hb); replace HI0 := o_ (IsS102.below (wI_) hb); clear hb ho56; obtain ⟨Ao57, co57, eo57⟩ := Kd.R_slice HO619.1; subst eo57) | ((with_reducible refine g_ 85 ?_); refine gl_ (some 27) Try.func85 #[.pointer (some ⟨g, 0, none⟩), .slice Ao57 y617.length co57] ?_; (with_reducible refine (spec_l1Int.calls g s0_0 t603 t604 _ _ y617 t620 t621 t622 w0 _ wI_ wB_ (cd_ (Kd.R_reads' HO619.1).2.2) ((Kd.R_reads' HO619.1).2.1) ?side5 A44.1).mono ?_); (case side5 => exact far_slice (IsS102.own_ne HI0.1 HO619.1 (by decide))); rintro e w58 ⟨rfl, hi, hb, hk⟩; refine ⟨_, rfl, ?_⟩; replace BK583 := o_ (KeepBut.blk hk (g' := gb583) (o := c7_ 0 0 none 0 0 0 0 none 0 0 0 0) (bd_ BK583.1) NB583_0.1 (by simp)); replace HO591 := o_ (kp_ (show IsS102 w0 _ g s0_0 t603 t604 from wI_) (rd_ HO591.1) hk); replace HO596 := o_ (kp_ (show IsS102 w0 _ g s0_0 t603 t604 from wI_) (rd_ HO596.1) hk); replace BK601 := o_ (KeepBut.blk hk (g' := gb601) (o := c7_ t587 t588 Ao14 t589.length co14 t592 t593 Ao15 t594.length co15 t597 t598) (bd_ BK601.1) NB601_0.1 (by simp)); replace HO619 := o_ (kp_ (show IsS102 w0 _ g s0_0 t603 t604 from wI_) (rd_ HO619.1) hk); replace HK := o_ (KeepBut.trans wK_ hk (.inl rfl)); replace HB := o_ (hb); replace HI0 := o_ (hi); (try clear hb hk hi)) | ((with_reducible refine gate_dst (N := 28) rfl ?_); refine Kd.R_lit (Kd.int .i64) _ 3 ?hg (N := 28) ?hd (xs := ([t620, 3] : List Int)) (inner := [.int .i64 t620, .int .i64 3]) (ok := fun _ => True) (okp := fun _ => True) ?hr ?hp (fun _ hk => hk) trivial (Below.refl _ _) (Nat.le_refl _) (by simp) ?_; (case hd => rfl); (case hg => rfl); (case hr => first | (go_simp; done) | (go_simp; rfl)); (case hp => exact (Reps.one (show Kd.M (Kd.int .i64) _ _ _ t620 [.int .i64 t620] from rfl) (Reps.one (show Kd.M (Kd.int .i64) _ _ _ 3 [.int .i64 3] from rfl) (Reps.none _ _)))); intro v624 w59 ho60 hb hg_ hnew_; clear hg_ hnew_; (first | rw [← Ny623.1] at ho60 | (simp only [Int.reduceToNat] at ho60; rw [← Ny623.1] at ho60)); have HO625 := o_ (Kd.R_lower (Kd.R_new' (Kd.R_new' (Kd.R_new' ho60 (Kd.R_lt (rd_ HO591.1))) (Kd.R_lt (rd_ HO596.1))) (Kd.R_lt (rd_ HO619.1))) (keep_size (w := w) (g := g) (row := none) wK_)); replace HO591 := o_ (Kd.R_elder' (rd_ HO591.1) (Kd.R_base ho60) hb); replace HO596 := o_ (Kd.R_elder' (rd_ HO596.1) (Kd.R_base ho60) hb); replace HO619 := o_ (Kd.R_elder' (rd_ HO619.1) (Kd.R_base ho60) hb); replace BK583 := o_ (blk_below (bd_ BK583.1) hb); replace BK601 := o_ (blk_below (bd_ BK601.1) hb); replace HK := o_ (KeepBut.trans wK_ (KeepBut.of_below hb g none) (.inl rfl)); replace HB := o_ (below_step (wB_) hb); replace HI0 := o_ (IsS102.below (wI_) hb); clear hb ho60; obtain ⟨Ao61, co61, eo61⟩ := Kd.R_slice HO625.1; subst eo61; obtain ⟨_, _, _, _, _, _, _, _⟩ := e6_ BK601.1; obtain ⟨_, _, _, _, _, _, _, _⟩ := z5_ BK601.1; have hnb63 := NB583_0.1; have hnc63 := NB0_583.1; obtain ⟨_, _, _, _, _, _, _, _⟩ := e6_ BK583.1; obtain ⟨_, _, _, _, _, _, _, _⟩ := z5_ BK583.1))
    refine bodyPost_ret (results_cell_row rfl _ _ gb583 41 #[.int .i64 t587, .int .i64 t588, .slice Ao61 y623.length co61, .int .i64 t592, .int .i64 t593, .slice Ao15 t594.length co15, .int .i64 t597, .int .i64 t598] (0, 0) _ rfl (bk_ BK583.1) Try.underlying41 rfl (by kernel_rfl)) rfl ?_
    exact ⟨_, _, rt_, rf_ (R2_ (R2_ HO625.1 BK601.1) BK583.1) (fun _ hk => hk.1.1.1.2), rf_ (R2_ (R2_ HO596.1 BK601.1) BK583.1) (fun _ hk => hk.1.1.2), wI_, wB_, wK_⟩
   ·
    rw [if_neg c43] at H
    have c43b0 := beq_eq_false_iff_ne.mpr c43
    have c43b1 := bne_iff_ne.mpr c43
    by_cases c65 : t602 = 3
    ·
     rw [if_pos c65] at H
     have c65b0 := beq_iff_eq.mpr c65
     have c65b1 := bne_eq_false_iff_eq.mpr c65
     clear c65
     obtain ⟨⟨t626, t627, t628⟩, A66, H⟩ := ob_ H
     try dsimp only at H
     simp only [Option.some.injEq, Prod.mk.injEq] at H
     obtain ⟨rfl, rfl, rfl, rfl, rfl, rfl, rfl, rfl, rfl, rfl⟩ := H
     go_wp2_with (first | ((with_reducible refine g_ 98 ?_); refine gl_ (some 33) Try.func98 #[.pointer (some ⟨g, 0, none⟩)] ?_; (with_reducible refine (spec_l4Raw.calls g s0_0 t603 t604 t626 t627 t628 w0 _ wI_ wB_ A66.1).mono ?_); rintro e w77 ⟨rfl, hi, hb, hk⟩; refine ⟨_, rfl, ?_⟩; replace BK583 := o_ (KeepBut.blk hk (g' := gb583) (o := c7_ 0 0 none 0 0 0 0 none 0 0 0 0) (bd_ BK583.1) NB583_0.1 (by simp)); replace HO591 := o_ (kp_ (show IsS102 w0 _ g s0_0 t603 t604 from wI_) (rd_ HO591.1) hk); replace HO596 := o_ (kp_ (show IsS102 w0 _ g s0_0 t603 t604 from wI_) (rd_ HO596.1) hk); replace BK601 := o_ (KeepBut.blk hk (g' := gb601) (o := c7_ t587 t588 Ao14 t589.length co14 t592 t593 Ao15 t594.length co15 t597 t598) (bd_ BK601.1) NB601_0.1 (by simp)); replace HK := o_ (KeepBut.trans wK_ hk (.inl rfl)); replace HB := o_ (hb); replace HI0 := o_ (hi); (try clear hb hk hi); obtain ⟨_, _, _, _, _, _, _, _⟩ := e6_ BK601.1; obtain ⟨_, _, _, _, _, _, _, _⟩ := z5_ BK601.1; have hnb79 := NB583_0.1; have hnc79 := NB0_583.1; obtain ⟨_, _, _, _, _, _, _, _⟩ := e6_ BK583.1; obtain ⟨_, _, _, _, _, _, _, _⟩ := z5_ BK583.1))
     refine bodyPost_ret (results_cell_row rfl _ _ gb583 41 #[.int .i64 t587, .int .i64 t588, .slice Ao14 t589.length co14, .int .i64 t626, .int .i64 t593, .slice Ao15 t594.length co15, .int .i64 t597, .int .i64 t598] (0, 0) _ rfl (bk_ BK583.1) Try.underlying41 rfl (by kernel_rfl)) rfl ?_
     exact ⟨_, _, rt_, rf_ (R2_ (R2_ HO591.1 BK601.1) BK583.1) (fun _ hk => hk.1.1), rf_ (R2_ (R2_ HO596.1 BK601.1) BK583.1) (fun _ hk => hk.1.1), wI_, wB_, wK_⟩
    ·
     rw [if_neg c65] at H
     have c65b0 := beq_eq_false_iff_ne.mpr c65
     have c65b1 := bne_iff_ne.mpr c65
     by_cases c81 : t602 = 4
     ·
      rw [if_pos c81] at H
      have c81b0 := beq_iff_eq.mpr c81
      have c81b1 := bne_eq_false_iff_eq.mpr c81
      clear c81
      obtain ⟨⟨t629, t630, t631⟩, A82, H⟩ := ob_ H
      try dsimp only at H
      simp only [Option.some.injEq, Prod.mk.injEq] at H
      obtain ⟨rfl, rfl, rfl, rfl, rfl, rfl, rfl, rfl, rfl, rfl⟩ := H
      go_wp2_with (first | ((with_reducible refine g_ 98 ?_); refine gl_ (some 38) Try.func98 #[.pointer (some ⟨g, 0, none⟩)] ?_; (with_reducible refine (spec_l4Raw.calls g s0_0 t603 t604 t629 t630 t631 w0 _ wI_ wB_ A82.1).mono ?_); rintro e w93 ⟨rfl, hi, hb, hk⟩; refine ⟨_, rfl, ?_⟩; replace BK583 := o_ (KeepBut.blk hk (g' := gb583) (o := c7_ 0 0 none 0 0 0 0 none 0 0 0 0) (bd_ BK583.1) NB583_0.1 (by simp)); replace HO591 := o_ (kp_ (show IsS102 w0 _ g s0_0 t603 t604 from wI_) (rd_ HO591.1) hk); replace HO596 := o_ (kp_ (show IsS102 w0 _ g s0_0 t603 t604 from wI_) (rd_ HO596.1) hk); replace BK601 := o_ (KeepBut.blk hk (g' := gb601) (o := c7_ t587 t588 Ao14 t589.length co14 t592 t593 Ao15 t594.length co15 t597 t598) (bd_ BK601.1) NB601_0.1 (by simp)); replace HK := o_ (KeepBut.trans wK_ hk (.inl rfl)); replace HB := o_ (hb); replace HI0 := o_ (hi); (try clear hb hk hi); obtain ⟨_, _, _, _, _, _, _, _⟩ := e6_ BK601.1; obtain ⟨_, _, _, _, _, _, _, _⟩ := z5_ BK601.1; have hnb95 := NB583_0.1; have hnc95 := NB0_583.1; obtain ⟨_, _, _, _, _, _, _, _⟩ := e6_ BK583.1; obtain ⟨_, _, _, _, _, _, _, _⟩ := z5_ BK583.1))
      refine bodyPost_ret (results_cell_row rfl _ _ gb583 41 #[.int .i64 t587, .int .i64 t588, .slice Ao14 t589.length co14, .int .i64 t592, .int .i64 t629, .slice Ao15 t594.length co15, .int .i64 t597, .int .i64 t598] (0, 0) _ rfl (bk_ BK583.1) Try.underlying41 rfl (by kernel_rfl)) rfl ?_
      exact ⟨_, _, rt_, rf_ (R2_ (R2_ HO591.1 BK601.1) BK583.1) (fun _ hk => hk.1.1), rf_ (R2_ (R2_ HO596.1 BK601.1) BK583.1) (fun _ hk => hk.1.1), wI_, wB_, wK_⟩
     ·
      rw [if_neg c81] at H
      have c81b0 := beq_eq_false_iff_ne.mpr c81
      have c81b1 := bne_iff_ne.mpr c81
      by_cases c97 : t602 = 5
      ·
       rw [if_pos c97] at H
       have c97b0 := beq_iff_eq.mpr c97
       have c97b1 := bne_eq_false_iff_eq.mpr c97
       clear c97
       obtain ⟨y632, hy632⟩ : ∃ y_ : List Int, y_ = (([0, 30, 31] : List Int)) := ⟨_, rfl⟩
       replace H : ((spec_l1Int.f s0_0 t603 t604 y632).bind fun bt635 => (some (t587, t588, t589, t592, t593, (([bt635.1] : List Int)), t597, t598, bt635.2.1, bt635.2.2))) = some (r1, r2, r3, r4, r5, r6, r7, r8, r9, r10) := hy_ H hy632
       have Ny632 := o_ hy632
       clear hy632
       obtain ⟨⟨t635, t636, t637⟩, A98, H⟩ := ob_ H
       try dsimp only at H
       obtain ⟨y638, hy638⟩ : ∃ y_ : List Int, y_ = (([t635] : List Int)) := ⟨_, rfl⟩
       replace H : (some (t587, t588, t589, t592, t593, y638, t597, t598, t636, t637)) = some (r1, r2, r3, r4, r5, r6, r7, r8, r9, r10) := hy_ H hy638
       have Ny638 := o_ hy638
       clear hy638
       simp only [Option.some.injEq, Prod.mk.injEq] at H
       obtain ⟨rfl, rfl, rfl, rfl, rfl, rfl, rfl, rfl, rfl, rfl⟩ := H
       go_wp2_with (first | ((with_reducible refine gate_dst (N := 43) rfl ?_); refine Kd.R_lit (Kd.int .i64) _ 3 ?hg (N := 43) ?hd (xs := ([0, 30, 31] : List Int)) (inner := [.int .i64 0, .int .i64 30, .int .i64 31]) (ok := fun _ => True) (okp := fun _ => True) ?hr ?hp (fun _ hk => hk) trivial (Below.refl _ _) (Nat.le_refl _) (by simp) ?_; (case hd => rfl); (case hg => rfl); (case hr => first | (go_simp; done) | (go_simp; rfl)); (case hp => exact (Reps.one (show Kd.M (Kd.int .i64) _ _ _ 0 [.int .i64 0] from rfl) (Reps.one (show Kd.M (Kd.int .i64) _ _ _ 30 [.int .i64 30] from rfl) (Reps.one (show Kd.M (Kd.int .i64) _ _ _ 31 [.int .i64 31] from rfl) (Reps.none _ _))))); intro v633 w109 ho110 hb hg_ hnew_; clear hg_ hnew_; (first | rw [← Ny632.1] at ho110 | (simp only [Int.reduceToNat] at ho110; rw [← Ny632.1] at ho110)); have HO634 := o_ (Kd.R_lower (Kd.R_new' (Kd.R_new' ho110 (Kd.R_lt (rd_ HO591.1))) (Kd.R_lt (rd_ HO596.1))) (keep_size (w := w) (g := g) (row := none) wK_)); replace HO591 := o_ (Kd.R_elder' (rd_ HO591.1) (Kd.R_base ho110) hb); replace HO596 := o_ (Kd.R_elder' (rd_ HO596.1) (Kd.R_base ho110) hb); replace BK583 := o_ (blk_below (bd_ BK583.1) hb); replace BK601 := o_ (blk_below (bd_ BK601.1) hb); replace HK := o_ (KeepBut.trans wK_ (KeepBut.of_below hb g none) (.inl rfl)); replace HB := o_ (below_step (wB_) hb); replace HI0 := o_ (IsS102.below (wI_) hb); clear hb ho110; obtain ⟨Ao111, co111, eo111⟩ := Kd.R_slice HO634.1; subst eo111) | ((with_reducible refine g_ 85 ?_); refine gl_ (some 44) Try.func85 #[.pointer (some ⟨g, 0, none⟩), .slice Ao111 y632.length co111] ?_; (with_reducible refine (spec_l1Int.calls g s0_0 t603 t604 _ _ y632 t635 t636 t637 w0 _ wI_ wB_ (cd_ (Kd.R_reads' HO634.1).2.2) ((Kd.R_reads' HO634.1).2.1) ?side5 A98.1).mono ?_); (case side5 => exact far_slice (IsS102.own_ne HI0.1 HO634.1 (by decide))); rintro e w112 ⟨rfl, hi, hb, hk⟩; refine ⟨_, rfl, ?_⟩; replace BK583 := o_ (KeepBut.blk hk (g' := gb583) (o := c7_ 0 0 none 0 0 0 0 none 0 0 0 0) (bd_ BK583.1) NB583_0.1 (by simp)); replace HO591 := o_ (kp_ (show IsS102 w0 _ g s0_0 t603 t604 from wI_) (rd_ HO591.1) hk); replace HO596 := o_ (kp_ (show IsS102 w0 _ g s0_0 t603 t604 from wI_) (rd_ HO596.1) hk); replace BK601 := o_ (KeepBut.blk hk (g' := gb601) (o := c7_ t587 t588 Ao14 t589.length co14 t592 t593 Ao15 t594.length co15 t597 t598) (bd_ BK601.1) NB601_0.1 (by simp)); replace HO634 := o_ (kp_ (show IsS102 w0 _ g s0_0 t603 t604 from wI_) (rd_ HO634.1) hk); replace HK := o_ (KeepBut.trans wK_ hk (.inl rfl)); replace HB := o_ (hb); replace HI0 := o_ (hi); (try clear hb hk hi)) | ((with_reducible refine gate_dst (N := 45) rfl ?_); refine Kd.R_lit (Kd.int .i64) _ 3 ?hg (N := 45) ?hd (xs := ([t635] : List Int)) (inner := [.int .i64 t635]) (ok := fun _ => True) (okp := fun _ => True) ?hr ?hp (fun _ hk => hk) trivial (Below.refl _ _) (Nat.le_refl _) (by simp) ?_; (case hd => rfl); (case hg => rfl); (case hr => first | (go_simp; done) | (go_simp; rfl)); (case hp => exact (Reps.one (show Kd.M (Kd.int .i64) _ _ _ t635 [.int .i64 t635] from rfl) (Reps.none _ _))); intro v639 w113 ho114 hb hg_ hnew_; clear hg_ hnew_; (first | rw [← Ny638.1] at ho114 | (simp only [Int.reduceToNat] at ho114; rw [← Ny638.1] at ho114)); have HO640 := o_ (Kd.R_lower (Kd.R_new' (Kd.R_new' (Kd.R_new' ho114 (Kd.R_lt (rd_ HO591.1))) (Kd.R_lt (rd_ HO596.1))) (Kd.R_lt (rd_ HO634.1))) (keep_size (w := w) (g := g) (row := none) wK_)); replace HO591 := o_ (Kd.R_elder' (rd_ HO591.1) (Kd.R_base ho114) hb); replace HO596 := o_ (Kd.R_elder' (rd_ HO596.1) (Kd.R_base ho114) hb); replace HO634 := o_ (Kd.R_elder' (rd_ HO634.1) (Kd.R_base ho114) hb); replace BK583 := o_ (blk_below (bd_ BK583.1) hb); replace BK601 := o_ (blk_below (bd_ BK601.1) hb); replace HK := o_ (KeepBut.trans wK_ (KeepBut.of_below hb g none) (.inl rfl)); replace HB := o_ (below_step (wB_) hb); replace HI0 := o_ (IsS102.below (wI_) hb); clear hb ho114; obtain ⟨Ao115, co115, eo115⟩ := Kd.R_slice HO640.1; subst eo115; obtain ⟨_, _, _, _, _, _, _, _⟩ := e6_ BK601.1; obtain ⟨_, _, _, _, _, _, _, _⟩ := z5_ BK601.1; have hnb117 := NB583_0.1; have hnc117 := NB0_583.1; obtain ⟨_, _, _, _, _, _, _, _⟩ := e6_ BK583.1; obtain ⟨_, _, _, _, _, _, _, _⟩ := z5_ BK583.1))
       refine bodyPost_ret (results_cell_row rfl _ _ gb583 41 #[.int .i64 t587, .int .i64 t588, .slice Ao14 t589.length co14, .int .i64 t592, .int .i64 t593, .slice Ao115 y638.length co115, .int .i64 t597, .int .i64 t598] (0, 0) _ rfl (bk_ BK583.1) Try.underlying41 rfl (by kernel_rfl)) rfl ?_
       exact ⟨_, _, rt_, rf_ (R2_ (R2_ HO591.1 BK601.1) BK583.1) (fun _ hk => hk.1.1.2), rf_ (R2_ (R2_ HO640.1 BK601.1) BK583.1) (fun _ hk => hk.1.1.1.1.2), wI_, wB_, wK_⟩
      ·
       rw [if_neg c97] at H
       have c97b0 := beq_eq_false_iff_ne.mpr c97
       have c97b1 := bne_iff_ne.mpr c97
       by_cases c119 : t602 = 6
       ·
        rw [if_pos c119] at H
        have c119b0 := beq_iff_eq.mpr c119
        have c119b1 := bne_eq_false_iff_eq.mpr c119
        clear c119
        obtain ⟨⟨t641, t642, t643, t644⟩, A120, H⟩ := ob_ H
        try dsimp only at H
        simp only [Option.some.injEq, Prod.mk.injEq] at H
        obtain ⟨rfl, rfl, rfl, rfl, rfl, rfl, rfl, rfl, rfl, rfl⟩ := H
        go_wp2_with (first | ((with_reducible refine g_ 100 ?_); refine gl_ (some 50) Try.func100 #[.pointer (some ⟨g, 0, none⟩)] ?_; (with_reducible refine (spec_l5Any.calls g s0_0 t603 t604 t641 t642 t643 t644 w0 _ wI_ wB_ A120.1).mono ?_); rintro e w131 ⟨rfl, hi, hb, hk⟩; refine ⟨_, rfl, ?_⟩; replace BK583 := o_ (KeepBut.blk hk (g' := gb583) (o := c7_ 0 0 none 0 0 0 0 none 0 0 0 0) (bd_ BK583.1) NB583_0.1 (by simp)); replace HO591 := o_ (kp_ (show IsS102 w0 _ g s0_0 t603 t604 from wI_) (rd_ HO591.1) hk); replace HO596 := o_ (kp_ (show IsS102 w0 _ g s0_0 t603 t604 from wI_) (rd_ HO596.1) hk); replace BK601 := o_ (KeepBut.blk hk (g' := gb601) (o := c7_ t587 t588 Ao14 t589.length co14 t592 t593 Ao15 t594.length co15 t597 t598) (bd_ BK601.1) NB601_0.1 (by simp)); replace HK := o_ (KeepBut.trans wK_ hk (.inl rfl)); replace HB := o_ (hb); replace HI0 := o_ (hi); (try clear hb hk hi); obtain ⟨_, _, _, _, _, _, _, _⟩ := e6_ BK601.1; obtain ⟨_, _, _, _, _, _, _, _⟩ := z5_ BK601.1; have hnb133 := NB583_0.1; have hnc133 := NB0_583.1; obtain ⟨_, _, _, _, _, _, _, _⟩ := e6_ BK583.1; obtain ⟨_, _, _, _, _, _, _, _⟩ := z5_ BK583.1))
        refine bodyPost_ret (results_cell_row rfl _ _ gb583 41 #[.int .i64 t587, .int .i64 t588, .slice Ao14 t589.length co14, .int .i64 t592, .int .i64 t593, .slice Ao15 t594.length co15, .int .i64 t641, .int .i64 t642] (0, 0) _ rfl (bk_ BK583.1) Try.underlying41 rfl (by kernel_rfl)) rfl ?_
        exact ⟨_, _, rt_, rf_ (R2_ (R2_ HO591.1 BK601.1) BK583.1) (fun _ hk => hk.1.1), rf_ (R2_ (R2_ HO596.1 BK601.1) BK583.1) (fun _ hk => hk.1.1), wI_, wB_, wK_⟩
       ·
        rw [if_neg c119] at H
        have c119b0 := beq_eq_false_iff_ne.mpr c119
        have c119b1 := bne_iff_ne.mpr c119
        by_cases c135 : t602 = 7
        ·
         rw [if_pos c135] at H
         have c135b0 := beq_iff_eq.mpr c135
         have c135b1 := bne_eq_false_iff_eq.mpr c135
         clear c135
         simp only [Option.some.injEq, Prod.mk.injEq] at H
         obtain ⟨rfl, rfl, rfl, rfl, rfl, rfl, rfl, rfl, rfl, rfl⟩ := H
         go_wp2
         refine bodyPost_ret (results_cell_row rfl _ _ gb583 41 #[.int .i64 t587, .int .i64 t588, .slice none 0 0, .int .i64 1, .int .i64 50, .slice none 0 0, .int .i64 t597, .int .i64 t598] (0, 0) _ rfl (bk_ BK583.1) Try.underlying41 rfl (by kernel_rfl)) rfl ?_
         exact ⟨_, _, rt_, by first | exact Kd.R_nil _ _ _ _ _ | exact Kd.N_nil _ _ _ _ _ | exact Kd.V_nil _ _ _ _ _ | exact Kd.Q_nil _ _ _ _ _ | exact Kd.S_nil _ _ _ _ _, by first | exact Kd.R_nil _ _ _ _ _ | exact Kd.N_nil _ _ _ _ _ | exact Kd.V_nil _ _ _ _ _ | exact Kd.Q_nil _ _ _ _ _ | exact Kd.S_nil _ _ _ _ _, wI_, wB_, wK_⟩
        ·
         rw [if_neg c135] at H
         have c135b0 := beq_eq_false_iff_ne.mpr c135
         have c135b1 := bne_iff_ne.mpr c135
         simp only [Option.some.injEq, Prod.mk.injEq] at H
         obtain ⟨rfl, rfl, rfl, rfl, rfl, rfl, rfl, rfl, rfl, rfl⟩ := H
         go_wp2
         refine bodyPost_ret (results_cell_row rfl _ _ gb583 41 #[.int .i64 t587, .int .i64 t588, .slice Ao14 t589.length co14, .int .i64 t592, .int .i64 t593, .slice Ao15 t594.length co15, .int .i64 t597, .int .i64 t598] (0, 0) _ rfl (bk_ BK583.1) Try.underlying41 rfl (by kernel_rfl)) rfl ?_
         exact ⟨_, _, rt_, rf_ (R2_ HO591.1 BK583.1) (fun _ hk => hk.1), rf_ (R2_ HO596.1 BK583.1) (fun _ hk => hk.1), wI_, wB_, wK_⟩

/-! ### spec_l7Report: function 99 -/
def spec_l7Report.f (a0_0 : Int) (a0_1 : Int) (l0_2 : List Int) (a0_3 : Int) (a0_4 : Int) (l0_5 : List Int) (a0_6 : Int) (a0_7 : Int) : Option (Int × Int × List Int × Int × Int × List Int × Int × Int) := (some (([] : List Int) : List Int)).bind fun y647 => (if y647.length + l0_2.length < 17592186044416 then ((some (([] : List Int) : List Int)).bind fun y653 => (if y653.length + l0_5.length < 17592186044416 then (some (a0_0, a0_1, (y647 ++ l0_2), a0_3, a0_4, (y653 ++ l0_5), a0_6, a0_7)) else (none))) else (none))
set_option maxHeartbeats 8000000 in
set_option maxRecDepth 100000 in
theorem spec_l7Report.calls (a0_0 : Int) (a0_1 : Int) (A0_2 : Option Addr) (c0_2 : Nat) (l0_2 : List Int) (a0_3 : Int) (a0_4 : Int) (A0_5 : Option Addr) (c0_5 : Nat) (l0_5 : List Int) (a0_6 : Int) (a0_7 : Int) (r1 : Int) (r2 : Int) (r3 : List Int) (r4 : Int) (r5 : Int) (r6 : List Int) (r7 : Int) (r8 : Int) (w : World) (hr0_2 : Kd.C (Kd.int .i64) w A0_2 l0_2.length l0_2) (hc0_2 : l0_2.length ≤ c0_2) (hr0_5 : Kd.C (Kd.int .i64) w A0_5 l0_5.length l0_5) (hc0_5 : l0_5.length ≤ c0_5) (h : spec_l7Report.f a0_0 a0_1 l0_2 a0_3 a0_4 l0_5 a0_6 a0_7 = some (r1, r2, r3, r4, r5, r6, r7, r8)) :
    Calls Try.prog 99 #[.agg #[.int .i64 a0_0, .int .i64 a0_1, .slice A0_2 l0_2.length c0_2, .int .i64 a0_3, .int .i64 a0_4, .slice A0_5 l0_5.length c0_5, .int .i64 a0_6, .int .i64 a0_7]] w fun e w' => ∃ v2_ v5_ : Value, e = .returned (.agg #[.int .i64 r1, .int .i64 r2, v2_, .int .i64 r4, .int .i64 r5, v5_, .int .i64 r7, .int .i64 r8]) ∧ Kd.R (Kd.int .i64) 3 w' w.heap.size (fun k_ => some k_ ≠ (v5_ : Value).ownBlock) v2_ r3 ∧ Kd.R (Kd.int .i64) 3 w' w.heap.size (fun k_ => some k_ ≠ (v2_ : Value).ownBlock) v5_ r6 ∧ Below w.heap.size w w' := by
  have hu41 := Try.underlying41
  have HR0_2 := o_ hr0_2
  have HC0_2 := o_ hc0_2
  clear hr0_2 hc0_2
  have HR0_5 := o_ hr0_5
  have HC0_5 := o_ hc0_5
  clear hr0_5 hc0_5
  have HB := o_ (Below.refl w.heap.size w)
  have H := h
  unfold spec_l7Report.f at H
  clear h
  obtain ⟨y647, hy647⟩ : ∃ y_ : List Int, y_ = (([] : List Int)) := ⟨_, rfl⟩
  replace H : (if y647.length + l0_2.length < 17592186044416 then ((some (([] : List Int) : List Int)).bind fun y653 => (if y653.length + l0_5.length < 17592186044416 then (some (a0_0, a0_1, (y647 ++ l0_2), a0_3, a0_4, (y653 ++ l0_5), a0_6, a0_7)) else (none))) else (none)) = some (r1, r2, r3, r4, r5, r6, r7, r8) := hy_ H hy647
  have Ny647 := o_ hy647
  clear hy647
  by_cases c2 : y647.length + l0_2.length < 17592186044416
  · rw [if_pos c2] at H
    have LMc2 := o_ c2
    clear c2
    obtain ⟨y650, hy650⟩ : ∃ y_ : List Int, y_ = (y647 ++ l0_2) := ⟨_, rfl⟩
    replace H : ((some (([] : List Int) : List Int)).bind fun y653 => (if y653.length + l0_5.length < 17592186044416 then (some (a0_0, a0_1, y650, a0_3, a0_4, (y653 ++ l0_5), a0_6, a0_7)) else (none))) = some (r1, r2, r3, r4, r5, r6, r7, r8) := hy_ H hy650
    have Ny650 := o_ hy650
    clear hy650
    obtain ⟨y653, hy653⟩ : ∃ y_ : List Int, y_ = (([] : List Int)) := ⟨_, rfl⟩
    replace H : (if y653.length + l0_5.length < 17592186044416 then (some (a0_0, a0_1, y650, a0_3, a0_4, (y653 ++ l0_5), a0_6, a0_7)) else (none)) = some (r1, r2, r3, r4, r5, r6, r7, r8) := hy_ H hy653
    have Ny653 := o_ hy653
    clear hy653
    by_cases c3 : y653.length + l0_5.length < 17592186044416
    · rw [if_pos c3] at H
      have LMc3 := o_ c3
      clear c3
      obtain ⟨y656, hy656⟩ : ∃ y_ : List Int, y_ = (y653 ++ l0_5) := ⟨_, rfl⟩
      replace H : (some (a0_0, a0_1, y650, a0_3, a0_4, y656, a0_6, a0_7)) = some (r1, r2, r3, r4, r5, r6, r7, r8) := hy_ H hy656
      have Ny656 := o_ hy656
      clear hy656
      simp only [Option.some.injEq, Prod.mk.injEq] at H
      obtain ⟨rfl, rfl, rfl, rfl, rfl, rfl, rfl, rfl⟩ := H
      go_enter Try.func99, Try.ntmps99
      go_wp2_with (first | ((with_reducible refine gate_dst (N := 1) rfl ?_); refine bx_ 1 #[.int .i64 a0_0, .int .i64 a0_1, .slice A0_2 l0_2.length c0_2, .int .i64 a0_3, .int .i64 a0_4, .slice A0_5 l0_5.length c0_5, .int .i64 a0_6, .int .i64 a0_7] 41 ?_; intro gb645 hg w4 hbox hb; have BK645 := o_ (hbox); have GW645 := o_ ((by rw [hg]; exact (below_size (hd_ HB.1)) : w.heap.size ≤ gb645)); replace HB := o_ (below_step (hd_ HB.1) hb); have GE645 := GW645; clear hb hbox hg) | ((with_reducible refine gate_dst (N := 2) rfl ?_); refine bx_ 2 #[.int .i64 0, .int .i64 0, .slice none 0 0, .int .i64 0, .int .i64 0, .slice none 0 0, .int .i64 0, .int .i64 0] 41 ?_; intro gb646 hg w5 hbox hb; have BK646 := o_ (hbox); have GW646 := o_ ((by rw [hg]; exact (below_size wB_) : w.heap.size ≤ gb646)); replace HB := o_ (below_step wB_ hb); have GE646 := GW646; have NB645_646 := o_ ((by rw [hg]; exact Nat.ne_of_lt (blk_lt (bd_ BK645.1)) : gb645 ≠ gb646)); have NB646_645 := o_ ((by rw [hg]; exact Nat.ne_of_gt (blk_lt (bd_ BK645.1)) : gb646 ≠ gb645)); replace BK645 := o_ (blk_below (bd_ BK645.1) hb); clear hb hbox hg) | ((with_reducible refine gate_dst (N := 3) rfl ?_); refine Kd.R_lit (Kd.int .i64) _ 3 ?hg (N := 3) ?hd (xs := ([] : List Int)) (inner := []) (ok := fun _ => True) (okp := fun _ => True) ?hr ?hp (fun _ hk => hk) trivial (Below.refl _ _) (Nat.le_refl _) (by simp) ?_; (case hd => rfl); (case hg => rfl); (case hr => first | (go_simp; done) | (go_simp; rfl)); (case hp => exact (Reps.none _ _)); intro v648 w6 ho7 hb hg_ hnew_; clear hg_ hnew_; (first | rw [← Ny647.1] at ho7 | (simp only [Int.reduceToNat] at ho7; rw [← Ny647.1] at ho7)); have HO649 := o_ (Kd.R_lower ho7 (below_size wB_)); replace BK645 := o_ (blk_below (bd_ BK645.1) hb); replace BK646 := o_ (blk_below (bd_ BK646.1) hb); replace HB := o_ (below_step wB_ hb); clear hb ho7; have hnb8 := NB645_646.1; have hnc8 := NB646_645.1; obtain ⟨_, _, _, _, _, _, _, _⟩ := e6_ BK645.1; obtain ⟨_, _, _, _, _, _, _, _⟩ := z5_ BK645.1) | ((with_reducible refine gate_builtin (b := .append) (xs := #[.tmp 3, .tmp 5]) rfl ?_); at_builtin; refine Kd.R_append_rows (Kd.int .i64) (w0 := w) w.heap.size rfl (.tmp 3) (.tmp 5) 24 3 (.int .i64 0) 8 rfl Try.underlying24 info3 rfl (by decide) (by omega) v648 y647 l0_2 _ _ _ (fun _ => True) (fun _ => False) rfl rfl ?aO ?aR (fun _ _ h => h) (fun _ h => h.elim) ?aF ?aB ?aS ?aL ?_; (case aR => repeat (first | exact (Kd.C_below HR0_2.1 HB.1) | (with_reducible refine Kd.C_alloc ?_ _) | (with_reducible refine Kd.C_drewN ?_ _) | (with_reducible refine Kd.C_drew ?_))); (case aB => exact wB_); (case aF => exact (fun _ _ => trivial)); (case aO => exact (rd_ HO649.1)); (case aS => exact (below_size wB_)); (case aL => have := LMc2.1; omega); intro v651 w10 ho hb hg hat; rw [← Ny650.1] at ho; replace BK645 := o_ (blk_grown (g := gb645) (o := c7_ a0_0 a0_1 A0_2 l0_2.length c0_2 a0_3 a0_4 A0_5 l0_5.length c0_5 a0_6 a0_7) (bd_ BK645.1) hg (Kd.R_ne HO649.1 BK645.1 (by decide))); replace BK646 := o_ (blk_grown (g := gb646) (o := c7_ 0 0 none 0 0 0 0 none 0 0 0 0) (bd_ BK646.1) hg (Kd.R_ne HO649.1 BK646.1 (by decide))); replace HB := o_ (hb); have HO652 := o_ (ho); clear HO649 ho hb hg hat; obtain ⟨Ao11, co11, eo11⟩ := Kd.R_slice HO652.1; subst eo11; obtain ⟨_, _, _, _, _, _, _, _⟩ := e6_ BK645.1; obtain ⟨_, _, _, _, _, _, _, _⟩ := z5_ BK645.1) | ((with_reducible refine gate_dst (N := 8) rfl ?_); refine Kd.R_lit (Kd.int .i64) _ 3 ?hg (N := 8) ?hd (xs := ([] : List Int)) (inner := []) (ok := fun _ => True) (okp := fun _ => True) ?hr ?hp (fun _ hk => hk) trivial (Below.refl _ _) (Nat.le_refl _) (by simp) ?_; (case hd => rfl); (case hg => rfl); (case hr => first | (go_simp; done) | (go_simp; rfl)); (case hp => exact (Reps.none _ _)); intro v654 w13 ho14 hb hg_ hnew_; clear hg_ hnew_; (first | rw [← Ny653.1] at ho14 | (simp only [Int.reduceToNat] at ho14; rw [← Ny653.1] at ho14)); have HO655 := o_ (Kd.R_lower (Kd.R_new' ho14 (Kd.R_lt (rf_ (R2_ HO652.1 BK645.1) (fun _ h_ => h_.1)))) (below_size wB_)); replace HO652 := o_ (Kd.R_elder' (rf_ (R2_ HO652.1 BK645.1) (fun _ h_ => h_.1)) (Kd.R_base ho14) hb); replace BK645 := o_ (blk_below (g := gb645) (o := c7_ a0_0 a0_1 Ao11 y650.length co11 a0_3 a0_4 A0_5 l0_5.length c0_5 a0_6 a0_7) (bk_ BK645.1) hb); replace BK646 := o_ (blk_below (g := gb646) (o := c7_ 0 0 none 0 0 0 0 none 0 0 0 0) (bk_ BK646.1) hb); replace HB := o_ (below_step wB_ hb); clear hb ho14; obtain ⟨_, _, _, _, _, _, _, _⟩ := e6_ BK645.1; obtain ⟨_, _, _, _, _, _, _, _⟩ := z5_ BK645.1) | ((with_reducible refine gate_builtin (b := .append) (xs := #[.tmp 8, .tmp 10]) rfl ?_); at_builtin; refine Kd.R_append_rows (Kd.int .i64) (w0 := w) w.heap.size rfl (.tmp 8) (.tmp 10) 24 3 (.int .i64 0) 8 rfl Try.underlying24 info3 rfl (by decide) (by omega) v654 y653 l0_5 _ _ _ (fun k_ => some k_ ≠ (.slice Ao11 y650.length co11 : Value).ownBlock) (fun _ => False) rfl rfl ?aO ?aR (fun _ _ h => h) (fun _ h => h.elim) ?aF ?aB ?aS ?aL ?_; (case aR => repeat (first | exact (Kd.C_below HR0_5.1 HB.1) | (with_reducible refine Kd.C_alloc ?_ _) | (with_reducible refine Kd.C_drewN ?_ _) | (with_reducible refine Kd.C_drew ?_))); (case aB => exact wB_); (case aF => exact (fun k_ hk => Kd.fresh' (Kd.R_lt (rd_ HO652.1)) k_ hk)); (case aO => exact (by (with_reducible repeat (first | apply Kd.R_alloc | apply Kd.R_drewN | apply Kd.R_drew)); exact Kd.R_mono HO655.1 (fun _ hk => hk.2))); (case aS => exact (below_size wB_)); (case aL => have := LMc3.1; omega); intro v657 w16 ho hb hg hat; rw [← Ny656.1] at ho; replace BK645 := o_ (blk_grown (g := gb645) (o := c7_ a0_0 a0_1 Ao11 y650.length co11 a0_3 a0_4 A0_5 l0_5.length c0_5 a0_6 a0_7) (bd_ BK645.1) hg (Kd.R_ne HO655.1 BK645.1 (by decide))); replace BK646 := o_ (blk_grown (g := gb646) (o := c7_ 0 0 none 0 0 0 0 none 0 0 0 0) (bd_ BK646.1) hg (Kd.R_ne HO655.1 BK646.1 (by decide))); replace HO652 := o_ (Kd.R_after (ok := (fun _ => True)) (rd_ HO652.1) hg hat); replace HB := o_ (hb); have HO658 := o_ (ho); clear HO655 ho hb hg hat; obtain ⟨Ao17, co17, eo17⟩ := Kd.R_slice HO658.1; subst eo17; obtain ⟨_, _, _, _, _, _, _, _⟩ := e6_ BK645.1; obtain ⟨_, _, _, _, _, _, _, _⟩ := z5_ BK645.1; obtain ⟨_, _, _, _, _, _, _, _⟩ := e6_ BK646.1; obtain ⟨_, _, _, _, _, _, _, _⟩ := z5_ BK646.1))
      refine bodyPost_ret (results_cell_row rfl _ _ gb646 41 #[.int .i64 a0_0, .int .i64 a0_1, .slice Ao11 y650.length co11, .int .i64 a0_3, .int .i64 a0_4, .slice Ao17 y656.length co17, .int .i64 a0_6, .int .i64 a0_7] (0, 0) _ rfl (bk_ BK646.1) Try.underlying41 rfl (by kernel_rfl)) rfl ?_
      exact ⟨_, _, rt_, rf_ (R2_ (R2_ HO652.1 BK645.1) BK646.1) (fun _ hk => hk.1.1.2), rf_ (R2_ (R2_ HO658.1 BK645.1) BK646.1) (fun _ hk => hk.1.1), wB_⟩
    · rw [if_neg c3] at H
      exact absurd H (by simp)
  · rw [if_neg c2] at H
    exact absurd H (by simp)

end Go.Proofs.Ytglpmjcknhcjcaa.PFnTwins
