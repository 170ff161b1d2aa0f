-- Written for this claim by a program (a printer turned to this claim); Lean checks it.
import Derived.Test.YtglpmjcknhcjcaaPFnTwinsx0
import Derived.Test.YtglpmjcknhcjcaaPFnTwinsx12
import Derived.Test.YtglpmjcknhcjcaaPFnTwinsx13
namespace Go.Proofs.Ytglpmjcknhcjcaa.PFnTwins
open Go.RowKit Go.Proofs.YtglpmjcknhcjcaaW.PrintWords Go.Proofs.YtglpmjcknhcjcaaW.PrintLast Go.Proofs.YtglpmjcknhcjcaaW.PrintMore
attribute [local go_sem] max2_int min2_int max_two min_two max_three min_three max_four min_four   -- for this text's walks alone
set_option linter.unusedVariables false
set_option linter.unusedSimpArgs false

/-! ### spec_l24Pair: function 59 -/
def spec_l24Pair.f (k : Nat) (s0_0 : List Int) (s0_1 : Int) (s0_2 : Int) : Option (Int × Int × Int × Int × Int × Int × Int × Int × Int × Int × Int × Int × Int × Int × Int × Int × Int × Int) := (spec_l6One.f k s0_0 s0_1 s0_2).bind fun bt425 => ((spec_l1Below.f s0_0 bt425.2.2.2.2.2.2.2.2.1 bt425.2.2.2.2.2.2.2.2.2 9).bind fun bt437 => ((spec_Min.f 100000 bt425.2.2.2.2.2.2.1).bind fun t440 => ((spec_l1Int.f s0_0 bt437.2.1 bt437.2.2 (([0, 5, 24, 25, (-24), (-25)] : List Int))).bind fun bt444 => ((spec_Max.f 0 (wrap64 (t440 + bt444.1))).bind fun t447 => ((spec_l1Below.f s0_0 bt444.2.1 bt444.2.2 6).bind fun bt448 => (if bt448.1 = 0 then ((spec_l1Below.f s0_0 bt448.2.1 bt448.2.2 6).bind fun bt451 => (some (bt425.1, bt425.2.1, bt425.2.2.1, bt425.2.2.2.1, bt425.2.2.2.2.1, bt425.2.2.2.2.2.1, bt425.2.2.2.2.2.2.1, bt425.2.2.2.2.2.2.2.1, wrap64 (1 + bt437.1), bt425.2.1, bt425.2.2.1, bt425.2.2.2.1, bt425.2.2.2.2.1, wrap64 (1 + bt451.1), t447, bt425.2.2.2.2.2.2.2.1, bt451.2.1, bt451.2.2))) else (if bt448.1 = 1 then ((spec_l1Below.f s0_0 bt448.2.1 bt448.2.2 20).bind fun bt454 => (some (bt425.1, bt425.2.1, bt425.2.2.1, bt425.2.2.2.1, bt425.2.2.2.2.1, bt425.2.2.2.2.2.1, bt425.2.2.2.2.2.2.1, bt425.2.2.2.2.2.2.2.1, wrap64 (1 + bt437.1), bt425.2.1, bt425.2.2.1, wrap64 (1 + bt454.1), bt425.2.2.2.2.1, bt425.2.2.2.2.2.1, t447, bt425.2.2.2.2.2.2.2.1, bt454.2.1, bt454.2.2))) else (if bt448.1 = 2 then ((spec_l6One.f k s0_0 bt448.2.1 bt448.2.2).bind fun bt457 => (some (bt425.1, bt425.2.1, bt425.2.2.1, bt425.2.2.2.1, bt425.2.2.2.2.1, bt425.2.2.2.2.2.1, bt425.2.2.2.2.2.2.1, bt425.2.2.2.2.2.2.2.1, bt457.1, bt457.2.1, bt457.2.2.1, bt457.2.2.2.1, bt457.2.2.2.2.1, bt457.2.2.2.2.2.1, bt457.2.2.2.2.2.2.1, bt457.2.2.2.2.2.2.2.1, bt457.2.2.2.2.2.2.2.2.1, bt457.2.2.2.2.2.2.2.2.2))) else (some (bt425.1, bt425.2.1, bt425.2.2.1, bt425.2.2.2.1, bt425.2.2.2.2.1, bt425.2.2.2.2.2.1, bt425.2.2.2.2.2.2.1, bt425.2.2.2.2.2.2.2.1, wrap64 (1 + bt437.1), bt425.2.1, bt425.2.2.1, bt425.2.2.2.1, bt425.2.2.2.2.1, bt425.2.2.2.2.2.1, t447, bt425.2.2.2.2.2.2.2.1, bt448.2.1, bt448.2.2))))))))))
theorem spec_l24Pair.mono : ∀ a0 a1 a2 k, LeO (spec_l24Pair.f k a0 a1 a2) (spec_l24Pair.f (k + 1) a0 a1 a2) := by
 intro a0 a1 a2 k
 unfold spec_l24Pair.f
 have jh0 := @spec_l6One.mono
 exact mo_
theorem y307_ {P : Prop} (h : P := by rw [hg]; exact Nat.ne_of_lt (blk_lt (g := gb435) (o := c8_ t425 t426 t427 t428 t429 t430 t431 t432) (bk_ BK435.1))) : P := h
theorem y308_ {P : Prop} (h : P := by rw [hg]; exact Nat.ne_of_gt (blk_lt (g := gb435) (o := c8_ t425 t426 t427 t428 t429 t430 t431 t432) (bk_ BK435.1))) : P := h
theorem y311_ {P : Prop} (h : P := by rw [hg]; exact Nat.ne_of_lt (blk_lt (g := gb423) (o := c8_ 0 0 0 0 0 0 0 0) (bk_ BK423.1))) : P := h
theorem y312_ {P : Prop} (h : P := by rw [hg]; exact Nat.ne_of_gt (blk_lt (g := gb423) (o := c8_ 0 0 0 0 0 0 0 0) (bk_ BK423.1))) : P := h
theorem y313_ {P : Prop} (h : P := by rw [hg]; exact Nat.ne_of_lt (blk_lt (g := gb424) (o := c8_ 0 0 0 0 0 0 0 0) (bk_ BK424.1))) : P := h
theorem y314_ {P : Prop} (h : P := by rw [hg]; exact Nat.ne_of_gt (blk_lt (g := gb424) (o := c8_ 0 0 0 0 0 0 0 0) (bk_ BK424.1))) : P := h
theorem isf8_ {w0 W : World} {g b : Nat} {f0 : List Int} {f1 f2 : Int} {o0 o1 o2 o3 o4 o5 o6 o7 : Nat} {u0 u1 u2 u3 u4 u5 u6 u7 : Value} (h : IsS102 w0 W g f0 f1 f2) (hne : g ≠ b) : IsS102 w0 ((((((((W.setCell ⟨b, o0, none⟩ u0).setCell ⟨b, o1, none⟩ u1).setCell ⟨b, o2, none⟩ u2).setCell ⟨b, o3, none⟩ u3).setCell ⟨b, o4, none⟩ u4).setCell ⟨b, o5, none⟩ u5).setCell ⟨b, o6, none⟩ u6).setCell ⟨b, o7, none⟩ u7) g f0 f1 f2 := (IsS102.far (p := ⟨b, o7, none⟩) (IsS102.far (p := ⟨b, o6, none⟩) (IsS102.far (p := ⟨b, o5, none⟩) (IsS102.far (p := ⟨b, o4, none⟩) (IsS102.far (p := ⟨b, o3, none⟩) (IsS102.far (p := ⟨b, o2, none⟩) (IsS102.far (p := ⟨b, o1, none⟩) (IsS102.far (p := ⟨b, o0, none⟩) h hne u0) hne u1) hne u2) hne u3) hne u4) hne u5) hne u6) hne u7)
theorem gwR_ {α : Type} {d : Kd α} {e base : Nat} {ok : Nat → Prop} {W W1 : World} {v : Value} {xs : List α} (hw : W = W1) (x : d.R e W base ok v xs) : d.R e W1 base ok v xs := hw ▸ x
set_option maxHeartbeats 8000000 in
set_option maxRecDepth 100000 in
theorem spec_l24Pair.calls (k : Nat) (g : Nat) (s0_0 : List Int) (s0_1 : Int) (s0_2 : Int) (r1 : Int) (r2 : Int) (r3 : Int) (r4 : Int) (r5 : Int) (r6 : Int) (r7 : Int) (r8 : Int) (r9 : Int) (r10 : Int) (r11 : Int) (r12 : Int) (r13 : Int) (r14 : Int) (r15 : Int) (r16 : Int) (r17 : Int) (r18 : Int) (w0 w : World) (hI : IsS102 w0 w g s0_0 s0_1 s0_2) (hB : Below w0.heap.size w0 w) (h : spec_l24Pair.f k s0_0 s0_1 s0_2 = some (r1, r2, r3, r4, r5, r6, r7, r8, r9, r10, r11, r12, r13, r14, r15, r16, r17, r18)) :
  Calls Try.prog 59 #[.pointer (some ⟨g, 0, none⟩)] w fun e w' => e = .returned (.tuple #[.agg #[.int .i64 r1, .int .i64 r2, .int .i64 r3, .int .i64 r4, .int .i64 r5, .int .i64 r6, .int .i64 r7, .int .i64 r8], .agg #[.int .i64 r9, .int .i64 r10, .int .i64 r11, .int .i64 r12, .int .i64 r13, .int .i64 r14, .int .i64 r15, .int .i64 r16]]) ∧ IsS102 w0 w' g s0_0 r17 r18 ∧ Below w0.heap.size w0 w' ∧ KeepBut w w' g none := by
 have hu58 := Try.underlying58
 have HI0 := o_ hI
 have HK := o_ (KeepBut.refl w g none)
 have HL := o_ hB.size
 clear hI
 have HW0 := o_ hB.size
 have HB := o_ hB
 clear hB
 have H := h
 unfold spec_l24Pair.f at H
 clear h
 obtain ⟨⟨t425, t426, t427, t428, t429, t430, t431, t432, t433, t434⟩, A2, H⟩ := ob_ H
 try dsimp only at H
 obtain ⟨⟨t437, t438, t439⟩, A3, H⟩ := ob_ H
 try dsimp only at H
 obtain ⟨t440, A4, H⟩ := ob_ H
 try dsimp only at H
 obtain ⟨y441, hy441⟩ : ∃ y_ : List Int, y_ = (([0, 5, 24, 25, (-24), (-25)] : List Int)) := ⟨_, rfl⟩
 replace H : ((spec_l1Int.f s0_0 t438 t439 y441).bind fun bt444 => ((spec_Max.f 0 (wrap64 (t440 + bt444.1))).bind fun t447 => ((spec_l1Below.f s0_0 bt444.2.1 bt444.2.2 6).bind fun bt448 => (if bt448.1 = 0 then ((spec_l1Below.f s0_0 bt448.2.1 bt448.2.2 6).bind fun bt451 => (some (t425, t426, t427, t428, t429, t430, t431, t432, wrap64 (1 + t437), t426, t427, t428, t429, wrap64 (1 + bt451.1), t447, t432, bt451.2.1, bt451.2.2))) else (if bt448.1 = 1 then ((spec_l1Below.f s0_0 bt448.2.1 bt448.2.2 20).bind fun bt454 => (some (t425, t426, t427, t428, t429, t430, t431, t432, wrap64 (1 + t437), t426, t427, wrap64 (1 + bt454.1), t429, t430, t447, t432, bt454.2.1, bt454.2.2))) else (if bt448.1 = 2 then ((spec_l6One.f k s0_0 bt448.2.1 bt448.2.2).bind fun bt457 => (some (t425, t426, t427, t428, t429, t430, t431, t432, bt457.1, bt457.2.1, bt457.2.2.1, bt457.2.2.2.1, bt457.2.2.2.2.1, bt457.2.2.2.2.2.1, bt457.2.2.2.2.2.2.1, bt457.2.2.2.2.2.2.2.1, bt457.2.2.2.2.2.2.2.2.1, bt457.2.2.2.2.2.2.2.2.2))) else (some (t425, t426, t427, t428, t429, t430, t431, t432, wrap64 (1 + t437), t426, t427, t428, t429, t430, t447, t432, bt448.2.1, bt448.2.2)))))))) = some (r1, r2, r3, r4, r5, r6, r7, r8, r9, r10, r11, r12, r13, r14, r15, r16, r17, r18) := hy_ H hy441
 have Ny441 := o_ hy441
 clear hy441
 obtain ⟨⟨t444, t445, t446⟩, A5, H⟩ := ob_ H
 try dsimp only at H
 obtain ⟨t447, A6, H⟩ := ob_ H
 try dsimp only at H
 obtain ⟨⟨t448, t449, t450⟩, A7, H⟩ := ob_ H
 try dsimp only at H
 have HH_ := o_ H
 clear H
 go_enter Try.func59, Try.ntmps59
 go_upto_region 6 with (first | ((with_reducible refine gate_dst (N := 2) rfl ?_); refine bx_ 2 #[.int .i64 0, .int .i64 0, .int .i64 0, .int .i64 0, .int .i64 0, .int .i64 0, .int .i64 0, .int .i64 0] 58 ?_; intro gb423 hg w10 hbox hb; replace HB := o_ (below_step wB_ hb); have BK423 := o_ (hbox); have GW423 := o_ ((y232_ : w.heap.size ≤ gb423)); have GE423 := o_ ((Nat.le_trans HW0.1 (y232_ : w.heap.size ≤ gb423) : w0.heap.size ≤ gb423)); replace HK := o_ (KeepBut.trans wK_ (KeepBut.of_below hb g none) (.inl rfl)); have NB0_423 := o_ ((y222_ : g ≠ gb423)); have NB423_0 := o_ ((y223_ : gb423 ≠ g)); replace HI0 := o_ (IsS102.below wI_ hb); clear hb hbox hg) | ((with_reducible refine gate_dst (N := 3) rfl ?_); refine bx_ 3 #[.int .i64 0, .int .i64 0, .int .i64 0, .int .i64 0, .int .i64 0, .int .i64 0, .int .i64 0, .int .i64 0] 58 ?_; intro gb424 hg w11 hbox hb; replace HB := o_ (below_step wB_ hb); have BK424 := o_ (hbox); have GW424 := o_ ((y232_ : w.heap.size ≤ gb424)); have GE424 := o_ ((Nat.le_trans HW0.1 (y232_ : w.heap.size ≤ gb424) : w0.heap.size ≤ gb424)); replace HK := o_ (KeepBut.trans wK_ (KeepBut.of_below hb g none) (.inl rfl)); have NB423_424 := o_ ((y299_ : gb423 ≠ gb424)); have NB424_423 := o_ ((y300_ : gb424 ≠ gb423)); replace BK423 := o_ (blk_below (bd_ BK423.1) hb); have NB0_424 := o_ ((y222_ : g ≠ gb424)); have NB424_0 := o_ ((y223_ : gb424 ≠ g)); replace HI0 := o_ (IsS102.below wI_ hb); clear hb hbox hg) | ((with_reducible refine g_ 64 ?_); refine gl_ (some 7) Try.func64 #[.pointer (some ⟨g, 0, none⟩)] ?_; (with_reducible refine (spec_l6One.calls k g s0_0 s0_1 s0_2 t425 t426 t427 t428 t429 t430 t431 t432 t433 t434 w0 _ wI_ wB_ A2.1).mono ?_); rintro e w12 ⟨rfl, hi, hb, hk⟩; refine ⟨_, rfl, ?_⟩; replace BK423 := o_ (KeepBut.blk hk (g' := gb423) (o := c8_ 0 0 0 0 0 0 0 0) (bd_ BK423.1) NB423_0.1 (by simp)); replace BK424 := o_ (KeepBut.blk hk (g' := gb424) (o := c8_ 0 0 0 0 0 0 0 0) (bd_ BK424.1) NB424_0.1 (by simp)); replace HK := o_ (KeepBut.trans wK_ hk (.inl rfl)); replace HB := o_ (hb); replace HI0 := o_ (hi); (try clear hb hk hi)) | ((with_reducible refine gate_dst (N := 4) rfl ?_); refine bx_ 4 #[.int .i64 0, .int .i64 0, .int .i64 0, .int .i64 0, .int .i64 0, .int .i64 0, .int .i64 0, .int .i64 0] 58 ?_; intro gb435 hg w13 hbox hb; replace HB := o_ (below_step wB_ hb); have BK435 := o_ (hbox); have GW435 := o_ ((y232_ : w.heap.size ≤ gb435)); have GE435 := o_ ((Nat.le_trans HW0.1 (y232_ : w.heap.size ≤ gb435) : w0.heap.size ≤ gb435)); replace HK := o_ (KeepBut.trans wK_ (KeepBut.of_below hb g none) (.inl rfl)); have NB423_435 := o_ ((y299_ : gb423 ≠ gb435)); have NB435_423 := o_ ((y300_ : gb435 ≠ gb423)); replace BK423 := o_ (blk_below (bd_ BK423.1) hb); have NB424_435 := o_ ((y309_ : gb424 ≠ gb435)); have NB435_424 := o_ ((y310_ : gb435 ≠ gb424)); replace BK424 := o_ (blk_below (bd_ BK424.1) hb); have NB0_435 := o_ ((y284_ : g ≠ gb435)); have NB435_0 := o_ ((y285_ : gb435 ≠ g)); replace HI0 := o_ (IsS102.below wI_ hb); clear hb hbox hg; have hnb14 := NB435_423.1; have hnc14 := NB423_435.1; have hnb15 := NB435_424.1; have hnc15 := NB424_435.1; have hnb16 := NB435_0.1; have hnc16 := NB0_435.1; obtain ⟨_, _, _, _, _, _, _, _⟩ := e4_ BK435.1; obtain ⟨_, _, _, _, _, _, _, _⟩ := z5_ BK435.1) | ((with_reducible refine gate_dst (N := 5) rfl ?_); refine bx_ 5 #[.int .i64 0, .int .i64 0, .int .i64 0, .int .i64 0, .int .i64 0, .int .i64 0, .int .i64 0, .int .i64 0] 58 ?_; intro gb436 hg w18 hbox hb; replace HB := o_ (below_step wB_ hb); have BK436 := o_ (hbox); have GW436 := o_ ((y232_ : w.heap.size ≤ gb436)); have GE436 := o_ ((Nat.le_trans HW0.1 (y232_ : w.heap.size ≤ gb436) : w0.heap.size ≤ gb436)); replace HK := o_ (KeepBut.trans wK_ (KeepBut.of_below hb g none) (.inl rfl)); have NB423_436 := o_ ((y311_ : gb423 ≠ gb436)); have NB436_423 := o_ ((y312_ : gb436 ≠ gb423)); replace BK423 := o_ (blk_below (g := gb423) (o := c8_ 0 0 0 0 0 0 0 0) (bk_ BK423.1) hb); have NB424_436 := o_ ((y313_ : gb424 ≠ gb436)); have NB436_424 := o_ ((y314_ : gb436 ≠ gb424)); replace BK424 := o_ (blk_below (g := gb424) (o := c8_ 0 0 0 0 0 0 0 0) (bk_ BK424.1) hb); have NB435_436 := o_ ((y307_ : gb435 ≠ gb436)); have NB436_435 := o_ ((y308_ : gb436 ≠ gb435)); replace BK435 := o_ (blk_below (g := gb435) (o := c8_ t425 t426 t427 t428 t429 t430 t431 t432) (bk_ BK435.1) hb); have NB0_436 := o_ ((y284_ : g ≠ gb436)); have NB436_0 := o_ ((y285_ : gb436 ≠ g)); replace HI0 := o_ (IsS102.below (show IsS102 w0 _ g s0_0 t433 t434 from wI_) hb); clear hb hbox hg; have hnb19 := NB436_423.1; have hnc19 := NB423_436.1; have hnb20 := NB436_424.1; have hnc20 := NB424_436.1; have hnb21 := NB436_435.1; have hnc21 := NB435_436.1; have hnb22 := NB436_0.1; have hnc22 := NB0_436.1; obtain ⟨_, _, _, _, _, _, _, _⟩ := e4_ BK436.1; obtain ⟨_, _, _, _, _, _, _, _⟩ := z5_ BK436.1) | ((with_reducible refine g_ 84 ?_); refine gl_ (some 10) Try.func84 #[.pointer (some ⟨g, 0, none⟩), .int .i64 9] ?_; (with_reducible refine (spec_l1Below.calls g s0_0 t433 t434 9 t437 t438 t439 w0 _ wI_ wB_ A3.1).mono ?_); rintro e w24 ⟨rfl, hi, hb, hk⟩; refine ⟨_, rfl, ?_⟩; replace BK423 := o_ (KeepBut.blk hk (g' := gb423) (o := c8_ 0 0 0 0 0 0 0 0) (bk_ BK423.1) NB423_0.1 (by simp)); replace BK424 := o_ (KeepBut.blk hk (g' := gb424) (o := c8_ 0 0 0 0 0 0 0 0) (bk_ BK424.1) NB424_0.1 (by simp)); replace BK435 := o_ (KeepBut.blk hk (g' := gb435) (o := c8_ t425 t426 t427 t428 t429 t430 t431 t432) (bk_ BK435.1) NB435_0.1 (by simp)); replace BK436 := o_ (KeepBut.blk hk (g' := gb436) (o := c8_ t425 t426 t427 t428 t429 t430 t431 t432) (bk_ BK436.1) NB436_0.1 (by simp)); replace HK := o_ (KeepBut.trans wK_ hk (.inl rfl)); replace HB := o_ (hb); replace HI0 := o_ (hi); (try clear hb hk hi); obtain ⟨_, _, _, _, _, _, _, _⟩ := e4_ BK436.1; obtain ⟨_, _, _, _, _, _, _, _⟩ := z5_ BK436.1; obtain ⟨_, _, _, _, _, _, _, _⟩ := e4_ BK435.1; obtain ⟨_, _, _, _, _, _, _, _⟩ := z5_ BK435.1) | ((with_reducible refine g_ 78 ?_); refine gl_ (some 16) Try.func78 #[.int .i64 100000, .int .i64 t431] ?_; (with_reducible refine (spec_Min.calls 100000 t431 t440 _ A4.1).mono ?_); rintro e w' ⟨rfl, ⟨nd, rfl⟩⟩; refine ⟨_, rfl, ?_⟩) | ((with_reducible refine gate_dst (N := 18) rfl ?_); refine Kd.R_lit (Kd.int .i64) _ 3 ?hg (N := 18) ?hd (xs := ([0, 5, 24, 25, (-24), (-25)] : List Int)) (inner := [.int .i64 0, .int .i64 5, .int .i64 24, .int .i64 25, .int .i64 (-24), .int .i64 (-25)]) (ok := fun _ => True) (okp := fun _ => True) ?hr ?hp (fun _ hk => hk) trivial (Below.refl _ _) (Nat.le_refl _) (by simp) ?_; (case hd => rfl); (case hg => rfl); (case hr => first | (go_simp; done) | (go_simp; rfl)); (case hp => exact (Reps.one (show Kd.M (Kd.int .i64) _ _ _ 0 [.int .i64 0] from rfl) (Reps.one (show Kd.M (Kd.int .i64) _ _ _ 5 [.int .i64 5] from rfl) (Reps.one (show Kd.M (Kd.int .i64) _ _ _ 24 [.int .i64 24] from rfl) (Reps.one (show Kd.M (Kd.int .i64) _ _ _ 25 [.int .i64 25] from rfl) (Reps.one (show Kd.M (Kd.int .i64) _ _ _ (-24) [.int .i64 (-24)] from rfl) (Reps.one (show Kd.M (Kd.int .i64) _ _ _ (-25) [.int .i64 (-25)] from rfl) (Reps.none _ _)))))))); intro v442 w27 ho28 hb hg_ hnew_; clear hg_ hnew_; (first | rw [← Ny441.1] at ho28 | (simp only [Int.reduceToNat] at ho28; rw [← Ny441.1] at ho28)); have HO443 := o_ (Kd.R_lower ho28 (keep_size (w := w) (g := g) (row := none) wK_)); replace BK423 := o_ (blk_below (g := gb423) (o := c8_ 0 0 0 0 0 0 0 0) (bk_ BK423.1) hb); replace BK424 := o_ (blk_below (g := gb424) (o := c8_ 0 0 0 0 0 0 0 0) (bk_ BK424.1) hb); replace BK435 := o_ (blk_below (g := gb435) (o := c8_ t425 t426 t427 t428 t429 t430 t431 t432) (bk_ BK435.1) hb); replace BK436 := o_ (blk_below (g := gb436) (o := c8_ (wrap64 (1 + t437)) t426 t427 t428 t429 t430 t431 t432) (bk_ BK436.1) hb); replace HK := o_ (KeepBut.trans wK_ (KeepBut.of_below hb g none) (.inl rfl)); replace HB := o_ (below_step wB_ hb); replace HI0 := o_ (IsS102.below (show IsS102 w0 _ g s0_0 t438 t439 from wI_) hb); clear hb ho28; obtain ⟨Ao29, co29, eo29⟩ := Kd.R_slice HO443.1; subst eo29) | ((with_reducible refine g_ 85 ?_); refine gl_ (some 19) Try.func85 #[.pointer (some ⟨g, 0, none⟩), .slice Ao29 y441.length co29] ?_; (with_reducible refine (spec_l1Int.calls g s0_0 t438 t439 _ _ y441 t444 t445 t446 w0 _ wI_ wB_ (cd_ (Kd.R_reads' HO443.1).2.2) ((Kd.R_reads' HO443.1).2.1) ?side5 A5.1).mono ?_); (case side5 => exact far_slice (IsS102.own_ne HI0.1 HO443.1 (by decide))); rintro e w30 ⟨rfl, hi, hb, hk⟩; refine ⟨_, rfl, ?_⟩; replace BK423 := o_ (KeepBut.blk hk (g' := gb423) (o := c8_ 0 0 0 0 0 0 0 0) (bd_ BK423.1) NB423_0.1 (by simp)); replace BK424 := o_ (KeepBut.blk hk (g' := gb424) (o := c8_ 0 0 0 0 0 0 0 0) (bd_ BK424.1) NB424_0.1 (by simp)); replace BK435 := o_ (KeepBut.blk hk (g' := gb435) (o := c8_ t425 t426 t427 t428 t429 t430 t431 t432) (bd_ BK435.1) NB435_0.1 (by simp)); replace BK436 := o_ (KeepBut.blk hk (g' := gb436) (o := c8_ (wrap64 (1 + t437)) t426 t427 t428 t429 t430 t431 t432) (bd_ BK436.1) NB436_0.1 (by simp)); replace HO443 := o_ (kp_ (show IsS102 w0 _ g s0_0 t438 t439 from wI_) (rd_ HO443.1) hk); replace HK := o_ (KeepBut.trans wK_ hk (.inl rfl)); replace HB := o_ (hb); replace HI0 := o_ (hi); (try clear hb hk hi)) | ((with_reducible refine g_ 77 ?_); refine gl_ (some 21) Try.func77 #[.int .i64 0, .int .i64 (wrap64 (t440 + t444))] ?_; (with_reducible refine (spec_Max.calls 0 (wrap64 (t440 + t444)) t447 _ A6.1).mono ?_); rintro e w' ⟨rfl, ⟨nd, rfl⟩⟩; refine ⟨_, rfl, ?_⟩; (try (rw [drewN_self w30]; generalize hq_ : World.drewN w30 _ = w30; replace HO443 : Aside0 (Kd.R (Kd.int .i64) 3 w30 w.heap.size (fun _ => True) (.slice Ao29 y441.length co29) y441) := ⟨by rw [← hq_]; exact rd_ HO443.1⟩; replace BK423 : Aside0 (w30.heap[gb423]? = some (c8_ 0 0 0 0 0 0 0 0)) := ⟨by rw [← hq_]; exact bd_ BK423.1⟩; replace BK424 : Aside0 (w30.heap[gb424]? = some (c8_ 0 0 0 0 0 0 0 0)) := ⟨by rw [← hq_]; exact bd_ BK424.1⟩; replace BK435 : Aside0 (w30.heap[gb435]? = some (c8_ t425 t426 t427 t428 t429 t430 t431 t432)) := ⟨by rw [← hq_]; exact bd_ BK435.1⟩; replace BK436 : Aside0 (w30.heap[gb436]? = some (c8_ (wrap64 (1 + t437)) t426 t427 t428 t429 t430 t431 t432)) := ⟨by rw [← hq_]; exact bd_ BK436.1⟩; replace HK : Aside0 (KeepBut w w30 g none) := ⟨by rw [← hq_]; exact wK_⟩; replace HB : Aside0 (Below w0.heap.size w0 w30) := ⟨by rw [← hq_]; exact wB_⟩; replace HI0 : Aside0 (IsS102 w0 w30 g s0_0 t445 t446) := ⟨by rw [← hq_]; exact (wI_)⟩; clear hq_)); have hcz31_0 : w30.cell? ⟨gb436, 0, none⟩ = some (.int .i64 (wrap64 (1 + t437))) := (blk_cell BK436.1 0).trans rfl; have hcz31_1 : w30.cell? ⟨gb436, 1, none⟩ = some (.int .i64 t426) := (blk_cell BK436.1 1).trans rfl; have hcz31_2 : w30.cell? ⟨gb436, 2, none⟩ = some (.int .i64 t427) := (blk_cell BK436.1 2).trans rfl; have hcz31_3 : w30.cell? ⟨gb436, 3, none⟩ = some (.int .i64 t428) := (blk_cell BK436.1 3).trans rfl; have hcz31_4 : w30.cell? ⟨gb436, 4, none⟩ = some (.int .i64 t429) := (blk_cell BK436.1 4).trans rfl; have hcz31_5 : w30.cell? ⟨gb436, 5, none⟩ = some (.int .i64 t430) := (blk_cell BK436.1 5).trans rfl; have hcz31_6 : w30.cell? ⟨gb436, 6, none⟩ = some (.int .i64 t431) := (blk_cell BK436.1 6).trans rfl; have hcz31_7 : w30.cell? ⟨gb436, 7, none⟩ = some (.int .i64 t432) := (blk_cell BK436.1 7).trans rfl; obtain ⟨_, _, _, _, _, _, _, _⟩ := z5_ BK436.1) | ((with_reducible refine g_ 84 ?_); refine gl_ (some 24) Try.func84 #[.pointer (some ⟨g, 0, none⟩), .int .i64 6] ?_; (with_reducible refine (spec_l1Below.calls g s0_0 t445 t446 6 t448 t449 t450 w0 _ wI_ wB_ A7.1).mono ?_); rintro e w32 ⟨rfl, hi, hb, hk⟩; refine ⟨_, rfl, ?_⟩; replace BK423 := o_ (KeepBut.blk hk (g' := gb423) (o := c8_ 0 0 0 0 0 0 0 0) (bk_ BK423.1) NB423_0.1 (by simp)); replace BK424 := o_ (KeepBut.blk hk (g' := gb424) (o := c8_ 0 0 0 0 0 0 0 0) (bk_ BK424.1) NB424_0.1 (by simp)); replace BK435 := o_ (KeepBut.blk hk (g' := gb435) (o := c8_ t425 t426 t427 t428 t429 t430 t431 t432) (bk_ BK435.1) NB435_0.1 (by simp)); replace HO443 := o_ (kp_ (show IsS102 w0 _ g s0_0 t445 t446 from wI_) (rf_ (R2_ HO443.1 BK436.1) (fun _ h_ => h_.1)) hk); replace BK436 := o_ (KeepBut.blk hk (g' := gb436) (o := c8_ (wrap64 (1 + t437)) t426 t427 t428 t429 t430 t447 t432) (bk_ BK436.1) NB436_0.1 (by simp)); replace HK := o_ (KeepBut.trans wK_ hk (.inl rfl)); replace HB := o_ (hb); replace HI0 := o_ (hi); (try clear hb hk hi)))
 have H := HH_.1
 clear HH_
 by_cases c8 : t448 = 0
 ·
  rw [if_pos c8] at H
  have c8b0 := beq_iff_eq.mpr c8
  have c8b1 := bne_eq_false_iff_eq.mpr c8
  clear c8
  obtain ⟨⟨t451, t452, t453⟩, A9, H⟩ := ob_ H
  try dsimp only at H
  simp only [Option.some.injEq, Prod.mk.injEq] at H
  obtain ⟨rfl, rfl, rfl, rfl, rfl, rfl, rfl, rfl, rfl, rfl, rfl, rfl, rfl, rfl, rfl, rfl, rfl, rfl⟩ := H
  try go_wp2_with (first | ((with_reducible refine g_ 84 ?_); refine gl_ (some 28) Try.func84 #[.pointer (some ⟨g, 0, none⟩), .int .i64 6] ?_; (with_reducible refine (spec_l1Below.calls g s0_0 t449 t450 6 t451 t452 t453 w0 _ wI_ wB_ A9.1).mono ?_); rintro e w33 ⟨rfl, hi, hb, hk⟩; refine ⟨_, rfl, ?_⟩; replace BK423 := o_ (KeepBut.blk hk (g' := gb423) (o := c8_ 0 0 0 0 0 0 0 0) (bd_ BK423.1) NB423_0.1 (by simp)); replace BK424 := o_ (KeepBut.blk hk (g' := gb424) (o := c8_ 0 0 0 0 0 0 0 0) (bd_ BK424.1) NB424_0.1 (by simp)); replace BK435 := o_ (KeepBut.blk hk (g' := gb435) (o := c8_ t425 t426 t427 t428 t429 t430 t431 t432) (bd_ BK435.1) NB435_0.1 (by simp)); replace BK436 := o_ (KeepBut.blk hk (g' := gb436) (o := c8_ (wrap64 (1 + t437)) t426 t427 t428 t429 t430 t447 t432) (bd_ BK436.1) NB436_0.1 (by simp)); replace HO443 := o_ (kp_ (show IsS102 w0 _ g s0_0 t449 t450 from wI_) (rd_ HO443.1) hk); replace HK := o_ (KeepBut.trans wK_ hk (.inl rfl)); replace HB := o_ (hb); replace HI0 := o_ (hi); (try clear hb hk hi); have hcz34_0 : w33.cell? ⟨gb436, 0, none⟩ = some (.int .i64 (wrap64 (1 + t437))) := (blk_cell BK436.1 0).trans rfl; have hcz34_1 : w33.cell? ⟨gb436, 1, none⟩ = some (.int .i64 t426) := (blk_cell BK436.1 1).trans rfl; have hcz34_2 : w33.cell? ⟨gb436, 2, none⟩ = some (.int .i64 t427) := (blk_cell BK436.1 2).trans rfl; have hcz34_3 : w33.cell? ⟨gb436, 3, none⟩ = some (.int .i64 t428) := (blk_cell BK436.1 3).trans rfl; have hcz34_4 : w33.cell? ⟨gb436, 4, none⟩ = some (.int .i64 t429) := (blk_cell BK436.1 4).trans rfl; have hcz34_5 : w33.cell? ⟨gb436, 5, none⟩ = some (.int .i64 t430) := (blk_cell BK436.1 5).trans rfl; have hcz34_6 : w33.cell? ⟨gb436, 6, none⟩ = some (.int .i64 t447) := (blk_cell BK436.1 6).trans rfl; have hcz34_7 : w33.cell? ⟨gb436, 7, none⟩ = some (.int .i64 t432) := (blk_cell BK436.1 7).trans rfl; obtain ⟨_, _, _, _, _, _, _, _⟩ := z5_ BK436.1))
  generalize hw_ : (w33.setCell ⟨gb436, 5, none⟩ (.int .i64 (wrap64 (1 + t451)))) = w35
  replace HO443 : Aside0 (Kd.R (Kd.int .i64) 3 w35 w.heap.size (fun _ => True) (.slice Ao29 y441.length co29) y441) := ⟨by rw [← hw_]; exact rf_ (R2_ HO443.1 BK436.1) (fun _ hk => trivial)⟩
  replace BK423 : Aside0 (w35.heap[gb423]? = some (c8_ 0 0 0 0 0 0 0 0)) := ⟨by rw [← hw_]; exact bk_ BK423.1⟩
  replace BK424 : Aside0 (w35.heap[gb424]? = some (c8_ 0 0 0 0 0 0 0 0)) := ⟨by rw [← hw_]; exact bk_ BK424.1⟩
  replace BK435 : Aside0 (w35.heap[gb435]? = some (c8_ t425 t426 t427 t428 t429 t430 t431 t432)) := ⟨by rw [← hw_]; exact bk_ BK435.1⟩
  replace BK436 : Aside0 (w35.heap[gb436]? = some (c8_ (wrap64 (1 + t437)) t426 t427 t428 t429 (wrap64 (1 + t451)) t447 t432)) := ⟨by rw [← hw_]; exact bk_ BK436.1⟩
  replace HK : Aside0 (KeepBut w w35 g none) := ⟨by rw [← hw_]; exact wK_⟩
  replace HB : Aside0 (Below w0.heap.size w0 w35) := ⟨by rw [← hw_]; exact wB_⟩
  replace HI0 : Aside0 (IsS102 w0 w35 g s0_0 t452 t453) := ⟨by rw [← hw_]; exact wI_⟩
  clear hw_
  replace HO443 := o_ (Kd.R_drew HO443.1)
  replace BK423 := o_ (blk_drew BK423.1)
  replace BK424 := o_ (blk_drew BK424.1)
  replace BK435 := o_ (blk_drew BK435.1)
  replace BK436 := o_ (blk_drew BK436.1)
  replace HI0 := o_ (IsS102.drew HI0.1)
  replace HK := o_ (keep_drew HK.1)
  replace HB := o_ (below_drew1 HB.1)
  refine start_ (n := 4) (S := fun w' => q3_ w' gb435 t425 t426 t427 t428 t429 t430 t431 t432 (q3e_ w' gb436 (wrap64 (1 + t437)) t426 t427 t428 t429 (wrap64 (1 + t451)) t447 t432)) (ds := []) #[false, false, false, false] (by kernel_rfl) rfl rfl (k3_ BK435.1 (k3e_ BK436.1)) (fun hHeld => ?_)
  generalize w35.drew = w36 at HO443 BK423 BK424 BK435 BK436 HI0 HK HB hHeld ⊢
  refine take_ (i := 0) (N := some 42) (v := ?_) (a' := ?_) #[true, false, false, false] rfl rfl (by kernel_rfl) (fun _ _ _ h => h) (Or.inl ⟨by rfl, ?_⟩) hHeld ?_ ?_
  rotate_left; · rintro w' ⟨s0, s1, s2, s3, s4, s5, s6, s7, s8, s9, s10, s11, s12, s13, s14, s15⟩; go_simp; with_reducible rfl
  rotate_left; · simp only [Act.put, List.setIfInBounds_toArray, List.set_cons_zero, List.set_cons_succ, i64_w, i32_w]; rfl
  refine take_ (i := 1) (N := some 43) (v := ?_) (a' := ?_) #[true, true, false, false] rfl rfl (by kernel_rfl) (fun _ _ _ h => h) (Or.inl ⟨by rfl, ?_⟩) hHeld ?_ ?_
  rotate_left; · rintro w' ⟨s0, s1, s2, s3, s4, s5, s6, s7, s8, s9, s10, s11, s12, s13, s14, s15⟩; go_simp; with_reducible rfl
  rotate_left; · simp only [Act.put, List.setIfInBounds_toArray, List.set_cons_zero, List.set_cons_succ, i64_w, i32_w]; rfl
  refine one_ (i := 2) (N := none) #[true, true, true, false] rfl rfl (by kernel_rfl) (by decide) (fun K hK => ?_)
  obtain ⟨_, _, _, _, _, _, _, _⟩ := e4_ BK423.1
  obtain ⟨_, _, _, _, _, _, _, _⟩ := z5_ BK423.1
  have hns37_1 := NB424_423.1
  have hns37_2 := NB435_423.1
  have hns37_3 := NB436_423.1
  have hms37_1 := NB423_424.1
  have hms37_2 := NB423_435.1
  have hms37_3 := NB423_436.1
  refine skip_ (w1 := ?_) (by rfl) rfl ?_ ?_
  rotate_left
  ·
   go_simp
   rfl
  generalize hw_ : ((((((((w36.setCell ⟨gb423, 0, none⟩ (.int .i64 t425)).setCell ⟨gb423, 1, none⟩ (.int .i64 t426)).setCell ⟨gb423, 2, none⟩ (.int .i64 t427)).setCell ⟨gb423, 3, none⟩ (.int .i64 t428)).setCell ⟨gb423, 4, none⟩ (.int .i64 t429)).setCell ⟨gb423, 5, none⟩ (.int .i64 t430)).setCell ⟨gb423, 6, none⟩ (.int .i64 t431)).setCell ⟨gb423, 7, none⟩ (.int .i64 t432)) = w36s_
  replace HI0 := o_ (Eq.subst (motive := fun W_ => IsS102 _ W_ _ _ _ _) hw_ (isf8_ HI0.1 NB0_423.1))
  replace HK : Aside0 (KeepBut w w36s_ g none) := ⟨by rw [← hw_]; exact wK_⟩
  replace HB : Aside0 (Below w0.heap.size w0 w36s_) := ⟨by rw [← hw_]; exact wB_⟩
  replace BK423 : Aside0 (w36s_.heap[gb423]? = some (c8_ t425 t426 t427 t428 t429 t430 t431 t432)) := ⟨by rw [← hw_]; exact bk_ BK423.1⟩
  replace BK424 : Aside0 (w36s_.heap[gb424]? = some (c8_ 0 0 0 0 0 0 0 0)) := ⟨by rw [← hw_]; exact bk_ BK424.1⟩
  replace BK435 : Aside0 (w36s_.heap[gb435]? = some (c8_ t425 t426 t427 t428 t429 t430 t431 t432)) := ⟨by rw [← hw_]; exact bk_ BK435.1⟩
  replace BK436 : Aside0 (w36s_.heap[gb436]? = some (c8_ (wrap64 (1 + t437)) t426 t427 t428 t429 (wrap64 (1 + t451)) t447 t432)) := ⟨by rw [← hw_]; exact bk_ BK436.1⟩
  clear hw_ hHeld
  refine hK.out _ _ (k3_ BK435.1 (k3e_ BK436.1)) (fun hHeld => ?_)
  clear hK K
  refine one_ (i := 3) (N := none) #[true, true, true, true] rfl rfl (by kernel_rfl) (by decide) (fun K hK => ?_)
  obtain ⟨_, _, _, _, _, _, _, _⟩ := e4_ BK424.1
  obtain ⟨_, _, _, _, _, _, _, _⟩ := z5_ BK424.1
  have hns45_0 := NB423_424.1
  have hns45_2 := NB435_424.1
  have hns45_3 := NB436_424.1
  have hms45_0 := NB424_423.1
  have hms45_2 := NB424_435.1
  have hms45_3 := NB424_436.1
  refine skip_ (w1 := ?_) (by rfl) rfl ?_ ?_
  rotate_left
  ·
   go_simp
   rfl
  refine hK.out _ _ (q3m_ (fun e_ => f10_ e_ NB435_424.1) (q3em_ (fun e_ => f10_ e_ NB436_424.1)) hHeld) (fun hHeld => ?_)
  clear hK K
  refine done_ (by kernel_rfl) ?_
  try go_wp2
  refine bodyPost_ret (results_cc rfl _ _ gb423 gb424 58 58 #[.int .i64 t425, .int .i64 t426, .int .i64 t427, .int .i64 t428, .int .i64 t429, .int .i64 t430, .int .i64 t431, .int .i64 t432] #[.int .i64 (wrap64 (1 + t437)), .int .i64 t426, .int .i64 t427, .int .i64 t428, .int .i64 t429, .int .i64 (wrap64 (1 + t451)), .int .i64 t447, .int .i64 t432] (0, 0) (0, 0) _ _ rfl (bk_ BK423.1) Try.underlying58 rfl (by kernel_rfl) rfl (bk_ BK424.1) Try.underlying58 rfl (by kernel_rfl)) rfl ?_
  exact ⟨rt_, wI_, wB_, wK_⟩
 ·
  rw [if_neg c8] at H
  have c8b0 := beq_eq_false_iff_ne.mpr c8
  have c8b1 := bne_iff_ne.mpr c8
  by_cases c53 : t448 = 1
  ·
   rw [if_pos c53] at H
   have c53b0 := beq_iff_eq.mpr c53
   have c53b1 := bne_eq_false_iff_eq.mpr c53
   clear c53
   obtain ⟨⟨t454, t455, t456⟩, A54, H⟩ := ob_ H
   try dsimp only at H
   simp only [Option.some.injEq, Prod.mk.injEq] at H
   obtain ⟨rfl, rfl, rfl, rfl, rfl, rfl, rfl, rfl, rfl, rfl, rfl, rfl, rfl, rfl, rfl, rfl, rfl, rfl⟩ := H
   try go_wp2_with (first | ((with_reducible refine g_ 84 ?_); refine gl_ (some 34) Try.func84 #[.pointer (some ⟨g, 0, none⟩), .int .i64 20] ?_; (with_reducible refine (spec_l1Below.calls g s0_0 t449 t450 20 t454 t455 t456 w0 _ wI_ wB_ A54.1).mono ?_); rintro e w78 ⟨rfl, hi, hb, hk⟩; refine ⟨_, rfl, ?_⟩; replace BK423 := o_ (KeepBut.blk hk (g' := gb423) (o := c8_ 0 0 0 0 0 0 0 0) (bd_ BK423.1) NB423_0.1 (by simp)); replace BK424 := o_ (KeepBut.blk hk (g' := gb424) (o := c8_ 0 0 0 0 0 0 0 0) (bd_ BK424.1) NB424_0.1 (by simp)); replace BK435 := o_ (KeepBut.blk hk (g' := gb435) (o := c8_ t425 t426 t427 t428 t429 t430 t431 t432) (bd_ BK435.1) NB435_0.1 (by simp)); replace BK436 := o_ (KeepBut.blk hk (g' := gb436) (o := c8_ (wrap64 (1 + t437)) t426 t427 t428 t429 t430 t447 t432) (bd_ BK436.1) NB436_0.1 (by simp)); replace HO443 := o_ (kp_ (show IsS102 w0 _ g s0_0 t449 t450 from wI_) (rd_ HO443.1) hk); replace HK := o_ (KeepBut.trans wK_ hk (.inl rfl)); replace HB := o_ (hb); replace HI0 := o_ (hi); (try clear hb hk hi); have hcz79_0 : w78.cell? ⟨gb436, 0, none⟩ = some (.int .i64 (wrap64 (1 + t437))) := (blk_cell BK436.1 0).trans rfl; have hcz79_1 : w78.cell? ⟨gb436, 1, none⟩ = some (.int .i64 t426) := (blk_cell BK436.1 1).trans rfl; have hcz79_2 : w78.cell? ⟨gb436, 2, none⟩ = some (.int .i64 t427) := (blk_cell BK436.1 2).trans rfl; have hcz79_3 : w78.cell? ⟨gb436, 3, none⟩ = some (.int .i64 t428) := (blk_cell BK436.1 3).trans rfl; have hcz79_4 : w78.cell? ⟨gb436, 4, none⟩ = some (.int .i64 t429) := (blk_cell BK436.1 4).trans rfl; have hcz79_5 : w78.cell? ⟨gb436, 5, none⟩ = some (.int .i64 t430) := (blk_cell BK436.1 5).trans rfl; have hcz79_6 : w78.cell? ⟨gb436, 6, none⟩ = some (.int .i64 t447) := (blk_cell BK436.1 6).trans rfl; have hcz79_7 : w78.cell? ⟨gb436, 7, none⟩ = some (.int .i64 t432) := (blk_cell BK436.1 7).trans rfl; obtain ⟨_, _, _, _, _, _, _, _⟩ := z5_ BK436.1))
   generalize hw_ : (w78.setCell ⟨gb436, 3, none⟩ (.int .i64 (wrap64 (1 + t454)))) = w80
   replace HO443 : Aside0 (Kd.R (Kd.int .i64) 3 w80 w.heap.size (fun _ => True) (.slice Ao29 y441.length co29) y441) := ⟨by rw [← hw_]; exact rf_ (R2_ HO443.1 BK436.1) (fun _ hk => trivial)⟩
   replace BK423 : Aside0 (w80.heap[gb423]? = some (c8_ 0 0 0 0 0 0 0 0)) := ⟨by rw [← hw_]; exact bk_ BK423.1⟩
   replace BK424 : Aside0 (w80.heap[gb424]? = some (c8_ 0 0 0 0 0 0 0 0)) := ⟨by rw [← hw_]; exact bk_ BK424.1⟩
   replace BK435 : Aside0 (w80.heap[gb435]? = some (c8_ t425 t426 t427 t428 t429 t430 t431 t432)) := ⟨by rw [← hw_]; exact bk_ BK435.1⟩
   replace BK436 : Aside0 (w80.heap[gb436]? = some (c8_ (wrap64 (1 + t437)) t426 t427 (wrap64 (1 + t454)) t429 t430 t447 t432)) := ⟨by rw [← hw_]; exact bk_ BK436.1⟩
   replace HK : Aside0 (KeepBut w w80 g none) := ⟨by rw [← hw_]; exact wK_⟩
   replace HB : Aside0 (Below w0.heap.size w0 w80) := ⟨by rw [← hw_]; exact wB_⟩
   replace HI0 : Aside0 (IsS102 w0 w80 g s0_0 t455 t456) := ⟨by rw [← hw_]; exact wI_⟩
   clear hw_
   replace HO443 := o_ (Kd.R_drew HO443.1)
   replace BK423 := o_ (blk_drew BK423.1)
   replace BK424 := o_ (blk_drew BK424.1)
   replace BK435 := o_ (blk_drew BK435.1)
   replace BK436 := o_ (blk_drew BK436.1)
   replace HI0 := o_ (IsS102.drew HI0.1)
   replace HK := o_ (keep_drew HK.1)
   replace HB := o_ (below_drew1 HB.1)
   refine start_ (n := 4) (S := fun w' => q3_ w' gb435 t425 t426 t427 t428 t429 t430 t431 t432 (q3e_ w' gb436 (wrap64 (1 + t437)) t426 t427 (wrap64 (1 + t454)) t429 t430 t447 t432)) (ds := []) #[false, false, false, false] (by kernel_rfl) rfl rfl (k3_ BK435.1 (k3e_ BK436.1)) (fun hHeld => ?_)
   generalize w80.drew = w81 at HO443 BK423 BK424 BK435 BK436 HI0 HK HB hHeld ⊢
   refine take_ (i := 0) (N := some 42) (v := ?_) (a' := ?_) #[true, false, false, false] rfl rfl (by kernel_rfl) (fun _ _ _ h => h) (Or.inl ⟨by rfl, ?_⟩) hHeld ?_ ?_
   rotate_left; · rintro w' ⟨s0, s1, s2, s3, s4, s5, s6, s7, s8, s9, s10, s11, s12, s13, s14, s15⟩; go_simp; with_reducible rfl
   rotate_left; · simp only [Act.put, List.setIfInBounds_toArray, List.set_cons_zero, List.set_cons_succ, i64_w, i32_w]; rfl
   refine take_ (i := 1) (N := some 43) (v := ?_) (a' := ?_) #[true, true, false, false] rfl rfl (by kernel_rfl) (fun _ _ _ h => h) (Or.inl ⟨by rfl, ?_⟩) hHeld ?_ ?_
   rotate_left; · rintro w' ⟨s0, s1, s2, s3, s4, s5, s6, s7, s8, s9, s10, s11, s12, s13, s14, s15⟩; go_simp; with_reducible rfl
   rotate_left; · simp only [Act.put, List.setIfInBounds_toArray, List.set_cons_zero, List.set_cons_succ, i64_w, i32_w]; rfl
   refine one_ (i := 2) (N := none) #[true, true, true, false] rfl rfl (by kernel_rfl) (by decide) (fun K hK => ?_)
   obtain ⟨_, _, _, _, _, _, _, _⟩ := e4_ BK423.1
   obtain ⟨_, _, _, _, _, _, _, _⟩ := z5_ BK423.1
   have hns82_1 := NB424_423.1
   have hns82_2 := NB435_423.1
   have hns82_3 := NB436_423.1
   have hms82_1 := NB423_424.1
   have hms82_2 := NB423_435.1
   have hms82_3 := NB423_436.1
   refine skip_ (w1 := ?_) (by rfl) rfl ?_ ?_
   rotate_left
   ·
    go_simp
    rfl
   generalize hw_ : ((((((((w81.setCell ⟨gb423, 0, none⟩ (.int .i64 t425)).setCell ⟨gb423, 1, none⟩ (.int .i64 t426)).setCell ⟨gb423, 2, none⟩ (.int .i64 t427)).setCell ⟨gb423, 3, none⟩ (.int .i64 t428)).setCell ⟨gb423, 4, none⟩ (.int .i64 t429)).setCell ⟨gb423, 5, none⟩ (.int .i64 t430)).setCell ⟨gb423, 6, none⟩ (.int .i64 t431)).setCell ⟨gb423, 7, none⟩ (.int .i64 t432)) = w81s_
   replace HI0 := o_ (Eq.subst (motive := fun W_ => IsS102 _ W_ _ _ _ _) hw_ (isf8_ HI0.1 NB0_423.1))
   replace HK : Aside0 (KeepBut w w81s_ g none) := ⟨by rw [← hw_]; exact wK_⟩
   replace HB : Aside0 (Below w0.heap.size w0 w81s_) := ⟨by rw [← hw_]; exact wB_⟩
   replace BK423 : Aside0 (w81s_.heap[gb423]? = some (c8_ t425 t426 t427 t428 t429 t430 t431 t432)) := ⟨by rw [← hw_]; exact bk_ BK423.1⟩
   replace BK424 : Aside0 (w81s_.heap[gb424]? = some (c8_ 0 0 0 0 0 0 0 0)) := ⟨by rw [← hw_]; exact bk_ BK424.1⟩
   replace BK435 : Aside0 (w81s_.heap[gb435]? = some (c8_ t425 t426 t427 t428 t429 t430 t431 t432)) := ⟨by rw [← hw_]; exact bk_ BK435.1⟩
   replace BK436 : Aside0 (w81s_.heap[gb436]? = some (c8_ (wrap64 (1 + t437)) t426 t427 (wrap64 (1 + t454)) t429 t430 t447 t432)) := ⟨by rw [← hw_]; exact bk_ BK436.1⟩
   clear hw_ hHeld
   refine hK.out _ _ (k3_ BK435.1 (k3e_ BK436.1)) (fun hHeld => ?_)
   clear hK K
   refine one_ (i := 3) (N := none) #[true, true, true, true] rfl rfl (by kernel_rfl) (by decide) (fun K hK => ?_)
   obtain ⟨_, _, _, _, _, _, _, _⟩ := e4_ BK424.1
   obtain ⟨_, _, _, _, _, _, _, _⟩ := z5_ BK424.1
   have hns90_0 := NB423_424.1
   have hns90_2 := NB435_424.1
   have hns90_3 := NB436_424.1
   have hms90_0 := NB424_423.1
   have hms90_2 := NB424_435.1
   have hms90_3 := NB424_436.1
   refine skip_ (w1 := ?_) (by rfl) rfl ?_ ?_
   rotate_left
   ·
    go_simp
    rfl
   refine hK.out _ _ (q3m_ (fun e_ => f10_ e_ NB435_424.1) (q3em_ (fun e_ => f10_ e_ NB436_424.1)) hHeld) (fun hHeld => ?_)
   clear hK K
   refine done_ (by kernel_rfl) ?_
   try go_wp2
   refine bodyPost_ret (results_cc rfl _ _ gb423 gb424 58 58 #[.int .i64 t425, .int .i64 t426, .int .i64 t427, .int .i64 t428, .int .i64 t429, .int .i64 t430, .int .i64 t431, .int .i64 t432] #[.int .i64 (wrap64 (1 + t437)), .int .i64 t426, .int .i64 t427, .int .i64 (wrap64 (1 + t454)), .int .i64 t429, .int .i64 t430, .int .i64 t447, .int .i64 t432] (0, 0) (0, 0) _ _ rfl (bk_ BK423.1) Try.underlying58 rfl (by kernel_rfl) rfl (bk_ BK424.1) Try.underlying58 rfl (by kernel_rfl)) rfl ?_
   exact ⟨rt_, wI_, wB_, wK_⟩
  ·
   rw [if_neg c53] at H
   have c53b0 := beq_eq_false_iff_ne.mpr c53
   have c53b1 := bne_iff_ne.mpr c53
   by_cases c98 : t448 = 2
   ·
    rw [if_pos c98] at H
    have c98b0 := beq_iff_eq.mpr c98
    have c98b1 := bne_eq_false_iff_eq.mpr c98
    clear c98
    obtain ⟨⟨t457, t458, t459, t460, t461, t462, t463, t464, t465, t466⟩, A99, H⟩ := ob_ H
    try dsimp only at H
    simp only [Option.some.injEq, Prod.mk.injEq] at H
    obtain ⟨rfl, rfl, rfl, rfl, rfl, rfl, rfl, rfl, rfl, rfl, rfl, rfl, rfl, rfl, rfl, rfl, rfl, rfl⟩ := H
    try go_wp2_with (first | ((with_reducible refine g_ 64 ?_); refine gl_ (some 41) Try.func64 #[.pointer (some ⟨g, 0, none⟩)] ?_; (with_reducible refine (spec_l6One.calls k g s0_0 t449 t450 t457 t458 t459 t460 t461 t462 t463 t464 t465 t466 w0 _ wI_ wB_ A99.1).mono ?_); rintro e w123 ⟨rfl, hi, hb, hk⟩; refine ⟨_, rfl, ?_⟩; replace BK423 := o_ (KeepBut.blk hk (g' := gb423) (o := c8_ 0 0 0 0 0 0 0 0) (bd_ BK423.1) NB423_0.1 (by simp)); replace BK424 := o_ (KeepBut.blk hk (g' := gb424) (o := c8_ 0 0 0 0 0 0 0 0) (bd_ BK424.1) NB424_0.1 (by simp)); replace BK435 := o_ (KeepBut.blk hk (g' := gb435) (o := c8_ t425 t426 t427 t428 t429 t430 t431 t432) (bd_ BK435.1) NB435_0.1 (by simp)); replace BK436 := o_ (KeepBut.blk hk (g' := gb436) (o := c8_ (wrap64 (1 + t437)) t426 t427 t428 t429 t430 t447 t432) (bd_ BK436.1) NB436_0.1 (by simp)); replace HO443 := o_ (kp_ (show IsS102 w0 _ g s0_0 t449 t450 from wI_) (rd_ HO443.1) hk); replace HK := o_ (KeepBut.trans wK_ hk (.inl rfl)); replace HB := o_ (hb); replace HI0 := o_ (hi); (try clear hb hk hi); have hcz124_0 : w123.cell? ⟨gb436, 0, none⟩ = some (.int .i64 (wrap64 (1 + t437))) := (blk_cell BK436.1 0).trans rfl; have hcz124_1 : w123.cell? ⟨gb436, 1, none⟩ = some (.int .i64 t426) := (blk_cell BK436.1 1).trans rfl; have hcz124_2 : w123.cell? ⟨gb436, 2, none⟩ = some (.int .i64 t427) := (blk_cell BK436.1 2).trans rfl; have hcz124_3 : w123.cell? ⟨gb436, 3, none⟩ = some (.int .i64 t428) := (blk_cell BK436.1 3).trans rfl; have hcz124_4 : w123.cell? ⟨gb436, 4, none⟩ = some (.int .i64 t429) := (blk_cell BK436.1 4).trans rfl; have hcz124_5 : w123.cell? ⟨gb436, 5, none⟩ = some (.int .i64 t430) := (blk_cell BK436.1 5).trans rfl; have hcz124_6 : w123.cell? ⟨gb436, 6, none⟩ = some (.int .i64 t447) := (blk_cell BK436.1 6).trans rfl; have hcz124_7 : w123.cell? ⟨gb436, 7, none⟩ = some (.int .i64 t432) := (blk_cell BK436.1 7).trans rfl; obtain ⟨_, _, _, _, _, _, _, _⟩ := z5_ BK436.1))
    generalize hw_ : ((((((((w123.setCell ⟨gb436, 0, none⟩ (.int .i64 t457)).setCell ⟨gb436, 1, none⟩ (.int .i64 t458)).setCell ⟨gb436, 2, none⟩ (.int .i64 t459)).setCell ⟨gb436, 3, none⟩ (.int .i64 t460)).setCell ⟨gb436, 4, none⟩ (.int .i64 t461)).setCell ⟨gb436, 5, none⟩ (.int .i64 t462)).setCell ⟨gb436, 6, none⟩ (.int .i64 t463)).setCell ⟨gb436, 7, none⟩ (.int .i64 t464)) = w125
    replace HO443 : Aside0 (Kd.R (Kd.int .i64) 3 w125 w.heap.size (fun _ => True) (.slice Ao29 y441.length co29) y441) := ⟨by rw [← hw_]; exact rf_ (R2_ HO443.1 BK436.1) (fun _ hk => trivial)⟩
    replace BK423 : Aside0 (w125.heap[gb423]? = some (c8_ 0 0 0 0 0 0 0 0)) := ⟨by rw [← hw_]; exact bk_ BK423.1⟩
    replace BK424 : Aside0 (w125.heap[gb424]? = some (c8_ 0 0 0 0 0 0 0 0)) := ⟨by rw [← hw_]; exact bk_ BK424.1⟩
    replace BK435 : Aside0 (w125.heap[gb435]? = some (c8_ t425 t426 t427 t428 t429 t430 t431 t432)) := ⟨by rw [← hw_]; exact bk_ BK435.1⟩
    replace BK436 : Aside0 (w125.heap[gb436]? = some (c8_ t457 t458 t459 t460 t461 t462 t463 t464)) := ⟨by rw [← hw_]; exact bk_ BK436.1⟩
    replace HK : Aside0 (KeepBut w w125 g none) := ⟨by rw [← hw_]; exact wK_⟩
    replace HB : Aside0 (Below w0.heap.size w0 w125) := ⟨by rw [← hw_]; exact wB_⟩
    replace HI0 : Aside0 (IsS102 w0 w125 g s0_0 t465 t466) := ⟨by rw [← hw_]; exact wI_⟩
    clear hw_
    replace HO443 := o_ (Kd.R_drew HO443.1)
    replace BK423 := o_ (blk_drew BK423.1)
    replace BK424 := o_ (blk_drew BK424.1)
    replace BK435 := o_ (blk_drew BK435.1)
    replace BK436 := o_ (blk_drew BK436.1)
    replace HI0 := o_ (IsS102.drew HI0.1)
    replace HK := o_ (keep_drew HK.1)
    replace HB := o_ (below_drew1 HB.1)
    refine start_ (n := 4) (S := fun w' => q3_ w' gb435 t425 t426 t427 t428 t429 t430 t431 t432 (q3e_ w' gb436 t457 t458 t459 t460 t461 t462 t463 t464)) (ds := []) #[false, false, false, false] (by kernel_rfl) rfl rfl (k3_ BK435.1 (k3e_ BK436.1)) (fun hHeld => ?_)
    generalize w125.drew = w126 at HO443 BK423 BK424 BK435 BK436 HI0 HK HB hHeld ⊢
    refine take_ (i := 0) (N := some 42) (v := ?_) (a' := ?_) #[true, false, false, false] rfl rfl (by kernel_rfl) (fun _ _ _ h => h) (Or.inl ⟨by rfl, ?_⟩) hHeld ?_ ?_
    rotate_left; · rintro w' ⟨s0, s1, s2, s3, s4, s5, s6, s7, s8, s9, s10, s11, s12, s13, s14, s15⟩; go_simp; with_reducible rfl
    rotate_left; · simp only [Act.put, List.setIfInBounds_toArray, List.set_cons_zero, List.set_cons_succ, i64_w, i32_w]; rfl
    refine take_ (i := 1) (N := some 43) (v := ?_) (a' := ?_) #[true, true, false, false] rfl rfl (by kernel_rfl) (fun _ _ _ h => h) (Or.inl ⟨by rfl, ?_⟩) hHeld ?_ ?_
    rotate_left; · rintro w' ⟨s0, s1, s2, s3, s4, s5, s6, s7, s8, s9, s10, s11, s12, s13, s14, s15⟩; go_simp; with_reducible rfl
    rotate_left; · simp only [Act.put, List.setIfInBounds_toArray, List.set_cons_zero, List.set_cons_succ, i64_w, i32_w]; rfl
    refine one_ (i := 2) (N := none) #[true, true, true, false] rfl rfl (by kernel_rfl) (by decide) (fun K hK => ?_)
    obtain ⟨_, _, _, _, _, _, _, _⟩ := e4_ BK423.1
    obtain ⟨_, _, _, _, _, _, _, _⟩ := z5_ BK423.1
    have hns127_1 := NB424_423.1
    have hns127_2 := NB435_423.1
    have hns127_3 := NB436_423.1
    have hms127_1 := NB423_424.1
    have hms127_2 := NB423_435.1
    have hms127_3 := NB423_436.1
    refine skip_ (w1 := ?_) (by rfl) rfl ?_ ?_
    rotate_left
    ·
     go_simp
     rfl
    generalize hw_ : ((((((((w126.setCell ⟨gb423, 0, none⟩ (.int .i64 t425)).setCell ⟨gb423, 1, none⟩ (.int .i64 t426)).setCell ⟨gb423, 2, none⟩ (.int .i64 t427)).setCell ⟨gb423, 3, none⟩ (.int .i64 t428)).setCell ⟨gb423, 4, none⟩ (.int .i64 t429)).setCell ⟨gb423, 5, none⟩ (.int .i64 t430)).setCell ⟨gb423, 6, none⟩ (.int .i64 t431)).setCell ⟨gb423, 7, none⟩ (.int .i64 t432)) = w126s_
    replace HI0 := o_ (Eq.subst (motive := fun W_ => IsS102 _ W_ _ _ _ _) hw_ (isf8_ HI0.1 NB0_423.1))
    replace HK : Aside0 (KeepBut w w126s_ g none) := ⟨by rw [← hw_]; exact wK_⟩
    replace HB : Aside0 (Below w0.heap.size w0 w126s_) := ⟨by rw [← hw_]; exact wB_⟩
    replace BK423 : Aside0 (w126s_.heap[gb423]? = some (c8_ t425 t426 t427 t428 t429 t430 t431 t432)) := ⟨by rw [← hw_]; exact bk_ BK423.1⟩
    replace BK424 : Aside0 (w126s_.heap[gb424]? = some (c8_ 0 0 0 0 0 0 0 0)) := ⟨by rw [← hw_]; exact bk_ BK424.1⟩
    replace BK435 : Aside0 (w126s_.heap[gb435]? = some (c8_ t425 t426 t427 t428 t429 t430 t431 t432)) := ⟨by rw [← hw_]; exact bk_ BK435.1⟩
    replace BK436 : Aside0 (w126s_.heap[gb436]? = some (c8_ t457 t458 t459 t460 t461 t462 t463 t464)) := ⟨by rw [← hw_]; exact bk_ BK436.1⟩
    clear hw_ hHeld
    refine hK.out _ _ (k3_ BK435.1 (k3e_ BK436.1)) (fun hHeld => ?_)
    clear hK K
    refine one_ (i := 3) (N := none) #[true, true, true, true] rfl rfl (by kernel_rfl) (by decide) (fun K hK => ?_)
    obtain ⟨_, _, _, _, _, _, _, _⟩ := e4_ BK424.1
    obtain ⟨_, _, _, _, _, _, _, _⟩ := z5_ BK424.1
    have hns135_0 := NB423_424.1
    have hns135_2 := NB435_424.1
    have hns135_3 := NB436_424.1
    have hms135_0 := NB424_423.1
    have hms135_2 := NB424_435.1
    have hms135_3 := NB424_436.1
    refine skip_ (w1 := ?_) (by rfl) rfl ?_ ?_
    rotate_left
    ·
     go_simp
     rfl
    refine hK.out _ _ (q3m_ (fun e_ => f10_ e_ NB435_424.1) (q3em_ (fun e_ => f10_ e_ NB436_424.1)) hHeld) (fun hHeld => ?_)
    clear hK K
    refine done_ (by kernel_rfl) ?_
    try go_wp2
    refine bodyPost_ret (results_cc rfl _ _ gb423 gb424 58 58 #[.int .i64 t425, .int .i64 t426, .int .i64 t427, .int .i64 t428, .int .i64 t429, .int .i64 t430, .int .i64 t431, .int .i64 t432] #[.int .i64 t457, .int .i64 t458, .int .i64 t459, .int .i64 t460, .int .i64 t461, .int .i64 t462, .int .i64 t463, .int .i64 t464] (0, 0) (0, 0) _ _ rfl (bk_ BK423.1) Try.underlying58 rfl (by kernel_rfl) rfl (bk_ BK424.1) Try.underlying58 rfl (by kernel_rfl)) rfl ?_
    exact ⟨rt_, wI_, wB_, wK_⟩
   ·
    rw [if_neg c98] at H
    have c98b0 := beq_eq_false_iff_ne.mpr c98
    have c98b1 := bne_iff_ne.mpr c98
    simp only [Option.some.injEq, Prod.mk.injEq] at H
    obtain ⟨rfl, rfl, rfl, rfl, rfl, rfl, rfl, rfl, rfl, rfl, rfl, rfl, rfl, rfl, rfl, rfl, rfl, rfl⟩ := H
    try go_wp2
    replace HO443 := o_ (Kd.R_drew HO443.1)
    replace BK423 := o_ (blk_drew BK423.1)
    replace BK424 := o_ (blk_drew BK424.1)
    replace BK435 := o_ (blk_drew BK435.1)
    replace BK436 := o_ (blk_drew BK436.1)
    replace HI0 := o_ (IsS102.drew HI0.1)
    replace HK := o_ (keep_drew HK.1)
    replace HB := o_ (below_drew1 HB.1)
    refine start_ (n := 4) (S := fun w' => q3_ w' gb435 t425 t426 t427 t428 t429 t430 t431 t432 (q3e_ w' gb436 (wrap64 (1 + t437)) t426 t427 t428 t429 t430 t447 t432)) (ds := []) #[false, false, false, false] (by kernel_rfl) rfl rfl (k3_ BK435.1 (k3e_ BK436.1)) (fun hHeld => ?_)
    generalize w32.drew = w166 at HO443 BK423 BK424 BK435 BK436 HI0 HK HB hHeld ⊢
    refine take_ (i := 0) (N := some 42) (v := ?_) (a' := ?_) #[true, false, false, false] rfl rfl (by kernel_rfl) (fun _ _ _ h => h) (Or.inl ⟨by rfl, ?_⟩) hHeld ?_ ?_
    rotate_left; · rintro w' ⟨s0, s1, s2, s3, s4, s5, s6, s7, s8, s9, s10, s11, s12, s13, s14, s15⟩; go_simp; with_reducible rfl
    rotate_left; · simp only [Act.put, List.setIfInBounds_toArray, List.set_cons_zero, List.set_cons_succ, i64_w, i32_w]; rfl
    refine take_ (i := 1) (N := some 43) (v := ?_) (a' := ?_) #[true, true, false, false] rfl rfl (by kernel_rfl) (fun _ _ _ h => h) (Or.inl ⟨by rfl, ?_⟩) hHeld ?_ ?_
    rotate_left; · rintro w' ⟨s0, s1, s2, s3, s4, s5, s6, s7, s8, s9, s10, s11, s12, s13, s14, s15⟩; go_simp; with_reducible rfl
    rotate_left; · simp only [Act.put, List.setIfInBounds_toArray, List.set_cons_zero, List.set_cons_succ, i64_w, i32_w]; rfl
    refine one_ (i := 2) (N := none) #[true, true, true, false] rfl rfl (by kernel_rfl) (by decide) (fun K hK => ?_)
    obtain ⟨_, _, _, _, _, _, _, _⟩ := e4_ BK423.1
    obtain ⟨_, _, _, _, _, _, _, _⟩ := z5_ BK423.1
    have hns167_1 := NB424_423.1
    have hns167_2 := NB435_423.1
    have hns167_3 := NB436_423.1
    have hms167_1 := NB423_424.1
    have hms167_2 := NB423_435.1
    have hms167_3 := NB423_436.1
    refine skip_ (w1 := ?_) (by rfl) rfl ?_ ?_
    rotate_left
    ·
     go_simp
     rfl
    generalize hw_ : ((((((((w166.setCell ⟨gb423, 0, none⟩ (.int .i64 t425)).setCell ⟨gb423, 1, none⟩ (.int .i64 t426)).setCell ⟨gb423, 2, none⟩ (.int .i64 t427)).setCell ⟨gb423, 3, none⟩ (.int .i64 t428)).setCell ⟨gb423, 4, none⟩ (.int .i64 t429)).setCell ⟨gb423, 5, none⟩ (.int .i64 t430)).setCell ⟨gb423, 6, none⟩ (.int .i64 t431)).setCell ⟨gb423, 7, none⟩ (.int .i64 t432)) = w166s_
    replace HI0 := o_ (Eq.subst (motive := fun W_ => IsS102 _ W_ _ _ _ _) hw_ (isf8_ HI0.1 NB0_423.1))
    replace HK : Aside0 (KeepBut w w166s_ g none) := ⟨by rw [← hw_]; exact wK_⟩
    replace HB : Aside0 (Below w0.heap.size w0 w166s_) := ⟨by rw [← hw_]; exact wB_⟩
    replace BK423 : Aside0 (w166s_.heap[gb423]? = some (c8_ t425 t426 t427 t428 t429 t430 t431 t432)) := ⟨by rw [← hw_]; exact bk_ BK423.1⟩
    replace BK424 : Aside0 (w166s_.heap[gb424]? = some (c8_ 0 0 0 0 0 0 0 0)) := ⟨by rw [← hw_]; exact bk_ BK424.1⟩
    replace BK435 : Aside0 (w166s_.heap[gb435]? = some (c8_ t425 t426 t427 t428 t429 t430 t431 t432)) := ⟨by rw [← hw_]; exact bk_ BK435.1⟩
    replace BK436 : Aside0 (w166s_.heap[gb436]? = some (c8_ (wrap64 (1 + t437)) t426 t427 t428 t429 t430 t447 t432)) := ⟨by rw [← hw_]; exact bk_ BK436.1⟩
    clear hw_ hHeld
    refine hK.out _ _ (k3_ BK435.1 (k3e_ BK436.1)) (fun hHeld => ?_)
    clear hK K
    refine one_ (i := 3) (N := none) #[true, true, true, true] rfl rfl (by kernel_rfl) (by decide) (fun K hK => ?_)
    obtain ⟨_, _, _, _, _, _, _, _⟩ := e4_ BK424.1
    obtain ⟨_, _, _, _, _, _, _, _⟩ := z5_ BK424.1
    have hns175_0 := NB423_424.1
    have hns175_2 := NB435_424.1
    have hns175_3 := NB436_424.1
    have hms175_0 := NB424_423.1
    have hms175_2 := NB424_435.1
    have hms175_3 := NB424_436.1
    refine skip_ (w1 := ?_) (by rfl) rfl ?_ ?_
    rotate_left
    ·
     go_simp
     rfl
    refine hK.out _ _ (q3m_ (fun e_ => f10_ e_ NB435_424.1) (q3em_ (fun e_ => f10_ e_ NB436_424.1)) hHeld) (fun hHeld => ?_)
    clear hK K
    refine done_ (by kernel_rfl) ?_
    try go_wp2
    refine bodyPost_ret (results_cc rfl _ _ gb423 gb424 58 58 #[.int .i64 t425, .int .i64 t426, .int .i64 t427, .int .i64 t428, .int .i64 t429, .int .i64 t430, .int .i64 t431, .int .i64 t432] #[.int .i64 (wrap64 (1 + t437)), .int .i64 t426, .int .i64 t427, .int .i64 t428, .int .i64 t429, .int .i64 t430, .int .i64 t447, .int .i64 t432] (0, 0) (0, 0) _ _ rfl (bk_ BK423.1) Try.underlying58 rfl (by kernel_rfl) rfl (bk_ BK424.1) Try.underlying58 rfl (by kernel_rfl)) rfl ?_
    exact ⟨rt_, wI_, wB_, wK_⟩

end Go.Proofs.Ytglpmjcknhcjcaa.PFnTwins
