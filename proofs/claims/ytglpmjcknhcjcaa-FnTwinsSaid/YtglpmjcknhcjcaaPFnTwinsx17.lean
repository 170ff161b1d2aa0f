-- Written for this claim by a program (a printer turned to this claim); Lean checks it.
import Derived.Test.YtglpmjcknhcjcaaPFnTwinsx0
import Derived.Test.YtglpmjcknhcjcaaPFnTwinsx12
import Derived.Test.YtglpmjcknhcjcaaPFnTwinsx16
namespace Go.Proofs.Ytglpmjcknhcjcaa.PFnTwins
open Go.RowKit Go.Proofs.YtglpmjcknhcjcaaW.PrintWords Go.Proofs.YtglpmjcknhcjcaaW.PrintLast Go.Proofs.YtglpmjcknhcjcaaW.PrintMore
attribute [local go_sem] max2_int min2_int max_two min_two max_three min_three max_four min_four   -- for this text's walks alone
set_option linter.unusedVariables false
set_option linter.unusedSimpArgs false

/-! ### spec_DrawIsWider: function 88 -/
def spec_DrawIsWider.f (k : Nat) (l0 : List Int) : Option (Int × Int × List Int × Int × Int × List Int × Int × Int × Int × Int × List Int × Int × Int × List Int × Int × Int) := (spec_l1New.f k l0).bind fun bt661 => ((spec_l7Any.f k bt661.1 bt661.2.1 bt661.2.2).bind fun bt665 => ((spec_l7Report.f bt665.1 bt665.2.1 bt665.2.2.1 bt665.2.2.2.1 bt665.2.2.2.2.1 bt665.2.2.2.2.2.1 bt665.2.2.2.2.2.2.1 bt665.2.2.2.2.2.2.2.1).bind fun bt680 => ((spec_l1Below.f bt661.1 bt665.2.2.2.2.2.2.2.2.1 bt665.2.2.2.2.2.2.2.2.2 5).bind fun bt693 => (if bt693.1 = 0 then (some (bt680.1, bt680.2.1, (([] : List Int)), bt680.2.2.2.1, bt680.2.2.2.2.1, bt680.2.2.2.2.2.1, bt680.2.2.2.2.2.2.1, bt680.2.2.2.2.2.2.2, bt665.1, bt665.2.1, bt665.2.2.1, bt665.2.2.2.1, bt665.2.2.2.2.1, bt665.2.2.2.2.2.1, bt665.2.2.2.2.2.2.1, bt665.2.2.2.2.2.2.2.1)) else (if bt693.1 = 1 then (some (bt680.1, bt680.2.1, bt680.2.2.1, bt680.2.2.2.1, bt680.2.2.2.2.1, (([] : List Int)), bt680.2.2.2.2.2.2.1, bt680.2.2.2.2.2.2.2, bt665.1, bt665.2.1, bt665.2.2.1, bt665.2.2.2.1, bt665.2.2.2.2.1, bt665.2.2.2.2.2.1, bt665.2.2.2.2.2.2.1, bt665.2.2.2.2.2.2.2.1)) else (if bt693.1 = 2 then (some (bt680.1, bt680.2.1, bt680.2.2.1, 1, bt680.2.2.2.2.1, bt680.2.2.2.2.2.1, bt680.2.2.2.2.2.2.1, bt680.2.2.2.2.2.2.2, bt665.1, bt665.2.1, bt665.2.2.1, bt665.2.2.2.1, bt665.2.2.2.2.1, bt665.2.2.2.2.2.1, bt665.2.2.2.2.2.2.1, bt665.2.2.2.2.2.2.2.1)) else (if bt693.1 = 3 then ((spec_l7Any.f k bt661.1 bt693.2.1 bt693.2.2).bind fun bt702 => (some (bt702.1, bt702.2.1, bt702.2.2.1, bt702.2.2.2.1, bt702.2.2.2.2.1, bt702.2.2.2.2.2.1, bt702.2.2.2.2.2.2.1, bt702.2.2.2.2.2.2.2.1, bt665.1, bt665.2.1, bt665.2.2.1, bt665.2.2.2.1, bt665.2.2.2.2.1, bt665.2.2.2.2.2.1, bt665.2.2.2.2.2.2.1, bt665.2.2.2.2.2.2.2.1))) else (some (bt680.1, bt680.2.1, bt680.2.2.1, bt680.2.2.2.1, bt680.2.2.2.2.1, bt680.2.2.2.2.2.1, bt680.2.2.2.2.2.2.1, bt680.2.2.2.2.2.2.2, bt665.1, bt665.2.1, bt665.2.2.1, bt665.2.2.2.1, bt665.2.2.2.2.1, bt665.2.2.2.2.2.1, bt665.2.2.2.2.2.2.1, bt665.2.2.2.2.2.2.2.1)))))))))
theorem spec_DrawIsWider.mono : ∀ a0 k, LeO (spec_DrawIsWider.f k a0) (spec_DrawIsWider.f (k + 1) a0) := by
 intro a0 k
 unfold spec_DrawIsWider.f
 have jh0 := @spec_l1New.mono
 have jh1 := @spec_l7Any.mono
 exact mo_
set_option maxHeartbeats 8000000 in
set_option maxRecDepth 100000 in
theorem spec_DrawIsWider.calls (k : Nat) (A0 : Option Addr) (c0 : Nat) (l0 : List Int) (r1 : Int) (r2 : Int) (r3 : List Int) (r4 : Int) (r5 : Int) (r6 : List Int) (r7 : Int) (r8 : Int) (r9 : Int) (r10 : Int) (r11 : List Int) (r12 : Int) (r13 : Int) (r14 : List Int) (r15 : Int) (r16 : Int) (w : World) (hr0 : Kd.C (Kd.int .u8) w A0 l0.length l0) (hc0 : l0.length ≤ c0) (h : spec_DrawIsWider.f k l0 = some (r1, r2, r3, r4, r5, r6, r7, r8, r9, r10, r11, r12, r13, r14, r15, r16)) :
  Calls Try.prog 88 #[.slice A0 l0.length c0] w fun e w' => ∃ v2_ v5_ v10_ v13_ : Value, e = .returned (.tuple #[.agg #[.int .i64 r1, .int .i64 r2, v2_, .int .i64 r4, .int .i64 r5, v5_, .int .i64 r7, .int .i64 r8], .agg #[.int .i64 r9, .int .i64 r10, v10_, .int .i64 r12, .int .i64 r13, v13_, .int .i64 r15, .int .i64 r16]]) ∧ Kd.R (Kd.int .i64) 3 w' w.heap.size (fun k_ => some k_ ≠ (v5_ : Value).ownBlock ∧ some k_ ≠ (v10_ : Value).ownBlock ∧ some k_ ≠ (v13_ : Value).ownBlock) v2_ r3 ∧ Kd.R (Kd.int .i64) 3 w' w.heap.size (fun k_ => some k_ ≠ (v2_ : Value).ownBlock ∧ some k_ ≠ (v10_ : Value).ownBlock ∧ some k_ ≠ (v13_ : Value).ownBlock) v5_ r6 ∧ Kd.R (Kd.int .i64) 3 w' w.heap.size (fun k_ => some k_ ≠ (v2_ : Value).ownBlock ∧ some k_ ≠ (v5_ : Value).ownBlock ∧ some k_ ≠ (v13_ : Value).ownBlock) v10_ r11 ∧ Kd.R (Kd.int .i64) 3 w' w.heap.size (fun k_ => some k_ ≠ (v2_ : Value).ownBlock ∧ some k_ ≠ (v5_ : Value).ownBlock ∧ some k_ ≠ (v10_ : Value).ownBlock) v13_ r14 ∧ Below w.heap.size w w' := by
 have hu41 := Try.underlying41
 have HR0 := o_ hr0
 have HC0 := o_ hc0
 clear hr0 hc0
 have HB := o_ (Below.refl w.heap.size w)
 have H := h
 unfold spec_DrawIsWider.f at H
 clear h
 obtain ⟨⟨t661, t662, t663⟩, A2, H⟩ := ob_ H
 try dsimp only at H
 obtain ⟨⟨t665, t666, t667, t670, t671, t672, t675, t676, t677, t678⟩, A3, H⟩ := ob_ H
 try dsimp only at H
 obtain ⟨⟨t680, t681, t682, t685, t686, t687, t690, t691⟩, A4, H⟩ := ob_ H
 try dsimp only at H
 obtain ⟨⟨t693, t694, t695⟩, A5, H⟩ := ob_ H
 try dsimp only at H
 have HH_ := o_ H
 clear H
 go_enter Try.func88, Try.ntmps88
 go_upto_region 5 with (first | ((with_reducible refine gate_dst (N := 2) rfl ?_); refine bx_ 2 #[.int .i64 0, .int .i64 0, .slice none 0 0, .int .i64 0, .int .i64 0, .slice none 0 0, .int .i64 0, .int .i64 0] 41 ?_; intro gb659 hg w7 hbox hb; have BK659 := o_ (hbox); have GW659 := o_ ((y6_ : w.heap.size ≤ gb659)); replace HB := o_ (below_step (hd_ HB.1) hb); have GE659 := GW659; clear hb hbox hg) | ((with_reducible refine gate_dst (N := 3) rfl ?_); refine bx_ 3 #[.int .i64 0, .int .i64 0, .slice none 0 0, .int .i64 0, .int .i64 0, .slice none 0 0, .int .i64 0, .int .i64 0] 41 ?_; intro gb660 hg w8 hbox hb; have BK660 := o_ (hbox); have GW660 := o_ ((y73_ : w.heap.size ≤ gb660)); replace HB := o_ (below_step wB_ hb); have GE660 := GW660; have NB659_660 := o_ ((y451_ : gb659 ≠ gb660)); have NB660_659 := o_ ((y452_ : gb660 ≠ gb659)); replace BK659 := o_ (blk_below (bd_ BK659.1) hb); clear hb hbox hg) | ((with_reducible refine g_ 58 ?_); refine gl_ (some 8) Try.func58 #[.slice A0 l0.length c0] ?_; (with_reducible refine (spec_l1New.calls k _ _ l0 t661 t662 t663 w _ wB_ HR0.1 HC0.1 A2.1).mono ?_); rintro e w9 ⟨g664, rfl, hi, hb, hb2⟩; refine ⟨_, rfl, ?_⟩; replace HB := o_ (hb); replace HI664 := o_ (hi); have NB664_659 := o_ (IsS102.ne_blk hi (blk_below (bd_ BK659.1) hb2) (by decide)); have NB659_664 := o_ (Ne.symm (IsS102.ne_blk hi (blk_below (bd_ BK659.1) hb2) (by decide))); replace BK659 := o_ (blk_below (bd_ BK659.1) hb2); have NB664_660 := o_ (IsS102.ne_blk hi (blk_below (bd_ BK660.1) hb2) (by decide)); have NB660_664 := o_ (Ne.symm (IsS102.ne_blk hi (blk_below (bd_ BK660.1) hb2) (by decide))); replace BK660 := o_ (blk_below (bd_ BK660.1) hb2); (try clear hb hb2 hi)) | ((with_reducible refine g_ 89 ?_); refine gl_ (some 10) Try.func89 #[.pointer (some ⟨g664, 0, none⟩)] ?_; (with_reducible refine (spec_l7Any.calls k g664 t661 t662 t663 t665 t666 t667 t670 t671 t672 t675 t676 t677 t678 w _ (wJ_ HI664.1) wB_ A3.1).mono ?_); rintro e w10 ⟨v668, v673, rfl, ho0, ho1, hi, hb, hk⟩; refine ⟨_, rfl, ?_⟩; replace BK659 := o_ (KeepBut.blk hk (g' := gb659) (o := c7_ 0 0 none 0 0 0 0 none 0 0 0 0) (bd_ BK659.1) NB659_664.1 (by simp)); replace BK660 := o_ (KeepBut.blk hk (g' := gb660) (o := c7_ 0 0 none 0 0 0 0 none 0 0 0 0) (bd_ BK660.1) NB660_664.1 (by simp)); have HO669 := o_ (Kd.R_lower ho0 (below_size wB_)); have HO674 := o_ (Kd.R_lower ho1 (below_size wB_)); replace HB := o_ (hb); replace HI664 := o_ (hi); (try clear hb hk hi ho0 ho1)) | ((with_reducible refine gate_dst (N := 5) rfl ?_); refine bx_ 5 #[.int .i64 0, .int .i64 0, .slice none 0 0, .int .i64 0, .int .i64 0, .slice none 0 0, .int .i64 0, .int .i64 0] 41 ?_; intro gb679 hg w11 hbox hb; replace HO669 := o_ (Kd.R_below (rd_ HO669.1) hb); replace HO674 := o_ (Kd.R_below (rd_ HO674.1) hb); have BK679 := o_ (hbox); have GW679 := o_ ((y73_ : w.heap.size ≤ gb679)); replace HB := o_ (below_step wB_ hb); have GE679 := GW679; have NB659_679 := o_ ((y451_ : gb659 ≠ gb679)); have NB679_659 := o_ ((y452_ : gb679 ≠ gb659)); replace BK659 := o_ (blk_below (bd_ BK659.1) hb); have NB660_679 := o_ ((y460_ : gb660 ≠ gb679)); have NB679_660 := o_ ((y461_ : gb679 ≠ gb660)); replace BK660 := o_ (blk_below (bd_ BK660.1) hb); have NB664_679 := o_ ((y449_ : g664 ≠ gb679)); have NB679_664 := o_ ((y450_ : gb679 ≠ g664)); replace HI664 := o_ (IsS102.below (wJ_ HI664.1) hb); clear hb hbox hg; have hnb12 := NB679_659.1; have hnc12 := NB659_679.1; have hnb13 := NB679_660.1; have hnc13 := NB660_679.1; have hnb14 := NB679_664.1; have hnc14 := NB664_679.1; obtain ⟨_, _, _, _, _, _, _, _⟩ := e6_ BK679.1; obtain ⟨_, _, _, _, _, _, _, _⟩ := z5_ BK679.1; obtain ⟨Ao16, co16, eo16⟩ := Kd.R_slice HO669.1; subst eo16; obtain ⟨Ao17, co17, eo17⟩ := Kd.R_slice HO674.1; subst eo17) | ((with_reducible refine g_ 99 ?_); refine gl_ (some 12) Try.func99 #[.agg #[.int .i64 t665, .int .i64 t666, .slice Ao16 t667.length co16, .int .i64 t670, .int .i64 t671, .slice Ao17 t672.length co17, .int .i64 t675, .int .i64 t676]] ?_; (with_reducible refine (spec_l7Report.calls t665 t666 _ _ t667 t670 t671 _ _ t672 t675 t676 t680 t681 t682 t685 t686 t687 t690 t691 _ ?side1 ((Kd.R_reads' HO669.1).2.1) ?side3 ((Kd.R_reads' HO674.1).2.1) A4.1).mono ?_); (case side1 => refine (Kd.R_reads' (e := 3) (base := w.heap.size) (ok := fun k_ => some k_ ≠ (.slice Ao17 t672.length co17 : Value).ownBlock) (n := t667.length) (c := co16) ?_).2.2; exact (rf_ (R2_ HO669.1 BK679.1) (fun _ h_ => h_.1))); (case side3 => refine (Kd.R_reads' (e := 3) (base := w.heap.size) (ok := fun k_ => some k_ ≠ (.slice Ao16 t667.length co16 : Value).ownBlock) (n := t672.length) (c := co17) ?_).2.2; exact (rf_ (R2_ HO674.1 BK679.1) (fun _ h_ => h_.1))); rintro e w18 ⟨v683, v688, rfl, ho0, ho1, hb⟩; refine ⟨_, rfl, ?_⟩; have HO684 := o_ (Kd.R_lower (Kd.R_new' (Kd.R_new' ho0 (Kd.R_lt (rf_ (R2_ HO669.1 BK679.1) (fun _ h_ => h_.1)))) (Kd.R_lt (rf_ (R2_ HO674.1 BK679.1) (fun _ h_ => h_.1)))) (below_size wB_)); have HO689 := o_ (Kd.R_lower (Kd.R_new' (Kd.R_new' ho1 (Kd.R_lt (rf_ (R2_ HO669.1 BK679.1) (fun _ h_ => h_.1)))) (Kd.R_lt (rf_ (R2_ HO674.1 BK679.1) (fun _ h_ => h_.1)))) (below_size wB_)); replace HO669 := o_ (Kd.R_mono (Kd.R_told (Kd.R_told (Kd.R_old (rf_ (R2_ HO669.1 BK679.1) (fun _ h_ => h_.1)) hb) (Kd.R_base ho0)) (Kd.R_base ho1)) (fun _ h_ => h_.1)); replace HO674 := o_ (Kd.R_mono (Kd.R_told (Kd.R_told (Kd.R_old (rf_ (R2_ HO674.1 BK679.1) (fun _ h_ => h_.1)) hb) (Kd.R_base ho0)) (Kd.R_base ho1)) (fun _ h_ => h_.1)); replace BK659 := o_ (blk_below (g := gb659) (o := c7_ 0 0 none 0 0 0 0 none 0 0 0 0) (bk_ BK659.1) hb); replace BK660 := o_ (blk_below (g := gb660) (o := c7_ 0 0 none 0 0 0 0 none 0 0 0 0) (bk_ BK660.1) hb); replace HI664 := o_ (IsS102.below (show IsS102 w _ g664 t661 t677 t678 from by exact wJ_ HI664.1) hb); replace BK679 := o_ (blk_below (g := gb679) (o := c7_ t665 t666 Ao16 t667.length co16 t670 t671 Ao17 t672.length co17 t675 t676) (bk_ BK679.1) hb); replace HB := o_ (below_step wB_ hb); (try clear hb ho0 ho1)) | ((with_reducible refine gate_dst (N := 6) rfl ?_); refine bx_ 6 #[.int .i64 0, .int .i64 0, .slice none 0 0, .int .i64 0, .int .i64 0, .slice none 0 0, .int .i64 0, .int .i64 0] 41 ?_; intro gb692 hg w19 hbox hb; replace HO669 := o_ (Kd.R_below (rd_ HO669.1) hb); replace HO674 := o_ (Kd.R_below (rd_ HO674.1) hb); replace HO684 := o_ (Kd.R_below (rd_ HO684.1) hb); replace HO689 := o_ (Kd.R_below (rd_ HO689.1) hb); have BK692 := o_ (hbox); have GW692 := o_ ((y73_ : w.heap.size ≤ gb692)); replace HB := o_ (below_step wB_ hb); have GE692 := GW692; have NB659_692 := o_ ((y451_ : gb659 ≠ gb692)); have NB692_659 := o_ ((y452_ : gb692 ≠ gb659)); replace BK659 := o_ (blk_below (bd_ BK659.1) hb); have NB660_692 := o_ ((y460_ : gb660 ≠ gb692)); have NB692_660 := o_ ((y461_ : gb692 ≠ gb660)); replace BK660 := o_ (blk_below (bd_ BK660.1) hb); have NB679_692 := o_ ((by rw [hg]; exact Nat.ne_of_lt (blk_lt (bd_ BK679.1)) : gb679 ≠ gb692)); have NB692_679 := o_ ((by rw [hg]; exact Nat.ne_of_gt (blk_lt (bd_ BK679.1)) : gb692 ≠ gb679)); replace BK679 := o_ (blk_below (bd_ BK679.1) hb); have NB664_692 := o_ ((y449_ : g664 ≠ gb692)); have NB692_664 := o_ ((y450_ : gb692 ≠ g664)); replace HI664 := o_ (IsS102.below (wJ_ HI664.1) hb); clear hb hbox hg; have hnb20 := NB692_659.1; have hnc20 := NB659_692.1; have hnb21 := NB692_660.1; have hnc21 := NB660_692.1; have hnb22 := NB692_679.1; have hnc22 := NB679_692.1; have hnb23 := NB692_664.1; have hnc23 := NB664_692.1; obtain ⟨_, _, _, _, _, _, _, _⟩ := e6_ BK692.1; obtain ⟨_, _, _, _, _, _, _, _⟩ := z5_ BK692.1; obtain ⟨Ao25, co25, eo25⟩ := Kd.R_slice HO684.1; subst eo25; obtain ⟨Ao26, co26, eo26⟩ := Kd.R_slice HO689.1; subst eo26) | ((with_reducible refine g_ 84 ?_); refine gl_ (some 14) Try.func84 #[.pointer (some ⟨g664, 0, none⟩), .int .i64 5] ?_; (with_reducible refine (spec_l1Below.calls g664 t661 t677 t678 5 t693 t694 t695 w _ (wJ_ HI664.1) wB_ A5.1).mono ?_); rintro e w115 ⟨rfl, hi, hb, hk⟩; refine ⟨_, rfl, ?_⟩; replace BK659 := o_ (KeepBut.blk hk (g' := gb659) (o := c7_ 0 0 none 0 0 0 0 none 0 0 0 0) (bk_ BK659.1) NB659_664.1 (by simp)); replace BK660 := o_ (KeepBut.blk hk (g' := gb660) (o := c7_ 0 0 none 0 0 0 0 none 0 0 0 0) (bk_ BK660.1) NB660_664.1 (by simp)); replace HO669 := o_ (kp_ (show IsS102 w _ g664 t661 t677 t678 from (wJ_ HI664.1)) (rf_ (R2_ HO669.1 BK692.1) (fun _ h_ => h_.1)) hk); replace HO674 := o_ (kp_ (show IsS102 w _ g664 t661 t677 t678 from (wJ_ HI664.1)) (rf_ (R2_ HO674.1 BK692.1) (fun _ h_ => h_.1)) hk); replace BK679 := o_ (KeepBut.blk hk (g' := gb679) (o := c7_ t665 t666 Ao16 t667.length co16 t670 t671 Ao17 t672.length co17 t675 t676) (bk_ BK679.1) NB679_664.1 (by simp)); replace HO684 := o_ (kp_ (show IsS102 w _ g664 t661 t677 t678 from (wJ_ HI664.1)) (rf_ (R2_ HO684.1 BK692.1) (fun _ h_ => h_.1)) hk); replace HO689 := o_ (kp_ (show IsS102 w _ g664 t661 t677 t678 from (wJ_ HI664.1)) (rf_ (R2_ HO689.1 BK692.1) (fun _ h_ => h_.1)) hk); replace BK692 := o_ (KeepBut.blk hk (g' := gb692) (o := c7_ t680 t681 Ao25 t682.length co25 t685 t686 Ao26 t687.length co26 t690 t691) (bk_ BK692.1) NB692_664.1 (by simp)); replace HB := o_ (hb); replace HI664 := o_ (hi); (try clear hb hk hi); obtain ⟨_, _, _, _, _, _, _, _⟩ := e6_ BK692.1; obtain ⟨_, _, _, _, _, _, _, _⟩ := z5_ BK692.1))
 have H := HH_.1
 clear HH_
 by_cases c6 : t693 = 0
 ·
  rw [if_pos c6] at H
  have c6b0 := beq_iff_eq.mpr c6
  have c6b1 := bne_eq_false_iff_eq.mpr c6
  clear c6
  obtain ⟨y696, hy696⟩ : ∃ y_ : List Int, y_ = (([] : List Int)) := ⟨_, rfl⟩
  replace H : (some (t680, t681, y696, t685, t686, t687, t690, t691, t665, t666, t667, t670, t671, t672, t675, t676)) = some (r1, r2, r3, r4, r5, r6, r7, r8, r9, r10, r11, r12, r13, r14, r15, r16) := hy_ H hy696
  have Ny696 := o_ hy696
  clear hy696
  simp only [Option.some.injEq, Prod.mk.injEq] at H
  obtain ⟨rfl, rfl, rfl, rfl, rfl, rfl, rfl, rfl, rfl, rfl, rfl, rfl, rfl, rfl, rfl, rfl⟩ := H
  try go_wp2_with (first | ((with_reducible refine gate_dst (N := 17) rfl ?_); refine Kd.R_lit (Kd.int .i64) _ 3 ?hg (N := 17) ?hd (xs := ([] : List Int)) (inner := []) (ok := fun _ => True) (okp := fun _ => True) ?hr ?hp (fun _ hk => hk) trivial (Below.refl _ _) (Nat.le_refl _) (by simp) ?_; (case hd => rfl); (case hg => rfl); (case hr => first | (go_simp; done) | (go_simp; rfl)); (case hp => exact (Reps.none _ _)); intro v697 w28 ho29 hb hg_ hnew_; clear hg_ hnew_; (first | rw [← Ny696.1] at ho29 | (simp only [Int.reduceToNat] at ho29; rw [← Ny696.1] at ho29)); have HO698 := o_ (Kd.R_lower (Kd.R_new' (Kd.R_new' (Kd.R_new' (Kd.R_new' ho29 (Kd.R_lt (rd_ HO669.1))) (Kd.R_lt (rd_ HO674.1))) (Kd.R_lt (rd_ HO684.1))) (Kd.R_lt (rd_ HO689.1))) (below_size (wB_))); replace HO669 := o_ (Kd.R_elder' (rd_ HO669.1) (Kd.R_base ho29) hb); replace HO674 := o_ (Kd.R_elder' (rd_ HO674.1) (Kd.R_base ho29) hb); replace HO684 := o_ (Kd.R_elder' (rd_ HO684.1) (Kd.R_base ho29) hb); replace HO689 := o_ (Kd.R_elder' (rd_ HO689.1) (Kd.R_base ho29) hb); replace BK659 := o_ (blk_below (bd_ BK659.1) hb); replace BK660 := o_ (blk_below (bd_ BK660.1) hb); replace HI664 := o_ (IsS102.below ((wJ_ HI664.1)) hb); replace BK679 := o_ (blk_below (bd_ BK679.1) hb); replace BK692 := o_ (blk_below (bd_ BK692.1) hb); replace HB := o_ (below_step (wB_) hb); clear hb ho29; obtain ⟨Ao30, co30, eo30⟩ := Kd.R_slice HO698.1; subst eo30; obtain ⟨_, _, _, _, _, _, _, _⟩ := e6_ BK692.1; obtain ⟨_, _, _, _, _, _, _, _⟩ := z5_ BK692.1))
  generalize hw_ : (w28.setCell ⟨gb692, 2, none⟩ (.slice Ao30 y696.length co30)) = w32
  replace HO669 : Aside0 (Kd.R (Kd.int .i64) 3 w32 w.heap.size (fun k_ => some k_ ≠ (.slice Ao17 t672.length co17 : Value).ownBlock ∧ some k_ ≠ (.slice Ao25 t682.length co25 : Value).ownBlock ∧ some k_ ≠ (.slice Ao26 t687.length co26 : Value).ownBlock ∧ some k_ ≠ (.slice Ao30 y696.length co30 : Value).ownBlock) (.slice Ao16 t667.length co16) t667) := ⟨by rw [← hw_]; exact rf_ (R2_ HO669.1 BK692.1) (fun _ hk => ⟨hk.1.1.1.1, ⟨hk.1.1.1.2, ⟨hk.1.1.2, hk.1.2⟩⟩⟩)⟩
  replace HO674 : Aside0 (Kd.R (Kd.int .i64) 3 w32 w.heap.size (fun k_ => some k_ ≠ (.slice Ao16 t667.length co16 : Value).ownBlock ∧ some k_ ≠ (.slice Ao25 t682.length co25 : Value).ownBlock ∧ some k_ ≠ (.slice Ao26 t687.length co26 : Value).ownBlock ∧ some k_ ≠ (.slice Ao30 y696.length co30 : Value).ownBlock) (.slice Ao17 t672.length co17) t672) := ⟨by rw [← hw_]; exact rf_ (R2_ HO674.1 BK692.1) (fun _ hk => ⟨hk.1.1.1.1, ⟨hk.1.1.1.2, ⟨hk.1.1.2, hk.1.2⟩⟩⟩)⟩
  replace HO684 : Aside0 (Kd.R (Kd.int .i64) 3 w32 w.heap.size (fun k_ => some k_ ≠ (.slice Ao16 t667.length co16 : Value).ownBlock ∧ some k_ ≠ (.slice Ao17 t672.length co17 : Value).ownBlock ∧ some k_ ≠ (.slice Ao26 t687.length co26 : Value).ownBlock ∧ some k_ ≠ (.slice Ao30 y696.length co30 : Value).ownBlock) (.slice Ao25 t682.length co25) t682) := ⟨by rw [← hw_]; exact rf_ (R2_ HO684.1 BK692.1) (fun _ hk => ⟨hk.1.1.1.2, ⟨hk.1.1.2, ⟨hk.1.1.1.1, hk.1.2⟩⟩⟩)⟩
  replace HO689 : Aside0 (Kd.R (Kd.int .i64) 3 w32 w.heap.size (fun k_ => some k_ ≠ (.slice Ao16 t667.length co16 : Value).ownBlock ∧ some k_ ≠ (.slice Ao17 t672.length co17 : Value).ownBlock ∧ some k_ ≠ (.slice Ao25 t682.length co25 : Value).ownBlock ∧ some k_ ≠ (.slice Ao30 y696.length co30 : Value).ownBlock) (.slice Ao26 t687.length co26) t687) := ⟨by rw [← hw_]; exact rf_ (R2_ HO689.1 BK692.1) (fun _ hk => ⟨hk.1.1.1.2, ⟨hk.1.1.2, ⟨hk.1.1.1.1, hk.1.2⟩⟩⟩)⟩
  replace HO698 : Aside0 (Kd.R (Kd.int .i64) 3 w32 w.heap.size (fun k_ => some k_ ≠ (.slice Ao16 t667.length co16 : Value).ownBlock ∧ some k_ ≠ (.slice Ao17 t672.length co17 : Value).ownBlock ∧ some k_ ≠ (.slice Ao25 t682.length co25 : Value).ownBlock ∧ some k_ ≠ (.slice Ao26 t687.length co26 : Value).ownBlock) (.slice Ao30 y696.length co30) y696) := ⟨by rw [← hw_]; exact rf_ (R2_ HO698.1 BK692.1) (fun _ hk => ⟨hk.1.1.1.1.2, ⟨hk.1.1.1.2, ⟨hk.1.1.2, hk.1.2⟩⟩⟩)⟩
  replace BK659 : Aside0 (w32.heap[gb659]? = some (c7_ 0 0 none 0 0 0 0 none 0 0 0 0)) := ⟨by rw [← hw_]; exact bk_ BK659.1⟩
  replace BK660 : Aside0 (w32.heap[gb660]? = some (c7_ 0 0 none 0 0 0 0 none 0 0 0 0)) := ⟨by rw [← hw_]; exact bk_ BK660.1⟩
  replace BK679 : Aside0 (w32.heap[gb679]? = some (c7_ t665 t666 Ao16 t667.length co16 t670 t671 Ao17 t672.length co17 t675 t676)) := ⟨by rw [← hw_]; exact bk_ BK679.1⟩
  replace BK692 : Aside0 (w32.heap[gb692]? = some (c7_ t680 t681 Ao30 y696.length co30 t685 t686 Ao26 t687.length co26 t690 t691)) := ⟨by rw [← hw_]; exact bk_ BK692.1⟩
  replace HI664 : Aside0 (IsS102 w w32 g664 t661 t694 t695) := ⟨by rw [← hw_]; exact (wJ_ HI664.1)⟩
  replace HB : Aside0 (Below w.heap.size w w32) := ⟨by rw [← hw_]; exact wB_⟩
  clear hw_
  replace HO669 := o_ (Kd.R_drew HO669.1)
  replace HO674 := o_ (Kd.R_drew HO674.1)
  replace HO684 := o_ (Kd.R_drew HO684.1)
  replace HO689 := o_ (Kd.R_drew HO689.1)
  replace HO698 := o_ (Kd.R_drew HO698.1)
  replace BK659 := o_ (blk_drew BK659.1)
  replace BK660 := o_ (blk_drew BK660.1)
  replace BK679 := o_ (blk_drew BK679.1)
  replace BK692 := o_ (blk_drew BK692.1)
  replace HI664 := o_ (IsS102.drew HI664.1)
  replace HB := o_ (below_drew1 HB.1)
  refine start_ (n := 4) (S := fun w' => q1_ w' gb692 t680 t681 Ao30 y696.length co30 t685 t686 Ao26 t687.length co26 t690 t691 (q1e_ w' gb679 t665 t666 Ao16 t667.length co16 t670 t671 Ao17 t672.length co17 t675 t676)) (ds := []) #[false, false, false, false] (by kernel_rfl) rfl rfl (k1_ BK692.1 (k1e_ BK679.1)) (fun hHeld => ?_)
  generalize w32.drew = w33 at HO669 HO674 HO684 HO689 HO698 BK659 BK660 BK679 BK692 HI664 HB hHeld ⊢
  refine take_ (i := 0) (N := some 30) (v := ?_) (a' := ?_) #[true, false, false, false] rfl rfl (by kernel_rfl) (fun _ _ _ h => h) (Or.inl ⟨by rfl, ?_⟩) hHeld ?_ ?_
  rotate_left; · rintro w' ⟨s0, s1, s2, s3, s4, s5, s6, s7, s8, s9, s10, s11, s12, s13, s14, s15⟩; go_simp; with_reducible rfl
  rotate_left; · simp only [Act.put, List.setIfInBounds_toArray, List.set_cons_zero, List.set_cons_succ, i64_w, i32_w]; rfl
  refine take_ (i := 1) (N := some 31) (v := ?_) (a' := ?_) #[true, true, false, false] rfl rfl (by kernel_rfl) (fun _ _ _ h => h) (Or.inl ⟨by rfl, ?_⟩) hHeld ?_ ?_
  rotate_left; · rintro w' ⟨s0, s1, s2, s3, s4, s5, s6, s7, s8, s9, s10, s11, s12, s13, s14, s15⟩; go_simp; with_reducible rfl
  rotate_left; · simp only [Act.put, List.setIfInBounds_toArray, List.set_cons_zero, List.set_cons_succ, i64_w, i32_w]; rfl
  refine one_ (i := 2) (N := none) #[true, true, true, false] rfl rfl (by kernel_rfl) (by decide) (fun K hK => ?_)
  obtain ⟨_, _, _, _, _, _, _, _⟩ := e6_ BK659.1
  obtain ⟨_, _, _, _, _, _, _, _⟩ := z5_ BK659.1
  have hns34_1 := NB660_659.1
  have hns34_2 := NB679_659.1
  have hns34_3 := NB692_659.1
  have hms34_1 := NB659_660.1
  have hms34_2 := NB659_679.1
  have hms34_3 := NB659_692.1
  refine skip_ (w1 := ?_) (by rfl) rfl ?_ ?_
  rotate_left
  ·
   go_simp
   rfl
  generalize hw_ : ((((((((w33.setCell ⟨gb659, 0, none⟩ (.int .i64 t680)).setCell ⟨gb659, 1, none⟩ (.int .i64 t681)).setCell ⟨gb659, 2, none⟩ (.slice Ao30 y696.length co30)).setCell ⟨gb659, 3, none⟩ (.int .i64 t685)).setCell ⟨gb659, 4, none⟩ (.int .i64 t686)).setCell ⟨gb659, 5, none⟩ (.slice Ao26 t687.length co26)).setCell ⟨gb659, 6, none⟩ (.int .i64 t690)).setCell ⟨gb659, 7, none⟩ (.int .i64 t691)) = w33s_
  replace HO669 := o_ (gwR_ hw_ (rf_ (R2_ HO669.1 BK659.1) (fun _ h_ => h_.1)))
  replace HO674 := o_ (gwR_ hw_ (rf_ (R2_ HO674.1 BK659.1) (fun _ h_ => h_.1)))
  replace HO689 := o_ (gwR_ hw_ (rf_ (R2_ HO689.1 BK659.1) (fun _ h_ => h_.1)))
  replace HO698 := o_ (gwR_ hw_ (rf_ (R2_ HO698.1 BK659.1) (fun _ h_ => h_.1)))
  replace HI664 := o_ (Eq.subst (motive := fun W_ => IsS102 _ W_ _ _ _ _) hw_ (isf8_ HI664.1 NB664_659.1))
  replace HB : Aside0 (Below w.heap.size w w33s_) := ⟨by rw [← hw_]; exact wB_⟩
  replace BK659 : Aside0 (w33s_.heap[gb659]? = some (c7_ t680 t681 Ao30 y696.length co30 t685 t686 Ao26 t687.length co26 t690 t691)) := ⟨by rw [← hw_]; exact bk_ BK659.1⟩
  replace BK660 : Aside0 (w33s_.heap[gb660]? = some (c7_ 0 0 none 0 0 0 0 none 0 0 0 0)) := ⟨by rw [← hw_]; exact bk_ BK660.1⟩
  replace BK692 : Aside0 (w33s_.heap[gb692]? = some (c7_ t680 t681 Ao30 y696.length co30 t685 t686 Ao26 t687.length co26 t690 t691)) := ⟨by rw [← hw_]; exact bk_ BK692.1⟩
  replace BK679 : Aside0 (w33s_.heap[gb679]? = some (c7_ t665 t666 Ao16 t667.length co16 t670 t671 Ao17 t672.length co17 t675 t676)) := ⟨by rw [← hw_]; exact bk_ BK679.1⟩
  clear hw_ hHeld
  refine hK.out _ _ (k1_ BK692.1 (k1e_ BK679.1)) (fun hHeld => ?_)
  clear hK K
  refine one_ (i := 3) (N := none) #[true, true, true, true] rfl rfl (by kernel_rfl) (by decide) (fun K hK => ?_)
  obtain ⟨_, _, _, _, _, _, _, _⟩ := e6_ BK660.1
  obtain ⟨_, _, _, _, _, _, _, _⟩ := z5_ BK660.1
  have hns42_0 := NB659_660.1
  have hns42_2 := NB679_660.1
  have hns42_3 := NB692_660.1
  have hms42_0 := NB660_659.1
  have hms42_2 := NB660_679.1
  have hms42_3 := NB660_692.1
  refine skip_ (w1 := ?_) (by rfl) rfl ?_ ?_
  rotate_left
  ·
   go_simp
   rfl
  refine hK.out _ _ (q1m_ (fun e_ => f10_ e_ NB692_660.1) (q1em_ (fun e_ => f10_ e_ NB679_660.1)) hHeld) (fun hHeld => ?_)
  clear hK K
  refine done_ (by kernel_rfl) ?_
  try go_wp2
  refine bodyPost_ret (results_cc rfl _ _ gb659 gb660 41 41 #[.int .i64 t680, .int .i64 t681, .slice Ao30 y696.length co30, .int .i64 t685, .int .i64 t686, .slice Ao26 t687.length co26, .int .i64 t690, .int .i64 t691] #[.int .i64 t665, .int .i64 t666, .slice Ao16 t667.length co16, .int .i64 t670, .int .i64 t671, .slice Ao17 t672.length co17, .int .i64 t675, .int .i64 t676] (0, 0) (0, 0) _ _ rfl (bk_ BK659.1) Try.underlying41 rfl (by kernel_rfl) rfl (bk_ BK660.1) Try.underlying41 rfl (by kernel_rfl)) rfl ?_
  exact ⟨_, _, _, _, rt_, rf_ (R2_ (R2_ HO698.1 BK659.1) BK660.1) (fun _ hk => ⟨hk.1.1.2.2.2, ⟨hk.1.1.1, hk.1.1.2.1⟩⟩), rf_ (R2_ (R2_ HO689.1 BK659.1) BK660.1) (fun _ hk => ⟨hk.1.1.2.2.2, ⟨hk.1.1.1, hk.1.1.2.1⟩⟩), rf_ (R2_ (R2_ HO669.1 BK659.1) BK660.1) (fun _ hk => ⟨hk.1.1.2.2.2, ⟨hk.1.1.2.2.1, hk.1.1.1⟩⟩), rf_ (R2_ (R2_ HO674.1 BK659.1) BK660.1) (fun _ hk => ⟨hk.1.1.2.2.2, ⟨hk.1.1.2.2.1, hk.1.1.1⟩⟩), wB_⟩
 ·
  rw [if_neg c6] at H
  have c6b0 := beq_eq_false_iff_ne.mpr c6
  have c6b1 := bne_iff_ne.mpr c6
  by_cases c50 : t693 = 1
  ·
   rw [if_pos c50] at H
   have c50b0 := beq_iff_eq.mpr c50
   have c50b1 := bne_eq_false_iff_eq.mpr c50
   clear c50
   obtain ⟨y699, hy699⟩ : ∃ y_ : List Int, y_ = (([] : List Int)) := ⟨_, rfl⟩
   replace H : (some (t680, t681, t682, t685, t686, y699, t690, t691, t665, t666, t667, t670, t671, t672, t675, t676)) = some (r1, r2, r3, r4, r5, r6, r7, r8, r9, r10, r11, r12, r13, r14, r15, r16) := hy_ H hy699
   have Ny699 := o_ hy699
   clear hy699
   simp only [Option.some.injEq, Prod.mk.injEq] at H
   obtain ⟨rfl, rfl, rfl, rfl, rfl, rfl, rfl, rfl, rfl, rfl, rfl, rfl, rfl, rfl, rfl, rfl⟩ := H
   try go_wp2_with (first | ((with_reducible refine gate_dst (N := 21) rfl ?_); refine Kd.R_lit (Kd.int .i64) _ 3 ?hg (N := 21) ?hd (xs := ([] : List Int)) (inner := []) (ok := fun _ => True) (okp := fun _ => True) ?hr ?hp (fun _ hk => hk) trivial (Below.refl _ _) (Nat.le_refl _) (by simp) ?_; (case hd => rfl); (case hg => rfl); (case hr => first | (go_simp; done) | (go_simp; rfl)); (case hp => exact (Reps.none _ _)); intro v700 w72 ho73 hb hg_ hnew_; clear hg_ hnew_; (first | rw [← Ny699.1] at ho73 | (simp only [Int.reduceToNat] at ho73; rw [← Ny699.1] at ho73)); have HO701 := o_ (Kd.R_lower (Kd.R_new' (Kd.R_new' (Kd.R_new' (Kd.R_new' ho73 (Kd.R_lt (rd_ HO669.1))) (Kd.R_lt (rd_ HO674.1))) (Kd.R_lt (rd_ HO684.1))) (Kd.R_lt (rd_ HO689.1))) (below_size (wB_))); replace HO669 := o_ (Kd.R_elder' (rd_ HO669.1) (Kd.R_base ho73) hb); replace HO674 := o_ (Kd.R_elder' (rd_ HO674.1) (Kd.R_base ho73) hb); replace HO684 := o_ (Kd.R_elder' (rd_ HO684.1) (Kd.R_base ho73) hb); replace HO689 := o_ (Kd.R_elder' (rd_ HO689.1) (Kd.R_base ho73) hb); replace BK659 := o_ (blk_below (bd_ BK659.1) hb); replace BK660 := o_ (blk_below (bd_ BK660.1) hb); replace HI664 := o_ (IsS102.below ((wJ_ HI664.1)) hb); replace BK679 := o_ (blk_below (bd_ BK679.1) hb); replace BK692 := o_ (blk_below (bd_ BK692.1) hb); replace HB := o_ (below_step (wB_) hb); clear hb ho73; obtain ⟨Ao74, co74, eo74⟩ := Kd.R_slice HO701.1; subst eo74; obtain ⟨_, _, _, _, _, _, _, _⟩ := e6_ BK692.1; obtain ⟨_, _, _, _, _, _, _, _⟩ := z5_ BK692.1))
   generalize hw_ : (w72.setCell ⟨gb692, 5, none⟩ (.slice Ao74 y699.length co74)) = w76
   replace HO669 : Aside0 (Kd.R (Kd.int .i64) 3 w76 w.heap.size (fun k_ => some k_ ≠ (.slice Ao17 t672.length co17 : Value).ownBlock ∧ some k_ ≠ (.slice Ao25 t682.length co25 : Value).ownBlock ∧ some k_ ≠ (.slice Ao26 t687.length co26 : Value).ownBlock ∧ some k_ ≠ (.slice Ao74 y699.length co74 : Value).ownBlock) (.slice Ao16 t667.length co16) t667) := ⟨by rw [← hw_]; exact rf_ (R2_ HO669.1 BK692.1) (fun _ hk => ⟨hk.1.1.1.1, ⟨hk.1.1.1.2, ⟨hk.1.1.2, hk.1.2⟩⟩⟩)⟩
   replace HO674 : Aside0 (Kd.R (Kd.int .i64) 3 w76 w.heap.size (fun k_ => some k_ ≠ (.slice Ao16 t667.length co16 : Value).ownBlock ∧ some k_ ≠ (.slice Ao25 t682.length co25 : Value).ownBlock ∧ some k_ ≠ (.slice Ao26 t687.length co26 : Value).ownBlock ∧ some k_ ≠ (.slice Ao74 y699.length co74 : Value).ownBlock) (.slice Ao17 t672.length co17) t672) := ⟨by rw [← hw_]; exact rf_ (R2_ HO674.1 BK692.1) (fun _ hk => ⟨hk.1.1.1.1, ⟨hk.1.1.1.2, ⟨hk.1.1.2, hk.1.2⟩⟩⟩)⟩
   replace HO684 : Aside0 (Kd.R (Kd.int .i64) 3 w76 w.heap.size (fun k_ => some k_ ≠ (.slice Ao16 t667.length co16 : Value).ownBlock ∧ some k_ ≠ (.slice Ao17 t672.length co17 : Value).ownBlock ∧ some k_ ≠ (.slice Ao26 t687.length co26 : Value).ownBlock ∧ some k_ ≠ (.slice Ao74 y699.length co74 : Value).ownBlock) (.slice Ao25 t682.length co25) t682) := ⟨by rw [← hw_]; exact rf_ (R2_ HO684.1 BK692.1) (fun _ hk => ⟨hk.1.1.1.2, ⟨hk.1.1.2, ⟨hk.1.1.1.1, hk.1.2⟩⟩⟩)⟩
   replace HO689 : Aside0 (Kd.R (Kd.int .i64) 3 w76 w.heap.size (fun k_ => some k_ ≠ (.slice Ao16 t667.length co16 : Value).ownBlock ∧ some k_ ≠ (.slice Ao17 t672.length co17 : Value).ownBlock ∧ some k_ ≠ (.slice Ao25 t682.length co25 : Value).ownBlock ∧ some k_ ≠ (.slice Ao74 y699.length co74 : Value).ownBlock) (.slice Ao26 t687.length co26) t687) := ⟨by rw [← hw_]; exact rf_ (R2_ HO689.1 BK692.1) (fun _ hk => ⟨hk.1.1.1.2, ⟨hk.1.1.2, ⟨hk.1.1.1.1, hk.1.2⟩⟩⟩)⟩
   replace HO701 : Aside0 (Kd.R (Kd.int .i64) 3 w76 w.heap.size (fun k_ => some k_ ≠ (.slice Ao16 t667.length co16 : Value).ownBlock ∧ some k_ ≠ (.slice Ao17 t672.length co17 : Value).ownBlock ∧ some k_ ≠ (.slice Ao25 t682.length co25 : Value).ownBlock ∧ some k_ ≠ (.slice Ao26 t687.length co26 : Value).ownBlock) (.slice Ao74 y699.length co74) y699) := ⟨by rw [← hw_]; exact rf_ (R2_ HO701.1 BK692.1) (fun _ hk => ⟨hk.1.1.1.1.2, ⟨hk.1.1.1.2, ⟨hk.1.1.2, hk.1.2⟩⟩⟩)⟩
   replace BK659 : Aside0 (w76.heap[gb659]? = some (c7_ 0 0 none 0 0 0 0 none 0 0 0 0)) := ⟨by rw [← hw_]; exact bk_ BK659.1⟩
   replace BK660 : Aside0 (w76.heap[gb660]? = some (c7_ 0 0 none 0 0 0 0 none 0 0 0 0)) := ⟨by rw [← hw_]; exact bk_ BK660.1⟩
   replace BK679 : Aside0 (w76.heap[gb679]? = some (c7_ t665 t666 Ao16 t667.length co16 t670 t671 Ao17 t672.length co17 t675 t676)) := ⟨by rw [← hw_]; exact bk_ BK679.1⟩
   replace BK692 : Aside0 (w76.heap[gb692]? = some (c7_ t680 t681 Ao25 t682.length co25 t685 t686 Ao74 y699.length co74 t690 t691)) := ⟨by rw [← hw_]; exact bk_ BK692.1⟩
   replace HI664 : Aside0 (IsS102 w w76 g664 t661 t694 t695) := ⟨by rw [← hw_]; exact (wJ_ HI664.1)⟩
   replace HB : Aside0 (Below w.heap.size w w76) := ⟨by rw [← hw_]; exact wB_⟩
   clear hw_
   replace HO669 := o_ (Kd.R_drew HO669.1)
   replace HO674 := o_ (Kd.R_drew HO674.1)
   replace HO684 := o_ (Kd.R_drew HO684.1)
   replace HO689 := o_ (Kd.R_drew HO689.1)
   replace HO701 := o_ (Kd.R_drew HO701.1)
   replace BK659 := o_ (blk_drew BK659.1)
   replace BK660 := o_ (blk_drew BK660.1)
   replace BK679 := o_ (blk_drew BK679.1)
   replace BK692 := o_ (blk_drew BK692.1)
   replace HI664 := o_ (IsS102.drew HI664.1)
   replace HB := o_ (below_drew1 HB.1)
   refine start_ (n := 4) (S := fun w' => q1_ w' gb692 t680 t681 Ao25 t682.length co25 t685 t686 Ao74 y699.length co74 t690 t691 (q1e_ w' gb679 t665 t666 Ao16 t667.length co16 t670 t671 Ao17 t672.length co17 t675 t676)) (ds := []) #[false, false, false, false] (by kernel_rfl) rfl rfl (k1_ BK692.1 (k1e_ BK679.1)) (fun hHeld => ?_)
   generalize w76.drew = w77 at HO669 HO674 HO684 HO689 HO701 BK659 BK660 BK679 BK692 HI664 HB hHeld ⊢
   refine take_ (i := 0) (N := some 30) (v := ?_) (a' := ?_) #[true, false, false, false] rfl rfl (by kernel_rfl) (fun _ _ _ h => h) (Or.inl ⟨by rfl, ?_⟩) hHeld ?_ ?_
   rotate_left; · rintro w' ⟨s0, s1, s2, s3, s4, s5, s6, s7, s8, s9, s10, s11, s12, s13, s14, s15⟩; go_simp; with_reducible rfl
   rotate_left; · simp only [Act.put, List.setIfInBounds_toArray, List.set_cons_zero, List.set_cons_succ, i64_w, i32_w]; rfl
   refine take_ (i := 1) (N := some 31) (v := ?_) (a' := ?_) #[true, true, false, false] rfl rfl (by kernel_rfl) (fun _ _ _ h => h) (Or.inl ⟨by rfl, ?_⟩) hHeld ?_ ?_
   rotate_left; · rintro w' ⟨s0, s1, s2, s3, s4, s5, s6, s7, s8, s9, s10, s11, s12, s13, s14, s15⟩; go_simp; with_reducible rfl
   rotate_left; · simp only [Act.put, List.setIfInBounds_toArray, List.set_cons_zero, List.set_cons_succ, i64_w, i32_w]; rfl
   refine one_ (i := 2) (N := none) #[true, true, true, false] rfl rfl (by kernel_rfl) (by decide) (fun K hK => ?_)
   obtain ⟨_, _, _, _, _, _, _, _⟩ := e6_ BK659.1
   obtain ⟨_, _, _, _, _, _, _, _⟩ := z5_ BK659.1
   have hns78_1 := NB660_659.1
   have hns78_2 := NB679_659.1
   have hns78_3 := NB692_659.1
   have hms78_1 := NB659_660.1
   have hms78_2 := NB659_679.1
   have hms78_3 := NB659_692.1
   refine skip_ (w1 := ?_) (by rfl) rfl ?_ ?_
   rotate_left
   ·
    go_simp
    rfl
   generalize hw_ : ((((((((w77.setCell ⟨gb659, 0, none⟩ (.int .i64 t680)).setCell ⟨gb659, 1, none⟩ (.int .i64 t681)).setCell ⟨gb659, 2, none⟩ (.slice Ao25 t682.length co25)).setCell ⟨gb659, 3, none⟩ (.int .i64 t685)).setCell ⟨gb659, 4, none⟩ (.int .i64 t686)).setCell ⟨gb659, 5, none⟩ (.slice Ao74 y699.length co74)).setCell ⟨gb659, 6, none⟩ (.int .i64 t690)).setCell ⟨gb659, 7, none⟩ (.int .i64 t691)) = w77s_
   replace HO669 := o_ (gwR_ hw_ (rf_ (R2_ HO669.1 BK659.1) (fun _ h_ => h_.1)))
   replace HO674 := o_ (gwR_ hw_ (rf_ (R2_ HO674.1 BK659.1) (fun _ h_ => h_.1)))
   replace HO684 := o_ (gwR_ hw_ (rf_ (R2_ HO684.1 BK659.1) (fun _ h_ => h_.1)))
   replace HO701 := o_ (gwR_ hw_ (rf_ (R2_ HO701.1 BK659.1) (fun _ h_ => h_.1)))
   replace HI664 := o_ (Eq.subst (motive := fun W_ => IsS102 _ W_ _ _ _ _) hw_ (isf8_ HI664.1 NB664_659.1))
   replace HB : Aside0 (Below w.heap.size w w77s_) := ⟨by rw [← hw_]; exact wB_⟩
   replace BK659 : Aside0 (w77s_.heap[gb659]? = some (c7_ t680 t681 Ao25 t682.length co25 t685 t686 Ao74 y699.length co74 t690 t691)) := ⟨by rw [← hw_]; exact bk_ BK659.1⟩
   replace BK660 : Aside0 (w77s_.heap[gb660]? = some (c7_ 0 0 none 0 0 0 0 none 0 0 0 0)) := ⟨by rw [← hw_]; exact bk_ BK660.1⟩
   replace BK692 : Aside0 (w77s_.heap[gb692]? = some (c7_ t680 t681 Ao25 t682.length co25 t685 t686 Ao74 y699.length co74 t690 t691)) := ⟨by rw [← hw_]; exact bk_ BK692.1⟩
   replace BK679 : Aside0 (w77s_.heap[gb679]? = some (c7_ t665 t666 Ao16 t667.length co16 t670 t671 Ao17 t672.length co17 t675 t676)) := ⟨by rw [← hw_]; exact bk_ BK679.1⟩
   clear hw_ hHeld
   refine hK.out _ _ (k1_ BK692.1 (k1e_ BK679.1)) (fun hHeld => ?_)
   clear hK K
   refine one_ (i := 3) (N := none) #[true, true, true, true] rfl rfl (by kernel_rfl) (by decide) (fun K hK => ?_)
   obtain ⟨_, _, _, _, _, _, _, _⟩ := e6_ BK660.1
   obtain ⟨_, _, _, _, _, _, _, _⟩ := z5_ BK660.1
   have hns86_0 := NB659_660.1
   have hns86_2 := NB679_660.1
   have hns86_3 := NB692_660.1
   have hms86_0 := NB660_659.1
   have hms86_2 := NB660_679.1
   have hms86_3 := NB660_692.1
   refine skip_ (w1 := ?_) (by rfl) rfl ?_ ?_
   rotate_left
   ·
    go_simp
    rfl
   refine hK.out _ _ (q1m_ (fun e_ => f10_ e_ NB692_660.1) (q1em_ (fun e_ => f10_ e_ NB679_660.1)) hHeld) (fun hHeld => ?_)
   clear hK K
   refine done_ (by kernel_rfl) ?_
   try go_wp2
   refine bodyPost_ret (results_cc rfl _ _ gb659 gb660 41 41 #[.int .i64 t680, .int .i64 t681, .slice Ao25 t682.length co25, .int .i64 t685, .int .i64 t686, .slice Ao74 y699.length co74, .int .i64 t690, .int .i64 t691] #[.int .i64 t665, .int .i64 t666, .slice Ao16 t667.length co16, .int .i64 t670, .int .i64 t671, .slice Ao17 t672.length co17, .int .i64 t675, .int .i64 t676] (0, 0) (0, 0) _ _ rfl (bk_ BK659.1) Try.underlying41 rfl (by kernel_rfl) rfl (bk_ BK660.1) Try.underlying41 rfl (by kernel_rfl)) rfl ?_
   exact ⟨_, _, _, _, rt_, rf_ (R2_ (R2_ HO684.1 BK659.1) BK660.1) (fun _ hk => ⟨hk.1.1.2.2.2, ⟨hk.1.1.1, hk.1.1.2.1⟩⟩), rf_ (R2_ (R2_ HO701.1 BK659.1) BK660.1) (fun _ hk => ⟨hk.1.1.2.2.1, ⟨hk.1.1.1, hk.1.1.2.1⟩⟩), rf_ (R2_ (R2_ HO669.1 BK659.1) BK660.1) (fun _ hk => ⟨hk.1.1.2.1, ⟨hk.1.1.2.2.2, hk.1.1.1⟩⟩), rf_ (R2_ (R2_ HO674.1 BK659.1) BK660.1) (fun _ hk => ⟨hk.1.1.2.1, ⟨hk.1.1.2.2.2, hk.1.1.1⟩⟩), wB_⟩
  ·
   rw [if_neg c50] at H
   have c50b0 := beq_eq_false_iff_ne.mpr c50
   have c50b1 := bne_iff_ne.mpr c50
   by_cases c94 : t693 = 2
   ·
    rw [if_pos c94] at H
    have c94b0 := beq_iff_eq.mpr c94
    have c94b1 := bne_eq_false_iff_eq.mpr c94
    clear c94
    simp only [Option.some.injEq, Prod.mk.injEq] at H
    obtain ⟨rfl, rfl, rfl, rfl, rfl, rfl, rfl, rfl, rfl, rfl, rfl, rfl, rfl, rfl, rfl, rfl⟩ := H
    try go_wp2
    generalize hw_ : (w115.setCell ⟨gb692, 3, none⟩ (.int .i64 1)) = w117
    replace HO669 : Aside0 (Kd.R (Kd.int .i64) 3 w117 w.heap.size (fun k_ => some k_ ≠ (.slice Ao17 t672.length co17 : Value).ownBlock ∧ some k_ ≠ (.slice Ao25 t682.length co25 : Value).ownBlock ∧ some k_ ≠ (.slice Ao26 t687.length co26 : Value).ownBlock) (.slice Ao16 t667.length co16) t667) := ⟨by rw [← hw_]; exact rf_ (R2_ HO669.1 BK692.1) (fun _ hk => ⟨hk.1.1.1, ⟨hk.1.1.2, hk.1.2⟩⟩)⟩
    replace HO674 : Aside0 (Kd.R (Kd.int .i64) 3 w117 w.heap.size (fun k_ => some k_ ≠ (.slice Ao16 t667.length co16 : Value).ownBlock ∧ some k_ ≠ (.slice Ao25 t682.length co25 : Value).ownBlock ∧ some k_ ≠ (.slice Ao26 t687.length co26 : Value).ownBlock) (.slice Ao17 t672.length co17) t672) := ⟨by rw [← hw_]; exact rf_ (R2_ HO674.1 BK692.1) (fun _ hk => ⟨hk.1.1.1, ⟨hk.1.1.2, hk.1.2⟩⟩)⟩
    replace HO684 : Aside0 (Kd.R (Kd.int .i64) 3 w117 w.heap.size (fun k_ => some k_ ≠ (.slice Ao16 t667.length co16 : Value).ownBlock ∧ some k_ ≠ (.slice Ao17 t672.length co17 : Value).ownBlock ∧ some k_ ≠ (.slice Ao26 t687.length co26 : Value).ownBlock) (.slice Ao25 t682.length co25) t682) := ⟨by rw [← hw_]; exact rf_ (R2_ HO684.1 BK692.1) (fun _ hk => ⟨hk.1.1.2, ⟨hk.1.2, hk.1.1.1⟩⟩)⟩
    replace HO689 : Aside0 (Kd.R (Kd.int .i64) 3 w117 w.heap.size (fun k_ => some k_ ≠ (.slice Ao16 t667.length co16 : Value).ownBlock ∧ some k_ ≠ (.slice Ao17 t672.length co17 : Value).ownBlock ∧ some k_ ≠ (.slice Ao25 t682.length co25 : Value).ownBlock) (.slice Ao26 t687.length co26) t687) := ⟨by rw [← hw_]; exact rf_ (R2_ HO689.1 BK692.1) (fun _ hk => ⟨hk.1.1.2, ⟨hk.1.2, hk.1.1.1⟩⟩)⟩
    replace BK659 : Aside0 (w117.heap[gb659]? = some (c7_ 0 0 none 0 0 0 0 none 0 0 0 0)) := ⟨by rw [← hw_]; exact bk_ BK659.1⟩
    replace BK660 : Aside0 (w117.heap[gb660]? = some (c7_ 0 0 none 0 0 0 0 none 0 0 0 0)) := ⟨by rw [← hw_]; exact bk_ BK660.1⟩
    replace BK679 : Aside0 (w117.heap[gb679]? = some (c7_ t665 t666 Ao16 t667.length co16 t670 t671 Ao17 t672.length co17 t675 t676)) := ⟨by rw [← hw_]; exact bk_ BK679.1⟩
    replace BK692 : Aside0 (w117.heap[gb692]? = some (c7_ t680 t681 Ao25 t682.length co25 1 t686 Ao26 t687.length co26 t690 t691)) := ⟨by rw [← hw_]; exact bk_ BK692.1⟩
    replace HI664 : Aside0 (IsS102 w w117 g664 t661 t694 t695) := ⟨by rw [← hw_]; exact (wJ_ HI664.1)⟩
    replace HB : Aside0 (Below w.heap.size w w117) := ⟨by rw [← hw_]; exact wB_⟩
    clear hw_
    replace HO669 := o_ (Kd.R_drew HO669.1)
    replace HO674 := o_ (Kd.R_drew HO674.1)
    replace HO684 := o_ (Kd.R_drew HO684.1)
    replace HO689 := o_ (Kd.R_drew HO689.1)
    replace BK659 := o_ (blk_drew BK659.1)
    replace BK660 := o_ (blk_drew BK660.1)
    replace BK679 := o_ (blk_drew BK679.1)
    replace BK692 := o_ (blk_drew BK692.1)
    replace HI664 := o_ (IsS102.drew HI664.1)
    replace HB := o_ (below_drew1 HB.1)
    refine start_ (n := 4) (S := fun w' => q1_ w' gb692 t680 t681 Ao25 t682.length co25 1 t686 Ao26 t687.length co26 t690 t691 (q1e_ w' gb679 t665 t666 Ao16 t667.length co16 t670 t671 Ao17 t672.length co17 t675 t676)) (ds := []) #[false, false, false, false] (by kernel_rfl) rfl rfl (k1_ BK692.1 (k1e_ BK679.1)) (fun hHeld => ?_)
    generalize w117.drew = w118 at HO669 HO674 HO684 HO689 BK659 BK660 BK679 BK692 HI664 HB hHeld ⊢
    refine take_ (i := 0) (N := some 30) (v := ?_) (a' := ?_) #[true, false, false, false] rfl rfl (by kernel_rfl) (fun _ _ _ h => h) (Or.inl ⟨by rfl, ?_⟩) hHeld ?_ ?_
    rotate_left; · rintro w' ⟨s0, s1, s2, s3, s4, s5, s6, s7, s8, s9, s10, s11, s12, s13, s14, s15⟩; go_simp; with_reducible rfl
    rotate_left; · simp only [Act.put, List.setIfInBounds_toArray, List.set_cons_zero, List.set_cons_succ, i64_w, i32_w]; rfl
    refine take_ (i := 1) (N := some 31) (v := ?_) (a' := ?_) #[true, true, false, false] rfl rfl (by kernel_rfl) (fun _ _ _ h => h) (Or.inl ⟨by rfl, ?_⟩) hHeld ?_ ?_
    rotate_left; · rintro w' ⟨s0, s1, s2, s3, s4, s5, s6, s7, s8, s9, s10, s11, s12, s13, s14, s15⟩; go_simp; with_reducible rfl
    rotate_left; · simp only [Act.put, List.setIfInBounds_toArray, List.set_cons_zero, List.set_cons_succ, i64_w, i32_w]; rfl
    refine one_ (i := 2) (N := none) #[true, true, true, false] rfl rfl (by kernel_rfl) (by decide) (fun K hK => ?_)
    obtain ⟨_, _, _, _, _, _, _, _⟩ := e6_ BK659.1
    obtain ⟨_, _, _, _, _, _, _, _⟩ := z5_ BK659.1
    have hns119_1 := NB660_659.1
    have hns119_2 := NB679_659.1
    have hns119_3 := NB692_659.1
    have hms119_1 := NB659_660.1
    have hms119_2 := NB659_679.1
    have hms119_3 := NB659_692.1
    refine skip_ (w1 := ?_) (by rfl) rfl ?_ ?_
    rotate_left
    ·
     go_simp
     rfl
    generalize hw_ : ((((((((w118.setCell ⟨gb659, 0, none⟩ (.int .i64 t680)).setCell ⟨gb659, 1, none⟩ (.int .i64 t681)).setCell ⟨gb659, 2, none⟩ (.slice Ao25 t682.length co25)).setCell ⟨gb659, 3, none⟩ (.int .i64 1)).setCell ⟨gb659, 4, none⟩ (.int .i64 t686)).setCell ⟨gb659, 5, none⟩ (.slice Ao26 t687.length co26)).setCell ⟨gb659, 6, none⟩ (.int .i64 t690)).setCell ⟨gb659, 7, none⟩ (.int .i64 t691)) = w118s_
    replace HO669 := o_ (gwR_ hw_ (rf_ (R2_ HO669.1 BK659.1) (fun _ h_ => h_.1)))
    replace HO674 := o_ (gwR_ hw_ (rf_ (R2_ HO674.1 BK659.1) (fun _ h_ => h_.1)))
    replace HO684 := o_ (gwR_ hw_ (rf_ (R2_ HO684.1 BK659.1) (fun _ h_ => h_.1)))
    replace HO689 := o_ (gwR_ hw_ (rf_ (R2_ HO689.1 BK659.1) (fun _ h_ => h_.1)))
    replace HI664 := o_ (Eq.subst (motive := fun W_ => IsS102 _ W_ _ _ _ _) hw_ (isf8_ HI664.1 NB664_659.1))
    replace HB : Aside0 (Below w.heap.size w w118s_) := ⟨by rw [← hw_]; exact wB_⟩
    replace BK659 : Aside0 (w118s_.heap[gb659]? = some (c7_ t680 t681 Ao25 t682.length co25 1 t686 Ao26 t687.length co26 t690 t691)) := ⟨by rw [← hw_]; exact bk_ BK659.1⟩
    replace BK660 : Aside0 (w118s_.heap[gb660]? = some (c7_ 0 0 none 0 0 0 0 none 0 0 0 0)) := ⟨by rw [← hw_]; exact bk_ BK660.1⟩
    replace BK692 : Aside0 (w118s_.heap[gb692]? = some (c7_ t680 t681 Ao25 t682.length co25 1 t686 Ao26 t687.length co26 t690 t691)) := ⟨by rw [← hw_]; exact bk_ BK692.1⟩
    replace BK679 : Aside0 (w118s_.heap[gb679]? = some (c7_ t665 t666 Ao16 t667.length co16 t670 t671 Ao17 t672.length co17 t675 t676)) := ⟨by rw [← hw_]; exact bk_ BK679.1⟩
    clear hw_ hHeld
    refine hK.out _ _ (k1_ BK692.1 (k1e_ BK679.1)) (fun hHeld => ?_)
    clear hK K
    refine one_ (i := 3) (N := none) #[true, true, true, true] rfl rfl (by kernel_rfl) (by decide) (fun K hK => ?_)
    obtain ⟨_, _, _, _, _, _, _, _⟩ := e6_ BK660.1
    obtain ⟨_, _, _, _, _, _, _, _⟩ := z5_ BK660.1
    have hns127_0 := NB659_660.1
    have hns127_2 := NB679_660.1
    have hns127_3 := NB692_660.1
    have hms127_0 := NB660_659.1
    have hms127_2 := NB660_679.1
    have hms127_3 := NB660_692.1
    refine skip_ (w1 := ?_) (by rfl) rfl ?_ ?_
    rotate_left
    ·
     go_simp
     rfl
    refine hK.out _ _ (q1m_ (fun e_ => f10_ e_ NB692_660.1) (q1em_ (fun e_ => f10_ e_ NB679_660.1)) hHeld) (fun hHeld => ?_)
    clear hK K
    refine done_ (by kernel_rfl) ?_
    try go_wp2
    refine bodyPost_ret (results_cc rfl _ _ gb659 gb660 41 41 #[.int .i64 t680, .int .i64 t681, .slice Ao25 t682.length co25, .int .i64 1, .int .i64 t686, .slice Ao26 t687.length co26, .int .i64 t690, .int .i64 t691] #[.int .i64 t665, .int .i64 t666, .slice Ao16 t667.length co16, .int .i64 t670, .int .i64 t671, .slice Ao17 t672.length co17, .int .i64 t675, .int .i64 t676] (0, 0) (0, 0) _ _ rfl (bk_ BK659.1) Try.underlying41 rfl (by kernel_rfl) rfl (bk_ BK660.1) Try.underlying41 rfl (by kernel_rfl)) rfl ?_
    exact ⟨_, _, _, _, rt_, rf_ (R2_ (R2_ HO684.1 BK659.1) BK660.1) (fun _ hk => ⟨hk.1.1.2.2, ⟨hk.1.1.1, hk.1.1.2.1⟩⟩), rf_ (R2_ (R2_ HO689.1 BK659.1) BK660.1) (fun _ hk => ⟨hk.1.1.2.2, ⟨hk.1.1.1, hk.1.1.2.1⟩⟩), rf_ (R2_ (R2_ HO669.1 BK659.1) BK660.1) (fun _ hk => ⟨hk.1.1.2.1, ⟨hk.1.1.2.2, hk.1.1.1⟩⟩), rf_ (R2_ (R2_ HO674.1 BK659.1) BK660.1) (fun _ hk => ⟨hk.1.1.2.1, ⟨hk.1.1.2.2, hk.1.1.1⟩⟩), wB_⟩
   ·
    rw [if_neg c94] at H
    have c94b0 := beq_eq_false_iff_ne.mpr c94
    have c94b1 := bne_iff_ne.mpr c94
    by_cases c135 : t693 = 3
    ·
     rw [if_pos c135] at H
     have c135b0 := beq_iff_eq.mpr c135
     have c135b1 := bne_eq_false_iff_eq.mpr c135
     clear c135
     obtain ⟨⟨t702, t703, t704, t707, t708, t709, t712, t713, t714, t715⟩, A136, H⟩ := ob_ H
     try dsimp only at H
     simp only [Option.some.injEq, Prod.mk.injEq] at H
     obtain ⟨rfl, rfl, rfl, rfl, rfl, rfl, rfl, rfl, rfl, rfl, rfl, rfl, rfl, rfl, rfl, rfl⟩ := H
     try go_wp2_with (first | ((with_reducible refine g_ 89 ?_); refine gl_ (some 29) Try.func89 #[.pointer (some ⟨g664, 0, none⟩)] ?_; (with_reducible refine (spec_l7Any.calls k g664 t661 t694 t695 t702 t703 t704 t707 t708 t709 t712 t713 t714 t715 w _ (wJ_ HI664.1) wB_ A136.1).mono ?_); rintro e w158 ⟨v705, v710, rfl, ho0, ho1, hi, hb, hk⟩; refine ⟨_, rfl, ?_⟩; replace BK659 := o_ (KeepBut.blk hk (g' := gb659) (o := c7_ 0 0 none 0 0 0 0 none 0 0 0 0) (bd_ BK659.1) NB659_664.1 (by simp)); replace BK660 := o_ (KeepBut.blk hk (g' := gb660) (o := c7_ 0 0 none 0 0 0 0 none 0 0 0 0) (bd_ BK660.1) NB660_664.1 (by simp)); replace BK679 := o_ (KeepBut.blk hk (g' := gb679) (o := c7_ t665 t666 Ao16 t667.length co16 t670 t671 Ao17 t672.length co17 t675 t676) (bd_ BK679.1) NB679_664.1 (by simp)); replace BK692 := o_ (KeepBut.blk hk (g' := gb692) (o := c7_ t680 t681 Ao25 t682.length co25 t685 t686 Ao26 t687.length co26 t690 t691) (bd_ BK692.1) NB692_664.1 (by simp)); have HO706 := o_ (Kd.R_lower (Kd.R_new' (Kd.R_new' (Kd.R_new' (Kd.R_new' ho0 (Kd.R_lt (rd_ HO669.1))) (Kd.R_lt (rd_ HO674.1))) (Kd.R_lt (rd_ HO684.1))) (Kd.R_lt (rd_ HO689.1))) (below_size (wB_))); have HO711 := o_ (Kd.R_lower (Kd.R_new' (Kd.R_new' (Kd.R_new' (Kd.R_new' ho1 (Kd.R_lt (rd_ HO669.1))) (Kd.R_lt (rd_ HO674.1))) (Kd.R_lt (rd_ HO684.1))) (Kd.R_lt (rd_ HO689.1))) (below_size (wB_))); replace HO669 := o_ (Kd.R_mono (Kd.R_told (Kd.R_told (Kd.R_oldK (IsS102.apart (show IsS102 w _ g664 t661 t694 t695 from (wJ_ HI664.1)) (rd_ HO669.1) (by decide)) hk) (Kd.R_base ho0)) (Kd.R_base ho1)) (fun _ h_ => h_.1)); replace HO674 := o_ (Kd.R_mono (Kd.R_told (Kd.R_told (Kd.R_oldK (IsS102.apart (show IsS102 w _ g664 t661 t694 t695 from (wJ_ HI664.1)) (rd_ HO674.1) (by decide)) hk) (Kd.R_base ho0)) (Kd.R_base ho1)) (fun _ h_ => h_.1)); replace HO684 := o_ (Kd.R_mono (Kd.R_told (Kd.R_told (Kd.R_oldK (IsS102.apart (show IsS102 w _ g664 t661 t694 t695 from (wJ_ HI664.1)) (rd_ HO684.1) (by decide)) hk) (Kd.R_base ho0)) (Kd.R_base ho1)) (fun _ h_ => h_.1)); replace HO689 := o_ (Kd.R_mono (Kd.R_told (Kd.R_told (Kd.R_oldK (IsS102.apart (show IsS102 w _ g664 t661 t694 t695 from (wJ_ HI664.1)) (rd_ HO689.1) (by decide)) hk) (Kd.R_base ho0)) (Kd.R_base ho1)) (fun _ h_ => h_.1)); replace HB := o_ (hb); replace HI664 := o_ (hi); (try clear hb hk hi ho0 ho1); obtain ⟨_, _, _, _, _, _, _, _⟩ := e6_ BK692.1; obtain ⟨_, _, _, _, _, _, _, _⟩ := z5_ BK692.1; obtain ⟨Ao160, co160, eo160⟩ := Kd.R_slice HO706.1; subst eo160; obtain ⟨Ao161, co161, eo161⟩ := Kd.R_slice HO711.1; subst eo161))
     generalize hw_ : ((((((((w158.setCell ⟨gb692, 0, none⟩ (.int .i64 t702)).setCell ⟨gb692, 1, none⟩ (.int .i64 t703)).setCell ⟨gb692, 2, none⟩ (.slice Ao160 t704.length co160)).setCell ⟨gb692, 3, none⟩ (.int .i64 t707)).setCell ⟨gb692, 4, none⟩ (.int .i64 t708)).setCell ⟨gb692, 5, none⟩ (.slice Ao161 t709.length co161)).setCell ⟨gb692, 6, none⟩ (.int .i64 t712)).setCell ⟨gb692, 7, none⟩ (.int .i64 t713)) = w162
     replace HO669 : Aside0 (Kd.R (Kd.int .i64) 3 w162 w.heap.size (fun k_ => some k_ ≠ (.slice Ao17 t672.length co17 : Value).ownBlock ∧ some k_ ≠ (.slice Ao25 t682.length co25 : Value).ownBlock ∧ some k_ ≠ (.slice Ao26 t687.length co26 : Value).ownBlock ∧ some k_ ≠ (.slice Ao160 t704.length co160 : Value).ownBlock ∧ some k_ ≠ (.slice Ao161 t709.length co161 : Value).ownBlock) (.slice Ao16 t667.length co16) t667) := ⟨by rw [← hw_]; exact rf_ (R2_ HO669.1 BK692.1) (fun _ hk => ⟨hk.1.1.1.1.1, ⟨hk.1.1.1.1.2, ⟨hk.1.1.1.2, ⟨hk.1.1.2, hk.1.2⟩⟩⟩⟩)⟩
     replace HO674 : Aside0 (Kd.R (Kd.int .i64) 3 w162 w.heap.size (fun k_ => some k_ ≠ (.slice Ao16 t667.length co16 : Value).ownBlock ∧ some k_ ≠ (.slice Ao25 t682.length co25 : Value).ownBlock ∧ some k_ ≠ (.slice Ao26 t687.length co26 : Value).ownBlock ∧ some k_ ≠ (.slice Ao160 t704.length co160 : Value).ownBlock ∧ some k_ ≠ (.slice Ao161 t709.length co161 : Value).ownBlock) (.slice Ao17 t672.length co17) t672) := ⟨by rw [← hw_]; exact rf_ (R2_ HO674.1 BK692.1) (fun _ hk => ⟨hk.1.1.1.1.1, ⟨hk.1.1.1.1.2, ⟨hk.1.1.1.2, ⟨hk.1.1.2, hk.1.2⟩⟩⟩⟩)⟩
     replace HO684 : Aside0 (Kd.R (Kd.int .i64) 3 w162 w.heap.size (fun k_ => some k_ ≠ (.slice Ao16 t667.length co16 : Value).ownBlock ∧ some k_ ≠ (.slice Ao17 t672.length co17 : Value).ownBlock ∧ some k_ ≠ (.slice Ao26 t687.length co26 : Value).ownBlock ∧ some k_ ≠ (.slice Ao160 t704.length co160 : Value).ownBlock ∧ some k_ ≠ (.slice Ao161 t709.length co161 : Value).ownBlock) (.slice Ao25 t682.length co25) t682) := ⟨by rw [← hw_]; exact rf_ (R2_ HO684.1 BK692.1) (fun _ hk => ⟨hk.1.1.1.1.2, ⟨hk.1.1.1.2, ⟨hk.1.1.1.1.1, ⟨hk.1.1.2, hk.1.2⟩⟩⟩⟩)⟩
     replace HO689 : Aside0 (Kd.R (Kd.int .i64) 3 w162 w.heap.size (fun k_ => some k_ ≠ (.slice Ao16 t667.length co16 : Value).ownBlock ∧ some k_ ≠ (.slice Ao17 t672.length co17 : Value).ownBlock ∧ some k_ ≠ (.slice Ao25 t682.length co25 : Value).ownBlock ∧ some k_ ≠ (.slice Ao160 t704.length co160 : Value).ownBlock ∧ some k_ ≠ (.slice Ao161 t709.length co161 : Value).ownBlock) (.slice Ao26 t687.length co26) t687) := ⟨by rw [← hw_]; exact rf_ (R2_ HO689.1 BK692.1) (fun _ hk => ⟨hk.1.1.1.1.2, ⟨hk.1.1.1.2, ⟨hk.1.1.1.1.1, ⟨hk.1.1.2, hk.1.2⟩⟩⟩⟩)⟩
     replace HO706 : Aside0 (Kd.R (Kd.int .i64) 3 w162 w.heap.size (fun k_ => some k_ ≠ (.slice Ao16 t667.length co16 : Value).ownBlock ∧ some k_ ≠ (.slice Ao17 t672.length co17 : Value).ownBlock ∧ some k_ ≠ (.slice Ao25 t682.length co25 : Value).ownBlock ∧ some k_ ≠ (.slice Ao26 t687.length co26 : Value).ownBlock ∧ some k_ ≠ (.slice Ao161 t709.length co161 : Value).ownBlock) (.slice Ao160 t704.length co160) t704) := ⟨by rw [← hw_]; exact rf_ (R2_ HO706.1 BK692.1) (fun _ hk => ⟨hk.1.1.1.1.2, ⟨hk.1.1.1.2, ⟨hk.1.1.2, ⟨hk.1.2, hk.1.1.1.1.1⟩⟩⟩⟩)⟩
     replace HO711 : Aside0 (Kd.R (Kd.int .i64) 3 w162 w.heap.size (fun k_ => some k_ ≠ (.slice Ao16 t667.length co16 : Value).ownBlock ∧ some k_ ≠ (.slice Ao17 t672.length co17 : Value).ownBlock ∧ some k_ ≠ (.slice Ao25 t682.length co25 : Value).ownBlock ∧ some k_ ≠ (.slice Ao26 t687.length co26 : Value).ownBlock ∧ some k_ ≠ (.slice Ao160 t704.length co160 : Value).ownBlock) (.slice Ao161 t709.length co161) t709) := ⟨by rw [← hw_]; exact rf_ (R2_ HO711.1 BK692.1) (fun _ hk => ⟨hk.1.1.1.1.2, ⟨hk.1.1.1.2, ⟨hk.1.1.2, ⟨hk.1.2, hk.1.1.1.1.1⟩⟩⟩⟩)⟩
     replace BK659 : Aside0 (w162.heap[gb659]? = some (c7_ 0 0 none 0 0 0 0 none 0 0 0 0)) := ⟨by rw [← hw_]; exact bk_ BK659.1⟩
     replace BK660 : Aside0 (w162.heap[gb660]? = some (c7_ 0 0 none 0 0 0 0 none 0 0 0 0)) := ⟨by rw [← hw_]; exact bk_ BK660.1⟩
     replace BK679 : Aside0 (w162.heap[gb679]? = some (c7_ t665 t666 Ao16 t667.length co16 t670 t671 Ao17 t672.length co17 t675 t676)) := ⟨by rw [← hw_]; exact bk_ BK679.1⟩
     replace BK692 : Aside0 (w162.heap[gb692]? = some (c7_ t702 t703 Ao160 t704.length co160 t707 t708 Ao161 t709.length co161 t712 t713)) := ⟨by rw [← hw_]; exact bk_ BK692.1⟩
     replace HI664 : Aside0 (IsS102 w w162 g664 t661 t714 t715) := ⟨by rw [← hw_]; exact (wJ_ HI664.1)⟩
     replace HB : Aside0 (Below w.heap.size w w162) := ⟨by rw [← hw_]; exact wB_⟩
     clear hw_
     replace HO669 := o_ (Kd.R_drew HO669.1)
     replace HO674 := o_ (Kd.R_drew HO674.1)
     replace HO684 := o_ (Kd.R_drew HO684.1)
     replace HO689 := o_ (Kd.R_drew HO689.1)
     replace HO706 := o_ (Kd.R_drew HO706.1)
     replace HO711 := o_ (Kd.R_drew HO711.1)
     replace BK659 := o_ (blk_drew BK659.1)
     replace BK660 := o_ (blk_drew BK660.1)
     replace BK679 := o_ (blk_drew BK679.1)
     replace BK692 := o_ (blk_drew BK692.1)
     replace HI664 := o_ (IsS102.drew HI664.1)
     replace HB := o_ (below_drew1 HB.1)
     refine start_ (n := 4) (S := fun w' => q1_ w' gb692 t702 t703 Ao160 t704.length co160 t707 t708 Ao161 t709.length co161 t712 t713 (q1e_ w' gb679 t665 t666 Ao16 t667.length co16 t670 t671 Ao17 t672.length co17 t675 t676)) (ds := []) #[false, false, false, false] (by kernel_rfl) rfl rfl (k1_ BK692.1 (k1e_ BK679.1)) (fun hHeld => ?_)
     generalize w162.drew = w163 at HO669 HO674 HO684 HO689 HO706 HO711 BK659 BK660 BK679 BK692 HI664 HB hHeld ⊢
     refine take_ (i := 0) (N := some 30) (v := ?_) (a' := ?_) #[true, false, false, false] rfl rfl (by kernel_rfl) (fun _ _ _ h => h) (Or.inl ⟨by rfl, ?_⟩) hHeld ?_ ?_
     rotate_left; · rintro w' ⟨s0, s1, s2, s3, s4, s5, s6, s7, s8, s9, s10, s11, s12, s13, s14, s15⟩; go_simp; with_reducible rfl
     rotate_left; · simp only [Act.put, List.setIfInBounds_toArray, List.set_cons_zero, List.set_cons_succ, i64_w, i32_w]; rfl
     refine take_ (i := 1) (N := some 31) (v := ?_) (a' := ?_) #[true, true, false, false] rfl rfl (by kernel_rfl) (fun _ _ _ h => h) (Or.inl ⟨by rfl, ?_⟩) hHeld ?_ ?_
     rotate_left; · rintro w' ⟨s0, s1, s2, s3, s4, s5, s6, s7, s8, s9, s10, s11, s12, s13, s14, s15⟩; go_simp; with_reducible rfl
     rotate_left; · simp only [Act.put, List.setIfInBounds_toArray, List.set_cons_zero, List.set_cons_succ, i64_w, i32_w]; rfl
     refine one_ (i := 2) (N := none) #[true, true, true, false] rfl rfl (by kernel_rfl) (by decide) (fun K hK => ?_)
     obtain ⟨_, _, _, _, _, _, _, _⟩ := e6_ BK659.1
     obtain ⟨_, _, _, _, _, _, _, _⟩ := z5_ BK659.1
     have hns164_1 := NB660_659.1
     have hns164_2 := NB679_659.1
     have hns164_3 := NB692_659.1
     have hms164_1 := NB659_660.1
     have hms164_2 := NB659_679.1
     have hms164_3 := NB659_692.1
     refine skip_ (w1 := ?_) (by rfl) rfl ?_ ?_
     rotate_left
     ·
      go_simp
      rfl
     generalize hw_ : ((((((((w163.setCell ⟨gb659, 0, none⟩ (.int .i64 t702)).setCell ⟨gb659, 1, none⟩ (.int .i64 t703)).setCell ⟨gb659, 2, none⟩ (.slice Ao160 t704.length co160)).setCell ⟨gb659, 3, none⟩ (.int .i64 t707)).setCell ⟨gb659, 4, none⟩ (.int .i64 t708)).setCell ⟨gb659, 5, none⟩ (.slice Ao161 t709.length co161)).setCell ⟨gb659, 6, none⟩ (.int .i64 t712)).setCell ⟨gb659, 7, none⟩ (.int .i64 t713)) = w163s_
     replace HO669 := o_ (gwR_ hw_ (rf_ (R2_ HO669.1 BK659.1) (fun _ h_ => h_.1)))
     replace HO674 := o_ (gwR_ hw_ (rf_ (R2_ HO674.1 BK659.1) (fun _ h_ => h_.1)))
     replace HO706 := o_ (gwR_ hw_ (rf_ (R2_ HO706.1 BK659.1) (fun _ h_ => h_.1)))
     replace HO711 := o_ (gwR_ hw_ (rf_ (R2_ HO711.1 BK659.1) (fun _ h_ => h_.1)))
     replace HI664 := o_ (Eq.subst (motive := fun W_ => IsS102 _ W_ _ _ _ _) hw_ (isf8_ HI664.1 NB664_659.1))
     replace HB : Aside0 (Below w.heap.size w w163s_) := ⟨by rw [← hw_]; exact wB_⟩
     replace BK659 : Aside0 (w163s_.heap[gb659]? = some (c7_ t702 t703 Ao160 t704.length co160 t707 t708 Ao161 t709.length co161 t712 t713)) := ⟨by rw [← hw_]; exact bk_ BK659.1⟩
     replace BK660 : Aside0 (w163s_.heap[gb660]? = some (c7_ 0 0 none 0 0 0 0 none 0 0 0 0)) := ⟨by rw [← hw_]; exact bk_ BK660.1⟩
     replace BK692 : Aside0 (w163s_.heap[gb692]? = some (c7_ t702 t703 Ao160 t704.length co160 t707 t708 Ao161 t709.length co161 t712 t713)) := ⟨by rw [← hw_]; exact bk_ BK692.1⟩
     replace BK679 : Aside0 (w163s_.heap[gb679]? = some (c7_ t665 t666 Ao16 t667.length co16 t670 t671 Ao17 t672.length co17 t675 t676)) := ⟨by rw [← hw_]; exact bk_ BK679.1⟩
     clear hw_ hHeld
     refine hK.out _ _ (k1_ BK692.1 (k1e_ BK679.1)) (fun hHeld => ?_)
     clear hK K
     refine one_ (i := 3) (N := none) #[true, true, true, true] rfl rfl (by kernel_rfl) (by decide) (fun K hK => ?_)
     obtain ⟨_, _, _, _, _, _, _, _⟩ := e6_ BK660.1
     obtain ⟨_, _, _, _, _, _, _, _⟩ := z5_ BK660.1
     have hns172_0 := NB659_660.1
     have hns172_2 := NB679_660.1
     have hns172_3 := NB692_660.1
     have hms172_0 := NB660_659.1
     have hms172_2 := NB660_679.1
     have hms172_3 := NB660_692.1
     refine skip_ (w1 := ?_) (by rfl) rfl ?_ ?_
     rotate_left
     ·
      go_simp
      rfl
     refine hK.out _ _ (q1m_ (fun e_ => f10_ e_ NB692_660.1) (q1em_ (fun e_ => f10_ e_ NB679_660.1)) hHeld) (fun hHeld => ?_)
     clear hK K
     refine done_ (by kernel_rfl) ?_
     try go_wp2
     refine bodyPost_ret (results_cc rfl _ _ gb659 gb660 41 41 #[.int .i64 t702, .int .i64 t703, .slice Ao160 t704.length co160, .int .i64 t707, .int .i64 t708, .slice Ao161 t709.length co161, .int .i64 t712, .int .i64 t713] #[.int .i64 t665, .int .i64 t666, .slice Ao16 t667.length co16, .int .i64 t670, .int .i64 t671, .slice Ao17 t672.length co17, .int .i64 t675, .int .i64 t676] (0, 0) (0, 0) _ _ rfl (bk_ BK659.1) Try.underlying41 rfl (by kernel_rfl) rfl (bk_ BK660.1) Try.underlying41 rfl (by kernel_rfl)) rfl ?_
     exact ⟨_, _, _, _, rt_, rf_ (R2_ (R2_ HO706.1 BK659.1) BK660.1) (fun _ hk => ⟨hk.1.1.2.2.2.2, ⟨hk.1.1.1, hk.1.1.2.1⟩⟩), rf_ (R2_ (R2_ HO711.1 BK659.1) BK660.1) (fun _ hk => ⟨hk.1.1.2.2.2.2, ⟨hk.1.1.1, hk.1.1.2.1⟩⟩), rf_ (R2_ (R2_ HO669.1 BK659.1) BK660.1) (fun _ hk => ⟨hk.1.1.2.2.2.1, ⟨hk.1.1.2.2.2.2, hk.1.1.1⟩⟩), rf_ (R2_ (R2_ HO674.1 BK659.1) BK660.1) (fun _ hk => ⟨hk.1.1.2.2.2.1, ⟨hk.1.1.2.2.2.2, hk.1.1.1⟩⟩), wB_⟩
    ·
     rw [if_neg c135] at H
     have c135b0 := beq_eq_false_iff_ne.mpr c135
     have c135b1 := bne_iff_ne.mpr c135
     simp only [Option.some.injEq, Prod.mk.injEq] at H
     obtain ⟨rfl, rfl, rfl, rfl, rfl, rfl, rfl, rfl, rfl, rfl, rfl, rfl, rfl, rfl, rfl, rfl⟩ := H
     try go_wp2
     replace HO669 := o_ (Kd.R_drew HO669.1)
     replace HO674 := o_ (Kd.R_drew HO674.1)
     replace HO684 := o_ (Kd.R_drew HO684.1)
     replace HO689 := o_ (Kd.R_drew HO689.1)
     replace BK659 := o_ (blk_drew BK659.1)
     replace BK660 := o_ (blk_drew BK660.1)
     replace BK679 := o_ (blk_drew BK679.1)
     replace BK692 := o_ (blk_drew BK692.1)
     replace HI664 := o_ (IsS102.drew HI664.1)
     replace HB := o_ (below_drew1 HB.1)
     refine start_ (n := 4) (S := fun w' => q1_ w' gb692 t680 t681 Ao25 t682.length co25 t685 t686 Ao26 t687.length co26 t690 t691 (q1e_ w' gb679 t665 t666 Ao16 t667.length co16 t670 t671 Ao17 t672.length co17 t675 t676)) (ds := []) #[false, false, false, false] (by kernel_rfl) rfl rfl (k1_ BK692.1 (k1e_ BK679.1)) (fun hHeld => ?_)
     generalize w115.drew = w201 at HO669 HO674 HO684 HO689 BK659 BK660 BK679 BK692 HI664 HB hHeld ⊢
     refine take_ (i := 0) (N := some 30) (v := ?_) (a' := ?_) #[true, false, false, false] rfl rfl (by kernel_rfl) (fun _ _ _ h => h) (Or.inl ⟨by rfl, ?_⟩) hHeld ?_ ?_
     rotate_left; · rintro w' ⟨s0, s1, s2, s3, s4, s5, s6, s7, s8, s9, s10, s11, s12, s13, s14, s15⟩; go_simp; with_reducible rfl
     rotate_left; · simp only [Act.put, List.setIfInBounds_toArray, List.set_cons_zero, List.set_cons_succ, i64_w, i32_w]; rfl
     refine take_ (i := 1) (N := some 31) (v := ?_) (a' := ?_) #[true, true, false, false] rfl rfl (by kernel_rfl) (fun _ _ _ h => h) (Or.inl ⟨by rfl, ?_⟩) hHeld ?_ ?_
     rotate_left; · rintro w' ⟨s0, s1, s2, s3, s4, s5, s6, s7, s8, s9, s10, s11, s12, s13, s14, s15⟩; go_simp; with_reducible rfl
     rotate_left; · simp only [Act.put, List.setIfInBounds_toArray, List.set_cons_zero, List.set_cons_succ, i64_w, i32_w]; rfl
     refine one_ (i := 2) (N := none) #[true, true, true, false] rfl rfl (by kernel_rfl) (by decide) (fun K hK => ?_)
     obtain ⟨_, _, _, _, _, _, _, _⟩ := e6_ BK659.1
     obtain ⟨_, _, _, _, _, _, _, _⟩ := z5_ BK659.1
     have hns202_1 := NB660_659.1
     have hns202_2 := NB679_659.1
     have hns202_3 := NB692_659.1
     have hms202_1 := NB659_660.1
     have hms202_2 := NB659_679.1
     have hms202_3 := NB659_692.1
     refine skip_ (w1 := ?_) (by rfl) rfl ?_ ?_
     rotate_left
     ·
      go_simp
      rfl
     generalize hw_ : ((((((((w201.setCell ⟨gb659, 0, none⟩ (.int .i64 t680)).setCell ⟨gb659, 1, none⟩ (.int .i64 t681)).setCell ⟨gb659, 2, none⟩ (.slice Ao25 t682.length co25)).setCell ⟨gb659, 3, none⟩ (.int .i64 t685)).setCell ⟨gb659, 4, none⟩ (.int .i64 t686)).setCell ⟨gb659, 5, none⟩ (.slice Ao26 t687.length co26)).setCell ⟨gb659, 6, none⟩ (.int .i64 t690)).setCell ⟨gb659, 7, none⟩ (.int .i64 t691)) = w201s_
     replace HO669 := o_ (gwR_ hw_ (rf_ (R2_ HO669.1 BK659.1) (fun _ h_ => h_.1)))
     replace HO674 := o_ (gwR_ hw_ (rf_ (R2_ HO674.1 BK659.1) (fun _ h_ => h_.1)))
     replace HO684 := o_ (gwR_ hw_ (rf_ (R2_ HO684.1 BK659.1) (fun _ h_ => h_.1)))
     replace HO689 := o_ (gwR_ hw_ (rf_ (R2_ HO689.1 BK659.1) (fun _ h_ => h_.1)))
     replace HI664 := o_ (Eq.subst (motive := fun W_ => IsS102 _ W_ _ _ _ _) hw_ (isf8_ HI664.1 NB664_659.1))
     replace HB : Aside0 (Below w.heap.size w w201s_) := ⟨by rw [← hw_]; exact wB_⟩
     replace BK659 : Aside0 (w201s_.heap[gb659]? = some (c7_ t680 t681 Ao25 t682.length co25 t685 t686 Ao26 t687.length co26 t690 t691)) := ⟨by rw [← hw_]; exact bk_ BK659.1⟩
     replace BK660 : Aside0 (w201s_.heap[gb660]? = some (c7_ 0 0 none 0 0 0 0 none 0 0 0 0)) := ⟨by rw [← hw_]; exact bk_ BK660.1⟩
     replace BK692 : Aside0 (w201s_.heap[gb692]? = some (c7_ t680 t681 Ao25 t682.length co25 t685 t686 Ao26 t687.length co26 t690 t691)) := ⟨by rw [← hw_]; exact bk_ BK692.1⟩
     replace BK679 : Aside0 (w201s_.heap[gb679]? = some (c7_ t665 t666 Ao16 t667.length co16 t670 t671 Ao17 t672.length co17 t675 t676)) := ⟨by rw [← hw_]; exact bk_ BK679.1⟩
     clear hw_ hHeld
     refine hK.out _ _ (k1_ BK692.1 (k1e_ BK679.1)) (fun hHeld => ?_)
     clear hK K
     refine one_ (i := 3) (N := none) #[true, true, true, true] rfl rfl (by kernel_rfl) (by decide) (fun K hK => ?_)
     obtain ⟨_, _, _, _, _, _, _, _⟩ := e6_ BK660.1
     obtain ⟨_, _, _, _, _, _, _, _⟩ := z5_ BK660.1
     have hns210_0 := NB659_660.1
     have hns210_2 := NB679_660.1
     have hns210_3 := NB692_660.1
     have hms210_0 := NB660_659.1
     have hms210_2 := NB660_679.1
     have hms210_3 := NB660_692.1
     refine skip_ (w1 := ?_) (by rfl) rfl ?_ ?_
     rotate_left
     ·
      go_simp
      rfl
     refine hK.out _ _ (q1m_ (fun e_ => f10_ e_ NB692_660.1) (q1em_ (fun e_ => f10_ e_ NB679_660.1)) hHeld) (fun hHeld => ?_)
     clear hK K
     refine done_ (by kernel_rfl) ?_
     try go_wp2
     refine bodyPost_ret (results_cc rfl _ _ gb659 gb660 41 41 #[.int .i64 t680, .int .i64 t681, .slice Ao25 t682.length co25, .int .i64 t685, .int .i64 t686, .slice Ao26 t687.length co26, .int .i64 t690, .int .i64 t691] #[.int .i64 t665, .int .i64 t666, .slice Ao16 t667.length co16, .int .i64 t670, .int .i64 t671, .slice Ao17 t672.length co17, .int .i64 t675, .int .i64 t676] (0, 0) (0, 0) _ _ rfl (bk_ BK659.1) Try.underlying41 rfl (by kernel_rfl) rfl (bk_ BK660.1) Try.underlying41 rfl (by kernel_rfl)) rfl ?_
     exact ⟨_, _, _, _, rt_, rf_ (R2_ (R2_ HO684.1 BK659.1) BK660.1) (fun _ hk => ⟨hk.1.1.1.1, ⟨hk.1.1.1.2, hk.1.1.2⟩⟩), rf_ (R2_ (R2_ HO689.1 BK659.1) BK660.1) (fun _ hk => ⟨hk.1.1.1.1, ⟨hk.1.1.1.2, hk.1.1.2⟩⟩), rf_ (R2_ (R2_ HO669.1 BK659.1) BK660.1) (fun _ hk => ⟨hk.1.1.1.2, ⟨hk.1.1.2, hk.1.1.1.1⟩⟩), rf_ (R2_ (R2_ HO674.1 BK659.1) BK660.1) (fun _ hk => ⟨hk.1.1.1.2, ⟨hk.1.1.2, hk.1.1.1.1⟩⟩), wB_⟩

end Go.Proofs.Ytglpmjcknhcjcaa.PFnTwins
