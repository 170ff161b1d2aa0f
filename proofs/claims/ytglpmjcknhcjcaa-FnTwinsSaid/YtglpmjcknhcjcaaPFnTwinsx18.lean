-- Written for this claim by a program (a printer turned to this claim); Lean checks it.
import Derived.Test.YtglpmjcknhcjcaaPFnTwinsx0
import Derived.Test.YtglpmjcknhcjcaaPFnTwinsx12
import Derived.Test.YtglpmjcknhcjcaaPFnTwinsx15
import Derived.Test.YtglpmjcknhcjcaaPFnTwinsx16
import Derived.Test.YtglpmjcknhcjcaaPFnTwinsx17
namespace Go.Proofs.Ytglpmjcknhcjcaa.PFnTwins
open Go.RowKit Go.Proofs.YtglpmjcknhcjcaaW.PrintWords Go.Proofs.YtglpmjcknhcjcaaW.PrintLast Go.Proofs.YtglpmjcknhcjcaaW.PrintMore
attribute [local go_sem] max2_int min2_int max_two min_two max_three min_three max_four min_four   -- for this text's walks alone
set_option linter.unusedVariables false
set_option linter.unusedSimpArgs false

/-! ### spec_DrawSharpen: function 63 -/
def spec_DrawSharpen.f (k : Nat) (l0 : List Int) : Option (Int × Int × List Int × Int × Int × List Int × Int × Int × Int × Int × List Int × Int × Int × List Int × Int × Int) := (spec_DrawIsWider.f k l0).bind fun bt718 => ((spec_l1New.f k l0).bind fun bt744 => ((spec_l1Once.f bt744.1 bt744.2.1 bt744.2.2 2).bind fun bt748 => (if bt748.1 = true then ((spec_l7Any.f k bt744.1 bt748.2.1 bt748.2.2).bind fun bt751 => (some (bt718.1, bt718.2.1, bt718.2.2.1, bt718.2.2.2.1, bt718.2.2.2.2.1, bt718.2.2.2.2.2.1, bt718.2.2.2.2.2.2.1, bt718.2.2.2.2.2.2.2.1, bt751.1, bt718.2.1, bt751.2.2.1, bt751.2.2.2.1, bt751.2.2.2.2.1, bt751.2.2.2.2.2.1, bt751.2.2.2.2.2.2.1, bt751.2.2.2.2.2.2.2.1))) else (some (bt718.1, bt718.2.1, bt718.2.2.1, bt718.2.2.2.1, bt718.2.2.2.2.1, bt718.2.2.2.2.2.1, bt718.2.2.2.2.2.2.1, bt718.2.2.2.2.2.2.2.1, bt718.2.2.2.2.2.2.2.2.1, bt718.2.2.2.2.2.2.2.2.2.1, bt718.2.2.2.2.2.2.2.2.2.2.1, bt718.2.2.2.2.2.2.2.2.2.2.2.1, bt718.2.2.2.2.2.2.2.2.2.2.2.2.1, bt718.2.2.2.2.2.2.2.2.2.2.2.2.2.1, bt718.2.2.2.2.2.2.2.2.2.2.2.2.2.2.1, bt718.2.2.2.2.2.2.2.2.2.2.2.2.2.2.2)))))
theorem spec_DrawSharpen.mono : ∀ a0 k, LeO (spec_DrawSharpen.f k a0) (spec_DrawSharpen.f (k + 1) a0) := by
 intro a0 k
 unfold spec_DrawSharpen.f
 have jh0 := @spec_DrawIsWider.mono
 have jh1 := @spec_l1New.mono
 have jh2 := @spec_l7Any.mono
 exact mo_
set_option maxHeartbeats 8000000 in
set_option maxRecDepth 100000 in
theorem spec_DrawSharpen.calls (k : Nat) (A0 : Option Addr) (c0 : Nat) (l0 : List Int) (r1 : Int) (r2 : Int) (r3 : List Int) (r4 : Int) (r5 : Int) (r6 : List Int) (r7 : Int) (r8 : Int) (r9 : Int) (r10 : Int) (r11 : List Int) (r12 : Int) (r13 : Int) (r14 : List Int) (r15 : Int) (r16 : Int) (w : World) (hr0 : Kd.C (Kd.int .u8) w A0 l0.length l0) (hc0 : l0.length ≤ c0) (h : spec_DrawSharpen.f k l0 = some (r1, r2, r3, r4, r5, r6, r7, r8, r9, r10, r11, r12, r13, r14, r15, r16)) :
  Calls Try.prog 63 #[.slice A0 l0.length c0] w fun e w' => ∃ v2_ v5_ v10_ v13_ : Value, e = .returned (.tuple #[.agg #[.int .i64 r1, .int .i64 r2, v2_, .int .i64 r4, .int .i64 r5, v5_, .int .i64 r7, .int .i64 r8], .agg #[.int .i64 r9, .int .i64 r10, v10_, .int .i64 r12, .int .i64 r13, v13_, .int .i64 r15, .int .i64 r16]]) ∧ Kd.R (Kd.int .i64) 3 w' w.heap.size (fun k_ => some k_ ≠ (v5_ : Value).ownBlock ∧ some k_ ≠ (v10_ : Value).ownBlock ∧ some k_ ≠ (v13_ : Value).ownBlock) v2_ r3 ∧ Kd.R (Kd.int .i64) 3 w' w.heap.size (fun k_ => some k_ ≠ (v2_ : Value).ownBlock ∧ some k_ ≠ (v10_ : Value).ownBlock ∧ some k_ ≠ (v13_ : Value).ownBlock) v5_ r6 ∧ Kd.R (Kd.int .i64) 3 w' w.heap.size (fun k_ => some k_ ≠ (v2_ : Value).ownBlock ∧ some k_ ≠ (v5_ : Value).ownBlock ∧ some k_ ≠ (v13_ : Value).ownBlock) v10_ r11 ∧ Kd.R (Kd.int .i64) 3 w' w.heap.size (fun k_ => some k_ ≠ (v2_ : Value).ownBlock ∧ some k_ ≠ (v5_ : Value).ownBlock ∧ some k_ ≠ (v10_ : Value).ownBlock) v13_ r14 ∧ Below w.heap.size w w' := by
 have hu41 := Try.underlying41
 have HR0 := o_ hr0
 have HC0 := o_ hc0
 clear hr0 hc0
 have HB := o_ (Below.refl w.heap.size w)
 have H := h
 unfold spec_DrawSharpen.f at H
 clear h
 obtain ⟨⟨t718, t719, t720, t723, t724, t725, t728, t729, t730, t731, t732, t735, t736, t737, t740, t741⟩, A2, H⟩ := ob_ H
 try dsimp only at H
 obtain ⟨⟨t744, t745, t746⟩, A3, H⟩ := ob_ H
 try dsimp only at H
 obtain ⟨⟨t748, t749, t750⟩, A4, H⟩ := ob_ H
 try dsimp only at H
 have HH_ := o_ H
 clear H
 go_enter Try.func63, Try.ntmps63
 go_upto_region 3 with (first | ((with_reducible refine gate_dst (N := 2) rfl ?_); refine bx_ 2 #[.int .i64 0, .int .i64 0, .slice none 0 0, .int .i64 0, .int .i64 0, .slice none 0 0, .int .i64 0, .int .i64 0] 41 ?_; intro gb716 hg w7 hbox hb; have BK716 := o_ (hbox); have GW716 := o_ ((by rw [hg]; exact (below_size (hd_ HB.1)) : w.heap.size ≤ gb716)); replace HB := o_ (below_step (hd_ HB.1) hb); have GE716 := GW716; clear hb hbox hg) | ((with_reducible refine gate_dst (N := 3) rfl ?_); refine bx_ 3 #[.int .i64 0, .int .i64 0, .slice none 0 0, .int .i64 0, .int .i64 0, .slice none 0 0, .int .i64 0, .int .i64 0] 41 ?_; intro gb717 hg w8 hbox hb; have BK717 := o_ (hbox); have GW717 := o_ ((by rw [hg]; exact (below_size wB_) : w.heap.size ≤ gb717)); replace HB := o_ (below_step wB_ hb); have GE717 := GW717; have NB716_717 := o_ ((y490_ : gb716 ≠ gb717)); have NB717_716 := o_ ((y491_ : gb717 ≠ gb716)); replace BK716 := o_ (blk_below (bd_ BK716.1) hb); clear hb hbox hg) | ((with_reducible refine g_ 88 ?_); refine gl_ (some 9) Try.func88 #[.slice A0 l0.length c0] ?_; (with_reducible refine (spec_DrawIsWider.calls k _ _ l0 t718 t719 t720 t723 t724 t725 t728 t729 t730 t731 t732 t735 t736 t737 t740 t741 _ (cd_ (Kd.C_below HR0.1 HB.1)) HC0.1 A2.1).mono ?_); rintro e w9 ⟨v721, v726, v733, v738, rfl, ho0, ho1, ho2, ho3, hb⟩; refine ⟨_, rfl, ?_⟩; have HO722 := o_ (Kd.R_lower ho0 (below_size wB_)); have HO727 := o_ (Kd.R_lower ho1 (below_size wB_)); have HO734 := o_ (Kd.R_lower ho2 (below_size wB_)); have HO739 := o_ (Kd.R_lower ho3 (below_size wB_)); replace BK716 := o_ (blk_below (bd_ BK716.1) hb); replace BK717 := o_ (blk_below (bd_ BK717.1) hb); replace HB := o_ (below_step wB_ hb); (try clear hb ho0 ho1 ho2 ho3)) | ((with_reducible refine gate_dst (N := 4) rfl ?_); refine bx_ 4 #[.int .i64 0, .int .i64 0, .slice none 0 0, .int .i64 0, .int .i64 0, .slice none 0 0, .int .i64 0, .int .i64 0] 41 ?_; intro gb742 hg w10 hbox hb; replace HO722 := o_ (Kd.R_below (rd_ HO722.1) hb); replace HO727 := o_ (Kd.R_below (rd_ HO727.1) hb); replace HO734 := o_ (Kd.R_below (rd_ HO734.1) hb); replace HO739 := o_ (Kd.R_below (rd_ HO739.1) hb); have BK742 := o_ (hbox); have GW742 := o_ ((by rw [hg]; exact (below_size wB_) : w.heap.size ≤ gb742)); replace HB := o_ (below_step wB_ hb); have GE742 := GW742; have NB716_742 := o_ ((y490_ : gb716 ≠ gb742)); have NB742_716 := o_ ((y491_ : gb742 ≠ gb716)); replace BK716 := o_ (blk_below (bd_ BK716.1) hb); have NB717_742 := o_ ((y492_ : gb717 ≠ gb742)); have NB742_717 := o_ ((y493_ : gb742 ≠ gb717)); replace BK717 := o_ (blk_below (bd_ BK717.1) hb); clear hb hbox hg) | ((with_reducible refine gate_dst (N := 5) rfl ?_); refine bx_ 5 #[.int .i64 0, .int .i64 0, .slice none 0 0, .int .i64 0, .int .i64 0, .slice none 0 0, .int .i64 0, .int .i64 0] 41 ?_; intro gb743 hg w11 hbox hb; replace HO722 := o_ (Kd.R_below (rd_ HO722.1) hb); replace HO727 := o_ (Kd.R_below (rd_ HO727.1) hb); replace HO734 := o_ (Kd.R_below (rd_ HO734.1) hb); replace HO739 := o_ (Kd.R_below (rd_ HO739.1) hb); have BK743 := o_ (hbox); have GW743 := o_ ((by rw [hg]; exact (below_size wB_) : w.heap.size ≤ gb743)); replace HB := o_ (below_step wB_ hb); have GE743 := GW743; have NB716_743 := o_ ((y490_ : gb716 ≠ gb743)); have NB743_716 := o_ ((y491_ : gb743 ≠ gb716)); replace BK716 := o_ (blk_below (bd_ BK716.1) hb); have NB717_743 := o_ ((y492_ : gb717 ≠ gb743)); have NB743_717 := o_ ((y493_ : gb743 ≠ gb717)); replace BK717 := o_ (blk_below (bd_ BK717.1) hb); have NB742_743 := o_ ((by rw [hg]; exact Nat.ne_of_lt (blk_lt (bd_ BK742.1)) : gb742 ≠ gb743)); have NB743_742 := o_ ((by rw [hg]; exact Nat.ne_of_gt (blk_lt (bd_ BK742.1)) : gb743 ≠ gb742)); replace BK742 := o_ (blk_below (bd_ BK742.1) hb); clear hb hbox hg; have hnb12 := NB742_716.1; have hnc12 := NB716_742.1; have hnb13 := NB742_717.1; have hnc13 := NB717_742.1; have hnb14 := NB742_743.1; have hnc14 := NB743_742.1; obtain ⟨_, _, _, _, _, _, _, _⟩ := e6_ BK742.1; obtain ⟨_, _, _, _, _, _, _, _⟩ := z5_ BK742.1; obtain ⟨Ao16, co16, eo16⟩ := Kd.R_slice HO722.1; subst eo16; obtain ⟨Ao17, co17, eo17⟩ := Kd.R_slice HO727.1; subst eo17; have hnb18 := NB743_716.1; have hnc18 := NB716_743.1; have hnb19 := NB743_717.1; have hnc19 := NB717_743.1; obtain ⟨_, _, _, _, _, _, _, _⟩ := e6_ BK743.1; obtain ⟨_, _, _, _, _, _, _, _⟩ := z5_ BK743.1; obtain ⟨Ao21, co21, eo21⟩ := Kd.R_slice HO734.1; subst eo21; obtain ⟨Ao22, co22, eo22⟩ := Kd.R_slice HO739.1; subst eo22) | ((with_reducible refine g_ 58 ?_); refine gl_ (some 13) Try.func58 #[.slice A0 l0.length c0] ?_; (with_reducible refine (spec_l1New.calls k _ _ l0 t744 t745 t746 w _ wB_ HR0.1 HC0.1 A3.1).mono ?_); rintro e w23 ⟨g747, rfl, hi, hb, hb2⟩; refine ⟨_, rfl, ?_⟩; replace HO722 := o_ (Kd.R_below (by (with_reducible repeat (first | apply Kd.R_alloc | apply Kd.R_drewN | apply Kd.R_drew)); exact (Kd.R_mono (Kd.R_mono (Kd.R_far (p := ⟨gb743, 7, none⟩) (Kd.R_far (p := ⟨gb743, 6, none⟩) (Kd.R_far (p := ⟨gb743, 5, none⟩) (Kd.R_far (p := ⟨gb743, 4, none⟩) (Kd.R_far (p := ⟨gb743, 3, none⟩) (Kd.R_far (p := ⟨gb743, 2, none⟩) (Kd.R_far (p := ⟨gb743, 1, none⟩) (Kd.R_far (p := ⟨gb743, 0, none⟩) (Kd.R_far (p := ⟨gb742, 7, none⟩) (Kd.R_far (p := ⟨gb742, 6, none⟩) (Kd.R_far (p := ⟨gb742, 5, none⟩) (Kd.R_far (p := ⟨gb742, 4, none⟩) (Kd.R_far (p := ⟨gb742, 3, none⟩) (Kd.R_far (p := ⟨gb742, 2, none⟩) (Kd.R_far (p := ⟨gb742, 1, none⟩) (Kd.R_far (p := ⟨gb742, 0, none⟩) (Kd.R_types (Kd.R_types HO722.1 BK742.1 (by decide)) BK743.1 (by decide)) (fun _ hk => hk.1.2) (.int .i64 t718)) (fun _ hk => hk.1.2) (.int .i64 t719)) (fun _ hk => hk.1.2) (.slice Ao16 t720.length co16)) (fun _ hk => hk.1.2) (.int .i64 t723)) (fun _ hk => hk.1.2) (.int .i64 t724)) (fun _ hk => hk.1.2) (.slice Ao17 t725.length co17)) (fun _ hk => hk.1.2) (.int .i64 t728)) (fun _ hk => hk.1.2) (.int .i64 t729)) (fun _ hk => hk.2) (.int .i64 t730)) (fun _ hk => hk.2) (.int .i64 t731)) (fun _ hk => hk.2) (.slice Ao21 t732.length co21)) (fun _ hk => hk.2) (.int .i64 t735)) (fun _ hk => hk.2) (.int .i64 t736)) (fun _ hk => hk.2) (.slice Ao22 t737.length co22)) (fun _ hk => hk.2) (.int .i64 t740)) (fun _ hk => hk.2) (.int .i64 t741)) (fun _ h_ => h_.1)) (fun _ h_ => h_.1))) hb2); replace HO727 := o_ (Kd.R_below (by (with_reducible repeat (first | apply Kd.R_alloc | apply Kd.R_drewN | apply Kd.R_drew)); exact (Kd.R_mono (Kd.R_mono (Kd.R_far (p := ⟨gb743, 7, none⟩) (Kd.R_far (p := ⟨gb743, 6, none⟩) (Kd.R_far (p := ⟨gb743, 5, none⟩) (Kd.R_far (p := ⟨gb743, 4, none⟩) (Kd.R_far (p := ⟨gb743, 3, none⟩) (Kd.R_far (p := ⟨gb743, 2, none⟩) (Kd.R_far (p := ⟨gb743, 1, none⟩) (Kd.R_far (p := ⟨gb743, 0, none⟩) (Kd.R_far (p := ⟨gb742, 7, none⟩) (Kd.R_far (p := ⟨gb742, 6, none⟩) (Kd.R_far (p := ⟨gb742, 5, none⟩) (Kd.R_far (p := ⟨gb742, 4, none⟩) (Kd.R_far (p := ⟨gb742, 3, none⟩) (Kd.R_far (p := ⟨gb742, 2, none⟩) (Kd.R_far (p := ⟨gb742, 1, none⟩) (Kd.R_far (p := ⟨gb742, 0, none⟩) (Kd.R_types (Kd.R_types HO727.1 BK742.1 (by decide)) BK743.1 (by decide)) (fun _ hk => hk.1.2) (.int .i64 t718)) (fun _ hk => hk.1.2) (.int .i64 t719)) (fun _ hk => hk.1.2) (.slice Ao16 t720.length co16)) (fun _ hk => hk.1.2) (.int .i64 t723)) (fun _ hk => hk.1.2) (.int .i64 t724)) (fun _ hk => hk.1.2) (.slice Ao17 t725.length co17)) (fun _ hk => hk.1.2) (.int .i64 t728)) (fun _ hk => hk.1.2) (.int .i64 t729)) (fun _ hk => hk.2) (.int .i64 t730)) (fun _ hk => hk.2) (.int .i64 t731)) (fun _ hk => hk.2) (.slice Ao21 t732.length co21)) (fun _ hk => hk.2) (.int .i64 t735)) (fun _ hk => hk.2) (.int .i64 t736)) (fun _ hk => hk.2) (.slice Ao22 t737.length co22)) (fun _ hk => hk.2) (.int .i64 t740)) (fun _ hk => hk.2) (.int .i64 t741)) (fun _ h_ => h_.1)) (fun _ h_ => h_.1))) hb2); replace HO734 := o_ (Kd.R_below (by (with_reducible repeat (first | apply Kd.R_alloc | apply Kd.R_drewN | apply Kd.R_drew)); exact (Kd.R_mono (Kd.R_mono (Kd.R_far (p := ⟨gb743, 7, none⟩) (Kd.R_far (p := ⟨gb743, 6, none⟩) (Kd.R_far (p := ⟨gb743, 5, none⟩) (Kd.R_far (p := ⟨gb743, 4, none⟩) (Kd.R_far (p := ⟨gb743, 3, none⟩) (Kd.R_far (p := ⟨gb743, 2, none⟩) (Kd.R_far (p := ⟨gb743, 1, none⟩) (Kd.R_far (p := ⟨gb743, 0, none⟩) (Kd.R_far (p := ⟨gb742, 7, none⟩) (Kd.R_far (p := ⟨gb742, 6, none⟩) (Kd.R_far (p := ⟨gb742, 5, none⟩) (Kd.R_far (p := ⟨gb742, 4, none⟩) (Kd.R_far (p := ⟨gb742, 3, none⟩) (Kd.R_far (p := ⟨gb742, 2, none⟩) (Kd.R_far (p := ⟨gb742, 1, none⟩) (Kd.R_far (p := ⟨gb742, 0, none⟩) (Kd.R_types (Kd.R_types HO734.1 BK742.1 (by decide)) BK743.1 (by decide)) (fun _ hk => hk.1.2) (.int .i64 t718)) (fun _ hk => hk.1.2) (.int .i64 t719)) (fun _ hk => hk.1.2) (.slice Ao16 t720.length co16)) (fun _ hk => hk.1.2) (.int .i64 t723)) (fun _ hk => hk.1.2) (.int .i64 t724)) (fun _ hk => hk.1.2) (.slice Ao17 t725.length co17)) (fun _ hk => hk.1.2) (.int .i64 t728)) (fun _ hk => hk.1.2) (.int .i64 t729)) (fun _ hk => hk.2) (.int .i64 t730)) (fun _ hk => hk.2) (.int .i64 t731)) (fun _ hk => hk.2) (.slice Ao21 t732.length co21)) (fun _ hk => hk.2) (.int .i64 t735)) (fun _ hk => hk.2) (.int .i64 t736)) (fun _ hk => hk.2) (.slice Ao22 t737.length co22)) (fun _ hk => hk.2) (.int .i64 t740)) (fun _ hk => hk.2) (.int .i64 t741)) (fun _ h_ => h_.1)) (fun _ h_ => h_.1))) hb2); replace HO739 := o_ (Kd.R_below (by (with_reducible repeat (first | apply Kd.R_alloc | apply Kd.R_drewN | apply Kd.R_drew)); exact (Kd.R_mono (Kd.R_mono (Kd.R_far (p := ⟨gb743, 7, none⟩) (Kd.R_far (p := ⟨gb743, 6, none⟩) (Kd.R_far (p := ⟨gb743, 5, none⟩) (Kd.R_far (p := ⟨gb743, 4, none⟩) (Kd.R_far (p := ⟨gb743, 3, none⟩) (Kd.R_far (p := ⟨gb743, 2, none⟩) (Kd.R_far (p := ⟨gb743, 1, none⟩) (Kd.R_far (p := ⟨gb743, 0, none⟩) (Kd.R_far (p := ⟨gb742, 7, none⟩) (Kd.R_far (p := ⟨gb742, 6, none⟩) (Kd.R_far (p := ⟨gb742, 5, none⟩) (Kd.R_far (p := ⟨gb742, 4, none⟩) (Kd.R_far (p := ⟨gb742, 3, none⟩) (Kd.R_far (p := ⟨gb742, 2, none⟩) (Kd.R_far (p := ⟨gb742, 1, none⟩) (Kd.R_far (p := ⟨gb742, 0, none⟩) (Kd.R_types (Kd.R_types HO739.1 BK742.1 (by decide)) BK743.1 (by decide)) (fun _ hk => hk.1.2) (.int .i64 t718)) (fun _ hk => hk.1.2) (.int .i64 t719)) (fun _ hk => hk.1.2) (.slice Ao16 t720.length co16)) (fun _ hk => hk.1.2) (.int .i64 t723)) (fun _ hk => hk.1.2) (.int .i64 t724)) (fun _ hk => hk.1.2) (.slice Ao17 t725.length co17)) (fun _ hk => hk.1.2) (.int .i64 t728)) (fun _ hk => hk.1.2) (.int .i64 t729)) (fun _ hk => hk.2) (.int .i64 t730)) (fun _ hk => hk.2) (.int .i64 t731)) (fun _ hk => hk.2) (.slice Ao21 t732.length co21)) (fun _ hk => hk.2) (.int .i64 t735)) (fun _ hk => hk.2) (.int .i64 t736)) (fun _ hk => hk.2) (.slice Ao22 t737.length co22)) (fun _ hk => hk.2) (.int .i64 t740)) (fun _ hk => hk.2) (.int .i64 t741)) (fun _ h_ => h_.1)) (fun _ h_ => h_.1))) hb2); replace HB := o_ (hb); replace HI747 := o_ (hi); have NB747_716 := o_ (IsS102.ne_blk hi (blk_below (g := gb716) (o := c7_ 0 0 none 0 0 0 0 none 0 0 0 0) (bk_ BK716.1) hb2) (by decide)); have NB716_747 := o_ (Ne.symm (IsS102.ne_blk hi (blk_below (g := gb716) (o := c7_ 0 0 none 0 0 0 0 none 0 0 0 0) (bk_ BK716.1) hb2) (by decide))); replace BK716 := o_ (blk_below (g := gb716) (o := c7_ 0 0 none 0 0 0 0 none 0 0 0 0) (bk_ BK716.1) hb2); have NB747_717 := o_ (IsS102.ne_blk hi (blk_below (g := gb717) (o := c7_ 0 0 none 0 0 0 0 none 0 0 0 0) (bk_ BK717.1) hb2) (by decide)); have NB717_747 := o_ (Ne.symm (IsS102.ne_blk hi (blk_below (g := gb717) (o := c7_ 0 0 none 0 0 0 0 none 0 0 0 0) (bk_ BK717.1) hb2) (by decide))); replace BK717 := o_ (blk_below (g := gb717) (o := c7_ 0 0 none 0 0 0 0 none 0 0 0 0) (bk_ BK717.1) hb2); have NB747_742 := o_ (IsS102.ne_blk hi (blk_below (g := gb742) (o := c7_ t718 t719 Ao16 t720.length co16 t723 t724 Ao17 t725.length co17 t728 t729) (bk_ BK742.1) hb2) (by decide)); have NB742_747 := o_ (Ne.symm (IsS102.ne_blk hi (blk_below (g := gb742) (o := c7_ t718 t719 Ao16 t720.length co16 t723 t724 Ao17 t725.length co17 t728 t729) (bk_ BK742.1) hb2) (by decide))); replace BK742 := o_ (blk_below (g := gb742) (o := c7_ t718 t719 Ao16 t720.length co16 t723 t724 Ao17 t725.length co17 t728 t729) (bk_ BK742.1) hb2); have NB747_743 := o_ (IsS102.ne_blk hi (blk_below (g := gb743) (o := c7_ t730 t731 Ao21 t732.length co21 t735 t736 Ao22 t737.length co22 t740 t741) (bk_ BK743.1) hb2) (by decide)); have NB743_747 := o_ (Ne.symm (IsS102.ne_blk hi (blk_below (g := gb743) (o := c7_ t730 t731 Ao21 t732.length co21 t735 t736 Ao22 t737.length co22 t740 t741) (bk_ BK743.1) hb2) (by decide))); replace BK743 := o_ (blk_below (g := gb743) (o := c7_ t730 t731 Ao21 t732.length co21 t735 t736 Ao22 t737.length co22 t740 t741) (bk_ BK743.1) hb2); (try clear hb hb2 hi)))
 have H := HH_.1
 clear HH_
 by_cases c5 : t748 = true
 ·
  subst c5
  have H1 := H
  rw [if_pos rfl] at H1
  clear H
  have H := H1
  clear H1
  obtain ⟨⟨t751, t752, t753, t756, t757, t758, t761, t762, t763, t764⟩, A6, H⟩ := ob_ H
  try dsimp only at H
  simp only [Option.some.injEq, Prod.mk.injEq] at H
  obtain ⟨rfl, rfl, rfl, rfl, rfl, rfl, rfl, rfl, rfl, rfl, rfl, rfl, rfl, rfl, rfl, rfl⟩ := H
  try go_wp2_with (first | ((with_reducible refine g_ 66 ?_); refine gl_ (some 15) Try.func66 #[.pointer (some ⟨g747, 0, none⟩), .int .i64 2] ?_; (with_reducible refine (spec_l1Once.calls g747 t744 t745 t746 2 true t749 t750 w _ (wJ_ HI747.1) wB_ A4.1).mono ?_); rintro e w24 ⟨rfl, hi, hb, hk⟩; refine ⟨_, rfl, ?_⟩; replace BK716 := o_ (KeepBut.blk hk (g' := gb716) (o := c7_ 0 0 none 0 0 0 0 none 0 0 0 0) (bd_ BK716.1) NB716_747.1 (by simp)); replace BK717 := o_ (KeepBut.blk hk (g' := gb717) (o := c7_ 0 0 none 0 0 0 0 none 0 0 0 0) (bd_ BK717.1) NB717_747.1 (by simp)); replace HO722 := o_ (kp_ (show IsS102 w _ g747 t744 t745 t746 from by exact wJ_ HI747.1) (rd_ HO722.1) hk); replace HO727 := o_ (kp_ (show IsS102 w _ g747 t744 t745 t746 from by exact wJ_ HI747.1) (rd_ HO727.1) hk); replace HO734 := o_ (kp_ (show IsS102 w _ g747 t744 t745 t746 from by exact wJ_ HI747.1) (rd_ HO734.1) hk); replace HO739 := o_ (kp_ (show IsS102 w _ g747 t744 t745 t746 from by exact wJ_ HI747.1) (rd_ HO739.1) hk); replace BK742 := o_ (KeepBut.blk hk (g' := gb742) (o := c7_ t718 t719 Ao16 t720.length co16 t723 t724 Ao17 t725.length co17 t728 t729) (bd_ BK742.1) NB742_747.1 (by simp)); replace BK743 := o_ (KeepBut.blk hk (g' := gb743) (o := c7_ t730 t731 Ao21 t732.length co21 t735 t736 Ao22 t737.length co22 t740 t741) (bd_ BK743.1) NB743_747.1 (by simp)); replace HB := o_ (hb); replace HI747 := o_ (hi); (try clear hb hk hi)) | ((with_reducible refine g_ 89 ?_); refine gl_ (some 17) Try.func89 #[.pointer (some ⟨g747, 0, none⟩)] ?_; (with_reducible refine (spec_l7Any.calls k g747 t744 t749 t750 t751 t752 t753 t756 t757 t758 t761 t762 t763 t764 w _ (wJ_ HI747.1) wB_ A6.1).mono ?_); rintro e w25 ⟨v754, v759, rfl, ho0, ho1, hi, hb, hk⟩; refine ⟨_, rfl, ?_⟩; replace BK716 := o_ (KeepBut.blk hk (g' := gb716) (o := c7_ 0 0 none 0 0 0 0 none 0 0 0 0) (bd_ BK716.1) NB716_747.1 (by simp)); replace BK717 := o_ (KeepBut.blk hk (g' := gb717) (o := c7_ 0 0 none 0 0 0 0 none 0 0 0 0) (bd_ BK717.1) NB717_747.1 (by simp)); replace BK742 := o_ (KeepBut.blk hk (g' := gb742) (o := c7_ t718 t719 Ao16 t720.length co16 t723 t724 Ao17 t725.length co17 t728 t729) (bd_ BK742.1) NB742_747.1 (by simp)); replace BK743 := o_ (KeepBut.blk hk (g' := gb743) (o := c7_ t730 t731 Ao21 t732.length co21 t735 t736 Ao22 t737.length co22 t740 t741) (bd_ BK743.1) NB743_747.1 (by simp)); have HO755 := o_ (Kd.R_lower (Kd.R_new' (Kd.R_new' (Kd.R_new' (Kd.R_new' ho0 (Kd.R_lt (rd_ HO722.1))) (Kd.R_lt (rd_ HO727.1))) (Kd.R_lt (rd_ HO734.1))) (Kd.R_lt (rd_ HO739.1))) (below_size (wB_))); have HO760 := o_ (Kd.R_lower (Kd.R_new' (Kd.R_new' (Kd.R_new' (Kd.R_new' ho1 (Kd.R_lt (rd_ HO722.1))) (Kd.R_lt (rd_ HO727.1))) (Kd.R_lt (rd_ HO734.1))) (Kd.R_lt (rd_ HO739.1))) (below_size (wB_))); replace HO722 := o_ (Kd.R_mono (Kd.R_told (Kd.R_told (Kd.R_oldK (IsS102.apart (show IsS102 w _ g747 t744 t749 t750 from by exact wJ_ HI747.1) (rd_ HO722.1) (by decide)) hk) (Kd.R_base ho0)) (Kd.R_base ho1)) (fun _ h_ => h_.1)); replace HO727 := o_ (Kd.R_mono (Kd.R_told (Kd.R_told (Kd.R_oldK (IsS102.apart (show IsS102 w _ g747 t744 t749 t750 from by exact wJ_ HI747.1) (rd_ HO727.1) (by decide)) hk) (Kd.R_base ho0)) (Kd.R_base ho1)) (fun _ h_ => h_.1)); replace HO734 := o_ (Kd.R_mono (Kd.R_told (Kd.R_told (Kd.R_oldK (IsS102.apart (show IsS102 w _ g747 t744 t749 t750 from by exact wJ_ HI747.1) (rd_ HO734.1) (by decide)) hk) (Kd.R_base ho0)) (Kd.R_base ho1)) (fun _ h_ => h_.1)); replace HO739 := o_ (Kd.R_mono (Kd.R_told (Kd.R_told (Kd.R_oldK (IsS102.apart (show IsS102 w _ g747 t744 t749 t750 from by exact wJ_ HI747.1) (rd_ HO739.1) (by decide)) hk) (Kd.R_base ho0)) (Kd.R_base ho1)) (fun _ h_ => h_.1)); replace HB := o_ (hb); replace HI747 := o_ (hi); (try clear hb hk hi ho0 ho1); have hnb26 := NB743_747.1; have hnc26 := NB747_743.1; obtain ⟨_, _, _, _, _, _, _, _⟩ := e6_ BK743.1; obtain ⟨_, _, _, _, _, _, _, _⟩ := z5_ BK743.1; obtain ⟨Ao28, co28, eo28⟩ := Kd.R_slice HO755.1; subst eo28; obtain ⟨Ao29, co29, eo29⟩ := Kd.R_slice HO760.1; subst eo29; have hnb30 := NB742_747.1; have hnc30 := NB747_742.1; obtain ⟨_, _, _, _, _, _, _, _⟩ := e6_ BK742.1; obtain ⟨_, _, _, _, _, _, _, _⟩ := z5_ BK742.1))
  generalize hw_ : (((((((((w25.setCell ⟨gb743, 0, none⟩ (.int .i64 t751)).setCell ⟨gb743, 1, none⟩ (.int .i64 t752)).setCell ⟨gb743, 2, none⟩ (.slice Ao28 t753.length co28)).setCell ⟨gb743, 3, none⟩ (.int .i64 t756)).setCell ⟨gb743, 4, none⟩ (.int .i64 t757)).setCell ⟨gb743, 5, none⟩ (.slice Ao29 t758.length co29)).setCell ⟨gb743, 6, none⟩ (.int .i64 t761)).setCell ⟨gb743, 7, none⟩ (.int .i64 t762)).setCell ⟨gb743, 1, none⟩ (.int .i64 t719)) = w32
  replace HO722 : Aside0 (Kd.R (Kd.int .i64) 3 w32 w.heap.size (fun k_ => some k_ ≠ (.slice Ao17 t725.length co17 : Value).ownBlock ∧ some k_ ≠ (.slice Ao21 t732.length co21 : Value).ownBlock ∧ some k_ ≠ (.slice Ao22 t737.length co22 : Value).ownBlock ∧ some k_ ≠ (.slice Ao28 t753.length co28 : Value).ownBlock ∧ some k_ ≠ (.slice Ao29 t758.length co29 : Value).ownBlock) (.slice Ao16 t720.length co16) t720) := ⟨by rw [← hw_]; exact rf_ (R2_ HO722.1 BK743.1) (fun _ hk => ⟨hk.1.1.1.1, ⟨hk.1.1.1.2.1, ⟨hk.1.1.1.2.2, ⟨hk.1.1.2, hk.1.2⟩⟩⟩⟩)⟩
  replace HO727 : Aside0 (Kd.R (Kd.int .i64) 3 w32 w.heap.size (fun k_ => some k_ ≠ (.slice Ao16 t720.length co16 : Value).ownBlock ∧ some k_ ≠ (.slice Ao21 t732.length co21 : Value).ownBlock ∧ some k_ ≠ (.slice Ao22 t737.length co22 : Value).ownBlock ∧ some k_ ≠ (.slice Ao28 t753.length co28 : Value).ownBlock ∧ some k_ ≠ (.slice Ao29 t758.length co29 : Value).ownBlock) (.slice Ao17 t725.length co17) t725) := ⟨by rw [← hw_]; exact rf_ (R2_ HO727.1 BK743.1) (fun _ hk => ⟨hk.1.1.1.1, ⟨hk.1.1.1.2.1, ⟨hk.1.1.1.2.2, ⟨hk.1.1.2, hk.1.2⟩⟩⟩⟩)⟩
  replace HO734 : Aside0 (Kd.R (Kd.int .i64) 3 w32 w.heap.size (fun k_ => some k_ ≠ (.slice Ao16 t720.length co16 : Value).ownBlock ∧ some k_ ≠ (.slice Ao17 t725.length co17 : Value).ownBlock ∧ some k_ ≠ (.slice Ao22 t737.length co22 : Value).ownBlock ∧ some k_ ≠ (.slice Ao28 t753.length co28 : Value).ownBlock ∧ some k_ ≠ (.slice Ao29 t758.length co29 : Value).ownBlock) (.slice Ao21 t732.length co21) t732) := ⟨by rw [← hw_]; exact rf_ (R2_ HO734.1 BK743.1) (fun _ hk => ⟨hk.1.1.1.1, ⟨hk.1.1.1.2.1, ⟨hk.1.1.1.2.2, ⟨hk.1.1.2, hk.1.2⟩⟩⟩⟩)⟩
  replace HO739 : Aside0 (Kd.R (Kd.int .i64) 3 w32 w.heap.size (fun k_ => some k_ ≠ (.slice Ao16 t720.length co16 : Value).ownBlock ∧ some k_ ≠ (.slice Ao17 t725.length co17 : Value).ownBlock ∧ some k_ ≠ (.slice Ao21 t732.length co21 : Value).ownBlock ∧ some k_ ≠ (.slice Ao28 t753.length co28 : Value).ownBlock ∧ some k_ ≠ (.slice Ao29 t758.length co29 : Value).ownBlock) (.slice Ao22 t737.length co22) t737) := ⟨by rw [← hw_]; exact rf_ (R2_ HO739.1 BK743.1) (fun _ hk => ⟨hk.1.1.1.1, ⟨hk.1.1.1.2.1, ⟨hk.1.1.1.2.2, ⟨hk.1.1.2, hk.1.2⟩⟩⟩⟩)⟩
  replace HO755 : Aside0 (Kd.R (Kd.int .i64) 3 w32 w.heap.size (fun k_ => some k_ ≠ (.slice Ao16 t720.length co16 : Value).ownBlock ∧ some k_ ≠ (.slice Ao17 t725.length co17 : Value).ownBlock ∧ some k_ ≠ (.slice Ao21 t732.length co21 : Value).ownBlock ∧ some k_ ≠ (.slice Ao22 t737.length co22 : Value).ownBlock ∧ some k_ ≠ (.slice Ao29 t758.length co29 : Value).ownBlock) (.slice Ao28 t753.length co28) t753) := ⟨by rw [← hw_]; exact rf_ (R2_ HO755.1 BK743.1) (fun _ hk => ⟨hk.1.1.1.1.2, ⟨hk.1.1.1.2, ⟨hk.1.1.2, ⟨hk.1.2, hk.1.1.1.1.1⟩⟩⟩⟩)⟩
  replace HO760 : Aside0 (Kd.R (Kd.int .i64) 3 w32 w.heap.size (fun k_ => some k_ ≠ (.slice Ao16 t720.length co16 : Value).ownBlock ∧ some k_ ≠ (.slice Ao17 t725.length co17 : Value).ownBlock ∧ some k_ ≠ (.slice Ao21 t732.length co21 : Value).ownBlock ∧ some k_ ≠ (.slice Ao22 t737.length co22 : Value).ownBlock ∧ some k_ ≠ (.slice Ao28 t753.length co28 : Value).ownBlock) (.slice Ao29 t758.length co29) t758) := ⟨by rw [← hw_]; exact rf_ (R2_ HO760.1 BK743.1) (fun _ hk => ⟨hk.1.1.1.1.2, ⟨hk.1.1.1.2, ⟨hk.1.1.2, ⟨hk.1.2, hk.1.1.1.1.1⟩⟩⟩⟩)⟩
  replace BK716 : Aside0 (w32.heap[gb716]? = some (c7_ 0 0 none 0 0 0 0 none 0 0 0 0)) := ⟨by rw [← hw_]; exact bk_ BK716.1⟩
  replace BK717 : Aside0 (w32.heap[gb717]? = some (c7_ 0 0 none 0 0 0 0 none 0 0 0 0)) := ⟨by rw [← hw_]; exact bk_ BK717.1⟩
  replace BK742 : Aside0 (w32.heap[gb742]? = some (c7_ t718 t719 Ao16 t720.length co16 t723 t724 Ao17 t725.length co17 t728 t729)) := ⟨by rw [← hw_]; exact bk_ BK742.1⟩
  replace BK743 : Aside0 (w32.heap[gb743]? = some (c7_ t751 t719 Ao28 t753.length co28 t756 t757 Ao29 t758.length co29 t761 t762)) := ⟨by rw [← hw_]; exact bk_ BK743.1⟩
  replace HI747 : Aside0 (IsS102 w w32 g747 t744 t763 t764) := ⟨by rw [← hw_]; exact wJ_ HI747.1⟩
  replace HB : Aside0 (Below w.heap.size w w32) := ⟨by rw [← hw_]; exact wB_⟩
  clear hw_
  replace HO722 := o_ (Kd.R_drew HO722.1)
  replace HO727 := o_ (Kd.R_drew HO727.1)
  replace HO734 := o_ (Kd.R_drew HO734.1)
  replace HO739 := o_ (Kd.R_drew HO739.1)
  replace HO755 := o_ (Kd.R_drew HO755.1)
  replace HO760 := o_ (Kd.R_drew HO760.1)
  replace BK716 := o_ (blk_drew BK716.1)
  replace BK717 := o_ (blk_drew BK717.1)
  replace BK742 := o_ (blk_drew BK742.1)
  replace BK743 := o_ (blk_drew BK743.1)
  replace HI747 := o_ (IsS102.drew HI747.1)
  replace HB := o_ (below_drew1 HB.1)
  refine start_ (n := 4) (S := fun w' => q1_ w' gb742 t718 t719 Ao16 t720.length co16 t723 t724 Ao17 t725.length co17 t728 t729 (q1e_ w' gb743 t751 t719 Ao28 t753.length co28 t756 t757 Ao29 t758.length co29 t761 t762)) (ds := []) #[false, false, false, false] (by kernel_rfl) rfl rfl (k1_ BK742.1 (k1e_ BK743.1)) (fun hHeld => ?_)
  generalize w32.drew = w33 at HO722 HO727 HO734 HO739 HO755 HO760 BK716 BK717 BK742 BK743 HI747 HB hHeld ⊢
  refine take_ (i := 0) (N := some 21) (v := ?_) (a' := ?_) #[true, false, false, false] rfl rfl (by kernel_rfl) (fun _ _ _ h => h) (Or.inl ⟨by rfl, ?_⟩) hHeld ?_ ?_
  rotate_left; · rintro w' ⟨s0, s1, s2, s3, s4, s5, s6, s7, s8, s9, s10, s11, s12, s13, s14, s15⟩; go_simp; with_reducible rfl
  rotate_left; · simp only [Act.put, List.setIfInBounds_toArray, List.set_cons_zero, List.set_cons_succ, i64_w, i32_w]; rfl
  refine take_ (i := 1) (N := some 22) (v := ?_) (a' := ?_) #[true, true, false, false] rfl rfl (by kernel_rfl) (fun _ _ _ h => h) (Or.inl ⟨by rfl, ?_⟩) hHeld ?_ ?_
  rotate_left; · rintro w' ⟨s0, s1, s2, s3, s4, s5, s6, s7, s8, s9, s10, s11, s12, s13, s14, s15⟩; go_simp; with_reducible rfl
  rotate_left; · simp only [Act.put, List.setIfInBounds_toArray, List.set_cons_zero, List.set_cons_succ, i64_w, i32_w]; rfl
  refine one_ (i := 2) (N := none) #[true, true, true, false] rfl rfl (by kernel_rfl) (by decide) (fun K hK => ?_)
  obtain ⟨_, _, _, _, _, _, _, _⟩ := e6_ BK716.1
  obtain ⟨_, _, _, _, _, _, _, _⟩ := z5_ BK716.1
  have hns34_1 := NB717_716.1
  have hns34_2 := NB742_716.1
  have hns34_3 := NB743_716.1
  have hms34_1 := NB716_717.1
  have hms34_2 := NB716_742.1
  have hms34_3 := NB716_743.1
  refine skip_ (w1 := ?_) (by rfl) rfl ?_ ?_
  rotate_left
  ·
   go_simp
   rfl
  generalize hw_ : ((((((((w33.setCell ⟨gb716, 0, none⟩ (.int .i64 t718)).setCell ⟨gb716, 1, none⟩ (.int .i64 t719)).setCell ⟨gb716, 2, none⟩ (.slice Ao16 t720.length co16)).setCell ⟨gb716, 3, none⟩ (.int .i64 t723)).setCell ⟨gb716, 4, none⟩ (.int .i64 t724)).setCell ⟨gb716, 5, none⟩ (.slice Ao17 t725.length co17)).setCell ⟨gb716, 6, none⟩ (.int .i64 t728)).setCell ⟨gb716, 7, none⟩ (.int .i64 t729)) = w33s_
  replace HO722 := o_ (gwR_ hw_ (rf_ (R2_ HO722.1 BK716.1) (fun _ h_ => h_.1)))
  replace HO727 := o_ (gwR_ hw_ (rf_ (R2_ HO727.1 BK716.1) (fun _ h_ => h_.1)))
  replace HO755 := o_ (gwR_ hw_ (rf_ (R2_ HO755.1 BK716.1) (fun _ h_ => h_.1)))
  replace HO760 := o_ (gwR_ hw_ (rf_ (R2_ HO760.1 BK716.1) (fun _ h_ => h_.1)))
  replace HI747 := o_ (Eq.subst (motive := fun W_ => IsS102 _ W_ _ _ _ _) hw_ (isf8_ HI747.1 NB747_716.1))
  replace HB : Aside0 (Below w.heap.size w w33s_) := ⟨by rw [← hw_]; exact wB_⟩
  replace BK716 : Aside0 (w33s_.heap[gb716]? = some (c7_ t718 t719 Ao16 t720.length co16 t723 t724 Ao17 t725.length co17 t728 t729)) := ⟨by rw [← hw_]; exact bk_ BK716.1⟩
  replace BK717 : Aside0 (w33s_.heap[gb717]? = some (c7_ 0 0 none 0 0 0 0 none 0 0 0 0)) := ⟨by rw [← hw_]; exact bk_ BK717.1⟩
  replace BK742 : Aside0 (w33s_.heap[gb742]? = some (c7_ t718 t719 Ao16 t720.length co16 t723 t724 Ao17 t725.length co17 t728 t729)) := ⟨by rw [← hw_]; exact bk_ BK742.1⟩
  replace BK743 : Aside0 (w33s_.heap[gb743]? = some (c7_ t751 t719 Ao28 t753.length co28 t756 t757 Ao29 t758.length co29 t761 t762)) := ⟨by rw [← hw_]; exact bk_ BK743.1⟩
  clear hw_ hHeld
  refine hK.out _ _ (k1_ BK742.1 (k1e_ BK743.1)) (fun hHeld => ?_)
  clear hK K
  refine one_ (i := 3) (N := none) #[true, true, true, true] rfl rfl (by kernel_rfl) (by decide) (fun K hK => ?_)
  obtain ⟨_, _, _, _, _, _, _, _⟩ := e6_ BK717.1
  obtain ⟨_, _, _, _, _, _, _, _⟩ := z5_ BK717.1
  have hns42_0 := NB716_717.1
  have hns42_2 := NB742_717.1
  have hns42_3 := NB743_717.1
  have hms42_0 := NB717_716.1
  have hms42_2 := NB717_742.1
  have hms42_3 := NB717_743.1
  refine skip_ (w1 := ?_) (by rfl) rfl ?_ ?_
  rotate_left
  ·
   go_simp
   rfl
  refine hK.out _ _ (q1m_ (fun e_ => f10_ e_ NB742_717.1) (q1em_ (fun e_ => f10_ e_ NB743_717.1)) hHeld) (fun hHeld => ?_)
  clear hK K
  refine done_ (by kernel_rfl) ?_
  try go_wp2
  refine bodyPost_ret (results_cc rfl _ _ gb716 gb717 41 41 #[.int .i64 t718, .int .i64 t719, .slice Ao16 t720.length co16, .int .i64 t723, .int .i64 t724, .slice Ao17 t725.length co17, .int .i64 t728, .int .i64 t729] #[.int .i64 t751, .int .i64 t719, .slice Ao28 t753.length co28, .int .i64 t756, .int .i64 t757, .slice Ao29 t758.length co29, .int .i64 t761, .int .i64 t762] (0, 0) (0, 0) _ _ rfl (bk_ BK716.1) Try.underlying41 rfl (by kernel_rfl) rfl (bk_ BK717.1) Try.underlying41 rfl (by kernel_rfl)) rfl ?_
  exact ⟨_, _, _, _, rt_, rf_ (R2_ (R2_ HO722.1 BK716.1) BK717.1) (fun _ hk => ⟨hk.1.1.1, ⟨hk.1.1.2.2.2.1, hk.1.1.2.2.2.2⟩⟩), rf_ (R2_ (R2_ HO727.1 BK716.1) BK717.1) (fun _ hk => ⟨hk.1.1.1, ⟨hk.1.1.2.2.2.1, hk.1.1.2.2.2.2⟩⟩), rf_ (R2_ (R2_ HO755.1 BK716.1) BK717.1) (fun _ hk => ⟨hk.1.1.1, ⟨hk.1.1.2.1, hk.1.1.2.2.2.2⟩⟩), rf_ (R2_ (R2_ HO760.1 BK716.1) BK717.1) (fun _ hk => ⟨hk.1.1.1, ⟨hk.1.1.2.1, hk.1.1.2.2.2.2⟩⟩), wB_⟩
 ·
  replace c5 := Bool.eq_false_iff.mpr c5
  subst c5
  have H1 := H
  rw [if_neg nt_] at H1
  clear H
  have H := H1
  clear H1
  simp only [Option.some.injEq, Prod.mk.injEq] at H
  obtain ⟨rfl, rfl, rfl, rfl, rfl, rfl, rfl, rfl, rfl, rfl, rfl, rfl, rfl, rfl, rfl, rfl⟩ := H
  try go_wp2_with (first | ((with_reducible refine g_ 66 ?_); refine gl_ (some 15) Try.func66 #[.pointer (some ⟨g747, 0, none⟩), .int .i64 2] ?_; (with_reducible refine (spec_l1Once.calls g747 t744 t745 t746 2 false t749 t750 w _ (wJ_ HI747.1) wB_ A4.1).mono ?_); rintro e w67 ⟨rfl, hi, hb, hk⟩; refine ⟨_, rfl, ?_⟩; replace BK716 := o_ (KeepBut.blk hk (g' := gb716) (o := c7_ 0 0 none 0 0 0 0 none 0 0 0 0) (bd_ BK716.1) NB716_747.1 (by simp)); replace BK717 := o_ (KeepBut.blk hk (g' := gb717) (o := c7_ 0 0 none 0 0 0 0 none 0 0 0 0) (bd_ BK717.1) NB717_747.1 (by simp)); replace HO722 := o_ (kp_ (show IsS102 w _ g747 t744 t745 t746 from by exact wJ_ HI747.1) (rd_ HO722.1) hk); replace HO727 := o_ (kp_ (show IsS102 w _ g747 t744 t745 t746 from by exact wJ_ HI747.1) (rd_ HO727.1) hk); replace HO734 := o_ (kp_ (show IsS102 w _ g747 t744 t745 t746 from by exact wJ_ HI747.1) (rd_ HO734.1) hk); replace HO739 := o_ (kp_ (show IsS102 w _ g747 t744 t745 t746 from by exact wJ_ HI747.1) (rd_ HO739.1) hk); replace BK742 := o_ (KeepBut.blk hk (g' := gb742) (o := c7_ t718 t719 Ao16 t720.length co16 t723 t724 Ao17 t725.length co17 t728 t729) (bd_ BK742.1) NB742_747.1 (by simp)); replace BK743 := o_ (KeepBut.blk hk (g' := gb743) (o := c7_ t730 t731 Ao21 t732.length co21 t735 t736 Ao22 t737.length co22 t740 t741) (bd_ BK743.1) NB743_747.1 (by simp)); replace HB := o_ (hb); replace HI747 := o_ (hi); (try clear hb hk hi)))
  replace HO722 := o_ (Kd.R_drew HO722.1)
  replace HO727 := o_ (Kd.R_drew HO727.1)
  replace HO734 := o_ (Kd.R_drew HO734.1)
  replace HO739 := o_ (Kd.R_drew HO739.1)
  replace BK716 := o_ (blk_drew BK716.1)
  replace BK717 := o_ (blk_drew BK717.1)
  replace BK742 := o_ (blk_drew BK742.1)
  replace BK743 := o_ (blk_drew BK743.1)
  replace HI747 := o_ (IsS102.drew HI747.1)
  replace HB := o_ (below_drew1 HB.1)
  refine start_ (n := 4) (S := fun w' => q1_ w' gb742 t718 t719 Ao16 t720.length co16 t723 t724 Ao17 t725.length co17 t728 t729 (q1e_ w' gb743 t730 t731 Ao21 t732.length co21 t735 t736 Ao22 t737.length co22 t740 t741)) (ds := []) #[false, false, false, false] (by kernel_rfl) rfl rfl (k1_ BK742.1 (k1e_ BK743.1)) (fun hHeld => ?_)
  generalize w67.drew = w68 at HO722 HO727 HO734 HO739 BK716 BK717 BK742 BK743 HI747 HB hHeld ⊢
  refine take_ (i := 0) (N := some 21) (v := ?_) (a' := ?_) #[true, false, false, false] rfl rfl (by kernel_rfl) (fun _ _ _ h => h) (Or.inl ⟨by rfl, ?_⟩) hHeld ?_ ?_
  rotate_left; · rintro w' ⟨s0, s1, s2, s3, s4, s5, s6, s7, s8, s9, s10, s11, s12, s13, s14, s15⟩; go_simp; with_reducible rfl
  rotate_left; · simp only [Act.put, List.setIfInBounds_toArray, List.set_cons_zero, List.set_cons_succ, i64_w, i32_w]; rfl
  refine take_ (i := 1) (N := some 22) (v := ?_) (a' := ?_) #[true, true, false, false] rfl rfl (by kernel_rfl) (fun _ _ _ h => h) (Or.inl ⟨by rfl, ?_⟩) hHeld ?_ ?_
  rotate_left; · rintro w' ⟨s0, s1, s2, s3, s4, s5, s6, s7, s8, s9, s10, s11, s12, s13, s14, s15⟩; go_simp; with_reducible rfl
  rotate_left; · simp only [Act.put, List.setIfInBounds_toArray, List.set_cons_zero, List.set_cons_succ, i64_w, i32_w]; rfl
  refine one_ (i := 2) (N := none) #[true, true, true, false] rfl rfl (by kernel_rfl) (by decide) (fun K hK => ?_)
  obtain ⟨_, _, _, _, _, _, _, _⟩ := e6_ BK716.1
  obtain ⟨_, _, _, _, _, _, _, _⟩ := z5_ BK716.1
  have hns69_1 := NB717_716.1
  have hns69_2 := NB742_716.1
  have hns69_3 := NB743_716.1
  have hms69_1 := NB716_717.1
  have hms69_2 := NB716_742.1
  have hms69_3 := NB716_743.1
  refine skip_ (w1 := ?_) (by rfl) rfl ?_ ?_
  rotate_left
  ·
   go_simp
   rfl
  generalize hw_ : ((((((((w68.setCell ⟨gb716, 0, none⟩ (.int .i64 t718)).setCell ⟨gb716, 1, none⟩ (.int .i64 t719)).setCell ⟨gb716, 2, none⟩ (.slice Ao16 t720.length co16)).setCell ⟨gb716, 3, none⟩ (.int .i64 t723)).setCell ⟨gb716, 4, none⟩ (.int .i64 t724)).setCell ⟨gb716, 5, none⟩ (.slice Ao17 t725.length co17)).setCell ⟨gb716, 6, none⟩ (.int .i64 t728)).setCell ⟨gb716, 7, none⟩ (.int .i64 t729)) = w68s_
  replace HO722 := o_ (gwR_ hw_ (rf_ (R2_ HO722.1 BK716.1) (fun _ h_ => h_.1)))
  replace HO727 := o_ (gwR_ hw_ (rf_ (R2_ HO727.1 BK716.1) (fun _ h_ => h_.1)))
  replace HO734 := o_ (gwR_ hw_ (rf_ (R2_ HO734.1 BK716.1) (fun _ h_ => h_.1)))
  replace HO739 := o_ (gwR_ hw_ (rf_ (R2_ HO739.1 BK716.1) (fun _ h_ => h_.1)))
  replace HI747 := o_ (Eq.subst (motive := fun W_ => IsS102 _ W_ _ _ _ _) hw_ (isf8_ HI747.1 NB747_716.1))
  replace HB : Aside0 (Below w.heap.size w w68s_) := ⟨by rw [← hw_]; exact wB_⟩
  replace BK716 : Aside0 (w68s_.heap[gb716]? = some (c7_ t718 t719 Ao16 t720.length co16 t723 t724 Ao17 t725.length co17 t728 t729)) := ⟨by rw [← hw_]; exact bk_ BK716.1⟩
  replace BK717 : Aside0 (w68s_.heap[gb717]? = some (c7_ 0 0 none 0 0 0 0 none 0 0 0 0)) := ⟨by rw [← hw_]; exact bk_ BK717.1⟩
  replace BK742 : Aside0 (w68s_.heap[gb742]? = some (c7_ t718 t719 Ao16 t720.length co16 t723 t724 Ao17 t725.length co17 t728 t729)) := ⟨by rw [← hw_]; exact bk_ BK742.1⟩
  replace BK743 : Aside0 (w68s_.heap[gb743]? = some (c7_ t730 t731 Ao21 t732.length co21 t735 t736 Ao22 t737.length co22 t740 t741)) := ⟨by rw [← hw_]; exact bk_ BK743.1⟩
  clear hw_ hHeld
  refine hK.out _ _ (k1_ BK742.1 (k1e_ BK743.1)) (fun hHeld => ?_)
  clear hK K
  refine one_ (i := 3) (N := none) #[true, true, true, true] rfl rfl (by kernel_rfl) (by decide) (fun K hK => ?_)
  obtain ⟨_, _, _, _, _, _, _, _⟩ := e6_ BK717.1
  obtain ⟨_, _, _, _, _, _, _, _⟩ := z5_ BK717.1
  have hns77_0 := NB716_717.1
  have hns77_2 := NB742_717.1
  have hns77_3 := NB743_717.1
  have hms77_0 := NB717_716.1
  have hms77_2 := NB717_742.1
  have hms77_3 := NB717_743.1
  refine skip_ (w1 := ?_) (by rfl) rfl ?_ ?_
  rotate_left
  ·
   go_simp
   rfl
  refine hK.out _ _ (q1m_ (fun e_ => f10_ e_ NB742_717.1) (q1em_ (fun e_ => f10_ e_ NB743_717.1)) hHeld) (fun hHeld => ?_)
  clear hK K
  refine done_ (by kernel_rfl) ?_
  try go_wp2
  refine bodyPost_ret (results_cc rfl _ _ gb716 gb717 41 41 #[.int .i64 t718, .int .i64 t719, .slice Ao16 t720.length co16, .int .i64 t723, .int .i64 t724, .slice Ao17 t725.length co17, .int .i64 t728, .int .i64 t729] #[.int .i64 t730, .int .i64 t731, .slice Ao21 t732.length co21, .int .i64 t735, .int .i64 t736, .slice Ao22 t737.length co22, .int .i64 t740, .int .i64 t741] (0, 0) (0, 0) _ _ rfl (bk_ BK716.1) Try.underlying41 rfl (by kernel_rfl) rfl (bk_ BK717.1) Try.underlying41 rfl (by kernel_rfl)) rfl ?_
  exact ⟨_, _, _, _, rt_, rf_ (R2_ (R2_ HO722.1 BK716.1) BK717.1) (fun _ hk => ⟨hk.1.1.1, ⟨hk.1.1.2.1, hk.1.1.2.2⟩⟩), rf_ (R2_ (R2_ HO727.1 BK716.1) BK717.1) (fun _ hk => ⟨hk.1.1.1, ⟨hk.1.1.2.1, hk.1.1.2.2⟩⟩), rf_ (R2_ (R2_ HO734.1 BK716.1) BK717.1) (fun _ hk => ⟨hk.1.1.1, ⟨hk.1.1.2.1, hk.1.1.2.2⟩⟩), rf_ (R2_ (R2_ HO739.1 BK716.1) BK717.1) (fun _ hk => ⟨hk.1.1.1, ⟨hk.1.1.2.1, hk.1.1.2.2⟩⟩), wB_⟩

/-! ### spec_DrawSameOwner: function 37 -/
def spec_DrawSameOwner.f (k : Nat) (l0 : List Int) : Option (Int × Int × List Int × Int × Int × List Int × Int × Int × Int × Int × List Int × Int × Int × List Int × Int × Int) := (spec_DrawSharpen.f k l0).bind fun bt767 => (some (bt767.1, bt767.2.1, bt767.2.2.1, bt767.2.2.2.1, bt767.2.2.2.2.1, bt767.2.2.2.2.2.1, bt767.2.2.2.2.2.2.1, bt767.2.2.2.2.2.2.2.1, bt767.2.2.2.2.2.2.2.2.1, bt767.2.2.2.2.2.2.2.2.2.1, bt767.2.2.2.2.2.2.2.2.2.2.1, bt767.2.2.2.2.2.2.2.2.2.2.2.1, bt767.2.2.2.2.2.2.2.2.2.2.2.2.1, bt767.2.2.2.2.2.2.2.2.2.2.2.2.2.1, bt767.2.2.2.2.2.2.2.2.2.2.2.2.2.2.1, bt767.2.2.2.2.2.2.2.2.2.2.2.2.2.2.2))
theorem spec_DrawSameOwner.mono : ∀ a0 k, LeO (spec_DrawSameOwner.f k a0) (spec_DrawSameOwner.f (k + 1) a0) := by
  intro a0 k
  unfold spec_DrawSameOwner.f
  have jh0 := @spec_DrawSharpen.mono
  exact mo_
set_option maxHeartbeats 8000000 in
set_option maxRecDepth 100000 in
theorem spec_DrawSameOwner.calls (k : Nat) (A0 : Option Addr) (c0 : Nat) (l0 : List Int) (r1 : Int) (r2 : Int) (r3 : List Int) (r4 : Int) (r5 : Int) (r6 : List Int) (r7 : Int) (r8 : Int) (r9 : Int) (r10 : Int) (r11 : List Int) (r12 : Int) (r13 : Int) (r14 : List Int) (r15 : Int) (r16 : Int) (w : World) (hr0 : Kd.C (Kd.int .u8) w A0 l0.length l0) (hc0 : l0.length ≤ c0) (h : spec_DrawSameOwner.f k l0 = some (r1, r2, r3, r4, r5, r6, r7, r8, r9, r10, r11, r12, r13, r14, r15, r16)) :
    Calls Try.prog 37 #[.slice A0 l0.length c0] w fun e w' => ∃ v2_ v5_ v10_ v13_ : Value, e = .returned (.tuple #[.agg #[.int .i64 r1, .int .i64 r2, v2_, .int .i64 r4, .int .i64 r5, v5_, .int .i64 r7, .int .i64 r8], .agg #[.int .i64 r9, .int .i64 r10, v10_, .int .i64 r12, .int .i64 r13, v13_, .int .i64 r15, .int .i64 r16]]) ∧ Kd.R (Kd.int .i64) 3 w' w.heap.size (fun k_ => some k_ ≠ (v5_ : Value).ownBlock ∧ some k_ ≠ (v10_ : Value).ownBlock ∧ some k_ ≠ (v13_ : Value).ownBlock) v2_ r3 ∧ Kd.R (Kd.int .i64) 3 w' w.heap.size (fun k_ => some k_ ≠ (v2_ : Value).ownBlock ∧ some k_ ≠ (v10_ : Value).ownBlock ∧ some k_ ≠ (v13_ : Value).ownBlock) v5_ r6 ∧ Kd.R (Kd.int .i64) 3 w' w.heap.size (fun k_ => some k_ ≠ (v2_ : Value).ownBlock ∧ some k_ ≠ (v5_ : Value).ownBlock ∧ some k_ ≠ (v13_ : Value).ownBlock) v10_ r11 ∧ Kd.R (Kd.int .i64) 3 w' w.heap.size (fun k_ => some k_ ≠ (v2_ : Value).ownBlock ∧ some k_ ≠ (v5_ : Value).ownBlock ∧ some k_ ≠ (v10_ : Value).ownBlock) v13_ r14 ∧ Below w.heap.size w w' := by
  have hu41 := Try.underlying41
  have HR0 := o_ hr0
  have HC0 := o_ hc0
  clear hr0 hc0
  have HB := o_ (Below.refl w.heap.size w)
  have H := h
  unfold spec_DrawSameOwner.f at H
  clear h
  obtain ⟨⟨t767, t768, t769, t772, t773, t774, t777, t778, t779, t780, t781, t784, t785, t786, t789, t790⟩, A2, H⟩ := ob_ H
  try dsimp only at H
  simp only [Option.some.injEq, Prod.mk.injEq] at H
  obtain ⟨rfl, rfl, rfl, rfl, rfl, rfl, rfl, rfl, rfl, rfl, rfl, rfl, rfl, rfl, rfl, rfl⟩ := H
  go_enter Try.func37, Try.ntmps37
  go_wp2_with (first | ((with_reducible refine gate_dst (N := 2) rfl ?_); refine bx_ 2 #[.int .i64 0, .int .i64 0, .slice none 0 0, .int .i64 0, .int .i64 0, .slice none 0 0, .int .i64 0, .int .i64 0] 41 ?_; intro gb765 hg w3 hbox hb; have BK765 := o_ (hbox); have GW765 := o_ ((by rw [hg]; exact (below_size (hd_ HB.1)) : w.heap.size ≤ gb765)); replace HB := o_ (below_step (hd_ HB.1) hb); have GE765 := GW765; clear hb hbox hg) | ((with_reducible refine gate_dst (N := 3) rfl ?_); refine bx_ 3 #[.int .i64 0, .int .i64 0, .slice none 0 0, .int .i64 0, .int .i64 0, .slice none 0 0, .int .i64 0, .int .i64 0] 41 ?_; intro gb766 hg w4 hbox hb; have BK766 := o_ (hbox); have GW766 := o_ ((by rw [hg]; exact (below_size wB_) : w.heap.size ≤ gb766)); replace HB := o_ (below_step wB_ hb); have GE766 := GW766; have NB765_766 := o_ ((by rw [hg]; exact Nat.ne_of_lt (blk_lt (bd_ BK765.1)) : gb765 ≠ gb766)); have NB766_765 := o_ ((by rw [hg]; exact Nat.ne_of_gt (blk_lt (bd_ BK765.1)) : gb766 ≠ gb765)); replace BK765 := o_ (blk_below (bd_ BK765.1) hb); clear hb hbox hg) | ((with_reducible refine g_ 63 ?_); refine gl_ (some 5) Try.func63 #[.slice A0 l0.length c0] ?_; (with_reducible refine (spec_DrawSharpen.calls k _ _ l0 t767 t768 t769 t772 t773 t774 t777 t778 t779 t780 t781 t784 t785 t786 t789 t790 _ (cd_ (Kd.C_below HR0.1 HB.1)) HC0.1 A2.1).mono ?_); rintro e w5 ⟨v770, v775, v782, v787, rfl, ho0, ho1, ho2, ho3, hb⟩; refine ⟨_, rfl, ?_⟩; have HO771 := o_ (Kd.R_lower ho0 (below_size wB_)); have HO776 := o_ (Kd.R_lower ho1 (below_size wB_)); have HO783 := o_ (Kd.R_lower ho2 (below_size wB_)); have HO788 := o_ (Kd.R_lower ho3 (below_size wB_)); replace BK765 := o_ (blk_below (bd_ BK765.1) hb); replace BK766 := o_ (blk_below (bd_ BK766.1) hb); replace HB := o_ (below_step wB_ hb); (try clear hb ho0 ho1 ho2 ho3); have hnb6 := NB765_766.1; have hnc6 := NB766_765.1; obtain ⟨_, _, _, _, _, _, _, _⟩ := e6_ BK765.1; obtain ⟨_, _, _, _, _, _, _, _⟩ := z5_ BK765.1; obtain ⟨Ao8, co8, eo8⟩ := Kd.R_slice HO771.1; subst eo8; obtain ⟨Ao9, co9, eo9⟩ := Kd.R_slice HO776.1; subst eo9; obtain ⟨_, _, _, _, _, _, _, _⟩ := e6_ BK766.1; obtain ⟨_, _, _, _, _, _, _, _⟩ := z5_ BK766.1; obtain ⟨Ao11, co11, eo11⟩ := Kd.R_slice HO783.1; subst eo11; obtain ⟨Ao12, co12, eo12⟩ := Kd.R_slice HO788.1; subst eo12))
  refine bodyPost_ret (results_cc rfl _ _ gb765 gb766 41 41 #[.int .i64 t767, .int .i64 t768, .slice Ao8 t769.length co8, .int .i64 t772, .int .i64 t773, .slice Ao9 t774.length co9, .int .i64 t777, .int .i64 t778] #[.int .i64 t779, .int .i64 t780, .slice Ao11 t781.length co11, .int .i64 t784, .int .i64 t785, .slice Ao12 t786.length co12, .int .i64 t789, .int .i64 t790] (0, 0) (0, 0) _ _ rfl (bk_ BK765.1) Try.underlying41 rfl (by kernel_rfl) rfl (bk_ BK766.1) Try.underlying41 rfl (by kernel_rfl)) rfl ?_
  exact ⟨_, _, _, _, rt_, rf_ (R2_ (R2_ HO771.1 BK765.1) BK766.1) (fun _ hk => ⟨hk.1.1.1, ⟨hk.1.1.2.1, hk.1.1.2.2⟩⟩), rf_ (R2_ (R2_ HO776.1 BK765.1) BK766.1) (fun _ hk => ⟨hk.1.1.1, ⟨hk.1.1.2.1, hk.1.1.2.2⟩⟩), rf_ (R2_ (R2_ HO783.1 BK765.1) BK766.1) (fun _ hk => ⟨hk.1.1.1, ⟨hk.1.1.2.1, hk.1.1.2.2⟩⟩), rf_ (R2_ (R2_ HO788.1 BK765.1) BK766.1) (fun _ hk => ⟨hk.1.1.1, ⟨hk.1.1.2.1, hk.1.1.2.2⟩⟩), wB_⟩

/-! ### spec_l7List: function 65 -/
mutual
def spec_l7List.l0 : Nat → List (S41) → Int → List Int → Int → Int → Option ((List (S41)) × Int × Int)
  | 0, _, _, _, _, _ => none
  | k + 1, x3, x4, x1000, x1001, x1002 => (spec_l1Below.f x1000 x1001 x1002 6).bind fun bt794 => (if x4 ≤ bt794.1 then ((spec_l7Draw.f k x1000 bt794.2.1 bt794.2.2 (wrap64 (3 * x4))).bind fun bt797 => (if x3.length < 1466015503701 then (spec_l7List.l0 k (x3 ++ [(⟨bt797.1, bt797.2.1, bt797.2.2.1, bt797.2.2.2.1, bt797.2.2.2.2.1, bt797.2.2.2.2.2.1, (⟨bt797.2.2.2.2.2.2.1, bt797.2.2.2.2.2.2.2.1⟩ : S39)⟩ : S41)]) (wrap64 (x4 + 1)) x1000 bt797.2.2.2.2.2.2.2.2.1 bt797.2.2.2.2.2.2.2.2.2) else (none))) else (if (x3.length : Int) > 0 then ((spec_l1Once.f x1000 bt794.2.1 bt794.2.2 8).bind fun bt814 => (spec_l7List.j1 k x3 bt814.1 x1000 bt814.2.1 bt814.2.2)) else (spec_l7List.j1 k x3 false x1000 bt794.2.1 bt794.2.2)))
def spec_l7List.j1 : Nat → List (S41) → Bool → List Int → Int → Int → Option ((List (S41)) × Int × Int)
  | 0, _, _, _, _, _ => none
  | k + 1, x3, x25, x1000, x1001, x1002 => if x25 = true then ((spec_l1Below.f x1000 x1001 x1002 (x3.length : Int)).bind fun bt817 => ((spec_l7Any.f k x1000 bt817.2.1 bt817.2.2).bind fun bt820 => (if 0 ≤ bt817.1 then (if bt817.1 < (x3.length : Int) then (some ((x3.set (bt817.1 : Int).toNat (⟨bt820.1, bt820.2.1, bt820.2.2.1, bt820.2.2.2.1, bt820.2.2.2.2.1, bt820.2.2.2.2.2.1, (⟨bt820.2.2.2.2.2.2.1, bt820.2.2.2.2.2.2.2.1⟩ : S39)⟩ : S41)), bt820.2.2.2.2.2.2.2.2.1, bt820.2.2.2.2.2.2.2.2.2)) else (none)) else (none)))) else (some (x3, x1001, x1002))
end
def spec_l7List.f (k : Nat) (s0_0 : List Int) (s0_1 : Int) (s0_2 : Int) : Option ((List (S41)) × Int × Int) := spec_l7List.l0 k (([] : List (S41))) 1 s0_0 s0_1 s0_2
theorem spec_l7List.mono_l : ∀ k, (∀ y0 y1 y2 y3 y4, LeO (spec_l7List.l0 k y0 y1 y2 y3 y4) (spec_l7List.l0 (k + 1) y0 y1 y2 y3 y4)) ∧ (∀ y0 y1 y2 y3 y4, LeO (spec_l7List.j1 k y0 y1 y2 y3 y4) (spec_l7List.j1 (k + 1) y0 y1 y2 y3 y4))
  | 0 => ⟨fun _ _ _ _ _ r h => by simp [spec_l7List.l0] at h, fun _ _ _ _ _ r h => by simp [spec_l7List.j1] at h⟩
  | k + 1 => by
    obtain ⟨ih0, ih1⟩ := spec_l7List.mono_l k
    refine ⟨?_, ?_⟩
    · intro y0 y1 y2 y3 y4
      unfold spec_l7List.l0
      have jh0 := @spec_l7Any.mono
      have jh1 := @spec_l7Draw.mono
      exact mo_
    · intro y0 y1 y2 y3 y4
      unfold spec_l7List.j1
      have jh0 := @spec_l7Any.mono
      have jh1 := @spec_l7Draw.mono
      exact mo_
theorem spec_l7List.mono : ∀ a0 a1 a2 k, LeO (spec_l7List.f k a0 a1 a2) (spec_l7List.f (k + 1) a0 a1 a2) := by
  intro a0 a1 a2 k
  obtain ⟨ih0, ih1⟩ := spec_l7List.mono_l k
  unfold spec_l7List.f
  have jh0 := @spec_l7Any.mono
  have jh1 := @spec_l7Draw.mono
  exact mo_
set_option maxHeartbeats 8000000 in
set_option maxRecDepth 100000 in
theorem spec_l7List.calls (k : Nat) (g : Nat) (s0_0 : List Int) (s0_1 : Int) (s0_2 : Int) (r1 : List (S41)) (r2 : Int) (r3 : Int) (w0 w : World) (hI : IsS102 w0 w g s0_0 s0_1 s0_2) (hB : Below w0.heap.size w0 w) (h : spec_l7List.f k s0_0 s0_1 s0_2 = some (r1, r2, r3)) :
    Calls Try.prog 65 #[.pointer (some ⟨g, 0, none⟩)] w fun e w' => ∃ v0_ : Value, e = .returned (v0_) ∧ Kd.S k41 41 w' w.heap.size (fun _ => True) v0_ r1 ∧ IsS102 w0 w' g s0_0 r2 r3 ∧ Below w0.heap.size w0 w' ∧ KeepBut w w' g none := by
  have hu41 := Try.underlying41
  have HI0 := o_ hI
  have HK := o_ (KeepBut.refl w g none)
  have HL := o_ hB.size
  clear hI
  have HW0 := o_ hB.size
  have HB := o_ hB
  clear hB
  have H : (spec_l7List.l0 k (([] : List (S41))) 1 s0_0 s0_1 s0_2) = some (r1, r2, r3) := h
  clear h
  obtain ⟨y791, hy791⟩ : ∃ y_ : List (S41), y_ = (([] : List (S41))) := ⟨_, rfl⟩
  replace H : (spec_l7List.l0 k y791 1 s0_0 s0_1 s0_2) = some (r1, r2, r3) := hy_ H hy791
  have Ny791 := o_ hy791
  clear hy791
  have H' := o_ H
  clear H
  go_enter Try.func65, Try.ntmps65
  go_wp2_with (first | ((with_reducible refine gate_dst (N := 5) rfl ?_); refine Kd.S_lit k41 _ 41 ?hg (N := 5) ?hd (xs := ([] : List (S41))) (inner := []) (ok := fun _ => True) (okp := fun _ => True) ?hr ?hp (fun _ hk => hk) trivial (Below.refl _ _) (Nat.le_refl _) (by simp) ?_; (case hd => rfl); (case hg => rfl); (case hr => first | (go_simp; done) | (go_simp; rfl)); (case hp => exact (Reps.none _ _)); intro v792 w2 ho3 hb hg_ hnew_; clear hg_ hnew_; (first | rw [← Ny791.1] at ho3 | (simp only [Int.reduceToNat] at ho3; rw [← Ny791.1] at ho3)); have HO793 := o_ (Kd.S_lower ho3 (keep_size (w := w) (g := g) (row := none) wK_)); replace HK := o_ (KeepBut.trans wK_ (KeepBut.of_below hb g none) (.inl rfl)); replace HB := o_ (below_step (wB_) hb); replace HI0 := o_ (IsS102.below (wI_) hb); clear hb ho3))
  go_loopg [3, 4] k (fun kq v3 v4 w' => ∃ (x3_1 : List (S41)) (x4_1 : Int) (x1001_1 : Int) (x1002_1 : Int), v4 = .int .i64 x4_1 ∧ Aside0 (spec_l7List.l0 kq x3_1 x4_1 s0_0 x1001_1 x1002_1 = some (r1, r2, r3)) ∧ Aside0 (kq ≤ k) ∧ Aside0 (Kd.S k41 41 w' w.heap.size (fun _ => True) v3 x3_1) ∧ Aside0 (IsS102 w0 w' g s0_0 x1001_1 x1002_1) ∧ Aside0 (KeepBut w w' g none) ∧ Aside0 (Below w0.heap.size w0 w'))
  case atStart => exact ⟨(y791), (1), (s0_1), (s0_2), rs_, H', ⟨Nat.le_refl _⟩, ⟨by (with_reducible repeat (first | apply Kd.S_alloc | apply Kd.S_drewN | apply Kd.S_drew)); exact HO793.1⟩, ⟨wI_⟩, ⟨wK_⟩, ⟨wB_⟩⟩
  case round =>
    clear H'
    try clear p2
    obtain ⟨x3_1, x4_1, x1001_1, x1002_1, rfl, HA, HK1, HO_3, HI0, HK, HB⟩ := hrel
    cases gk with
    | zero => exact absurd HA.1 (by simp [spec_l7List.l0])
    | succ k1 =>
      have H := HA.1
      clear HA
      simp only [spec_l7List.l0] at H
      obtain ⟨⟨t794, t795, t796⟩, A4, H⟩ := ob_ H
      try dsimp only at H
      by_cases c5 : x4_1 ≤ t794
      · rw [if_pos c5] at H
        have c5b0 := decide_eq_true c5
        clear c5
        obtain ⟨⟨t797, t798, t799, t802, t803, t804, t807, t808, t809, t810⟩, A6, H⟩ := ob_ H
        try dsimp only at H
        by_cases c7 : x3_1.length < 1466015503701
        · rw [if_pos c7] at H
          have LMc7 := o_ c7
          clear c7
          obtain ⟨y811, hy811⟩ : ∃ y_ : List (S41), y_ = (x3_1 ++ [(⟨t797, t798, t799, t802, t803, t804, (⟨t807, t808⟩ : S39)⟩ : S41)]) := ⟨_, rfl⟩
          replace H : (spec_l7List.l0 k1 y811 (wrap64 (x4_1 + 1)) s0_0 t809 t810) = some (r1, r2, r3) := hy_ H hy811
          have Ny811 := o_ hy811
          clear hy811
          have H' := o_ H
          clear H
          go_wp2_with (first | ((with_reducible refine g_ 84 ?_); refine gl_ (some 8) Try.func84 #[.pointer (some ⟨g, 0, none⟩), .int .i64 6] ?_; (with_reducible refine (spec_l1Below.calls g s0_0 x1001_1 x1002_1 6 t794 t795 t796 w0 _ wI_ wB_ A4.1).mono ?_); rintro e w8 ⟨rfl, hi, hb, hk⟩; refine ⟨_, rfl, ?_⟩; replace HO_3 := o_ (Kd.S_mono (Kd.S_keep (IsS102.apartS (show IsS102 w0 _ g s0_0 x1001_1 x1002_1 from wI_) y506_ (by decide)) hk (fun _ h => h.2)) (fun _ h => h.1)); replace HK := o_ (KeepBut.trans wK_ hk (.inl rfl)); replace HB := o_ (hb); replace HI0 := o_ (hi); (try clear hb hk hi)) | ((with_reducible refine g_ 90 ?_); refine gl_ (some 16) Try.func90 #[.pointer (some ⟨g, 0, none⟩), .int .i64 (wrap64 (3 * x4_1))] ?_; (with_reducible refine (spec_l7Draw.calls k1 g s0_0 t795 t796 (wrap64 (3 * x4_1)) t797 t798 t799 t802 t803 t804 t807 t808 t809 t810 w0 _ wI_ wB_ A6.1).mono ?_); rintro e w9 ⟨v800, v805, rfl, ho0, ho1, hi, hb, hk⟩; refine ⟨_, rfl, ?_⟩; replace HO_3 := o_ (Kd.S_mono (Kd.S_told (Kd.S_told (Kd.S_oldK (IsS102.apartS (show IsS102 w0 _ g s0_0 t795 t796 from wI_) y506_ (by decide)) hk) (Kd.R_base ho0)) (Kd.R_base ho1)) (fun _ h_ => h_.1)); have HO801 := o_ (Kd.R_lower ho0 (keep_size (w := w) (g := g) (row := none) wK_)); have HO806 := o_ (Kd.R_lower ho1 (keep_size (w := w) (g := g) (row := none) wK_)); replace HK := o_ (KeepBut.trans wK_ hk (.inl rfl)); replace HB := o_ (hb); replace HI0 := o_ (hi); (try clear hb hk hi ho0 ho1); obtain ⟨Ao11, co11, eo11⟩ := Kd.R_slice HO801.1; subst eo11; obtain ⟨Ao12, co12, eo12⟩ := Kd.R_slice HO806.1; subst eo12) | ((with_reducible refine gate_builtin (b := .append) (xs := #[.tmp 12, .tmp 17]) rfl ?_); at_builtin; refine Kd.S_append k41 w.heap.size rfl (.tmp 12) (.tmp 17) 48 41 (.agg #[(.int .i64 0), (.int .i64 0), (.slice none 0 0), (.int .i64 0), (.int .i64 0), (.slice none 0 0), (.int .i64 0), (.int .i64 0)]) 96 rfl Try.underlying48 info41 rfl (by decide) (by omega) u3 x3_1 (⟨t797, t798, t799, t802, t803, t804, (⟨t807, t808⟩ : S39)⟩ : S41) [.int .i64 t797, .int .i64 t798, .slice Ao11 t799.length co11, .int .i64 t802, .int .i64 t803, .slice Ao12 t804.length co12, .int .i64 t807, .int .i64 t808] (fun _ => True) (fun k_ => some k_ = (.slice Ao11 t799.length co11 : Value).ownBlock ∨ some k_ = (.slice Ao12 t804.length co12 : Value).ownBlock) rfl rfl ?aP (fun k_ hk_ => hk_.elim (fun h_ => ((Kd.R_mono (ok' := fun k_ => ((fun _ => True)) k_ ∧ some k_ ≠ (u3 : Value).ownBlock) (Kd.R_apart' (HO801.1) (Kd.S_typed HO_3.1) (by decide)) (fun k_ hk => ⟨trivial, hk.2⟩))).1 k_ h_.symm) (fun h_ => ((Kd.R_mono (ok' := fun k_ => ((fun _ => True)) k_ ∧ some k_ ≠ (u3 : Value).ownBlock) (Kd.R_apart' (HO806.1) (Kd.S_typed HO_3.1) (by decide)) (fun k_ hk => ⟨trivial, hk.2⟩))).1 k_ h_.symm)) ?aF ?aO (Below.refl _ _) ?aS ?aL ?_; (case aP => exact k41_mkM _ _ _ (⟨t797, t798, t799, t802, t803, t804, (⟨t807, t808⟩ : S39)⟩ : S41) (Kd.R_mono (Kd.R_tight rfl (Kd.R_mono (ok' := fun k_ => ((fun _ => True)) k_ ∧ some k_ ≠ (u3 : Value).ownBlock) (Kd.R_apart' (HO801.1) (Kd.S_typed HO_3.1) (by decide)) (fun k_ hk => ⟨trivial, hk.2⟩))) (fun _ h_ => Or.inl h_)) (Kd.R_mono (Kd.R_tight rfl (Kd.R_mono (ok' := fun k_ => ((fun _ => True)) k_ ∧ some k_ ≠ (u3 : Value).ownBlock) (Kd.R_apart' (HO806.1) (Kd.S_typed HO_3.1) (by decide)) (fun k_ hk => ⟨trivial, hk.2⟩))) (fun _ h_ => Or.inr (h_)))); (case aF => exact (fun _ _ => trivial)); (case aO => exact (by (with_reducible repeat (first | apply Kd.S_alloc | apply Kd.S_drewN | apply Kd.S_drew)); exact Kd.S_mono HO_3.1 (fun k_ hk => ⟨trivial, fun e_ => e_.elim (fun h_ => hk.1.2 h_) (fun h_ => hk.2 h_)⟩))); (case aS => exact (keep_size (w := w) (g := g) (row := none) wK_)); (case aL => have := LMc7.1; omega); intro v812 w10 ho hb hg hat; rw [← Ny811.1] at ho; replace HB := o_ (below_weaken (wB_) HL.1 hb); replace HI0 := o_ (IsS102.grown (wI_) hg (IsS102.own_neS HI0.1 HO_3.1 (by decide))); replace HK := o_ (KeepBut.trans wK_ (KeepBut.of_grown hg g) (Kd.S_base2 HO_3.1)); have HO813 := o_ (ho); clear HO_3 HO801 HO806 ho hb hg hat))
          go_roundg k1
          case measure => have := HK1.1; omega
          case rel => exact ⟨(y811), (wrap64 (x4_1 + 1)), (t809), (t810), rs_, H', ⟨by have := HK1.1; omega⟩, ⟨by (with_reducible repeat (first | apply Kd.S_alloc | apply Kd.S_drewN | apply Kd.S_drew)); exact HO813.1⟩, ⟨wI_⟩, ⟨wK_⟩, ⟨wB_⟩⟩
        · rw [if_neg c7] at H
          exact absurd H (by simp)
      · rw [if_neg c5] at H
        have c5b0 := decide_eq_false c5
        clear c5
        have HC13 := o_ H
        clear H
        go_upto_region 6 with (first | ((with_reducible refine g_ 84 ?_); refine gl_ (some 8) Try.func84 #[.pointer (some ⟨g, 0, none⟩), .int .i64 6] ?_; (with_reducible refine (spec_l1Below.calls g s0_0 x1001_1 x1002_1 6 t794 t795 t796 w0 _ wI_ wB_ A4.1).mono ?_); rintro e w14 ⟨rfl, hi, hb, hk⟩; refine ⟨_, rfl, ?_⟩; replace HO_3 := o_ (Kd.S_mono (Kd.S_keep (IsS102.apartS (show IsS102 w0 _ g s0_0 x1001_1 x1002_1 from wI_) y506_ (by decide)) hk (fun _ h => h.2)) (fun _ h => h.1)); replace HK := o_ (KeepBut.trans wK_ hk (.inl rfl)); replace HB := o_ (hb); replace HI0 := o_ (hi); (try clear hb hk hi)))
        (try simp only [Act.put, List.setIfInBounds_toArray, List.set_cons_zero, List.set_cons_succ])
        go_cut [25] (fun v25 wc => ∃ (kq : Nat) (x25_12 : Bool) (x1001_12 : Int) (x1002_12 : Int), v25 = .bool x25_12 ∧ Aside0 (spec_l7List.j1 kq x3_1 x25_12 s0_0 x1001_12 x1002_12 = some (r1, r2, r3)) ∧ Aside0 (kq ≤ k1) ∧ Aside0 (Kd.S k41 41 wc w.heap.size (fun _ => True) u3 x3_1) ∧ Aside0 (IsS102 w0 wc g s0_0 x1001_12 x1002_12) ∧ Aside0 (KeepBut w wc g none) ∧ Aside0 (Below w0.heap.size w0 wc))
        case first =>
          have H := HC13.1
          clear HC13
          by_cases c15 : (x3_1.length : Int) > 0
          · rw [if_pos c15] at H
            have c15b0 := decide_eq_true c15
            have c15b1 : decide (0 < x3_1.length) = true := decide_eq_true (by omega)
            clear c15
            (first | rw [c15b0] | (simp only [i64_w, i32_w]; rw [c15b0]) | skip)
            obtain ⟨⟨t814, t815, t816⟩, A16, H⟩ := ob_ H
            try dsimp only at H
            have H' := o_ H
            clear H
            obtain ⟨Ao17, co17, eo17⟩ := Kd.S_slice HO_3.1
            subst eo17
            go_wp2_with (first | (go_at_call 66; (with_reducible refine (spec_l1Once.calls g s0_0 t795 t796 8 t814 t815 t816 w0 _ wI_ wB_ A16.1).mono ?_); rintro e w18 ⟨rfl, hi, hb, hk⟩; replace HO_3 := o_ (Kd.S_mono (Kd.S_keep (IsS102.apartS (show IsS102 w0 _ g s0_0 t795 t796 from wI_) y506_ (by decide)) hk (fun _ h => h.2)) (fun _ h => h.1)); replace HK := o_ (KeepBut.trans wK_ hk (.inl rfl)); replace HB := o_ (hb); replace HI0 := o_ (hi); (try clear hb hk hi)))
            go_meet
            case rel => exact ⟨_, (t814), (t815), (t816), rs_, H', ⟨by have := HK1.1; first | omega | exact Nat.le_refl _⟩, ⟨by (with_reducible repeat (first | apply Kd.S_alloc | apply Kd.S_drewN | apply Kd.S_drew)); exact HO_3.1⟩, ⟨wI_⟩, ⟨wK_⟩, ⟨wB_⟩⟩
          · rw [if_neg c15] at H
            have c15b0 := decide_eq_false c15
            have c15b1 : decide (0 < x3_1.length) = false := decide_eq_false (by omega)
            clear c15
            (first | rw [c15b0] | (simp only [i64_w, i32_w]; rw [c15b0]) | skip)
            have H' := o_ H
            clear H
            obtain ⟨Ao19, co19, eo19⟩ := Kd.S_slice HO_3.1
            subst eo19
            go_wp2
            go_meet
            case rel => exact ⟨_, (false), (t795), (t796), rs_, H', ⟨by have := HK1.1; first | omega | exact Nat.le_refl _⟩, ⟨by (with_reducible repeat (first | apply Kd.S_alloc | apply Kd.S_drewN | apply Kd.S_drew)); exact HO_3.1⟩, ⟨wI_⟩, ⟨wK_⟩, ⟨wB_⟩⟩
        case rest =>
          clear HC13
          try clear c1
          try clear p2
          try clear c5
          try clear c5b0
          try clear c6
          try clear p6
          try clear c7
          try clear c8
          try clear c9
          try clear c15
          try clear c15b0
          try clear c15b1
          try clear p2
          obtain ⟨kq, x25_12, x1001_12, x1002_12, rfl, HA, HJ12, HO_3, HI0, HK, HB⟩ := hcut
          cases kq with
          | zero => exact absurd HA.1 (by simp [spec_l7List.j1])
          | succ kj12 =>
            have H := HA.1
            clear HA
            simp only [spec_l7List.j1] at H
            by_cases c20 : x25_12 = true
            · subst c20
              have H1 := H
              rw [if_pos rfl] at H1
              clear H
              have H := H1
              clear H1
              obtain ⟨⟨t817, t818, t819⟩, A21, H⟩ := ob_ H
              try dsimp only at H
              obtain ⟨⟨t820, t821, t822, t825, t826, t827, t830, t831, t832, t833⟩, A22, H⟩ := ob_ H
              try dsimp only at H
              by_cases c23 : 0 ≤ t817
              · rw [if_pos c23] at H
                have c23b0 := decide_eq_true c23
                clear c23
                by_cases c24 : t817 < (x3_1.length : Int)
                · rw [if_pos c24] at H
                  have c24b0 := decide_eq_true c24
                  clear c24
                  obtain ⟨y834, hy834⟩ : ∃ y_ : List (S41), y_ = (x3_1.set (t817 : Int).toNat (⟨t820, t821, t822, t825, t826, t827, (⟨t830, t831⟩ : S39)⟩ : S41)) := ⟨_, rfl⟩
                  replace H : (some (y834, t832, t833)) = some (r1, r2, r3) := hy_ H hy834
                  have Ny834 := o_ hy834
                  clear hy834
                  simp only [Option.some.injEq, Prod.mk.injEq] at H
                  obtain ⟨rfl, rfl, rfl⟩ := H
                  obtain ⟨Ao26, co26, eo26⟩ := Kd.S_slice HO_3.1
                  subst eo26
                  go_wp2_with (first | ((with_reducible refine g_ 84 ?_); refine gl_ (some 30) Try.func84 #[.pointer (some ⟨g, 0, none⟩), .int .i64 (x3_1.length : Int)] ?_; (with_reducible refine (spec_l1Below.calls g s0_0 x1001_12 x1002_12 (x3_1.length : Int) t817 t818 t819 w0 _ wI_ wB_ A21.1).mono ?_); rintro e w27 ⟨rfl, hi, hb, hk⟩; refine ⟨_, rfl, ?_⟩; replace HO_3 := o_ (Kd.S_mono (Kd.S_keep (IsS102.apartS (show IsS102 w0 _ g s0_0 x1001_12 x1002_12 from wI_) y506_ (by decide)) hk (fun _ h => h.2)) (fun _ h => h.1)); replace HK := o_ (KeepBut.trans wK_ hk (.inl rfl)); replace HB := o_ (hb); replace HI0 := o_ (hi); (try clear hb hk hi)) | ((with_reducible refine g_ 89 ?_); refine gl_ (some 32) Try.func89 #[.pointer (some ⟨g, 0, none⟩)] ?_; (with_reducible refine (spec_l7Any.calls kj12 g s0_0 t818 t819 t820 t821 t822 t825 t826 t827 t830 t831 t832 t833 w0 _ wI_ wB_ A22.1).mono ?_); rintro e w28 ⟨v823, v828, rfl, ho0, ho1, hi, hb, hk⟩; refine ⟨_, rfl, ?_⟩; replace HO_3 := o_ (Kd.S_mono (Kd.S_told (Kd.S_told (Kd.S_oldK (IsS102.apartS (show IsS102 w0 _ g s0_0 t818 t819 from wI_) y506_ (by decide)) hk) (Kd.R_base ho0)) (Kd.R_base ho1)) (fun _ h_ => h_.1)); have HO824 := o_ (Kd.R_lower ho0 (keep_size (w := w) (g := g) (row := none) wK_)); have HO829 := o_ (Kd.R_lower ho1 (keep_size (w := w) (g := g) (row := none) wK_)); replace HK := o_ (KeepBut.trans wK_ hk (.inl rfl)); replace HB := o_ (hb); replace HI0 := o_ (hi); (try clear hb hk hi ho0 ho1); have p25 : 0 ≤ (t817 : Int) := of_decide_eq_true as_; have q25 : (t817 : Int) < ((x3_1.length : Int) : Int) := of_decide_eq_true as_; obtain ⟨go25, co25, eo25, gb25, gl25, cl25, HG25⟩ := Kd.S_form HO_3.1 (by omega); (first | cases eo25 | (injection eo25 with ea_ en_ ec_; (first | subst ea_ | (injection ea_ with ea_; subst ea_)); subst ec_; clear en_)); have GB25 := o_ gb25; have GG25 := o_ HG25; clear gb25 gl25 HG25; obtain ⟨_, ce25, hcl25, hM25, hcc25, hfr25, _, _⟩ := Kd.S_elem HO_3.1 z41 (t817 : Int) p25 q25; obtain ⟨ve25_2, ve25_5, rfl, ge25_2, ge25_5⟩ := k41_openM hM25; have hx25_0 : w28.cell? ⟨go25, (t817 : Int).toNat * 8, none⟩ = some (.int .i64 ((rd_T41 x3_1 t817).f0)) := hcc25 0 _ rfl; have hx25_1 : w28.cell? ⟨go25, (t817 : Int).toNat * 8 + 1, none⟩ = some (.int .i64 ((rd_T41 x3_1 t817).f1)) := hcc25 1 _ rfl; have hx25_2 : w28.cell? ⟨go25, (t817 : Int).toNat * 8 + 2, none⟩ = some (ve25_2) := hcc25 2 _ rfl; have hx25_3 : w28.cell? ⟨go25, (t817 : Int).toNat * 8 + 3, none⟩ = some (.int .i64 ((rd_T41 x3_1 t817).f3)) := hcc25 3 _ rfl; have hx25_4 : w28.cell? ⟨go25, (t817 : Int).toNat * 8 + 4, none⟩ = some (.int .i64 ((rd_T41 x3_1 t817).f4)) := hcc25 4 _ rfl; have hx25_5 : w28.cell? ⟨go25, (t817 : Int).toNat * 8 + 5, none⟩ = some (ve25_5) := hcc25 5 _ rfl; have hx25_6 : w28.cell? ⟨go25, (t817 : Int).toNat * 8 + 6, none⟩ = some (.int .i64 ((rd_T41 x3_1 t817).f6.f0)) := hcc25 6 _ rfl; have hx25_7 : w28.cell? ⟨go25, (t817 : Int).toNat * 8 + 7, none⟩ = some (.int .i64 ((rd_T41 x3_1 t817).f6.f1)) := hcc25 7 _ rfl; have hf25_0 : w28.frozen? ⟨go25, (t817 : Int).toNat * 8, none⟩ = false := hfr25 0; have hf25_1 : w28.frozen? ⟨go25, (t817 : Int).toNat * 8 + 1, none⟩ = false := hfr25 1; have hf25_2 : w28.frozen? ⟨go25, (t817 : Int).toNat * 8 + 2, none⟩ = false := hfr25 2; have hf25_3 : w28.frozen? ⟨go25, (t817 : Int).toNat * 8 + 3, none⟩ = false := hfr25 3; have hf25_4 : w28.frozen? ⟨go25, (t817 : Int).toNat * 8 + 4, none⟩ = false := hfr25 4; have hf25_5 : w28.frozen? ⟨go25, (t817 : Int).toNat * 8 + 5, none⟩ = false := hfr25 5; have hf25_6 : w28.frozen? ⟨go25, (t817 : Int).toNat * 8 + 6, none⟩ = false := hfr25 6; have hf25_7 : w28.frozen? ⟨go25, (t817 : Int).toNat * 8 + 7, none⟩ = false := hfr25 7; clear hcl25 hcc25 hfr25 hM25; replace p25 := eq_true p25; replace q25 := eq_true q25; have n_ := o_ (Kd.S_mono (ok' := (fun k_ => some k_ ≠ (v823 : Value).ownBlock ∧ some k_ ≠ (v828 : Value).ownBlock)) HO_3.1 (fun k_ hk => ⟨hk.1.2, hk.2⟩)); clear HO_3; have HO_3 := n_; clear n_; have HX29 := o_ (show Kd.S k41 41 w28 w.heap.size (fun k_ => ((fun _ => True)) k_ ∧ ¬ ((fun k_ => some k_ = (v823 : Value).ownBlock ∨ some k_ = (v828 : Value).ownBlock)) k_) (.slice (some ⟨go25, 0, none⟩) x3_1.length co26) x3_1 from (by (with_reducible repeat (first | apply Kd.S_alloc | apply Kd.S_drewN | apply Kd.S_drew)); exact Kd.S_mono HO_3.1 (fun k_ hk => ⟨trivial, fun e_ => e_.elim (fun h_ => hk.1 h_) (fun h_ => hk.2 h_)⟩))); obtain ⟨oki29, ce29, hcl29, hM29, hcc29, hfr29, hoki29, hH29⟩ := Kd.S_elem HX29.1 z41 (t817 : Int) (of_decide_eq_true as_) (by have h_ : (t817 : Int) < ((x3_1.length : Int) : Int) := of_decide_eq_true as_; first | exact h_ | (have e_ := (Kd.S_reads' HO_3.1).1; omega) | simpa using h_); obtain ⟨ve29_2, ve29_5, rfl, ge29_2, ge29_5⟩ := k41_openM hM29; have HP29 := Kd.S_seg hH29 (of_decide_eq_true as_) (by have h_ : (t817 : Int) < ((x3_1.length : Int) : Int) := of_decide_eq_true as_; first | exact h_ | (have e_ := (Kd.S_reads' HO_3.1).1; omega) | simpa using h_) (seg := [.int .i64 t820, .int .i64 t821, v823, .int .i64 t825, .int .i64 t826, v828, .int .i64 t830, .int .i64 t831]) (j := 0) (show 8 ≤ 8 from by decide) (x' := (⟨t820, t821, t822, t825, t826, t827, (⟨t830, t831⟩ : S39)⟩ : S41)) (k41_mkM _ _ _ (⟨t820, t821, t822, t825, t826, t827, (⟨t830, t831⟩ : S39)⟩ : S41) (Kd.R_mono (Kd.R_tight rfl (Kd.R_mono (ok' := fun k_ => ((fun _ => True)) k_ ∧ k_ ≠ go25) (Kd.R_apart' (HO824.1) (Kd.S_typed HO_3.1) (by decide)) (fun k_ hk => ⟨trivial, fun e_ => (hk.2) (by rw [e_]; rfl)⟩))) (fun _ h_ => Or.inr (Or.inl h_))) (Kd.R_mono (Kd.R_tight rfl (Kd.R_mono (ok' := fun k_ => ((fun _ => True)) k_ ∧ k_ ≠ go25) (Kd.R_apart' (HO829.1) (Kd.S_typed HO_3.1) (by decide)) (fun k_ hk => ⟨trivial, fun e_ => (hk.2) (by rw [e_]; rfl)⟩))) (fun _ h_ => Or.inr (Or.inr (h_))))) (fun _ hk => hk) (fun k_ hk_ => hk_.elim (fun h_ => ((Kd.R_mono (ok' := fun k_ => ((fun _ => True)) k_ ∧ k_ ≠ go25) (Kd.R_apart' (HO824.1) (Kd.S_typed HO_3.1) (by decide)) (fun k_ hk => ⟨trivial, fun e_ => (hk.2) (by rw [e_]; rfl)⟩))).1 k_ h_.symm) (fun h_ => ((Kd.R_mono (ok' := fun k_ => ((fun _ => True)) k_ ∧ k_ ≠ go25) (Kd.R_apart' (HO829.1) (Kd.S_typed HO_3.1) (by decide)) (fun k_ hk => ⟨trivial, fun e_ => (hk.2) (by rw [e_]; rfl)⟩))).1 k_ h_.symm)); have hx29_0 := hcc29 0 _ rfl; (try simp only [show (k41).sz = 8 from rfl, Nat.mul_one, Nat.add_zero] at hx29_0); have hf29_0 := hfr29 0; (try simp only [show (k41).sz = 8 from rfl, Nat.mul_one, Nat.add_zero] at hf29_0); have hx29_1 := hcc29 1 _ rfl; (try simp only [show (k41).sz = 8 from rfl, Nat.mul_one, Nat.add_zero] at hx29_1); have hf29_1 := hfr29 1; (try simp only [show (k41).sz = 8 from rfl, Nat.mul_one, Nat.add_zero] at hf29_1); have hx29_2 := hcc29 2 _ rfl; (try simp only [show (k41).sz = 8 from rfl, Nat.mul_one, Nat.add_zero] at hx29_2); have hf29_2 := hfr29 2; (try simp only [show (k41).sz = 8 from rfl, Nat.mul_one, Nat.add_zero] at hf29_2); have hx29_3 := hcc29 3 _ rfl; (try simp only [show (k41).sz = 8 from rfl, Nat.mul_one, Nat.add_zero] at hx29_3); have hf29_3 := hfr29 3; (try simp only [show (k41).sz = 8 from rfl, Nat.mul_one, Nat.add_zero] at hf29_3); have hx29_4 := hcc29 4 _ rfl; (try simp only [show (k41).sz = 8 from rfl, Nat.mul_one, Nat.add_zero] at hx29_4); have hf29_4 := hfr29 4; (try simp only [show (k41).sz = 8 from rfl, Nat.mul_one, Nat.add_zero] at hf29_4); have hx29_5 := hcc29 5 _ rfl; (try simp only [show (k41).sz = 8 from rfl, Nat.mul_one, Nat.add_zero] at hx29_5); have hf29_5 := hfr29 5; (try simp only [show (k41).sz = 8 from rfl, Nat.mul_one, Nat.add_zero] at hf29_5); have hx29_6 := hcc29 6 _ rfl; (try simp only [show (k41).sz = 8 from rfl, Nat.mul_one, Nat.add_zero] at hx29_6); have hf29_6 := hfr29 6; (try simp only [show (k41).sz = 8 from rfl, Nat.mul_one, Nat.add_zero] at hf29_6); have hx29_7 := hcc29 7 _ rfl; (try simp only [show (k41).sz = 8 from rfl, Nat.mul_one, Nat.add_zero] at hx29_7); have hf29_7 := hfr29 7; (try simp only [show (k41).sz = 8 from rfl, Nat.mul_one, Nat.add_zero] at hf29_7); clear hcl29 hcc29 hfr29 hM29 hoki29 hH29) | ((with_reducible refine gate_store (t := 41) (p := 33) rfl ?_); refine store_event (t := 41) (p := 33) (v := ?vo_w30) (w1 := ((((((((w28.setCell ⟨go25, (t817 : Int).toNat * 8, none⟩ (.int .i64 t820)).setCell ⟨go25, (t817 : Int).toNat * 8 + 1, none⟩ (.int .i64 t821)).setCell ⟨go25, (t817 : Int).toNat * 8 + 2, none⟩ (v823)).setCell ⟨go25, (t817 : Int).toNat * 8 + 3, none⟩ (.int .i64 t825)).setCell ⟨go25, (t817 : Int).toNat * 8 + 4, none⟩ (.int .i64 t826)).setCell ⟨go25, (t817 : Int).toNat * 8 + 5, none⟩ (v828)).setCell ⟨go25, (t817 : Int).toNat * 8 + 6, none⟩ (.int .i64 t830)).setCell ⟨go25, (t817 : Int).toNat * 8 + 7, none⟩ (.int .i64 t831))) ?hg ?ho ?hn ?hr ?_; (case ho => rfl); (case hg => rfl); (case hn => rfl); (case hr => first | (obtain ⟨A823_, c823_, e823_⟩ := Kd.R_slice HO824.1; subst e823_; obtain ⟨A828_, c828_, e828_⟩ := Kd.R_slice HO829.1; subst e828_; first | (go_simp; done) | (go_simp; rfl)) | (go_simp; done) | (go_simp; rfl)); intro w30 hw; have hg : w28.grownBy w30 (some go25) := (by rw [hw]; exact HP29.2); have hp_ : Kd.S k41 41 w30 w.heap.size (fun _ => True) (.slice (some ⟨go25, 0, none⟩) x3_1.length co26) y834 := (by rw [hw, Ny834.1]; exact HP29.1); clear HP29; replace HI0 := o_ (IsS102.grown (wI_) hg (IsS102.own_neS HI0.1 HO_3.1 (by decide))); replace HB := o_ ((by rw [hw]; exact below_set (below_set (below_set (below_set (below_set (below_set (below_set (below_set (HB.1) (Nat.le_trans HL.1 GB25.1)) (Nat.le_trans HL.1 GB25.1)) (Nat.le_trans HL.1 GB25.1)) (Nat.le_trans HL.1 GB25.1)) (Nat.le_trans HL.1 GB25.1)) (Nat.le_trans HL.1 GB25.1)) (Nat.le_trans HL.1 GB25.1)) (Nat.le_trans HL.1 GB25.1) : Below w0.heap.size w0 w30)); replace HK := o_ (KeepBut.trans wK_ (KeepBut.of_grown hg g) (Kd.S_base2 HO_3.1)); replace HO_3 := o_ (hp_); clear HO824 HO829 hg hw hp_))
                  go_ret
                  exact ⟨_, rt_, by (with_reducible repeat (first | apply Kd.S_alloc | apply Kd.S_drewN | apply Kd.S_drew)); exact HO_3.1, wI_, wB_, wK_⟩
                · rw [if_neg c24] at H
                  exact absurd H (by simp)
              · rw [if_neg c23] at H
                exact absurd H (by simp)
            · replace c20 := Bool.eq_false_iff.mpr c20
              subst c20
              have H1 := H
              rw [if_neg nt_] at H1
              clear H
              have H := H1
              clear H1
              simp only [Option.some.injEq, Prod.mk.injEq] at H
              obtain ⟨rfl, rfl, rfl⟩ := H
              go_wp2
              go_ret
              exact ⟨_, rt_, by (with_reducible repeat (first | apply Kd.S_alloc | apply Kd.S_drewN | apply Kd.S_drew)); exact HO_3.1, wI_, wB_, wK_⟩

end Go.Proofs.Ytglpmjcknhcjcaa.PFnTwins
