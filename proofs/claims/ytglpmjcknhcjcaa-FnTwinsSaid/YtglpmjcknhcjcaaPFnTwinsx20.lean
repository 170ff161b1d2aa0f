-- Written for this claim by a program (a printer turned to this claim); Lean checks it.
import Derived.Test.YtglpmjcknhcjcaaPFnTwinsx0
import Derived.Test.YtglpmjcknhcjcaaPFnTwinsx12
import Derived.Test.YtglpmjcknhcjcaaPFnTwinsx13
import Derived.Test.YtglpmjcknhcjcaaPFnTwinsx15
import Derived.Test.YtglpmjcknhcjcaaPFnTwinsx18
import Derived.Test.YtglpmjcknhcjcaaPFnTwinsx19
namespace Go.Proofs.Ytglpmjcknhcjcaa.PFnTwins
open Go.RowKit Go.Proofs.YtglpmjcknhcjcaaW.PrintWords Go.Proofs.YtglpmjcknhcjcaaW.PrintLast Go.Proofs.YtglpmjcknhcjcaaW.PrintMore
attribute [local go_sem] max2_int min2_int max_two min_two max_three min_three max_four min_four   -- for this text's walks alone
set_option linter.unusedVariables false
set_option linter.unusedSimpArgs false

/-! ### spec_DrawGroupReports: function 38 -/
def spec_DrawGroupReports.l0 : Nat → List (S41) → Int → List Int → Int → Int → Int → Int → Int → Int → Int → Int → Int → Int → Option ((List (S41)))
 | 0, _, _, _, _, _, _, _, _, _, _, _, _, _ => none
 | k + 1, x5, x6, x887000, x887001, x887002, x898000, x898001, x898002, x898003, x898004, x898005, x898006, x898007 => if x6 < (x5.length : Int) then ((spec_l1Once.f x887000 x887001 x887002 2).bind fun bt903 => (if bt903.1 = true then (if 0 ≤ x6 then ((spec_l8For.f k x887000 bt903.2.1 bt903.2.2 x898000 x898001 x898002 x898003 x898004 x898005 x898006 x898007 ((rd_T41 x5 x6).f0)).bind fun bt907 => (spec_DrawGroupReports.l0 k (x5.set (x6 : Int).toNat (⟨bt907.1, bt907.2.1, bt907.2.2.1, bt907.2.2.2.1, bt907.2.2.2.2.1, bt907.2.2.2.2.2.1, (⟨bt907.2.2.2.2.2.2.1, bt907.2.2.2.2.2.2.2.1⟩ : S39)⟩ : S41)) (wrap64 (x6 + 1)) x887000 bt907.2.2.2.2.2.2.2.2.1 bt907.2.2.2.2.2.2.2.2.2 x898000 x898001 x898002 x898003 x898004 x898005 x898006 x898007)) else (none)) else (spec_DrawGroupReports.l0 k x5 (wrap64 (x6 + 1)) x887000 bt903.2.1 bt903.2.2 x898000 x898001 x898002 x898003 x898004 x898005 x898006 x898007))) else (some x5)
def spec_DrawGroupReports.f (k : Nat) (l0 : List Int) : Option ((List (S41))) := (spec_l1New.f k l0).bind fun bt883 => ((spec_l6One.f k bt883.1 bt883.2.1 bt883.2.2).bind fun bt887 => ((spec_l7List.f k bt883.1 bt887.2.2.2.2.2.2.2.2.1 bt887.2.2.2.2.2.2.2.2.2).bind fun bt898 => (spec_DrawGroupReports.l0 k bt898.1 0 bt883.1 bt898.2.1 bt898.2.2 bt887.1 bt887.2.1 bt887.2.2.1 bt887.2.2.2.1 bt887.2.2.2.2.1 bt887.2.2.2.2.2.1 bt887.2.2.2.2.2.2.1 bt887.2.2.2.2.2.2.2.1)))
theorem spec_DrawGroupReports.mono_l : ∀ k, (∀ y0 y1 y2 y3 y4 y5 y6 y7 y8 y9 y10 y11 y12, LeO (spec_DrawGroupReports.l0 k y0 y1 y2 y3 y4 y5 y6 y7 y8 y9 y10 y11 y12) (spec_DrawGroupReports.l0 (k + 1) y0 y1 y2 y3 y4 y5 y6 y7 y8 y9 y10 y11 y12))
 | 0 => fun _ _ _ _ _ _ _ _ _ _ _ _ _ r h => by simp [spec_DrawGroupReports.l0] at h
 | k + 1 => by
  have ih0 := spec_DrawGroupReports.mono_l k
  ·
   intro y0 y1 y2 y3 y4 y5 y6 y7 y8 y9 y10 y11 y12
   unfold spec_DrawGroupReports.l0
   have jh0 := @spec_l1New.mono
   have jh1 := @spec_l6One.mono
   have jh2 := @spec_l7List.mono
   have jh3 := @spec_l8For.mono
   exact mo_
theorem spec_DrawGroupReports.mono : ∀ a0 k, LeO (spec_DrawGroupReports.f k a0) (spec_DrawGroupReports.f (k + 1) a0) := by
 intro a0 k
 have ih0 := spec_DrawGroupReports.mono_l k
 unfold spec_DrawGroupReports.f
 have jh0 := @spec_l1New.mono
 have jh1 := @spec_l6One.mono
 have jh2 := @spec_l7List.mono
 have jh3 := @spec_l8For.mono
 exact mo_
def spec_DrawGroupReports.T8 : Bool × List (List Nat × List Nat) := (true, [([], []), ([], []), ([], []), ([], []), ([], []), ([], []), ([4, 5], [4, 5]), ([6], [6]), ([7], [7]), ([2, 3, 8], [2, 3, 8]), ([0, 1, 0, 1, 2, 3, 4, 5, 6, 7, 8, 9], [0, 1]), ([10, 9, 9, 0, 1, 2, 3, 4, 5, 6, 7, 8, 9], [9, 10])])
def spec_DrawGroupReports.B8 : List Nat := [0, 0, 0, 0, 0, 0, 48, 112, 240, 508, 1023, 2047]
theorem spec_DrawGroupReports.tab8 : rtab .any (opsOf Try.f38 8) = spec_DrawGroupReports.T8 := by kernel_rfl
theorem spec_DrawGroupReports.bits8 : waitsOk spec_DrawGroupReports.T8.2 spec_DrawGroupReports.B8 = true := by kernel_rfl
abbrev M7_0 := bm_ 12 0
abbrev M7_1 := bm_ 12 1
abbrev M7_2 := bm_ 12 3
abbrev M7_3 := bm_ 12 7
abbrev M7_4 := bm_ 12 23
abbrev M7_5 := bm_ 12 55
abbrev M7_6 := bm_ 12 119
abbrev M7_7 := bm_ 12 247
abbrev M7_8 := bm_ 12 255
abbrev M7_9 := bm_ 12 511
abbrev M7_10 := bm_ 12 1023
abbrev M7_11 := bm_ 12 2047
abbrev M7_12 := bm_ 12 4095
set_option maxHeartbeats 8000000 in
set_option maxRecDepth 100000 in
theorem spec_DrawGroupReports.calls (k : Nat) (A0 : Option Addr) (c0 : Nat) (l0 : List Int) (r : List (S41)) (w : World) (hr0 : Kd.C (Kd.int .u8) w A0 l0.length l0) (hc0 : l0.length ≤ c0) (h : spec_DrawGroupReports.f k l0 = some r) :
  Calls Try.prog 38 #[.slice A0 l0.length c0] w fun e w' => ∃ v0_ : Value, e = .returned (v0_) ∧ Kd.N k41 41 w' w.heap.size (fun k_ => (w.heap.size ≤ k_)) v0_ r ∧ Below w.heap.size w w' := by
 have hu58 := Try.underlying58
 have hu41 := Try.underlying41
 have HR0 := o_ hr0
 have HC0 := o_ hc0
 clear hr0 hc0
 have HB := o_ (Below.refl w.heap.size w)
 have H := h
 unfold spec_DrawGroupReports.f at H
 clear h
 obtain ⟨⟨t883, t884, t885⟩, A2, H⟩ := ob_ H
 try dsimp only at H
 obtain ⟨⟨t887, t888, t889, t890, t891, t892, t893, t894, t895, t896⟩, A3, H⟩ := ob_ H
 try dsimp only at H
 obtain ⟨⟨t898, t901, t902⟩, A4, H⟩ := ob_ H
 try dsimp only at H
 have H' := o_ H
 clear H
 go_enter Try.func38, Try.ntmps38
 go_wp2_with (first | ((with_reducible refine g_ 58 ?_); refine gl_ (some 8) Try.func58 #[.slice A0 l0.length c0] ?_; (with_reducible refine (spec_l1New.calls k _ _ l0 t883 t884 t885 w _ wB_ HR0.1 HC0.1 A2.1).mono ?_); rintro e w5 ⟨g886, rfl, hi, hb, hb2⟩; refine ⟨_, rfl, ?_⟩; replace HB := o_ (hb); replace HI886 := o_ (hi); (try clear hb hb2 hi)) | ((with_reducible refine g_ 64 ?_); refine gl_ (some 10) Try.func64 #[.pointer (some ⟨g886, 0, none⟩)] ?_; (with_reducible refine (spec_l6One.calls k g886 t883 t884 t885 t887 t888 t889 t890 t891 t892 t893 t894 t895 t896 w _ (wJ_ HI886.1) wB_ A3.1).mono ?_); rintro e w6 ⟨rfl, hi, hb, hk⟩; refine ⟨_, rfl, ?_⟩; replace HB := o_ (hb); replace HI886 := o_ (hi); (try clear hb hk hi)) | ((with_reducible refine gate_dst (N := 4) rfl ?_); refine bx_ 4 #[.int .i64 0, .int .i64 0, .int .i64 0, .int .i64 0, .int .i64 0, .int .i64 0, .int .i64 0, .int .i64 0] 58 ?_; intro gb897 hg w7 hbox hb; have BK897 := o_ (hbox); have GW897 := o_ ((by rw [hg]; exact (below_size wB_) : w.heap.size ≤ gb897)); replace HB := o_ (below_step wB_ hb); have GE897 := GW897; have NB886_897 := o_ ((by rw [hg]; exact Nat.ne_of_lt (IsS102.lt (show IsS102 w _ g886 t883 t895 t896 from by exact wJ_ HI886.1)) : g886 ≠ gb897)); have NB897_886 := o_ ((by rw [hg]; exact Nat.ne_of_gt (IsS102.lt (show IsS102 w _ g886 t883 t895 t896 from by exact wJ_ HI886.1)) : gb897 ≠ g886)); replace HI886 := o_ (IsS102.below (wJ_ HI886.1) hb); clear hb hbox hg; have hnb8 := NB897_886.1; have hnc8 := NB886_897.1; obtain ⟨_, _, _, _, _, _, _, _⟩ := e4_ BK897.1; obtain ⟨_, _, _, _, _, _, _, _⟩ := z5_ BK897.1) | ((with_reducible refine g_ 65 ?_); refine gl_ (some 12) Try.func65 #[.pointer (some ⟨g886, 0, none⟩)] ?_; (with_reducible refine (spec_l7List.calls k g886 t883 t895 t896 t898 t901 t902 w _ (wJ_ HI886.1) wB_ A4.1).mono ?_); rintro e w10 ⟨v899, rfl, ho0, hi, hb, hk⟩; refine ⟨_, rfl, ?_⟩; have HO900 := o_ (Kd.N_lower (Kd.N_mono (ok' := fun k_ => (w.heap.size ≤ k_) ∧ k_ ≠ gb897 ∧ k_ ≠ g886) (Kd.S_N (Kd.S_bound ho0)) (fun k_ hk_ => ⟨(Nat.le_trans (below_size wB_) hk_.2.1), (Kd.freshB (g := gb897) (o := c8_ t887 t888 t889 t890 t891 t892 t893 t894) (bk_ BK897.1) k_ hk_.2.1), (IsS102.fresh ((wJ_ HI886.1)) k_ hk_.2.1)⟩)) (below_size wB_)); replace BK897 := o_ (KeepBut.blk hk (g' := gb897) (o := c8_ t887 t888 t889 t890 t891 t892 t893 t894) (bk_ BK897.1) NB897_886.1 (by simp)); replace HB := o_ (hb); replace HI886 := o_ (hi); (try clear hb hk hi ho0)))
 go_loopg [6] k (fun kq v6 w' => ∃ (x5_1 : List (S41)) (x6_1 : Int) (x887001_1 : Int) (x887002_1 : Int), v6 = .int .i64 x6_1 ∧ Aside0 (spec_DrawGroupReports.l0 kq x5_1 x6_1 t883 x887001_1 x887002_1 t887 t888 t889 t890 t891 t892 t893 t894 = some r) ∧ Aside0 (kq ≤ k) ∧ Aside0 (Kd.N k41 41 w' w.heap.size (fun k_ => (w.heap.size ≤ k_) ∧ k_ ≠ gb897 ∧ k_ ≠ g886) v899 x5_1) ∧ Aside0 (w'.heap[gb897]? = some (c8_ t887 t888 t889 t890 t891 t892 t893 t894)) ∧ Aside0 (IsS102 w w' g886 t883 x887001_1 x887002_1) ∧ Aside0 (Below w.heap.size w w'))
 case atStart => exact ⟨(t898), (0), (t901), (t902), rs_, H', ⟨Nat.le_refl _⟩, ⟨by (with_reducible repeat (first | apply Kd.N_alloc | apply Kd.N_drewN | apply Kd.N_drew)); exact HO900.1⟩, ⟨bd_ BK897.1⟩, ⟨(wJ_ HI886.1)⟩, ⟨wB_⟩⟩
 case round =>
  clear H'
  try clear p2
  try clear c3
  try clear c5
  try clear c6
  try clear c8
  obtain ⟨x5_1, x6_1, x887001_1, x887002_1, rfl, HA, HK1, HO_5, BK897, HI886, HB⟩ := hrel
  cases gk with
  | zero => exact absurd HA.1 (by simp [spec_DrawGroupReports.l0])
  | succ k1 =>
   have H := HA.1
   clear HA
   simp only [spec_DrawGroupReports.l0] at H
   by_cases c11 : x6_1 < (x5_1.length : Int)
   ·
    rw [if_pos c11] at H
    have c11b0 := decide_eq_true c11
    clear c11
    obtain ⟨⟨t903, t904, t905⟩, A12, H⟩ := ob_ H
    try dsimp only at H
    by_cases c13 : t903 = true
    ·
     subst c13
     have H1 := H
     rw [if_pos rfl] at H1
     clear H
     have H := H1
     clear H1
     by_cases c14 : 0 ≤ x6_1
     ·
      rw [if_pos c14] at H
      have c14b0 := decide_eq_true c14
      clear c14
      obtain ⟨⟨t907, t908, t909, t912, t913, t914, t917, t918, t919, t920⟩, A15, H⟩ := ob_ H
      try dsimp only at H
      obtain ⟨y921, hy921⟩ : ∃ y_ : List (S41), y_ = (x5_1.set (x6_1 : Int).toNat (⟨t907, t908, t909, t912, t913, t914, (⟨t917, t918⟩ : S39)⟩ : S41)) := ⟨_, rfl⟩
      replace H : (spec_DrawGroupReports.l0 k1 y921 (wrap64 (x6_1 + 1)) t883 t919 t920 t887 t888 t889 t890 t891 t892 t893 t894) = some r := hy_ H hy921
      have Ny921 := o_ hy921
      clear hy921
      have H' := o_ H
      clear H
      obtain ⟨Ao17, co17, eo17⟩ := Kd.N_slice HO_5.1
      subst eo17
      try go_wp2_with (first | ((with_reducible refine g_ 66 ?_); refine gl_ (some 20) Try.func66 #[.pointer (some ⟨g886, 0, none⟩), .int .i64 2] ?_; (with_reducible refine (spec_l1Once.calls g886 t883 x887001_1 x887002_1 2 true t904 t905 w _ (wJ_ HI886.1) wB_ A12.1).mono ?_); rintro e w18 ⟨rfl, hi, hb, hk⟩; refine ⟨_, rfl, ?_⟩; replace HO_5 := o_ (Kd.N_mono (Kd.N_keep (Kd.N_mono (ok := fun k_ => (((w.heap.size ≤ k_)) ∧ (k_ ≠ gb897 ∧ k_ ≠ g886))) y541_ (fun k_ hk_ => (⟨hk_, hk_.2.2⟩ : _ ∧ k_ ≠ g886))) hk (fun _ h => h.2)) (fun _ h => h.1)); replace BK897 := o_ (KeepBut.blk hk (g' := gb897) (o := c8_ t887 t888 t889 t890 t891 t892 t893 t894) (bd_ BK897.1) NB897_886.1 (by simp)); replace HB := o_ (hb); replace HI886 := o_ (hi); (try clear hb hk hi)))
      replace HO_5 := o_ (Kd.N_drew HO_5.1)
      replace BK897 := o_ (blk_drew BK897.1)
      replace HI886 := o_ (IsS102.drew HI886.1)
      replace HB := o_ (below_drew1 HB.1)
      have p906 : 0 ≤ (x6_1 : Int) := of_decide_eq_true as_
      have q906 : x6_1 < (x5_1.length : Int) := of_decide_eq_true as_
      obtain ⟨ad906, A906_2, c906_2, A906_5, c906_5, e906, hx906_0, hx906_1, hx906_2, hx906_3, hx906_4, hx906_5, hx906_6, hx906_7, hl906_2, hi906_2, hl906_5, hi906_5⟩ := at_T41 (Kd.N_reads' HO_5.1).2.2 x6_1 p906 q906
      cases e906
      obtain ⟨ce906, hce906, hMe906, hcc906⟩ := Kd.N_get HO_5.1 z41 x6_1 p906 (by first | exact q906 | exact of_decide_eq_true as_ | (have e_ := (Kd.N_reads' HO_5.1).1; omega))
      obtain ⟨ua906_2, uc906_2, ua906_5, uc906_5, rfl, ul906_2, ge906_2, ul906_5, ge906_5⟩ := k41_openF hMe906
      have hv906_2 := hcc906 2 _ rfl
      rw [add_field _ _ 2 (by omega)] at hv906_2
      replace hv906_2 := Option.some.inj (hv906_2.symm.trans hx906_2)
      injection hv906_2 with hva_ hvn_ hvc_
      rw [hva_] at ge906_2
      rw [hvc_] at ul906_2
      have HL906_2 := o_ (show Kd.V (Kd.int .i64) 3 _ w.heap.size _ _ ((rd_T41 x5_1 x6_1).f2) from Kd.V_mk ul906_2 ge906_2)
      clear hva_ hvn_ hvc_ ge906_2 ul906_2
      have hv906_5 := hcc906 5 _ rfl
      rw [add_field _ _ 5 (by omega)] at hv906_5
      replace hv906_5 := Option.some.inj (hv906_5.symm.trans hx906_5)
      injection hv906_5 with hva_ hvn_ hvc_
      rw [hva_] at ge906_5
      rw [hvc_] at ul906_5
      have HL906_5 := o_ (show Kd.V (Kd.int .i64) 3 _ w.heap.size _ _ ((rd_T41 x5_1 x6_1).f5) from Kd.V_mk ul906_5 ge906_5)
      clear hva_ hvn_ hvc_ ge906_5 ul906_5 hcc906 hce906
      have HR906_2 := o_ hi906_2
      have HC906_2 := o_ hl906_2
      clear hi906_2 hl906_2
      have HR906_5 := o_ hi906_5
      have HC906_5 := o_ hl906_5
      clear hi906_5 hl906_5
      replace p906 := eq_true p906
      replace q906 := eq_true q906
      refine start_ (n := 12) (S := fun w' => q3_ w' gb897 t887 t888 t889 t890 t891 t892 t893 t894 (q2e_ w' (ad906.add ((x6_1).toNat * 8)) ((rd_T41 x5_1 x6_1).f0) ((rd_T41 x5_1 x6_1).f1) A906_2 ((rd_T41 x5_1 x6_1).f2).length c906_2 ((rd_T41 x5_1 x6_1).f3) ((rd_T41 x5_1 x6_1).f4) A906_5 ((rd_T41 x5_1 x6_1).f5).length c906_5 ((rd_T41 x5_1 x6_1).f6.f0) ((rd_T41 x5_1 x6_1).f6.f1))) (ds := [11]) M7_0 (by kernel_rfl) rfl rfl ⟨(blk_cell BK897.1 0).trans rfl, (blk_cell BK897.1 1).trans rfl, (blk_cell BK897.1 2).trans rfl, (blk_cell BK897.1 3).trans rfl, (blk_cell BK897.1 4).trans rfl, (blk_cell BK897.1 5).trans rfl, (blk_cell BK897.1 6).trans rfl, (blk_cell BK897.1 7).trans rfl, hx906_0, hx906_1, hx906_2, hx906_3, hx906_4, hx906_5, hx906_6, hx906_7⟩ (fun hHeld => ?_); refine with_tabW spec_DrawGroupReports.tab8 spec_DrawGroupReports.bits8 (fun HT_ HW_ => ?_)
      generalize w18.drew = w19 at HO_5 BK897 HI886 HB HL906_2 HL906_5 HR906_2 HR906_5 hx906_0 hx906_1 hx906_2 hx906_3 hx906_4 hx906_5 hx906_6 hx906_7 hHeld ⊢
      refine pu_ 0 (some 21) M7_1 HT_ ?_
      refine pu_ 1 (some 22) M7_2 HT_ ?_
      refine pu_ 2 (some 23) M7_3 HT_ ?_
      refine pu_ 4 (some 25) M7_4 HT_ ?_
      refine pu_ 5 (some 26) M7_5 HT_ ?_
      refine pu_ 6 (some 27) M7_6 HT_ ?_
      refine pu_ 7 (some 28) M7_7 HT_ ?_
      refine tk_ 3 (some 24) M7_8 HT_ HW_ hHeld ?_
      refine tk_ 8 (some 29) M7_9 HT_ HW_ hHeld ?_
      refine one_ (i := 9) (N := some 30) M7_10 rfl rfl (one_of HT_.1 (by kernel_rfl)) (by decide) (fun K hK => ?_)
      refine goes_ Try.func67 (by kernel_rfl) rfl #[.pointer (some ⟨g886, 0, none⟩), .agg #[.int .i64 t887, .int .i64 t888, .int .i64 t889, .int .i64 t890, .int .i64 t891, .int .i64 t892, .int .i64 t893, .int .i64 t894], .int .i64 ((rd_T41 x5_1 x6_1).f0)] (by rfl) rfl rfl ma_ ?_
      with_reducible refine (spec_l8For.calls k1 g886 t883 t904 t905 t887 t888 t889 t890 t891 t892 t893 t894 ((rd_T41 x5_1 x6_1).f0) t907 t908 t909 t912 t913 t914 t917 t918 t919 t920 w _ ?side1 ?side2 A15.1).mono ?_
      (case side1 => exact wJ_ HI886.1)
      (case side2 => exact wB_)
      rintro e w20 ⟨v910, v915, rfl, ho0, ho1, hi, hb, hk⟩
      obtain ⟨Aq0_, cq0_, eq0_⟩ := Kd.R_slice ho0
      obtain ⟨Aq1_, cq1_, eq1_⟩ := Kd.R_slice ho1
      subst eq0_ eq1_
      have HS8_ := keep_cell hk (hHeld.2.2.2.2.2.2.2.2.1) y532_
      have HS9_ := keep_cell hk (hHeld.2.2.2.2.2.2.2.2.2.1) y532_
      have HS10_ := keep_cell hk (hHeld.2.2.2.2.2.2.2.2.2.2.1) y532_
      have HS11_ := keep_cell hk (hHeld.2.2.2.2.2.2.2.2.2.2.2.1) y532_
      have HS12_ := keep_cell hk (hHeld.2.2.2.2.2.2.2.2.2.2.2.2.1) y532_
      have HS13_ := keep_cell hk (hHeld.2.2.2.2.2.2.2.2.2.2.2.2.2.1) y532_
      have HS14_ := keep_cell hk (hHeld.2.2.2.2.2.2.2.2.2.2.2.2.2.2.1) y532_
      have HS15_ := keep_cell hk (hHeld.2.2.2.2.2.2.2.2.2.2.2.2.2.2.2) y532_
      refine ⟨_, rfl, ?_⟩
      replace HO_5 := o_ (Kd.N_mono (Kd.N_told (Kd.N_told (Kd.N_oldK (Kd.N_mono (ok := fun k_ => (((w.heap.size ≤ k_)) ∧ (k_ ≠ gb897 ∧ k_ ≠ g886))) y541_ (fun k_ hk_ => (⟨hk_, hk_.2.2⟩ : _ ∧ k_ ≠ g886))) hk) (Kd.R_base ho0)) (Kd.R_base ho1)) (fun _ h_ => h_.1))
      replace BK897 := o_ (KeepBut.blk hk (g' := gb897) (o := c8_ t887 t888 t889 t890 t891 t892 t893 t894) (bd_ BK897.1) NB897_886.1 (by simp))
      replace HL906_2 := o_ (Kd.V_mono (Kd.V_told (Kd.V_told (Kd.V_oldK (Kd.V_mono (ok := fun k_ => ((((w.heap.size ≤ k_)) ∧ (k_ ≠ gb897 ∧ k_ ≠ g886)) ∧ some k_ ≠ (.slice (some ad906) x5_1.length co17 : Value).ownBlock)) (by (with_reducible repeat (first | apply Kd.V_alloc | apply Kd.V_drewN | apply Kd.V_drew)); exact HL906_2.1) (fun k_ hk_ => (⟨hk_, hk_.1.2.2⟩ : _ ∧ k_ ≠ g886))) hk) (Kd.R_base ho0)) (Kd.R_base ho1)) (fun _ h_ => h_.1))
      replace HL906_5 := o_ (Kd.V_mono (Kd.V_told (Kd.V_told (Kd.V_oldK (Kd.V_mono (ok := fun k_ => ((((w.heap.size ≤ k_)) ∧ (k_ ≠ gb897 ∧ k_ ≠ g886)) ∧ some k_ ≠ (.slice (some ad906) x5_1.length co17 : Value).ownBlock)) (by (with_reducible repeat (first | apply Kd.V_alloc | apply Kd.V_drewN | apply Kd.V_drew)); exact HL906_5.1) (fun k_ hk_ => (⟨hk_, hk_.1.2.2⟩ : _ ∧ k_ ≠ g886))) hk) (Kd.R_base ho0)) (Kd.R_base ho1)) (fun _ h_ => h_.1))
      have HO911 := o_ (Kd.R_lower (Kd.R_newM (M := fun k_ => (w.heap.size ≤ k_)) ho0 (below_size wB_) (fun k_ h_ => h_)) (below_size wB_))
      have HO916 := o_ (Kd.R_lower (Kd.R_newM (M := fun k_ => (w.heap.size ≤ k_)) ho1 (below_size wB_) (fun k_ h_ => h_)) (below_size wB_))
      replace HB := o_ (hb)
      replace HI886 := o_ (hi)
      (try clear hb)
      (try clear hb2)
      (try clear hk)
      (try clear hi)
      (try clear ho0)
      (try clear ho1)
      have p16 : 0 ≤ (x6_1 : Int) := of_decide_eq_true as_
      have q16 : (x6_1 : Int) < ((x5_1.length : Int) : Int) := of_decide_eq_true as_
      obtain ⟨go16, co16, eo16, gb16, gl16, cl16, HG16⟩ := Kd.N_form HO_5.1 (by omega)
      (first | cases eo16 | (injection eo16 with ea_ en_ ec_; (first | subst ea_ | (injection ea_ with ea_; subst ea_)); subst ec_; clear en_))
      have GB16 := o_ gb16
      have GG16 := o_ HG16
      clear gb16 gl16 HG16
      (first | simp only [add_plain] at hx906_0 | skip)
      (first | simp only [add_plain] at hx906_1 | skip)
      (first | simp only [add_plain] at hx906_2 | skip)
      (first | simp only [add_plain] at hx906_3 | skip)
      (first | simp only [add_plain] at hx906_4 | skip)
      (first | simp only [add_plain] at hx906_5 | skip)
      (first | simp only [add_plain] at hx906_6 | skip)
      (first | simp only [add_plain] at hx906_7 | skip)
      obtain ⟨ce16, hcl16, hM16, hcc16, hfr16⟩ := Kd.N_elem HO_5.1 z41 (x6_1 : Int) p16 q16
      obtain ⟨ua16_2, uc16_2, ua16_5, uc16_5, rfl, ul16_2, ge16_2, ul16_5, ge16_5⟩ := k41_openF hM16
      have hx16_0 : World.cell? _ ⟨go16, (x6_1 : Int).toNat * 8, none⟩ = some (.int .i64 ((rd_T41 x5_1 x6_1).f0)) := hcc16 0 _ rfl
      have hx16_1 : World.cell? _ ⟨go16, (x6_1 : Int).toNat * 8 + 1, none⟩ = some (.int .i64 ((rd_T41 x5_1 x6_1).f1)) := hcc16 1 _ rfl
      have hx16_2 : World.cell? _ ⟨go16, (x6_1 : Int).toNat * 8 + 2, none⟩ = some (.slice ua16_2 ((rd_T41 x5_1 x6_1).f2).length uc16_2) := hcc16 2 _ rfl
      have hx16_3 : World.cell? _ ⟨go16, (x6_1 : Int).toNat * 8 + 3, none⟩ = some (.int .i64 ((rd_T41 x5_1 x6_1).f3)) := hcc16 3 _ rfl
      have hx16_4 : World.cell? _ ⟨go16, (x6_1 : Int).toNat * 8 + 4, none⟩ = some (.int .i64 ((rd_T41 x5_1 x6_1).f4)) := hcc16 4 _ rfl
      have hx16_5 : World.cell? _ ⟨go16, (x6_1 : Int).toNat * 8 + 5, none⟩ = some (.slice ua16_5 ((rd_T41 x5_1 x6_1).f5).length uc16_5) := hcc16 5 _ rfl
      have hx16_6 : World.cell? _ ⟨go16, (x6_1 : Int).toNat * 8 + 6, none⟩ = some (.int .i64 ((rd_T41 x5_1 x6_1).f6.f0)) := hcc16 6 _ rfl
      have hx16_7 : World.cell? _ ⟨go16, (x6_1 : Int).toNat * 8 + 7, none⟩ = some (.int .i64 ((rd_T41 x5_1 x6_1).f6.f1)) := hcc16 7 _ rfl
      have hf16_0 : World.frozen? _ ⟨go16, (x6_1 : Int).toNat * 8, none⟩ = false := hfr16 0
      have hf16_1 : World.frozen? _ ⟨go16, (x6_1 : Int).toNat * 8 + 1, none⟩ = false := hfr16 1
      have hf16_2 : World.frozen? _ ⟨go16, (x6_1 : Int).toNat * 8 + 2, none⟩ = false := hfr16 2
      have hf16_3 : World.frozen? _ ⟨go16, (x6_1 : Int).toNat * 8 + 3, none⟩ = false := hfr16 3
      have hf16_4 : World.frozen? _ ⟨go16, (x6_1 : Int).toNat * 8 + 4, none⟩ = false := hfr16 4
      have hf16_5 : World.frozen? _ ⟨go16, (x6_1 : Int).toNat * 8 + 5, none⟩ = false := hfr16 5
      have hf16_6 : World.frozen? _ ⟨go16, (x6_1 : Int).toNat * 8 + 6, none⟩ = false := hfr16 6
      have hf16_7 : World.frozen? _ ⟨go16, (x6_1 : Int).toNat * 8 + 7, none⟩ = false := hfr16 7
      clear hcl16 hcc16 hfr16 hM16
      replace p16 := eq_true p16
      replace q16 := eq_true q16
      have HN886_go16 := o_ (show g886 ≠ go16 from by have h_ := IsS102.own_neN HI886.1 HO_5.1 (by decide); intro e_; exact h_ (by rw [e_]; rfl))
      have HN897_go16 := o_ (show gb897 ≠ go16 from by have h_ := Kd.N_ne HO_5.1 BK897.1 (by decide); intro e_; exact h_ (by rw [e_]; rfl))
      have HX21 := o_ (show Kd.N k41 41 _ w.heap.size (fun k_ => (w.heap.size ≤ k_) ∧ some k_ ≠ ((.slice Aq0_ t909.length cq0_) : Value).ownBlock ∧ some k_ ≠ ((.slice Aq1_ t914.length cq1_) : Value).ownBlock ∧ k_ ≠ gb897 ∧ k_ ≠ g886) (.slice (some ⟨go16, 0, none⟩) x5_1.length co17) x5_1 from (Kd.N_mono (HO_5.1) (fun k_ hk => ⟨hk.1.1.1, ⟨hk.1.2, ⟨hk.2, ⟨hk.1.1.2.1, hk.1.1.2.2⟩⟩⟩⟩)))
      replace HX21 := o_ (show Kd.N k41 41 _ w.heap.size (fun k_ => (w.heap.size ≤ k_) ∧ k_ ≠ gb897 ∧ k_ ≠ g886) (.slice (some ⟨go16, 0, none⟩) x5_1.length co17) x5_1 from Kd.N_mono HX21.1 (fun k_ hk => ⟨hk.1, ⟨hk.2.2.2.1, hk.2.2.2.2⟩⟩))
      obtain ⟨ce21, hcl21, hM21, hcc21, hfr21⟩ := Kd.N_elem HX21.1 z41 (x6_1 : Int) (of_decide_eq_true as_) (by have h_ : (x6_1 : Int) < ((x5_1.length : Int) : Int) := of_decide_eq_true as_; first | exact h_ | (have e_ := (Kd.N_reads' HO_5.1).1; omega) | simpa using h_)
      obtain ⟨ua21_2, uc21_2, ua21_5, uc21_5, rfl, ul21_2, ge21_2, ul21_5, ge21_5⟩ := k41_openF hM21
      have hu0_ := Kd.R_apart' (HO911.1) (Kd.N_typed HO_5.1) (by decide)
      have hu1_ := Kd.R_types hu0_ BK897.1 (by decide)
      have hu2_ := IsS102.apart HI886.1 hu1_ (by decide)
      have hv0_ := Kd.R_mono (ok' := (fun k_ => ((fun k_ => (w.heap.size ≤ k_) ∧ k_ ≠ gb897 ∧ k_ ≠ g886)) k_ ∧ k_ ≠ go16)) hu2_ (fun k_ hk => ⟨⟨hk.1.1.1.1, ⟨hk.1.2, hk.2⟩⟩, fun e_ => (hk.1.1.2) (by rw [e_]; rfl)⟩)
      clear hu0_ hu1_ hu2_
      have hu0_ := Kd.R_apart' (HO916.1) (Kd.N_typed HO_5.1) (by decide)
      have hu1_ := Kd.R_types hu0_ BK897.1 (by decide)
      have hu2_ := IsS102.apart HI886.1 hu1_ (by decide)
      have hv1_ := Kd.R_mono (ok' := (fun k_ => ((fun k_ => (w.heap.size ≤ k_) ∧ k_ ≠ gb897 ∧ k_ ≠ g886)) k_ ∧ k_ ≠ go16)) hu2_ (fun k_ hk => ⟨⟨hk.1.1.1.1, ⟨hk.1.2, hk.2⟩⟩, fun e_ => (hk.1.1.2) (by rw [e_]; rfl)⟩)
      clear hu0_ hu1_ hu2_
      have HP21 := (Kd.N_seg HX21.1 (x6_1 : Int) (of_decide_eq_true as_) (by have h_ : (x6_1 : Int) < ((x5_1.length : Int) : Int) := of_decide_eq_true as_; first | exact h_ | (have e_ := (Kd.N_reads' HO_5.1).1; omega) | simpa using h_) (seg := [.int .i64 t907, .int .i64 t908, (.slice Aq0_ t909.length cq0_), .int .i64 t912, .int .i64 t913, (.slice Aq1_ t914.length cq1_), .int .i64 t917, .int .i64 t918]) (j := 0) hcl21 hcc21 (show 8 ≤ 8 from by decide) (x' := (⟨t907, t908, t909, t912, t913, t914, (⟨t917, t918⟩ : S39)⟩ : S41)) (k41_mkF _ _ (⟨t907, t908, t909, t912, t913, t914, (⟨t917, t918⟩ : S39)⟩ : S41) (Kd.R_reads' hv0_).2.1 (Kd.R_F hv0_) (Kd.R_reads' hv1_).2.1 (Kd.R_F hv1_)) (fun _ hk => hk)).1
      clear hv0_ hv1_
      rw [← Ny921.1] at HP21
      have HQ21 := o_ HP21
      clear hcl21 hcc21 hfr21 hM21 HP21
      refine hK.out _ _ ⟨(blk_cell BK897.1 0).trans rfl, (blk_cell BK897.1 1).trans rfl, (blk_cell BK897.1 2).trans rfl, (blk_cell BK897.1 3).trans rfl, (blk_cell BK897.1 4).trans rfl, (blk_cell BK897.1 5).trans rfl, (blk_cell BK897.1 6).trans rfl, (blk_cell BK897.1 7).trans rfl, HS8_, HS9_, HS10_, HS11_, HS12_, HS13_, HS14_, HS15_⟩ (fun hHeld => ?_)
      clear hK K
      refine norm_ (a' := ?_) ?_ ?_
      rotate_left
      ·
       show Act.put _ (some 30) _ = _
       simp only [Act.put, List.setIfInBounds_toArray, List.set_cons_zero, List.set_cons_succ, i64_w, i32_w]
       rfl
      refine pu_ 10 (some 31) M7_11 HT_ ?_
      refine last_ (i := 11) (N := none) M7_12 rfl rfl (one_of HT_.1 (by kernel_rfl)) (by decide) (fun K hK => ?_)
      refine skip_ (w1 := ?_) (by rfl) rfl ?_ ?_
      rotate_left
      ·
       go_simp
       rfl
      refine hK.out _ _ ?_
      clear hK K
      refine done_ (done_of HT_.1 (by kernel_rfl)) ?_
      try go_wp2
      go_roundg k1
      case measure => have := HK1.1; omega
      case rel => exact ⟨(y921), (wrap64 (x6_1 + 1)), (t919), (t920), rs_, H', ⟨by have := HK1.1; omega⟩, ⟨by (with_reducible repeat (first | apply Kd.N_alloc | apply Kd.N_drewN | apply Kd.N_drew)); exact HQ21.1⟩, ⟨bk_ BK897.1⟩, ⟨wJ_ HI886.1⟩, ⟨wB_⟩⟩
     ·
      rw [if_neg c14] at H
      exact absurd H (by simp)
    ·
     replace c13 := Bool.eq_false_iff.mpr c13
     subst c13
     have H1 := H
     rw [if_neg nt_] at H1
     clear H
     have H := H1
     clear H1
     have H' := o_ H
     clear H
     obtain ⟨Ao22, co22, eo22⟩ := Kd.N_slice HO_5.1
     subst eo22
     go_wp2_with (first | ((with_reducible refine g_ 66 ?_); refine gl_ (some 20) Try.func66 #[.pointer (some ⟨g886, 0, none⟩), .int .i64 2] ?_; (with_reducible refine (spec_l1Once.calls g886 t883 x887001_1 x887002_1 2 false t904 t905 w _ (wJ_ HI886.1) wB_ A12.1).mono ?_); rintro e w23 ⟨rfl, hi, hb, hk⟩; refine ⟨_, rfl, ?_⟩; replace HO_5 := o_ (Kd.N_mono (Kd.N_keep (Kd.N_mono (ok := fun k_ => (((w.heap.size ≤ k_)) ∧ (k_ ≠ gb897 ∧ k_ ≠ g886))) y541_ (fun k_ hk_ => (⟨hk_, hk_.2.2⟩ : _ ∧ k_ ≠ g886))) hk (fun _ h => h.2)) (fun _ h => h.1)); replace BK897 := o_ (KeepBut.blk hk (g' := gb897) (o := c8_ t887 t888 t889 t890 t891 t892 t893 t894) (bd_ BK897.1) NB897_886.1 (by simp)); replace HB := o_ (hb); replace HI886 := o_ (hi); (try clear hb hk hi)))
     go_roundg k1
     case measure => have := HK1.1; omega
     case rel => exact ⟨(x5_1), (wrap64 (x6_1 + 1)), (t904), (t905), rs_, H', ⟨by have := HK1.1; omega⟩, ⟨by (with_reducible repeat (first | apply Kd.N_alloc | apply Kd.N_drewN | apply Kd.N_drew)); exact HO_5.1⟩, ⟨bd_ BK897.1⟩, ⟨(wJ_ HI886.1)⟩, ⟨wB_⟩⟩
   ·
    rw [if_neg c11] at H
    have c11b0 := decide_eq_false c11
    clear c11
    obtain rfl := Option.some.inj H
    obtain ⟨Ao24, co24, eo24⟩ := Kd.N_slice HO_5.1
    subst eo24
    go_wp2
    go_ret
    exact ⟨_, rt_, by (with_reducible repeat (first | apply Kd.N_alloc | apply Kd.N_drewN | apply Kd.N_drew)); exact Kd.N_mono HO_5.1 (fun _ hk => hk.1), wB_⟩

/-! ### impl_Report: function 68 -/
set_option maxHeartbeats 8000000 in
set_option maxRecDepth 100000 in
theorem impl_Report.calls (p : S41 → Bool) (g : Nat) (lb : Array Value) (eg : ∀ args w, (callFunc g args).run Try.prog w = .ok (.enter g args) w) (A0 : Option Addr) (c0 : Nat) (l0 : List S41) (w : World) (hr0 : Kd.C k41 w A0 l0.length l0)
    (hp : ∀ (x : S41) (A2_ : Option Addr) (c2_ : Nat) (A5_ : Option Addr) (c5_ : Nat) (W : World), Below w.heap.size w W → Calls Try.prog g (#[.agg #[.int .i64 x.f0, .int .i64 x.f1, .slice A2_ x.f2.length c2_, .int .i64 x.f3, .int .i64 x.f4, .slice A5_ x.f5.length c5_, .int .i64 x.f6.f0, .int .i64 x.f6.f1]] ++ lb) W fun e W' => e = .returned (.bool (p x)) ∧ Below W.heap.size W W') :
    Calls Try.prog 68 #[.slice A0 l0.length c0, .func (.func g) #[] lb] w fun e w' => e = .returned (.int .i64 (EvLib.idxB p l0 0)) ∧ Below w.heap.size w w' := by
  have hu41 := Try.underlying41
  have hu39 := Try.underlying39
  have HR0 := o_ hr0
  have HP := o_ hp
  have hmax := Kd.C_max hr0
  clear hr0 hp
  go_enter Try.func68, Try.ntmps68
  go_wp2
  go_loopg [5, 8] l0.length (fun gg _ v8 wr => ∃ z : Int, v8 = .int .i64 z ∧ Aside0 (0 ≤ z) ∧ Aside0 (z ≤ (l0.length : Int)) ∧ Aside0 ((l0.length : Int) - z ≤ gg) ∧ Aside0 (Below w.heap.size w wr) ∧ Aside0 (EvLib.idxB p (l0.drop z.toNat) z.toNat = EvLib.idxB p l0 0))
  case atStart => exact ⟨0, rfl, ⟨by omega⟩, ⟨by omega⟩, ⟨by omega⟩, ⟨Below.refl _ _⟩, ⟨rfl⟩⟩
  case round =>
    obtain ⟨z, rfl, Z0, Z1, ZG, HB, HI⟩ := hrel
    by_cases hlt : z < (l0.length : Int)
    · have p1 : 0 ≤ z := Z0.1
      obtain ⟨ad, A2_, c2_, A5_, c5_, e, hx0, hx1, hx2, hx3, hx4, hx5, hx6, hx7, hl2, hi2, hl5, hi5⟩ := at_T41 HR0.1 z p1 hlt
      cases e
      replace hx0 := pw_cell_below HB.1 hx0
      replace hx1 := pw_cell_below HB.1 hx1
      replace hx2 := pw_cell_below HB.1 hx2
      replace hx3 := pw_cell_below HB.1 hx3
      replace hx4 := pw_cell_below HB.1 hx4
      replace hx5 := pw_cell_below HB.1 hx5
      replace hx6 := pw_cell_below HB.1 hx6
      replace hx7 := pw_cell_below HB.1 hx7
      have hcall := HP.1 (rd_T41 l0 z) A2_ c2_ A5_ c5_ wr HB.1
      have hat := o_ (EvLib.idxB_at p z41 l0 z.toNat (by omega))
      cases hq : p (rd_T41 l0 z) with
      | true =>
        rw [hq] at hcall
        have HQ := o_ hq
        clear hq
        have hltb : decide (z < (l0.length : Int)) = true := decide_eq_true hlt
        replace p1 := eq_true p1
        replace hlt := eq_true hlt
        go_wp2_with (go_at_fn g; refine hcall.mono ?_; rintro e w' ⟨rfl, hb⟩; have n1_ := o_ (below_step HB.1 hb); clear HB; have HB := n1_; clear n1_ hb)
        go_ret
        have hz : EvLib.idxB p l0 0 = z := by rw [← HI.1, hat.1, if_pos (show p (l0.getD z.toNat z41) = true from HQ.1), Int.toNat_of_nonneg Z0.1]
        exact ⟨by rw [hz]; rfl, HB.1⟩
      | false =>
        rw [hq] at hcall
        have HQ := o_ hq
        clear hq
        have HL := o_ hlt
        have hltb : decide (z < (l0.length : Int)) = true := decide_eq_true hlt
        replace p1 := eq_true p1
        replace hlt := eq_true hlt
        have hwr : wrap64 (z + 1) = z + 1 := by have := Z0.1; have := HL.1; unfold wrap64; omega
        go_wp2_with (go_at_fn g; refine hcall.mono ?_; rintro e w' ⟨rfl, hb⟩; have n1_ := o_ (below_step HB.1 hb); clear HB; have HB := n1_; clear n1_ hb)
        go_roundg ((l0.length : Int) - (z + 1)).toNat
        case measure => have := Z0.1; have := HL.1; have := ZG.1; omega
        case rel =>
          refine ⟨z + 1, by first | rfl | (simp; done) | (simp [*]; done), ⟨by have := Z0.1; omega⟩, ⟨by have := HL.1; omega⟩, ⟨by have := HL.1; omega⟩, ⟨HB.1⟩, ⟨?_⟩⟩
          rw [← HI.1, hat.1, if_neg (by rw [show p (l0.getD z.toNat z41) = false from HQ.1]; simp)]
          have e1 : (z + 1).toNat = z.toNat + 1 := by have := Z0.1; omega
          rw [e1]
    · have hltb : decide (z < (l0.length : Int)) = false := decide_eq_false hlt
      have HE := o_ (EvLib.idxB_end p l0 z.toNat (by have := Z1.1; omega))
      clear hlt
      go_wp2
      go_ret
      have hz : EvLib.idxB p l0 0 = -1 := by rw [← HI.1, HE.1]
      exact ⟨by rw [hz]; rfl, HB.1⟩


/-! ### impl_FindReport: function 39 -/
set_option maxHeartbeats 8000000 in
set_option maxRecDepth 100000 in
theorem impl_FindReport_1.calls (x : S41) (A2_ : Option Addr) (c2_ : Nat) (A5_ : Option Addr) (c5_ : Nat) (a : Int) (g : Nat) (w : World) (hc : w.cell? ⟨g, 0, none⟩ = some (.int .i64 a)) :
    Calls Try.prog 69 #[.agg #[.int .i64 x.f0, .int .i64 x.f1, .slice A2_ x.f2.length c2_, .int .i64 x.f3, .int .i64 x.f4, .slice A5_ x.f5.length c5_, .int .i64 x.f6.f0, .int .i64 x.f6.f1], .pointer (some ⟨g, 0, none⟩)] w fun e w' => e = .returned (.bool (x.f0 == a)) ∧ Below w.heap.size w w' := by
  have hu41 := Try.underlying41
  have hu39 := Try.underlying39
  have hc2 : ∀ o, (w.alloc o).cell? ⟨g, 0, none⟩ = some (.int .i64 a) := fun o => pw_cell_below (below_alloc (Below.refl _ _) o) hc
  go_enter Try.func69, Try.ntmps69
  go_wp2
  go_ret
  exact ⟨rfl, by repeat (first | exact Below.refl _ _ | apply below_alloc | apply pw_below_drewN | apply below_drew1)⟩
def impl_FindReport.f (l0 : List S41) (a1 : Int) : Option Int := some (EvLib.idxB (fun x => x.f0 == a1) l0 0)
set_option maxHeartbeats 8000000 in
set_option maxRecDepth 100000 in
theorem impl_FindReport.calls (A0 : Option Addr) (c0 : Nat) (l0 : List S41) (a1 : Int) (r : Int) (w : World) (hr0 : Kd.C k41 w A0 l0.length l0) (hc0 : l0.length ≤ c0) (h : impl_FindReport.f l0 a1 = some r) :
    Calls Try.prog 39 #[.slice A0 l0.length c0, .int .i64 a1] w fun e w' => e = .returned (.int .i64 r) ∧ Below w.heap.size w w' := by
  have HR0 := o_ hr0
  clear hr0 hc0
  have H : EvLib.idxB (fun x : S41 => x.f0 == a1) l0 0 = r := Option.some.inj h
  subst H
  clear h
  have eg : ∀ args w, (callFunc 69 args).run Try.prog w = .ok (.enter 69 args) w := enters_of Try.func69 (by kernel_rfl) rfl
  have HC := o_ (impl_Report.calls (fun x : S41 => x.f0 == a1) 69 #[.pointer (some ⟨w.heap.size, 0, none⟩)] eg A0 c0 l0 (w.alloc (.cells #[.int .i64 a1] 3)) (Kd.C_alloc HR0.1 _)
    (fun x A2_ c2_ A5_ c5_ W hb => impl_FindReport_1.calls x A2_ c2_ A5_ c5_ a1 w.heap.size W ((hb.cell (p := ⟨w.heap.size, 0, none⟩) (by simp)).trans (by simp))))
  clear eg
  have HS := o_ (below_alloc (Below.refl w.heap.size w) (.cells #[.int .i64 a1] 3))
  generalize EvLib.idxB (fun x : S41 => x.f0 == a1) l0 0 = r at HC ⊢
  go_enter Try.func39, Try.ntmps39
  go_wp2_with (go_at_call 68; refine HC.1.mono ?_; rintro e w' ⟨rfl, hb⟩; have HB := o_ (below_step HS.1 hb); clear hb)
  go_ret
  exact ⟨rfl, HB.1⟩


end Go.Proofs.Ytglpmjcknhcjcaa.PFnTwins
