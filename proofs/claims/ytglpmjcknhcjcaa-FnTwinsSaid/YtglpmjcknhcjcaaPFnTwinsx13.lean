-- Written for this claim by a program (a printer turned to this claim); Lean checks it.
import Derived.Test.YtglpmjcknhcjcaaPFnTwinsx0
import Derived.Test.YtglpmjcknhcjcaaPFnTwinsx12
namespace Go.Proofs.Ytglpmjcknhcjcaa.PFnTwins
open Go.RowKit Go.Proofs.YtglpmjcknhcjcaaW.PrintWords Go.Proofs.YtglpmjcknhcjcaaW.PrintLast Go.Proofs.YtglpmjcknhcjcaaW.PrintMore
attribute [local go_sem] max2_int min2_int max_two min_two max_three min_three max_four min_four   -- for this text's walks alone
set_option linter.unusedVariables false
set_option linter.unusedSimpArgs false

/-! ### spec_l6Any: function 87 -/
def spec_l6Any.f (k : Nat) (s0_0 : List Int) (s0_1 : Int) (s0_2 : Int) : Option ((List (S58)) × Int × Int) := (spec_l6List.f k s0_0 s0_1 s0_2).bind fun bt379 => (if (bt379.1.length : Int) = 0 then (some (bt379.1, bt379.2.1, bt379.2.2)) else ((spec_l1Below.f s0_0 bt379.2.1 bt379.2.2 (bt379.1.length : Int)).bind fun bt384 => ((spec_l1Below.f s0_0 bt384.2.1 bt384.2.2 12).bind fun bt387 => (if bt387.1 = 0 then ((spec_l4Any.f s0_0 bt387.2.1 bt387.2.2).bind fun bt390 => (if 0 ≤ bt384.1 then (if bt384.1 < (bt379.1.length : Int) then (some ((bt379.1.set (bt384.1 : Int).toNat (⟨(⟨bt390.1, bt390.2.1, bt390.2.2.1, bt390.2.2.2.1, bt390.2.2.2.2.1⟩ : S56), (rd_T58 bt379.1 bt384.1).f1, (rd_T58 bt379.1 bt384.1).f2, (rd_T58 bt379.1 bt384.1).f3⟩ : S58)), bt390.2.2.2.2.2.1, bt390.2.2.2.2.2.2)) else (none)) else (none))) else (if bt387.1 = 1 then ((spec_l1Int.f s0_0 bt387.2.1 bt387.2.2 (([0, 30, 31] : List Int))).bind fun bt401 => (if 0 ≤ bt384.1 then (if bt384.1 < (bt379.1.length : Int) then (some ((bt379.1.set (bt384.1 : Int).toNat (⟨(⟨(rd_T58 bt379.1 bt384.1).f0.f0, (rd_T58 bt379.1 bt384.1).f0.f1, (rd_T58 bt379.1 bt384.1).f0.f2, (rd_T58 bt379.1 bt384.1).f0.f3, (rd_T58 bt379.1 bt384.1).f0.f4⟩ : S56), bt401.1, (rd_T58 bt379.1 bt384.1).f2, (rd_T58 bt379.1 bt384.1).f3⟩ : S58)), bt401.2.1, bt401.2.2)) else (none)) else (none))) else (if bt387.1 = 2 then ((spec_l4Raw.f s0_0 bt387.2.1 bt387.2.2).bind fun bt405 => (if 0 ≤ bt384.1 then (if bt384.1 < (bt379.1.length : Int) then (some ((bt379.1.set (bt384.1 : Int).toNat (⟨(⟨(rd_T58 bt379.1 bt384.1).f0.f0, (rd_T58 bt379.1 bt384.1).f0.f1, (rd_T58 bt379.1 bt384.1).f0.f2, (rd_T58 bt379.1 bt384.1).f0.f3, (rd_T58 bt379.1 bt384.1).f0.f4⟩ : S56), (rd_T58 bt379.1 bt384.1).f1, bt405.1, (rd_T58 bt379.1 bt384.1).f3⟩ : S58)), bt405.2.1, bt405.2.2)) else (none)) else (none))) else (if bt387.1 = 3 then ((spec_l1Int.f s0_0 bt387.2.1 bt387.2.2 (([(-1), 999, 1000] : List Int))).bind fun bt412 => (if 0 ≤ bt384.1 then (if bt384.1 < (bt379.1.length : Int) then (some ((bt379.1.set (bt384.1 : Int).toNat (⟨(⟨(rd_T58 bt379.1 bt384.1).f0.f0, (rd_T58 bt379.1 bt384.1).f0.f1, (rd_T58 bt379.1 bt384.1).f0.f2, (rd_T58 bt379.1 bt384.1).f0.f3, (rd_T58 bt379.1 bt384.1).f0.f4⟩ : S56), (rd_T58 bt379.1 bt384.1).f1, (rd_T58 bt379.1 bt384.1).f2, bt412.1⟩ : S58)), bt412.2.1, bt412.2.2)) else (none)) else (none))) else (some (bt379.1, bt387.2.1, bt387.2.2)))))))))
theorem spec_l6Any.mono : ∀ a0 a1 a2 k, LeO (spec_l6Any.f k a0 a1 a2) (spec_l6Any.f (k + 1) a0 a1 a2) := by
 intro a0 a1 a2 k
 unfold spec_l6Any.f
 have jh0 := @spec_l6List.mono
 exact mo_
set_option maxHeartbeats 8000000 in
set_option maxRecDepth 100000 in
theorem spec_l6Any.calls (k : Nat) (g : Nat) (s0_0 : List Int) (s0_1 : Int) (s0_2 : Int) (r1 : List (S58)) (r2 : Int) (r3 : Int) (w0 w : World) (hI : IsS102 w0 w g s0_0 s0_1 s0_2) (hB : Below w0.heap.size w0 w) (h : spec_l6Any.f k s0_0 s0_1 s0_2 = some (r1, r2, r3)) :
  Calls Try.prog 87 #[.pointer (some ⟨g, 0, none⟩)] w fun e w' => ∃ v0_ : Value, e = .returned (v0_) ∧ Kd.R k58 58 w' w.heap.size (fun _ => True) v0_ r1 ∧ IsS102 w0 w' g s0_0 r2 r3 ∧ Below w0.heap.size w0 w' ∧ KeepBut w w' g none := by
 have hu56 := Try.underlying56
 have HI0 := o_ hI
 have HK := o_ (KeepBut.refl w g none)
 have HL := o_ hB.size
 clear hI
 have HW0 := o_ hB.size
 have HB := o_ hB
 clear hB
 have H := h
 unfold spec_l6Any.f at H
 clear h
 obtain ⟨⟨t379, t382, t383⟩, A2, H⟩ := ob_ H
 try dsimp only at H
 have HH_ := o_ H
 clear H
 go_enter Try.func87, Try.ntmps87
 go_upto_region 2 with (first | ((with_reducible refine g_ 96 ?_); refine gl_ (some 6) Try.func96 #[.pointer (some ⟨g, 0, none⟩)] ?_; (with_reducible refine (spec_l6List.calls k g s0_0 s0_1 s0_2 t379 t382 t383 w0 _ wI_ wB_ A2.1).mono ?_); rintro e w4 ⟨v380, rfl, ho0, hi, hb, hk⟩; refine ⟨_, rfl, ?_⟩; have HO381 := o_ (Kd.R_lower ho0 (keep_size (w := w) (g := g) (row := none) wK_)); replace HK := o_ (KeepBut.trans wK_ hk (.inl rfl)); replace HB := o_ (hb); replace HI0 := o_ (hi); (try clear hb hk hi ho0); obtain ⟨Ao5, co5, eo5⟩ := Kd.R_slice HO381.1; subst eo5))
 have H := HH_.1
 clear HH_
 by_cases c3 : (t379.length : Int) = 0
 ·
  rw [if_pos c3] at H
  have c3b0 := beq_iff_eq.mpr c3
  have c3b1 := bne_eq_false_iff_eq.mpr c3
  clear c3
  simp only [Option.some.injEq, Prod.mk.injEq] at H
  obtain ⟨rfl, rfl, rfl⟩ := H
  go_wp2
  go_ret
  exact ⟨_, rt_, rd_ HO381.1, wI_, wB_, wK_⟩
 ·
  rw [if_neg c3] at H
  have c3b0 := beq_eq_false_iff_ne.mpr c3
  have c3b1 := bne_iff_ne.mpr c3
  have c3b2 : ¬ (t379 = []) := fun h_ => c3 (by rw [h_]; rfl)
  obtain ⟨⟨t384, t385, t386⟩, A6, H⟩ := ob_ H
  try dsimp only at H
  obtain ⟨⟨t387, t388, t389⟩, A7, H⟩ := ob_ H
  try dsimp only at H
  by_cases c8 : t387 = 0
  ·
   rw [if_pos c8] at H
   have c8b0 := beq_iff_eq.mpr c8
   have c8b1 := bne_eq_false_iff_eq.mpr c8
   clear c8
   obtain ⟨⟨t390, t391, t392, t393, t394, t395, t396⟩, A9, H⟩ := ob_ H
   try dsimp only at H
   by_cases c10 : 0 ≤ t384
   ·
    rw [if_pos c10] at H
    have c10b0 := decide_eq_true c10
    clear c10
    by_cases c11 : t384 < (t379.length : Int)
    ·
     rw [if_pos c11] at H
     have c11b0 := decide_eq_true c11
     clear c11
     obtain ⟨y397, hy397⟩ : ∃ y_ : List (S58), y_ = (t379.set (t384 : Int).toNat (⟨(⟨t390, t391, t392, t393, t394⟩ : S56), (rd_T58 t379 t384).f1, (rd_T58 t379 t384).f2, (rd_T58 t379 t384).f3⟩ : S58)) := ⟨_, rfl⟩
     replace H : (some (y397, t395, t396)) = some (r1, r2, r3) := hy_ H hy397
     have Ny397 := o_ hy397
     clear hy397
     simp only [Option.some.injEq, Prod.mk.injEq] at H
     obtain ⟨rfl, rfl, rfl⟩ := H
     go_wp2_with (first | ((with_reducible refine g_ 84 ?_); refine gl_ (some 14) Try.func84 #[.pointer (some ⟨g, 0, none⟩), .int .i64 (t379.length : Int)] ?_; (with_reducible refine (spec_l1Below.calls g s0_0 t382 t383 (t379.length : Int) t384 t385 t386 w0 _ wI_ wB_ A6.1).mono ?_); rintro e w15 ⟨rfl, hi, hb, hk⟩; refine ⟨_, rfl, ?_⟩; replace HO381 := o_ (kp_ (show IsS102 w0 _ g s0_0 t382 t383 from wI_) (rd_ HO381.1) hk); replace HK := o_ (KeepBut.trans wK_ hk (.inl rfl)); replace HB := o_ (hb); replace HI0 := o_ (hi); (try clear hb hk hi)) | ((with_reducible refine g_ 84 ?_); refine gl_ (some 16) Try.func84 #[.pointer (some ⟨g, 0, none⟩), .int .i64 12] ?_; (with_reducible refine (spec_l1Below.calls g s0_0 t385 t386 12 t387 t388 t389 w0 _ wI_ wB_ A7.1).mono ?_); rintro e w16 ⟨rfl, hi, hb, hk⟩; refine ⟨_, rfl, ?_⟩; replace HO381 := o_ (kp_ (show IsS102 w0 _ g s0_0 t385 t386 from wI_) (rd_ HO381.1) hk); replace HK := o_ (KeepBut.trans wK_ hk (.inl rfl)); replace HB := o_ (hb); replace HI0 := o_ (hi); (try clear hb hk hi)) | ((with_reducible refine g_ 97 ?_); refine gl_ (some 22) Try.func97 #[.pointer (some ⟨g, 0, none⟩)] ?_; (with_reducible refine (spec_l4Any.calls g s0_0 t388 t389 t390 t391 t392 t393 t394 t395 t396 w0 _ wI_ wB_ A9.1).mono ?_); rintro e w17 ⟨rfl, hi, hb, hk⟩; refine ⟨_, rfl, ?_⟩; replace HO381 := o_ (kp_ (show IsS102 w0 _ g s0_0 t388 t389 from wI_) (rd_ HO381.1) hk); replace HK := o_ (KeepBut.trans wK_ hk (.inl rfl)); replace HB := o_ (hb); replace HI0 := o_ (hi); (try clear hb hk hi); have p12 : 0 ≤ (t384 : Int) := of_decide_eq_true as_; have q12 : (t384 : Int) < ((t379.length : Int) : Int) := of_decide_eq_true as_; obtain ⟨go12, co12, eo12, gb12, gl12, cl12, HG12⟩ := Kd.R_form HO381.1 (by omega); (first | cases eo12 | (injection eo12 with ea_ en_ ec_; (first | subst ea_ | (injection ea_ with ea_; subst ea_)); subst ec_; clear en_)); have GB12 := o_ gb12; have GG12 := o_ HG12; clear gb12 gl12 HG12; obtain ⟨ce12, hcl12, hM12, hcc12, hfr12⟩ := Kd.R_elem HO381.1 z58 (t384 : Int) p12 q12; obtain rfl := k58_openM hM12; have hx12_0 : w17.cell? ⟨go12, (t384 : Int).toNat * 8, none⟩ = some (.int .i64 ((rd_T58 t379 t384).f0.f0)) := hcc12 0 _ rfl; have hx12_1 : w17.cell? ⟨go12, (t384 : Int).toNat * 8 + 1, none⟩ = some (.int .i64 ((rd_T58 t379 t384).f0.f1)) := hcc12 1 _ rfl; have hx12_2 : w17.cell? ⟨go12, (t384 : Int).toNat * 8 + 2, none⟩ = some (.int .i64 ((rd_T58 t379 t384).f0.f2)) := hcc12 2 _ rfl; have hx12_3 : w17.cell? ⟨go12, (t384 : Int).toNat * 8 + 3, none⟩ = some (.int .i64 ((rd_T58 t379 t384).f0.f3)) := hcc12 3 _ rfl; have hx12_4 : w17.cell? ⟨go12, (t384 : Int).toNat * 8 + 4, none⟩ = some (.int .i64 ((rd_T58 t379 t384).f0.f4)) := hcc12 4 _ rfl; have hx12_5 : w17.cell? ⟨go12, (t384 : Int).toNat * 8 + 5, none⟩ = some (.int .i64 ((rd_T58 t379 t384).f1)) := hcc12 5 _ rfl; have hx12_6 : w17.cell? ⟨go12, (t384 : Int).toNat * 8 + 6, none⟩ = some (.int .i64 ((rd_T58 t379 t384).f2)) := hcc12 6 _ rfl; have hx12_7 : w17.cell? ⟨go12, (t384 : Int).toNat * 8 + 7, none⟩ = some (.int .i64 ((rd_T58 t379 t384).f3)) := hcc12 7 _ rfl; have hf12_0 : w17.frozen? ⟨go12, (t384 : Int).toNat * 8, none⟩ = false := hfr12 0; have hf12_1 : w17.frozen? ⟨go12, (t384 : Int).toNat * 8 + 1, none⟩ = false := hfr12 1; have hf12_2 : w17.frozen? ⟨go12, (t384 : Int).toNat * 8 + 2, none⟩ = false := hfr12 2; have hf12_3 : w17.frozen? ⟨go12, (t384 : Int).toNat * 8 + 3, none⟩ = false := hfr12 3; have hf12_4 : w17.frozen? ⟨go12, (t384 : Int).toNat * 8 + 4, none⟩ = false := hfr12 4; have hf12_5 : w17.frozen? ⟨go12, (t384 : Int).toNat * 8 + 5, none⟩ = false := hfr12 5; have hf12_6 : w17.frozen? ⟨go12, (t384 : Int).toNat * 8 + 6, none⟩ = false := hfr12 6; have hf12_7 : w17.frozen? ⟨go12, (t384 : Int).toNat * 8 + 7, none⟩ = false := hfr12 7; clear hcl12 hcc12 hfr12 hM12; replace p12 := eq_true p12; replace q12 := eq_true q12; have HX18 := o_ (show Kd.R k58 58 w17 w.heap.size (fun _ => True) (.slice (some ⟨go12, 0, none⟩) t379.length co5) t379 from (rd_ HO381.1)); obtain ⟨ce18, hcl18, hM18, hcc18, hfr18⟩ := Kd.R_elem HX18.1 z58 (t384 : Int) (of_decide_eq_true as_) (by have h_ : (t384 : Int) < ((t379.length : Int) : Int) := of_decide_eq_true as_; first | exact h_ | (have e_ := (Kd.R_reads' HO381.1).1; omega) | simpa using h_); obtain rfl := k58_openM hM18; have HP18 := Kd.R_seg HX18.1 (t384 : Int) (of_decide_eq_true as_) (by have h_ : (t384 : Int) < ((t379.length : Int) : Int) := of_decide_eq_true as_; first | exact h_ | (have e_ := (Kd.R_reads' HO381.1).1; omega) | simpa using h_) (seg := [.int .i64 t390, .int .i64 t391, .int .i64 t392, .int .i64 t393, .int .i64 t394]) (j := 0) hcl18 hcc18 (show 5 ≤ 8 from by decide) (x' := (⟨(⟨t390, t391, t392, t393, t394⟩ : S56), (rd_T58 t379 t384).f1, (rd_T58 t379 t384).f2, (rd_T58 t379 t384).f3⟩ : S58)) (k58_mkM _ _ _ (⟨(⟨t390, t391, t392, t393, t394⟩ : S56), (rd_T58 t379 t384).f1, (rd_T58 t379 t384).f2, (rd_T58 t379 t384).f3⟩ : S58) ) (fun _ hk => hk); have hx18_0 := hcc18 0 _ rfl; (try simp only [show (k58).sz = 8 from rfl, Nat.mul_one, Nat.add_zero] at hx18_0); have hf18_0 := hfr18 0; (try simp only [show (k58).sz = 8 from rfl, Nat.mul_one, Nat.add_zero] at hf18_0); have hx18_1 := hcc18 1 _ rfl; (try simp only [show (k58).sz = 8 from rfl, Nat.mul_one, Nat.add_zero] at hx18_1); have hf18_1 := hfr18 1; (try simp only [show (k58).sz = 8 from rfl, Nat.mul_one, Nat.add_zero] at hf18_1); have hx18_2 := hcc18 2 _ rfl; (try simp only [show (k58).sz = 8 from rfl, Nat.mul_one, Nat.add_zero] at hx18_2); have hf18_2 := hfr18 2; (try simp only [show (k58).sz = 8 from rfl, Nat.mul_one, Nat.add_zero] at hf18_2); have hx18_3 := hcc18 3 _ rfl; (try simp only [show (k58).sz = 8 from rfl, Nat.mul_one, Nat.add_zero] at hx18_3); have hf18_3 := hfr18 3; (try simp only [show (k58).sz = 8 from rfl, Nat.mul_one, Nat.add_zero] at hf18_3); have hx18_4 := hcc18 4 _ rfl; (try simp only [show (k58).sz = 8 from rfl, Nat.mul_one, Nat.add_zero] at hx18_4); have hf18_4 := hfr18 4; (try simp only [show (k58).sz = 8 from rfl, Nat.mul_one, Nat.add_zero] at hf18_4); clear hcl18 hcc18 hfr18 hM18) | ((with_reducible refine gate_store (t := 56) (p := 24) rfl ?_); refine store_event (t := 56) (p := 24) (v := ?vo_w19) (w1 := (((((w17.setCell ⟨go12, (t384 : Int).toNat * 8, none⟩ (.int .i64 t390)).setCell ⟨go12, (t384 : Int).toNat * 8 + 1, none⟩ (.int .i64 t391)).setCell ⟨go12, (t384 : Int).toNat * 8 + 2, none⟩ (.int .i64 t392)).setCell ⟨go12, (t384 : Int).toNat * 8 + 3, none⟩ (.int .i64 t393)).setCell ⟨go12, (t384 : Int).toNat * 8 + 4, none⟩ (.int .i64 t394))) ?hg ?ho ?hn ?hr ?_; (case ho => rfl); (case hg => rfl); (case hn => rfl); (case hr => first | (go_simp; done) | (go_simp; rfl)); intro w19 hw; have hg : w17.grownBy w19 (some go12) := (by rw [hw]; exact HP18.2); have hp_ : Kd.R k58 58 w19 w.heap.size (fun _ => True) (.slice (some ⟨go12, 0, none⟩) t379.length co5) y397 := (by rw [hw, Ny397.1]; exact HP18.1); clear HP18; replace HI0 := o_ (IsS102.grown wI_ hg (IsS102.own_ne HI0.1 HO381.1 (by decide))); replace HB := o_ ((by rw [hw]; exact below_set (below_set (below_set (below_set (below_set (HB.1) (Nat.le_trans HL.1 GB12.1)) (Nat.le_trans HL.1 GB12.1)) (Nat.le_trans HL.1 GB12.1)) (Nat.le_trans HL.1 GB12.1)) (Nat.le_trans HL.1 GB12.1) : Below w0.heap.size w0 w19)); replace HK := o_ (KeepBut.trans wK_ (KeepBut.of_grown hg g) (Kd.R_base2 HO381.1)); replace HO381 := o_ (hp_); clear hg hw hp_))
     go_ret
     exact ⟨_, rt_, rd_ HO381.1, wI_, wB_, wK_⟩
    ·
     rw [if_neg c11] at H
     exact absurd H (by simp)
   ·
    rw [if_neg c10] at H
    exact absurd H (by simp)
  ·
   rw [if_neg c8] at H
   have c8b0 := beq_eq_false_iff_ne.mpr c8
   have c8b1 := bne_iff_ne.mpr c8
   by_cases c20 : t387 = 1
   ·
    rw [if_pos c20] at H
    have c20b0 := beq_iff_eq.mpr c20
    have c20b1 := bne_eq_false_iff_eq.mpr c20
    clear c20
    obtain ⟨y398, hy398⟩ : ∃ y_ : List Int, y_ = (([0, 30, 31] : List Int)) := ⟨_, rfl⟩
    replace H : ((spec_l1Int.f s0_0 t388 t389 y398).bind fun bt401 => (if 0 ≤ t384 then (if t384 < (t379.length : Int) then (some ((t379.set (t384 : Int).toNat (⟨(⟨(rd_T58 t379 t384).f0.f0, (rd_T58 t379 t384).f0.f1, (rd_T58 t379 t384).f0.f2, (rd_T58 t379 t384).f0.f3, (rd_T58 t379 t384).f0.f4⟩ : S56), bt401.1, (rd_T58 t379 t384).f2, (rd_T58 t379 t384).f3⟩ : S58)), bt401.2.1, bt401.2.2)) else (none)) else (none))) = some (r1, r2, r3) := hy_ H hy398
    have Ny398 := o_ hy398
    clear hy398
    obtain ⟨⟨t401, t402, t403⟩, A21, H⟩ := ob_ H
    try dsimp only at H
    by_cases c22 : 0 ≤ t384
    ·
     rw [if_pos c22] at H
     have c22b0 := decide_eq_true c22
     clear c22
     by_cases c23 : t384 < (t379.length : Int)
     ·
      rw [if_pos c23] at H
      have c23b0 := decide_eq_true c23
      clear c23
      obtain ⟨y404, hy404⟩ : ∃ y_ : List (S58), y_ = (t379.set (t384 : Int).toNat (⟨(⟨(rd_T58 t379 t384).f0.f0, (rd_T58 t379 t384).f0.f1, (rd_T58 t379 t384).f0.f2, (rd_T58 t379 t384).f0.f3, (rd_T58 t379 t384).f0.f4⟩ : S56), t401, (rd_T58 t379 t384).f2, (rd_T58 t379 t384).f3⟩ : S58)) := ⟨_, rfl⟩
      replace H : (some (y404, t402, t403)) = some (r1, r2, r3) := hy_ H hy404
      have Ny404 := o_ hy404
      clear hy404
      simp only [Option.some.injEq, Prod.mk.injEq] at H
      obtain ⟨rfl, rfl, rfl⟩ := H
      go_wp2_with (first | ((with_reducible refine g_ 84 ?_); refine gl_ (some 14) Try.func84 #[.pointer (some ⟨g, 0, none⟩), .int .i64 (t379.length : Int)] ?_; (with_reducible refine (spec_l1Below.calls g s0_0 t382 t383 (t379.length : Int) t384 t385 t386 w0 _ wI_ wB_ A6.1).mono ?_); rintro e w27 ⟨rfl, hi, hb, hk⟩; refine ⟨_, rfl, ?_⟩; replace HO381 := o_ (kp_ (show IsS102 w0 _ g s0_0 t382 t383 from wI_) (rd_ HO381.1) hk); replace HK := o_ (KeepBut.trans wK_ hk (.inl rfl)); replace HB := o_ (hb); replace HI0 := o_ (hi); (try clear hb hk hi)) | ((with_reducible refine g_ 84 ?_); refine gl_ (some 16) Try.func84 #[.pointer (some ⟨g, 0, none⟩), .int .i64 12] ?_; (with_reducible refine (spec_l1Below.calls g s0_0 t385 t386 12 t387 t388 t389 w0 _ wI_ wB_ A7.1).mono ?_); rintro e w28 ⟨rfl, hi, hb, hk⟩; refine ⟨_, rfl, ?_⟩; replace HO381 := o_ (kp_ (show IsS102 w0 _ g s0_0 t385 t386 from wI_) (rd_ HO381.1) hk); replace HK := o_ (KeepBut.trans wK_ hk (.inl rfl)); replace HB := o_ (hb); replace HI0 := o_ (hi); (try clear hb hk hi)) | ((with_reducible refine gate_dst (N := 30) rfl ?_); refine Kd.R_lit (Kd.int .i64) _ 3 ?hg (N := 30) ?hd (xs := ([0, 30, 31] : List Int)) (inner := [.int .i64 0, .int .i64 30, .int .i64 31]) (ok := fun _ => True) (okp := fun _ => True) ?hr ?hp (fun _ hk => hk) trivial (Below.refl _ _) (Nat.le_refl _) (by simp) ?_; (case hd => rfl); (case hg => rfl); (case hr => first | (go_simp; done) | (go_simp; rfl)); (case hp => exact (Reps.one (show Kd.M (Kd.int .i64) _ _ _ 0 [.int .i64 0] from rfl) (Reps.one (show Kd.M (Kd.int .i64) _ _ _ 30 [.int .i64 30] from rfl) (Reps.one (show Kd.M (Kd.int .i64) _ _ _ 31 [.int .i64 31] from rfl) (Reps.none _ _))))); intro v399 w29 ho30 hb hg_ hnew_; clear hg_ hnew_; (first | rw [← Ny398.1] at ho30 | (simp only [Int.reduceToNat] at ho30; rw [← Ny398.1] at ho30)); replace HO381 := o_ (Kd.R_below (rd_ HO381.1) hb); have HO400 := o_ (Kd.R_lower ho30 (keep_size (w := w) (g := g) (row := none) wK_)); replace HK := o_ (KeepBut.trans wK_ (KeepBut.of_below hb g none) (.inl rfl)); replace HB := o_ (below_step (wB_) hb); replace HI0 := o_ (IsS102.below wI_ hb); clear hb ho30; obtain ⟨Ao31, co31, eo31⟩ := Kd.R_slice HO400.1; subst eo31) | ((with_reducible refine g_ 85 ?_); refine gl_ (some 31) Try.func85 #[.pointer (some ⟨g, 0, none⟩), .slice Ao31 y398.length co31] ?_; (with_reducible refine (spec_l1Int.calls g s0_0 t388 t389 _ _ y398 t401 t402 t403 w0 _ wI_ wB_ (cd_ (Kd.R_reads' HO400.1).2.2) ((Kd.R_reads' HO400.1).2.1) ?side5 A21.1).mono ?_); (case side5 => exact far_slice (IsS102.own_ne HI0.1 HO400.1 (by decide))); rintro e w32 ⟨rfl, hi, hb, hk⟩; refine ⟨_, rfl, ?_⟩; replace HO381 := o_ (kp_ (show IsS102 w0 _ g s0_0 t388 t389 from wI_) (rd_ HO381.1) hk); replace HO400 := o_ (kp_ (show IsS102 w0 _ g s0_0 t388 t389 from wI_) (rd_ HO400.1) hk); replace HK := o_ (KeepBut.trans wK_ hk (.inl rfl)); replace HB := o_ (hb); replace HI0 := o_ (hi); (try clear hb hk hi); have p24 : 0 ≤ (t384 : Int) := of_decide_eq_true as_; have q24 : (t384 : Int) < ((t379.length : Int) : Int) := of_decide_eq_true as_; obtain ⟨go24, co24, eo24, gb24, gl24, cl24, HG24⟩ := Kd.R_form HO381.1 (by omega); (first | cases eo24 | (injection eo24 with ea_ en_ ec_; (first | subst ea_ | (injection ea_ with ea_; subst ea_)); subst ec_; clear en_)); have GB24 := o_ gb24; have GG24 := o_ HG24; clear gb24 gl24 HG24; obtain ⟨ce24, hcl24, hM24, hcc24, hfr24⟩ := Kd.R_elem HO381.1 z58 (t384 : Int) p24 q24; obtain rfl := k58_openM hM24; have hx24_0 : w32.cell? ⟨go24, (t384 : Int).toNat * 8, none⟩ = some (.int .i64 ((rd_T58 t379 t384).f0.f0)) := hcc24 0 _ rfl; have hx24_1 : w32.cell? ⟨go24, (t384 : Int).toNat * 8 + 1, none⟩ = some (.int .i64 ((rd_T58 t379 t384).f0.f1)) := hcc24 1 _ rfl; have hx24_2 : w32.cell? ⟨go24, (t384 : Int).toNat * 8 + 2, none⟩ = some (.int .i64 ((rd_T58 t379 t384).f0.f2)) := hcc24 2 _ rfl; have hx24_3 : w32.cell? ⟨go24, (t384 : Int).toNat * 8 + 3, none⟩ = some (.int .i64 ((rd_T58 t379 t384).f0.f3)) := hcc24 3 _ rfl; have hx24_4 : w32.cell? ⟨go24, (t384 : Int).toNat * 8 + 4, none⟩ = some (.int .i64 ((rd_T58 t379 t384).f0.f4)) := hcc24 4 _ rfl; have hx24_5 : w32.cell? ⟨go24, (t384 : Int).toNat * 8 + 5, none⟩ = some (.int .i64 ((rd_T58 t379 t384).f1)) := hcc24 5 _ rfl; have hx24_6 : w32.cell? ⟨go24, (t384 : Int).toNat * 8 + 6, none⟩ = some (.int .i64 ((rd_T58 t379 t384).f2)) := hcc24 6 _ rfl; have hx24_7 : w32.cell? ⟨go24, (t384 : Int).toNat * 8 + 7, none⟩ = some (.int .i64 ((rd_T58 t379 t384).f3)) := hcc24 7 _ rfl; have hf24_0 : w32.frozen? ⟨go24, (t384 : Int).toNat * 8, none⟩ = false := hfr24 0; have hf24_1 : w32.frozen? ⟨go24, (t384 : Int).toNat * 8 + 1, none⟩ = false := hfr24 1; have hf24_2 : w32.frozen? ⟨go24, (t384 : Int).toNat * 8 + 2, none⟩ = false := hfr24 2; have hf24_3 : w32.frozen? ⟨go24, (t384 : Int).toNat * 8 + 3, none⟩ = false := hfr24 3; have hf24_4 : w32.frozen? ⟨go24, (t384 : Int).toNat * 8 + 4, none⟩ = false := hfr24 4; have hf24_5 : w32.frozen? ⟨go24, (t384 : Int).toNat * 8 + 5, none⟩ = false := hfr24 5; have hf24_6 : w32.frozen? ⟨go24, (t384 : Int).toNat * 8 + 6, none⟩ = false := hfr24 6; have hf24_7 : w32.frozen? ⟨go24, (t384 : Int).toNat * 8 + 7, none⟩ = false := hfr24 7; clear hcl24 hcc24 hfr24 hM24; replace p24 := eq_true p24; replace q24 := eq_true q24; have HX33 := o_ (show Kd.R k58 58 w32 w.heap.size (fun _ => True) (.slice (some ⟨go24, 0, none⟩) t379.length co5) t379 from (rd_ HO381.1)); obtain ⟨ce33, hcl33, hM33, hcc33, hfr33⟩ := Kd.R_elem HX33.1 z58 (t384 : Int) (of_decide_eq_true as_) (by have h_ : (t384 : Int) < ((t379.length : Int) : Int) := of_decide_eq_true as_; first | exact h_ | (have e_ := (Kd.R_reads' HO381.1).1; omega) | simpa using h_); obtain rfl := k58_openM hM33; have HP33 := Kd.R_seg HX33.1 (t384 : Int) (of_decide_eq_true as_) (by have h_ : (t384 : Int) < ((t379.length : Int) : Int) := of_decide_eq_true as_; first | exact h_ | (have e_ := (Kd.R_reads' HO381.1).1; omega) | simpa using h_) (seg := [.int .i64 t401]) (j := 5) hcl33 hcc33 (show 6 ≤ 8 from by decide) (x' := (⟨(⟨(rd_T58 t379 t384).f0.f0, (rd_T58 t379 t384).f0.f1, (rd_T58 t379 t384).f0.f2, (rd_T58 t379 t384).f0.f3, (rd_T58 t379 t384).f0.f4⟩ : S56), t401, (rd_T58 t379 t384).f2, (rd_T58 t379 t384).f3⟩ : S58)) (k58_mkM _ _ _ (⟨(⟨(rd_T58 t379 t384).f0.f0, (rd_T58 t379 t384).f0.f1, (rd_T58 t379 t384).f0.f2, (rd_T58 t379 t384).f0.f3, (rd_T58 t379 t384).f0.f4⟩ : S56), t401, (rd_T58 t379 t384).f2, (rd_T58 t379 t384).f3⟩ : S58) ) (fun _ hk => hk); have hx33_5 := hcc33 5 _ rfl; (try simp only [show (k58).sz = 8 from rfl, Nat.mul_one, Nat.add_zero] at hx33_5); have hf33_5 := hfr33 5; (try simp only [show (k58).sz = 8 from rfl, Nat.mul_one, Nat.add_zero] at hf33_5); clear hcl33 hcc33 hfr33 hM33) | ((with_reducible refine gate_store (t := 3) (p := 33) rfl ?_); refine store_event (t := 3) (p := 33) (v := ?vo_w34) (w1 := (w32.setCell ⟨go24, (t384 : Int).toNat * 8 + 5, none⟩ (.int .i64 t401))) ?hg ?ho ?hn ?hr ?_; (case ho => rfl); (case hg => rfl); (case hn => rfl); (case hr => first | (go_simp; done) | (go_simp; rfl)); intro w34 hw; have hg : w32.grownBy w34 (some go24) := (by rw [hw]; exact HP33.2); have hp_ : Kd.R k58 58 w34 w.heap.size (fun _ => True) (.slice (some ⟨go24, 0, none⟩) t379.length co5) y404 := (by rw [hw, Ny404.1]; exact HP33.1); clear HP33; replace HI0 := o_ (IsS102.grown wI_ hg (IsS102.own_ne HI0.1 HO381.1 (by decide))); replace HO400 := o_ (Kd.R_over' (v := (.slice (some ⟨go24, 0, none⟩) t379.length co5)) (rd_ HO400.1) (Kd.R_typed HO381.1) (by decide) hg); replace HB := o_ ((by rw [hw]; exact below_set (HB.1) (Nat.le_trans HL.1 GB24.1) : Below w0.heap.size w0 w34)); replace HK := o_ (KeepBut.trans wK_ (KeepBut.of_grown hg g) (Kd.R_base2 HO381.1)); replace HO381 := o_ (hp_); clear hg hw hp_))
      go_ret
      exact ⟨_, rt_, rd_ HO381.1, wI_, wB_, wK_⟩
     ·
      rw [if_neg c23] at H
      exact absurd H (by simp)
    ·
     rw [if_neg c22] at H
     exact absurd H (by simp)
   ·
    rw [if_neg c20] at H
    have c20b0 := beq_eq_false_iff_ne.mpr c20
    have c20b1 := bne_iff_ne.mpr c20
    by_cases c35 : t387 = 2
    ·
     rw [if_pos c35] at H
     have c35b0 := beq_iff_eq.mpr c35
     have c35b1 := bne_eq_false_iff_eq.mpr c35
     clear c35
     obtain ⟨⟨t405, t406, t407⟩, A36, H⟩ := ob_ H
     try dsimp only at H
     by_cases c37 : 0 ≤ t384
     ·
      rw [if_pos c37] at H
      have c37b0 := decide_eq_true c37
      clear c37
      by_cases c38 : t384 < (t379.length : Int)
      ·
       rw [if_pos c38] at H
       have c38b0 := decide_eq_true c38
       clear c38
       obtain ⟨y408, hy408⟩ : ∃ y_ : List (S58), y_ = (t379.set (t384 : Int).toNat (⟨(⟨(rd_T58 t379 t384).f0.f0, (rd_T58 t379 t384).f0.f1, (rd_T58 t379 t384).f0.f2, (rd_T58 t379 t384).f0.f3, (rd_T58 t379 t384).f0.f4⟩ : S56), (rd_T58 t379 t384).f1, t405, (rd_T58 t379 t384).f3⟩ : S58)) := ⟨_, rfl⟩
       replace H : (some (y408, t406, t407)) = some (r1, r2, r3) := hy_ H hy408
       have Ny408 := o_ hy408
       clear hy408
       simp only [Option.some.injEq, Prod.mk.injEq] at H
       obtain ⟨rfl, rfl, rfl⟩ := H
       go_wp2_with (first | ((with_reducible refine g_ 84 ?_); refine gl_ (some 14) Try.func84 #[.pointer (some ⟨g, 0, none⟩), .int .i64 (t379.length : Int)] ?_; (with_reducible refine (spec_l1Below.calls g s0_0 t382 t383 (t379.length : Int) t384 t385 t386 w0 _ wI_ wB_ A6.1).mono ?_); rintro e w42 ⟨rfl, hi, hb, hk⟩; refine ⟨_, rfl, ?_⟩; replace HO381 := o_ (kp_ (show IsS102 w0 _ g s0_0 t382 t383 from wI_) (rd_ HO381.1) hk); replace HK := o_ (KeepBut.trans wK_ hk (.inl rfl)); replace HB := o_ (hb); replace HI0 := o_ (hi); (try clear hb hk hi)) | ((with_reducible refine g_ 84 ?_); refine gl_ (some 16) Try.func84 #[.pointer (some ⟨g, 0, none⟩), .int .i64 12] ?_; (with_reducible refine (spec_l1Below.calls g s0_0 t385 t386 12 t387 t388 t389 w0 _ wI_ wB_ A7.1).mono ?_); rintro e w43 ⟨rfl, hi, hb, hk⟩; refine ⟨_, rfl, ?_⟩; replace HO381 := o_ (kp_ (show IsS102 w0 _ g s0_0 t385 t386 from wI_) (rd_ HO381.1) hk); replace HK := o_ (KeepBut.trans wK_ hk (.inl rfl)); replace HB := o_ (hb); replace HI0 := o_ (hi); (try clear hb hk hi)) | ((with_reducible refine g_ 98 ?_); refine gl_ (some 39) Try.func98 #[.pointer (some ⟨g, 0, none⟩)] ?_; (with_reducible refine (spec_l4Raw.calls g s0_0 t388 t389 t405 t406 t407 w0 _ wI_ wB_ A36.1).mono ?_); rintro e w44 ⟨rfl, hi, hb, hk⟩; refine ⟨_, rfl, ?_⟩; replace HO381 := o_ (kp_ (show IsS102 w0 _ g s0_0 t388 t389 from wI_) (rd_ HO381.1) hk); replace HK := o_ (KeepBut.trans wK_ hk (.inl rfl)); replace HB := o_ (hb); replace HI0 := o_ (hi); (try clear hb hk hi); have p39 : 0 ≤ (t384 : Int) := of_decide_eq_true as_; have q39 : (t384 : Int) < ((t379.length : Int) : Int) := of_decide_eq_true as_; obtain ⟨go39, co39, eo39, gb39, gl39, cl39, HG39⟩ := Kd.R_form HO381.1 (by omega); (first | cases eo39 | (injection eo39 with ea_ en_ ec_; (first | subst ea_ | (injection ea_ with ea_; subst ea_)); subst ec_; clear en_)); have GB39 := o_ gb39; have GG39 := o_ HG39; clear gb39 gl39 HG39; obtain ⟨ce39, hcl39, hM39, hcc39, hfr39⟩ := Kd.R_elem HO381.1 z58 (t384 : Int) p39 q39; obtain rfl := k58_openM hM39; have hx39_0 : w44.cell? ⟨go39, (t384 : Int).toNat * 8, none⟩ = some (.int .i64 ((rd_T58 t379 t384).f0.f0)) := hcc39 0 _ rfl; have hx39_1 : w44.cell? ⟨go39, (t384 : Int).toNat * 8 + 1, none⟩ = some (.int .i64 ((rd_T58 t379 t384).f0.f1)) := hcc39 1 _ rfl; have hx39_2 : w44.cell? ⟨go39, (t384 : Int).toNat * 8 + 2, none⟩ = some (.int .i64 ((rd_T58 t379 t384).f0.f2)) := hcc39 2 _ rfl; have hx39_3 : w44.cell? ⟨go39, (t384 : Int).toNat * 8 + 3, none⟩ = some (.int .i64 ((rd_T58 t379 t384).f0.f3)) := hcc39 3 _ rfl; have hx39_4 : w44.cell? ⟨go39, (t384 : Int).toNat * 8 + 4, none⟩ = some (.int .i64 ((rd_T58 t379 t384).f0.f4)) := hcc39 4 _ rfl; have hx39_5 : w44.cell? ⟨go39, (t384 : Int).toNat * 8 + 5, none⟩ = some (.int .i64 ((rd_T58 t379 t384).f1)) := hcc39 5 _ rfl; have hx39_6 : w44.cell? ⟨go39, (t384 : Int).toNat * 8 + 6, none⟩ = some (.int .i64 ((rd_T58 t379 t384).f2)) := hcc39 6 _ rfl; have hx39_7 : w44.cell? ⟨go39, (t384 : Int).toNat * 8 + 7, none⟩ = some (.int .i64 ((rd_T58 t379 t384).f3)) := hcc39 7 _ rfl; have hf39_0 : w44.frozen? ⟨go39, (t384 : Int).toNat * 8, none⟩ = false := hfr39 0; have hf39_1 : w44.frozen? ⟨go39, (t384 : Int).toNat * 8 + 1, none⟩ = false := hfr39 1; have hf39_2 : w44.frozen? ⟨go39, (t384 : Int).toNat * 8 + 2, none⟩ = false := hfr39 2; have hf39_3 : w44.frozen? ⟨go39, (t384 : Int).toNat * 8 + 3, none⟩ = false := hfr39 3; have hf39_4 : w44.frozen? ⟨go39, (t384 : Int).toNat * 8 + 4, none⟩ = false := hfr39 4; have hf39_5 : w44.frozen? ⟨go39, (t384 : Int).toNat * 8 + 5, none⟩ = false := hfr39 5; have hf39_6 : w44.frozen? ⟨go39, (t384 : Int).toNat * 8 + 6, none⟩ = false := hfr39 6; have hf39_7 : w44.frozen? ⟨go39, (t384 : Int).toNat * 8 + 7, none⟩ = false := hfr39 7; clear hcl39 hcc39 hfr39 hM39; replace p39 := eq_true p39; replace q39 := eq_true q39; have HX45 := o_ (show Kd.R k58 58 w44 w.heap.size (fun _ => True) (.slice (some ⟨go39, 0, none⟩) t379.length co5) t379 from (rd_ HO381.1)); obtain ⟨ce45, hcl45, hM45, hcc45, hfr45⟩ := Kd.R_elem HX45.1 z58 (t384 : Int) (of_decide_eq_true as_) (by have h_ : (t384 : Int) < ((t379.length : Int) : Int) := of_decide_eq_true as_; first | exact h_ | (have e_ := (Kd.R_reads' HO381.1).1; omega) | simpa using h_); obtain rfl := k58_openM hM45; have HP45 := Kd.R_seg HX45.1 (t384 : Int) (of_decide_eq_true as_) (by have h_ : (t384 : Int) < ((t379.length : Int) : Int) := of_decide_eq_true as_; first | exact h_ | (have e_ := (Kd.R_reads' HO381.1).1; omega) | simpa using h_) (seg := [.int .i64 t405]) (j := 6) hcl45 hcc45 (show 7 ≤ 8 from by decide) (x' := (⟨(⟨(rd_T58 t379 t384).f0.f0, (rd_T58 t379 t384).f0.f1, (rd_T58 t379 t384).f0.f2, (rd_T58 t379 t384).f0.f3, (rd_T58 t379 t384).f0.f4⟩ : S56), (rd_T58 t379 t384).f1, t405, (rd_T58 t379 t384).f3⟩ : S58)) (k58_mkM _ _ _ (⟨(⟨(rd_T58 t379 t384).f0.f0, (rd_T58 t379 t384).f0.f1, (rd_T58 t379 t384).f0.f2, (rd_T58 t379 t384).f0.f3, (rd_T58 t379 t384).f0.f4⟩ : S56), (rd_T58 t379 t384).f1, t405, (rd_T58 t379 t384).f3⟩ : S58) ) (fun _ hk => hk); have hx45_6 := hcc45 6 _ rfl; (try simp only [show (k58).sz = 8 from rfl, Nat.mul_one, Nat.add_zero] at hx45_6); have hf45_6 := hfr45 6; (try simp only [show (k58).sz = 8 from rfl, Nat.mul_one, Nat.add_zero] at hf45_6); clear hcl45 hcc45 hfr45 hM45) | ((with_reducible refine gate_store (t := 3) (p := 41) rfl ?_); refine store_event (t := 3) (p := 41) (v := ?vo_w46) (w1 := (w44.setCell ⟨go39, (t384 : Int).toNat * 8 + 6, none⟩ (.int .i64 t405))) ?hg ?ho ?hn ?hr ?_; (case ho => rfl); (case hg => rfl); (case hn => rfl); (case hr => first | (go_simp; done) | (go_simp; rfl)); intro w46 hw; have hg : w44.grownBy w46 (some go39) := (by rw [hw]; exact HP45.2); have hp_ : Kd.R k58 58 w46 w.heap.size (fun _ => True) (.slice (some ⟨go39, 0, none⟩) t379.length co5) y408 := (by rw [hw, Ny408.1]; exact HP45.1); clear HP45; replace HI0 := o_ (IsS102.grown wI_ hg (IsS102.own_ne HI0.1 HO381.1 (by decide))); replace HB := o_ ((by rw [hw]; exact below_set (HB.1) (Nat.le_trans HL.1 GB39.1) : Below w0.heap.size w0 w46)); replace HK := o_ (KeepBut.trans wK_ (KeepBut.of_grown hg g) (Kd.R_base2 HO381.1)); replace HO381 := o_ (hp_); clear hg hw hp_))
       go_ret
       exact ⟨_, rt_, rd_ HO381.1, wI_, wB_, wK_⟩
      ·
       rw [if_neg c38] at H
       exact absurd H (by simp)
     ·
      rw [if_neg c37] at H
      exact absurd H (by simp)
    ·
     rw [if_neg c35] at H
     have c35b0 := beq_eq_false_iff_ne.mpr c35
     have c35b1 := bne_iff_ne.mpr c35
     by_cases c47 : t387 = 3
     ·
      rw [if_pos c47] at H
      have c47b0 := beq_iff_eq.mpr c47
      have c47b1 := bne_eq_false_iff_eq.mpr c47
      clear c47
      obtain ⟨y409, hy409⟩ : ∃ y_ : List Int, y_ = (([(-1), 999, 1000] : List Int)) := ⟨_, rfl⟩
      replace H : ((spec_l1Int.f s0_0 t388 t389 y409).bind fun bt412 => (if 0 ≤ t384 then (if t384 < (t379.length : Int) then (some ((t379.set (t384 : Int).toNat (⟨(⟨(rd_T58 t379 t384).f0.f0, (rd_T58 t379 t384).f0.f1, (rd_T58 t379 t384).f0.f2, (rd_T58 t379 t384).f0.f3, (rd_T58 t379 t384).f0.f4⟩ : S56), (rd_T58 t379 t384).f1, (rd_T58 t379 t384).f2, bt412.1⟩ : S58)), bt412.2.1, bt412.2.2)) else (none)) else (none))) = some (r1, r2, r3) := hy_ H hy409
      have Ny409 := o_ hy409
      clear hy409
      obtain ⟨⟨t412, t413, t414⟩, A48, H⟩ := ob_ H
      try dsimp only at H
      by_cases c49 : 0 ≤ t384
      ·
       rw [if_pos c49] at H
       have c49b0 := decide_eq_true c49
       clear c49
       by_cases c50 : t384 < (t379.length : Int)
       ·
        rw [if_pos c50] at H
        have c50b0 := decide_eq_true c50
        clear c50
        obtain ⟨y415, hy415⟩ : ∃ y_ : List (S58), y_ = (t379.set (t384 : Int).toNat (⟨(⟨(rd_T58 t379 t384).f0.f0, (rd_T58 t379 t384).f0.f1, (rd_T58 t379 t384).f0.f2, (rd_T58 t379 t384).f0.f3, (rd_T58 t379 t384).f0.f4⟩ : S56), (rd_T58 t379 t384).f1, (rd_T58 t379 t384).f2, t412⟩ : S58)) := ⟨_, rfl⟩
        replace H : (some (y415, t413, t414)) = some (r1, r2, r3) := hy_ H hy415
        have Ny415 := o_ hy415
        clear hy415
        simp only [Option.some.injEq, Prod.mk.injEq] at H
        obtain ⟨rfl, rfl, rfl⟩ := H
        go_wp2_with (first | ((with_reducible refine g_ 84 ?_); refine gl_ (some 14) Try.func84 #[.pointer (some ⟨g, 0, none⟩), .int .i64 (t379.length : Int)] ?_; (with_reducible refine (spec_l1Below.calls g s0_0 t382 t383 (t379.length : Int) t384 t385 t386 w0 _ wI_ wB_ A6.1).mono ?_); rintro e w54 ⟨rfl, hi, hb, hk⟩; refine ⟨_, rfl, ?_⟩; replace HO381 := o_ (kp_ (show IsS102 w0 _ g s0_0 t382 t383 from wI_) (rd_ HO381.1) hk); replace HK := o_ (KeepBut.trans wK_ hk (.inl rfl)); replace HB := o_ (hb); replace HI0 := o_ (hi); (try clear hb hk hi)) | ((with_reducible refine g_ 84 ?_); refine gl_ (some 16) Try.func84 #[.pointer (some ⟨g, 0, none⟩), .int .i64 12] ?_; (with_reducible refine (spec_l1Below.calls g s0_0 t385 t386 12 t387 t388 t389 w0 _ wI_ wB_ A7.1).mono ?_); rintro e w55 ⟨rfl, hi, hb, hk⟩; refine ⟨_, rfl, ?_⟩; replace HO381 := o_ (kp_ (show IsS102 w0 _ g s0_0 t385 t386 from wI_) (rd_ HO381.1) hk); replace HK := o_ (KeepBut.trans wK_ hk (.inl rfl)); replace HB := o_ (hb); replace HI0 := o_ (hi); (try clear hb hk hi)) | ((with_reducible refine gate_dst (N := 47) rfl ?_); refine Kd.R_lit (Kd.int .i64) _ 3 ?hg (N := 47) ?hd (xs := ([(-1), 999, 1000] : List Int)) (inner := [.int .i64 (-1), .int .i64 999, .int .i64 1000]) (ok := fun _ => True) (okp := fun _ => True) ?hr ?hp (fun _ hk => hk) trivial (Below.refl _ _) (Nat.le_refl _) (by simp) ?_; (case hd => rfl); (case hg => rfl); (case hr => first | (go_simp; done) | (go_simp; rfl)); (case hp => exact (Reps.one (show Kd.M (Kd.int .i64) _ _ _ (-1) [.int .i64 (-1)] from rfl) (Reps.one (show Kd.M (Kd.int .i64) _ _ _ 999 [.int .i64 999] from rfl) (Reps.one (show Kd.M (Kd.int .i64) _ _ _ 1000 [.int .i64 1000] from rfl) (Reps.none _ _))))); intro v410 w56 ho57 hb hg_ hnew_; clear hg_ hnew_; (first | rw [← Ny409.1] at ho57 | (simp only [Int.reduceToNat] at ho57; rw [← Ny409.1] at ho57)); replace HO381 := o_ (Kd.R_below (rd_ HO381.1) hb); have HO411 := o_ (Kd.R_lower ho57 (keep_size (w := w) (g := g) (row := none) wK_)); replace HK := o_ (KeepBut.trans wK_ (KeepBut.of_below hb g none) (.inl rfl)); replace HB := o_ (below_step (wB_) hb); replace HI0 := o_ (IsS102.below wI_ hb); clear hb ho57; obtain ⟨Ao58, co58, eo58⟩ := Kd.R_slice HO411.1; subst eo58) | ((with_reducible refine g_ 85 ?_); refine gl_ (some 48) Try.func85 #[.pointer (some ⟨g, 0, none⟩), .slice Ao58 y409.length co58] ?_; (with_reducible refine (spec_l1Int.calls g s0_0 t388 t389 _ _ y409 t412 t413 t414 w0 _ wI_ wB_ (cd_ (Kd.R_reads' HO411.1).2.2) ((Kd.R_reads' HO411.1).2.1) ?side5 A48.1).mono ?_); (case side5 => exact far_slice (IsS102.own_ne HI0.1 HO411.1 (by decide))); rintro e w59 ⟨rfl, hi, hb, hk⟩; refine ⟨_, rfl, ?_⟩; replace HO381 := o_ (kp_ (show IsS102 w0 _ g s0_0 t388 t389 from wI_) (rd_ HO381.1) hk); replace HO411 := o_ (kp_ (show IsS102 w0 _ g s0_0 t388 t389 from wI_) (rd_ HO411.1) hk); replace HK := o_ (KeepBut.trans wK_ hk (.inl rfl)); replace HB := o_ (hb); replace HI0 := o_ (hi); (try clear hb hk hi); have p51 : 0 ≤ (t384 : Int) := of_decide_eq_true as_; have q51 : (t384 : Int) < ((t379.length : Int) : Int) := of_decide_eq_true as_; obtain ⟨go51, co51, eo51, gb51, gl51, cl51, HG51⟩ := Kd.R_form HO381.1 (by omega); (first | cases eo51 | (injection eo51 with ea_ en_ ec_; (first | subst ea_ | (injection ea_ with ea_; subst ea_)); subst ec_; clear en_)); have GB51 := o_ gb51; have GG51 := o_ HG51; clear gb51 gl51 HG51; obtain ⟨ce51, hcl51, hM51, hcc51, hfr51⟩ := Kd.R_elem HO381.1 z58 (t384 : Int) p51 q51; obtain rfl := k58_openM hM51; have hx51_0 : w59.cell? ⟨go51, (t384 : Int).toNat * 8, none⟩ = some (.int .i64 ((rd_T58 t379 t384).f0.f0)) := hcc51 0 _ rfl; have hx51_1 : w59.cell? ⟨go51, (t384 : Int).toNat * 8 + 1, none⟩ = some (.int .i64 ((rd_T58 t379 t384).f0.f1)) := hcc51 1 _ rfl; have hx51_2 : w59.cell? ⟨go51, (t384 : Int).toNat * 8 + 2, none⟩ = some (.int .i64 ((rd_T58 t379 t384).f0.f2)) := hcc51 2 _ rfl; have hx51_3 : w59.cell? ⟨go51, (t384 : Int).toNat * 8 + 3, none⟩ = some (.int .i64 ((rd_T58 t379 t384).f0.f3)) := hcc51 3 _ rfl; have hx51_4 : w59.cell? ⟨go51, (t384 : Int).toNat * 8 + 4, none⟩ = some (.int .i64 ((rd_T58 t379 t384).f0.f4)) := hcc51 4 _ rfl; have hx51_5 : w59.cell? ⟨go51, (t384 : Int).toNat * 8 + 5, none⟩ = some (.int .i64 ((rd_T58 t379 t384).f1)) := hcc51 5 _ rfl; have hx51_6 : w59.cell? ⟨go51, (t384 : Int).toNat * 8 + 6, none⟩ = some (.int .i64 ((rd_T58 t379 t384).f2)) := hcc51 6 _ rfl; have hx51_7 : w59.cell? ⟨go51, (t384 : Int).toNat * 8 + 7, none⟩ = some (.int .i64 ((rd_T58 t379 t384).f3)) := hcc51 7 _ rfl; have hf51_0 : w59.frozen? ⟨go51, (t384 : Int).toNat * 8, none⟩ = false := hfr51 0; have hf51_1 : w59.frozen? ⟨go51, (t384 : Int).toNat * 8 + 1, none⟩ = false := hfr51 1; have hf51_2 : w59.frozen? ⟨go51, (t384 : Int).toNat * 8 + 2, none⟩ = false := hfr51 2; have hf51_3 : w59.frozen? ⟨go51, (t384 : Int).toNat * 8 + 3, none⟩ = false := hfr51 3; have hf51_4 : w59.frozen? ⟨go51, (t384 : Int).toNat * 8 + 4, none⟩ = false := hfr51 4; have hf51_5 : w59.frozen? ⟨go51, (t384 : Int).toNat * 8 + 5, none⟩ = false := hfr51 5; have hf51_6 : w59.frozen? ⟨go51, (t384 : Int).toNat * 8 + 6, none⟩ = false := hfr51 6; have hf51_7 : w59.frozen? ⟨go51, (t384 : Int).toNat * 8 + 7, none⟩ = false := hfr51 7; clear hcl51 hcc51 hfr51 hM51; replace p51 := eq_true p51; replace q51 := eq_true q51; have HX60 := o_ (show Kd.R k58 58 w59 w.heap.size (fun _ => True) (.slice (some ⟨go51, 0, none⟩) t379.length co5) t379 from (rd_ HO381.1)); obtain ⟨ce60, hcl60, hM60, hcc60, hfr60⟩ := Kd.R_elem HX60.1 z58 (t384 : Int) (of_decide_eq_true as_) (by have h_ : (t384 : Int) < ((t379.length : Int) : Int) := of_decide_eq_true as_; first | exact h_ | (have e_ := (Kd.R_reads' HO381.1).1; omega) | simpa using h_); obtain rfl := k58_openM hM60; have HP60 := Kd.R_seg HX60.1 (t384 : Int) (of_decide_eq_true as_) (by have h_ : (t384 : Int) < ((t379.length : Int) : Int) := of_decide_eq_true as_; first | exact h_ | (have e_ := (Kd.R_reads' HO381.1).1; omega) | simpa using h_) (seg := [.int .i64 t412]) (j := 7) hcl60 hcc60 (show 8 ≤ 8 from by decide) (x' := (⟨(⟨(rd_T58 t379 t384).f0.f0, (rd_T58 t379 t384).f0.f1, (rd_T58 t379 t384).f0.f2, (rd_T58 t379 t384).f0.f3, (rd_T58 t379 t384).f0.f4⟩ : S56), (rd_T58 t379 t384).f1, (rd_T58 t379 t384).f2, t412⟩ : S58)) (k58_mkM _ _ _ (⟨(⟨(rd_T58 t379 t384).f0.f0, (rd_T58 t379 t384).f0.f1, (rd_T58 t379 t384).f0.f2, (rd_T58 t379 t384).f0.f3, (rd_T58 t379 t384).f0.f4⟩ : S56), (rd_T58 t379 t384).f1, (rd_T58 t379 t384).f2, t412⟩ : S58) ) (fun _ hk => hk); have hx60_7 := hcc60 7 _ rfl; (try simp only [show (k58).sz = 8 from rfl, Nat.mul_one, Nat.add_zero] at hx60_7); have hf60_7 := hfr60 7; (try simp only [show (k58).sz = 8 from rfl, Nat.mul_one, Nat.add_zero] at hf60_7); clear hcl60 hcc60 hfr60 hM60) | ((with_reducible refine gate_store (t := 3) (p := 50) rfl ?_); refine store_event (t := 3) (p := 50) (v := ?vo_w61) (w1 := (w59.setCell ⟨go51, (t384 : Int).toNat * 8 + 7, none⟩ (.int .i64 t412))) ?hg ?ho ?hn ?hr ?_; (case ho => rfl); (case hg => rfl); (case hn => rfl); (case hr => first | (go_simp; done) | (go_simp; rfl)); intro w61 hw; have hg : w59.grownBy w61 (some go51) := (by rw [hw]; exact HP60.2); have hp_ : Kd.R k58 58 w61 w.heap.size (fun _ => True) (.slice (some ⟨go51, 0, none⟩) t379.length co5) y415 := (by rw [hw, Ny415.1]; exact HP60.1); clear HP60; replace HI0 := o_ (IsS102.grown wI_ hg (IsS102.own_ne HI0.1 HO381.1 (by decide))); replace HO411 := o_ (Kd.R_over' (v := (.slice (some ⟨go51, 0, none⟩) t379.length co5)) (rd_ HO411.1) (Kd.R_typed HO381.1) (by decide) hg); replace HB := o_ ((by rw [hw]; exact below_set (HB.1) (Nat.le_trans HL.1 GB51.1) : Below w0.heap.size w0 w61)); replace HK := o_ (KeepBut.trans wK_ (KeepBut.of_grown hg g) (Kd.R_base2 HO381.1)); replace HO381 := o_ (hp_); clear hg hw hp_))
        go_ret
        exact ⟨_, rt_, rd_ HO381.1, wI_, wB_, wK_⟩
       ·
        rw [if_neg c50] at H
        exact absurd H (by simp)
      ·
       rw [if_neg c49] at H
       exact absurd H (by simp)
     ·
      rw [if_neg c47] at H
      have c47b0 := beq_eq_false_iff_ne.mpr c47
      have c47b1 := bne_iff_ne.mpr c47
      simp only [Option.some.injEq, Prod.mk.injEq] at H
      obtain ⟨rfl, rfl, rfl⟩ := H
      go_wp2_with (first | ((with_reducible refine g_ 84 ?_); refine gl_ (some 14) Try.func84 #[.pointer (some ⟨g, 0, none⟩), .int .i64 (t379.length : Int)] ?_; (with_reducible refine (spec_l1Below.calls g s0_0 t382 t383 (t379.length : Int) t384 t385 t386 w0 _ wI_ wB_ A6.1).mono ?_); rintro e w64 ⟨rfl, hi, hb, hk⟩; refine ⟨_, rfl, ?_⟩; replace HO381 := o_ (kp_ (show IsS102 w0 _ g s0_0 t382 t383 from wI_) (rd_ HO381.1) hk); replace HK := o_ (KeepBut.trans wK_ hk (.inl rfl)); replace HB := o_ (hb); replace HI0 := o_ (hi); (try clear hb hk hi)) | ((with_reducible refine g_ 84 ?_); refine gl_ (some 16) Try.func84 #[.pointer (some ⟨g, 0, none⟩), .int .i64 12] ?_; (with_reducible refine (spec_l1Below.calls g s0_0 t385 t386 12 t387 t388 t389 w0 _ wI_ wB_ A7.1).mono ?_); rintro e w65 ⟨rfl, hi, hb, hk⟩; refine ⟨_, rfl, ?_⟩; replace HO381 := o_ (kp_ (show IsS102 w0 _ g s0_0 t385 t386 from wI_) (rd_ HO381.1) hk); replace HK := o_ (KeepBut.trans wK_ hk (.inl rfl)); replace HB := o_ (hb); replace HI0 := o_ (hi); (try clear hb hk hi)))
      go_ret
      exact ⟨_, rt_, rd_ HO381.1, wI_, wB_, wK_⟩

/-! ### spec_l6One: function 64 -/
def spec_l6One.f (k : Nat) (s0_0 : List Int) (s0_1 : Int) (s0_2 : Int) : Option (Int × Int × Int × Int × Int × Int × Int × Int × Int × Int) := (spec_l6Any.f k s0_0 s0_1 s0_2).bind fun bt417 => (if (bt417.1.length : Int) = 0 then (some (0, 0, 0, 0, 0, 0, 0, 0, bt417.2.1, bt417.2.2)) else (if 0 < (bt417.1.length : Int) then (some ((rd_T58 bt417.1 0).f0.f0, (rd_T58 bt417.1 0).f0.f1, (rd_T58 bt417.1 0).f0.f2, (rd_T58 bt417.1 0).f0.f3, (rd_T58 bt417.1 0).f0.f4, (rd_T58 bt417.1 0).f1, (rd_T58 bt417.1 0).f2, (rd_T58 bt417.1 0).f3, bt417.2.1, bt417.2.2)) else (none)))
theorem spec_l6One.mono : ∀ a0 a1 a2 k, LeO (spec_l6One.f k a0 a1 a2) (spec_l6One.f (k + 1) a0 a1 a2) := by
  intro a0 a1 a2 k
  unfold spec_l6One.f
  have jh0 := @spec_l6Any.mono
  exact mo_
set_option maxHeartbeats 8000000 in
set_option maxRecDepth 100000 in
theorem spec_l6One.calls (k : Nat) (g : Nat) (s0_0 : List Int) (s0_1 : Int) (s0_2 : Int) (r1 : Int) (r2 : Int) (r3 : Int) (r4 : Int) (r5 : Int) (r6 : Int) (r7 : Int) (r8 : Int) (r9 : Int) (r10 : Int) (w0 w : World) (hI : IsS102 w0 w g s0_0 s0_1 s0_2) (hB : Below w0.heap.size w0 w) (h : spec_l6One.f k s0_0 s0_1 s0_2 = some (r1, r2, r3, r4, r5, r6, r7, r8, r9, r10)) :
    Calls Try.prog 64 #[.pointer (some ⟨g, 0, none⟩)] w fun e w' => e = .returned (.agg #[.int .i64 r1, .int .i64 r2, .int .i64 r3, .int .i64 r4, .int .i64 r5, .int .i64 r6, .int .i64 r7, .int .i64 r8]) ∧ IsS102 w0 w' g s0_0 r9 r10 ∧ Below w0.heap.size w0 w' ∧ KeepBut w w' g none := by
  have hu58 := Try.underlying58
  have HI0 := o_ hI
  have HK := o_ (KeepBut.refl w g none)
  have HL := o_ hB.size
  clear hI
  have HW0 := o_ hB.size
  have HB := o_ hB
  clear hB
  have H := h
  unfold spec_l6One.f at H
  clear h
  obtain ⟨⟨t417, t420, t421⟩, A2, H⟩ := ob_ H
  try dsimp only at H
  by_cases c3 : (t417.length : Int) = 0
  · rw [if_pos c3] at H
    have c3b0 := beq_iff_eq.mpr c3
    have c3b1 := bne_eq_false_iff_eq.mpr c3
    clear c3
    simp only [Option.some.injEq, Prod.mk.injEq] at H
    obtain ⟨rfl, rfl, rfl, rfl, rfl, rfl, rfl, rfl, rfl, rfl⟩ := H
    go_enter Try.func64, Try.ntmps64
    go_wp2_with (first | ((with_reducible refine gate_dst (N := 2) rfl ?_); refine bx_ 2 #[.int .i64 0, .int .i64 0, .int .i64 0, .int .i64 0, .int .i64 0, .int .i64 0, .int .i64 0, .int .i64 0] 58 ?_; intro gb416 hg w4 hbox hb; replace HB := o_ (below_step wB_ hb); have BK416 := o_ (hbox); have GW416 := o_ ((by rw [hg]; exact (keep_size (w := w) (g := g) (row := none) wK_) : w.heap.size ≤ gb416)); have GE416 := o_ ((Nat.le_trans HW0.1 (by rw [hg]; exact (keep_size (w := w) (g := g) (row := none) wK_) : w.heap.size ≤ gb416) : w0.heap.size ≤ gb416)); replace HK := o_ (KeepBut.trans wK_ (KeepBut.of_below hb g none) (.inl rfl)); have NB0_416 := o_ ((y222_ : g ≠ gb416)); have NB416_0 := o_ ((y223_ : gb416 ≠ g)); replace HI0 := o_ (IsS102.below wI_ hb); clear hb hbox hg) | ((with_reducible refine g_ 87 ?_); refine gl_ (some 5) Try.func87 #[.pointer (some ⟨g, 0, none⟩)] ?_; (with_reducible refine (spec_l6Any.calls k g s0_0 s0_1 s0_2 t417 t420 t421 w0 _ wI_ wB_ A2.1).mono ?_); rintro e w5 ⟨v418, rfl, ho0, hi, hb, hk⟩; refine ⟨_, rfl, ?_⟩; have HO419 := o_ (Kd.R_lower (Kd.R_newB ho0 (g := gb416) (o := c8_ 0 0 0 0 0 0 0 0) (bd_ BK416.1)) (keep_size (w := w) (g := g) (row := none) wK_)); replace BK416 := o_ (KeepBut.blk hk (g' := gb416) (o := c8_ 0 0 0 0 0 0 0 0) (bd_ BK416.1) NB416_0.1 (by simp)); replace HK := o_ (KeepBut.trans wK_ hk (.inl rfl)); replace HB := o_ (hb); replace HI0 := o_ (hi); (try clear hb hk hi ho0); obtain ⟨Ao6, co6, eo6⟩ := Kd.R_slice HO419.1; subst eo6; have hnb7 := NB416_0.1; have hnc7 := NB0_416.1; obtain ⟨_, _, _, _, _, _, _, _⟩ := e4_ BK416.1; obtain ⟨_, _, _, _, _, _, _, _⟩ := z5_ BK416.1))
    refine bodyPost_ret (results_cell_row rfl _ _ gb416 58 #[.int .i64 0, .int .i64 0, .int .i64 0, .int .i64 0, .int .i64 0, .int .i64 0, .int .i64 0, .int .i64 0] (0, 0) _ rfl (bk_ BK416.1) Try.underlying58 rfl (by kernel_rfl)) rfl ?_
    exact ⟨rt_, wI_, wB_, wK_⟩
  · rw [if_neg c3] at H
    have c3b0 := beq_eq_false_iff_ne.mpr c3
    have c3b1 := bne_iff_ne.mpr c3
    have c3b2 : ¬ (t417 = []) := fun h_ => c3 (by rw [h_]; rfl)
    by_cases c9 : 0 < (t417.length : Int)
    · rw [if_pos c9] at H
      have c9b0 := decide_eq_true c9
      have c9b1 : decide (0 < t417.length) = true := decide_eq_true (by omega)
      clear c9
      simp only [Option.some.injEq, Prod.mk.injEq] at H
      obtain ⟨rfl, rfl, rfl, rfl, rfl, rfl, rfl, rfl, rfl, rfl⟩ := H
      go_enter Try.func64, Try.ntmps64
      go_wp2_with (first | ((with_reducible refine gate_dst (N := 2) rfl ?_); refine bx_ 2 #[.int .i64 0, .int .i64 0, .int .i64 0, .int .i64 0, .int .i64 0, .int .i64 0, .int .i64 0, .int .i64 0] 58 ?_; intro gb416 hg w10 hbox hb; replace HB := o_ (below_step wB_ hb); have BK416 := o_ (hbox); have GW416 := o_ ((by rw [hg]; exact (keep_size (w := w) (g := g) (row := none) wK_) : w.heap.size ≤ gb416)); have GE416 := o_ ((Nat.le_trans HW0.1 (by rw [hg]; exact (keep_size (w := w) (g := g) (row := none) wK_) : w.heap.size ≤ gb416) : w0.heap.size ≤ gb416)); replace HK := o_ (KeepBut.trans wK_ (KeepBut.of_below hb g none) (.inl rfl)); have NB0_416 := o_ ((y222_ : g ≠ gb416)); have NB416_0 := o_ ((y223_ : gb416 ≠ g)); replace HI0 := o_ (IsS102.below wI_ hb); clear hb hbox hg) | ((with_reducible refine g_ 87 ?_); refine gl_ (some 5) Try.func87 #[.pointer (some ⟨g, 0, none⟩)] ?_; (with_reducible refine (spec_l6Any.calls k g s0_0 s0_1 s0_2 t417 t420 t421 w0 _ wI_ wB_ A2.1).mono ?_); rintro e w11 ⟨v418, rfl, ho0, hi, hb, hk⟩; refine ⟨_, rfl, ?_⟩; have HO419 := o_ (Kd.R_lower (Kd.R_newB ho0 (g := gb416) (o := c8_ 0 0 0 0 0 0 0 0) (bd_ BK416.1)) (keep_size (w := w) (g := g) (row := none) wK_)); replace BK416 := o_ (KeepBut.blk hk (g' := gb416) (o := c8_ 0 0 0 0 0 0 0 0) (bd_ BK416.1) NB416_0.1 (by simp)); replace HK := o_ (KeepBut.trans wK_ hk (.inl rfl)); replace HB := o_ (hb); replace HI0 := o_ (hi); (try clear hb hk hi ho0); obtain ⟨Ao12, co12, eo12⟩ := Kd.R_slice HO419.1; subst eo12; have p422 : 0 ≤ (0 : Int) := (by omega); have q422 : 0 < (t417.length : Int) := of_decide_eq_true as_; obtain ⟨ad422, e422, hx422_0, hx422_1, hx422_2, hx422_3, hx422_4, hx422_5, hx422_6, hx422_7⟩ := at_T58 (Kd.R_reads' HO419.1).2.2 0 p422 q422; cases e422; have qi422 : (0 < t417.length) = True := eq_true (by omega); (try rw [show ((0 : Int)).toNat = 0 from rfl] at hx422_0); (try rw [show 0 * 8 = 0 from rfl] at hx422_0); (try rw [Addr.add_zero'] at hx422_0); (try rw [show ((0 : Int)).toNat = 0 from rfl] at hx422_1); (try rw [show 0 * 8 = 0 from rfl] at hx422_1); (try rw [Addr.add_zero'] at hx422_1); (try rw [show ((0 : Int)).toNat = 0 from rfl] at hx422_2); (try rw [show 0 * 8 = 0 from rfl] at hx422_2); (try rw [Addr.add_zero'] at hx422_2); (try rw [show ((0 : Int)).toNat = 0 from rfl] at hx422_3); (try rw [show 0 * 8 = 0 from rfl] at hx422_3); (try rw [Addr.add_zero'] at hx422_3); (try rw [show ((0 : Int)).toNat = 0 from rfl] at hx422_4); (try rw [show 0 * 8 = 0 from rfl] at hx422_4); (try rw [Addr.add_zero'] at hx422_4); (try rw [show ((0 : Int)).toNat = 0 from rfl] at hx422_5); (try rw [show 0 * 8 = 0 from rfl] at hx422_5); (try rw [Addr.add_zero'] at hx422_5); (try rw [show ((0 : Int)).toNat = 0 from rfl] at hx422_6); (try rw [show 0 * 8 = 0 from rfl] at hx422_6); (try rw [Addr.add_zero'] at hx422_6); (try rw [show ((0 : Int)).toNat = 0 from rfl] at hx422_7); (try rw [show 0 * 8 = 0 from rfl] at hx422_7); (try rw [Addr.add_zero'] at hx422_7); replace p422 := eq_true p422; replace q422 := eq_true q422; have hnb13 := NB416_0.1; have hnc13 := NB0_416.1; obtain ⟨_, _, _, _, _, _, _, _⟩ := e4_ BK416.1; obtain ⟨_, _, _, _, _, _, _, _⟩ := z5_ BK416.1))
      refine bodyPost_ret (results_cell_row rfl _ _ gb416 58 #[.int .i64 ((rd_T58 t417 0).f0.f0), .int .i64 ((rd_T58 t417 0).f0.f1), .int .i64 ((rd_T58 t417 0).f0.f2), .int .i64 ((rd_T58 t417 0).f0.f3), .int .i64 ((rd_T58 t417 0).f0.f4), .int .i64 ((rd_T58 t417 0).f1), .int .i64 ((rd_T58 t417 0).f2), .int .i64 ((rd_T58 t417 0).f3)] (0, 0) _ rfl (bk_ BK416.1) Try.underlying58 rfl (by kernel_rfl)) rfl ?_
      exact ⟨rt_, wI_, wB_, wK_⟩
    · rw [if_neg c9] at H
      exact absurd H (by simp)

/-! ### spec_Max: function 77 -/
def spec_Max.f (a0 : Int) (a1 : Int) : Option (Int) := if a1 > a0 then (some a1) else (some a0)
set_option maxHeartbeats 8000000 in
set_option maxRecDepth 100000 in
theorem spec_Max.calls (a0 : Int) (a1 : Int) (r : Int) (w : World) (h : spec_Max.f a0 a1 = some r) :
    Calls Try.prog 77 #[.int .i64 a0, .int .i64 a1] w fun e w' => e = .returned (.int .i64 r) ∧ Drawn0 w w' := by
  have H : (if a1 > a0 then (some a1) else (some a0)) = some r := h
  clear h
  by_cases c3 : a1 > a0
  · rw [if_pos c3] at H
    have c3b0 := decide_eq_true c3
    clear c3
    obtain rfl := Option.some.inj H
    go_enter Try.func77, Try.ntmps77
    go_wp2
    go_ret
    exact ⟨rs_, by repeat (first | exact Drawn0.refl _ | apply Drawn0.step)⟩
  · rw [if_neg c3] at H
    have c3b0 := decide_eq_false c3
    clear c3
    obtain rfl := Option.some.inj H
    go_enter Try.func77, Try.ntmps77
    go_wp2
    go_ret
    exact ⟨rs_, by repeat (first | exact Drawn0.refl _ | apply Drawn0.step)⟩

/-! ### spec_Min: function 78 -/
def spec_Min.f (a0 : Int) (a1 : Int) : Option (Int) := if a1 < a0 then (some a1) else (some a0)
set_option maxHeartbeats 8000000 in
set_option maxRecDepth 100000 in
theorem spec_Min.calls (a0 : Int) (a1 : Int) (r : Int) (w : World) (h : spec_Min.f a0 a1 = some r) :
    Calls Try.prog 78 #[.int .i64 a0, .int .i64 a1] w fun e w' => e = .returned (.int .i64 r) ∧ Drawn0 w w' := by
  have H : (if a1 < a0 then (some a1) else (some a0)) = some r := h
  clear h
  by_cases c3 : a1 < a0
  · rw [if_pos c3] at H
    have c3b0 := decide_eq_true c3
    clear c3
    obtain rfl := Option.some.inj H
    go_enter Try.func78, Try.ntmps78
    go_wp2
    go_ret
    exact ⟨rs_, by repeat (first | exact Drawn0.refl _ | apply Drawn0.step)⟩
  · rw [if_neg c3] at H
    have c3b0 := decide_eq_false c3
    clear c3
    obtain rfl := Option.some.inj H
    go_enter Try.func78, Try.ntmps78
    go_wp2
    go_ret
    exact ⟨rs_, by repeat (first | exact Drawn0.refl _ | apply Drawn0.step)⟩

end Go.Proofs.Ytglpmjcknhcjcaa.PFnTwins
