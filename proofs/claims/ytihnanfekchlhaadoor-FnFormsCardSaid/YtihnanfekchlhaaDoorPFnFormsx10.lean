-- Written for this claim by a program (a printer turned to this claim); Lean checks it.
import Derived.Test.YtihnanfekchlhaaDoorPFnFormsx0
import Derived.Test.YtihnanfekchlhaaDoorPFnFormsx2
import Derived.Test.YtihnanfekchlhaaDoorPFnFormsx3
import Derived.Test.YtihnanfekchlhaaDoorPFnFormsx9
namespace Go.Proofs.YtihnanfekchlhaaDoor.PFnForms
open Go.RowKit Go.Proofs.YtihnanfekchlhaaDoorW.PrintWords Go.Proofs.YtihnanfekchlhaaDoorW.PrintLast Go.Proofs.YtihnanfekchlhaaDoorW.PrintMore
attribute [local go_sem] max2_int min2_int max_two min_two max_three min_three max_four min_four   -- for this text's walks alone
set_option linter.unusedVariables false
set_option linter.unusedSimpArgs false

/-! ### spec_l6Any: function 101 -/
def spec_l6Any.f (k : Nat) (s0_0 : List Int) (s0_1 : Int) (s0_2 : Int) : Option ((List (S44)) × Int × Int) := (spec_l6List.f k s0_0 s0_1 s0_2).bind fun bt575 => (if (bt575.1.length : Int) = 0 then (some (bt575.1, bt575.2.1, bt575.2.2)) else ((spec_l1Below.f s0_0 bt575.2.1 bt575.2.2 (bt575.1.length : Int)).bind fun bt580 => ((spec_l1Below.f s0_0 bt580.2.1 bt580.2.2 12).bind fun bt583 => (if bt583.1 = 0 then ((spec_l4Any.f s0_0 bt583.2.1 bt583.2.2).bind fun bt586 => (if 0 ≤ bt580.1 then (if bt580.1 < (bt575.1.length : Int) then (some ((bt575.1.set (bt580.1 : Int).toNat (⟨(⟨bt586.1, bt586.2.1, bt586.2.2.1, bt586.2.2.2.1, bt586.2.2.2.2.1⟩ : S42), (rd_T44 bt575.1 bt580.1).f1, (rd_T44 bt575.1 bt580.1).f2, (rd_T44 bt575.1 bt580.1).f3⟩ : S44)), bt586.2.2.2.2.2.1, bt586.2.2.2.2.2.2)) else (none)) else (none))) else (if bt583.1 = 1 then ((spec_l1Int.f s0_0 bt583.2.1 bt583.2.2 (([0, 30, 31] : List Int))).bind fun bt597 => (if 0 ≤ bt580.1 then (if bt580.1 < (bt575.1.length : Int) then (some ((bt575.1.set (bt580.1 : Int).toNat (⟨(⟨(rd_T44 bt575.1 bt580.1).f0.f0, (rd_T44 bt575.1 bt580.1).f0.f1, (rd_T44 bt575.1 bt580.1).f0.f2, (rd_T44 bt575.1 bt580.1).f0.f3, (rd_T44 bt575.1 bt580.1).f0.f4⟩ : S42), bt597.1, (rd_T44 bt575.1 bt580.1).f2, (rd_T44 bt575.1 bt580.1).f3⟩ : S44)), bt597.2.1, bt597.2.2)) else (none)) else (none))) else (if bt583.1 = 2 then ((spec_l4Raw.f s0_0 bt583.2.1 bt583.2.2).bind fun bt601 => (if 0 ≤ bt580.1 then (if bt580.1 < (bt575.1.length : Int) then (some ((bt575.1.set (bt580.1 : Int).toNat (⟨(⟨(rd_T44 bt575.1 bt580.1).f0.f0, (rd_T44 bt575.1 bt580.1).f0.f1, (rd_T44 bt575.1 bt580.1).f0.f2, (rd_T44 bt575.1 bt580.1).f0.f3, (rd_T44 bt575.1 bt580.1).f0.f4⟩ : S42), (rd_T44 bt575.1 bt580.1).f1, bt601.1, (rd_T44 bt575.1 bt580.1).f3⟩ : S44)), bt601.2.1, bt601.2.2)) else (none)) else (none))) else (if bt583.1 = 3 then ((spec_l1Int.f s0_0 bt583.2.1 bt583.2.2 (([(-1), 999, 1000] : List Int))).bind fun bt608 => (if 0 ≤ bt580.1 then (if bt580.1 < (bt575.1.length : Int) then (some ((bt575.1.set (bt580.1 : Int).toNat (⟨(⟨(rd_T44 bt575.1 bt580.1).f0.f0, (rd_T44 bt575.1 bt580.1).f0.f1, (rd_T44 bt575.1 bt580.1).f0.f2, (rd_T44 bt575.1 bt580.1).f0.f3, (rd_T44 bt575.1 bt580.1).f0.f4⟩ : S42), (rd_T44 bt575.1 bt580.1).f1, (rd_T44 bt575.1 bt580.1).f2, bt608.1⟩ : S44)), bt608.2.1, bt608.2.2)) else (none)) else (none))) else (some (bt575.1, bt583.2.1, bt583.2.2)))))))))
theorem spec_l6Any.mono : ∀ a0 a1 a2 k, LeO (spec_l6Any.f k a0 a1 a2) (spec_l6Any.f (k + 1) a0 a1 a2) := by
 intro a0 a1 a2 k
 unfold spec_l6Any.f
 have jh0 := @spec_l6List.mono
 exact mo_
set_option maxHeartbeats 8000000 in
set_option maxRecDepth 100000 in
theorem spec_l6Any.calls (k : Nat) (g : Nat) (s0_0 : List Int) (s0_1 : Int) (s0_2 : Int) (r1 : List (S44)) (r2 : Int) (r3 : Int) (w0 w : World) (hI : IsS103 w0 w g s0_0 s0_1 s0_2) (hB : Below w0.heap.size w0 w) (h : spec_l6Any.f k s0_0 s0_1 s0_2 = some (r1, r2, r3)) :
  Calls Tryd.prog 101 #[.pointer (some ⟨g, 0, none⟩)] w fun e w' => ∃ v0_ : Value, e = .returned (v0_) ∧ Kd.R k44 44 w' w.heap.size (fun _ => True) v0_ r1 ∧ IsS103 w0 w' g s0_0 r2 r3 ∧ Below w0.heap.size w0 w' ∧ KeepBut w w' g none := by
 have hu42 := Tryd.underlying42
 have HI0 := o_ hI
 have HK := o_ (KeepBut.refl w g none)
 have HL := o_ hB.size
 clear hI
 have HW0 := o_ hB.size
 have HB := o_ hB
 clear hB
 have H : ((spec_l6List.f k s0_0 s0_1 s0_2).bind fun bt575 => (if (bt575.1.length : Int) = 0 then (some (bt575.1, bt575.2.1, bt575.2.2)) else ((spec_l1Below.f s0_0 bt575.2.1 bt575.2.2 (bt575.1.length : Int)).bind fun bt580 => ((spec_l1Below.f s0_0 bt580.2.1 bt580.2.2 12).bind fun bt583 => (if bt583.1 = 0 then ((spec_l4Any.f s0_0 bt583.2.1 bt583.2.2).bind fun bt586 => (if 0 ≤ bt580.1 then (if bt580.1 < (bt575.1.length : Int) then (some ((bt575.1.set (bt580.1 : Int).toNat (⟨(⟨bt586.1, bt586.2.1, bt586.2.2.1, bt586.2.2.2.1, bt586.2.2.2.2.1⟩ : S42), (rd_T44 bt575.1 bt580.1).f1, (rd_T44 bt575.1 bt580.1).f2, (rd_T44 bt575.1 bt580.1).f3⟩ : S44)), bt586.2.2.2.2.2.1, bt586.2.2.2.2.2.2)) else (none)) else (none))) else (if bt583.1 = 1 then ((spec_l1Int.f s0_0 bt583.2.1 bt583.2.2 (([0, 30, 31] : List Int))).bind fun bt597 => (if 0 ≤ bt580.1 then (if bt580.1 < (bt575.1.length : Int) then (some ((bt575.1.set (bt580.1 : Int).toNat (⟨(⟨(rd_T44 bt575.1 bt580.1).f0.f0, (rd_T44 bt575.1 bt580.1).f0.f1, (rd_T44 bt575.1 bt580.1).f0.f2, (rd_T44 bt575.1 bt580.1).f0.f3, (rd_T44 bt575.1 bt580.1).f0.f4⟩ : S42), bt597.1, (rd_T44 bt575.1 bt580.1).f2, (rd_T44 bt575.1 bt580.1).f3⟩ : S44)), bt597.2.1, bt597.2.2)) else (none)) else (none))) else (if bt583.1 = 2 then ((spec_l4Raw.f s0_0 bt583.2.1 bt583.2.2).bind fun bt601 => (if 0 ≤ bt580.1 then (if bt580.1 < (bt575.1.length : Int) then (some ((bt575.1.set (bt580.1 : Int).toNat (⟨(⟨(rd_T44 bt575.1 bt580.1).f0.f0, (rd_T44 bt575.1 bt580.1).f0.f1, (rd_T44 bt575.1 bt580.1).f0.f2, (rd_T44 bt575.1 bt580.1).f0.f3, (rd_T44 bt575.1 bt580.1).f0.f4⟩ : S42), (rd_T44 bt575.1 bt580.1).f1, bt601.1, (rd_T44 bt575.1 bt580.1).f3⟩ : S44)), bt601.2.1, bt601.2.2)) else (none)) else (none))) else (if bt583.1 = 3 then ((spec_l1Int.f s0_0 bt583.2.1 bt583.2.2 (([(-1), 999, 1000] : List Int))).bind fun bt608 => (if 0 ≤ bt580.1 then (if bt580.1 < (bt575.1.length : Int) then (some ((bt575.1.set (bt580.1 : Int).toNat (⟨(⟨(rd_T44 bt575.1 bt580.1).f0.f0, (rd_T44 bt575.1 bt580.1).f0.f1, (rd_T44 bt575.1 bt580.1).f0.f2, (rd_T44 bt575.1 bt580.1).f0.f3, (rd_T44 bt575.1 bt580.1).f0.f4⟩ : S42), (rd_T44 bt575.1 bt580.1).f1, (rd_T44 bt575.1 bt580.1).f2, bt608.1⟩ : S44)), bt608.2.1, bt608.2.2)) else (none)) else (none))) else (some (bt575.1, bt583.2.1, bt583.2.2)))))))))) = some (r1, r2, r3) := h
 clear h
 replace H := Option.bind_eq_some_iff.mp H
 obtain ⟨⟨t575, t578, t579⟩, A20, H⟩ := H
 try dsimp only at H
 have A2 := o_ A20
 clear A20
 by_cases c3 : (t575.length : Int) = 0
 ·
  rw [if_pos c3] at H
  have c3b0 := beq_iff_eq.mpr c3
  have c3b1 := bne_eq_false_iff_eq.mpr c3
  clear c3
  simp only [Option.some.injEq, Prod.mk.injEq] at H
  obtain ⟨rfl, rfl, rfl⟩ := H
  go_enter Tryd.func101, Tryd.ntmps101
  go_wp2_with (first | (refine gl_ (some 6) Tryd.func109 #[.pointer (some ⟨g, 0, none⟩)] ?_; (with_reducible refine (spec_l6List.calls k g s0_0 s0_1 s0_2 t575 t578 t579 w0 _ ?side1 ?side2 A2.1).mono ?_); (case side1 => exact wI_); (case side2 => exact wB_); rintro e w4 ⟨v576, rfl, ho0, hi, hb, hk⟩; refine ⟨_, rfl, ?_⟩; have HO577 := o_ (Kd.R_lower ho0 (keep_size (w := w) (g := g) (row := none) wK_)); replace HK := o_ (KeepBut.trans wK_ hk (.inl rfl)); replace HB := o_ (hb); replace HI0 := o_ (hi); (try clear hb hk hi ho0); obtain ⟨Ao5, co5, eo5⟩ := Kd.R_slice HO577.1; subst eo5))
  go_ret
  exact ⟨_, by first | rfl | (simp [errW_none, errW_some] <;> rfl) | (simp [*, errW_none, errW_some] <;> rfl), rd_ HO577.1, wI_, wB_, wK_⟩
 ·
  rw [if_neg c3] at H
  have c3b0 := beq_eq_false_iff_ne.mpr c3
  have c3b1 := bne_iff_ne.mpr c3
  have c3b2 : ¬ (t575 = []) := fun h_ => c3 (by rw [h_]; rfl)
  replace H := Option.bind_eq_some_iff.mp H
  obtain ⟨⟨t580, t581, t582⟩, A60, H⟩ := H
  try dsimp only at H
  have A6 := o_ A60
  clear A60
  replace H := Option.bind_eq_some_iff.mp H
  obtain ⟨⟨t583, t584, t585⟩, A70, H⟩ := H
  try dsimp only at H
  have A7 := o_ A70
  clear A70
  by_cases c8 : t583 = 0
  ·
   rw [if_pos c8] at H
   have c8b0 := beq_iff_eq.mpr c8
   have c8b1 := bne_eq_false_iff_eq.mpr c8
   clear c8
   replace H := Option.bind_eq_some_iff.mp H
   obtain ⟨⟨t586, t587, t588, t589, t590, t591, t592⟩, A90, H⟩ := H
   try dsimp only at H
   have A9 := o_ A90
   clear A90
   by_cases c10 : 0 ≤ t580
   ·
    rw [if_pos c10] at H
    have c10b0 := decide_eq_true c10
    clear c10
    by_cases c11 : t580 < (t575.length : Int)
    ·
     rw [if_pos c11] at H
     have c11b0 := decide_eq_true c11
     clear c11
     obtain ⟨y593, hy593⟩ : ∃ y_ : List (S44), y_ = (t575.set (t580 : Int).toNat (⟨(⟨t586, t587, t588, t589, t590⟩ : S42), (rd_T44 t575 t580).f1, (rd_T44 t575 t580).f2, (rd_T44 t575 t580).f3⟩ : S44)) := ⟨_, rfl⟩
     replace H : (some (y593, t591, t592)) = some (r1, r2, r3) := by first | (rw [hy593]; with_reducible exact H) | (have H2_ := (Option.bind_some _ _).symm.trans H; rw [hy593]; with_reducible exact H2_) | (have H2_ := (Option.bind_some _ _).symm.trans H; with_reducible exact H2_) | with_reducible exact H | (rw [hy593]; exact H) | exact H
     have Ny593 := o_ hy593
     clear hy593
     simp only [Option.some.injEq, Prod.mk.injEq] at H
     obtain ⟨rfl, rfl, rfl⟩ := H
     go_enter Tryd.func101, Tryd.ntmps101
     go_wp2_with (first | (refine gl_ (some 6) Tryd.func109 #[.pointer (some ⟨g, 0, none⟩)] ?_; (with_reducible refine (spec_l6List.calls k g s0_0 s0_1 s0_2 t575 t578 t579 w0 _ ?side1 ?side2 A2.1).mono ?_); (case side1 => exact wI_); (case side2 => exact wB_); rintro e w13 ⟨v576, rfl, ho0, hi, hb, hk⟩; refine ⟨_, rfl, ?_⟩; have HO577 := o_ (Kd.R_lower ho0 (keep_size (w := w) (g := g) (row := none) wK_)); replace HK := o_ (KeepBut.trans wK_ hk (.inl rfl)); replace HB := o_ (hb); replace HI0 := o_ (hi); (try clear hb hk hi ho0); obtain ⟨Ao14, co14, eo14⟩ := Kd.R_slice HO577.1; subst eo14) | (refine gl_ (some 14) Tryd.func58 #[.pointer (some ⟨g, 0, none⟩), .int .i64 (t575.length : Int)] ?_; (with_reducible refine (spec_l1Below.calls g s0_0 t578 t579 (t575.length : Int) t580 t581 t582 w0 _ ?side1 ?side2 A6.1).mono ?_); (case side1 => exact wI_); (case side2 => exact wB_); rintro e w15 ⟨rfl, hi, hb, hk⟩; refine ⟨_, rfl, ?_⟩; replace HO577 := o_ (Kd.R_mono (Kd.R_keep (IsS103.apart (show IsS103 w0 _ g s0_0 t578 t579 from wI_) (rd_ HO577.1) (by decide)) hk (fun _ h => h.2)) (fun _ h => h.1)); replace HK := o_ (KeepBut.trans wK_ hk (.inl rfl)); replace HB := o_ (hb); replace HI0 := o_ (hi); (try clear hb hk hi)) | (refine gl_ (some 16) Tryd.func58 #[.pointer (some ⟨g, 0, none⟩), .int .i64 12] ?_; (with_reducible refine (spec_l1Below.calls g s0_0 t581 t582 12 t583 t584 t585 w0 _ ?side1 ?side2 A7.1).mono ?_); (case side1 => exact wI_); (case side2 => exact wB_); rintro e w16 ⟨rfl, hi, hb, hk⟩; refine ⟨_, rfl, ?_⟩; replace HO577 := o_ (Kd.R_mono (Kd.R_keep (IsS103.apart (show IsS103 w0 _ g s0_0 t581 t582 from wI_) (rd_ HO577.1) (by decide)) hk (fun _ h => h.2)) (fun _ h => h.1)); replace HK := o_ (KeepBut.trans wK_ hk (.inl rfl)); replace HB := o_ (hb); replace HI0 := o_ (hi); (try clear hb hk hi)) | (refine gl_ (some 22) Tryd.func110 #[.pointer (some ⟨g, 0, none⟩)] ?_; (with_reducible refine (spec_l4Any.calls g s0_0 t584 t585 t586 t587 t588 t589 t590 t591 t592 w0 _ ?side1 ?side2 A9.1).mono ?_); (case side1 => exact wI_); (case side2 => exact wB_); rintro e w17 ⟨rfl, hi, hb, hk⟩; refine ⟨_, rfl, ?_⟩; replace HO577 := o_ (Kd.R_mono (Kd.R_keep (IsS103.apart (show IsS103 w0 _ g s0_0 t584 t585 from wI_) (rd_ HO577.1) (by decide)) hk (fun _ h => h.2)) (fun _ h => h.1)); replace HK := o_ (KeepBut.trans wK_ hk (.inl rfl)); replace HB := o_ (hb); replace HI0 := o_ (hi); (try clear hb hk hi); have p12 : 0 ≤ (t580 : Int) := of_decide_eq_true as_; have q12 : (t580 : Int) < ((t575.length : Int) : Int) := of_decide_eq_true as_; obtain ⟨go12, co12, eo12, gb12, gl12, cl12, HG12⟩ := Kd.R_form HO577.1 (by omega); (first | cases eo12 | (injection eo12 with ea_ en_ ec_; (first | subst ea_ | (injection ea_ with ea_; subst ea_)); subst ec_; clear en_)); have GB12 := o_ gb12; have GG12 := o_ HG12; clear gb12 gl12 HG12; obtain ⟨ce12, hcl12, hM12, hcc12, hfr12⟩ := Kd.R_elem HO577.1 z44 (t580 : Int) p12 q12; obtain rfl := k44_openM hM12; have hx12_0 : w17.cell? ⟨go12, (t580 : Int).toNat * 8, none⟩ = some (.int .i64 ((rd_T44 t575 t580).f0.f0)) := hcc12 0 _ rfl; have hx12_1 : w17.cell? ⟨go12, (t580 : Int).toNat * 8 + 1, none⟩ = some (.int .i64 ((rd_T44 t575 t580).f0.f1)) := hcc12 1 _ rfl; have hx12_2 : w17.cell? ⟨go12, (t580 : Int).toNat * 8 + 2, none⟩ = some (.int .i64 ((rd_T44 t575 t580).f0.f2)) := hcc12 2 _ rfl; have hx12_3 : w17.cell? ⟨go12, (t580 : Int).toNat * 8 + 3, none⟩ = some (.int .i64 ((rd_T44 t575 t580).f0.f3)) := hcc12 3 _ rfl; have hx12_4 : w17.cell? ⟨go12, (t580 : Int).toNat * 8 + 4, none⟩ = some (.int .i64 ((rd_T44 t575 t580).f0.f4)) := hcc12 4 _ rfl; have hx12_5 : w17.cell? ⟨go12, (t580 : Int).toNat * 8 + 5, none⟩ = some (.int .i64 ((rd_T44 t575 t580).f1)) := hcc12 5 _ rfl; have hx12_6 : w17.cell? ⟨go12, (t580 : Int).toNat * 8 + 6, none⟩ = some (.int .i64 ((rd_T44 t575 t580).f2)) := hcc12 6 _ rfl; have hx12_7 : w17.cell? ⟨go12, (t580 : Int).toNat * 8 + 7, none⟩ = some (.int .i64 ((rd_T44 t575 t580).f3)) := hcc12 7 _ rfl; have hf12_0 : w17.frozen? ⟨go12, (t580 : Int).toNat * 8, none⟩ = false := hfr12 0; have hf12_1 : w17.frozen? ⟨go12, (t580 : Int).toNat * 8 + 1, none⟩ = false := hfr12 1; have hf12_2 : w17.frozen? ⟨go12, (t580 : Int).toNat * 8 + 2, none⟩ = false := hfr12 2; have hf12_3 : w17.frozen? ⟨go12, (t580 : Int).toNat * 8 + 3, none⟩ = false := hfr12 3; have hf12_4 : w17.frozen? ⟨go12, (t580 : Int).toNat * 8 + 4, none⟩ = false := hfr12 4; have hf12_5 : w17.frozen? ⟨go12, (t580 : Int).toNat * 8 + 5, none⟩ = false := hfr12 5; have hf12_6 : w17.frozen? ⟨go12, (t580 : Int).toNat * 8 + 6, none⟩ = false := hfr12 6; have hf12_7 : w17.frozen? ⟨go12, (t580 : Int).toNat * 8 + 7, none⟩ = false := hfr12 7; clear hcl12 hcc12 hfr12 hM12; replace p12 := eq_true p12; replace q12 := eq_true q12; have HX18 := o_ (show Kd.R k44 44 w17 w.heap.size (fun _ => True) (.slice (some ⟨go12, 0, none⟩) t575.length co14) t575 from (rd_ HO577.1)); obtain ⟨ce18, hcl18, hM18, hcc18, hfr18⟩ := Kd.R_elem HX18.1 z44 (t580 : Int) (of_decide_eq_true as_) (by have h_ : (t580 : Int) < ((t575.length : Int) : Int) := of_decide_eq_true as_; first | exact h_ | (have e_ := (Kd.R_reads' HO577.1).1; omega) | simpa using h_); obtain rfl := k44_openM hM18; have HP18 := Kd.R_seg HX18.1 (t580 : Int) (of_decide_eq_true as_) (by have h_ : (t580 : Int) < ((t575.length : Int) : Int) := of_decide_eq_true as_; first | exact h_ | (have e_ := (Kd.R_reads' HO577.1).1; omega) | simpa using h_) (seg := [.int .i64 t586, .int .i64 t587, .int .i64 t588, .int .i64 t589, .int .i64 t590]) (j := 0) hcl18 hcc18 (show 5 ≤ 8 from by decide) (x' := (⟨(⟨t586, t587, t588, t589, t590⟩ : S42), (rd_T44 t575 t580).f1, (rd_T44 t575 t580).f2, (rd_T44 t575 t580).f3⟩ : S44)) (k44_mkM _ _ _ (⟨(⟨t586, t587, t588, t589, t590⟩ : S42), (rd_T44 t575 t580).f1, (rd_T44 t575 t580).f2, (rd_T44 t575 t580).f3⟩ : S44) ) (fun _ hk => hk); have hx18_0 := hcc18 0 _ rfl; (try simp only [show (k44).sz = 8 from rfl, Nat.mul_one, Nat.add_zero] at hx18_0); have hf18_0 := hfr18 0; (try simp only [show (k44).sz = 8 from rfl, Nat.mul_one, Nat.add_zero] at hf18_0); have hx18_1 := hcc18 1 _ rfl; (try simp only [show (k44).sz = 8 from rfl, Nat.mul_one, Nat.add_zero] at hx18_1); have hf18_1 := hfr18 1; (try simp only [show (k44).sz = 8 from rfl, Nat.mul_one, Nat.add_zero] at hf18_1); have hx18_2 := hcc18 2 _ rfl; (try simp only [show (k44).sz = 8 from rfl, Nat.mul_one, Nat.add_zero] at hx18_2); have hf18_2 := hfr18 2; (try simp only [show (k44).sz = 8 from rfl, Nat.mul_one, Nat.add_zero] at hf18_2); have hx18_3 := hcc18 3 _ rfl; (try simp only [show (k44).sz = 8 from rfl, Nat.mul_one, Nat.add_zero] at hx18_3); have hf18_3 := hfr18 3; (try simp only [show (k44).sz = 8 from rfl, Nat.mul_one, Nat.add_zero] at hf18_3); have hx18_4 := hcc18 4 _ rfl; (try simp only [show (k44).sz = 8 from rfl, Nat.mul_one, Nat.add_zero] at hx18_4); have hf18_4 := hfr18 4; (try simp only [show (k44).sz = 8 from rfl, Nat.mul_one, Nat.add_zero] at hf18_4); clear hcl18 hcc18 hfr18 hM18) | ((with_reducible refine gate_store (t := 42) (p := 24) rfl ?_); refine store_event (t := 42) (p := 24) (v := ?vo_w19) (w1 := (((((w17.setCell ⟨go12, (t580 : Int).toNat * 8, none⟩ (.int .i64 t586)).setCell ⟨go12, (t580 : Int).toNat * 8 + 1, none⟩ (.int .i64 t587)).setCell ⟨go12, (t580 : Int).toNat * 8 + 2, none⟩ (.int .i64 t588)).setCell ⟨go12, (t580 : Int).toNat * 8 + 3, none⟩ (.int .i64 t589)).setCell ⟨go12, (t580 : Int).toNat * 8 + 4, none⟩ (.int .i64 t590))) ?hg ?ho ?hn ?hr ?_; (case ho => rfl); (case hg => rfl); (case hn => rfl); (case hr => first | (go_simp; done) | (go_simp; rfl)); intro w19 hw; have hg : w17.grownBy w19 (some go12) := (by rw [hw]; exact HP18.2); have hp_ : Kd.R k44 44 w19 w.heap.size (fun _ => True) (.slice (some ⟨go12, 0, none⟩) t575.length co14) y593 := (by rw [hw, Ny593.1]; exact HP18.1); clear HP18; replace HI0 := o_ (IsS103.grown wI_ hg (IsS103.own_ne HI0.1 HO577.1 (by decide))); replace HB := o_ ((by rw [hw]; exact below_set (below_set (below_set (below_set (below_set (HB.1) (Nat.le_trans HL.1 GB12.1)) (Nat.le_trans HL.1 GB12.1)) (Nat.le_trans HL.1 GB12.1)) (Nat.le_trans HL.1 GB12.1)) (Nat.le_trans HL.1 GB12.1) : Below w0.heap.size w0 w19)); replace HK := o_ (KeepBut.trans wK_ (KeepBut.of_grown hg g) (Kd.R_base2 HO577.1)); replace HO577 := o_ (hp_); clear hg hw hp_))
     go_ret
     exact ⟨_, by first | rfl | (simp [errW_none, errW_some] <;> rfl) | (simp [*, errW_none, errW_some] <;> rfl), rd_ HO577.1, wI_, wB_, wK_⟩
    ·
     rw [if_neg c11] at H
     exact absurd H (by simp)
   ·
    rw [if_neg c10] at H
    exact absurd H (by simp)
  ·
   rw [if_neg c8] at H
   have c8b0 := beq_eq_false_iff_ne.mpr c8
   have c8b1 := bne_iff_ne.mpr c8
   by_cases c20 : t583 = 1
   ·
    rw [if_pos c20] at H
    have c20b0 := beq_iff_eq.mpr c20
    have c20b1 := bne_eq_false_iff_eq.mpr c20
    clear c20
    obtain ⟨y594, hy594⟩ : ∃ y_ : List Int, y_ = (([0, 30, 31] : List Int)) := ⟨_, rfl⟩
    replace H : ((spec_l1Int.f s0_0 t584 t585 y594).bind fun bt597 => (if 0 ≤ t580 then (if t580 < (t575.length : Int) then (some ((t575.set (t580 : Int).toNat (⟨(⟨(rd_T44 t575 t580).f0.f0, (rd_T44 t575 t580).f0.f1, (rd_T44 t575 t580).f0.f2, (rd_T44 t575 t580).f0.f3, (rd_T44 t575 t580).f0.f4⟩ : S42), bt597.1, (rd_T44 t575 t580).f2, (rd_T44 t575 t580).f3⟩ : S44)), bt597.2.1, bt597.2.2)) else (none)) else (none))) = some (r1, r2, r3) := by first | (rw [hy594]; with_reducible exact H) | (have H2_ := (Option.bind_some _ _).symm.trans H; rw [hy594]; with_reducible exact H2_) | (have H2_ := (Option.bind_some _ _).symm.trans H; with_reducible exact H2_) | with_reducible exact H | (rw [hy594]; exact H) | exact H
    have Ny594 := o_ hy594
    clear hy594
    replace H := Option.bind_eq_some_iff.mp H
    obtain ⟨⟨t597, t598, t599⟩, A210, H⟩ := H
    try dsimp only at H
    have A21 := o_ A210
    clear A210
    by_cases c22 : 0 ≤ t580
    ·
     rw [if_pos c22] at H
     have c22b0 := decide_eq_true c22
     clear c22
     by_cases c23 : t580 < (t575.length : Int)
     ·
      rw [if_pos c23] at H
      have c23b0 := decide_eq_true c23
      clear c23
      obtain ⟨y600, hy600⟩ : ∃ y_ : List (S44), y_ = (t575.set (t580 : Int).toNat (⟨(⟨(rd_T44 t575 t580).f0.f0, (rd_T44 t575 t580).f0.f1, (rd_T44 t575 t580).f0.f2, (rd_T44 t575 t580).f0.f3, (rd_T44 t575 t580).f0.f4⟩ : S42), t597, (rd_T44 t575 t580).f2, (rd_T44 t575 t580).f3⟩ : S44)) := ⟨_, rfl⟩
      replace H : (some (y600, t598, t599)) = some (r1, r2, r3) := by first | (rw [hy600]; with_reducible exact H) | (have H2_ := (Option.bind_some _ _).symm.trans H; rw [hy600]; with_reducible exact H2_) | (have H2_ := (Option.bind_some _ _).symm.trans H; with_reducible exact H2_) | with_reducible exact H | (rw [hy600]; exact H) | exact H
      have Ny600 := o_ hy600
      clear hy600
      simp only [Option.some.injEq, Prod.mk.injEq] at H
      obtain ⟨rfl, rfl, rfl⟩ := H
      go_enter Tryd.func101, Tryd.ntmps101
      go_wp2_with (first | (refine gl_ (some 6) Tryd.func109 #[.pointer (some ⟨g, 0, none⟩)] ?_; (with_reducible refine (spec_l6List.calls k g s0_0 s0_1 s0_2 t575 t578 t579 w0 _ ?side1 ?side2 A2.1).mono ?_); (case side1 => exact wI_); (case side2 => exact wB_); rintro e w25 ⟨v576, rfl, ho0, hi, hb, hk⟩; refine ⟨_, rfl, ?_⟩; have HO577 := o_ (Kd.R_lower ho0 (keep_size (w := w) (g := g) (row := none) wK_)); replace HK := o_ (KeepBut.trans wK_ hk (.inl rfl)); replace HB := o_ (hb); replace HI0 := o_ (hi); (try clear hb hk hi ho0); obtain ⟨Ao26, co26, eo26⟩ := Kd.R_slice HO577.1; subst eo26) | (refine gl_ (some 14) Tryd.func58 #[.pointer (some ⟨g, 0, none⟩), .int .i64 (t575.length : Int)] ?_; (with_reducible refine (spec_l1Below.calls g s0_0 t578 t579 (t575.length : Int) t580 t581 t582 w0 _ ?side1 ?side2 A6.1).mono ?_); (case side1 => exact wI_); (case side2 => exact wB_); rintro e w27 ⟨rfl, hi, hb, hk⟩; refine ⟨_, rfl, ?_⟩; replace HO577 := o_ (Kd.R_mono (Kd.R_keep (IsS103.apart (show IsS103 w0 _ g s0_0 t578 t579 from wI_) (rd_ HO577.1) (by decide)) hk (fun _ h => h.2)) (fun _ h => h.1)); replace HK := o_ (KeepBut.trans wK_ hk (.inl rfl)); replace HB := o_ (hb); replace HI0 := o_ (hi); (try clear hb hk hi)) | (refine gl_ (some 16) Tryd.func58 #[.pointer (some ⟨g, 0, none⟩), .int .i64 12] ?_; (with_reducible refine (spec_l1Below.calls g s0_0 t581 t582 12 t583 t584 t585 w0 _ ?side1 ?side2 A7.1).mono ?_); (case side1 => exact wI_); (case side2 => exact wB_); rintro e w28 ⟨rfl, hi, hb, hk⟩; refine ⟨_, rfl, ?_⟩; replace HO577 := o_ (Kd.R_mono (Kd.R_keep (IsS103.apart (show IsS103 w0 _ g s0_0 t581 t582 from wI_) (rd_ HO577.1) (by decide)) hk (fun _ h => h.2)) (fun _ h => h.1)); replace HK := o_ (KeepBut.trans wK_ hk (.inl rfl)); replace HB := o_ (hb); replace HI0 := o_ (hi); (try clear hb hk hi)) | ((with_reducible refine gate_dst (N := 30) rfl ?_); refine Kd.R_lit (Kd.int .i64) _ 3 ?hg (N := 30) ?hd (xs := ([0, 30, 31] : List Int)) (inner := [.int .i64 0, .int .i64 30, .int .i64 31]) (ok := fun _ => True) (okp := fun _ => True) ?hr ?hp (fun _ hk => hk) trivial (Below.refl _ _) (Nat.le_refl _) (by simp) ?_; (case hd => rfl); (case hg => rfl); (case hr => first | (go_simp; done) | (go_simp; rfl)); (case hp => exact (Reps.one (show Kd.M (Kd.int .i64) _ _ _ 0 [.int .i64 0] from rfl) (Reps.one (show Kd.M (Kd.int .i64) _ _ _ 30 [.int .i64 30] from rfl) (Reps.one (show Kd.M (Kd.int .i64) _ _ _ 31 [.int .i64 31] from rfl) (Reps.none _ _))))); intro v595 w29 ho30 hb hg_ hnew_; clear hg_ hnew_; (first | rw [← Ny594.1] at ho30 | (simp only [Int.reduceToNat] at ho30; rw [← Ny594.1] at ho30)); replace HO577 := o_ (Kd.R_below (rd_ HO577.1) hb); have HO596 := o_ (Kd.R_lower ho30 (keep_size (w := w) (g := g) (row := none) wK_)); replace HK := o_ (KeepBut.trans wK_ (KeepBut.of_below hb g none) (.inl rfl)); replace HB := o_ (below_step (wB_) hb); replace HI0 := o_ (IsS103.below wI_ hb); clear hb ho30; obtain ⟨Ao31, co31, eo31⟩ := Kd.R_slice HO596.1; subst eo31) | (refine gl_ (some 31) Tryd.func81 #[.pointer (some ⟨g, 0, none⟩), .slice Ao31 y594.length co31] ?_; (with_reducible refine (spec_l1Int.calls g s0_0 t584 t585 _ _ y594 t597 t598 t599 w0 _ ?side1 ?side2 ?side3 ?side4 ?side5 A21.1).mono ?_); (case side1 => exact wI_); (case side2 => exact wB_); (case side3 => exact cd_ (Kd.R_reads' HO596.1).2.2); (case side4 => exact (Kd.R_reads' HO596.1).2.1); (case side5 => exact far_slice (IsS103.own_ne HI0.1 HO596.1 (by decide))); rintro e w32 ⟨rfl, hi, hb, hk⟩; refine ⟨_, rfl, ?_⟩; replace HO577 := o_ (Kd.R_mono (Kd.R_keep (IsS103.apart (show IsS103 w0 _ g s0_0 t584 t585 from wI_) (rd_ HO577.1) (by decide)) hk (fun _ h => h.2)) (fun _ h => h.1)); replace HO596 := o_ (Kd.R_mono (Kd.R_keep (IsS103.apart (show IsS103 w0 _ g s0_0 t584 t585 from wI_) (rd_ HO596.1) (by decide)) hk (fun _ h => h.2)) (fun _ h => h.1)); replace HK := o_ (KeepBut.trans wK_ hk (.inl rfl)); replace HB := o_ (hb); replace HI0 := o_ (hi); (try clear hb hk hi); have p24 : 0 ≤ (t580 : Int) := of_decide_eq_true as_; have q24 : (t580 : Int) < ((t575.length : Int) : Int) := of_decide_eq_true as_; obtain ⟨go24, co24, eo24, gb24, gl24, cl24, HG24⟩ := Kd.R_form HO577.1 (by omega); (first | cases eo24 | (injection eo24 with ea_ en_ ec_; (first | subst ea_ | (injection ea_ with ea_; subst ea_)); subst ec_; clear en_)); have GB24 := o_ gb24; have GG24 := o_ HG24; clear gb24 gl24 HG24; obtain ⟨ce24, hcl24, hM24, hcc24, hfr24⟩ := Kd.R_elem HO577.1 z44 (t580 : Int) p24 q24; obtain rfl := k44_openM hM24; have hx24_0 : w32.cell? ⟨go24, (t580 : Int).toNat * 8, none⟩ = some (.int .i64 ((rd_T44 t575 t580).f0.f0)) := hcc24 0 _ rfl; have hx24_1 : w32.cell? ⟨go24, (t580 : Int).toNat * 8 + 1, none⟩ = some (.int .i64 ((rd_T44 t575 t580).f0.f1)) := hcc24 1 _ rfl; have hx24_2 : w32.cell? ⟨go24, (t580 : Int).toNat * 8 + 2, none⟩ = some (.int .i64 ((rd_T44 t575 t580).f0.f2)) := hcc24 2 _ rfl; have hx24_3 : w32.cell? ⟨go24, (t580 : Int).toNat * 8 + 3, none⟩ = some (.int .i64 ((rd_T44 t575 t580).f0.f3)) := hcc24 3 _ rfl; have hx24_4 : w32.cell? ⟨go24, (t580 : Int).toNat * 8 + 4, none⟩ = some (.int .i64 ((rd_T44 t575 t580).f0.f4)) := hcc24 4 _ rfl; have hx24_5 : w32.cell? ⟨go24, (t580 : Int).toNat * 8 + 5, none⟩ = some (.int .i64 ((rd_T44 t575 t580).f1)) := hcc24 5 _ rfl; have hx24_6 : w32.cell? ⟨go24, (t580 : Int).toNat * 8 + 6, none⟩ = some (.int .i64 ((rd_T44 t575 t580).f2)) := hcc24 6 _ rfl; have hx24_7 : w32.cell? ⟨go24, (t580 : Int).toNat * 8 + 7, none⟩ = some (.int .i64 ((rd_T44 t575 t580).f3)) := hcc24 7 _ rfl; have hf24_0 : w32.frozen? ⟨go24, (t580 : Int).toNat * 8, none⟩ = false := hfr24 0; have hf24_1 : w32.frozen? ⟨go24, (t580 : Int).toNat * 8 + 1, none⟩ = false := hfr24 1; have hf24_2 : w32.frozen? ⟨go24, (t580 : Int).toNat * 8 + 2, none⟩ = false := hfr24 2; have hf24_3 : w32.frozen? ⟨go24, (t580 : Int).toNat * 8 + 3, none⟩ = false := hfr24 3; have hf24_4 : w32.frozen? ⟨go24, (t580 : Int).toNat * 8 + 4, none⟩ = false := hfr24 4; have hf24_5 : w32.frozen? ⟨go24, (t580 : Int).toNat * 8 + 5, none⟩ = false := hfr24 5; have hf24_6 : w32.frozen? ⟨go24, (t580 : Int).toNat * 8 + 6, none⟩ = false := hfr24 6; have hf24_7 : w32.frozen? ⟨go24, (t580 : Int).toNat * 8 + 7, none⟩ = false := hfr24 7; clear hcl24 hcc24 hfr24 hM24; replace p24 := eq_true p24; replace q24 := eq_true q24; have HX33 := o_ (show Kd.R k44 44 w32 w.heap.size (fun _ => True) (.slice (some ⟨go24, 0, none⟩) t575.length co26) t575 from (rd_ HO577.1)); obtain ⟨ce33, hcl33, hM33, hcc33, hfr33⟩ := Kd.R_elem HX33.1 z44 (t580 : Int) (of_decide_eq_true as_) (by have h_ : (t580 : Int) < ((t575.length : Int) : Int) := of_decide_eq_true as_; first | exact h_ | (have e_ := (Kd.R_reads' HO577.1).1; omega) | simpa using h_); obtain rfl := k44_openM hM33; have HP33 := Kd.R_seg HX33.1 (t580 : Int) (of_decide_eq_true as_) (by have h_ : (t580 : Int) < ((t575.length : Int) : Int) := of_decide_eq_true as_; first | exact h_ | (have e_ := (Kd.R_reads' HO577.1).1; omega) | simpa using h_) (seg := [.int .i64 t597]) (j := 5) hcl33 hcc33 (show 6 ≤ 8 from by decide) (x' := (⟨(⟨(rd_T44 t575 t580).f0.f0, (rd_T44 t575 t580).f0.f1, (rd_T44 t575 t580).f0.f2, (rd_T44 t575 t580).f0.f3, (rd_T44 t575 t580).f0.f4⟩ : S42), t597, (rd_T44 t575 t580).f2, (rd_T44 t575 t580).f3⟩ : S44)) (k44_mkM _ _ _ (⟨(⟨(rd_T44 t575 t580).f0.f0, (rd_T44 t575 t580).f0.f1, (rd_T44 t575 t580).f0.f2, (rd_T44 t575 t580).f0.f3, (rd_T44 t575 t580).f0.f4⟩ : S42), t597, (rd_T44 t575 t580).f2, (rd_T44 t575 t580).f3⟩ : S44) ) (fun _ hk => hk); have hx33_5 := hcc33 5 _ rfl; (try simp only [show (k44).sz = 8 from rfl, Nat.mul_one, Nat.add_zero] at hx33_5); have hf33_5 := hfr33 5; (try simp only [show (k44).sz = 8 from rfl, Nat.mul_one, Nat.add_zero] at hf33_5); clear hcl33 hcc33 hfr33 hM33) | ((with_reducible refine gate_store (t := 3) (p := 33) rfl ?_); refine store_event (t := 3) (p := 33) (v := ?vo_w34) (w1 := (w32.setCell ⟨go24, (t580 : Int).toNat * 8 + 5, none⟩ (.int .i64 t597))) ?hg ?ho ?hn ?hr ?_; (case ho => rfl); (case hg => rfl); (case hn => rfl); (case hr => first | (go_simp; done) | (go_simp; rfl)); intro w34 hw; have hg : w32.grownBy w34 (some go24) := (by rw [hw]; exact HP33.2); have hp_ : Kd.R k44 44 w34 w.heap.size (fun _ => True) (.slice (some ⟨go24, 0, none⟩) t575.length co26) y600 := (by rw [hw, Ny600.1]; exact HP33.1); clear HP33; replace HI0 := o_ (IsS103.grown wI_ hg (IsS103.own_ne HI0.1 HO577.1 (by decide))); replace HO596 := o_ (Kd.R_over' (v := (.slice (some ⟨go24, 0, none⟩) t575.length co26)) (rd_ HO596.1) (Kd.R_typed HO577.1) (by decide) hg); replace HB := o_ ((by rw [hw]; exact below_set (HB.1) (Nat.le_trans HL.1 GB24.1) : Below w0.heap.size w0 w34)); replace HK := o_ (KeepBut.trans wK_ (KeepBut.of_grown hg g) (Kd.R_base2 HO577.1)); replace HO577 := o_ (hp_); clear hg hw hp_))
      go_ret
      exact ⟨_, by first | rfl | (simp [errW_none, errW_some] <;> rfl) | (simp [*, errW_none, errW_some] <;> rfl), rd_ HO577.1, wI_, wB_, wK_⟩
     ·
      rw [if_neg c23] at H
      exact absurd H (by simp)
    ·
     rw [if_neg c22] at H
     exact absurd H (by simp)
   ·
    rw [if_neg c20] at H
    have c20b0 := beq_eq_false_iff_ne.mpr c20
    have c20b1 := bne_iff_ne.mpr c20
    by_cases c35 : t583 = 2
    ·
     rw [if_pos c35] at H
     have c35b0 := beq_iff_eq.mpr c35
     have c35b1 := bne_eq_false_iff_eq.mpr c35
     clear c35
     replace H := Option.bind_eq_some_iff.mp H
     obtain ⟨⟨t601, t602, t603⟩, A360, H⟩ := H
     try dsimp only at H
     have A36 := o_ A360
     clear A360
     by_cases c37 : 0 ≤ t580
     ·
      rw [if_pos c37] at H
      have c37b0 := decide_eq_true c37
      clear c37
      by_cases c38 : t580 < (t575.length : Int)
      ·
       rw [if_pos c38] at H
       have c38b0 := decide_eq_true c38
       clear c38
       obtain ⟨y604, hy604⟩ : ∃ y_ : List (S44), y_ = (t575.set (t580 : Int).toNat (⟨(⟨(rd_T44 t575 t580).f0.f0, (rd_T44 t575 t580).f0.f1, (rd_T44 t575 t580).f0.f2, (rd_T44 t575 t580).f0.f3, (rd_T44 t575 t580).f0.f4⟩ : S42), (rd_T44 t575 t580).f1, t601, (rd_T44 t575 t580).f3⟩ : S44)) := ⟨_, rfl⟩
       replace H : (some (y604, t602, t603)) = some (r1, r2, r3) := by first | (rw [hy604]; with_reducible exact H) | (have H2_ := (Option.bind_some _ _).symm.trans H; rw [hy604]; with_reducible exact H2_) | (have H2_ := (Option.bind_some _ _).symm.trans H; with_reducible exact H2_) | with_reducible exact H | (rw [hy604]; exact H) | exact H
       have Ny604 := o_ hy604
       clear hy604
       simp only [Option.some.injEq, Prod.mk.injEq] at H
       obtain ⟨rfl, rfl, rfl⟩ := H
       go_enter Tryd.func101, Tryd.ntmps101
       go_wp2_with (first | (refine gl_ (some 6) Tryd.func109 #[.pointer (some ⟨g, 0, none⟩)] ?_; (with_reducible refine (spec_l6List.calls k g s0_0 s0_1 s0_2 t575 t578 t579 w0 _ ?side1 ?side2 A2.1).mono ?_); (case side1 => exact wI_); (case side2 => exact wB_); rintro e w40 ⟨v576, rfl, ho0, hi, hb, hk⟩; refine ⟨_, rfl, ?_⟩; have HO577 := o_ (Kd.R_lower ho0 (keep_size (w := w) (g := g) (row := none) wK_)); replace HK := o_ (KeepBut.trans wK_ hk (.inl rfl)); replace HB := o_ (hb); replace HI0 := o_ (hi); (try clear hb hk hi ho0); obtain ⟨Ao41, co41, eo41⟩ := Kd.R_slice HO577.1; subst eo41) | (refine gl_ (some 14) Tryd.func58 #[.pointer (some ⟨g, 0, none⟩), .int .i64 (t575.length : Int)] ?_; (with_reducible refine (spec_l1Below.calls g s0_0 t578 t579 (t575.length : Int) t580 t581 t582 w0 _ ?side1 ?side2 A6.1).mono ?_); (case side1 => exact wI_); (case side2 => exact wB_); rintro e w42 ⟨rfl, hi, hb, hk⟩; refine ⟨_, rfl, ?_⟩; replace HO577 := o_ (Kd.R_mono (Kd.R_keep (IsS103.apart (show IsS103 w0 _ g s0_0 t578 t579 from wI_) (rd_ HO577.1) (by decide)) hk (fun _ h => h.2)) (fun _ h => h.1)); replace HK := o_ (KeepBut.trans wK_ hk (.inl rfl)); replace HB := o_ (hb); replace HI0 := o_ (hi); (try clear hb hk hi)) | (refine gl_ (some 16) Tryd.func58 #[.pointer (some ⟨g, 0, none⟩), .int .i64 12] ?_; (with_reducible refine (spec_l1Below.calls g s0_0 t581 t582 12 t583 t584 t585 w0 _ ?side1 ?side2 A7.1).mono ?_); (case side1 => exact wI_); (case side2 => exact wB_); rintro e w43 ⟨rfl, hi, hb, hk⟩; refine ⟨_, rfl, ?_⟩; replace HO577 := o_ (Kd.R_mono (Kd.R_keep (IsS103.apart (show IsS103 w0 _ g s0_0 t581 t582 from wI_) (rd_ HO577.1) (by decide)) hk (fun _ h => h.2)) (fun _ h => h.1)); replace HK := o_ (KeepBut.trans wK_ hk (.inl rfl)); replace HB := o_ (hb); replace HI0 := o_ (hi); (try clear hb hk hi)) | (refine gl_ (some 39) Tryd.func82 #[.pointer (some ⟨g, 0, none⟩)] ?_; (with_reducible refine (spec_l4Raw.calls g s0_0 t584 t585 t601 t602 t603 w0 _ ?side1 ?side2 A36.1).mono ?_); (case side1 => exact wI_); (case side2 => exact wB_); rintro e w44 ⟨rfl, hi, hb, hk⟩; refine ⟨_, rfl, ?_⟩; replace HO577 := o_ (Kd.R_mono (Kd.R_keep (IsS103.apart (show IsS103 w0 _ g s0_0 t584 t585 from wI_) (rd_ HO577.1) (by decide)) hk (fun _ h => h.2)) (fun _ h => h.1)); replace HK := o_ (KeepBut.trans wK_ hk (.inl rfl)); replace HB := o_ (hb); replace HI0 := o_ (hi); (try clear hb hk hi); have p39 : 0 ≤ (t580 : Int) := of_decide_eq_true as_; have q39 : (t580 : Int) < ((t575.length : Int) : Int) := of_decide_eq_true as_; obtain ⟨go39, co39, eo39, gb39, gl39, cl39, HG39⟩ := Kd.R_form HO577.1 (by omega); (first | cases eo39 | (injection eo39 with ea_ en_ ec_; (first | subst ea_ | (injection ea_ with ea_; subst ea_)); subst ec_; clear en_)); have GB39 := o_ gb39; have GG39 := o_ HG39; clear gb39 gl39 HG39; obtain ⟨ce39, hcl39, hM39, hcc39, hfr39⟩ := Kd.R_elem HO577.1 z44 (t580 : Int) p39 q39; obtain rfl := k44_openM hM39; have hx39_0 : w44.cell? ⟨go39, (t580 : Int).toNat * 8, none⟩ = some (.int .i64 ((rd_T44 t575 t580).f0.f0)) := hcc39 0 _ rfl; have hx39_1 : w44.cell? ⟨go39, (t580 : Int).toNat * 8 + 1, none⟩ = some (.int .i64 ((rd_T44 t575 t580).f0.f1)) := hcc39 1 _ rfl; have hx39_2 : w44.cell? ⟨go39, (t580 : Int).toNat * 8 + 2, none⟩ = some (.int .i64 ((rd_T44 t575 t580).f0.f2)) := hcc39 2 _ rfl; have hx39_3 : w44.cell? ⟨go39, (t580 : Int).toNat * 8 + 3, none⟩ = some (.int .i64 ((rd_T44 t575 t580).f0.f3)) := hcc39 3 _ rfl; have hx39_4 : w44.cell? ⟨go39, (t580 : Int).toNat * 8 + 4, none⟩ = some (.int .i64 ((rd_T44 t575 t580).f0.f4)) := hcc39 4 _ rfl; have hx39_5 : w44.cell? ⟨go39, (t580 : Int).toNat * 8 + 5, none⟩ = some (.int .i64 ((rd_T44 t575 t580).f1)) := hcc39 5 _ rfl; have hx39_6 : w44.cell? ⟨go39, (t580 : Int).toNat * 8 + 6, none⟩ = some (.int .i64 ((rd_T44 t575 t580).f2)) := hcc39 6 _ rfl; have hx39_7 : w44.cell? ⟨go39, (t580 : Int).toNat * 8 + 7, none⟩ = some (.int .i64 ((rd_T44 t575 t580).f3)) := hcc39 7 _ rfl; have hf39_0 : w44.frozen? ⟨go39, (t580 : Int).toNat * 8, none⟩ = false := hfr39 0; have hf39_1 : w44.frozen? ⟨go39, (t580 : Int).toNat * 8 + 1, none⟩ = false := hfr39 1; have hf39_2 : w44.frozen? ⟨go39, (t580 : Int).toNat * 8 + 2, none⟩ = false := hfr39 2; have hf39_3 : w44.frozen? ⟨go39, (t580 : Int).toNat * 8 + 3, none⟩ = false := hfr39 3; have hf39_4 : w44.frozen? ⟨go39, (t580 : Int).toNat * 8 + 4, none⟩ = false := hfr39 4; have hf39_5 : w44.frozen? ⟨go39, (t580 : Int).toNat * 8 + 5, none⟩ = false := hfr39 5; have hf39_6 : w44.frozen? ⟨go39, (t580 : Int).toNat * 8 + 6, none⟩ = false := hfr39 6; have hf39_7 : w44.frozen? ⟨go39, (t580 : Int).toNat * 8 + 7, none⟩ = false := hfr39 7; clear hcl39 hcc39 hfr39 hM39; replace p39 := eq_true p39; replace q39 := eq_true q39; have HX45 := o_ (show Kd.R k44 44 w44 w.heap.size (fun _ => True) (.slice (some ⟨go39, 0, none⟩) t575.length co41) t575 from (rd_ HO577.1)); obtain ⟨ce45, hcl45, hM45, hcc45, hfr45⟩ := Kd.R_elem HX45.1 z44 (t580 : Int) (of_decide_eq_true as_) (by have h_ : (t580 : Int) < ((t575.length : Int) : Int) := of_decide_eq_true as_; first | exact h_ | (have e_ := (Kd.R_reads' HO577.1).1; omega) | simpa using h_); obtain rfl := k44_openM hM45; have HP45 := Kd.R_seg HX45.1 (t580 : Int) (of_decide_eq_true as_) (by have h_ : (t580 : Int) < ((t575.length : Int) : Int) := of_decide_eq_true as_; first | exact h_ | (have e_ := (Kd.R_reads' HO577.1).1; omega) | simpa using h_) (seg := [.int .i64 t601]) (j := 6) hcl45 hcc45 (show 7 ≤ 8 from by decide) (x' := (⟨(⟨(rd_T44 t575 t580).f0.f0, (rd_T44 t575 t580).f0.f1, (rd_T44 t575 t580).f0.f2, (rd_T44 t575 t580).f0.f3, (rd_T44 t575 t580).f0.f4⟩ : S42), (rd_T44 t575 t580).f1, t601, (rd_T44 t575 t580).f3⟩ : S44)) (k44_mkM _ _ _ (⟨(⟨(rd_T44 t575 t580).f0.f0, (rd_T44 t575 t580).f0.f1, (rd_T44 t575 t580).f0.f2, (rd_T44 t575 t580).f0.f3, (rd_T44 t575 t580).f0.f4⟩ : S42), (rd_T44 t575 t580).f1, t601, (rd_T44 t575 t580).f3⟩ : S44) ) (fun _ hk => hk); have hx45_6 := hcc45 6 _ rfl; (try simp only [show (k44).sz = 8 from rfl, Nat.mul_one, Nat.add_zero] at hx45_6); have hf45_6 := hfr45 6; (try simp only [show (k44).sz = 8 from rfl, Nat.mul_one, Nat.add_zero] at hf45_6); clear hcl45 hcc45 hfr45 hM45) | ((with_reducible refine gate_store (t := 3) (p := 41) rfl ?_); refine store_event (t := 3) (p := 41) (v := ?vo_w46) (w1 := (w44.setCell ⟨go39, (t580 : Int).toNat * 8 + 6, none⟩ (.int .i64 t601))) ?hg ?ho ?hn ?hr ?_; (case ho => rfl); (case hg => rfl); (case hn => rfl); (case hr => first | (go_simp; done) | (go_simp; rfl)); intro w46 hw; have hg : w44.grownBy w46 (some go39) := (by rw [hw]; exact HP45.2); have hp_ : Kd.R k44 44 w46 w.heap.size (fun _ => True) (.slice (some ⟨go39, 0, none⟩) t575.length co41) y604 := (by rw [hw, Ny604.1]; exact HP45.1); clear HP45; replace HI0 := o_ (IsS103.grown wI_ hg (IsS103.own_ne HI0.1 HO577.1 (by decide))); replace HB := o_ ((by rw [hw]; exact below_set (HB.1) (Nat.le_trans HL.1 GB39.1) : Below w0.heap.size w0 w46)); replace HK := o_ (KeepBut.trans wK_ (KeepBut.of_grown hg g) (Kd.R_base2 HO577.1)); replace HO577 := o_ (hp_); clear hg hw hp_))
       go_ret
       exact ⟨_, by first | rfl | (simp [errW_none, errW_some] <;> rfl) | (simp [*, errW_none, errW_some] <;> rfl), rd_ HO577.1, wI_, wB_, wK_⟩
      ·
       rw [if_neg c38] at H
       exact absurd H (by simp)
     ·
      rw [if_neg c37] at H
      exact absurd H (by simp)
    ·
     rw [if_neg c35] at H
     have c35b0 := beq_eq_false_iff_ne.mpr c35
     have c35b1 := bne_iff_ne.mpr c35
     by_cases c47 : t583 = 3
     ·
      rw [if_pos c47] at H
      have c47b0 := beq_iff_eq.mpr c47
      have c47b1 := bne_eq_false_iff_eq.mpr c47
      clear c47
      obtain ⟨y605, hy605⟩ : ∃ y_ : List Int, y_ = (([(-1), 999, 1000] : List Int)) := ⟨_, rfl⟩
      replace H : ((spec_l1Int.f s0_0 t584 t585 y605).bind fun bt608 => (if 0 ≤ t580 then (if t580 < (t575.length : Int) then (some ((t575.set (t580 : Int).toNat (⟨(⟨(rd_T44 t575 t580).f0.f0, (rd_T44 t575 t580).f0.f1, (rd_T44 t575 t580).f0.f2, (rd_T44 t575 t580).f0.f3, (rd_T44 t575 t580).f0.f4⟩ : S42), (rd_T44 t575 t580).f1, (rd_T44 t575 t580).f2, bt608.1⟩ : S44)), bt608.2.1, bt608.2.2)) else (none)) else (none))) = some (r1, r2, r3) := by first | (rw [hy605]; with_reducible exact H) | (have H2_ := (Option.bind_some _ _).symm.trans H; rw [hy605]; with_reducible exact H2_) | (have H2_ := (Option.bind_some _ _).symm.trans H; with_reducible exact H2_) | with_reducible exact H | (rw [hy605]; exact H) | exact H
      have Ny605 := o_ hy605
      clear hy605
      replace H := Option.bind_eq_some_iff.mp H
      obtain ⟨⟨t608, t609, t610⟩, A480, H⟩ := H
      try dsimp only at H
      have A48 := o_ A480
      clear A480
      by_cases c49 : 0 ≤ t580
      ·
       rw [if_pos c49] at H
       have c49b0 := decide_eq_true c49
       clear c49
       by_cases c50 : t580 < (t575.length : Int)
       ·
        rw [if_pos c50] at H
        have c50b0 := decide_eq_true c50
        clear c50
        obtain ⟨y611, hy611⟩ : ∃ y_ : List (S44), y_ = (t575.set (t580 : Int).toNat (⟨(⟨(rd_T44 t575 t580).f0.f0, (rd_T44 t575 t580).f0.f1, (rd_T44 t575 t580).f0.f2, (rd_T44 t575 t580).f0.f3, (rd_T44 t575 t580).f0.f4⟩ : S42), (rd_T44 t575 t580).f1, (rd_T44 t575 t580).f2, t608⟩ : S44)) := ⟨_, rfl⟩
        replace H : (some (y611, t609, t610)) = some (r1, r2, r3) := by first | (rw [hy611]; with_reducible exact H) | (have H2_ := (Option.bind_some _ _).symm.trans H; rw [hy611]; with_reducible exact H2_) | (have H2_ := (Option.bind_some _ _).symm.trans H; with_reducible exact H2_) | with_reducible exact H | (rw [hy611]; exact H) | exact H
        have Ny611 := o_ hy611
        clear hy611
        simp only [Option.some.injEq, Prod.mk.injEq] at H
        obtain ⟨rfl, rfl, rfl⟩ := H
        go_enter Tryd.func101, Tryd.ntmps101
        go_wp2_with (first | (refine gl_ (some 6) Tryd.func109 #[.pointer (some ⟨g, 0, none⟩)] ?_; (with_reducible refine (spec_l6List.calls k g s0_0 s0_1 s0_2 t575 t578 t579 w0 _ ?side1 ?side2 A2.1).mono ?_); (case side1 => exact wI_); (case side2 => exact wB_); rintro e w52 ⟨v576, rfl, ho0, hi, hb, hk⟩; refine ⟨_, rfl, ?_⟩; have HO577 := o_ (Kd.R_lower ho0 (keep_size (w := w) (g := g) (row := none) wK_)); replace HK := o_ (KeepBut.trans wK_ hk (.inl rfl)); replace HB := o_ (hb); replace HI0 := o_ (hi); (try clear hb hk hi ho0); obtain ⟨Ao53, co53, eo53⟩ := Kd.R_slice HO577.1; subst eo53) | (refine gl_ (some 14) Tryd.func58 #[.pointer (some ⟨g, 0, none⟩), .int .i64 (t575.length : Int)] ?_; (with_reducible refine (spec_l1Below.calls g s0_0 t578 t579 (t575.length : Int) t580 t581 t582 w0 _ ?side1 ?side2 A6.1).mono ?_); (case side1 => exact wI_); (case side2 => exact wB_); rintro e w54 ⟨rfl, hi, hb, hk⟩; refine ⟨_, rfl, ?_⟩; replace HO577 := o_ (Kd.R_mono (Kd.R_keep (IsS103.apart (show IsS103 w0 _ g s0_0 t578 t579 from wI_) (rd_ HO577.1) (by decide)) hk (fun _ h => h.2)) (fun _ h => h.1)); replace HK := o_ (KeepBut.trans wK_ hk (.inl rfl)); replace HB := o_ (hb); replace HI0 := o_ (hi); (try clear hb hk hi)) | (refine gl_ (some 16) Tryd.func58 #[.pointer (some ⟨g, 0, none⟩), .int .i64 12] ?_; (with_reducible refine (spec_l1Below.calls g s0_0 t581 t582 12 t583 t584 t585 w0 _ ?side1 ?side2 A7.1).mono ?_); (case side1 => exact wI_); (case side2 => exact wB_); rintro e w55 ⟨rfl, hi, hb, hk⟩; refine ⟨_, rfl, ?_⟩; replace HO577 := o_ (Kd.R_mono (Kd.R_keep (IsS103.apart (show IsS103 w0 _ g s0_0 t581 t582 from wI_) (rd_ HO577.1) (by decide)) hk (fun _ h => h.2)) (fun _ h => h.1)); replace HK := o_ (KeepBut.trans wK_ hk (.inl rfl)); replace HB := o_ (hb); replace HI0 := o_ (hi); (try clear hb hk hi)) | ((with_reducible refine gate_dst (N := 47) rfl ?_); refine Kd.R_lit (Kd.int .i64) _ 3 ?hg (N := 47) ?hd (xs := ([(-1), 999, 1000] : List Int)) (inner := [.int .i64 (-1), .int .i64 999, .int .i64 1000]) (ok := fun _ => True) (okp := fun _ => True) ?hr ?hp (fun _ hk => hk) trivial (Below.refl _ _) (Nat.le_refl _) (by simp) ?_; (case hd => rfl); (case hg => rfl); (case hr => first | (go_simp; done) | (go_simp; rfl)); (case hp => exact (Reps.one (show Kd.M (Kd.int .i64) _ _ _ (-1) [.int .i64 (-1)] from rfl) (Reps.one (show Kd.M (Kd.int .i64) _ _ _ 999 [.int .i64 999] from rfl) (Reps.one (show Kd.M (Kd.int .i64) _ _ _ 1000 [.int .i64 1000] from rfl) (Reps.none _ _))))); intro v606 w56 ho57 hb hg_ hnew_; clear hg_ hnew_; (first | rw [← Ny605.1] at ho57 | (simp only [Int.reduceToNat] at ho57; rw [← Ny605.1] at ho57)); replace HO577 := o_ (Kd.R_below (rd_ HO577.1) hb); have HO607 := o_ (Kd.R_lower ho57 (keep_size (w := w) (g := g) (row := none) wK_)); replace HK := o_ (KeepBut.trans wK_ (KeepBut.of_below hb g none) (.inl rfl)); replace HB := o_ (below_step (wB_) hb); replace HI0 := o_ (IsS103.below wI_ hb); clear hb ho57; obtain ⟨Ao58, co58, eo58⟩ := Kd.R_slice HO607.1; subst eo58) | (refine gl_ (some 48) Tryd.func81 #[.pointer (some ⟨g, 0, none⟩), .slice Ao58 y605.length co58] ?_; (with_reducible refine (spec_l1Int.calls g s0_0 t584 t585 _ _ y605 t608 t609 t610 w0 _ ?side1 ?side2 ?side3 ?side4 ?side5 A48.1).mono ?_); (case side1 => exact wI_); (case side2 => exact wB_); (case side3 => exact cd_ (Kd.R_reads' HO607.1).2.2); (case side4 => exact (Kd.R_reads' HO607.1).2.1); (case side5 => exact far_slice (IsS103.own_ne HI0.1 HO607.1 (by decide))); rintro e w59 ⟨rfl, hi, hb, hk⟩; refine ⟨_, rfl, ?_⟩; replace HO577 := o_ (Kd.R_mono (Kd.R_keep (IsS103.apart (show IsS103 w0 _ g s0_0 t584 t585 from wI_) (rd_ HO577.1) (by decide)) hk (fun _ h => h.2)) (fun _ h => h.1)); replace HO607 := o_ (Kd.R_mono (Kd.R_keep (IsS103.apart (show IsS103 w0 _ g s0_0 t584 t585 from wI_) (rd_ HO607.1) (by decide)) hk (fun _ h => h.2)) (fun _ h => h.1)); replace HK := o_ (KeepBut.trans wK_ hk (.inl rfl)); replace HB := o_ (hb); replace HI0 := o_ (hi); (try clear hb hk hi); have p51 : 0 ≤ (t580 : Int) := of_decide_eq_true as_; have q51 : (t580 : Int) < ((t575.length : Int) : Int) := of_decide_eq_true as_; obtain ⟨go51, co51, eo51, gb51, gl51, cl51, HG51⟩ := Kd.R_form HO577.1 (by omega); (first | cases eo51 | (injection eo51 with ea_ en_ ec_; (first | subst ea_ | (injection ea_ with ea_; subst ea_)); subst ec_; clear en_)); have GB51 := o_ gb51; have GG51 := o_ HG51; clear gb51 gl51 HG51; obtain ⟨ce51, hcl51, hM51, hcc51, hfr51⟩ := Kd.R_elem HO577.1 z44 (t580 : Int) p51 q51; obtain rfl := k44_openM hM51; have hx51_0 : w59.cell? ⟨go51, (t580 : Int).toNat * 8, none⟩ = some (.int .i64 ((rd_T44 t575 t580).f0.f0)) := hcc51 0 _ rfl; have hx51_1 : w59.cell? ⟨go51, (t580 : Int).toNat * 8 + 1, none⟩ = some (.int .i64 ((rd_T44 t575 t580).f0.f1)) := hcc51 1 _ rfl; have hx51_2 : w59.cell? ⟨go51, (t580 : Int).toNat * 8 + 2, none⟩ = some (.int .i64 ((rd_T44 t575 t580).f0.f2)) := hcc51 2 _ rfl; have hx51_3 : w59.cell? ⟨go51, (t580 : Int).toNat * 8 + 3, none⟩ = some (.int .i64 ((rd_T44 t575 t580).f0.f3)) := hcc51 3 _ rfl; have hx51_4 : w59.cell? ⟨go51, (t580 : Int).toNat * 8 + 4, none⟩ = some (.int .i64 ((rd_T44 t575 t580).f0.f4)) := hcc51 4 _ rfl; have hx51_5 : w59.cell? ⟨go51, (t580 : Int).toNat * 8 + 5, none⟩ = some (.int .i64 ((rd_T44 t575 t580).f1)) := hcc51 5 _ rfl; have hx51_6 : w59.cell? ⟨go51, (t580 : Int).toNat * 8 + 6, none⟩ = some (.int .i64 ((rd_T44 t575 t580).f2)) := hcc51 6 _ rfl; have hx51_7 : w59.cell? ⟨go51, (t580 : Int).toNat * 8 + 7, none⟩ = some (.int .i64 ((rd_T44 t575 t580).f3)) := hcc51 7 _ rfl; have hf51_0 : w59.frozen? ⟨go51, (t580 : Int).toNat * 8, none⟩ = false := hfr51 0; have hf51_1 : w59.frozen? ⟨go51, (t580 : Int).toNat * 8 + 1, none⟩ = false := hfr51 1; have hf51_2 : w59.frozen? ⟨go51, (t580 : Int).toNat * 8 + 2, none⟩ = false := hfr51 2; have hf51_3 : w59.frozen? ⟨go51, (t580 : Int).toNat * 8 + 3, none⟩ = false := hfr51 3; have hf51_4 : w59.frozen? ⟨go51, (t580 : Int).toNat * 8 + 4, none⟩ = false := hfr51 4; have hf51_5 : w59.frozen? ⟨go51, (t580 : Int).toNat * 8 + 5, none⟩ = false := hfr51 5; have hf51_6 : w59.frozen? ⟨go51, (t580 : Int).toNat * 8 + 6, none⟩ = false := hfr51 6; have hf51_7 : w59.frozen? ⟨go51, (t580 : Int).toNat * 8 + 7, none⟩ = false := hfr51 7; clear hcl51 hcc51 hfr51 hM51; replace p51 := eq_true p51; replace q51 := eq_true q51; have HX60 := o_ (show Kd.R k44 44 w59 w.heap.size (fun _ => True) (.slice (some ⟨go51, 0, none⟩) t575.length co53) t575 from (rd_ HO577.1)); obtain ⟨ce60, hcl60, hM60, hcc60, hfr60⟩ := Kd.R_elem HX60.1 z44 (t580 : Int) (of_decide_eq_true as_) (by have h_ : (t580 : Int) < ((t575.length : Int) : Int) := of_decide_eq_true as_; first | exact h_ | (have e_ := (Kd.R_reads' HO577.1).1; omega) | simpa using h_); obtain rfl := k44_openM hM60; have HP60 := Kd.R_seg HX60.1 (t580 : Int) (of_decide_eq_true as_) (by have h_ : (t580 : Int) < ((t575.length : Int) : Int) := of_decide_eq_true as_; first | exact h_ | (have e_ := (Kd.R_reads' HO577.1).1; omega) | simpa using h_) (seg := [.int .i64 t608]) (j := 7) hcl60 hcc60 (show 8 ≤ 8 from by decide) (x' := (⟨(⟨(rd_T44 t575 t580).f0.f0, (rd_T44 t575 t580).f0.f1, (rd_T44 t575 t580).f0.f2, (rd_T44 t575 t580).f0.f3, (rd_T44 t575 t580).f0.f4⟩ : S42), (rd_T44 t575 t580).f1, (rd_T44 t575 t580).f2, t608⟩ : S44)) (k44_mkM _ _ _ (⟨(⟨(rd_T44 t575 t580).f0.f0, (rd_T44 t575 t580).f0.f1, (rd_T44 t575 t580).f0.f2, (rd_T44 t575 t580).f0.f3, (rd_T44 t575 t580).f0.f4⟩ : S42), (rd_T44 t575 t580).f1, (rd_T44 t575 t580).f2, t608⟩ : S44) ) (fun _ hk => hk); have hx60_7 := hcc60 7 _ rfl; (try simp only [show (k44).sz = 8 from rfl, Nat.mul_one, Nat.add_zero] at hx60_7); have hf60_7 := hfr60 7; (try simp only [show (k44).sz = 8 from rfl, Nat.mul_one, Nat.add_zero] at hf60_7); clear hcl60 hcc60 hfr60 hM60) | ((with_reducible refine gate_store (t := 3) (p := 50) rfl ?_); refine store_event (t := 3) (p := 50) (v := ?vo_w61) (w1 := (w59.setCell ⟨go51, (t580 : Int).toNat * 8 + 7, none⟩ (.int .i64 t608))) ?hg ?ho ?hn ?hr ?_; (case ho => rfl); (case hg => rfl); (case hn => rfl); (case hr => first | (go_simp; done) | (go_simp; rfl)); intro w61 hw; have hg : w59.grownBy w61 (some go51) := (by rw [hw]; exact HP60.2); have hp_ : Kd.R k44 44 w61 w.heap.size (fun _ => True) (.slice (some ⟨go51, 0, none⟩) t575.length co53) y611 := (by rw [hw, Ny611.1]; exact HP60.1); clear HP60; replace HI0 := o_ (IsS103.grown wI_ hg (IsS103.own_ne HI0.1 HO577.1 (by decide))); replace HO607 := o_ (Kd.R_over' (v := (.slice (some ⟨go51, 0, none⟩) t575.length co53)) (rd_ HO607.1) (Kd.R_typed HO577.1) (by decide) hg); replace HB := o_ ((by rw [hw]; exact below_set (HB.1) (Nat.le_trans HL.1 GB51.1) : Below w0.heap.size w0 w61)); replace HK := o_ (KeepBut.trans wK_ (KeepBut.of_grown hg g) (Kd.R_base2 HO577.1)); replace HO577 := o_ (hp_); clear hg hw hp_))
        go_ret
        exact ⟨_, by first | rfl | (simp [errW_none, errW_some] <;> rfl) | (simp [*, errW_none, errW_some] <;> rfl), rd_ HO577.1, wI_, wB_, wK_⟩
       ·
        rw [if_neg c50] at H
        exact absurd H (by simp)
      ·
       rw [if_neg c49] at H
       exact absurd H (by simp)
     ·
      rw [if_neg c47] at H
      have c47b0 := beq_eq_false_iff_ne.mpr c47
      have c47b1 := bne_iff_ne.mpr c47
      simp only [Option.some.injEq, Prod.mk.injEq] at H
      obtain ⟨rfl, rfl, rfl⟩ := H
      go_enter Tryd.func101, Tryd.ntmps101
      go_wp2_with (first | (refine gl_ (some 6) Tryd.func109 #[.pointer (some ⟨g, 0, none⟩)] ?_; (with_reducible refine (spec_l6List.calls k g s0_0 s0_1 s0_2 t575 t578 t579 w0 _ ?side1 ?side2 A2.1).mono ?_); (case side1 => exact wI_); (case side2 => exact wB_); rintro e w62 ⟨v576, rfl, ho0, hi, hb, hk⟩; refine ⟨_, rfl, ?_⟩; have HO577 := o_ (Kd.R_lower ho0 (keep_size (w := w) (g := g) (row := none) wK_)); replace HK := o_ (KeepBut.trans wK_ hk (.inl rfl)); replace HB := o_ (hb); replace HI0 := o_ (hi); (try clear hb hk hi ho0); obtain ⟨Ao63, co63, eo63⟩ := Kd.R_slice HO577.1; subst eo63) | (refine gl_ (some 14) Tryd.func58 #[.pointer (some ⟨g, 0, none⟩), .int .i64 (t575.length : Int)] ?_; (with_reducible refine (spec_l1Below.calls g s0_0 t578 t579 (t575.length : Int) t580 t581 t582 w0 _ ?side1 ?side2 A6.1).mono ?_); (case side1 => exact wI_); (case side2 => exact wB_); rintro e w64 ⟨rfl, hi, hb, hk⟩; refine ⟨_, rfl, ?_⟩; replace HO577 := o_ (Kd.R_mono (Kd.R_keep (IsS103.apart (show IsS103 w0 _ g s0_0 t578 t579 from wI_) (rd_ HO577.1) (by decide)) hk (fun _ h => h.2)) (fun _ h => h.1)); replace HK := o_ (KeepBut.trans wK_ hk (.inl rfl)); replace HB := o_ (hb); replace HI0 := o_ (hi); (try clear hb hk hi)) | (refine gl_ (some 16) Tryd.func58 #[.pointer (some ⟨g, 0, none⟩), .int .i64 12] ?_; (with_reducible refine (spec_l1Below.calls g s0_0 t581 t582 12 t583 t584 t585 w0 _ ?side1 ?side2 A7.1).mono ?_); (case side1 => exact wI_); (case side2 => exact wB_); rintro e w65 ⟨rfl, hi, hb, hk⟩; refine ⟨_, rfl, ?_⟩; replace HO577 := o_ (Kd.R_mono (Kd.R_keep (IsS103.apart (show IsS103 w0 _ g s0_0 t581 t582 from wI_) (rd_ HO577.1) (by decide)) hk (fun _ h => h.2)) (fun _ h => h.1)); replace HK := o_ (KeepBut.trans wK_ hk (.inl rfl)); replace HB := o_ (hb); replace HI0 := o_ (hi); (try clear hb hk hi)))
      go_ret
      exact ⟨_, by first | rfl | (simp [errW_none, errW_some] <;> rfl) | (simp [*, errW_none, errW_some] <;> rfl), rd_ HO577.1, wI_, wB_, wK_⟩

/-! ### spec_l6One: function 87 -/
def spec_l6One.f (k : Nat) (s0_0 : List Int) (s0_1 : Int) (s0_2 : Int) : Option (Int × Int × Int × Int × Int × Int × Int × Int × Int × Int) := (spec_l6Any.f k s0_0 s0_1 s0_2).bind fun bt613 => (if (bt613.1.length : Int) = 0 then (some (0, 0, 0, 0, 0, 0, 0, 0, bt613.2.1, bt613.2.2)) else (if 0 < (bt613.1.length : Int) then (some ((rd_T44 bt613.1 0).f0.f0, (rd_T44 bt613.1 0).f0.f1, (rd_T44 bt613.1 0).f0.f2, (rd_T44 bt613.1 0).f0.f3, (rd_T44 bt613.1 0).f0.f4, (rd_T44 bt613.1 0).f1, (rd_T44 bt613.1 0).f2, (rd_T44 bt613.1 0).f3, bt613.2.1, bt613.2.2)) else (none)))
theorem spec_l6One.mono : ∀ a0 a1 a2 k, LeO (spec_l6One.f k a0 a1 a2) (spec_l6One.f (k + 1) a0 a1 a2) := by
  intro a0 a1 a2 k
  unfold spec_l6One.f
  have jh0 := @spec_l6Any.mono
  exact mo_
theorem e240_ {w : World} {g : Nat} {t : TypeId} {i0 : Int} {i1 : Int} {i2 : Int} {i3 : Int} {i4 : Int} {i5 : Int} {i6 : Int} {i7 : Int} (h : w.heap[g]? = some (.cells #[.int .i64 i0, .int .i64 i1, .int .i64 i2, .int .i64 i3, .int .i64 i4, .int .i64 i5, .int .i64 i6, .int .i64 i7] t (0, 0))) : w.cell? ⟨g, 0, none⟩ = some (.int .i64 i0) ∧ w.cell? ⟨g, 1, none⟩ = some (.int .i64 i1) ∧ w.cell? ⟨g, 2, none⟩ = some (.int .i64 i2) ∧ w.cell? ⟨g, 3, none⟩ = some (.int .i64 i3) ∧ w.cell? ⟨g, 4, none⟩ = some (.int .i64 i4) ∧ w.cell? ⟨g, 5, none⟩ = some (.int .i64 i5) ∧ w.cell? ⟨g, 6, none⟩ = some (.int .i64 i6) ∧ w.cell? ⟨g, 7, none⟩ = some (.int .i64 i7) := ⟨(blk_cell h 0).trans rfl, (blk_cell h 1).trans rfl, (blk_cell h 2).trans rfl, (blk_cell h 3).trans rfl, (blk_cell h 4).trans rfl, (blk_cell h 5).trans rfl, (blk_cell h 6).trans rfl, (blk_cell h 7).trans rfl⟩
theorem z241_ {w : World} {g : Nat} {t : TypeId} {cs : Array Value} (h : w.heap[g]? = some (.cells cs t (0, 0))) : w.frozen? ⟨g, 0, none⟩ = false ∧ w.frozen? ⟨g, 1, none⟩ = false ∧ w.frozen? ⟨g, 2, none⟩ = false ∧ w.frozen? ⟨g, 3, none⟩ = false ∧ w.frozen? ⟨g, 4, none⟩ = false ∧ w.frozen? ⟨g, 5, none⟩ = false ∧ w.frozen? ⟨g, 6, none⟩ = false ∧ w.frozen? ⟨g, 7, none⟩ = false := ⟨blk_frozen h 0, blk_frozen h 1, blk_frozen h 2, blk_frozen h 3, blk_frozen h 4, blk_frozen h 5, blk_frozen h 6, blk_frozen h 7⟩
theorem y245_ {P : Prop} (h : P := by rw [hg]; exact Nat.ne_of_lt (IsS103.lt (show IsS103 w0 _ g s0_0 s0_1 s0_2 from wI_))) : P := h
theorem y246_ {P : Prop} (h : P := by rw [hg]; exact Nat.ne_of_gt (IsS103.lt (show IsS103 w0 _ g s0_0 s0_1 s0_2 from wI_))) : P := h
set_option maxHeartbeats 8000000 in
set_option maxRecDepth 100000 in
theorem spec_l6One.calls (k : Nat) (g : Nat) (s0_0 : List Int) (s0_1 : Int) (s0_2 : Int) (r1 : Int) (r2 : Int) (r3 : Int) (r4 : Int) (r5 : Int) (r6 : Int) (r7 : Int) (r8 : Int) (r9 : Int) (r10 : Int) (w0 w : World) (hI : IsS103 w0 w g s0_0 s0_1 s0_2) (hB : Below w0.heap.size w0 w) (h : spec_l6One.f k s0_0 s0_1 s0_2 = some (r1, r2, r3, r4, r5, r6, r7, r8, r9, r10)) :
    Calls Tryd.prog 87 #[.pointer (some ⟨g, 0, none⟩)] w fun e w' => e = .returned (.agg #[.int .i64 r1, .int .i64 r2, .int .i64 r3, .int .i64 r4, .int .i64 r5, .int .i64 r6, .int .i64 r7, .int .i64 r8]) ∧ IsS103 w0 w' g s0_0 r9 r10 ∧ Below w0.heap.size w0 w' ∧ KeepBut w w' g none := by
  have hu44 := Tryd.underlying44
  have HI0 := o_ hI
  have HK := o_ (KeepBut.refl w g none)
  have HL := o_ hB.size
  clear hI
  have HW0 := o_ hB.size
  have HB := o_ hB
  clear hB
  have H : ((spec_l6Any.f k s0_0 s0_1 s0_2).bind fun bt613 => (if (bt613.1.length : Int) = 0 then (some (0, 0, 0, 0, 0, 0, 0, 0, bt613.2.1, bt613.2.2)) else (if 0 < (bt613.1.length : Int) then (some ((rd_T44 bt613.1 0).f0.f0, (rd_T44 bt613.1 0).f0.f1, (rd_T44 bt613.1 0).f0.f2, (rd_T44 bt613.1 0).f0.f3, (rd_T44 bt613.1 0).f0.f4, (rd_T44 bt613.1 0).f1, (rd_T44 bt613.1 0).f2, (rd_T44 bt613.1 0).f3, bt613.2.1, bt613.2.2)) else (none)))) = some (r1, r2, r3, r4, r5, r6, r7, r8, r9, r10) := h
  clear h
  replace H := Option.bind_eq_some_iff.mp H
  obtain ⟨⟨t613, t616, t617⟩, A20, H⟩ := H
  try dsimp only at H
  have A2 := o_ A20
  clear A20
  by_cases c3 : (t613.length : Int) = 0
  · rw [if_pos c3] at H
    have c3b0 := beq_iff_eq.mpr c3
    have c3b1 := bne_eq_false_iff_eq.mpr c3
    clear c3
    simp only [Option.some.injEq, Prod.mk.injEq] at H
    obtain ⟨rfl, rfl, rfl, rfl, rfl, rfl, rfl, rfl, rfl, rfl⟩ := H
    go_enter Tryd.func87, Tryd.ntmps87
    go_wp2_with (first | ((with_reducible refine gate_dst (N := 2) rfl ?_); refine bx_ 2 #[.int .i64 0, .int .i64 0, .int .i64 0, .int .i64 0, .int .i64 0, .int .i64 0, .int .i64 0, .int .i64 0] 44 ?_; intro gb612 hg w4 hbox hb; replace HB := o_ (below_step wB_ hb); have BK612 := o_ (hbox); have GW612 := o_ ((by rw [hg]; exact (keep_size (w := w) (g := g) (row := none) wK_) : w.heap.size ≤ gb612)); have GE612 := o_ ((Nat.le_trans HW0.1 (by rw [hg]; exact (keep_size (w := w) (g := g) (row := none) wK_) : w.heap.size ≤ gb612) : w0.heap.size ≤ gb612)); replace HK := o_ (KeepBut.trans wK_ (KeepBut.of_below hb g none) (.inl rfl)); have NB0_612 := o_ ((y245_ : g ≠ gb612)); have NB612_0 := o_ ((y246_ : gb612 ≠ g)); replace HI0 := o_ (IsS103.below wI_ hb); clear hb hbox hg) | (refine gl_ (some 5) Tryd.func101 #[.pointer (some ⟨g, 0, none⟩)] ?_; (with_reducible refine (spec_l6Any.calls k g s0_0 s0_1 s0_2 t613 t616 t617 w0 _ ?side1 ?side2 A2.1).mono ?_); (case side1 => exact wI_); (case side2 => exact wB_); rintro e w5 ⟨v614, rfl, ho0, hi, hb, hk⟩; refine ⟨_, rfl, ?_⟩; have HO615 := o_ (Kd.R_lower (Kd.R_newB ho0 (g := gb612) (o := .cells #[.int .i64 0, .int .i64 0, .int .i64 0, .int .i64 0, .int .i64 0, .int .i64 0, .int .i64 0, .int .i64 0] 44 (0, 0)) (bd_ BK612.1)) (keep_size (w := w) (g := g) (row := none) wK_)); replace BK612 := o_ (KeepBut.blk hk (g' := gb612) (o := .cells #[.int .i64 0, .int .i64 0, .int .i64 0, .int .i64 0, .int .i64 0, .int .i64 0, .int .i64 0, .int .i64 0] 44 (0, 0)) (bd_ BK612.1) NB612_0.1 (by simp)); replace HK := o_ (KeepBut.trans wK_ hk (.inl rfl)); replace HB := o_ (hb); replace HI0 := o_ (hi); (try clear hb hk hi ho0); obtain ⟨Ao6, co6, eo6⟩ := Kd.R_slice HO615.1; subst eo6; have hnb7 := NB612_0.1; have hnc7 := NB0_612.1; obtain ⟨hcz8_0, hcz8_1, hcz8_2, hcz8_3, hcz8_4, hcz8_5, hcz8_6, hcz8_7⟩ := e240_ BK612.1; obtain ⟨hfz8_0, hfz8_1, hfz8_2, hfz8_3, hfz8_4, hfz8_5, hfz8_6, hfz8_7⟩ := z241_ BK612.1))
    refine bodyPost_ret (results_cell_row rfl _ _ gb612 44 #[.int .i64 0, .int .i64 0, .int .i64 0, .int .i64 0, .int .i64 0, .int .i64 0, .int .i64 0, .int .i64 0] (0, 0) _ rfl (bk_ BK612.1) Tryd.underlying44 rfl (by kernel_rfl)) rfl ?_
    exact ⟨rt_, wI_, wB_, wK_⟩
  · rw [if_neg c3] at H
    have c3b0 := beq_eq_false_iff_ne.mpr c3
    have c3b1 := bne_iff_ne.mpr c3
    have c3b2 : ¬ (t613 = []) := fun h_ => c3 (by rw [h_]; rfl)
    by_cases c9 : 0 < (t613.length : Int)
    · rw [if_pos c9] at H
      have c9b0 := decide_eq_true c9
      have c9b1 : decide (0 < t613.length) = true := decide_eq_true (by omega)
      clear c9
      simp only [Option.some.injEq, Prod.mk.injEq] at H
      obtain ⟨rfl, rfl, rfl, rfl, rfl, rfl, rfl, rfl, rfl, rfl⟩ := H
      go_enter Tryd.func87, Tryd.ntmps87
      go_wp2_with (first | ((with_reducible refine gate_dst (N := 2) rfl ?_); refine bx_ 2 #[.int .i64 0, .int .i64 0, .int .i64 0, .int .i64 0, .int .i64 0, .int .i64 0, .int .i64 0, .int .i64 0] 44 ?_; intro gb612 hg w10 hbox hb; replace HB := o_ (below_step wB_ hb); have BK612 := o_ (hbox); have GW612 := o_ ((by rw [hg]; exact (keep_size (w := w) (g := g) (row := none) wK_) : w.heap.size ≤ gb612)); have GE612 := o_ ((Nat.le_trans HW0.1 (by rw [hg]; exact (keep_size (w := w) (g := g) (row := none) wK_) : w.heap.size ≤ gb612) : w0.heap.size ≤ gb612)); replace HK := o_ (KeepBut.trans wK_ (KeepBut.of_below hb g none) (.inl rfl)); have NB0_612 := o_ ((y245_ : g ≠ gb612)); have NB612_0 := o_ ((y246_ : gb612 ≠ g)); replace HI0 := o_ (IsS103.below wI_ hb); clear hb hbox hg) | (refine gl_ (some 5) Tryd.func101 #[.pointer (some ⟨g, 0, none⟩)] ?_; (with_reducible refine (spec_l6Any.calls k g s0_0 s0_1 s0_2 t613 t616 t617 w0 _ ?side1 ?side2 A2.1).mono ?_); (case side1 => exact wI_); (case side2 => exact wB_); rintro e w11 ⟨v614, rfl, ho0, hi, hb, hk⟩; refine ⟨_, rfl, ?_⟩; have HO615 := o_ (Kd.R_lower (Kd.R_newB ho0 (g := gb612) (o := .cells #[.int .i64 0, .int .i64 0, .int .i64 0, .int .i64 0, .int .i64 0, .int .i64 0, .int .i64 0, .int .i64 0] 44 (0, 0)) (bd_ BK612.1)) (keep_size (w := w) (g := g) (row := none) wK_)); replace BK612 := o_ (KeepBut.blk hk (g' := gb612) (o := .cells #[.int .i64 0, .int .i64 0, .int .i64 0, .int .i64 0, .int .i64 0, .int .i64 0, .int .i64 0, .int .i64 0] 44 (0, 0)) (bd_ BK612.1) NB612_0.1 (by simp)); replace HK := o_ (KeepBut.trans wK_ hk (.inl rfl)); replace HB := o_ (hb); replace HI0 := o_ (hi); (try clear hb hk hi ho0); obtain ⟨Ao12, co12, eo12⟩ := Kd.R_slice HO615.1; subst eo12; have p618 : 0 ≤ (0 : Int) := (by omega); have q618 : 0 < (t613.length : Int) := of_decide_eq_true as_; obtain ⟨ad618, e618, hx618_0, hx618_1, hx618_2, hx618_3, hx618_4, hx618_5, hx618_6, hx618_7⟩ := at_T44 (Kd.R_reads' HO615.1).2.2 0 p618 q618; cases e618; have qi618 : (0 < t613.length) = True := eq_true (by omega); (try rw [show ((0 : Int)).toNat = 0 from rfl] at hx618_0); (try rw [show 0 * 8 = 0 from rfl] at hx618_0); (try rw [Addr.add_zero'] at hx618_0); (try rw [show ((0 : Int)).toNat = 0 from rfl] at hx618_1); (try rw [show 0 * 8 = 0 from rfl] at hx618_1); (try rw [Addr.add_zero'] at hx618_1); (try rw [show ((0 : Int)).toNat = 0 from rfl] at hx618_2); (try rw [show 0 * 8 = 0 from rfl] at hx618_2); (try rw [Addr.add_zero'] at hx618_2); (try rw [show ((0 : Int)).toNat = 0 from rfl] at hx618_3); (try rw [show 0 * 8 = 0 from rfl] at hx618_3); (try rw [Addr.add_zero'] at hx618_3); (try rw [show ((0 : Int)).toNat = 0 from rfl] at hx618_4); (try rw [show 0 * 8 = 0 from rfl] at hx618_4); (try rw [Addr.add_zero'] at hx618_4); (try rw [show ((0 : Int)).toNat = 0 from rfl] at hx618_5); (try rw [show 0 * 8 = 0 from rfl] at hx618_5); (try rw [Addr.add_zero'] at hx618_5); (try rw [show ((0 : Int)).toNat = 0 from rfl] at hx618_6); (try rw [show 0 * 8 = 0 from rfl] at hx618_6); (try rw [Addr.add_zero'] at hx618_6); (try rw [show ((0 : Int)).toNat = 0 from rfl] at hx618_7); (try rw [show 0 * 8 = 0 from rfl] at hx618_7); (try rw [Addr.add_zero'] at hx618_7); replace p618 := eq_true p618; replace q618 := eq_true q618; have hnb13 := NB612_0.1; have hnc13 := NB0_612.1; obtain ⟨hcz14_0, hcz14_1, hcz14_2, hcz14_3, hcz14_4, hcz14_5, hcz14_6, hcz14_7⟩ := e240_ BK612.1; obtain ⟨hfz14_0, hfz14_1, hfz14_2, hfz14_3, hfz14_4, hfz14_5, hfz14_6, hfz14_7⟩ := z241_ BK612.1))
      refine bodyPost_ret (results_cell_row rfl _ _ gb612 44 #[.int .i64 ((rd_T44 t613 0).f0.f0), .int .i64 ((rd_T44 t613 0).f0.f1), .int .i64 ((rd_T44 t613 0).f0.f2), .int .i64 ((rd_T44 t613 0).f0.f3), .int .i64 ((rd_T44 t613 0).f0.f4), .int .i64 ((rd_T44 t613 0).f1), .int .i64 ((rd_T44 t613 0).f2), .int .i64 ((rd_T44 t613 0).f3)] (0, 0) _ rfl (bk_ BK612.1) Tryd.underlying44 rfl (by kernel_rfl)) rfl ?_
      exact ⟨rt_, wI_, wB_, wK_⟩
    · rw [if_neg c9] at H
      exact absurd H (by simp)

/-! ### spec_DrawIsFind: function 59 -/
def spec_DrawIsFind.f (k : Nat) (l0 : List Int) : Option (Int × Int × Int × Int × Int × Int × Int × Int) := (spec_l1New.f k l0).bind fun bt620 => ((spec_l6One.f k bt620.1 bt620.2.1 bt620.2.2).bind fun bt624 => (some (bt624.1, bt624.2.1, bt624.2.2.1, bt624.2.2.2.1, bt624.2.2.2.2.1, bt624.2.2.2.2.2.1, bt624.2.2.2.2.2.2.1, bt624.2.2.2.2.2.2.2.1)))
theorem spec_DrawIsFind.mono : ∀ a0 k, LeO (spec_DrawIsFind.f k a0) (spec_DrawIsFind.f (k + 1) a0) := by
  intro a0 k
  unfold spec_DrawIsFind.f
  have jh0 := @spec_l1New.mono
  have jh1 := @spec_l6One.mono
  exact mo_
theorem e249_ {w : World} {g : Nat} {t : TypeId} {i0 : Int} {i1 : Int} {i2 : Int} {i3 : Int} {i4 : Int} {i5 : Int} {i6 : Int} {i7 : Int} (h : w.heap[g]? = some (.cells #[.int .i64 i0, .int .i64 i1, .int .i64 i2, .int .i64 i3, .int .i64 i4, .int .i64 i5, .int .i64 i6, .int .i64 i7] t (0, 0))) : w.cell? ⟨g, 0, none⟩ = some (.int .i64 i0) ∧ w.cell? ⟨g, 1, none⟩ = some (.int .i64 i1) ∧ w.cell? ⟨g, 2, none⟩ = some (.int .i64 i2) ∧ w.cell? ⟨g, 3, none⟩ = some (.int .i64 i3) ∧ w.cell? ⟨g, 4, none⟩ = some (.int .i64 i4) ∧ w.cell? ⟨g, 5, none⟩ = some (.int .i64 i5) ∧ w.cell? ⟨g, 6, none⟩ = some (.int .i64 i6) ∧ w.cell? ⟨g, 7, none⟩ = some (.int .i64 i7) := ⟨(blk_cell h 0).trans rfl, (blk_cell h 1).trans rfl, (blk_cell h 2).trans rfl, (blk_cell h 3).trans rfl, (blk_cell h 4).trans rfl, (blk_cell h 5).trans rfl, (blk_cell h 6).trans rfl, (blk_cell h 7).trans rfl⟩
theorem z250_ {w : World} {g : Nat} {t : TypeId} {cs : Array Value} (h : w.heap[g]? = some (.cells cs t (0, 0))) : w.frozen? ⟨g, 0, none⟩ = false ∧ w.frozen? ⟨g, 1, none⟩ = false ∧ w.frozen? ⟨g, 2, none⟩ = false ∧ w.frozen? ⟨g, 3, none⟩ = false ∧ w.frozen? ⟨g, 4, none⟩ = false ∧ w.frozen? ⟨g, 5, none⟩ = false ∧ w.frozen? ⟨g, 6, none⟩ = false ∧ w.frozen? ⟨g, 7, none⟩ = false := ⟨blk_frozen h 0, blk_frozen h 1, blk_frozen h 2, blk_frozen h 3, blk_frozen h 4, blk_frozen h 5, blk_frozen h 6, blk_frozen h 7⟩
set_option maxHeartbeats 8000000 in
set_option maxRecDepth 100000 in
theorem spec_DrawIsFind.calls (k : Nat) (A0 : Option Addr) (c0 : Nat) (l0 : List Int) (r1 : Int) (r2 : Int) (r3 : Int) (r4 : Int) (r5 : Int) (r6 : Int) (r7 : Int) (r8 : Int) (w : World) (hr0 : Kd.C (Kd.int .u8) w A0 l0.length l0) (hc0 : l0.length ≤ c0) (h : spec_DrawIsFind.f k l0 = some (r1, r2, r3, r4, r5, r6, r7, r8)) :
    Calls Tryd.prog 59 #[.slice A0 l0.length c0] w fun e w' => e = .returned (.agg #[.int .i64 r1, .int .i64 r2, .int .i64 r3, .int .i64 r4, .int .i64 r5, .int .i64 r6, .int .i64 r7, .int .i64 r8]) ∧ Below w.heap.size w w' := by
  have hu44 := Tryd.underlying44
  have HR0 := o_ hr0
  have HC0 := o_ hc0
  clear hr0 hc0
  have HB := o_ (Below.refl w.heap.size w)
  have H : ((spec_l1New.f k l0).bind fun bt620 => ((spec_l6One.f k bt620.1 bt620.2.1 bt620.2.2).bind fun bt624 => (some (bt624.1, bt624.2.1, bt624.2.2.1, bt624.2.2.2.1, bt624.2.2.2.2.1, bt624.2.2.2.2.2.1, bt624.2.2.2.2.2.2.1, bt624.2.2.2.2.2.2.2.1)))) = some (r1, r2, r3, r4, r5, r6, r7, r8) := h
  clear h
  replace H := Option.bind_eq_some_iff.mp H
  obtain ⟨⟨t620, t621, t622⟩, A20, H⟩ := H
  try dsimp only at H
  have A2 := o_ A20
  clear A20
  replace H := Option.bind_eq_some_iff.mp H
  obtain ⟨⟨t624, t625, t626, t627, t628, t629, t630, t631, t632, t633⟩, A30, H⟩ := H
  try dsimp only at H
  have A3 := o_ A30
  clear A30
  simp only [Option.some.injEq, Prod.mk.injEq] at H
  obtain ⟨rfl, rfl, rfl, rfl, rfl, rfl, rfl, rfl⟩ := H
  go_enter Tryd.func59, Tryd.ntmps59
  go_wp2_with (first | ((with_reducible refine gate_dst (N := 2) rfl ?_); refine bx_ 2 #[.int .i64 0, .int .i64 0, .int .i64 0, .int .i64 0, .int .i64 0, .int .i64 0, .int .i64 0, .int .i64 0] 44 ?_; intro gb619 hg w4 hbox hb; have BK619 := o_ (hbox); have GW619 := o_ ((by rw [hg]; exact (below_size (hd_ HB.1)) : w.heap.size ≤ gb619)); replace HB := o_ (below_step (hd_ HB.1) hb); have GE619 := GW619; clear hb hbox hg) | (refine gl_ (some 5) Tryd.func53 #[.slice A0 l0.length c0] ?_; (with_reducible refine (spec_l1New.calls k _ _ l0 t620 t621 t622 w _ ?side1 ?side2 ?side3 A2.1).mono ?_); (case side1 => exact wB_); (case side2 => exact HR0.1); (case side3 => exact HC0.1); rintro e w5 ⟨g623, rfl, hi, hb, hb2⟩; refine ⟨_, rfl, ?_⟩; replace HB := o_ (hb); replace HI623 := o_ (hi); have NB623_619 := o_ (IsS103.ne_blk hi (blk_below (bd_ BK619.1) hb2) (by decide)); have NB619_623 := o_ (Ne.symm (IsS103.ne_blk hi (blk_below (bd_ BK619.1) hb2) (by decide))); replace BK619 := o_ (blk_below (bd_ BK619.1) hb2); (try clear hb hb2 hi)) | (refine gl_ (some 7) Tryd.func87 #[.pointer (some ⟨g623, 0, none⟩)] ?_; (with_reducible refine (spec_l6One.calls k g623 t620 t621 t622 t624 t625 t626 t627 t628 t629 t630 t631 t632 t633 w _ ?side1 ?side2 A3.1).mono ?_); (case side1 => repeat (first | (with_reducible first | exact HI623.1 | apply IsS103.alloc | apply IsS103.drewN | apply IsS103.drew | refine IsS103.far ?_ NB623_619.1 _ | apply IsS103.set_1 | apply IsS103.set_2) | exact HI623.1)); (case side2 => repeat (first | (with_reducible first | exact HB.1 | apply below_alloc | apply pw_below_drewN | apply below_drew1 | refine below_set ?_ (IsS103.ge HI623.1) | refine below_set ?_ GE619.1) | exact HB.1)); rintro e w6 ⟨rfl, hi, hb, hk⟩; refine ⟨_, rfl, ?_⟩; replace BK619 := o_ (KeepBut.blk hk (g' := gb619) (o := .cells #[.int .i64 0, .int .i64 0, .int .i64 0, .int .i64 0, .int .i64 0, .int .i64 0, .int .i64 0, .int .i64 0] 44 (0, 0)) (bd_ BK619.1) NB619_623.1 (by simp)); replace HB := o_ (hb); replace HI623 := o_ (hi); (try clear hb hk hi); have hnb7 := NB619_623.1; have hnc7 := NB623_619.1; obtain ⟨hcz8_0, hcz8_1, hcz8_2, hcz8_3, hcz8_4, hcz8_5, hcz8_6, hcz8_7⟩ := e249_ BK619.1; obtain ⟨hfz8_0, hfz8_1, hfz8_2, hfz8_3, hfz8_4, hfz8_5, hfz8_6, hfz8_7⟩ := z250_ BK619.1))
  refine bodyPost_ret (results_cell_row rfl _ _ gb619 44 #[.int .i64 t624, .int .i64 t625, .int .i64 t626, .int .i64 t627, .int .i64 t628, .int .i64 t629, .int .i64 t630, .int .i64 t631] (0, 0) _ rfl (bk_ BK619.1) Tryd.underlying44 rfl (by kernel_rfl)) rfl ?_
  exact ⟨rt_, by repeat (first | (with_reducible first | exact HB.1 | apply below_alloc | apply pw_below_drewN | apply below_drew1 | refine below_set ?_ (IsS103.ge HI623.1) | refine below_set ?_ GE619.1) | exact HB.1)⟩

/-! ### spec_DrawFindText: function 22 -/
def spec_DrawFindText.f (k : Nat) (l0 : List Int) : Option (Int × Int × Int × Int × Int × Int × Int × Int) := (spec_DrawIsFind.f k l0).bind fun bt635 => (some (bt635.1, bt635.2.1, bt635.2.2.1, bt635.2.2.2.1, bt635.2.2.2.2.1, bt635.2.2.2.2.2.1, bt635.2.2.2.2.2.2.1, bt635.2.2.2.2.2.2.2))
theorem spec_DrawFindText.mono : ∀ a0 k, LeO (spec_DrawFindText.f k a0) (spec_DrawFindText.f (k + 1) a0) := by
  intro a0 k
  unfold spec_DrawFindText.f
  have jh0 := @spec_DrawIsFind.mono
  exact mo_
theorem e253_ {w : World} {g : Nat} {t : TypeId} {i0 : Int} {i1 : Int} {i2 : Int} {i3 : Int} {i4 : Int} {i5 : Int} {i6 : Int} {i7 : Int} (h : w.heap[g]? = some (.cells #[.int .i64 i0, .int .i64 i1, .int .i64 i2, .int .i64 i3, .int .i64 i4, .int .i64 i5, .int .i64 i6, .int .i64 i7] t (0, 0))) : w.cell? ⟨g, 0, none⟩ = some (.int .i64 i0) ∧ w.cell? ⟨g, 1, none⟩ = some (.int .i64 i1) ∧ w.cell? ⟨g, 2, none⟩ = some (.int .i64 i2) ∧ w.cell? ⟨g, 3, none⟩ = some (.int .i64 i3) ∧ w.cell? ⟨g, 4, none⟩ = some (.int .i64 i4) ∧ w.cell? ⟨g, 5, none⟩ = some (.int .i64 i5) ∧ w.cell? ⟨g, 6, none⟩ = some (.int .i64 i6) ∧ w.cell? ⟨g, 7, none⟩ = some (.int .i64 i7) := ⟨(blk_cell h 0).trans rfl, (blk_cell h 1).trans rfl, (blk_cell h 2).trans rfl, (blk_cell h 3).trans rfl, (blk_cell h 4).trans rfl, (blk_cell h 5).trans rfl, (blk_cell h 6).trans rfl, (blk_cell h 7).trans rfl⟩
theorem z254_ {w : World} {g : Nat} {t : TypeId} {cs : Array Value} (h : w.heap[g]? = some (.cells cs t (0, 0))) : w.frozen? ⟨g, 0, none⟩ = false ∧ w.frozen? ⟨g, 1, none⟩ = false ∧ w.frozen? ⟨g, 2, none⟩ = false ∧ w.frozen? ⟨g, 3, none⟩ = false ∧ w.frozen? ⟨g, 4, none⟩ = false ∧ w.frozen? ⟨g, 5, none⟩ = false ∧ w.frozen? ⟨g, 6, none⟩ = false ∧ w.frozen? ⟨g, 7, none⟩ = false := ⟨blk_frozen h 0, blk_frozen h 1, blk_frozen h 2, blk_frozen h 3, blk_frozen h 4, blk_frozen h 5, blk_frozen h 6, blk_frozen h 7⟩
set_option maxHeartbeats 8000000 in
set_option maxRecDepth 100000 in
theorem spec_DrawFindText.calls (k : Nat) (A0 : Option Addr) (c0 : Nat) (l0 : List Int) (r1 : Int) (r2 : Int) (r3 : Int) (r4 : Int) (r5 : Int) (r6 : Int) (r7 : Int) (r8 : Int) (w : World) (hr0 : Kd.C (Kd.int .u8) w A0 l0.length l0) (hc0 : l0.length ≤ c0) (h : spec_DrawFindText.f k l0 = some (r1, r2, r3, r4, r5, r6, r7, r8)) :
    Calls Tryd.prog 22 #[.slice A0 l0.length c0] w fun e w' => e = .returned (.agg #[.int .i64 r1, .int .i64 r2, .int .i64 r3, .int .i64 r4, .int .i64 r5, .int .i64 r6, .int .i64 r7, .int .i64 r8]) ∧ Below w.heap.size w w' := by
  have hu44 := Tryd.underlying44
  have HR0 := o_ hr0
  have HC0 := o_ hc0
  clear hr0 hc0
  have HB := o_ (Below.refl w.heap.size w)
  have H : ((spec_DrawIsFind.f k l0).bind fun bt635 => (some (bt635.1, bt635.2.1, bt635.2.2.1, bt635.2.2.2.1, bt635.2.2.2.2.1, bt635.2.2.2.2.2.1, bt635.2.2.2.2.2.2.1, bt635.2.2.2.2.2.2.2))) = some (r1, r2, r3, r4, r5, r6, r7, r8) := h
  clear h
  replace H := Option.bind_eq_some_iff.mp H
  obtain ⟨⟨t635, t636, t637, t638, t639, t640, t641, t642⟩, A20, H⟩ := H
  try dsimp only at H
  have A2 := o_ A20
  clear A20
  simp only [Option.some.injEq, Prod.mk.injEq] at H
  obtain ⟨rfl, rfl, rfl, rfl, rfl, rfl, rfl, rfl⟩ := H
  go_enter Tryd.func22, Tryd.ntmps22
  go_wp2_with (first | ((with_reducible refine gate_dst (N := 2) rfl ?_); refine bx_ 2 #[.int .i64 0, .int .i64 0, .int .i64 0, .int .i64 0, .int .i64 0, .int .i64 0, .int .i64 0, .int .i64 0] 44 ?_; intro gb634 hg w3 hbox hb; have BK634 := o_ (hbox); have GW634 := o_ ((by rw [hg]; exact (below_size (hd_ HB.1)) : w.heap.size ≤ gb634)); replace HB := o_ (below_step (hd_ HB.1) hb); have GE634 := GW634; clear hb hbox hg) | (refine gl_ (some 4) Tryd.func59 #[.slice A0 l0.length c0] ?_; (with_reducible refine (spec_DrawIsFind.calls k _ _ l0 t635 t636 t637 t638 t639 t640 t641 t642 _ ?side1 ?side2 A2.1).mono ?_); (case side1 => exact cd_ (Kd.C_below HR0.1 HB.1)); (case side2 => exact HC0.1); rintro e w4 ⟨rfl, hb⟩; refine ⟨_, rfl, ?_⟩; replace BK634 := o_ (blk_below (bd_ BK634.1) hb); replace HB := o_ (below_step wB_ hb); (try clear hb); obtain ⟨hcz5_0, hcz5_1, hcz5_2, hcz5_3, hcz5_4, hcz5_5, hcz5_6, hcz5_7⟩ := e253_ BK634.1; obtain ⟨hfz5_0, hfz5_1, hfz5_2, hfz5_3, hfz5_4, hfz5_5, hfz5_6, hfz5_7⟩ := z254_ BK634.1))
  refine bodyPost_ret (results_cell_row rfl _ _ gb634 44 #[.int .i64 t635, .int .i64 t636, .int .i64 t637, .int .i64 t638, .int .i64 t639, .int .i64 t640, .int .i64 t641, .int .i64 t642] (0, 0) _ rfl (bk_ BK634.1) Tryd.underlying44 rfl (by kernel_rfl)) rfl ?_
  exact ⟨rt_, wB_⟩

/-! ### impl_IsThing: function 60 -/
def impl_IsThing.f (a0_0 : Int) (a0_1 : Int) (a0_2 : Int) (a0_3 : Int) (a0_4 : Int) : Option (Bool) := (impl_InRange.f a0_0 1 999).bind fun t644 => (if t644 = true then ((impl_InRange.f a0_1 1 8).bind fun t645 => (if t645 = true then ((impl_InRange.f a0_2 0 7).bind fun t646 => (if t646 = true then ((impl_InRange.f a0_3 1 50).bind fun t647 => (if t647 = true then ((impl_InRange.f a0_4 0 10000000).bind fun t648 => (some t648)) else (some false))) else (some false))) else (some false))) else (some false))
theorem e256_ {w : World} {g : Nat} {t : TypeId} {i0 : Int} {i1 : Int} {i2 : Int} {i3 : Int} {i4 : Int} (h : w.heap[g]? = some (.cells #[.int .i64 i0, .int .i64 i1, .int .i64 i2, .int .i64 i3, .int .i64 i4] t (0, 0))) : w.cell? ⟨g, 0, none⟩ = some (.int .i64 i0) ∧ w.cell? ⟨g, 1, none⟩ = some (.int .i64 i1) ∧ w.cell? ⟨g, 2, none⟩ = some (.int .i64 i2) ∧ w.cell? ⟨g, 3, none⟩ = some (.int .i64 i3) ∧ w.cell? ⟨g, 4, none⟩ = some (.int .i64 i4) := ⟨(blk_cell h 0).trans rfl, (blk_cell h 1).trans rfl, (blk_cell h 2).trans rfl, (blk_cell h 3).trans rfl, (blk_cell h 4).trans rfl⟩
theorem z257_ {w : World} {g : Nat} {t : TypeId} {cs : Array Value} (h : w.heap[g]? = some (.cells cs t (0, 0))) : w.frozen? ⟨g, 0, none⟩ = false ∧ w.frozen? ⟨g, 1, none⟩ = false ∧ w.frozen? ⟨g, 2, none⟩ = false ∧ w.frozen? ⟨g, 3, none⟩ = false ∧ w.frozen? ⟨g, 4, none⟩ = false := ⟨blk_frozen h 0, blk_frozen h 1, blk_frozen h 2, blk_frozen h 3, blk_frozen h 4⟩
theorem y261_ {P : Prop} (h : P := by rw [hg]; exact (below_size (hd_ HB.1))) : P := h
set_option maxHeartbeats 8000000 in
set_option maxRecDepth 100000 in
theorem impl_IsThing.calls (a0_0 : Int) (a0_1 : Int) (a0_2 : Int) (a0_3 : Int) (a0_4 : Int) (r : Bool) (w : World) (h : impl_IsThing.f a0_0 a0_1 a0_2 a0_3 a0_4 = some r) :
    Calls Tryd.prog 60 #[.agg #[.int .i64 a0_0, .int .i64 a0_1, .int .i64 a0_2, .int .i64 a0_3, .int .i64 a0_4]] w fun e w' => e = .returned (.bool r) ∧ Below w.heap.size w w' := by
  have hu42 := Tryd.underlying42
  have HB := o_ (Below.refl w.heap.size w)
  have H : ((impl_InRange.f a0_0 1 999).bind fun t644 => (if t644 = true then ((impl_InRange.f a0_1 1 8).bind fun t645 => (if t645 = true then ((impl_InRange.f a0_2 0 7).bind fun t646 => (if t646 = true then ((impl_InRange.f a0_3 1 50).bind fun t647 => (if t647 = true then ((impl_InRange.f a0_4 0 10000000).bind fun t648 => (some t648)) else (some false))) else (some false))) else (some false))) else (some false))) = some r := h
  clear h
  replace H := Option.bind_eq_some_iff.mp H
  obtain ⟨t644, A20, H⟩ := H
  try dsimp only at H
  have A2 := o_ A20
  clear A20
  by_cases c3 : t644 = true
  · subst c3
    have H1 := H
    rw [if_pos rfl] at H1
    clear H
    have H := H1
    clear H1
    replace H := Option.bind_eq_some_iff.mp H
    obtain ⟨t645, A40, H⟩ := H
    try dsimp only at H
    have A4 := o_ A40
    clear A40
    by_cases c5 : t645 = true
    · subst c5
      have H1 := H
      rw [if_pos rfl] at H1
      clear H
      have H := H1
      clear H1
      replace H := Option.bind_eq_some_iff.mp H
      obtain ⟨t646, A60, H⟩ := H
      try dsimp only at H
      have A6 := o_ A60
      clear A60
      by_cases c7 : t646 = true
      · subst c7
        have H1 := H
        rw [if_pos rfl] at H1
        clear H
        have H := H1
        clear H1
        replace H := Option.bind_eq_some_iff.mp H
        obtain ⟨t647, A80, H⟩ := H
        try dsimp only at H
        have A8 := o_ A80
        clear A80
        by_cases c9 : t647 = true
        · subst c9
          have H1 := H
          rw [if_pos rfl] at H1
          clear H
          have H := H1
          clear H1
          replace H := Option.bind_eq_some_iff.mp H
          obtain ⟨t648, A100, H⟩ := H
          try dsimp only at H
          have A10 := o_ A100
          clear A100
          obtain rfl := Option.some.inj H
          go_enter Tryd.func60, Tryd.ntmps60
          go_wp2_with (first | ((with_reducible refine gate_dst (N := 1) rfl ?_); refine bx_ 1 #[.int .i64 a0_0, .int .i64 a0_1, .int .i64 a0_2, .int .i64 a0_3, .int .i64 a0_4] 42 ?_; intro gb643 hg w11 hbox hb; have BK643 := o_ (hbox); have GW643 := o_ ((y261_ : w.heap.size ≤ gb643)); replace HB := o_ (below_step (hd_ HB.1) hb); have GE643 := GW643; clear hb hbox hg; obtain ⟨hcz12_0, hcz12_1, hcz12_2, hcz12_3, hcz12_4⟩ := e256_ BK643.1; obtain ⟨hfz12_0, hfz12_1, hfz12_2, hfz12_3, hfz12_4⟩ := z257_ BK643.1) | (refine gl_ (some 5) Tryd.func49 #[.int .i64 a0_0, .int .i64 1, .int .i64 999] ?_; (with_reducible refine (impl_InRange.calls a0_0 1 999 true _ A2.1).mono ?_); rintro e w' ⟨rfl, ⟨nd, rfl⟩⟩; refine ⟨_, rfl, ?_⟩) | (go_at_call 49; (with_reducible refine (impl_InRange.calls a0_1 1 8 true _ A4.1).mono ?_); rintro e w' ⟨rfl, ⟨nd, rfl⟩⟩) | (go_at_call 49; (with_reducible refine (impl_InRange.calls a0_2 0 7 true _ A6.1).mono ?_); rintro e w' ⟨rfl, ⟨nd, rfl⟩⟩) | (go_at_call 49; (with_reducible refine (impl_InRange.calls a0_3 1 50 true _ A8.1).mono ?_); rintro e w' ⟨rfl, ⟨nd, rfl⟩⟩) | (go_at_call 49; (with_reducible refine (impl_InRange.calls a0_4 0 10000000 t648 _ A10.1).mono ?_); rintro e w' ⟨rfl, ⟨nd, rfl⟩⟩))
          go_ret
          exact ⟨rt_, wB_⟩
        · replace c9 := Bool.eq_false_iff.mpr c9
          subst c9
          have H1 := H
          rw [if_neg nt_] at H1
          clear H
          have H := H1
          clear H1
          obtain rfl := Option.some.inj H
          go_enter Tryd.func60, Tryd.ntmps60
          go_wp2_with (first | ((with_reducible refine gate_dst (N := 1) rfl ?_); refine bx_ 1 #[.int .i64 a0_0, .int .i64 a0_1, .int .i64 a0_2, .int .i64 a0_3, .int .i64 a0_4] 42 ?_; intro gb643 hg w13 hbox hb; have BK643 := o_ (hbox); have GW643 := o_ ((y261_ : w.heap.size ≤ gb643)); replace HB := o_ (below_step (hd_ HB.1) hb); have GE643 := GW643; clear hb hbox hg; obtain ⟨hcz14_0, hcz14_1, hcz14_2, hcz14_3, hcz14_4⟩ := e256_ BK643.1; obtain ⟨hfz14_0, hfz14_1, hfz14_2, hfz14_3, hfz14_4⟩ := z257_ BK643.1) | (refine gl_ (some 5) Tryd.func49 #[.int .i64 a0_0, .int .i64 1, .int .i64 999] ?_; (with_reducible refine (impl_InRange.calls a0_0 1 999 true _ A2.1).mono ?_); rintro e w' ⟨rfl, ⟨nd, rfl⟩⟩; refine ⟨_, rfl, ?_⟩) | (go_at_call 49; (with_reducible refine (impl_InRange.calls a0_1 1 8 true _ A4.1).mono ?_); rintro e w' ⟨rfl, ⟨nd, rfl⟩⟩) | (go_at_call 49; (with_reducible refine (impl_InRange.calls a0_2 0 7 true _ A6.1).mono ?_); rintro e w' ⟨rfl, ⟨nd, rfl⟩⟩) | (go_at_call 49; (with_reducible refine (impl_InRange.calls a0_3 1 50 false _ A8.1).mono ?_); rintro e w' ⟨rfl, ⟨nd, rfl⟩⟩))
          go_ret
          exact ⟨rt_, wB_⟩
      · replace c7 := Bool.eq_false_iff.mpr c7
        subst c7
        have H1 := H
        rw [if_neg nt_] at H1
        clear H
        have H := H1
        clear H1
        obtain rfl := Option.some.inj H
        go_enter Tryd.func60, Tryd.ntmps60
        go_wp2_with (first | ((with_reducible refine gate_dst (N := 1) rfl ?_); refine bx_ 1 #[.int .i64 a0_0, .int .i64 a0_1, .int .i64 a0_2, .int .i64 a0_3, .int .i64 a0_4] 42 ?_; intro gb643 hg w15 hbox hb; have BK643 := o_ (hbox); have GW643 := o_ ((y261_ : w.heap.size ≤ gb643)); replace HB := o_ (below_step (hd_ HB.1) hb); have GE643 := GW643; clear hb hbox hg; obtain ⟨hcz16_0, hcz16_1, hcz16_2, hcz16_3, hcz16_4⟩ := e256_ BK643.1; obtain ⟨hfz16_0, hfz16_1, hfz16_2, hfz16_3, hfz16_4⟩ := z257_ BK643.1) | (refine gl_ (some 5) Tryd.func49 #[.int .i64 a0_0, .int .i64 1, .int .i64 999] ?_; (with_reducible refine (impl_InRange.calls a0_0 1 999 true _ A2.1).mono ?_); rintro e w' ⟨rfl, ⟨nd, rfl⟩⟩; refine ⟨_, rfl, ?_⟩) | (go_at_call 49; (with_reducible refine (impl_InRange.calls a0_1 1 8 true _ A4.1).mono ?_); rintro e w' ⟨rfl, ⟨nd, rfl⟩⟩) | (go_at_call 49; (with_reducible refine (impl_InRange.calls a0_2 0 7 false _ A6.1).mono ?_); rintro e w' ⟨rfl, ⟨nd, rfl⟩⟩))
        go_ret
        exact ⟨rt_, wB_⟩
    · replace c5 := Bool.eq_false_iff.mpr c5
      subst c5
      have H1 := H
      rw [if_neg nt_] at H1
      clear H
      have H := H1
      clear H1
      obtain rfl := Option.some.inj H
      go_enter Tryd.func60, Tryd.ntmps60
      go_wp2_with (first | ((with_reducible refine gate_dst (N := 1) rfl ?_); refine bx_ 1 #[.int .i64 a0_0, .int .i64 a0_1, .int .i64 a0_2, .int .i64 a0_3, .int .i64 a0_4] 42 ?_; intro gb643 hg w17 hbox hb; have BK643 := o_ (hbox); have GW643 := o_ ((y261_ : w.heap.size ≤ gb643)); replace HB := o_ (below_step (hd_ HB.1) hb); have GE643 := GW643; clear hb hbox hg; obtain ⟨hcz18_0, hcz18_1, hcz18_2, hcz18_3, hcz18_4⟩ := e256_ BK643.1; obtain ⟨hfz18_0, hfz18_1, hfz18_2, hfz18_3, hfz18_4⟩ := z257_ BK643.1) | (refine gl_ (some 5) Tryd.func49 #[.int .i64 a0_0, .int .i64 1, .int .i64 999] ?_; (with_reducible refine (impl_InRange.calls a0_0 1 999 true _ A2.1).mono ?_); rintro e w' ⟨rfl, ⟨nd, rfl⟩⟩; refine ⟨_, rfl, ?_⟩) | (go_at_call 49; (with_reducible refine (impl_InRange.calls a0_1 1 8 false _ A4.1).mono ?_); rintro e w' ⟨rfl, ⟨nd, rfl⟩⟩))
      go_ret
      exact ⟨rt_, wB_⟩
  · replace c3 := Bool.eq_false_iff.mpr c3
    subst c3
    have H1 := H
    rw [if_neg nt_] at H1
    clear H
    have H := H1
    clear H1
    obtain rfl := Option.some.inj H
    go_enter Tryd.func60, Tryd.ntmps60
    go_wp2_with (first | ((with_reducible refine gate_dst (N := 1) rfl ?_); refine bx_ 1 #[.int .i64 a0_0, .int .i64 a0_1, .int .i64 a0_2, .int .i64 a0_3, .int .i64 a0_4] 42 ?_; intro gb643 hg w19 hbox hb; have BK643 := o_ (hbox); have GW643 := o_ ((y261_ : w.heap.size ≤ gb643)); replace HB := o_ (below_step (hd_ HB.1) hb); have GE643 := GW643; clear hb hbox hg; obtain ⟨hcz20_0, hcz20_1, hcz20_2, hcz20_3, hcz20_4⟩ := e256_ BK643.1; obtain ⟨hfz20_0, hfz20_1, hfz20_2, hfz20_3, hfz20_4⟩ := z257_ BK643.1) | (refine gl_ (some 5) Tryd.func49 #[.int .i64 a0_0, .int .i64 1, .int .i64 999] ?_; (with_reducible refine (impl_InRange.calls a0_0 1 999 false _ A2.1).mono ?_); rintro e w' ⟨rfl, ⟨nd, rfl⟩⟩; refine ⟨_, rfl, ?_⟩))
    go_ret
    exact ⟨rt_, wB_⟩

/-! ### impl_IsFind: function 25 -/
def impl_IsFind.f (a0_0 : Int) (a0_1 : Int) (a0_2 : Int) (a0_3 : Int) (a0_4 : Int) (a0_5 : Int) (a0_6 : Int) (a0_7 : Int) : Option (Bool) := (impl_IsThing.f a0_0 a0_1 a0_2 a0_3 a0_4).bind fun t650 => (if t650 = true then ((impl_InRange.f a0_5 1 30).bind fun t651 => (if t651 = true then ((impl_InRange.f a0_6 0 100000).bind fun t652 => (if t652 = true then ((impl_InRange.f a0_7 0 999).bind fun t653 => (some t653)) else (some false))) else (some false))) else (some false))
theorem e262_ {w : World} {g : Nat} {t : TypeId} {i0 : Int} {i1 : Int} {i2 : Int} {i3 : Int} {i4 : Int} {i5 : Int} {i6 : Int} {i7 : Int} (h : w.heap[g]? = some (.cells #[.int .i64 i0, .int .i64 i1, .int .i64 i2, .int .i64 i3, .int .i64 i4, .int .i64 i5, .int .i64 i6, .int .i64 i7] t (0, 0))) : w.cell? ⟨g, 0, none⟩ = some (.int .i64 i0) ∧ w.cell? ⟨g, 1, none⟩ = some (.int .i64 i1) ∧ w.cell? ⟨g, 2, none⟩ = some (.int .i64 i2) ∧ w.cell? ⟨g, 3, none⟩ = some (.int .i64 i3) ∧ w.cell? ⟨g, 4, none⟩ = some (.int .i64 i4) ∧ w.cell? ⟨g, 5, none⟩ = some (.int .i64 i5) ∧ w.cell? ⟨g, 6, none⟩ = some (.int .i64 i6) ∧ w.cell? ⟨g, 7, none⟩ = some (.int .i64 i7) := ⟨(blk_cell h 0).trans rfl, (blk_cell h 1).trans rfl, (blk_cell h 2).trans rfl, (blk_cell h 3).trans rfl, (blk_cell h 4).trans rfl, (blk_cell h 5).trans rfl, (blk_cell h 6).trans rfl, (blk_cell h 7).trans rfl⟩
theorem z263_ {w : World} {g : Nat} {t : TypeId} {cs : Array Value} (h : w.heap[g]? = some (.cells cs t (0, 0))) : w.frozen? ⟨g, 0, none⟩ = false ∧ w.frozen? ⟨g, 1, none⟩ = false ∧ w.frozen? ⟨g, 2, none⟩ = false ∧ w.frozen? ⟨g, 3, none⟩ = false ∧ w.frozen? ⟨g, 4, none⟩ = false ∧ w.frozen? ⟨g, 5, none⟩ = false ∧ w.frozen? ⟨g, 6, none⟩ = false ∧ w.frozen? ⟨g, 7, none⟩ = false := ⟨blk_frozen h 0, blk_frozen h 1, blk_frozen h 2, blk_frozen h 3, blk_frozen h 4, blk_frozen h 5, blk_frozen h 6, blk_frozen h 7⟩
set_option maxHeartbeats 8000000 in
set_option maxRecDepth 100000 in
theorem impl_IsFind.calls (a0_0 : Int) (a0_1 : Int) (a0_2 : Int) (a0_3 : Int) (a0_4 : Int) (a0_5 : Int) (a0_6 : Int) (a0_7 : Int) (r : Bool) (w : World) (h : impl_IsFind.f a0_0 a0_1 a0_2 a0_3 a0_4 a0_5 a0_6 a0_7 = some r) :
    Calls Tryd.prog 25 #[.agg #[.int .i64 a0_0, .int .i64 a0_1, .int .i64 a0_2, .int .i64 a0_3, .int .i64 a0_4, .int .i64 a0_5, .int .i64 a0_6, .int .i64 a0_7]] w fun e w' => e = .returned (.bool r) ∧ Below w.heap.size w w' := by
  have hu44 := Tryd.underlying44
  have hu42 := Tryd.underlying42
  have HB := o_ (Below.refl w.heap.size w)
  have H : ((impl_IsThing.f a0_0 a0_1 a0_2 a0_3 a0_4).bind fun t650 => (if t650 = true then ((impl_InRange.f a0_5 1 30).bind fun t651 => (if t651 = true then ((impl_InRange.f a0_6 0 100000).bind fun t652 => (if t652 = true then ((impl_InRange.f a0_7 0 999).bind fun t653 => (some t653)) else (some false))) else (some false))) else (some false))) = some r := h
  clear h
  replace H := Option.bind_eq_some_iff.mp H
  obtain ⟨t650, A20, H⟩ := H
  try dsimp only at H
  have A2 := o_ A20
  clear A20
  by_cases c3 : t650 = true
  · subst c3
    have H1 := H
    rw [if_pos rfl] at H1
    clear H
    have H := H1
    clear H1
    replace H := Option.bind_eq_some_iff.mp H
    obtain ⟨t651, A40, H⟩ := H
    try dsimp only at H
    have A4 := o_ A40
    clear A40
    by_cases c5 : t651 = true
    · subst c5
      have H1 := H
      rw [if_pos rfl] at H1
      clear H
      have H := H1
      clear H1
      replace H := Option.bind_eq_some_iff.mp H
      obtain ⟨t652, A60, H⟩ := H
      try dsimp only at H
      have A6 := o_ A60
      clear A60
      by_cases c7 : t652 = true
      · subst c7
        have H1 := H
        rw [if_pos rfl] at H1
        clear H
        have H := H1
        clear H1
        replace H := Option.bind_eq_some_iff.mp H
        obtain ⟨t653, A80, H⟩ := H
        try dsimp only at H
        have A8 := o_ A80
        clear A80
        obtain rfl := Option.some.inj H
        go_enter Tryd.func25, Tryd.ntmps25
        go_wp2_with (first | ((with_reducible refine gate_dst (N := 1) rfl ?_); refine bx_ 1 #[.int .i64 a0_0, .int .i64 a0_1, .int .i64 a0_2, .int .i64 a0_3, .int .i64 a0_4, .int .i64 a0_5, .int .i64 a0_6, .int .i64 a0_7] 44 ?_; intro gb649 hg w9 hbox hb; have BK649 := o_ (hbox); have GW649 := o_ ((y261_ : w.heap.size ≤ gb649)); replace HB := o_ (below_step (hd_ HB.1) hb); have GE649 := GW649; clear hb hbox hg; obtain ⟨hcz10_0, hcz10_1, hcz10_2, hcz10_3, hcz10_4, hcz10_5, hcz10_6, hcz10_7⟩ := e262_ BK649.1; obtain ⟨hfz10_0, hfz10_1, hfz10_2, hfz10_3, hfz10_4, hfz10_5, hfz10_6, hfz10_7⟩ := z263_ BK649.1) | (refine gl_ (some 5) Tryd.func60 #[.agg #[.int .i64 a0_0, .int .i64 a0_1, .int .i64 a0_2, .int .i64 a0_3, .int .i64 a0_4]] ?_; (with_reducible refine (impl_IsThing.calls a0_0 a0_1 a0_2 a0_3 a0_4 true _ A2.1).mono ?_); rintro e w11 ⟨rfl, hb⟩; refine ⟨_, rfl, ?_⟩; replace BK649 := o_ (blk_below (bd_ BK649.1) hb); replace HB := o_ (below_step wB_ hb); (try clear hb); obtain ⟨hcz12_0, hcz12_1, hcz12_2, hcz12_3, hcz12_4, hcz12_5, hcz12_6, hcz12_7⟩ := e262_ BK649.1; obtain ⟨hfz12_0, hfz12_1, hfz12_2, hfz12_3, hfz12_4, hfz12_5, hfz12_6, hfz12_7⟩ := z263_ BK649.1) | (go_at_call 49; (with_reducible refine (impl_InRange.calls a0_5 1 30 true _ A4.1).mono ?_); rintro e w' ⟨rfl, ⟨nd, rfl⟩⟩) | (go_at_call 49; (with_reducible refine (impl_InRange.calls a0_6 0 100000 true _ A6.1).mono ?_); rintro e w' ⟨rfl, ⟨nd, rfl⟩⟩) | (go_at_call 49; (with_reducible refine (impl_InRange.calls a0_7 0 999 t653 _ A8.1).mono ?_); rintro e w' ⟨rfl, ⟨nd, rfl⟩⟩))
        go_ret
        exact ⟨rt_, wB_⟩
      · replace c7 := Bool.eq_false_iff.mpr c7
        subst c7
        have H1 := H
        rw [if_neg nt_] at H1
        clear H
        have H := H1
        clear H1
        obtain rfl := Option.some.inj H
        go_enter Tryd.func25, Tryd.ntmps25
        go_wp2_with (first | ((with_reducible refine gate_dst (N := 1) rfl ?_); refine bx_ 1 #[.int .i64 a0_0, .int .i64 a0_1, .int .i64 a0_2, .int .i64 a0_3, .int .i64 a0_4, .int .i64 a0_5, .int .i64 a0_6, .int .i64 a0_7] 44 ?_; intro gb649 hg w13 hbox hb; have BK649 := o_ (hbox); have GW649 := o_ ((y261_ : w.heap.size ≤ gb649)); replace HB := o_ (below_step (hd_ HB.1) hb); have GE649 := GW649; clear hb hbox hg; obtain ⟨hcz14_0, hcz14_1, hcz14_2, hcz14_3, hcz14_4, hcz14_5, hcz14_6, hcz14_7⟩ := e262_ BK649.1; obtain ⟨hfz14_0, hfz14_1, hfz14_2, hfz14_3, hfz14_4, hfz14_5, hfz14_6, hfz14_7⟩ := z263_ BK649.1) | (refine gl_ (some 5) Tryd.func60 #[.agg #[.int .i64 a0_0, .int .i64 a0_1, .int .i64 a0_2, .int .i64 a0_3, .int .i64 a0_4]] ?_; (with_reducible refine (impl_IsThing.calls a0_0 a0_1 a0_2 a0_3 a0_4 true _ A2.1).mono ?_); rintro e w15 ⟨rfl, hb⟩; refine ⟨_, rfl, ?_⟩; replace BK649 := o_ (blk_below (bd_ BK649.1) hb); replace HB := o_ (below_step wB_ hb); (try clear hb); obtain ⟨hcz16_0, hcz16_1, hcz16_2, hcz16_3, hcz16_4, hcz16_5, hcz16_6, hcz16_7⟩ := e262_ BK649.1; obtain ⟨hfz16_0, hfz16_1, hfz16_2, hfz16_3, hfz16_4, hfz16_5, hfz16_6, hfz16_7⟩ := z263_ BK649.1) | (go_at_call 49; (with_reducible refine (impl_InRange.calls a0_5 1 30 true _ A4.1).mono ?_); rintro e w' ⟨rfl, ⟨nd, rfl⟩⟩) | (go_at_call 49; (with_reducible refine (impl_InRange.calls a0_6 0 100000 false _ A6.1).mono ?_); rintro e w' ⟨rfl, ⟨nd, rfl⟩⟩))
        go_ret
        exact ⟨rt_, wB_⟩
    · replace c5 := Bool.eq_false_iff.mpr c5
      subst c5
      have H1 := H
      rw [if_neg nt_] at H1
      clear H
      have H := H1
      clear H1
      obtain rfl := Option.some.inj H
      go_enter Tryd.func25, Tryd.ntmps25
      go_wp2_with (first | ((with_reducible refine gate_dst (N := 1) rfl ?_); refine bx_ 1 #[.int .i64 a0_0, .int .i64 a0_1, .int .i64 a0_2, .int .i64 a0_3, .int .i64 a0_4, .int .i64 a0_5, .int .i64 a0_6, .int .i64 a0_7] 44 ?_; intro gb649 hg w17 hbox hb; have BK649 := o_ (hbox); have GW649 := o_ ((y261_ : w.heap.size ≤ gb649)); replace HB := o_ (below_step (hd_ HB.1) hb); have GE649 := GW649; clear hb hbox hg; obtain ⟨hcz18_0, hcz18_1, hcz18_2, hcz18_3, hcz18_4, hcz18_5, hcz18_6, hcz18_7⟩ := e262_ BK649.1; obtain ⟨hfz18_0, hfz18_1, hfz18_2, hfz18_3, hfz18_4, hfz18_5, hfz18_6, hfz18_7⟩ := z263_ BK649.1) | (refine gl_ (some 5) Tryd.func60 #[.agg #[.int .i64 a0_0, .int .i64 a0_1, .int .i64 a0_2, .int .i64 a0_3, .int .i64 a0_4]] ?_; (with_reducible refine (impl_IsThing.calls a0_0 a0_1 a0_2 a0_3 a0_4 true _ A2.1).mono ?_); rintro e w19 ⟨rfl, hb⟩; refine ⟨_, rfl, ?_⟩; replace BK649 := o_ (blk_below (bd_ BK649.1) hb); replace HB := o_ (below_step wB_ hb); (try clear hb); obtain ⟨hcz20_0, hcz20_1, hcz20_2, hcz20_3, hcz20_4, hcz20_5, hcz20_6, hcz20_7⟩ := e262_ BK649.1; obtain ⟨hfz20_0, hfz20_1, hfz20_2, hfz20_3, hfz20_4, hfz20_5, hfz20_6, hfz20_7⟩ := z263_ BK649.1) | (go_at_call 49; (with_reducible refine (impl_InRange.calls a0_5 1 30 false _ A4.1).mono ?_); rintro e w' ⟨rfl, ⟨nd, rfl⟩⟩))
      go_ret
      exact ⟨rt_, wB_⟩
  · replace c3 := Bool.eq_false_iff.mpr c3
    subst c3
    have H1 := H
    rw [if_neg nt_] at H1
    clear H
    have H := H1
    clear H1
    obtain rfl := Option.some.inj H
    go_enter Tryd.func25, Tryd.ntmps25
    go_wp2_with (first | ((with_reducible refine gate_dst (N := 1) rfl ?_); refine bx_ 1 #[.int .i64 a0_0, .int .i64 a0_1, .int .i64 a0_2, .int .i64 a0_3, .int .i64 a0_4, .int .i64 a0_5, .int .i64 a0_6, .int .i64 a0_7] 44 ?_; intro gb649 hg w21 hbox hb; have BK649 := o_ (hbox); have GW649 := o_ ((y261_ : w.heap.size ≤ gb649)); replace HB := o_ (below_step (hd_ HB.1) hb); have GE649 := GW649; clear hb hbox hg; obtain ⟨hcz22_0, hcz22_1, hcz22_2, hcz22_3, hcz22_4, hcz22_5, hcz22_6, hcz22_7⟩ := e262_ BK649.1; obtain ⟨hfz22_0, hfz22_1, hfz22_2, hfz22_3, hfz22_4, hfz22_5, hfz22_6, hfz22_7⟩ := z263_ BK649.1) | (refine gl_ (some 5) Tryd.func60 #[.agg #[.int .i64 a0_0, .int .i64 a0_1, .int .i64 a0_2, .int .i64 a0_3, .int .i64 a0_4]] ?_; (with_reducible refine (impl_IsThing.calls a0_0 a0_1 a0_2 a0_3 a0_4 false _ A2.1).mono ?_); rintro e w23 ⟨rfl, hb⟩; refine ⟨_, rfl, ?_⟩; replace BK649 := o_ (blk_below (bd_ BK649.1) hb); replace HB := o_ (below_step wB_ hb); (try clear hb)))
    go_ret
    exact ⟨rt_, wB_⟩

/-! ### impl_ColourText: function 88 -/
def impl_ColourText.L : List ByteArray := [(⟨#[98, 108, 97, 99, 107]⟩ : ByteArray), (⟨#[119, 104, 105, 116, 101]⟩ : ByteArray), (⟨#[114, 101, 100]⟩ : ByteArray), (⟨#[103, 114, 101, 101, 110]⟩ : ByteArray), (⟨#[98, 108, 117, 101]⟩ : ByteArray), (⟨#[121, 101, 108, 108, 111, 119]⟩ : ByteArray), (⟨#[98, 114, 111, 119, 110]⟩ : ByteArray), (⟨#[103, 114, 101, 121]⟩ : ByteArray)]
def impl_ColourText.f (a0 : Int) : Option ByteArray := some (if 0 ≤ a0 ∧ a0 ≤ 7 then impl_ColourText.L.getD (a0 - 0).toNat ⟨#[]⟩ else ⟨#[]⟩)
set_option maxHeartbeats 8000000 in
set_option maxRecDepth 100000 in
theorem impl_ColourText.calls (a0 : Int) (r : ByteArray) (w : World) (h : impl_ColourText.f a0 = some r) :
    Calls Tryd.prog 88 #[.int .i64 a0] w fun e w' => e = .returned (.string r) ∧ Below w.heap.size w w' := by
  have HB := o_ (Below.refl w.heap.size w)
  obtain rfl := Option.some.inj h
  clear h
  by_cases hin : 0 ≤ a0 ∧ a0 ≤ 7
  · rw [if_pos hin]
    have h5 : a0 = 0 ∨ a0 = 1 ∨ a0 = 2 ∨ a0 = 3 ∨ a0 = 4 ∨ a0 = 5 ∨ a0 = 6 ∨ a0 = 7 := by omega
    clear hin
    rcases h5 with rfl | rfl | rfl | rfl | rfl | rfl | rfl | rfl
    · have A := o_ (show impl_InRange.f 0 0 7 = some true from by decide)
      go_enter Tryd.func88, Tryd.ntmps88
      go_wp2_with (go_at_call 49; (with_reducible refine (impl_InRange.calls 0 0 7 true _ A.1).mono ?_); rintro e w' ⟨rfl, ⟨nd, rfl⟩⟩)
      go_ret
      exact ⟨rfl, by repeat (first | exact HB.1 | apply below_alloc | apply pw_below_drewN | apply below_drew1)⟩
    · have A := o_ (show impl_InRange.f 1 0 7 = some true from by decide)
      go_enter Tryd.func88, Tryd.ntmps88
      go_wp2_with (go_at_call 49; (with_reducible refine (impl_InRange.calls 1 0 7 true _ A.1).mono ?_); rintro e w' ⟨rfl, ⟨nd, rfl⟩⟩)
      go_ret
      exact ⟨rfl, by repeat (first | exact HB.1 | apply below_alloc | apply pw_below_drewN | apply below_drew1)⟩
    · have A := o_ (show impl_InRange.f 2 0 7 = some true from by decide)
      go_enter Tryd.func88, Tryd.ntmps88
      go_wp2_with (go_at_call 49; (with_reducible refine (impl_InRange.calls 2 0 7 true _ A.1).mono ?_); rintro e w' ⟨rfl, ⟨nd, rfl⟩⟩)
      go_ret
      exact ⟨rfl, by repeat (first | exact HB.1 | apply below_alloc | apply pw_below_drewN | apply below_drew1)⟩
    · have A := o_ (show impl_InRange.f 3 0 7 = some true from by decide)
      go_enter Tryd.func88, Tryd.ntmps88
      go_wp2_with (go_at_call 49; (with_reducible refine (impl_InRange.calls 3 0 7 true _ A.1).mono ?_); rintro e w' ⟨rfl, ⟨nd, rfl⟩⟩)
      go_ret
      exact ⟨rfl, by repeat (first | exact HB.1 | apply below_alloc | apply pw_below_drewN | apply below_drew1)⟩
    · have A := o_ (show impl_InRange.f 4 0 7 = some true from by decide)
      go_enter Tryd.func88, Tryd.ntmps88
      go_wp2_with (go_at_call 49; (with_reducible refine (impl_InRange.calls 4 0 7 true _ A.1).mono ?_); rintro e w' ⟨rfl, ⟨nd, rfl⟩⟩)
      go_ret
      exact ⟨rfl, by repeat (first | exact HB.1 | apply below_alloc | apply pw_below_drewN | apply below_drew1)⟩
    · have A := o_ (show impl_InRange.f 5 0 7 = some true from by decide)
      go_enter Tryd.func88, Tryd.ntmps88
      go_wp2_with (go_at_call 49; (with_reducible refine (impl_InRange.calls 5 0 7 true _ A.1).mono ?_); rintro e w' ⟨rfl, ⟨nd, rfl⟩⟩)
      go_ret
      exact ⟨rfl, by repeat (first | exact HB.1 | apply below_alloc | apply pw_below_drewN | apply below_drew1)⟩
    · have A := o_ (show impl_InRange.f 6 0 7 = some true from by decide)
      go_enter Tryd.func88, Tryd.ntmps88
      go_wp2_with (go_at_call 49; (with_reducible refine (impl_InRange.calls 6 0 7 true _ A.1).mono ?_); rintro e w' ⟨rfl, ⟨nd, rfl⟩⟩)
      go_ret
      exact ⟨rfl, by repeat (first | exact HB.1 | apply below_alloc | apply pw_below_drewN | apply below_drew1)⟩
    · have A := o_ (show impl_InRange.f 7 0 7 = some true from by decide)
      go_enter Tryd.func88, Tryd.ntmps88
      go_wp2_with (go_at_call 49; (with_reducible refine (impl_InRange.calls 7 0 7 true _ A.1).mono ?_); rintro e w' ⟨rfl, ⟨nd, rfl⟩⟩)
      go_ret
      exact ⟨rfl, by repeat (first | exact HB.1 | apply below_alloc | apply pw_below_drewN | apply below_drew1)⟩
  · rw [if_neg hin]
    · have A := o_ (show impl_InRange.f a0 0 7 = some false from by unfold impl_InRange.f; split <;> simp <;> omega)
      clear hin
      go_enter Tryd.func88, Tryd.ntmps88
      go_wp2_with (go_at_call 49; (with_reducible refine (impl_InRange.calls a0 0 7 false _ A.1).mono ?_); rintro e w' ⟨rfl, ⟨nd, rfl⟩⟩)
      go_ret
      exact ⟨rfl, by repeat (first | exact HB.1 | apply below_alloc | apply pw_below_drewN | apply below_drew1)⟩


end Go.Proofs.YtihnanfekchlhaaDoor.PFnForms
