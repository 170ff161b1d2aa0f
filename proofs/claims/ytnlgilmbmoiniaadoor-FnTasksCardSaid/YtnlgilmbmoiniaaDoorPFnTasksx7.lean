-- Written for this claim by a program (a printer turned to this claim); Lean checks it.
import Derived.Test.YtnlgilmbmoiniaaDoorPFnTasksx0
import Derived.Test.YtnlgilmbmoiniaaDoorPFnTasksx2
import Derived.Test.YtnlgilmbmoiniaaDoorPFnTasksx3
import Derived.Test.YtnlgilmbmoiniaaDoorPFnTasksx4
import Derived.Test.YtnlgilmbmoiniaaDoorPFnTasksx6
namespace Go.Proofs.YtnlgilmbmoiniaaDoor.PFnTasks
open Go.RowKit Go.Proofs.YtnlgilmbmoiniaaDoorW.PrintWords Go.Proofs.YtnlgilmbmoiniaaDoorW.PrintLast Go.Proofs.YtnlgilmbmoiniaaDoorW.PrintMore
attribute [local go_sem] max2_int min2_int max_two min_two max_three min_three max_four min_four   -- for this text's walks alone
set_option linter.unusedVariables false
set_option linter.unusedSimpArgs false

/-! ### spec_l13Draw: function 58 -/
def spec_l13Draw.l0 : Nat → List (S73) → Int → List Int → Int → Int → Option ((List (S73)) × Int × Int)
  | 0, _, _, _, _, _ => none
  | k + 1, x3, x4, x1000, x1001, x1002 => (spec_l1Below.f x1000 x1001 x1002 8).bind fun bt368 => (if x4 ≤ bt368.1 then ((spec_l1Below.f x1000 bt368.2.1 bt368.2.2 5).bind fun bt371 => ((spec_l1Below.f x1000 bt371.2.1 bt371.2.2 3).bind fun bt374 => ((spec_l1Below.f x1000 bt374.2.1 bt374.2.2 60).bind fun bt377 => ((spec_AddClaim.f k x3 (wrap64 (2 * x4)) (wrap64 (1 + bt371.1)) (wrap64 (2 * (wrap64 (1 + bt374.1)))) bt377.1 0).bind fun bt380 => ((spec_l1Below.f x1000 bt377.2.1 bt377.2.2 4).bind fun bt384 => ((spec_SetState.f k bt380.1 (wrap64 (2 * x4)) bt384.1).bind fun bt387 => (spec_l13Draw.l0 k bt387.1 (wrap64 (x4 + 1)) x1000 bt384.2.1 bt384.2.2))))))) else (some (x3, bt368.2.1, bt368.2.2)))
def spec_l13Draw.f (k : Nat) (s0_0 : List Int) (s0_1 : Int) (s0_2 : Int) : Option ((List (S73)) × Int × Int) := spec_l13Draw.l0 k (([] : List (S73))) 1 s0_0 s0_1 s0_2
theorem spec_l13Draw.mono_l : ∀ k, (∀ y0 y1 y2 y3 y4, LeO (spec_l13Draw.l0 k y0 y1 y2 y3 y4) (spec_l13Draw.l0 (k + 1) y0 y1 y2 y3 y4))
  | 0 => fun _ _ _ _ _ r h => by simp [spec_l13Draw.l0] at h
  | k + 1 => by
    have ih0 := spec_l13Draw.mono_l k
    · intro y0 y1 y2 y3 y4
      unfold spec_l13Draw.l0
      have jh0 := @spec_AddClaim.mono
      have jh1 := @spec_SetState.mono
      exact mo_
theorem spec_l13Draw.mono : ∀ a0 a1 a2 k, LeO (spec_l13Draw.f k a0 a1 a2) (spec_l13Draw.f (k + 1) a0 a1 a2) := by
  intro a0 a1 a2 k
  have ih0 := spec_l13Draw.mono_l k
  unfold spec_l13Draw.f
  have jh0 := @spec_AddClaim.mono
  have jh1 := @spec_SetState.mono
  exact mo_
theorem y86_ {P : Prop} (h : P := by repeat (first | (with_reducible first | exact HK.out | apply KeepBut.set_ | apply keep_drewN | apply keep_drew | apply keep_alloc) | exact HK.out)) : P := h
theorem y89_ {P : Prop} (h : P := by repeat (first | (with_reducible first | exact HB.out | apply below_alloc | apply pw_below_drewN | apply below_drew1 | refine below_set ?_ (IsS69.ge HI0.out)) | exact HB.out)) : P := h
theorem y90_ {P : Prop} (h : P := by repeat (first | (with_reducible first | exact HB.out | apply below_alloc | apply pw_below_drewN | apply below_drew1 | refine below_set ?_ (IsS69.ge HI0.out)) | exact HB.out)) : P := h
theorem y91_ {P : Prop} (h : P := by repeat (first | (with_reducible first | exact HI0.out | apply IsS69.alloc | apply IsS69.drewN | apply IsS69.drew | apply IsS69.set_1 | apply IsS69.set_2) | exact HI0.out)) : P := h
theorem y92_ {P : Prop} (h : P := by repeat (first | (with_reducible first | exact HI0.out | apply IsS69.alloc | apply IsS69.drewN | apply IsS69.drew | apply IsS69.set_1 | apply IsS69.set_2) | exact HI0.out)) : P := h
theorem y93_ {P : Prop} (h : P := by repeat (first | (with_reducible first | exact HK.out | apply KeepBut.set_ | apply keep_drewN | apply keep_drew | apply keep_alloc) | exact HK.out)) : P := h
set_option maxHeartbeats 8000000 in
set_option maxRecDepth 100000 in
theorem spec_l13Draw.calls (k : Nat) (g : Nat) (s0_0 : List Int) (s0_1 : Int) (s0_2 : Int) (r1 : List (S73)) (r2 : Int) (r3 : Int) (w0 w : World) (hI : IsS69 w0 w g s0_0 s0_1 s0_2) (hB : Below w0.heap.size w0 w) (h : spec_l13Draw.f k s0_0 s0_1 s0_2 = some (r1, r2, r3)) :
    Calls Tryd.prog 58 #[.pointer (some ⟨g, 0, none⟩)] w fun e w' => ∃ v0_ : Value, e = .returned (v0_) ∧ Kd.R k73 73 w' w.heap.size (fun _ => True) v0_ r1 ∧ IsS69 w0 w' g s0_0 r2 r3 ∧ Below w0.heap.size w0 w' ∧ KeepBut w w' g none := by
  have hu73 := Tryd.underlying73
  have HI0 := Aside0.mk hI
  have HK := Aside0.mk (KeepBut.refl w g none)
  have HL := Aside0.mk hB.size
  clear hI
  have HW0 := Aside0.mk hB.size
  have HB := Aside0.mk hB
  clear hB
  have H : (spec_l13Draw.l0 k (([] : List (S73))) 1 s0_0 s0_1 s0_2) = some (r1, r2, r3) := h
  clear h
  obtain ⟨y365, hy365⟩ : ∃ y_ : List (S73), y_ = (([] : List (S73))) := ⟨_, rfl⟩
  replace H : (spec_l13Draw.l0 k y365 1 s0_0 s0_1 s0_2) = some (r1, r2, r3) := by first | (rw [hy365]; with_reducible exact H) | (have H2_ := (Option.bind_some _ _).symm.trans H; rw [hy365]; with_reducible exact H2_) | (have H2_ := (Option.bind_some _ _).symm.trans H; with_reducible exact H2_) | with_reducible exact H | (rw [hy365]; exact H) | exact H
  have Ny365 := Aside0.mk hy365
  clear hy365
  have H' := Aside0.mk H
  clear H
  go_enter Tryd.func58, Tryd.ntmps58
  go_wp2_with (first | ((with_reducible refine gate_dst (N := 5) rfl ?_); refine Kd.R_lit k73 _ 73 ?hg (N := 5) ?hd (xs := ([] : List (S73))) (inner := []) (ok := fun _ => True) (okp := fun _ => True) ?hr ?hp (fun _ hk => hk) trivial (Below.refl _ _) (Nat.le_refl _) (by simp) ?_; (case hd => rfl); (case hg => rfl); (case hr => first | (go_simp; done) | (go_simp; rfl)); (case hp => exact (Reps.none _ _)); intro v366 w2 ho3 hb hg_ hnew_; clear hg_ hnew_; (first | rw [← Ny365.out] at ho3 | (simp only [Int.reduceToNat] at ho3; rw [← Ny365.out] at ho3)); have HO367 := Aside0.mk (Kd.R_lower ho3 (keep_size (w := w) (g := g) (row := none) y86_)); have n1_ := Aside0.mk (IsS69.below y91_ hb); have n2_ := Aside0.mk (KeepBut.trans y86_ (KeepBut.of_below hb g none) (.inl rfl)); have n3_ := Aside0.mk (below_step y89_ hb); clear HI0; clear HK; clear HB; have HI0 := n1_; have HK := n2_; have HB := n3_; clear n1_ n2_ n3_; clear hb ho3))
  go_loopg [3, 4] k (fun kq v3 v4 w' => ∃ (x3_1 : List (S73)) (x4_1 : Int) (x1001_1 : Int) (x1002_1 : Int), v4 = .int .i64 x4_1 ∧ Aside0 (spec_l13Draw.l0 kq x3_1 x4_1 s0_0 x1001_1 x1002_1 = some (r1, r2, r3)) ∧ Aside0 (kq ≤ k) ∧ Aside0 (Kd.R k73 73 w' w.heap.size (fun _ => True) v3 x3_1) ∧ Aside0 (IsS69 w0 w' g s0_0 x1001_1 x1002_1) ∧ Aside0 (KeepBut w w' g none) ∧ Aside0 (Below w0.heap.size w0 w'))
  case atStart => exact ⟨(y365), (1), (s0_1), (s0_2), rs_, H', ⟨Nat.le_refl _⟩, ⟨rd_ HO367.out⟩, ⟨y92_⟩, ⟨y93_⟩, ⟨y90_⟩⟩
  case round =>
    clear H'
    try clear p2
    obtain ⟨x3_1, x4_1, x1001_1, x1002_1, rfl, HA, HK1, HO_3, HI0, HK, HB⟩ := hrel
    cases gk with
    | zero => exact absurd HA.out (by simp [spec_l13Draw.l0])
    | succ k1 =>
      have H := HA.out
      clear HA
      simp only [spec_l13Draw.l0] at H
      replace H := Option.bind_eq_some_iff.mp H
      obtain ⟨⟨t368, t369, t370⟩, A40, H⟩ := H
      replace H : (if x4_1 ≤ t368 then ((spec_l1Below.f s0_0 t369 t370 5).bind fun bt371 => ((spec_l1Below.f s0_0 bt371.2.1 bt371.2.2 3).bind fun bt374 => ((spec_l1Below.f s0_0 bt374.2.1 bt374.2.2 60).bind fun bt377 => ((spec_AddClaim.f k1 x3_1 (wrap64 (2 * x4_1)) (wrap64 (1 + bt371.1)) (wrap64 (2 * (wrap64 (1 + bt374.1)))) bt377.1 0).bind fun bt380 => ((spec_l1Below.f s0_0 bt377.2.1 bt377.2.2 4).bind fun bt384 => ((spec_SetState.f k1 bt380.1 (wrap64 (2 * x4_1)) bt384.1).bind fun bt387 => (spec_l13Draw.l0 k1 bt387.1 (wrap64 (x4_1 + 1)) s0_0 bt384.2.1 bt384.2.2))))))) else (some (x3_1, t369, t370))) = some (r1, r2, r3) := H
      have A4 := Aside0.mk A40
      clear A40
      by_cases c5 : x4_1 ≤ t368
      · rw [if_pos c5] at H
        have c5b0 : decide (x4_1 ≤ t368) = true := decide_eq_true c5
        clear c5
        replace H := Option.bind_eq_some_iff.mp H
        obtain ⟨⟨t371, t372, t373⟩, A60, H⟩ := H
        replace H : ((spec_l1Below.f s0_0 t372 t373 3).bind fun bt374 => ((spec_l1Below.f s0_0 bt374.2.1 bt374.2.2 60).bind fun bt377 => ((spec_AddClaim.f k1 x3_1 (wrap64 (2 * x4_1)) (wrap64 (1 + t371)) (wrap64 (2 * (wrap64 (1 + bt374.1)))) bt377.1 0).bind fun bt380 => ((spec_l1Below.f s0_0 bt377.2.1 bt377.2.2 4).bind fun bt384 => ((spec_SetState.f k1 bt380.1 (wrap64 (2 * x4_1)) bt384.1).bind fun bt387 => (spec_l13Draw.l0 k1 bt387.1 (wrap64 (x4_1 + 1)) s0_0 bt384.2.1 bt384.2.2)))))) = some (r1, r2, r3) := H
        have A6 := Aside0.mk A60
        clear A60
        replace H := Option.bind_eq_some_iff.mp H
        obtain ⟨⟨t374, t375, t376⟩, A70, H⟩ := H
        replace H : ((spec_l1Below.f s0_0 t375 t376 60).bind fun bt377 => ((spec_AddClaim.f k1 x3_1 (wrap64 (2 * x4_1)) (wrap64 (1 + t371)) (wrap64 (2 * (wrap64 (1 + t374)))) bt377.1 0).bind fun bt380 => ((spec_l1Below.f s0_0 bt377.2.1 bt377.2.2 4).bind fun bt384 => ((spec_SetState.f k1 bt380.1 (wrap64 (2 * x4_1)) bt384.1).bind fun bt387 => (spec_l13Draw.l0 k1 bt387.1 (wrap64 (x4_1 + 1)) s0_0 bt384.2.1 bt384.2.2))))) = some (r1, r2, r3) := H
        have A7 := Aside0.mk A70
        clear A70
        replace H := Option.bind_eq_some_iff.mp H
        obtain ⟨⟨t377, t378, t379⟩, A80, H⟩ := H
        replace H : ((spec_AddClaim.f k1 x3_1 (wrap64 (2 * x4_1)) (wrap64 (1 + t371)) (wrap64 (2 * (wrap64 (1 + t374)))) t377 0).bind fun bt380 => ((spec_l1Below.f s0_0 t378 t379 4).bind fun bt384 => ((spec_SetState.f k1 bt380.1 (wrap64 (2 * x4_1)) bt384.1).bind fun bt387 => (spec_l13Draw.l0 k1 bt387.1 (wrap64 (x4_1 + 1)) s0_0 bt384.2.1 bt384.2.2)))) = some (r1, r2, r3) := H
        have A8 := Aside0.mk A80
        clear A80
        replace H := Option.bind_eq_some_iff.mp H
        obtain ⟨⟨t380, t383⟩, A90, H⟩ := H
        replace H : ((spec_l1Below.f s0_0 t378 t379 4).bind fun bt384 => ((spec_SetState.f k1 t380 (wrap64 (2 * x4_1)) bt384.1).bind fun bt387 => (spec_l13Draw.l0 k1 bt387.1 (wrap64 (x4_1 + 1)) s0_0 bt384.2.1 bt384.2.2))) = some (r1, r2, r3) := H
        have A9 := Aside0.mk A90
        clear A90
        replace H := Option.bind_eq_some_iff.mp H
        obtain ⟨⟨t384, t385, t386⟩, A100, H⟩ := H
        replace H : ((spec_SetState.f k1 t380 (wrap64 (2 * x4_1)) t384).bind fun bt387 => (spec_l13Draw.l0 k1 bt387.1 (wrap64 (x4_1 + 1)) s0_0 t385 t386)) = some (r1, r2, r3) := H
        have A10 := Aside0.mk A100
        clear A100
        replace H := Option.bind_eq_some_iff.mp H
        obtain ⟨⟨t387, t388⟩, A110, H⟩ := H
        replace H : (spec_l13Draw.l0 k1 t387 (wrap64 (x4_1 + 1)) s0_0 t385 t386) = some (r1, r2, r3) := H
        have A11 := Aside0.mk A110
        clear A110
        have H' := Aside0.mk H
        clear H
        go_wp2_with (first | ((with_reducible refine gate_callee (f := 41) rfl ?_); refine goesL_ (some 8) rfl rfl Tryd.func41 (by kernel_rfl) rfl #[.pointer (some ⟨g, 0, none⟩), .int .i64 8] rfl ma_ ?_; (with_reducible refine (spec_l1Below.calls g s0_0 x1001_1 x1002_1 8 t368 t369 t370 w0 _ ?side1 ?side2 A4.out).mono ?_); (case side1 => repeat (first | (with_reducible first | exact HI0.out | apply IsS69.alloc | apply IsS69.drewN | apply IsS69.drew | apply IsS69.set_1 | apply IsS69.set_2) | exact HI0.out)); (case side2 => repeat (first | (with_reducible first | exact HB.out | apply below_alloc | apply pw_below_drewN | apply below_drew1 | refine below_set ?_ (IsS69.ge HI0.out)) | exact HB.out)); rintro e w12 ⟨rfl, hi, hb, hk⟩; refine ⟨_, rfl, ?_⟩; have n0_ := Aside0.mk (Kd.R_mono (Kd.R_keep (IsS69.apart (show IsS69 w0 _ g s0_0 x1001_1 x1002_1 from y92_) (rd_ HO_3.out) (by decide)) hk (fun _ h => h.2)) (fun _ h => h.1)); have n1_ := Aside0.mk (KeepBut.trans y86_ hk (.inl rfl)); have n2_ := Aside0.mk (hb); have n3_ := Aside0.mk (hi); clear HO_3; clear HK; clear HB; clear HI0; have HO_3 := n0_; have HK := n1_; have HB := n2_; have HI0 := n3_; clear n0_ n1_ n2_ n3_; (try clear hb); (try clear hk); (try clear hi)) | ((with_reducible refine gate_callee (f := 41) rfl ?_); refine goesL_ (some 17) rfl rfl Tryd.func41 (by kernel_rfl) rfl #[.pointer (some ⟨g, 0, none⟩), .int .i64 5] rfl ma_ ?_; (with_reducible refine (spec_l1Below.calls g s0_0 t369 t370 5 t371 t372 t373 w0 _ ?side1 ?side2 A6.out).mono ?_); (case side1 => repeat (first | (with_reducible first | exact HI0.out | apply IsS69.alloc | apply IsS69.drewN | apply IsS69.drew | apply IsS69.set_1 | apply IsS69.set_2) | exact HI0.out)); (case side2 => repeat (first | (with_reducible first | exact HB.out | apply below_alloc | apply pw_below_drewN | apply below_drew1 | refine below_set ?_ (IsS69.ge HI0.out)) | exact HB.out)); rintro e w13 ⟨rfl, hi, hb, hk⟩; refine ⟨_, rfl, ?_⟩; have n0_ := Aside0.mk (Kd.R_mono (Kd.R_keep (IsS69.apart (show IsS69 w0 _ g s0_0 t369 t370 from y92_) (rd_ HO_3.out) (by decide)) hk (fun _ h => h.2)) (fun _ h => h.1)); have n1_ := Aside0.mk (KeepBut.trans y86_ hk (.inl rfl)); have n2_ := Aside0.mk (hb); have n3_ := Aside0.mk (hi); clear HO_3; clear HK; clear HB; clear HI0; have HO_3 := n0_; have HK := n1_; have HB := n2_; have HI0 := n3_; clear n0_ n1_ n2_ n3_; (try clear hb); (try clear hk); (try clear hi)) | ((with_reducible refine gate_callee (f := 41) rfl ?_); refine goesL_ (some 20) rfl rfl Tryd.func41 (by kernel_rfl) rfl #[.pointer (some ⟨g, 0, none⟩), .int .i64 3] rfl ma_ ?_; (with_reducible refine (spec_l1Below.calls g s0_0 t372 t373 3 t374 t375 t376 w0 _ ?side1 ?side2 A7.out).mono ?_); (case side1 => repeat (first | (with_reducible first | exact HI0.out | apply IsS69.alloc | apply IsS69.drewN | apply IsS69.drew | apply IsS69.set_1 | apply IsS69.set_2) | exact HI0.out)); (case side2 => repeat (first | (with_reducible first | exact HB.out | apply below_alloc | apply pw_below_drewN | apply below_drew1 | refine below_set ?_ (IsS69.ge HI0.out)) | exact HB.out)); rintro e w14 ⟨rfl, hi, hb, hk⟩; refine ⟨_, rfl, ?_⟩; have n0_ := Aside0.mk (Kd.R_mono (Kd.R_keep (IsS69.apart (show IsS69 w0 _ g s0_0 t372 t373 from y92_) (rd_ HO_3.out) (by decide)) hk (fun _ h => h.2)) (fun _ h => h.1)); have n1_ := Aside0.mk (KeepBut.trans y86_ hk (.inl rfl)); have n2_ := Aside0.mk (hb); have n3_ := Aside0.mk (hi); clear HO_3; clear HK; clear HB; clear HI0; have HO_3 := n0_; have HK := n1_; have HB := n2_; have HI0 := n3_; clear n0_ n1_ n2_ n3_; (try clear hb); (try clear hk); (try clear hi)) | ((with_reducible refine gate_callee (f := 41) rfl ?_); refine goesL_ (some 24) rfl rfl Tryd.func41 (by kernel_rfl) rfl #[.pointer (some ⟨g, 0, none⟩), .int .i64 60] rfl ma_ ?_; (with_reducible refine (spec_l1Below.calls g s0_0 t375 t376 60 t377 t378 t379 w0 _ ?side1 ?side2 A8.out).mono ?_); (case side1 => repeat (first | (with_reducible first | exact HI0.out | apply IsS69.alloc | apply IsS69.drewN | apply IsS69.drew | apply IsS69.set_1 | apply IsS69.set_2) | exact HI0.out)); (case side2 => repeat (first | (with_reducible first | exact HB.out | apply below_alloc | apply pw_below_drewN | apply below_drew1 | refine below_set ?_ (IsS69.ge HI0.out)) | exact HB.out)); rintro e w15 ⟨rfl, hi, hb, hk⟩; refine ⟨_, rfl, ?_⟩; have n0_ := Aside0.mk (Kd.R_mono (Kd.R_keep (IsS69.apart (show IsS69 w0 _ g s0_0 t375 t376 from y92_) (rd_ HO_3.out) (by decide)) hk (fun _ h => h.2)) (fun _ h => h.1)); have n1_ := Aside0.mk (KeepBut.trans y86_ hk (.inl rfl)); have n2_ := Aside0.mk (hb); have n3_ := Aside0.mk (hi); clear HO_3; clear HK; clear HB; clear HI0; have HO_3 := n0_; have HK := n1_; have HB := n2_; have HI0 := n3_; clear n0_ n1_ n2_ n3_; (try clear hb); (try clear hk); (try clear hi); obtain ⟨Ao16, co16, eo16⟩ := Kd.R_slice HO_3.out; subst eo16) | ((with_reducible refine gate_callee (f := 76) rfl ?_); refine goesL_ (some 26) rfl rfl Tryd.func76 (by kernel_rfl) rfl #[.slice Ao16 x3_1.length co16, .agg #[.int .i64 (wrap64 (2 * x4_1)), .int .i64 (wrap64 (1 + t371)), .int .i64 (wrap64 (2 * (wrap64 (1 + t374)))), .int .i64 t377, .int .i64 0]] rfl ma_ ?_; (with_reducible refine (spec_AddClaim.calls k1 _ _ x3_1 (wrap64 (2 * x4_1)) (wrap64 (1 + t371)) (wrap64 (2 * (wrap64 (1 + t374)))) t377 0 t380 t383 _ ?side1 ?side2 A9.out).mono ?_); (case side1 => exact cd_ (Kd.R_reads' HO_3.out).2.2); (case side2 => exact (Kd.R_reads' HO_3.out).2.1); rintro e w17 ⟨v381, rfl, ho0, hb⟩; refine ⟨_, rfl, ?_⟩; have n0_ := Aside0.mk (Kd.R_elder' (rd_ HO_3.out) (Kd.R_base ho0) hb); have HO382 := Aside0.mk (Kd.R_lower (Kd.R_new' ho0 (Kd.R_lt (rd_ HO_3.out))) (keep_size (w := w) (g := g) (row := none) y86_)); have n2_ := Aside0.mk (IsS69.below y91_ hb); have n3_ := Aside0.mk (KeepBut.trans y86_ (KeepBut.of_below hb g none) (.inl rfl)); have n4_ := Aside0.mk (below_step y89_ hb); clear HO_3; clear HI0; clear HK; clear HB; have HO_3 := n0_; have HI0 := n2_; have HK := n3_; have HB := n4_; clear n0_ n2_ n3_ n4_; (try clear hb); (try clear ho0)) | ((with_reducible refine gate_callee (f := 41) rfl ?_); refine goesL_ (some 34) rfl rfl Tryd.func41 (by kernel_rfl) rfl #[.pointer (some ⟨g, 0, none⟩), .int .i64 4] rfl ma_ ?_; (with_reducible refine (spec_l1Below.calls g s0_0 t378 t379 4 t384 t385 t386 w0 _ ?side1 ?side2 A10.out).mono ?_); (case side1 => repeat (first | (with_reducible first | exact HI0.out | apply IsS69.alloc | apply IsS69.drewN | apply IsS69.drew | apply IsS69.set_1 | apply IsS69.set_2) | exact HI0.out)); (case side2 => repeat (first | (with_reducible first | exact HB.out | apply below_alloc | apply pw_below_drewN | apply below_drew1 | refine below_set ?_ (IsS69.ge HI0.out)) | exact HB.out)); rintro e w18 ⟨rfl, hi, hb, hk⟩; refine ⟨_, rfl, ?_⟩; have n0_ := Aside0.mk (Kd.R_mono (Kd.R_keep (IsS69.apart (show IsS69 w0 _ g s0_0 t378 t379 from y92_) (rd_ HO_3.out) (by decide)) hk (fun _ h => h.2)) (fun _ h => h.1)); have n1_ := Aside0.mk (Kd.R_mono (Kd.R_keep (IsS69.apart (show IsS69 w0 _ g s0_0 t378 t379 from y92_) (rd_ HO382.out) (by decide)) hk (fun _ h => h.2)) (fun _ h => h.1)); have n2_ := Aside0.mk (KeepBut.trans y86_ hk (.inl rfl)); have n3_ := Aside0.mk (hb); have n4_ := Aside0.mk (hi); clear HO_3; clear HO382; clear HK; clear HB; clear HI0; have HO_3 := n0_; have HO382 := n1_; have HK := n2_; have HB := n3_; have HI0 := n4_; clear n0_ n1_ n2_ n3_ n4_; (try clear hb); (try clear hk); (try clear hi); obtain ⟨Ao19, co19, eo19⟩ := Kd.R_slice HO382.out; subst eo19) | ((with_reducible refine gate_callee (f := 77) rfl ?_); refine goesL_ (some 35) rfl rfl Tryd.func77 (by kernel_rfl) rfl #[.slice Ao19 t380.length co19, .int .i64 (wrap64 (2 * x4_1)), .int .i64 t384] rfl ma_ ?_; (with_reducible refine (spec_SetState.calls k1 _ _ t380 (wrap64 (2 * x4_1)) t384 t387 t388 _ ?side1 ?side2 A11.out).mono ?_); (case side1 => exact cd_ (Kd.R_reads' HO382.out).2.2); (case side2 => exact (Kd.R_reads' HO382.out).2.1); rintro e w20 ⟨v389, rfl, ho0, hb⟩; refine ⟨_, rfl, ?_⟩; have n0_ := Aside0.mk (Kd.R_elder' (rd_ HO_3.out) (Kd.R_base ho0) hb); have n1_ := Aside0.mk (Kd.R_elder' (rd_ HO382.out) (Kd.R_base ho0) hb); have HO390 := Aside0.mk (Kd.R_lower (Kd.R_new' (Kd.R_new' ho0 (Kd.R_lt (rd_ HO_3.out))) (Kd.R_lt (rd_ HO382.out))) (keep_size (w := w) (g := g) (row := none) y86_)); have n3_ := Aside0.mk (IsS69.below y91_ hb); have n4_ := Aside0.mk (KeepBut.trans y86_ (KeepBut.of_below hb g none) (.inl rfl)); have n5_ := Aside0.mk (below_step y89_ hb); clear HO_3; clear HO382; clear HI0; clear HK; clear HB; have HO_3 := n0_; have HO382 := n1_; have HI0 := n3_; have HK := n4_; have HB := n5_; clear n0_ n1_ n3_ n4_ n5_; (try clear hb); (try clear ho0)))
        go_roundg k1
        case measure => have := HK1.out; omega
        case rel => exact ⟨(t387), (wrap64 (x4_1 + 1)), (t385), (t386), rs_, H', ⟨by have := HK1.out; omega⟩, ⟨by (with_reducible repeat (first | apply Kd.R_alloc | apply Kd.R_drewN | apply Kd.R_drew)); exact Kd.R_mono HO390.out (fun _ hk => trivial)⟩, ⟨y92_⟩, ⟨y93_⟩, ⟨y90_⟩⟩
      · rw [if_neg c5] at H
        have c5b0 : decide (x4_1 ≤ t368) = false := decide_eq_false c5
        clear c5
        simp only [Option.some.injEq, Prod.mk.injEq] at H
        obtain ⟨rfl, rfl, rfl⟩ := H
        go_wp2_with (first | ((with_reducible refine gate_callee (f := 41) rfl ?_); refine goesL_ (some 8) rfl rfl Tryd.func41 (by kernel_rfl) rfl #[.pointer (some ⟨g, 0, none⟩), .int .i64 8] rfl ma_ ?_; (with_reducible refine (spec_l1Below.calls g s0_0 x1001_1 x1002_1 8 t368 t369 t370 w0 _ ?side1 ?side2 A4.out).mono ?_); (case side1 => repeat (first | (with_reducible first | exact HI0.out | apply IsS69.alloc | apply IsS69.drewN | apply IsS69.drew | apply IsS69.set_1 | apply IsS69.set_2) | exact HI0.out)); (case side2 => repeat (first | (with_reducible first | exact HB.out | apply below_alloc | apply pw_below_drewN | apply below_drew1 | refine below_set ?_ (IsS69.ge HI0.out)) | exact HB.out)); rintro e w21 ⟨rfl, hi, hb, hk⟩; refine ⟨_, rfl, ?_⟩; have n0_ := Aside0.mk (Kd.R_mono (Kd.R_keep (IsS69.apart (show IsS69 w0 _ g s0_0 x1001_1 x1002_1 from y92_) (rd_ HO_3.out) (by decide)) hk (fun _ h => h.2)) (fun _ h => h.1)); have n1_ := Aside0.mk (KeepBut.trans y86_ hk (.inl rfl)); have n2_ := Aside0.mk (hb); have n3_ := Aside0.mk (hi); clear HO_3; clear HK; clear HB; clear HI0; have HO_3 := n0_; have HK := n1_; have HB := n2_; have HI0 := n3_; clear n0_ n1_ n2_ n3_; (try clear hb); (try clear hk); (try clear hi)))
        go_ret
        exact ⟨_, by first | rfl | (simp [errW_none, errW_some] <;> rfl) | (simp [*, errW_none, errW_some] <;> rfl), rd_ HO_3.out, y92_, y90_, y93_⟩

/-! ### spec_l13Any: function 38 -/
def spec_l13Any.f (k : Nat) (s0_0 : List Int) (s0_1 : Int) (s0_2 : Int) : Option ((List (S73)) × Int × Int) := (spec_l13Draw.f k s0_0 s0_1 s0_2).bind fun bt391 => (if (bt391.1.length : Int) = 0 then (some (bt391.1, bt391.2.1, bt391.2.2)) else ((spec_l1Below.f s0_0 bt391.2.1 bt391.2.2 (bt391.1.length : Int)).bind fun bt396 => ((spec_l1Below.f s0_0 bt396.2.1 bt396.2.2 10).bind fun bt399 => (if bt399.1 = 0 then ((spec_l1Int.f s0_0 bt399.2.1 bt399.2.2 (([0, 2, 999, 1000] : List Int))).bind fun bt405 => (if 0 ≤ bt396.1 then (if bt396.1 < (bt391.1.length : Int) then (some ((bt391.1.set (bt396.1 : Int).toNat (⟨bt405.1, (rd_T73 bt391.1 bt396.1).f1, (rd_T73 bt391.1 bt396.1).f2, (rd_T73 bt391.1 bt396.1).f3, (rd_T73 bt391.1 bt396.1).f4⟩ : S73)), bt405.2.1, bt405.2.2)) else (none)) else (none))) else (if bt399.1 = 1 then ((spec_l4Raw.f s0_0 bt399.2.1 bt399.2.2).bind fun bt409 => (if 0 ≤ bt396.1 then (if bt396.1 < (bt391.1.length : Int) then (some ((bt391.1.set (bt396.1 : Int).toNat (⟨(rd_T73 bt391.1 bt396.1).f0, bt409.1, (rd_T73 bt391.1 bt396.1).f2, (rd_T73 bt391.1 bt396.1).f3, (rd_T73 bt391.1 bt396.1).f4⟩ : S73)), bt409.2.1, bt409.2.2)) else (none)) else (none))) else (if bt399.1 = 2 then ((spec_l1Int.f s0_0 bt399.2.1 bt399.2.2 (([(-1), 100000, 100001] : List Int))).bind fun bt416 => (if 0 ≤ bt396.1 then (if bt396.1 < (bt391.1.length : Int) then (some ((bt391.1.set (bt396.1 : Int).toNat (⟨(rd_T73 bt391.1 bt396.1).f0, (rd_T73 bt391.1 bt396.1).f1, (rd_T73 bt391.1 bt396.1).f2, bt416.1, (rd_T73 bt391.1 bt396.1).f4⟩ : S73)), bt416.2.1, bt416.2.2)) else (none)) else (none))) else (if bt399.1 = 3 then ((spec_l1Int.f s0_0 bt399.2.1 bt399.2.2 (([(-1), 3, 4] : List Int))).bind fun bt423 => (if 0 ≤ bt396.1 then (if bt396.1 < (bt391.1.length : Int) then (some ((bt391.1.set (bt396.1 : Int).toNat (⟨(rd_T73 bt391.1 bt396.1).f0, (rd_T73 bt391.1 bt396.1).f1, (rd_T73 bt391.1 bt396.1).f2, (rd_T73 bt391.1 bt396.1).f3, bt423.1⟩ : S73)), bt423.2.1, bt423.2.2)) else (none)) else (none))) else (some (bt391.1, bt399.2.1, bt399.2.2)))))))))
theorem spec_l13Any.mono : ∀ a0 a1 a2 k, LeO (spec_l13Any.f k a0 a1 a2) (spec_l13Any.f (k + 1) a0 a1 a2) := by
 intro a0 a1 a2 k
 unfold spec_l13Any.f
 have jh0 := @spec_l13Draw.mono
 exact mo_
theorem y95_ {P : Prop} (h : P := by repeat (first | (with_reducible first | exact HK.out | apply KeepBut.set_ | apply keep_drewN | apply keep_drew | apply keep_alloc) | exact HK.out)) : P := h
theorem y99_ {P : Prop} (h : P := by repeat (first | (with_reducible first | exact HI0.out | apply IsS69.alloc | apply IsS69.drewN | apply IsS69.drew | apply IsS69.set_1 | apply IsS69.set_2) | exact HI0.out)) : P := h
theorem y100_ {P : Prop} (h : P := by repeat (first | (with_reducible first | exact HB.out | apply below_alloc | apply pw_below_drewN | apply below_drew1 | refine below_set ?_ (IsS69.ge HI0.out)) | exact HB.out)) : P := h
theorem y101_ {P : Prop} (h : P := by repeat (first | (with_reducible first | exact HI0.out | apply IsS69.alloc | apply IsS69.drewN | apply IsS69.drew | apply IsS69.set_1 | apply IsS69.set_2) | exact HI0.out)) : P := h
theorem y102_ {P : Prop} (h : P := by repeat (first | (with_reducible first | exact HK.out | apply KeepBut.set_ | apply keep_drewN | apply keep_drew | apply keep_alloc) | exact HK.out)) : P := h
set_option maxHeartbeats 8000000 in
set_option maxRecDepth 100000 in
theorem spec_l13Any.calls (k : Nat) (g : Nat) (s0_0 : List Int) (s0_1 : Int) (s0_2 : Int) (r1 : List (S73)) (r2 : Int) (r3 : Int) (w0 w : World) (hI : IsS69 w0 w g s0_0 s0_1 s0_2) (hB : Below w0.heap.size w0 w) (h : spec_l13Any.f k s0_0 s0_1 s0_2 = some (r1, r2, r3)) :
  Calls Tryd.prog 38 #[.pointer (some ⟨g, 0, none⟩)] w fun e w' => ∃ v0_ : Value, e = .returned (v0_) ∧ Kd.R k73 73 w' w.heap.size (fun _ => True) v0_ r1 ∧ IsS69 w0 w' g s0_0 r2 r3 ∧ Below w0.heap.size w0 w' ∧ KeepBut w w' g none := by
 have HI0 := Aside0.mk hI
 have HK := Aside0.mk (KeepBut.refl w g none)
 have HL := Aside0.mk hB.size
 clear hI
 have HW0 := Aside0.mk hB.size
 have HB := Aside0.mk hB
 clear hB
 have H : ((spec_l13Draw.f k s0_0 s0_1 s0_2).bind fun bt391 => (if (bt391.1.length : Int) = 0 then (some (bt391.1, bt391.2.1, bt391.2.2)) else ((spec_l1Below.f s0_0 bt391.2.1 bt391.2.2 (bt391.1.length : Int)).bind fun bt396 => ((spec_l1Below.f s0_0 bt396.2.1 bt396.2.2 10).bind fun bt399 => (if bt399.1 = 0 then ((spec_l1Int.f s0_0 bt399.2.1 bt399.2.2 (([0, 2, 999, 1000] : List Int))).bind fun bt405 => (if 0 ≤ bt396.1 then (if bt396.1 < (bt391.1.length : Int) then (some ((bt391.1.set (bt396.1 : Int).toNat (⟨bt405.1, (rd_T73 bt391.1 bt396.1).f1, (rd_T73 bt391.1 bt396.1).f2, (rd_T73 bt391.1 bt396.1).f3, (rd_T73 bt391.1 bt396.1).f4⟩ : S73)), bt405.2.1, bt405.2.2)) else (none)) else (none))) else (if bt399.1 = 1 then ((spec_l4Raw.f s0_0 bt399.2.1 bt399.2.2).bind fun bt409 => (if 0 ≤ bt396.1 then (if bt396.1 < (bt391.1.length : Int) then (some ((bt391.1.set (bt396.1 : Int).toNat (⟨(rd_T73 bt391.1 bt396.1).f0, bt409.1, (rd_T73 bt391.1 bt396.1).f2, (rd_T73 bt391.1 bt396.1).f3, (rd_T73 bt391.1 bt396.1).f4⟩ : S73)), bt409.2.1, bt409.2.2)) else (none)) else (none))) else (if bt399.1 = 2 then ((spec_l1Int.f s0_0 bt399.2.1 bt399.2.2 (([(-1), 100000, 100001] : List Int))).bind fun bt416 => (if 0 ≤ bt396.1 then (if bt396.1 < (bt391.1.length : Int) then (some ((bt391.1.set (bt396.1 : Int).toNat (⟨(rd_T73 bt391.1 bt396.1).f0, (rd_T73 bt391.1 bt396.1).f1, (rd_T73 bt391.1 bt396.1).f2, bt416.1, (rd_T73 bt391.1 bt396.1).f4⟩ : S73)), bt416.2.1, bt416.2.2)) else (none)) else (none))) else (if bt399.1 = 3 then ((spec_l1Int.f s0_0 bt399.2.1 bt399.2.2 (([(-1), 3, 4] : List Int))).bind fun bt423 => (if 0 ≤ bt396.1 then (if bt396.1 < (bt391.1.length : Int) then (some ((bt391.1.set (bt396.1 : Int).toNat (⟨(rd_T73 bt391.1 bt396.1).f0, (rd_T73 bt391.1 bt396.1).f1, (rd_T73 bt391.1 bt396.1).f2, (rd_T73 bt391.1 bt396.1).f3, bt423.1⟩ : S73)), bt423.2.1, bt423.2.2)) else (none)) else (none))) else (some (bt391.1, bt399.2.1, bt399.2.2)))))))))) = some (r1, r2, r3) := h
 clear h
 replace H := Option.bind_eq_some_iff.mp H
 obtain ⟨⟨t391, t394, t395⟩, A20, H⟩ := H
 replace H : (if (t391.length : Int) = 0 then (some (t391, t394, t395)) else ((spec_l1Below.f s0_0 t394 t395 (t391.length : Int)).bind fun bt396 => ((spec_l1Below.f s0_0 bt396.2.1 bt396.2.2 10).bind fun bt399 => (if bt399.1 = 0 then ((spec_l1Int.f s0_0 bt399.2.1 bt399.2.2 (([0, 2, 999, 1000] : List Int))).bind fun bt405 => (if 0 ≤ bt396.1 then (if bt396.1 < (t391.length : Int) then (some ((t391.set (bt396.1 : Int).toNat (⟨bt405.1, (rd_T73 t391 bt396.1).f1, (rd_T73 t391 bt396.1).f2, (rd_T73 t391 bt396.1).f3, (rd_T73 t391 bt396.1).f4⟩ : S73)), bt405.2.1, bt405.2.2)) else (none)) else (none))) else (if bt399.1 = 1 then ((spec_l4Raw.f s0_0 bt399.2.1 bt399.2.2).bind fun bt409 => (if 0 ≤ bt396.1 then (if bt396.1 < (t391.length : Int) then (some ((t391.set (bt396.1 : Int).toNat (⟨(rd_T73 t391 bt396.1).f0, bt409.1, (rd_T73 t391 bt396.1).f2, (rd_T73 t391 bt396.1).f3, (rd_T73 t391 bt396.1).f4⟩ : S73)), bt409.2.1, bt409.2.2)) else (none)) else (none))) else (if bt399.1 = 2 then ((spec_l1Int.f s0_0 bt399.2.1 bt399.2.2 (([(-1), 100000, 100001] : List Int))).bind fun bt416 => (if 0 ≤ bt396.1 then (if bt396.1 < (t391.length : Int) then (some ((t391.set (bt396.1 : Int).toNat (⟨(rd_T73 t391 bt396.1).f0, (rd_T73 t391 bt396.1).f1, (rd_T73 t391 bt396.1).f2, bt416.1, (rd_T73 t391 bt396.1).f4⟩ : S73)), bt416.2.1, bt416.2.2)) else (none)) else (none))) else (if bt399.1 = 3 then ((spec_l1Int.f s0_0 bt399.2.1 bt399.2.2 (([(-1), 3, 4] : List Int))).bind fun bt423 => (if 0 ≤ bt396.1 then (if bt396.1 < (t391.length : Int) then (some ((t391.set (bt396.1 : Int).toNat (⟨(rd_T73 t391 bt396.1).f0, (rd_T73 t391 bt396.1).f1, (rd_T73 t391 bt396.1).f2, (rd_T73 t391 bt396.1).f3, bt423.1⟩ : S73)), bt423.2.1, bt423.2.2)) else (none)) else (none))) else (some (t391, bt399.2.1, bt399.2.2))))))))) = some (r1, r2, r3) := H
 have A2 := Aside0.mk A20
 clear A20
 by_cases c3 : (t391.length : Int) = 0
 ·
  rw [if_pos c3] at H
  have c3b0 : ((t391.length : Int) == 0) = true := beq_iff_eq.mpr c3
  have c3b1 : ((t391.length : Int) != 0) = false := bne_eq_false_iff_eq.mpr c3
  clear c3
  simp only [Option.some.injEq, Prod.mk.injEq] at H
  obtain ⟨rfl, rfl, rfl⟩ := H
  go_enter Tryd.func38, Tryd.ntmps38
  go_wp2_with (first | ((with_reducible refine gate_callee (f := 58) rfl ?_); refine goesL_ (some 6) rfl rfl Tryd.func58 (by kernel_rfl) rfl #[.pointer (some ⟨g, 0, none⟩)] rfl ma_ ?_; (with_reducible refine (spec_l13Draw.calls k g s0_0 s0_1 s0_2 t391 t394 t395 w0 _ ?side1 ?side2 A2.out).mono ?_); (case side1 => repeat (first | (with_reducible first | exact HI0.out | apply IsS69.alloc | apply IsS69.drewN | apply IsS69.drew | apply IsS69.set_1 | apply IsS69.set_2) | exact HI0.out)); (case side2 => repeat (first | (with_reducible first | exact HB.out | apply below_alloc | apply pw_below_drewN | apply below_drew1 | refine below_set ?_ (IsS69.ge HI0.out)) | exact HB.out)); rintro e w4 ⟨v392, rfl, ho0, hi, hb, hk⟩; refine ⟨_, rfl, ?_⟩; have HO393 := Aside0.mk (Kd.R_lower ho0 (keep_size (w := w) (g := g) (row := none) y95_)); have n1_ := Aside0.mk (KeepBut.trans y95_ hk (.inl rfl)); have n2_ := Aside0.mk (hb); have n3_ := Aside0.mk (hi); clear HK; clear HB; clear HI0; have HK := n1_; have HB := n2_; have HI0 := n3_; clear n1_ n2_ n3_; (try clear hb); (try clear hk); (try clear hi); (try clear ho0); obtain ⟨Ao5, co5, eo5⟩ := Kd.R_slice HO393.out; subst eo5))
  go_ret
  exact ⟨_, by first | rfl | (simp [errW_none, errW_some] <;> rfl) | (simp [*, errW_none, errW_some] <;> rfl), rd_ HO393.out, y101_, y100_, y102_⟩
 ·
  rw [if_neg c3] at H
  have c3b0 : ((t391.length : Int) == 0) = false := beq_eq_false_iff_ne.mpr c3
  have c3b1 : ((t391.length : Int) != 0) = true := bne_iff_ne.mpr c3
  have c3b2 : ¬ (t391 = []) := fun h_ => c3 (by rw [h_]; rfl)
  replace H := Option.bind_eq_some_iff.mp H
  obtain ⟨⟨t396, t397, t398⟩, A60, H⟩ := H
  replace H : ((spec_l1Below.f s0_0 t397 t398 10).bind fun bt399 => (if bt399.1 = 0 then ((spec_l1Int.f s0_0 bt399.2.1 bt399.2.2 (([0, 2, 999, 1000] : List Int))).bind fun bt405 => (if 0 ≤ t396 then (if t396 < (t391.length : Int) then (some ((t391.set (t396 : Int).toNat (⟨bt405.1, (rd_T73 t391 t396).f1, (rd_T73 t391 t396).f2, (rd_T73 t391 t396).f3, (rd_T73 t391 t396).f4⟩ : S73)), bt405.2.1, bt405.2.2)) else (none)) else (none))) else (if bt399.1 = 1 then ((spec_l4Raw.f s0_0 bt399.2.1 bt399.2.2).bind fun bt409 => (if 0 ≤ t396 then (if t396 < (t391.length : Int) then (some ((t391.set (t396 : Int).toNat (⟨(rd_T73 t391 t396).f0, bt409.1, (rd_T73 t391 t396).f2, (rd_T73 t391 t396).f3, (rd_T73 t391 t396).f4⟩ : S73)), bt409.2.1, bt409.2.2)) else (none)) else (none))) else (if bt399.1 = 2 then ((spec_l1Int.f s0_0 bt399.2.1 bt399.2.2 (([(-1), 100000, 100001] : List Int))).bind fun bt416 => (if 0 ≤ t396 then (if t396 < (t391.length : Int) then (some ((t391.set (t396 : Int).toNat (⟨(rd_T73 t391 t396).f0, (rd_T73 t391 t396).f1, (rd_T73 t391 t396).f2, bt416.1, (rd_T73 t391 t396).f4⟩ : S73)), bt416.2.1, bt416.2.2)) else (none)) else (none))) else (if bt399.1 = 3 then ((spec_l1Int.f s0_0 bt399.2.1 bt399.2.2 (([(-1), 3, 4] : List Int))).bind fun bt423 => (if 0 ≤ t396 then (if t396 < (t391.length : Int) then (some ((t391.set (t396 : Int).toNat (⟨(rd_T73 t391 t396).f0, (rd_T73 t391 t396).f1, (rd_T73 t391 t396).f2, (rd_T73 t391 t396).f3, bt423.1⟩ : S73)), bt423.2.1, bt423.2.2)) else (none)) else (none))) else (some (t391, bt399.2.1, bt399.2.2))))))) = some (r1, r2, r3) := H
  have A6 := Aside0.mk A60
  clear A60
  replace H := Option.bind_eq_some_iff.mp H
  obtain ⟨⟨t399, t400, t401⟩, A70, H⟩ := H
  replace H : (if t399 = 0 then ((spec_l1Int.f s0_0 t400 t401 (([0, 2, 999, 1000] : List Int))).bind fun bt405 => (if 0 ≤ t396 then (if t396 < (t391.length : Int) then (some ((t391.set (t396 : Int).toNat (⟨bt405.1, (rd_T73 t391 t396).f1, (rd_T73 t391 t396).f2, (rd_T73 t391 t396).f3, (rd_T73 t391 t396).f4⟩ : S73)), bt405.2.1, bt405.2.2)) else (none)) else (none))) else (if t399 = 1 then ((spec_l4Raw.f s0_0 t400 t401).bind fun bt409 => (if 0 ≤ t396 then (if t396 < (t391.length : Int) then (some ((t391.set (t396 : Int).toNat (⟨(rd_T73 t391 t396).f0, bt409.1, (rd_T73 t391 t396).f2, (rd_T73 t391 t396).f3, (rd_T73 t391 t396).f4⟩ : S73)), bt409.2.1, bt409.2.2)) else (none)) else (none))) else (if t399 = 2 then ((spec_l1Int.f s0_0 t400 t401 (([(-1), 100000, 100001] : List Int))).bind fun bt416 => (if 0 ≤ t396 then (if t396 < (t391.length : Int) then (some ((t391.set (t396 : Int).toNat (⟨(rd_T73 t391 t396).f0, (rd_T73 t391 t396).f1, (rd_T73 t391 t396).f2, bt416.1, (rd_T73 t391 t396).f4⟩ : S73)), bt416.2.1, bt416.2.2)) else (none)) else (none))) else (if t399 = 3 then ((spec_l1Int.f s0_0 t400 t401 (([(-1), 3, 4] : List Int))).bind fun bt423 => (if 0 ≤ t396 then (if t396 < (t391.length : Int) then (some ((t391.set (t396 : Int).toNat (⟨(rd_T73 t391 t396).f0, (rd_T73 t391 t396).f1, (rd_T73 t391 t396).f2, (rd_T73 t391 t396).f3, bt423.1⟩ : S73)), bt423.2.1, bt423.2.2)) else (none)) else (none))) else (some (t391, t400, t401)))))) = some (r1, r2, r3) := H
  have A7 := Aside0.mk A70
  clear A70
  by_cases c8 : t399 = 0
  ·
   rw [if_pos c8] at H
   have c8b0 : (t399 == 0) = true := beq_iff_eq.mpr c8
   have c8b1 : (t399 != 0) = false := bne_eq_false_iff_eq.mpr c8
   clear c8
   obtain ⟨y402, hy402⟩ : ∃ y_ : List Int, y_ = (([0, 2, 999, 1000] : List Int)) := ⟨_, rfl⟩
   replace H : ((spec_l1Int.f s0_0 t400 t401 y402).bind fun bt405 => (if 0 ≤ t396 then (if t396 < (t391.length : Int) then (some ((t391.set (t396 : Int).toNat (⟨bt405.1, (rd_T73 t391 t396).f1, (rd_T73 t391 t396).f2, (rd_T73 t391 t396).f3, (rd_T73 t391 t396).f4⟩ : S73)), bt405.2.1, bt405.2.2)) else (none)) else (none))) = some (r1, r2, r3) := by first | (rw [hy402]; with_reducible exact H) | (have H2_ := (Option.bind_some _ _).symm.trans H; rw [hy402]; with_reducible exact H2_) | (have H2_ := (Option.bind_some _ _).symm.trans H; with_reducible exact H2_) | with_reducible exact H | (rw [hy402]; exact H) | exact H
   have Ny402 := Aside0.mk hy402
   clear hy402
   replace H := Option.bind_eq_some_iff.mp H
   obtain ⟨⟨t405, t406, t407⟩, A90, H⟩ := H
   replace H : (if 0 ≤ t396 then (if t396 < (t391.length : Int) then (some ((t391.set (t396 : Int).toNat (⟨t405, (rd_T73 t391 t396).f1, (rd_T73 t391 t396).f2, (rd_T73 t391 t396).f3, (rd_T73 t391 t396).f4⟩ : S73)), t406, t407)) else (none)) else (none)) = some (r1, r2, r3) := H
   have A9 := Aside0.mk A90
   clear A90
   by_cases c10 : 0 ≤ t396
   ·
    rw [if_pos c10] at H
    have c10b0 : decide (0 ≤ t396) = true := decide_eq_true c10
    clear c10
    by_cases c11 : t396 < (t391.length : Int)
    ·
     rw [if_pos c11] at H
     have c11b0 : decide (t396 < (t391.length : Int)) = true := decide_eq_true c11
     clear c11
     obtain ⟨y408, hy408⟩ : ∃ y_ : List (S73), y_ = (t391.set (t396 : Int).toNat (⟨t405, (rd_T73 t391 t396).f1, (rd_T73 t391 t396).f2, (rd_T73 t391 t396).f3, (rd_T73 t391 t396).f4⟩ : S73)) := ⟨_, rfl⟩
     replace H : (some (y408, t406, t407)) = some (r1, r2, r3) := by first | (rw [hy408]; with_reducible exact H) | (have H2_ := (Option.bind_some _ _).symm.trans H; rw [hy408]; with_reducible exact H2_) | (have H2_ := (Option.bind_some _ _).symm.trans H; with_reducible exact H2_) | with_reducible exact H | (rw [hy408]; exact H) | exact H
     have Ny408 := Aside0.mk hy408
     clear hy408
     simp only [Option.some.injEq, Prod.mk.injEq] at H
     obtain ⟨rfl, rfl, rfl⟩ := H
     go_enter Tryd.func38, Tryd.ntmps38
     go_wp2_with (first | ((with_reducible refine gate_callee (f := 58) rfl ?_); refine goesL_ (some 6) rfl rfl Tryd.func58 (by kernel_rfl) rfl #[.pointer (some ⟨g, 0, none⟩)] rfl ma_ ?_; (with_reducible refine (spec_l13Draw.calls k g s0_0 s0_1 s0_2 t391 t394 t395 w0 _ ?side1 ?side2 A2.out).mono ?_); (case side1 => repeat (first | (with_reducible first | exact HI0.out | apply IsS69.alloc | apply IsS69.drewN | apply IsS69.drew | apply IsS69.set_1 | apply IsS69.set_2) | exact HI0.out)); (case side2 => repeat (first | (with_reducible first | exact HB.out | apply below_alloc | apply pw_below_drewN | apply below_drew1 | refine below_set ?_ (IsS69.ge HI0.out)) | exact HB.out)); rintro e w13 ⟨v392, rfl, ho0, hi, hb, hk⟩; refine ⟨_, rfl, ?_⟩; have HO393 := Aside0.mk (Kd.R_lower ho0 (keep_size (w := w) (g := g) (row := none) y95_)); have n1_ := Aside0.mk (KeepBut.trans y95_ hk (.inl rfl)); have n2_ := Aside0.mk (hb); have n3_ := Aside0.mk (hi); clear HK; clear HB; clear HI0; have HK := n1_; have HB := n2_; have HI0 := n3_; clear n1_ n2_ n3_; (try clear hb); (try clear hk); (try clear hi); (try clear ho0); obtain ⟨Ao14, co14, eo14⟩ := Kd.R_slice HO393.out; subst eo14) | ((with_reducible refine gate_callee (f := 41) rfl ?_); refine goesL_ (some 14) rfl rfl Tryd.func41 (by kernel_rfl) rfl #[.pointer (some ⟨g, 0, none⟩), .int .i64 (t391.length : Int)] rfl ma_ ?_; (with_reducible refine (spec_l1Below.calls g s0_0 t394 t395 (t391.length : Int) t396 t397 t398 w0 _ ?side1 ?side2 A6.out).mono ?_); (case side1 => repeat (first | (with_reducible first | exact HI0.out | apply IsS69.alloc | apply IsS69.drewN | apply IsS69.drew | apply IsS69.set_1 | apply IsS69.set_2) | exact HI0.out)); (case side2 => repeat (first | (with_reducible first | exact HB.out | apply below_alloc | apply pw_below_drewN | apply below_drew1 | refine below_set ?_ (IsS69.ge HI0.out)) | exact HB.out)); rintro e w15 ⟨rfl, hi, hb, hk⟩; refine ⟨_, rfl, ?_⟩; have n0_ := Aside0.mk (Kd.R_mono (Kd.R_keep (IsS69.apart (show IsS69 w0 _ g s0_0 t394 t395 from y101_) (rd_ HO393.out) (by decide)) hk (fun _ h => h.2)) (fun _ h => h.1)); have n1_ := Aside0.mk (KeepBut.trans y95_ hk (.inl rfl)); have n2_ := Aside0.mk (hb); have n3_ := Aside0.mk (hi); clear HO393; clear HK; clear HB; clear HI0; have HO393 := n0_; have HK := n1_; have HB := n2_; have HI0 := n3_; clear n0_ n1_ n2_ n3_; (try clear hb); (try clear hk); (try clear hi)) | ((with_reducible refine gate_callee (f := 41) rfl ?_); refine goesL_ (some 16) rfl rfl Tryd.func41 (by kernel_rfl) rfl #[.pointer (some ⟨g, 0, none⟩), .int .i64 10] rfl ma_ ?_; (with_reducible refine (spec_l1Below.calls g s0_0 t397 t398 10 t399 t400 t401 w0 _ ?side1 ?side2 A7.out).mono ?_); (case side1 => repeat (first | (with_reducible first | exact HI0.out | apply IsS69.alloc | apply IsS69.drewN | apply IsS69.drew | apply IsS69.set_1 | apply IsS69.set_2) | exact HI0.out)); (case side2 => repeat (first | (with_reducible first | exact HB.out | apply below_alloc | apply pw_below_drewN | apply below_drew1 | refine below_set ?_ (IsS69.ge HI0.out)) | exact HB.out)); rintro e w16 ⟨rfl, hi, hb, hk⟩; refine ⟨_, rfl, ?_⟩; have n0_ := Aside0.mk (Kd.R_mono (Kd.R_keep (IsS69.apart (show IsS69 w0 _ g s0_0 t397 t398 from y101_) (rd_ HO393.out) (by decide)) hk (fun _ h => h.2)) (fun _ h => h.1)); have n1_ := Aside0.mk (KeepBut.trans y95_ hk (.inl rfl)); have n2_ := Aside0.mk (hb); have n3_ := Aside0.mk (hi); clear HO393; clear HK; clear HB; clear HI0; have HO393 := n0_; have HK := n1_; have HB := n2_; have HI0 := n3_; clear n0_ n1_ n2_ n3_; (try clear hb); (try clear hk); (try clear hi)) | ((with_reducible refine gate_dst (N := 22) rfl ?_); refine Kd.R_lit (Kd.int .i64) _ 3 ?hg (N := 22) ?hd (xs := ([0, 2, 999, 1000] : List Int)) (inner := [.int .i64 0, .int .i64 2, .int .i64 999, .int .i64 1000]) (ok := fun _ => True) (okp := fun _ => True) ?hr ?hp (fun _ hk => hk) trivial (Below.refl _ _) (Nat.le_refl _) (by simp) ?_; (case hd => rfl); (case hg => rfl); (case hr => first | (go_simp; done) | (go_simp; rfl)); (case hp => exact (Reps.one (show Kd.M (Kd.int .i64) _ _ _ 0 [.int .i64 0] from rfl) (Reps.one (show Kd.M (Kd.int .i64) _ _ _ 2 [.int .i64 2] from rfl) (Reps.one (show Kd.M (Kd.int .i64) _ _ _ 999 [.int .i64 999] from rfl) (Reps.one (show Kd.M (Kd.int .i64) _ _ _ 1000 [.int .i64 1000] from rfl) (Reps.none _ _)))))); intro v403 w17 ho18 hb hg_ hnew_; clear hg_ hnew_; (first | rw [← Ny402.out] at ho18 | (simp only [Int.reduceToNat] at ho18; rw [← Ny402.out] at ho18)); have n0_ := Aside0.mk (Kd.R_below (rd_ HO393.out) hb); have HO404 := Aside0.mk (Kd.R_lower ho18 (keep_size (w := w) (g := g) (row := none) y95_)); have n2_ := Aside0.mk (IsS69.below y99_ hb); have n3_ := Aside0.mk (KeepBut.trans y95_ (KeepBut.of_below hb g none) (.inl rfl)); have n4_ := Aside0.mk (below_step (y100_) hb); clear HO393; clear HI0; clear HK; clear HB; have HO393 := n0_; have HI0 := n2_; have HK := n3_; have HB := n4_; clear n0_ n2_ n3_ n4_; clear hb ho18; obtain ⟨Ao19, co19, eo19⟩ := Kd.R_slice HO404.out; subst eo19) | ((with_reducible refine gate_callee (f := 56) rfl ?_); refine goesL_ (some 23) rfl rfl Tryd.func56 (by kernel_rfl) rfl #[.pointer (some ⟨g, 0, none⟩), .slice Ao19 y402.length co19] rfl ma_ ?_; (with_reducible refine (spec_l1Int.calls g s0_0 t400 t401 _ _ y402 t405 t406 t407 w0 _ ?side1 ?side2 ?side3 ?side4 ?side5 A9.out).mono ?_); (case side1 => repeat (first | (with_reducible first | exact HI0.out | apply IsS69.alloc | apply IsS69.drewN | apply IsS69.drew | apply IsS69.set_1 | apply IsS69.set_2) | exact HI0.out)); (case side2 => repeat (first | (with_reducible first | exact HB.out | apply below_alloc | apply pw_below_drewN | apply below_drew1 | refine below_set ?_ (IsS69.ge HI0.out)) | exact HB.out)); (case side3 => exact cd_ (Kd.R_reads' HO404.out).2.2); (case side4 => exact (Kd.R_reads' HO404.out).2.1); (case side5 => exact far_slice (IsS69.own_ne HI0.out HO404.out (by decide))); rintro e w20 ⟨rfl, hi, hb, hk⟩; refine ⟨_, rfl, ?_⟩; have n0_ := Aside0.mk (Kd.R_mono (Kd.R_keep (IsS69.apart (show IsS69 w0 _ g s0_0 t400 t401 from y101_) (rd_ HO393.out) (by decide)) hk (fun _ h => h.2)) (fun _ h => h.1)); have n1_ := Aside0.mk (Kd.R_mono (Kd.R_keep (IsS69.apart (show IsS69 w0 _ g s0_0 t400 t401 from y101_) (rd_ HO404.out) (by decide)) hk (fun _ h => h.2)) (fun _ h => h.1)); have n2_ := Aside0.mk (KeepBut.trans y95_ hk (.inl rfl)); have n3_ := Aside0.mk (hb); have n4_ := Aside0.mk (hi); clear HO393; clear HO404; clear HK; clear HB; clear HI0; have HO393 := n0_; have HO404 := n1_; have HK := n2_; have HB := n3_; have HI0 := n4_; clear n0_ n1_ n2_ n3_ n4_; (try clear hb); (try clear hk); (try clear hi); have p12 : 0 ≤ (t396 : Int) := of_decide_eq_true as_; have q12 : (t396 : Int) < ((t391.length : Int) : Int) := of_decide_eq_true as_; obtain ⟨go12, co12, eo12, gb12, gl12, cl12, HG12⟩ := Kd.R_form HO393.out (by omega); (first | cases eo12 | (injection eo12 with ea_ en_ ec_; (first | subst ea_ | (injection ea_ with ea_; subst ea_)); subst ec_; clear en_)); have GB12 := Aside0.mk gb12; have GG12 := Aside0.mk HG12; clear gb12 gl12 HG12; obtain ⟨ce12, hcl12, hM12, hcc12, hfr12⟩ := Kd.R_elem HO393.out z73 (t396 : Int) p12 q12; obtain rfl := k73_openM hM12; have hx12_0 : w20.cell? ⟨go12, (t396 : Int).toNat * 5, none⟩ = some (.int .i64 ((rd_T73 t391 t396).f0)) := hcc12 0 _ rfl; have hx12_1 : w20.cell? ⟨go12, (t396 : Int).toNat * 5 + 1, none⟩ = some (.int .i64 ((rd_T73 t391 t396).f1)) := hcc12 1 _ rfl; have hx12_2 : w20.cell? ⟨go12, (t396 : Int).toNat * 5 + 2, none⟩ = some (.int .i64 ((rd_T73 t391 t396).f2)) := hcc12 2 _ rfl; have hx12_3 : w20.cell? ⟨go12, (t396 : Int).toNat * 5 + 3, none⟩ = some (.int .i64 ((rd_T73 t391 t396).f3)) := hcc12 3 _ rfl; have hx12_4 : w20.cell? ⟨go12, (t396 : Int).toNat * 5 + 4, none⟩ = some (.int .i64 ((rd_T73 t391 t396).f4)) := hcc12 4 _ rfl; have hf12_0 : w20.frozen? ⟨go12, (t396 : Int).toNat * 5, none⟩ = false := hfr12 0; have hf12_1 : w20.frozen? ⟨go12, (t396 : Int).toNat * 5 + 1, none⟩ = false := hfr12 1; have hf12_2 : w20.frozen? ⟨go12, (t396 : Int).toNat * 5 + 2, none⟩ = false := hfr12 2; have hf12_3 : w20.frozen? ⟨go12, (t396 : Int).toNat * 5 + 3, none⟩ = false := hfr12 3; have hf12_4 : w20.frozen? ⟨go12, (t396 : Int).toNat * 5 + 4, none⟩ = false := hfr12 4; clear hcl12 hcc12 hfr12 hM12; replace p12 := eq_true p12; replace q12 := eq_true q12; have HX21 := Aside0.mk (show Kd.R k73 73 w20 w.heap.size (fun _ => True) (.slice (some ⟨go12, 0, none⟩) t391.length co14) t391 from (rd_ HO393.out)); obtain ⟨ce21, hcl21, hM21, hcc21, hfr21⟩ := Kd.R_elem HX21.out z73 (t396 : Int) (of_decide_eq_true as_) (by have h_ : (t396 : Int) < ((t391.length : Int) : Int) := of_decide_eq_true as_; first | exact h_ | (have e_ := (Kd.R_reads' HO393.out).1; omega) | simpa using h_); obtain rfl := k73_openM hM21; have HP21 := Kd.R_seg HX21.out (t396 : Int) (of_decide_eq_true as_) (by have h_ : (t396 : Int) < ((t391.length : Int) : Int) := of_decide_eq_true as_; first | exact h_ | (have e_ := (Kd.R_reads' HO393.out).1; omega) | simpa using h_) (seg := [.int .i64 t405]) (j := 0) hcl21 hcc21 (show 1 ≤ 5 from by decide) (x' := (⟨t405, (rd_T73 t391 t396).f1, (rd_T73 t391 t396).f2, (rd_T73 t391 t396).f3, (rd_T73 t391 t396).f4⟩ : S73)) (k73_mkM _ _ _ (⟨t405, (rd_T73 t391 t396).f1, (rd_T73 t391 t396).f2, (rd_T73 t391 t396).f3, (rd_T73 t391 t396).f4⟩ : S73) ) (fun _ hk => hk); have hx21_0 := hcc21 0 _ rfl; (try simp only [show (k73).sz = 5 from rfl, Nat.mul_one, Nat.add_zero] at hx21_0); have hf21_0 := hfr21 0; (try simp only [show (k73).sz = 5 from rfl, Nat.mul_one, Nat.add_zero] at hf21_0); clear hcl21 hcc21 hfr21 hM21) | ((with_reducible refine gate_store (t := 3) (p := 25) rfl ?_); refine store_event (t := 3) (p := 25) (v := ?vo_w22) (w1 := (w20.setCell ⟨go12, (t396 : Int).toNat * 5, none⟩ (.int .i64 t405))) ?hg ?ho ?hn ?hr ?_; (case ho => rfl); (case hg => rfl); (case hn => rfl); (case hr => first | (go_simp; done) | (go_simp; rfl)); intro w22 hw; have hg : w20.grownBy w22 (some go12) := (by rw [hw]; exact HP21.2); have hp_ : Kd.R k73 73 w22 w.heap.size (fun _ => True) (.slice (some ⟨go12, 0, none⟩) t391.length co14) y408 := (by rw [hw, Ny408.out]; exact HP21.1); clear HP21; have n0_ := Aside0.mk (IsS69.grown y99_ hg (IsS69.own_ne HI0.out HO393.out (by decide))); have n1_ := Aside0.mk (hp_); have n2_ := Aside0.mk (Kd.R_over' (v := (.slice (some ⟨go12, 0, none⟩) t391.length co14)) (rd_ HO404.out) (Kd.R_typed HO393.out) (by decide) hg); have n3_ := Aside0.mk ((by rw [hw]; exact below_set (HB.out) (Nat.le_trans HL.out GB12.out) : Below w0.heap.size w0 w22)); have n4_ := Aside0.mk (KeepBut.trans y95_ (KeepBut.of_grown hg g) (Kd.R_base2 HO393.out)); clear HI0; clear HO393; clear HO404; clear HB; clear HK; have HI0 := n0_; have HO393 := n1_; have HO404 := n2_; have HB := n3_; have HK := n4_; clear n0_ n1_ n2_ n3_ n4_; clear hg hw hp_))
     go_ret
     exact ⟨_, by first | rfl | (simp [errW_none, errW_some] <;> rfl) | (simp [*, errW_none, errW_some] <;> rfl), rd_ HO393.out, y101_, y100_, y102_⟩
    ·
     rw [if_neg c11] at H
     exact absurd H (by simp)
   ·
    rw [if_neg c10] at H
    exact absurd H (by simp)
  ·
   rw [if_neg c8] at H
   have c8b0 : (t399 == 0) = false := beq_eq_false_iff_ne.mpr c8
   have c8b1 : (t399 != 0) = true := bne_iff_ne.mpr c8
   by_cases c23 : t399 = 1
   ·
    rw [if_pos c23] at H
    have c23b0 : (t399 == 1) = true := beq_iff_eq.mpr c23
    have c23b1 : (t399 != 1) = false := bne_eq_false_iff_eq.mpr c23
    clear c23
    replace H := Option.bind_eq_some_iff.mp H
    obtain ⟨⟨t409, t410, t411⟩, A240, H⟩ := H
    replace H : (if 0 ≤ t396 then (if t396 < (t391.length : Int) then (some ((t391.set (t396 : Int).toNat (⟨(rd_T73 t391 t396).f0, t409, (rd_T73 t391 t396).f2, (rd_T73 t391 t396).f3, (rd_T73 t391 t396).f4⟩ : S73)), t410, t411)) else (none)) else (none)) = some (r1, r2, r3) := H
    have A24 := Aside0.mk A240
    clear A240
    by_cases c25 : 0 ≤ t396
    ·
     rw [if_pos c25] at H
     have c25b0 : decide (0 ≤ t396) = true := decide_eq_true c25
     clear c25
     by_cases c26 : t396 < (t391.length : Int)
     ·
      rw [if_pos c26] at H
      have c26b0 : decide (t396 < (t391.length : Int)) = true := decide_eq_true c26
      clear c26
      obtain ⟨y412, hy412⟩ : ∃ y_ : List (S73), y_ = (t391.set (t396 : Int).toNat (⟨(rd_T73 t391 t396).f0, t409, (rd_T73 t391 t396).f2, (rd_T73 t391 t396).f3, (rd_T73 t391 t396).f4⟩ : S73)) := ⟨_, rfl⟩
      replace H : (some (y412, t410, t411)) = some (r1, r2, r3) := by first | (rw [hy412]; with_reducible exact H) | (have H2_ := (Option.bind_some _ _).symm.trans H; rw [hy412]; with_reducible exact H2_) | (have H2_ := (Option.bind_some _ _).symm.trans H; with_reducible exact H2_) | with_reducible exact H | (rw [hy412]; exact H) | exact H
      have Ny412 := Aside0.mk hy412
      clear hy412
      simp only [Option.some.injEq, Prod.mk.injEq] at H
      obtain ⟨rfl, rfl, rfl⟩ := H
      go_enter Tryd.func38, Tryd.ntmps38
      go_wp2_with (first | ((with_reducible refine gate_callee (f := 58) rfl ?_); refine goesL_ (some 6) rfl rfl Tryd.func58 (by kernel_rfl) rfl #[.pointer (some ⟨g, 0, none⟩)] rfl ma_ ?_; (with_reducible refine (spec_l13Draw.calls k g s0_0 s0_1 s0_2 t391 t394 t395 w0 _ ?side1 ?side2 A2.out).mono ?_); (case side1 => repeat (first | (with_reducible first | exact HI0.out | apply IsS69.alloc | apply IsS69.drewN | apply IsS69.drew | apply IsS69.set_1 | apply IsS69.set_2) | exact HI0.out)); (case side2 => repeat (first | (with_reducible first | exact HB.out | apply below_alloc | apply pw_below_drewN | apply below_drew1 | refine below_set ?_ (IsS69.ge HI0.out)) | exact HB.out)); rintro e w28 ⟨v392, rfl, ho0, hi, hb, hk⟩; refine ⟨_, rfl, ?_⟩; have HO393 := Aside0.mk (Kd.R_lower ho0 (keep_size (w := w) (g := g) (row := none) y95_)); have n1_ := Aside0.mk (KeepBut.trans y95_ hk (.inl rfl)); have n2_ := Aside0.mk (hb); have n3_ := Aside0.mk (hi); clear HK; clear HB; clear HI0; have HK := n1_; have HB := n2_; have HI0 := n3_; clear n1_ n2_ n3_; (try clear hb); (try clear hk); (try clear hi); (try clear ho0); obtain ⟨Ao29, co29, eo29⟩ := Kd.R_slice HO393.out; subst eo29) | ((with_reducible refine gate_callee (f := 41) rfl ?_); refine goesL_ (some 14) rfl rfl Tryd.func41 (by kernel_rfl) rfl #[.pointer (some ⟨g, 0, none⟩), .int .i64 (t391.length : Int)] rfl ma_ ?_; (with_reducible refine (spec_l1Below.calls g s0_0 t394 t395 (t391.length : Int) t396 t397 t398 w0 _ ?side1 ?side2 A6.out).mono ?_); (case side1 => repeat (first | (with_reducible first | exact HI0.out | apply IsS69.alloc | apply IsS69.drewN | apply IsS69.drew | apply IsS69.set_1 | apply IsS69.set_2) | exact HI0.out)); (case side2 => repeat (first | (with_reducible first | exact HB.out | apply below_alloc | apply pw_below_drewN | apply below_drew1 | refine below_set ?_ (IsS69.ge HI0.out)) | exact HB.out)); rintro e w30 ⟨rfl, hi, hb, hk⟩; refine ⟨_, rfl, ?_⟩; have n0_ := Aside0.mk (Kd.R_mono (Kd.R_keep (IsS69.apart (show IsS69 w0 _ g s0_0 t394 t395 from y101_) (rd_ HO393.out) (by decide)) hk (fun _ h => h.2)) (fun _ h => h.1)); have n1_ := Aside0.mk (KeepBut.trans y95_ hk (.inl rfl)); have n2_ := Aside0.mk (hb); have n3_ := Aside0.mk (hi); clear HO393; clear HK; clear HB; clear HI0; have HO393 := n0_; have HK := n1_; have HB := n2_; have HI0 := n3_; clear n0_ n1_ n2_ n3_; (try clear hb); (try clear hk); (try clear hi)) | ((with_reducible refine gate_callee (f := 41) rfl ?_); refine goesL_ (some 16) rfl rfl Tryd.func41 (by kernel_rfl) rfl #[.pointer (some ⟨g, 0, none⟩), .int .i64 10] rfl ma_ ?_; (with_reducible refine (spec_l1Below.calls g s0_0 t397 t398 10 t399 t400 t401 w0 _ ?side1 ?side2 A7.out).mono ?_); (case side1 => repeat (first | (with_reducible first | exact HI0.out | apply IsS69.alloc | apply IsS69.drewN | apply IsS69.drew | apply IsS69.set_1 | apply IsS69.set_2) | exact HI0.out)); (case side2 => repeat (first | (with_reducible first | exact HB.out | apply below_alloc | apply pw_below_drewN | apply below_drew1 | refine below_set ?_ (IsS69.ge HI0.out)) | exact HB.out)); rintro e w31 ⟨rfl, hi, hb, hk⟩; refine ⟨_, rfl, ?_⟩; have n0_ := Aside0.mk (Kd.R_mono (Kd.R_keep (IsS69.apart (show IsS69 w0 _ g s0_0 t397 t398 from y101_) (rd_ HO393.out) (by decide)) hk (fun _ h => h.2)) (fun _ h => h.1)); have n1_ := Aside0.mk (KeepBut.trans y95_ hk (.inl rfl)); have n2_ := Aside0.mk (hb); have n3_ := Aside0.mk (hi); clear HO393; clear HK; clear HB; clear HI0; have HO393 := n0_; have HK := n1_; have HB := n2_; have HI0 := n3_; clear n0_ n1_ n2_ n3_; (try clear hb); (try clear hk); (try clear hi)) | ((with_reducible refine gate_callee (f := 57) rfl ?_); refine goesL_ (some 31) rfl rfl Tryd.func57 (by kernel_rfl) rfl #[.pointer (some ⟨g, 0, none⟩)] rfl ma_ ?_; (with_reducible refine (spec_l4Raw.calls g s0_0 t400 t401 t409 t410 t411 w0 _ ?side1 ?side2 A24.out).mono ?_); (case side1 => repeat (first | (with_reducible first | exact HI0.out | apply IsS69.alloc | apply IsS69.drewN | apply IsS69.drew | apply IsS69.set_1 | apply IsS69.set_2) | exact HI0.out)); (case side2 => repeat (first | (with_reducible first | exact HB.out | apply below_alloc | apply pw_below_drewN | apply below_drew1 | refine below_set ?_ (IsS69.ge HI0.out)) | exact HB.out)); rintro e w32 ⟨rfl, hi, hb, hk⟩; refine ⟨_, rfl, ?_⟩; have n0_ := Aside0.mk (Kd.R_mono (Kd.R_keep (IsS69.apart (show IsS69 w0 _ g s0_0 t400 t401 from y101_) (rd_ HO393.out) (by decide)) hk (fun _ h => h.2)) (fun _ h => h.1)); have n1_ := Aside0.mk (KeepBut.trans y95_ hk (.inl rfl)); have n2_ := Aside0.mk (hb); have n3_ := Aside0.mk (hi); clear HO393; clear HK; clear HB; clear HI0; have HO393 := n0_; have HK := n1_; have HB := n2_; have HI0 := n3_; clear n0_ n1_ n2_ n3_; (try clear hb); (try clear hk); (try clear hi); have p27 : 0 ≤ (t396 : Int) := of_decide_eq_true as_; have q27 : (t396 : Int) < ((t391.length : Int) : Int) := of_decide_eq_true as_; obtain ⟨go27, co27, eo27, gb27, gl27, cl27, HG27⟩ := Kd.R_form HO393.out (by omega); (first | cases eo27 | (injection eo27 with ea_ en_ ec_; (first | subst ea_ | (injection ea_ with ea_; subst ea_)); subst ec_; clear en_)); have GB27 := Aside0.mk gb27; have GG27 := Aside0.mk HG27; clear gb27 gl27 HG27; obtain ⟨ce27, hcl27, hM27, hcc27, hfr27⟩ := Kd.R_elem HO393.out z73 (t396 : Int) p27 q27; obtain rfl := k73_openM hM27; have hx27_0 : w32.cell? ⟨go27, (t396 : Int).toNat * 5, none⟩ = some (.int .i64 ((rd_T73 t391 t396).f0)) := hcc27 0 _ rfl; have hx27_1 : w32.cell? ⟨go27, (t396 : Int).toNat * 5 + 1, none⟩ = some (.int .i64 ((rd_T73 t391 t396).f1)) := hcc27 1 _ rfl; have hx27_2 : w32.cell? ⟨go27, (t396 : Int).toNat * 5 + 2, none⟩ = some (.int .i64 ((rd_T73 t391 t396).f2)) := hcc27 2 _ rfl; have hx27_3 : w32.cell? ⟨go27, (t396 : Int).toNat * 5 + 3, none⟩ = some (.int .i64 ((rd_T73 t391 t396).f3)) := hcc27 3 _ rfl; have hx27_4 : w32.cell? ⟨go27, (t396 : Int).toNat * 5 + 4, none⟩ = some (.int .i64 ((rd_T73 t391 t396).f4)) := hcc27 4 _ rfl; have hf27_0 : w32.frozen? ⟨go27, (t396 : Int).toNat * 5, none⟩ = false := hfr27 0; have hf27_1 : w32.frozen? ⟨go27, (t396 : Int).toNat * 5 + 1, none⟩ = false := hfr27 1; have hf27_2 : w32.frozen? ⟨go27, (t396 : Int).toNat * 5 + 2, none⟩ = false := hfr27 2; have hf27_3 : w32.frozen? ⟨go27, (t396 : Int).toNat * 5 + 3, none⟩ = false := hfr27 3; have hf27_4 : w32.frozen? ⟨go27, (t396 : Int).toNat * 5 + 4, none⟩ = false := hfr27 4; clear hcl27 hcc27 hfr27 hM27; replace p27 := eq_true p27; replace q27 := eq_true q27; have HX33 := Aside0.mk (show Kd.R k73 73 w32 w.heap.size (fun _ => True) (.slice (some ⟨go27, 0, none⟩) t391.length co29) t391 from (rd_ HO393.out)); obtain ⟨ce33, hcl33, hM33, hcc33, hfr33⟩ := Kd.R_elem HX33.out z73 (t396 : Int) (of_decide_eq_true as_) (by have h_ : (t396 : Int) < ((t391.length : Int) : Int) := of_decide_eq_true as_; first | exact h_ | (have e_ := (Kd.R_reads' HO393.out).1; omega) | simpa using h_); obtain rfl := k73_openM hM33; have HP33 := Kd.R_seg HX33.out (t396 : Int) (of_decide_eq_true as_) (by have h_ : (t396 : Int) < ((t391.length : Int) : Int) := of_decide_eq_true as_; first | exact h_ | (have e_ := (Kd.R_reads' HO393.out).1; omega) | simpa using h_) (seg := [.int .i64 t409]) (j := 1) hcl33 hcc33 (show 2 ≤ 5 from by decide) (x' := (⟨(rd_T73 t391 t396).f0, t409, (rd_T73 t391 t396).f2, (rd_T73 t391 t396).f3, (rd_T73 t391 t396).f4⟩ : S73)) (k73_mkM _ _ _ (⟨(rd_T73 t391 t396).f0, t409, (rd_T73 t391 t396).f2, (rd_T73 t391 t396).f3, (rd_T73 t391 t396).f4⟩ : S73) ) (fun _ hk => hk); have hx33_1 := hcc33 1 _ rfl; (try simp only [show (k73).sz = 5 from rfl, Nat.mul_one, Nat.add_zero] at hx33_1); have hf33_1 := hfr33 1; (try simp only [show (k73).sz = 5 from rfl, Nat.mul_one, Nat.add_zero] at hf33_1); clear hcl33 hcc33 hfr33 hM33) | ((with_reducible refine gate_store (t := 3) (p := 33) rfl ?_); refine store_event (t := 3) (p := 33) (v := ?vo_w34) (w1 := (w32.setCell ⟨go27, (t396 : Int).toNat * 5 + 1, none⟩ (.int .i64 t409))) ?hg ?ho ?hn ?hr ?_; (case ho => rfl); (case hg => rfl); (case hn => rfl); (case hr => first | (go_simp; done) | (go_simp; rfl)); intro w34 hw; have hg : w32.grownBy w34 (some go27) := (by rw [hw]; exact HP33.2); have hp_ : Kd.R k73 73 w34 w.heap.size (fun _ => True) (.slice (some ⟨go27, 0, none⟩) t391.length co29) y412 := (by rw [hw, Ny412.out]; exact HP33.1); clear HP33; have n0_ := Aside0.mk (IsS69.grown y99_ hg (IsS69.own_ne HI0.out HO393.out (by decide))); have n1_ := Aside0.mk (hp_); have n2_ := Aside0.mk ((by rw [hw]; exact below_set (HB.out) (Nat.le_trans HL.out GB27.out) : Below w0.heap.size w0 w34)); have n3_ := Aside0.mk (KeepBut.trans y95_ (KeepBut.of_grown hg g) (Kd.R_base2 HO393.out)); clear HI0; clear HO393; clear HB; clear HK; have HI0 := n0_; have HO393 := n1_; have HB := n2_; have HK := n3_; clear n0_ n1_ n2_ n3_; clear hg hw hp_))
      go_ret
      exact ⟨_, by first | rfl | (simp [errW_none, errW_some] <;> rfl) | (simp [*, errW_none, errW_some] <;> rfl), rd_ HO393.out, y101_, y100_, y102_⟩
     ·
      rw [if_neg c26] at H
      exact absurd H (by simp)
    ·
     rw [if_neg c25] at H
     exact absurd H (by simp)
   ·
    rw [if_neg c23] at H
    have c23b0 : (t399 == 1) = false := beq_eq_false_iff_ne.mpr c23
    have c23b1 : (t399 != 1) = true := bne_iff_ne.mpr c23
    by_cases c35 : t399 = 2
    ·
     rw [if_pos c35] at H
     have c35b0 : (t399 == 2) = true := beq_iff_eq.mpr c35
     have c35b1 : (t399 != 2) = false := bne_eq_false_iff_eq.mpr c35
     clear c35
     obtain ⟨y413, hy413⟩ : ∃ y_ : List Int, y_ = (([(-1), 100000, 100001] : List Int)) := ⟨_, rfl⟩
     replace H : ((spec_l1Int.f s0_0 t400 t401 y413).bind fun bt416 => (if 0 ≤ t396 then (if t396 < (t391.length : Int) then (some ((t391.set (t396 : Int).toNat (⟨(rd_T73 t391 t396).f0, (rd_T73 t391 t396).f1, (rd_T73 t391 t396).f2, bt416.1, (rd_T73 t391 t396).f4⟩ : S73)), bt416.2.1, bt416.2.2)) else (none)) else (none))) = some (r1, r2, r3) := by first | (rw [hy413]; with_reducible exact H) | (have H2_ := (Option.bind_some _ _).symm.trans H; rw [hy413]; with_reducible exact H2_) | (have H2_ := (Option.bind_some _ _).symm.trans H; with_reducible exact H2_) | with_reducible exact H | (rw [hy413]; exact H) | exact H
     have Ny413 := Aside0.mk hy413
     clear hy413
     replace H := Option.bind_eq_some_iff.mp H
     obtain ⟨⟨t416, t417, t418⟩, A360, H⟩ := H
     replace H : (if 0 ≤ t396 then (if t396 < (t391.length : Int) then (some ((t391.set (t396 : Int).toNat (⟨(rd_T73 t391 t396).f0, (rd_T73 t391 t396).f1, (rd_T73 t391 t396).f2, t416, (rd_T73 t391 t396).f4⟩ : S73)), t417, t418)) else (none)) else (none)) = some (r1, r2, r3) := H
     have A36 := Aside0.mk A360
     clear A360
     by_cases c37 : 0 ≤ t396
     ·
      rw [if_pos c37] at H
      have c37b0 : decide (0 ≤ t396) = true := decide_eq_true c37
      clear c37
      by_cases c38 : t396 < (t391.length : Int)
      ·
       rw [if_pos c38] at H
       have c38b0 : decide (t396 < (t391.length : Int)) = true := decide_eq_true c38
       clear c38
       obtain ⟨y419, hy419⟩ : ∃ y_ : List (S73), y_ = (t391.set (t396 : Int).toNat (⟨(rd_T73 t391 t396).f0, (rd_T73 t391 t396).f1, (rd_T73 t391 t396).f2, t416, (rd_T73 t391 t396).f4⟩ : S73)) := ⟨_, rfl⟩
       replace H : (some (y419, t417, t418)) = some (r1, r2, r3) := by first | (rw [hy419]; with_reducible exact H) | (have H2_ := (Option.bind_some _ _).symm.trans H; rw [hy419]; with_reducible exact H2_) | (have H2_ := (Option.bind_some _ _).symm.trans H; with_reducible exact H2_) | with_reducible exact H | (rw [hy419]; exact H) | exact H
       have Ny419 := Aside0.mk hy419
       clear hy419
       simp only [Option.some.injEq, Prod.mk.injEq] at H
       obtain ⟨rfl, rfl, rfl⟩ := H
       go_enter Tryd.func38, Tryd.ntmps38
       go_wp2_with (first | ((with_reducible refine gate_callee (f := 58) rfl ?_); refine goesL_ (some 6) rfl rfl Tryd.func58 (by kernel_rfl) rfl #[.pointer (some ⟨g, 0, none⟩)] rfl ma_ ?_; (with_reducible refine (spec_l13Draw.calls k g s0_0 s0_1 s0_2 t391 t394 t395 w0 _ ?side1 ?side2 A2.out).mono ?_); (case side1 => repeat (first | (with_reducible first | exact HI0.out | apply IsS69.alloc | apply IsS69.drewN | apply IsS69.drew | apply IsS69.set_1 | apply IsS69.set_2) | exact HI0.out)); (case side2 => repeat (first | (with_reducible first | exact HB.out | apply below_alloc | apply pw_below_drewN | apply below_drew1 | refine below_set ?_ (IsS69.ge HI0.out)) | exact HB.out)); rintro e w40 ⟨v392, rfl, ho0, hi, hb, hk⟩; refine ⟨_, rfl, ?_⟩; have HO393 := Aside0.mk (Kd.R_lower ho0 (keep_size (w := w) (g := g) (row := none) y95_)); have n1_ := Aside0.mk (KeepBut.trans y95_ hk (.inl rfl)); have n2_ := Aside0.mk (hb); have n3_ := Aside0.mk (hi); clear HK; clear HB; clear HI0; have HK := n1_; have HB := n2_; have HI0 := n3_; clear n1_ n2_ n3_; (try clear hb); (try clear hk); (try clear hi); (try clear ho0); obtain ⟨Ao41, co41, eo41⟩ := Kd.R_slice HO393.out; subst eo41) | ((with_reducible refine gate_callee (f := 41) rfl ?_); refine goesL_ (some 14) rfl rfl Tryd.func41 (by kernel_rfl) rfl #[.pointer (some ⟨g, 0, none⟩), .int .i64 (t391.length : Int)] rfl ma_ ?_; (with_reducible refine (spec_l1Below.calls g s0_0 t394 t395 (t391.length : Int) t396 t397 t398 w0 _ ?side1 ?side2 A6.out).mono ?_); (case side1 => repeat (first | (with_reducible first | exact HI0.out | apply IsS69.alloc | apply IsS69.drewN | apply IsS69.drew | apply IsS69.set_1 | apply IsS69.set_2) | exact HI0.out)); (case side2 => repeat (first | (with_reducible first | exact HB.out | apply below_alloc | apply pw_below_drewN | apply below_drew1 | refine below_set ?_ (IsS69.ge HI0.out)) | exact HB.out)); rintro e w42 ⟨rfl, hi, hb, hk⟩; refine ⟨_, rfl, ?_⟩; have n0_ := Aside0.mk (Kd.R_mono (Kd.R_keep (IsS69.apart (show IsS69 w0 _ g s0_0 t394 t395 from y101_) (rd_ HO393.out) (by decide)) hk (fun _ h => h.2)) (fun _ h => h.1)); have n1_ := Aside0.mk (KeepBut.trans y95_ hk (.inl rfl)); have n2_ := Aside0.mk (hb); have n3_ := Aside0.mk (hi); clear HO393; clear HK; clear HB; clear HI0; have HO393 := n0_; have HK := n1_; have HB := n2_; have HI0 := n3_; clear n0_ n1_ n2_ n3_; (try clear hb); (try clear hk); (try clear hi)) | ((with_reducible refine gate_callee (f := 41) rfl ?_); refine goesL_ (some 16) rfl rfl Tryd.func41 (by kernel_rfl) rfl #[.pointer (some ⟨g, 0, none⟩), .int .i64 10] rfl ma_ ?_; (with_reducible refine (spec_l1Below.calls g s0_0 t397 t398 10 t399 t400 t401 w0 _ ?side1 ?side2 A7.out).mono ?_); (case side1 => repeat (first | (with_reducible first | exact HI0.out | apply IsS69.alloc | apply IsS69.drewN | apply IsS69.drew | apply IsS69.set_1 | apply IsS69.set_2) | exact HI0.out)); (case side2 => repeat (first | (with_reducible first | exact HB.out | apply below_alloc | apply pw_below_drewN | apply below_drew1 | refine below_set ?_ (IsS69.ge HI0.out)) | exact HB.out)); rintro e w43 ⟨rfl, hi, hb, hk⟩; refine ⟨_, rfl, ?_⟩; have n0_ := Aside0.mk (Kd.R_mono (Kd.R_keep (IsS69.apart (show IsS69 w0 _ g s0_0 t397 t398 from y101_) (rd_ HO393.out) (by decide)) hk (fun _ h => h.2)) (fun _ h => h.1)); have n1_ := Aside0.mk (KeepBut.trans y95_ hk (.inl rfl)); have n2_ := Aside0.mk (hb); have n3_ := Aside0.mk (hi); clear HO393; clear HK; clear HB; clear HI0; have HO393 := n0_; have HK := n1_; have HB := n2_; have HI0 := n3_; clear n0_ n1_ n2_ n3_; (try clear hb); (try clear hk); (try clear hi)) | ((with_reducible refine gate_dst (N := 39) rfl ?_); refine Kd.R_lit (Kd.int .i64) _ 3 ?hg (N := 39) ?hd (xs := ([(-1), 100000, 100001] : List Int)) (inner := [.int .i64 (-1), .int .i64 100000, .int .i64 100001]) (ok := fun _ => True) (okp := fun _ => True) ?hr ?hp (fun _ hk => hk) trivial (Below.refl _ _) (Nat.le_refl _) (by simp) ?_; (case hd => rfl); (case hg => rfl); (case hr => first | (go_simp; done) | (go_simp; rfl)); (case hp => exact (Reps.one (show Kd.M (Kd.int .i64) _ _ _ (-1) [.int .i64 (-1)] from rfl) (Reps.one (show Kd.M (Kd.int .i64) _ _ _ 100000 [.int .i64 100000] from rfl) (Reps.one (show Kd.M (Kd.int .i64) _ _ _ 100001 [.int .i64 100001] from rfl) (Reps.none _ _))))); intro v414 w44 ho45 hb hg_ hnew_; clear hg_ hnew_; (first | rw [← Ny413.out] at ho45 | (simp only [Int.reduceToNat] at ho45; rw [← Ny413.out] at ho45)); have n0_ := Aside0.mk (Kd.R_below (rd_ HO393.out) hb); have HO415 := Aside0.mk (Kd.R_lower ho45 (keep_size (w := w) (g := g) (row := none) y95_)); have n2_ := Aside0.mk (IsS69.below y99_ hb); have n3_ := Aside0.mk (KeepBut.trans y95_ (KeepBut.of_below hb g none) (.inl rfl)); have n4_ := Aside0.mk (below_step (y100_) hb); clear HO393; clear HI0; clear HK; clear HB; have HO393 := n0_; have HI0 := n2_; have HK := n3_; have HB := n4_; clear n0_ n2_ n3_ n4_; clear hb ho45; obtain ⟨Ao46, co46, eo46⟩ := Kd.R_slice HO415.out; subst eo46) | ((with_reducible refine gate_callee (f := 56) rfl ?_); refine goesL_ (some 40) rfl rfl Tryd.func56 (by kernel_rfl) rfl #[.pointer (some ⟨g, 0, none⟩), .slice Ao46 y413.length co46] rfl ma_ ?_; (with_reducible refine (spec_l1Int.calls g s0_0 t400 t401 _ _ y413 t416 t417 t418 w0 _ ?side1 ?side2 ?side3 ?side4 ?side5 A36.out).mono ?_); (case side1 => repeat (first | (with_reducible first | exact HI0.out | apply IsS69.alloc | apply IsS69.drewN | apply IsS69.drew | apply IsS69.set_1 | apply IsS69.set_2) | exact HI0.out)); (case side2 => repeat (first | (with_reducible first | exact HB.out | apply below_alloc | apply pw_below_drewN | apply below_drew1 | refine below_set ?_ (IsS69.ge HI0.out)) | exact HB.out)); (case side3 => exact cd_ (Kd.R_reads' HO415.out).2.2); (case side4 => exact (Kd.R_reads' HO415.out).2.1); (case side5 => exact far_slice (IsS69.own_ne HI0.out HO415.out (by decide))); rintro e w47 ⟨rfl, hi, hb, hk⟩; refine ⟨_, rfl, ?_⟩; have n0_ := Aside0.mk (Kd.R_mono (Kd.R_keep (IsS69.apart (show IsS69 w0 _ g s0_0 t400 t401 from y101_) (rd_ HO393.out) (by decide)) hk (fun _ h => h.2)) (fun _ h => h.1)); have n1_ := Aside0.mk (Kd.R_mono (Kd.R_keep (IsS69.apart (show IsS69 w0 _ g s0_0 t400 t401 from y101_) (rd_ HO415.out) (by decide)) hk (fun _ h => h.2)) (fun _ h => h.1)); have n2_ := Aside0.mk (KeepBut.trans y95_ hk (.inl rfl)); have n3_ := Aside0.mk (hb); have n4_ := Aside0.mk (hi); clear HO393; clear HO415; clear HK; clear HB; clear HI0; have HO393 := n0_; have HO415 := n1_; have HK := n2_; have HB := n3_; have HI0 := n4_; clear n0_ n1_ n2_ n3_ n4_; (try clear hb); (try clear hk); (try clear hi); have p39 : 0 ≤ (t396 : Int) := of_decide_eq_true as_; have q39 : (t396 : Int) < ((t391.length : Int) : Int) := of_decide_eq_true as_; obtain ⟨go39, co39, eo39, gb39, gl39, cl39, HG39⟩ := Kd.R_form HO393.out (by omega); (first | cases eo39 | (injection eo39 with ea_ en_ ec_; (first | subst ea_ | (injection ea_ with ea_; subst ea_)); subst ec_; clear en_)); have GB39 := Aside0.mk gb39; have GG39 := Aside0.mk HG39; clear gb39 gl39 HG39; obtain ⟨ce39, hcl39, hM39, hcc39, hfr39⟩ := Kd.R_elem HO393.out z73 (t396 : Int) p39 q39; obtain rfl := k73_openM hM39; have hx39_0 : w47.cell? ⟨go39, (t396 : Int).toNat * 5, none⟩ = some (.int .i64 ((rd_T73 t391 t396).f0)) := hcc39 0 _ rfl; have hx39_1 : w47.cell? ⟨go39, (t396 : Int).toNat * 5 + 1, none⟩ = some (.int .i64 ((rd_T73 t391 t396).f1)) := hcc39 1 _ rfl; have hx39_2 : w47.cell? ⟨go39, (t396 : Int).toNat * 5 + 2, none⟩ = some (.int .i64 ((rd_T73 t391 t396).f2)) := hcc39 2 _ rfl; have hx39_3 : w47.cell? ⟨go39, (t396 : Int).toNat * 5 + 3, none⟩ = some (.int .i64 ((rd_T73 t391 t396).f3)) := hcc39 3 _ rfl; have hx39_4 : w47.cell? ⟨go39, (t396 : Int).toNat * 5 + 4, none⟩ = some (.int .i64 ((rd_T73 t391 t396).f4)) := hcc39 4 _ rfl; have hf39_0 : w47.frozen? ⟨go39, (t396 : Int).toNat * 5, none⟩ = false := hfr39 0; have hf39_1 : w47.frozen? ⟨go39, (t396 : Int).toNat * 5 + 1, none⟩ = false := hfr39 1; have hf39_2 : w47.frozen? ⟨go39, (t396 : Int).toNat * 5 + 2, none⟩ = false := hfr39 2; have hf39_3 : w47.frozen? ⟨go39, (t396 : Int).toNat * 5 + 3, none⟩ = false := hfr39 3; have hf39_4 : w47.frozen? ⟨go39, (t396 : Int).toNat * 5 + 4, none⟩ = false := hfr39 4; clear hcl39 hcc39 hfr39 hM39; replace p39 := eq_true p39; replace q39 := eq_true q39; have HX48 := Aside0.mk (show Kd.R k73 73 w47 w.heap.size (fun _ => True) (.slice (some ⟨go39, 0, none⟩) t391.length co41) t391 from (rd_ HO393.out)); obtain ⟨ce48, hcl48, hM48, hcc48, hfr48⟩ := Kd.R_elem HX48.out z73 (t396 : Int) (of_decide_eq_true as_) (by have h_ : (t396 : Int) < ((t391.length : Int) : Int) := of_decide_eq_true as_; first | exact h_ | (have e_ := (Kd.R_reads' HO393.out).1; omega) | simpa using h_); obtain rfl := k73_openM hM48; have HP48 := Kd.R_seg HX48.out (t396 : Int) (of_decide_eq_true as_) (by have h_ : (t396 : Int) < ((t391.length : Int) : Int) := of_decide_eq_true as_; first | exact h_ | (have e_ := (Kd.R_reads' HO393.out).1; omega) | simpa using h_) (seg := [.int .i64 t416]) (j := 3) hcl48 hcc48 (show 4 ≤ 5 from by decide) (x' := (⟨(rd_T73 t391 t396).f0, (rd_T73 t391 t396).f1, (rd_T73 t391 t396).f2, t416, (rd_T73 t391 t396).f4⟩ : S73)) (k73_mkM _ _ _ (⟨(rd_T73 t391 t396).f0, (rd_T73 t391 t396).f1, (rd_T73 t391 t396).f2, t416, (rd_T73 t391 t396).f4⟩ : S73) ) (fun _ hk => hk); have hx48_3 := hcc48 3 _ rfl; (try simp only [show (k73).sz = 5 from rfl, Nat.mul_one, Nat.add_zero] at hx48_3); have hf48_3 := hfr48 3; (try simp only [show (k73).sz = 5 from rfl, Nat.mul_one, Nat.add_zero] at hf48_3); clear hcl48 hcc48 hfr48 hM48) | ((with_reducible refine gate_store (t := 3) (p := 42) rfl ?_); refine store_event (t := 3) (p := 42) (v := ?vo_w49) (w1 := (w47.setCell ⟨go39, (t396 : Int).toNat * 5 + 3, none⟩ (.int .i64 t416))) ?hg ?ho ?hn ?hr ?_; (case ho => rfl); (case hg => rfl); (case hn => rfl); (case hr => first | (go_simp; done) | (go_simp; rfl)); intro w49 hw; have hg : w47.grownBy w49 (some go39) := (by rw [hw]; exact HP48.2); have hp_ : Kd.R k73 73 w49 w.heap.size (fun _ => True) (.slice (some ⟨go39, 0, none⟩) t391.length co41) y419 := (by rw [hw, Ny419.out]; exact HP48.1); clear HP48; have n0_ := Aside0.mk (IsS69.grown y99_ hg (IsS69.own_ne HI0.out HO393.out (by decide))); have n1_ := Aside0.mk (hp_); have n2_ := Aside0.mk (Kd.R_over' (v := (.slice (some ⟨go39, 0, none⟩) t391.length co41)) (rd_ HO415.out) (Kd.R_typed HO393.out) (by decide) hg); have n3_ := Aside0.mk ((by rw [hw]; exact below_set (HB.out) (Nat.le_trans HL.out GB39.out) : Below w0.heap.size w0 w49)); have n4_ := Aside0.mk (KeepBut.trans y95_ (KeepBut.of_grown hg g) (Kd.R_base2 HO393.out)); clear HI0; clear HO393; clear HO415; clear HB; clear HK; have HI0 := n0_; have HO393 := n1_; have HO415 := n2_; have HB := n3_; have HK := n4_; clear n0_ n1_ n2_ n3_ n4_; clear hg hw hp_))
       go_ret
       exact ⟨_, by first | rfl | (simp [errW_none, errW_some] <;> rfl) | (simp [*, errW_none, errW_some] <;> rfl), rd_ HO393.out, y101_, y100_, y102_⟩
      ·
       rw [if_neg c38] at H
       exact absurd H (by simp)
     ·
      rw [if_neg c37] at H
      exact absurd H (by simp)
    ·
     rw [if_neg c35] at H
     have c35b0 : (t399 == 2) = false := beq_eq_false_iff_ne.mpr c35
     have c35b1 : (t399 != 2) = true := bne_iff_ne.mpr c35
     by_cases c50 : t399 = 3
     ·
      rw [if_pos c50] at H
      have c50b0 : (t399 == 3) = true := beq_iff_eq.mpr c50
      have c50b1 : (t399 != 3) = false := bne_eq_false_iff_eq.mpr c50
      clear c50
      obtain ⟨y420, hy420⟩ : ∃ y_ : List Int, y_ = (([(-1), 3, 4] : List Int)) := ⟨_, rfl⟩
      replace H : ((spec_l1Int.f s0_0 t400 t401 y420).bind fun bt423 => (if 0 ≤ t396 then (if t396 < (t391.length : Int) then (some ((t391.set (t396 : Int).toNat (⟨(rd_T73 t391 t396).f0, (rd_T73 t391 t396).f1, (rd_T73 t391 t396).f2, (rd_T73 t391 t396).f3, bt423.1⟩ : S73)), bt423.2.1, bt423.2.2)) else (none)) else (none))) = some (r1, r2, r3) := by first | (rw [hy420]; with_reducible exact H) | (have H2_ := (Option.bind_some _ _).symm.trans H; rw [hy420]; with_reducible exact H2_) | (have H2_ := (Option.bind_some _ _).symm.trans H; with_reducible exact H2_) | with_reducible exact H | (rw [hy420]; exact H) | exact H
      have Ny420 := Aside0.mk hy420
      clear hy420
      replace H := Option.bind_eq_some_iff.mp H
      obtain ⟨⟨t423, t424, t425⟩, A510, H⟩ := H
      replace H : (if 0 ≤ t396 then (if t396 < (t391.length : Int) then (some ((t391.set (t396 : Int).toNat (⟨(rd_T73 t391 t396).f0, (rd_T73 t391 t396).f1, (rd_T73 t391 t396).f2, (rd_T73 t391 t396).f3, t423⟩ : S73)), t424, t425)) else (none)) else (none)) = some (r1, r2, r3) := H
      have A51 := Aside0.mk A510
      clear A510
      by_cases c52 : 0 ≤ t396
      ·
       rw [if_pos c52] at H
       have c52b0 : decide (0 ≤ t396) = true := decide_eq_true c52
       clear c52
       by_cases c53 : t396 < (t391.length : Int)
       ·
        rw [if_pos c53] at H
        have c53b0 : decide (t396 < (t391.length : Int)) = true := decide_eq_true c53
        clear c53
        obtain ⟨y426, hy426⟩ : ∃ y_ : List (S73), y_ = (t391.set (t396 : Int).toNat (⟨(rd_T73 t391 t396).f0, (rd_T73 t391 t396).f1, (rd_T73 t391 t396).f2, (rd_T73 t391 t396).f3, t423⟩ : S73)) := ⟨_, rfl⟩
        replace H : (some (y426, t424, t425)) = some (r1, r2, r3) := by first | (rw [hy426]; with_reducible exact H) | (have H2_ := (Option.bind_some _ _).symm.trans H; rw [hy426]; with_reducible exact H2_) | (have H2_ := (Option.bind_some _ _).symm.trans H; with_reducible exact H2_) | with_reducible exact H | (rw [hy426]; exact H) | exact H
        have Ny426 := Aside0.mk hy426
        clear hy426
        simp only [Option.some.injEq, Prod.mk.injEq] at H
        obtain ⟨rfl, rfl, rfl⟩ := H
        go_enter Tryd.func38, Tryd.ntmps38
        go_wp2_with (first | ((with_reducible refine gate_callee (f := 58) rfl ?_); refine goesL_ (some 6) rfl rfl Tryd.func58 (by kernel_rfl) rfl #[.pointer (some ⟨g, 0, none⟩)] rfl ma_ ?_; (with_reducible refine (spec_l13Draw.calls k g s0_0 s0_1 s0_2 t391 t394 t395 w0 _ ?side1 ?side2 A2.out).mono ?_); (case side1 => repeat (first | (with_reducible first | exact HI0.out | apply IsS69.alloc | apply IsS69.drewN | apply IsS69.drew | apply IsS69.set_1 | apply IsS69.set_2) | exact HI0.out)); (case side2 => repeat (first | (with_reducible first | exact HB.out | apply below_alloc | apply pw_below_drewN | apply below_drew1 | refine below_set ?_ (IsS69.ge HI0.out)) | exact HB.out)); rintro e w55 ⟨v392, rfl, ho0, hi, hb, hk⟩; refine ⟨_, rfl, ?_⟩; have HO393 := Aside0.mk (Kd.R_lower ho0 (keep_size (w := w) (g := g) (row := none) y95_)); have n1_ := Aside0.mk (KeepBut.trans y95_ hk (.inl rfl)); have n2_ := Aside0.mk (hb); have n3_ := Aside0.mk (hi); clear HK; clear HB; clear HI0; have HK := n1_; have HB := n2_; have HI0 := n3_; clear n1_ n2_ n3_; (try clear hb); (try clear hk); (try clear hi); (try clear ho0); obtain ⟨Ao56, co56, eo56⟩ := Kd.R_slice HO393.out; subst eo56) | ((with_reducible refine gate_callee (f := 41) rfl ?_); refine goesL_ (some 14) rfl rfl Tryd.func41 (by kernel_rfl) rfl #[.pointer (some ⟨g, 0, none⟩), .int .i64 (t391.length : Int)] rfl ma_ ?_; (with_reducible refine (spec_l1Below.calls g s0_0 t394 t395 (t391.length : Int) t396 t397 t398 w0 _ ?side1 ?side2 A6.out).mono ?_); (case side1 => repeat (first | (with_reducible first | exact HI0.out | apply IsS69.alloc | apply IsS69.drewN | apply IsS69.drew | apply IsS69.set_1 | apply IsS69.set_2) | exact HI0.out)); (case side2 => repeat (first | (with_reducible first | exact HB.out | apply below_alloc | apply pw_below_drewN | apply below_drew1 | refine below_set ?_ (IsS69.ge HI0.out)) | exact HB.out)); rintro e w57 ⟨rfl, hi, hb, hk⟩; refine ⟨_, rfl, ?_⟩; have n0_ := Aside0.mk (Kd.R_mono (Kd.R_keep (IsS69.apart (show IsS69 w0 _ g s0_0 t394 t395 from y101_) (rd_ HO393.out) (by decide)) hk (fun _ h => h.2)) (fun _ h => h.1)); have n1_ := Aside0.mk (KeepBut.trans y95_ hk (.inl rfl)); have n2_ := Aside0.mk (hb); have n3_ := Aside0.mk (hi); clear HO393; clear HK; clear HB; clear HI0; have HO393 := n0_; have HK := n1_; have HB := n2_; have HI0 := n3_; clear n0_ n1_ n2_ n3_; (try clear hb); (try clear hk); (try clear hi)) | ((with_reducible refine gate_callee (f := 41) rfl ?_); refine goesL_ (some 16) rfl rfl Tryd.func41 (by kernel_rfl) rfl #[.pointer (some ⟨g, 0, none⟩), .int .i64 10] rfl ma_ ?_; (with_reducible refine (spec_l1Below.calls g s0_0 t397 t398 10 t399 t400 t401 w0 _ ?side1 ?side2 A7.out).mono ?_); (case side1 => repeat (first | (with_reducible first | exact HI0.out | apply IsS69.alloc | apply IsS69.drewN | apply IsS69.drew | apply IsS69.set_1 | apply IsS69.set_2) | exact HI0.out)); (case side2 => repeat (first | (with_reducible first | exact HB.out | apply below_alloc | apply pw_below_drewN | apply below_drew1 | refine below_set ?_ (IsS69.ge HI0.out)) | exact HB.out)); rintro e w58 ⟨rfl, hi, hb, hk⟩; refine ⟨_, rfl, ?_⟩; have n0_ := Aside0.mk (Kd.R_mono (Kd.R_keep (IsS69.apart (show IsS69 w0 _ g s0_0 t397 t398 from y101_) (rd_ HO393.out) (by decide)) hk (fun _ h => h.2)) (fun _ h => h.1)); have n1_ := Aside0.mk (KeepBut.trans y95_ hk (.inl rfl)); have n2_ := Aside0.mk (hb); have n3_ := Aside0.mk (hi); clear HO393; clear HK; clear HB; clear HI0; have HO393 := n0_; have HK := n1_; have HB := n2_; have HI0 := n3_; clear n0_ n1_ n2_ n3_; (try clear hb); (try clear hk); (try clear hi)) | ((with_reducible refine gate_dst (N := 48) rfl ?_); refine Kd.R_lit (Kd.int .i64) _ 3 ?hg (N := 48) ?hd (xs := ([(-1), 3, 4] : List Int)) (inner := [.int .i64 (-1), .int .i64 3, .int .i64 4]) (ok := fun _ => True) (okp := fun _ => True) ?hr ?hp (fun _ hk => hk) trivial (Below.refl _ _) (Nat.le_refl _) (by simp) ?_; (case hd => rfl); (case hg => rfl); (case hr => first | (go_simp; done) | (go_simp; rfl)); (case hp => exact (Reps.one (show Kd.M (Kd.int .i64) _ _ _ (-1) [.int .i64 (-1)] from rfl) (Reps.one (show Kd.M (Kd.int .i64) _ _ _ 3 [.int .i64 3] from rfl) (Reps.one (show Kd.M (Kd.int .i64) _ _ _ 4 [.int .i64 4] from rfl) (Reps.none _ _))))); intro v421 w59 ho60 hb hg_ hnew_; clear hg_ hnew_; (first | rw [← Ny420.out] at ho60 | (simp only [Int.reduceToNat] at ho60; rw [← Ny420.out] at ho60)); have n0_ := Aside0.mk (Kd.R_below (rd_ HO393.out) hb); have HO422 := Aside0.mk (Kd.R_lower ho60 (keep_size (w := w) (g := g) (row := none) y95_)); have n2_ := Aside0.mk (IsS69.below y99_ hb); have n3_ := Aside0.mk (KeepBut.trans y95_ (KeepBut.of_below hb g none) (.inl rfl)); have n4_ := Aside0.mk (below_step (y100_) hb); clear HO393; clear HI0; clear HK; clear HB; have HO393 := n0_; have HI0 := n2_; have HK := n3_; have HB := n4_; clear n0_ n2_ n3_ n4_; clear hb ho60; obtain ⟨Ao61, co61, eo61⟩ := Kd.R_slice HO422.out; subst eo61) | ((with_reducible refine gate_callee (f := 56) rfl ?_); refine goesL_ (some 49) rfl rfl Tryd.func56 (by kernel_rfl) rfl #[.pointer (some ⟨g, 0, none⟩), .slice Ao61 y420.length co61] rfl ma_ ?_; (with_reducible refine (spec_l1Int.calls g s0_0 t400 t401 _ _ y420 t423 t424 t425 w0 _ ?side1 ?side2 ?side3 ?side4 ?side5 A51.out).mono ?_); (case side1 => repeat (first | (with_reducible first | exact HI0.out | apply IsS69.alloc | apply IsS69.drewN | apply IsS69.drew | apply IsS69.set_1 | apply IsS69.set_2) | exact HI0.out)); (case side2 => repeat (first | (with_reducible first | exact HB.out | apply below_alloc | apply pw_below_drewN | apply below_drew1 | refine below_set ?_ (IsS69.ge HI0.out)) | exact HB.out)); (case side3 => exact cd_ (Kd.R_reads' HO422.out).2.2); (case side4 => exact (Kd.R_reads' HO422.out).2.1); (case side5 => exact far_slice (IsS69.own_ne HI0.out HO422.out (by decide))); rintro e w62 ⟨rfl, hi, hb, hk⟩; refine ⟨_, rfl, ?_⟩; have n0_ := Aside0.mk (Kd.R_mono (Kd.R_keep (IsS69.apart (show IsS69 w0 _ g s0_0 t400 t401 from y101_) (rd_ HO393.out) (by decide)) hk (fun _ h => h.2)) (fun _ h => h.1)); have n1_ := Aside0.mk (Kd.R_mono (Kd.R_keep (IsS69.apart (show IsS69 w0 _ g s0_0 t400 t401 from y101_) (rd_ HO422.out) (by decide)) hk (fun _ h => h.2)) (fun _ h => h.1)); have n2_ := Aside0.mk (KeepBut.trans y95_ hk (.inl rfl)); have n3_ := Aside0.mk (hb); have n4_ := Aside0.mk (hi); clear HO393; clear HO422; clear HK; clear HB; clear HI0; have HO393 := n0_; have HO422 := n1_; have HK := n2_; have HB := n3_; have HI0 := n4_; clear n0_ n1_ n2_ n3_ n4_; (try clear hb); (try clear hk); (try clear hi); have p54 : 0 ≤ (t396 : Int) := of_decide_eq_true as_; have q54 : (t396 : Int) < ((t391.length : Int) : Int) := of_decide_eq_true as_; obtain ⟨go54, co54, eo54, gb54, gl54, cl54, HG54⟩ := Kd.R_form HO393.out (by omega); (first | cases eo54 | (injection eo54 with ea_ en_ ec_; (first | subst ea_ | (injection ea_ with ea_; subst ea_)); subst ec_; clear en_)); have GB54 := Aside0.mk gb54; have GG54 := Aside0.mk HG54; clear gb54 gl54 HG54; obtain ⟨ce54, hcl54, hM54, hcc54, hfr54⟩ := Kd.R_elem HO393.out z73 (t396 : Int) p54 q54; obtain rfl := k73_openM hM54; have hx54_0 : w62.cell? ⟨go54, (t396 : Int).toNat * 5, none⟩ = some (.int .i64 ((rd_T73 t391 t396).f0)) := hcc54 0 _ rfl; have hx54_1 : w62.cell? ⟨go54, (t396 : Int).toNat * 5 + 1, none⟩ = some (.int .i64 ((rd_T73 t391 t396).f1)) := hcc54 1 _ rfl; have hx54_2 : w62.cell? ⟨go54, (t396 : Int).toNat * 5 + 2, none⟩ = some (.int .i64 ((rd_T73 t391 t396).f2)) := hcc54 2 _ rfl; have hx54_3 : w62.cell? ⟨go54, (t396 : Int).toNat * 5 + 3, none⟩ = some (.int .i64 ((rd_T73 t391 t396).f3)) := hcc54 3 _ rfl; have hx54_4 : w62.cell? ⟨go54, (t396 : Int).toNat * 5 + 4, none⟩ = some (.int .i64 ((rd_T73 t391 t396).f4)) := hcc54 4 _ rfl; have hf54_0 : w62.frozen? ⟨go54, (t396 : Int).toNat * 5, none⟩ = false := hfr54 0; have hf54_1 : w62.frozen? ⟨go54, (t396 : Int).toNat * 5 + 1, none⟩ = false := hfr54 1; have hf54_2 : w62.frozen? ⟨go54, (t396 : Int).toNat * 5 + 2, none⟩ = false := hfr54 2; have hf54_3 : w62.frozen? ⟨go54, (t396 : Int).toNat * 5 + 3, none⟩ = false := hfr54 3; have hf54_4 : w62.frozen? ⟨go54, (t396 : Int).toNat * 5 + 4, none⟩ = false := hfr54 4; clear hcl54 hcc54 hfr54 hM54; replace p54 := eq_true p54; replace q54 := eq_true q54; have HX63 := Aside0.mk (show Kd.R k73 73 w62 w.heap.size (fun _ => True) (.slice (some ⟨go54, 0, none⟩) t391.length co56) t391 from (rd_ HO393.out)); obtain ⟨ce63, hcl63, hM63, hcc63, hfr63⟩ := Kd.R_elem HX63.out z73 (t396 : Int) (of_decide_eq_true as_) (by have h_ : (t396 : Int) < ((t391.length : Int) : Int) := of_decide_eq_true as_; first | exact h_ | (have e_ := (Kd.R_reads' HO393.out).1; omega) | simpa using h_); obtain rfl := k73_openM hM63; have HP63 := Kd.R_seg HX63.out (t396 : Int) (of_decide_eq_true as_) (by have h_ : (t396 : Int) < ((t391.length : Int) : Int) := of_decide_eq_true as_; first | exact h_ | (have e_ := (Kd.R_reads' HO393.out).1; omega) | simpa using h_) (seg := [.int .i64 t423]) (j := 4) hcl63 hcc63 (show 5 ≤ 5 from by decide) (x' := (⟨(rd_T73 t391 t396).f0, (rd_T73 t391 t396).f1, (rd_T73 t391 t396).f2, (rd_T73 t391 t396).f3, t423⟩ : S73)) (k73_mkM _ _ _ (⟨(rd_T73 t391 t396).f0, (rd_T73 t391 t396).f1, (rd_T73 t391 t396).f2, (rd_T73 t391 t396).f3, t423⟩ : S73) ) (fun _ hk => hk); have hx63_4 := hcc63 4 _ rfl; (try simp only [show (k73).sz = 5 from rfl, Nat.mul_one, Nat.add_zero] at hx63_4); have hf63_4 := hfr63 4; (try simp only [show (k73).sz = 5 from rfl, Nat.mul_one, Nat.add_zero] at hf63_4); clear hcl63 hcc63 hfr63 hM63) | ((with_reducible refine gate_store (t := 3) (p := 51) rfl ?_); refine store_event (t := 3) (p := 51) (v := ?vo_w64) (w1 := (w62.setCell ⟨go54, (t396 : Int).toNat * 5 + 4, none⟩ (.int .i64 t423))) ?hg ?ho ?hn ?hr ?_; (case ho => rfl); (case hg => rfl); (case hn => rfl); (case hr => first | (go_simp; done) | (go_simp; rfl)); intro w64 hw; have hg : w62.grownBy w64 (some go54) := (by rw [hw]; exact HP63.2); have hp_ : Kd.R k73 73 w64 w.heap.size (fun _ => True) (.slice (some ⟨go54, 0, none⟩) t391.length co56) y426 := (by rw [hw, Ny426.out]; exact HP63.1); clear HP63; have n0_ := Aside0.mk (IsS69.grown y99_ hg (IsS69.own_ne HI0.out HO393.out (by decide))); have n1_ := Aside0.mk (hp_); have n2_ := Aside0.mk (Kd.R_over' (v := (.slice (some ⟨go54, 0, none⟩) t391.length co56)) (rd_ HO422.out) (Kd.R_typed HO393.out) (by decide) hg); have n3_ := Aside0.mk ((by rw [hw]; exact below_set (HB.out) (Nat.le_trans HL.out GB54.out) : Below w0.heap.size w0 w64)); have n4_ := Aside0.mk (KeepBut.trans y95_ (KeepBut.of_grown hg g) (Kd.R_base2 HO393.out)); clear HI0; clear HO393; clear HO422; clear HB; clear HK; have HI0 := n0_; have HO393 := n1_; have HO422 := n2_; have HB := n3_; have HK := n4_; clear n0_ n1_ n2_ n3_ n4_; clear hg hw hp_))
        go_ret
        exact ⟨_, by first | rfl | (simp [errW_none, errW_some] <;> rfl) | (simp [*, errW_none, errW_some] <;> rfl), rd_ HO393.out, y101_, y100_, y102_⟩
       ·
        rw [if_neg c53] at H
        exact absurd H (by simp)
      ·
       rw [if_neg c52] at H
       exact absurd H (by simp)
     ·
      rw [if_neg c50] at H
      have c50b0 : (t399 == 3) = false := beq_eq_false_iff_ne.mpr c50
      have c50b1 : (t399 != 3) = true := bne_iff_ne.mpr c50
      simp only [Option.some.injEq, Prod.mk.injEq] at H
      obtain ⟨rfl, rfl, rfl⟩ := H
      go_enter Tryd.func38, Tryd.ntmps38
      go_wp2_with (first | ((with_reducible refine gate_callee (f := 58) rfl ?_); refine goesL_ (some 6) rfl rfl Tryd.func58 (by kernel_rfl) rfl #[.pointer (some ⟨g, 0, none⟩)] rfl ma_ ?_; (with_reducible refine (spec_l13Draw.calls k g s0_0 s0_1 s0_2 t391 t394 t395 w0 _ ?side1 ?side2 A2.out).mono ?_); (case side1 => repeat (first | (with_reducible first | exact HI0.out | apply IsS69.alloc | apply IsS69.drewN | apply IsS69.drew | apply IsS69.set_1 | apply IsS69.set_2) | exact HI0.out)); (case side2 => repeat (first | (with_reducible first | exact HB.out | apply below_alloc | apply pw_below_drewN | apply below_drew1 | refine below_set ?_ (IsS69.ge HI0.out)) | exact HB.out)); rintro e w65 ⟨v392, rfl, ho0, hi, hb, hk⟩; refine ⟨_, rfl, ?_⟩; have HO393 := Aside0.mk (Kd.R_lower ho0 (keep_size (w := w) (g := g) (row := none) y95_)); have n1_ := Aside0.mk (KeepBut.trans y95_ hk (.inl rfl)); have n2_ := Aside0.mk (hb); have n3_ := Aside0.mk (hi); clear HK; clear HB; clear HI0; have HK := n1_; have HB := n2_; have HI0 := n3_; clear n1_ n2_ n3_; (try clear hb); (try clear hk); (try clear hi); (try clear ho0); obtain ⟨Ao66, co66, eo66⟩ := Kd.R_slice HO393.out; subst eo66) | ((with_reducible refine gate_callee (f := 41) rfl ?_); refine goesL_ (some 14) rfl rfl Tryd.func41 (by kernel_rfl) rfl #[.pointer (some ⟨g, 0, none⟩), .int .i64 (t391.length : Int)] rfl ma_ ?_; (with_reducible refine (spec_l1Below.calls g s0_0 t394 t395 (t391.length : Int) t396 t397 t398 w0 _ ?side1 ?side2 A6.out).mono ?_); (case side1 => repeat (first | (with_reducible first | exact HI0.out | apply IsS69.alloc | apply IsS69.drewN | apply IsS69.drew | apply IsS69.set_1 | apply IsS69.set_2) | exact HI0.out)); (case side2 => repeat (first | (with_reducible first | exact HB.out | apply below_alloc | apply pw_below_drewN | apply below_drew1 | refine below_set ?_ (IsS69.ge HI0.out)) | exact HB.out)); rintro e w67 ⟨rfl, hi, hb, hk⟩; refine ⟨_, rfl, ?_⟩; have n0_ := Aside0.mk (Kd.R_mono (Kd.R_keep (IsS69.apart (show IsS69 w0 _ g s0_0 t394 t395 from y101_) (rd_ HO393.out) (by decide)) hk (fun _ h => h.2)) (fun _ h => h.1)); have n1_ := Aside0.mk (KeepBut.trans y95_ hk (.inl rfl)); have n2_ := Aside0.mk (hb); have n3_ := Aside0.mk (hi); clear HO393; clear HK; clear HB; clear HI0; have HO393 := n0_; have HK := n1_; have HB := n2_; have HI0 := n3_; clear n0_ n1_ n2_ n3_; (try clear hb); (try clear hk); (try clear hi)) | ((with_reducible refine gate_callee (f := 41) rfl ?_); refine goesL_ (some 16) rfl rfl Tryd.func41 (by kernel_rfl) rfl #[.pointer (some ⟨g, 0, none⟩), .int .i64 10] rfl ma_ ?_; (with_reducible refine (spec_l1Below.calls g s0_0 t397 t398 10 t399 t400 t401 w0 _ ?side1 ?side2 A7.out).mono ?_); (case side1 => repeat (first | (with_reducible first | exact HI0.out | apply IsS69.alloc | apply IsS69.drewN | apply IsS69.drew | apply IsS69.set_1 | apply IsS69.set_2) | exact HI0.out)); (case side2 => repeat (first | (with_reducible first | exact HB.out | apply below_alloc | apply pw_below_drewN | apply below_drew1 | refine below_set ?_ (IsS69.ge HI0.out)) | exact HB.out)); rintro e w68 ⟨rfl, hi, hb, hk⟩; refine ⟨_, rfl, ?_⟩; have n0_ := Aside0.mk (Kd.R_mono (Kd.R_keep (IsS69.apart (show IsS69 w0 _ g s0_0 t397 t398 from y101_) (rd_ HO393.out) (by decide)) hk (fun _ h => h.2)) (fun _ h => h.1)); have n1_ := Aside0.mk (KeepBut.trans y95_ hk (.inl rfl)); have n2_ := Aside0.mk (hb); have n3_ := Aside0.mk (hi); clear HO393; clear HK; clear HB; clear HI0; have HO393 := n0_; have HK := n1_; have HB := n2_; have HI0 := n3_; clear n0_ n1_ n2_ n3_; (try clear hb); (try clear hk); (try clear hi)))
      go_ret
      exact ⟨_, by first | rfl | (simp [errW_none, errW_some] <;> rfl) | (simp [*, errW_none, errW_some] <;> rfl), rd_ HO393.out, y101_, y100_, y102_⟩

/-! ### spec_l17Now: function 39 -/
def spec_l17Now.f (s0_0 : List Int) (s0_1 : Int) (s0_2 : Int) : Option (Int × Int × Int) := (spec_l1Int.f s0_0 s0_1 s0_2 (([0, 20, 60, 100, 2160, 2200, 2240, 4320, 4400, 200000, 200001, (-1)] : List Int))).bind fun bt430 => (some (bt430.1, bt430.2.1, bt430.2.2))
theorem y103_ {P : Prop} (h : P := by repeat (first | (with_reducible first | exact HK.out | apply KeepBut.set_ | apply keep_drewN | apply keep_drew | apply keep_alloc) | exact HK.out)) : P := h
set_option maxHeartbeats 8000000 in
set_option maxRecDepth 100000 in
theorem spec_l17Now.calls (g : Nat) (s0_0 : List Int) (s0_1 : Int) (s0_2 : Int) (r1 : Int) (r2 : Int) (r3 : Int) (w0 w : World) (hI : IsS69 w0 w g s0_0 s0_1 s0_2) (hB : Below w0.heap.size w0 w) (h : spec_l17Now.f s0_0 s0_1 s0_2 = some (r1, r2, r3)) :
    Calls Tryd.prog 39 #[.pointer (some ⟨g, 0, none⟩)] w fun e w' => e = .returned (.int .i64 r1) ∧ IsS69 w0 w' g s0_0 r2 r3 ∧ Below w0.heap.size w0 w' ∧ KeepBut w w' g none := by
  have HI0 := Aside0.mk hI
  have HK := Aside0.mk (KeepBut.refl w g none)
  have HL := Aside0.mk hB.size
  clear hI
  have HW0 := Aside0.mk hB.size
  have HB := Aside0.mk hB
  clear hB
  have H : ((spec_l1Int.f s0_0 s0_1 s0_2 (([0, 20, 60, 100, 2160, 2200, 2240, 4320, 4400, 200000, 200001, (-1)] : List Int))).bind fun bt430 => (some (bt430.1, bt430.2.1, bt430.2.2))) = some (r1, r2, r3) := h
  clear h
  obtain ⟨y427, hy427⟩ : ∃ y_ : List Int, y_ = (([0, 20, 60, 100, 2160, 2200, 2240, 4320, 4400, 200000, 200001, (-1)] : List Int)) := ⟨_, rfl⟩
  replace H : ((spec_l1Int.f s0_0 s0_1 s0_2 y427).bind fun bt430 => (some (bt430.1, bt430.2.1, bt430.2.2))) = some (r1, r2, r3) := by first | (rw [hy427]; with_reducible exact H) | (have H2_ := (Option.bind_some _ _).symm.trans H; rw [hy427]; with_reducible exact H2_) | (have H2_ := (Option.bind_some _ _).symm.trans H; with_reducible exact H2_) | with_reducible exact H | (rw [hy427]; exact H) | exact H
  have Ny427 := Aside0.mk hy427
  clear hy427
  replace H := Option.bind_eq_some_iff.mp H
  obtain ⟨⟨t430, t431, t432⟩, A20, H⟩ := H
  replace H : (some (t430, t431, t432)) = some (r1, r2, r3) := H
  have A2 := Aside0.mk A20
  clear A20
  simp only [Option.some.injEq, Prod.mk.injEq] at H
  obtain ⟨rfl, rfl, rfl⟩ := H
  go_enter Tryd.func39, Tryd.ntmps39
  go_wp2_with (first | ((with_reducible refine gate_dst (N := 4) rfl ?_); refine Kd.R_lit (Kd.int .i64) _ 3 ?hg (N := 4) ?hd (xs := ([0, 20, 60, 100, 2160, 2200, 2240, 4320, 4400, 200000, 200001, (-1)] : List Int)) (inner := [.int .i64 0, .int .i64 20, .int .i64 60, .int .i64 100, .int .i64 2160, .int .i64 2200, .int .i64 2240, .int .i64 4320, .int .i64 4400, .int .i64 200000, .int .i64 200001, .int .i64 (-1)]) (ok := fun _ => True) (okp := fun _ => True) ?hr ?hp (fun _ hk => hk) trivial (Below.refl _ _) (Nat.le_refl _) (by simp) ?_; (case hd => rfl); (case hg => rfl); (case hr => first | (go_simp; done) | (go_simp; rfl)); (case hp => exact (Reps.one (show Kd.M (Kd.int .i64) _ _ _ 0 [.int .i64 0] from rfl) (Reps.one (show Kd.M (Kd.int .i64) _ _ _ 20 [.int .i64 20] from rfl) (Reps.one (show Kd.M (Kd.int .i64) _ _ _ 60 [.int .i64 60] from rfl) (Reps.one (show Kd.M (Kd.int .i64) _ _ _ 100 [.int .i64 100] from rfl) (Reps.one (show Kd.M (Kd.int .i64) _ _ _ 2160 [.int .i64 2160] from rfl) (Reps.one (show Kd.M (Kd.int .i64) _ _ _ 2200 [.int .i64 2200] from rfl) (Reps.one (show Kd.M (Kd.int .i64) _ _ _ 2240 [.int .i64 2240] from rfl) (Reps.one (show Kd.M (Kd.int .i64) _ _ _ 4320 [.int .i64 4320] from rfl) (Reps.one (show Kd.M (Kd.int .i64) _ _ _ 4400 [.int .i64 4400] from rfl) (Reps.one (show Kd.M (Kd.int .i64) _ _ _ 200000 [.int .i64 200000] from rfl) (Reps.one (show Kd.M (Kd.int .i64) _ _ _ 200001 [.int .i64 200001] from rfl) (Reps.one (show Kd.M (Kd.int .i64) _ _ _ (-1) [.int .i64 (-1)] from rfl) (Reps.none _ _)))))))))))))); intro v428 w3 ho4 hb hg_ hnew_; clear hg_ hnew_; (first | rw [← Ny427.out] at ho4 | (simp only [Int.reduceToNat] at ho4; rw [← Ny427.out] at ho4)); have HO429 := Aside0.mk (Kd.R_lower ho4 (keep_size (w := w) (g := g) (row := none) y103_)); have n1_ := Aside0.mk (IsS69.below (by repeat (first | (with_reducible first | exact HI0.out | apply IsS69.alloc | apply IsS69.drewN | apply IsS69.drew | apply IsS69.set_1 | apply IsS69.set_2) | exact HI0.out)) hb); have n2_ := Aside0.mk (KeepBut.trans y103_ (KeepBut.of_below hb g none) (.inl rfl)); have n3_ := Aside0.mk (below_step (by repeat (first | (with_reducible first | exact HB.out | apply below_alloc | apply pw_below_drewN | apply below_drew1 | refine below_set ?_ (IsS69.ge HI0.out)) | exact HB.out)) hb); clear HI0; clear HK; clear HB; have HI0 := n1_; have HK := n2_; have HB := n3_; clear n1_ n2_ n3_; clear hb ho4; obtain ⟨Ao5, co5, eo5⟩ := Kd.R_slice HO429.out; subst eo5) | ((with_reducible refine gate_callee (f := 56) rfl ?_); refine goesL_ (some 5) rfl rfl Tryd.func56 (by kernel_rfl) rfl #[.pointer (some ⟨g, 0, none⟩), .slice Ao5 y427.length co5] rfl ma_ ?_; (with_reducible refine (spec_l1Int.calls g s0_0 s0_1 s0_2 _ _ y427 t430 t431 t432 w0 _ ?side1 ?side2 ?side3 ?side4 ?side5 A2.out).mono ?_); (case side1 => repeat (first | (with_reducible first | exact HI0.out | apply IsS69.alloc | apply IsS69.drewN | apply IsS69.drew | apply IsS69.set_1 | apply IsS69.set_2) | exact HI0.out)); (case side2 => repeat (first | (with_reducible first | exact HB.out | apply below_alloc | apply pw_below_drewN | apply below_drew1 | refine below_set ?_ (IsS69.ge HI0.out)) | exact HB.out)); (case side3 => exact cd_ (Kd.R_reads' HO429.out).2.2); (case side4 => exact (Kd.R_reads' HO429.out).2.1); (case side5 => exact far_slice (IsS69.own_ne HI0.out HO429.out (by decide))); rintro e w6 ⟨rfl, hi, hb, hk⟩; refine ⟨_, rfl, ?_⟩; have n0_ := Aside0.mk (Kd.R_mono (Kd.R_keep (IsS69.apart (show IsS69 w0 _ g s0_0 s0_1 s0_2 from by repeat (first | (with_reducible first | exact HI0.out | apply IsS69.alloc | apply IsS69.drewN | apply IsS69.drew | apply IsS69.set_1 | apply IsS69.set_2) | exact HI0.out)) (rd_ HO429.out) (by decide)) hk (fun _ h => h.2)) (fun _ h => h.1)); have n1_ := Aside0.mk (KeepBut.trans y103_ hk (.inl rfl)); have n2_ := Aside0.mk (hb); have n3_ := Aside0.mk (hi); clear HO429; clear HK; clear HB; clear HI0; have HO429 := n0_; have HK := n1_; have HB := n2_; have HI0 := n3_; clear n0_ n1_ n2_ n3_; (try clear hb); (try clear hk); (try clear hi)))
  go_ret
  exact ⟨rt_, by repeat (first | (with_reducible first | exact HI0.out | apply IsS69.alloc | apply IsS69.drewN | apply IsS69.drew | apply IsS69.set_1 | apply IsS69.set_2) | exact HI0.out), by repeat (first | (with_reducible first | exact HB.out | apply below_alloc | apply pw_below_drewN | apply below_drew1 | refine below_set ?_ (IsS69.ge HI0.out)) | exact HB.out), by repeat (first | (with_reducible first | exact HK.out | apply KeepBut.set_ | apply keep_drewN | apply keep_drew | apply keep_alloc) | exact HK.out)⟩

/-! ### spec_DrawFatesOf: function 16 -/
def spec_DrawFatesOf.f (k : Nat) (l0 : List Int) : Option ((List (S38)) × (List (S73)) × Int) := (spec_l1New.f k l0).bind fun bt433 => ((spec_l6Any.f k bt433.1 bt433.2.1 bt433.2.2).bind fun bt437 => ((spec_l13Any.f k bt433.1 bt437.2.1 bt437.2.2).bind fun bt442 => ((spec_l17Now.f bt433.1 bt442.2.1 bt442.2.2).bind fun bt447 => (some (bt437.1, bt442.1, bt447.1)))))
theorem spec_DrawFatesOf.mono : ∀ a0 k, LeO (spec_DrawFatesOf.f k a0) (spec_DrawFatesOf.f (k + 1) a0) := by
  intro a0 k
  unfold spec_DrawFatesOf.f
  have jh0 := @spec_l13Any.mono
  have jh1 := @spec_l1New.mono
  have jh2 := @spec_l6Any.mono
  exact mo_
set_option maxHeartbeats 8000000 in
set_option maxRecDepth 100000 in
theorem spec_DrawFatesOf.calls (k : Nat) (A0 : Option Addr) (c0 : Nat) (l0 : List Int) (r1 : List (S38)) (r2 : List (S73)) (r3 : Int) (w : World) (hr0 : Kd.C (Kd.int .u8) w A0 l0.length l0) (hc0 : l0.length ≤ c0) (h : spec_DrawFatesOf.f k l0 = some (r1, r2, r3)) :
    Calls Tryd.prog 16 #[.slice A0 l0.length c0] w fun e w' => ∃ v0_ v1_ : Value, e = .returned (.tuple #[v0_, v1_, .int .i64 r3]) ∧ Kd.R k38 38 w' w.heap.size (fun _ => True) v0_ r1 ∧ Kd.R k73 73 w' w.heap.size (fun _ => True) v1_ r2 ∧ Below w.heap.size w w' := by
  have HR0 := Aside0.mk hr0
  have HC0 := Aside0.mk hc0
  clear hr0 hc0
  have HB := Aside0.mk (Below.refl w.heap.size w)
  have H : ((spec_l1New.f k l0).bind fun bt433 => ((spec_l6Any.f k bt433.1 bt433.2.1 bt433.2.2).bind fun bt437 => ((spec_l13Any.f k bt433.1 bt437.2.1 bt437.2.2).bind fun bt442 => ((spec_l17Now.f bt433.1 bt442.2.1 bt442.2.2).bind fun bt447 => (some (bt437.1, bt442.1, bt447.1)))))) = some (r1, r2, r3) := h
  clear h
  replace H := Option.bind_eq_some_iff.mp H
  obtain ⟨⟨t433, t434, t435⟩, A20, H⟩ := H
  replace H : ((spec_l6Any.f k t433 t434 t435).bind fun bt437 => ((spec_l13Any.f k t433 bt437.2.1 bt437.2.2).bind fun bt442 => ((spec_l17Now.f t433 bt442.2.1 bt442.2.2).bind fun bt447 => (some (bt437.1, bt442.1, bt447.1))))) = some (r1, r2, r3) := H
  have A2 := Aside0.mk A20
  clear A20
  replace H := Option.bind_eq_some_iff.mp H
  obtain ⟨⟨t437, t440, t441⟩, A30, H⟩ := H
  replace H : ((spec_l13Any.f k t433 t440 t441).bind fun bt442 => ((spec_l17Now.f t433 bt442.2.1 bt442.2.2).bind fun bt447 => (some (t437, bt442.1, bt447.1)))) = some (r1, r2, r3) := H
  have A3 := Aside0.mk A30
  clear A30
  replace H := Option.bind_eq_some_iff.mp H
  obtain ⟨⟨t442, t445, t446⟩, A40, H⟩ := H
  replace H : ((spec_l17Now.f t433 t445 t446).bind fun bt447 => (some (t437, t442, bt447.1))) = some (r1, r2, r3) := H
  have A4 := Aside0.mk A40
  clear A40
  replace H := Option.bind_eq_some_iff.mp H
  obtain ⟨⟨t447, t448, t449⟩, A50, H⟩ := H
  replace H : (some (t437, t442, t447)) = some (r1, r2, r3) := H
  have A5 := Aside0.mk A50
  clear A50
  simp only [Option.some.injEq, Prod.mk.injEq] at H
  obtain ⟨rfl, rfl, rfl⟩ := H
  go_enter Tryd.func16, Tryd.ntmps16
  go_wp2_with (first | ((with_reducible refine gate_callee (f := 17) rfl ?_); refine goesL_ (some 9) rfl rfl Tryd.func17 (by kernel_rfl) rfl #[.slice A0 l0.length c0] rfl ma_ ?_; (with_reducible refine (spec_l1New.calls k _ _ l0 t433 t434 t435 w _ ?side1 ?side2 ?side3 A2.out).mono ?_); (case side1 => repeat (first | (with_reducible first | exact HB.out | apply below_alloc | apply pw_below_drewN | apply below_drew1) | exact HB.out)); (case side2 => exact HR0.out); (case side3 => exact HC0.out); rintro e w6 ⟨g436, rfl, hi, hb, hb2⟩; refine ⟨_, rfl, ?_⟩; have n0_ := Aside0.mk (hb); have n1_ := Aside0.mk (hi); clear HB; have HB := n0_; have HI436 := n1_; clear n0_ n1_; (try clear hb); (try clear hb2); (try clear hi)) | ((with_reducible refine gate_callee (f := 37) rfl ?_); refine goesL_ (some 11) rfl rfl Tryd.func37 (by kernel_rfl) rfl #[.pointer (some ⟨g436, 0, none⟩)] rfl ma_ ?_; (with_reducible refine (spec_l6Any.calls k g436 t433 t434 t435 t437 t440 t441 w _ ?side1 ?side2 A3.out).mono ?_); (case side1 => repeat (first | (with_reducible first | exact HI436.out | apply IsS69.alloc | apply IsS69.drewN | apply IsS69.drew | apply IsS69.set_1 | apply IsS69.set_2) | exact HI436.out)); (case side2 => repeat (first | (with_reducible first | exact HB.out | apply below_alloc | apply pw_below_drewN | apply below_drew1 | refine below_set ?_ (IsS69.ge HI436.out)) | exact HB.out)); rintro e w7 ⟨v438, rfl, ho0, hi, hb, hk⟩; refine ⟨_, rfl, ?_⟩; have HO439 := Aside0.mk (Kd.R_lower ho0 (below_size (by repeat (first | (with_reducible first | exact HB.out | apply below_alloc | apply pw_below_drewN | apply below_drew1 | refine below_set ?_ (IsS69.ge HI436.out)) | exact HB.out)))); have n1_ := Aside0.mk (hb); have n2_ := Aside0.mk (hi); clear HB; clear HI436; have HB := n1_; have HI436 := n2_; clear n1_ n2_; (try clear hb); (try clear hk); (try clear hi); (try clear ho0)) | ((with_reducible refine gate_callee (f := 38) rfl ?_); refine goesL_ (some 13) rfl rfl Tryd.func38 (by kernel_rfl) rfl #[.pointer (some ⟨g436, 0, none⟩)] rfl ma_ ?_; (with_reducible refine (spec_l13Any.calls k g436 t433 t440 t441 t442 t445 t446 w _ ?side1 ?side2 A4.out).mono ?_); (case side1 => repeat (first | (with_reducible first | exact HI436.out | apply IsS69.alloc | apply IsS69.drewN | apply IsS69.drew | apply IsS69.set_1 | apply IsS69.set_2) | exact HI436.out)); (case side2 => repeat (first | (with_reducible first | exact HB.out | apply below_alloc | apply pw_below_drewN | apply below_drew1 | refine below_set ?_ (IsS69.ge HI436.out)) | exact HB.out)); rintro e w8 ⟨v443, rfl, ho0, hi, hb, hk⟩; refine ⟨_, rfl, ?_⟩; have n0_ := Aside0.mk (Kd.R_mono (Kd.R_keep (IsS69.apart (show IsS69 w _ g436 t433 t440 t441 from by repeat (first | (with_reducible first | exact HI436.out | apply IsS69.alloc | apply IsS69.drewN | apply IsS69.drew | apply IsS69.set_1 | apply IsS69.set_2) | exact HI436.out)) (rd_ HO439.out) (by decide)) hk (fun _ h => h.2)) (fun _ h => h.1)); have HO444 := Aside0.mk (Kd.R_lower ho0 (below_size (by repeat (first | (with_reducible first | exact HB.out | apply below_alloc | apply pw_below_drewN | apply below_drew1 | refine below_set ?_ (IsS69.ge HI436.out)) | exact HB.out)))); have n2_ := Aside0.mk (hb); have n3_ := Aside0.mk (hi); clear HO439; clear HB; clear HI436; have HO439 := n0_; have HB := n2_; have HI436 := n3_; clear n0_ n2_ n3_; (try clear hb); (try clear hk); (try clear hi); (try clear ho0)) | ((with_reducible refine gate_callee (f := 39) rfl ?_); refine goesL_ (some 17) rfl rfl Tryd.func39 (by kernel_rfl) rfl #[.pointer (some ⟨g436, 0, none⟩)] rfl ma_ ?_; (with_reducible refine (spec_l17Now.calls g436 t433 t445 t446 t447 t448 t449 w _ ?side1 ?side2 A5.out).mono ?_); (case side1 => repeat (first | (with_reducible first | exact HI436.out | apply IsS69.alloc | apply IsS69.drewN | apply IsS69.drew | apply IsS69.set_1 | apply IsS69.set_2) | exact HI436.out)); (case side2 => repeat (first | (with_reducible first | exact HB.out | apply below_alloc | apply pw_below_drewN | apply below_drew1 | refine below_set ?_ (IsS69.ge HI436.out)) | exact HB.out)); rintro e w9 ⟨rfl, hi, hb, hk⟩; refine ⟨_, rfl, ?_⟩; have n0_ := Aside0.mk (Kd.R_mono (Kd.R_keep (IsS69.apart (show IsS69 w _ g436 t433 t445 t446 from by repeat (first | (with_reducible first | exact HI436.out | apply IsS69.alloc | apply IsS69.drewN | apply IsS69.drew | apply IsS69.set_1 | apply IsS69.set_2) | exact HI436.out)) (rd_ HO439.out) (by decide)) hk (fun _ h => h.2)) (fun _ h => h.1)); have n1_ := Aside0.mk (Kd.R_mono (Kd.R_keep (IsS69.apart (show IsS69 w _ g436 t433 t445 t446 from by repeat (first | (with_reducible first | exact HI436.out | apply IsS69.alloc | apply IsS69.drewN | apply IsS69.drew | apply IsS69.set_1 | apply IsS69.set_2) | exact HI436.out)) (rd_ HO444.out) (by decide)) hk (fun _ h => h.2)) (fun _ h => h.1)); have n2_ := Aside0.mk (hb); have n3_ := Aside0.mk (hi); clear HO439; clear HO444; clear HB; clear HI436; have HO439 := n0_; have HO444 := n1_; have HB := n2_; have HI436 := n3_; clear n0_ n1_ n2_ n3_; (try clear hb); (try clear hk); (try clear hi)))
  go_ret3
  exact ⟨_, _, by first | rfl | (simp [errW_none, errW_some] <;> rfl) | (simp [*, errW_none, errW_some] <;> rfl), rd_ HO439.out, rd_ HO444.out, by repeat (first | (with_reducible first | exact HB.out | apply below_alloc | apply pw_below_drewN | apply below_drew1 | refine below_set ?_ (IsS69.ge HI436.out)) | exact HB.out)⟩

/-! ### spec_l1Once: function 40 -/
def spec_l1Once.f (s0_0 : List Int) (s0_1 : Int) (s0_2 : Int) (a1 : Int) : Option (Bool × Int × Int) := (spec_l1Below.f s0_0 s0_1 s0_2 a1).bind fun bt450 => (some ((bt450.1 == 0), bt450.2.1, bt450.2.2))
set_option maxHeartbeats 8000000 in
set_option maxRecDepth 100000 in
theorem spec_l1Once.calls (g : Nat) (s0_0 : List Int) (s0_1 : Int) (s0_2 : Int) (a1 : Int) (r1 : Bool) (r2 : Int) (r3 : Int) (w0 w : World) (hI : IsS69 w0 w g s0_0 s0_1 s0_2) (hB : Below w0.heap.size w0 w) (h : spec_l1Once.f s0_0 s0_1 s0_2 a1 = some (r1, r2, r3)) :
    Calls Tryd.prog 40 #[.pointer (some ⟨g, 0, none⟩), .int .i64 a1] w fun e w' => e = .returned (.bool r1) ∧ IsS69 w0 w' g s0_0 r2 r3 ∧ Below w0.heap.size w0 w' ∧ KeepBut w w' g none := by
  have HI0 := Aside0.mk hI
  have HK := Aside0.mk (KeepBut.refl w g none)
  have HL := Aside0.mk hB.size
  clear hI
  have HW0 := Aside0.mk hB.size
  have HB := Aside0.mk hB
  clear hB
  have H : ((spec_l1Below.f s0_0 s0_1 s0_2 a1).bind fun bt450 => (some ((bt450.1 == 0), bt450.2.1, bt450.2.2))) = some (r1, r2, r3) := h
  clear h
  replace H := Option.bind_eq_some_iff.mp H
  obtain ⟨⟨t450, t451, t452⟩, A30, H⟩ := H
  replace H : (some ((t450 == 0), t451, t452)) = some (r1, r2, r3) := H
  have A3 := Aside0.mk A30
  clear A30
  simp only [Option.some.injEq, Prod.mk.injEq] at H
  obtain ⟨rfl, rfl, rfl⟩ := H
  go_enter Tryd.func40, Tryd.ntmps40
  go_wp2_with (first | ((with_reducible refine gate_callee (f := 41) rfl ?_); refine goesL_ (some 7) rfl rfl Tryd.func41 (by kernel_rfl) rfl #[.pointer (some ⟨g, 0, none⟩), .int .i64 a1] rfl ma_ ?_; (with_reducible refine (spec_l1Below.calls g s0_0 s0_1 s0_2 a1 t450 t451 t452 w0 _ ?side1 ?side2 A3.out).mono ?_); (case side1 => repeat (first | (with_reducible first | exact HI0.out | apply IsS69.alloc | apply IsS69.drewN | apply IsS69.drew | apply IsS69.set_1 | apply IsS69.set_2) | exact HI0.out)); (case side2 => repeat (first | (with_reducible first | exact HB.out | apply below_alloc | apply pw_below_drewN | apply below_drew1 | refine below_set ?_ (IsS69.ge HI0.out)) | exact HB.out)); rintro e w4 ⟨rfl, hi, hb, hk⟩; refine ⟨_, rfl, ?_⟩; have n0_ := Aside0.mk (KeepBut.trans (by repeat (first | (with_reducible first | exact HK.out | apply KeepBut.set_ | apply keep_drewN | apply keep_drew | apply keep_alloc) | exact HK.out)) hk (.inl rfl)); have n1_ := Aside0.mk (hb); have n2_ := Aside0.mk (hi); clear HK; clear HB; clear HI0; have HK := n0_; have HB := n1_; have HI0 := n2_; clear n0_ n1_ n2_; (try clear hb); (try clear hk); (try clear hi)))
  go_ret
  exact ⟨rt_, by repeat (first | (with_reducible first | exact HI0.out | apply IsS69.alloc | apply IsS69.drewN | apply IsS69.drew | apply IsS69.set_1 | apply IsS69.set_2) | exact HI0.out), by repeat (first | (with_reducible first | exact HB.out | apply below_alloc | apply pw_below_drewN | apply below_drew1 | refine below_set ?_ (IsS69.ge HI0.out)) | exact HB.out), by repeat (first | (with_reducible first | exact HK.out | apply KeepBut.set_ | apply keep_drewN | apply keep_drew | apply keep_alloc) | exact HK.out)⟩

/-! ### spec_l26Draw: function 18 -/
def spec_l26Draw.l0 : Nat → List Bool → Int → List Int → Int → Int → Option (List Bool × Int × Int)
  | 0, _, _, _, _, _ => none
  | k + 1, x3, x4, x1000, x1001, x1002 => if x4 < 7 then ((spec_l1Once.f x1000 x1001 x1002 3).bind fun bt456 => (if x3.length < 140737488355328 then (spec_l26Draw.l0 k (x3 ++ [!bt456.1]) (wrap64 (x4 + 1)) x1000 bt456.2.1 bt456.2.2) else (none))) else ((spec_l1Below.f x1000 x1001 x1002 9).bind fun bt462 => (if bt462.1 = 0 then (if 6 ≤ (x3.length : Int) then (some ((x3.take (6 : Int).toNat), bt462.2.1, bt462.2.2)) else (none)) else (if bt462.1 = 1 then (some ((([false, false, false, false, false, false, false] : List Bool)), bt462.2.1, bt462.2.2)) else (if bt462.1 = 2 then (some ((([false, false, false, true, false, false, false] : List Bool)), bt462.2.1, bt462.2.2)) else (some (x3, bt462.2.1, bt462.2.2))))))
def spec_l26Draw.f (k : Nat) (s0_0 : List Int) (s0_1 : Int) (s0_2 : Int) : Option (List Bool × Int × Int) := spec_l26Draw.l0 k (([] : List Bool)) 0 s0_0 s0_1 s0_2
theorem spec_l26Draw.mono_l : ∀ k, (∀ y0 y1 y2 y3 y4, LeO (spec_l26Draw.l0 k y0 y1 y2 y3 y4) (spec_l26Draw.l0 (k + 1) y0 y1 y2 y3 y4))
  | 0 => fun _ _ _ _ _ r h => by simp [spec_l26Draw.l0] at h
  | k + 1 => by
    have ih0 := spec_l26Draw.mono_l k
    · intro y0 y1 y2 y3 y4
      unfold spec_l26Draw.l0
      exact mo_
theorem spec_l26Draw.mono : ∀ a0 a1 a2 k, LeO (spec_l26Draw.f k a0 a1 a2) (spec_l26Draw.f (k + 1) a0 a1 a2) := by
  intro a0 a1 a2 k
  have ih0 := spec_l26Draw.mono_l k
  unfold spec_l26Draw.f
  exact mo_
theorem y105_ {P : Prop} (h : P := by repeat (first | (with_reducible first | exact HK.out | apply KeepBut.set_ | apply keep_drewN | apply keep_drew | apply keep_alloc) | exact HK.out)) : P := h
theorem y107_ {P : Prop} (h : P := by repeat (first | (with_reducible first | exact HB.out | apply below_alloc | apply pw_below_drewN | apply below_drew1 | refine below_set ?_ (IsS69.ge HI0.out)) | exact HB.out)) : P := h
theorem y108_ {P : Prop} (h : P := by repeat (first | (with_reducible first | exact HI0.out | apply IsS69.alloc | apply IsS69.drewN | apply IsS69.drew | apply IsS69.set_1 | apply IsS69.set_2) | exact HI0.out)) : P := h
theorem y109_ {P : Prop} (h : P := by repeat (first | (with_reducible first | exact HK.out | apply KeepBut.set_ | apply keep_drewN | apply keep_drew | apply keep_alloc) | exact HK.out)) : P := h
set_option maxHeartbeats 8000000 in
set_option maxRecDepth 100000 in
theorem spec_l26Draw.calls (k : Nat) (g : Nat) (s0_0 : List Int) (s0_1 : Int) (s0_2 : Int) (r1 : List Bool) (r2 : Int) (r3 : Int) (w0 w : World) (hI : IsS69 w0 w g s0_0 s0_1 s0_2) (hB : Below w0.heap.size w0 w) (h : spec_l26Draw.f k s0_0 s0_1 s0_2 = some (r1, r2, r3)) :
    Calls Tryd.prog 18 #[.pointer (some ⟨g, 0, none⟩)] w fun e w' => ∃ v0_ : Value, e = .returned (v0_) ∧ Kd.R Kd.bool 4 w' w.heap.size (fun _ => True) v0_ r1 ∧ IsS69 w0 w' g s0_0 r2 r3 ∧ Below w0.heap.size w0 w' ∧ KeepBut w w' g none := by
  have HI0 := Aside0.mk hI
  have HK := Aside0.mk (KeepBut.refl w g none)
  have HL := Aside0.mk hB.size
  clear hI
  have HW0 := Aside0.mk hB.size
  have HB := Aside0.mk hB
  clear hB
  have H : (spec_l26Draw.l0 k (([] : List Bool)) 0 s0_0 s0_1 s0_2) = some (r1, r2, r3) := h
  clear h
  obtain ⟨y453, hy453⟩ : ∃ y_ : List Bool, y_ = (([] : List Bool)) := ⟨_, rfl⟩
  replace H : (spec_l26Draw.l0 k y453 0 s0_0 s0_1 s0_2) = some (r1, r2, r3) := by first | (rw [hy453]; with_reducible exact H) | (have H2_ := (Option.bind_some _ _).symm.trans H; rw [hy453]; with_reducible exact H2_) | (have H2_ := (Option.bind_some _ _).symm.trans H; with_reducible exact H2_) | with_reducible exact H | (rw [hy453]; exact H) | exact H
  have Ny453 := Aside0.mk hy453
  clear hy453
  have H' := Aside0.mk H
  clear H
  go_enter Tryd.func18, Tryd.ntmps18
  go_wp2_with (first | ((with_reducible refine gate_dst (N := 5) rfl ?_); refine Kd.R_lit Kd.bool _ 4 ?hg (N := 5) ?hd (xs := ([] : List Bool)) (inner := []) (ok := fun _ => True) (okp := fun _ => True) ?hr ?hp (fun _ hk => hk) trivial (Below.refl _ _) (Nat.le_refl _) (by simp) ?_; (case hd => rfl); (case hg => rfl); (case hr => first | (go_simp; done) | (go_simp; rfl)); (case hp => exact (Reps.none _ _)); intro v454 w2 ho3 hb hg_ hnew_; clear hg_ hnew_; (first | rw [← Ny453.out] at ho3 | (simp only [Int.reduceToNat] at ho3; rw [← Ny453.out] at ho3)); have HO455 := Aside0.mk (Kd.R_lower ho3 (keep_size (w := w) (g := g) (row := none) y105_)); have n1_ := Aside0.mk (IsS69.below (y108_) hb); have n2_ := Aside0.mk (KeepBut.trans y105_ (KeepBut.of_below hb g none) (.inl rfl)); have n3_ := Aside0.mk (below_step (y107_) hb); clear HI0; clear HK; clear HB; have HI0 := n1_; have HK := n2_; have HB := n3_; clear n1_ n2_ n3_; clear hb ho3))
  go_loopg [3, 4] k (fun kq v3 v4 w' => ∃ (x3_1 : List Bool) (x4_1 : Int) (x1001_1 : Int) (x1002_1 : Int), v4 = .int .i64 x4_1 ∧ Aside0 (spec_l26Draw.l0 kq x3_1 x4_1 s0_0 x1001_1 x1002_1 = some (r1, r2, r3)) ∧ Aside0 (kq ≤ k) ∧ Aside0 (Kd.R Kd.bool 4 w' w.heap.size (fun _ => True) v3 x3_1) ∧ Aside0 (IsS69 w0 w' g s0_0 x1001_1 x1002_1) ∧ Aside0 (KeepBut w w' g none) ∧ Aside0 (Below w0.heap.size w0 w'))
  case atStart => exact ⟨(y453), (0), (s0_1), (s0_2), rs_, H', ⟨Nat.le_refl _⟩, ⟨rd_ HO455.out⟩, ⟨y108_⟩, ⟨y109_⟩, ⟨y107_⟩⟩
  case round =>
    clear H'
    try clear c1
    try clear p2
    obtain ⟨x3_1, x4_1, x1001_1, x1002_1, rfl, HA, HK1, HO_3, HI0, HK, HB⟩ := hrel
    cases gk with
    | zero => exact absurd HA.out (by simp [spec_l26Draw.l0])
    | succ k1 =>
      have H := HA.out
      clear HA
      simp only [spec_l26Draw.l0] at H
      by_cases c4 : x4_1 < 7
      · rw [if_pos c4] at H
        have c4b0 : decide (x4_1 < 7) = true := decide_eq_true c4
        clear c4
        replace H := Option.bind_eq_some_iff.mp H
        obtain ⟨⟨t456, t457, t458⟩, A50, H⟩ := H
        replace H : (if x3_1.length < 140737488355328 then (spec_l26Draw.l0 k1 (x3_1 ++ [!t456]) (wrap64 (x4_1 + 1)) s0_0 t457 t458) else (none)) = some (r1, r2, r3) := H
        have A5 := Aside0.mk A50
        clear A50
        by_cases c6 : x3_1.length < 140737488355328
        · rw [if_pos c6] at H
          have LMc6 := Aside0.mk c6
          clear c6
          obtain ⟨y459, hy459⟩ : ∃ y_ : List Bool, y_ = (x3_1 ++ [!t456]) := ⟨_, rfl⟩
          replace H : (spec_l26Draw.l0 k1 y459 (wrap64 (x4_1 + 1)) s0_0 t457 t458) = some (r1, r2, r3) := by first | (rw [hy459]; with_reducible exact H) | (have H2_ := (Option.bind_some _ _).symm.trans H; rw [hy459]; with_reducible exact H2_) | (have H2_ := (Option.bind_some _ _).symm.trans H; with_reducible exact H2_) | with_reducible exact H | (rw [hy459]; exact H) | exact H
          have Ny459 := Aside0.mk hy459
          clear hy459
          have H' := Aside0.mk H
          clear H
          go_wp2_with (first | ((with_reducible refine gate_callee (f := 40) rfl ?_); refine goesL_ (some 12) rfl rfl Tryd.func40 (by kernel_rfl) rfl #[.pointer (some ⟨g, 0, none⟩), .int .i64 3] rfl ma_ ?_; (with_reducible refine (spec_l1Once.calls g s0_0 x1001_1 x1002_1 3 t456 t457 t458 w0 _ ?side1 ?side2 A5.out).mono ?_); (case side1 => repeat (first | (with_reducible first | exact HI0.out | apply IsS69.alloc | apply IsS69.drewN | apply IsS69.drew | apply IsS69.set_1 | apply IsS69.set_2) | exact HI0.out)); (case side2 => repeat (first | (with_reducible first | exact HB.out | apply below_alloc | apply pw_below_drewN | apply below_drew1 | refine below_set ?_ (IsS69.ge HI0.out)) | exact HB.out)); rintro e w7 ⟨rfl, hi, hb, hk⟩; refine ⟨_, rfl, ?_⟩; have n0_ := Aside0.mk (Kd.R_mono (Kd.R_keep (IsS69.apart (show IsS69 w0 _ g s0_0 x1001_1 x1002_1 from y108_) (rd_ HO_3.out) (by decide)) hk (fun _ h => h.2)) (fun _ h => h.1)); have n1_ := Aside0.mk (KeepBut.trans y105_ hk (.inl rfl)); have n2_ := Aside0.mk (hb); have n3_ := Aside0.mk (hi); clear HO_3; clear HK; clear HB; clear HI0; have HO_3 := n0_; have HK := n1_; have HB := n2_; have HI0 := n3_; clear n0_ n1_ n2_ n3_; (try clear hb); (try clear hk); (try clear hi)) | ((with_reducible refine gate_builtin (b := .append) (xs := #[.tmp 10, .tmp 14]) rfl ?_); at_builtin; refine Kd.R_append Kd.bool w.heap.size rfl (.tmp 10) (.tmp 14) 26 4 (.bool false) 1 rfl Tryd.underlying26 info4 rfl (by decide) (by omega) u3 x3_1 (!t456) [.bool (!t456)] (fun _ => True) (fun _ => False) rfl rfl ?aP (fun _ hk => hk.elim) ?aF ?aO (Below.refl _ _) ?aS ?aL ?_; (case aP => exact rfl); (case aF => exact (fun _ _ => trivial)); (case aO => exact rd_ HO_3.out); (case aS => exact (keep_size (w := w) (g := g) (row := none) y105_)); (case aL => have := LMc6.out; omega); intro v460 w8 ho hb hg hat; rw [← Ny459.out] at ho; have n0_ := Aside0.mk (IsS69.grown (y108_) hg (IsS69.own_ne HI0.out HO_3.out (by decide))); have n1_ := Aside0.mk (below_weaken (y107_) HL.out hb); have n2_ := Aside0.mk (KeepBut.trans y105_ (KeepBut.of_grown hg g) (Kd.R_base2 HO_3.out)); have HO461 := Aside0.mk (ho); clear HI0; clear HB; clear HK; clear HO_3; have HI0 := n0_; have HB := n1_; have HK := n2_; clear n0_ n1_ n2_; clear ho hb hg hat))
          go_roundg k1
          case measure => have := HK1.out; omega
          case rel => exact ⟨(y459), (wrap64 (x4_1 + 1)), (t457), (t458), rs_, H', ⟨by have := HK1.out; omega⟩, ⟨rd_ HO461.out⟩, ⟨y108_⟩, ⟨y109_⟩, ⟨y107_⟩⟩
        · rw [if_neg c6] at H
          exact absurd H (by simp)
      · rw [if_neg c4] at H
        have c4b0 : decide (x4_1 < 7) = false := decide_eq_false c4
        clear c4
        replace H := Option.bind_eq_some_iff.mp H
        obtain ⟨⟨t462, t463, t464⟩, A90, H⟩ := H
        replace H : (if t462 = 0 then (if 6 ≤ (x3_1.length : Int) then (some ((x3_1.take (6 : Int).toNat), t463, t464)) else (none)) else (if t462 = 1 then (some ((([false, false, false, false, false, false, false] : List Bool)), t463, t464)) else (if t462 = 2 then (some ((([false, false, false, true, false, false, false] : List Bool)), t463, t464)) else (some (x3_1, t463, t464))))) = some (r1, r2, r3) := H
        have A9 := Aside0.mk A90
        clear A90
        by_cases c10 : t462 = 0
        · rw [if_pos c10] at H
          have c10b0 : (t462 == 0) = true := beq_iff_eq.mpr c10
          have c10b1 : (t462 != 0) = false := bne_eq_false_iff_eq.mpr c10
          clear c10
          by_cases c11 : 6 ≤ (x3_1.length : Int)
          · rw [if_pos c11] at H
            have c11b0 := eq_true c11
            have c11b1 : decide (6 ≤ (x3_1.length : Int)) = true := decide_eq_true c11
            clear c11
            obtain ⟨y465, hy465⟩ : ∃ y_ : List Bool, y_ = (x3_1.take (6 : Int).toNat) := ⟨_, rfl⟩
            replace H : (some (y465, t463, t464)) = some (r1, r2, r3) := by first | (rw [hy465]; with_reducible exact H) | (have H2_ := (Option.bind_some _ _).symm.trans H; rw [hy465]; with_reducible exact H2_) | (have H2_ := (Option.bind_some _ _).symm.trans H; with_reducible exact H2_) | with_reducible exact H | (rw [hy465]; exact H) | exact H
            have Ny465 := Aside0.mk hy465
            clear hy465
            simp only [Option.some.injEq, Prod.mk.injEq] at H
            obtain ⟨rfl, rfl, rfl⟩ := H
            go_wp2_with (first | ((with_reducible refine gate_callee (f := 41) rfl ?_); refine goesL_ (some 17) rfl rfl Tryd.func41 (by kernel_rfl) rfl #[.pointer (some ⟨g, 0, none⟩), .int .i64 9] rfl ma_ ?_; (with_reducible refine (spec_l1Below.calls g s0_0 x1001_1 x1002_1 9 t462 t463 t464 w0 _ ?side1 ?side2 A9.out).mono ?_); (case side1 => repeat (first | (with_reducible first | exact HI0.out | apply IsS69.alloc | apply IsS69.drewN | apply IsS69.drew | apply IsS69.set_1 | apply IsS69.set_2) | exact HI0.out)); (case side2 => repeat (first | (with_reducible first | exact HB.out | apply below_alloc | apply pw_below_drewN | apply below_drew1 | refine below_set ?_ (IsS69.ge HI0.out)) | exact HB.out)); rintro e w12 ⟨rfl, hi, hb, hk⟩; refine ⟨_, rfl, ?_⟩; have n0_ := Aside0.mk (Kd.R_mono (Kd.R_keep (IsS69.apart (show IsS69 w0 _ g s0_0 x1001_1 x1002_1 from y108_) (rd_ HO_3.out) (by decide)) hk (fun _ h => h.2)) (fun _ h => h.1)); have n1_ := Aside0.mk (KeepBut.trans y105_ hk (.inl rfl)); have n2_ := Aside0.mk (hb); have n3_ := Aside0.mk (hi); clear HO_3; clear HK; clear HB; clear HI0; have HO_3 := n0_; have HK := n1_; have HB := n2_; have HI0 := n3_; clear n0_ n1_ n2_ n3_; (try clear hb); (try clear hk); (try clear hi); obtain ⟨Ao13, co13, eo13⟩ := Kd.R_slice HO_3.out; subst eo13; have q14 : (6 : Int) ≤ ((x3_1.length : Int) : Int) := of_decide_eq_true as_; obtain ⟨i014, hi014, _, hsz14, _⟩ := info_parts info4; have hcut14 := cut_to (P := Tryd.prog) 26 4 .i64 Tryd.underlying26 hi014 Ao13 x3_1.length co13 6 (by omega) q14 (Kd.R_reads' HO_3.out).2.1; have hr14 := Kd.R_take (m := (6 : Int).toNat) HO_3.out (by omega); have hy14 : y465.length = (6 : Int).toNat := (by rw [Ny465.out, List.length_take]; omega); rw [← Ny465.out] at hr14; rw [← hy14] at hr14 hcut14; clear hy14 hi014 hsz14 HO_3; have HO467 := Aside0.mk hr14; clear hr14; replace q14 := eq_true q14))
            go_ret
            exact ⟨_, by first | rfl | (simp [errW_none, errW_some] <;> rfl) | (simp [*, errW_none, errW_some] <;> rfl), rd_ HO467.out, y108_, y107_, y109_⟩
          · rw [if_neg c11] at H
            exact absurd H (by simp)
        · rw [if_neg c10] at H
          have c10b0 : (t462 == 0) = false := beq_eq_false_iff_ne.mpr c10
          have c10b1 : (t462 != 0) = true := bne_iff_ne.mpr c10
          by_cases c15 : t462 = 1
          · rw [if_pos c15] at H
            have c15b0 : (t462 == 1) = true := beq_iff_eq.mpr c15
            have c15b1 : (t462 != 1) = false := bne_eq_false_iff_eq.mpr c15
            clear c15
            obtain ⟨y468, hy468⟩ : ∃ y_ : List Bool, y_ = (([false, false, false, false, false, false, false] : List Bool)) := ⟨_, rfl⟩
            replace H : (some (y468, t463, t464)) = some (r1, r2, r3) := by first | (rw [hy468]; with_reducible exact H) | (have H2_ := (Option.bind_some _ _).symm.trans H; rw [hy468]; with_reducible exact H2_) | (have H2_ := (Option.bind_some _ _).symm.trans H; with_reducible exact H2_) | with_reducible exact H | (rw [hy468]; exact H) | exact H
            have Ny468 := Aside0.mk hy468
            clear hy468
            simp only [Option.some.injEq, Prod.mk.injEq] at H
            obtain ⟨rfl, rfl, rfl⟩ := H
            go_wp2_with (first | ((with_reducible refine gate_callee (f := 41) rfl ?_); refine goesL_ (some 17) rfl rfl Tryd.func41 (by kernel_rfl) rfl #[.pointer (some ⟨g, 0, none⟩), .int .i64 9] rfl ma_ ?_; (with_reducible refine (spec_l1Below.calls g s0_0 x1001_1 x1002_1 9 t462 t463 t464 w0 _ ?side1 ?side2 A9.out).mono ?_); (case side1 => repeat (first | (with_reducible first | exact HI0.out | apply IsS69.alloc | apply IsS69.drewN | apply IsS69.drew | apply IsS69.set_1 | apply IsS69.set_2) | exact HI0.out)); (case side2 => repeat (first | (with_reducible first | exact HB.out | apply below_alloc | apply pw_below_drewN | apply below_drew1 | refine below_set ?_ (IsS69.ge HI0.out)) | exact HB.out)); rintro e w16 ⟨rfl, hi, hb, hk⟩; refine ⟨_, rfl, ?_⟩; have n0_ := Aside0.mk (Kd.R_mono (Kd.R_keep (IsS69.apart (show IsS69 w0 _ g s0_0 x1001_1 x1002_1 from y108_) (rd_ HO_3.out) (by decide)) hk (fun _ h => h.2)) (fun _ h => h.1)); have n1_ := Aside0.mk (KeepBut.trans y105_ hk (.inl rfl)); have n2_ := Aside0.mk (hb); have n3_ := Aside0.mk (hi); clear HO_3; clear HK; clear HB; clear HI0; have HO_3 := n0_; have HK := n1_; have HB := n2_; have HI0 := n3_; clear n0_ n1_ n2_ n3_; (try clear hb); (try clear hk); (try clear hi)) | ((with_reducible refine gate_dst (N := 24) rfl ?_); refine Kd.R_lit Kd.bool _ 4 ?hg (N := 24) ?hd (xs := ([false, false, false, false, false, false, false] : List Bool)) (inner := [.bool false, .bool false, .bool false, .bool false, .bool false, .bool false, .bool false]) (ok := fun _ => True) (okp := fun _ => True) ?hr ?hp (fun _ hk => hk) trivial (Below.refl _ _) (Nat.le_refl _) (by simp) ?_; (case hd => rfl); (case hg => rfl); (case hr => first | (go_simp; done) | (go_simp; rfl)); (case hp => exact (Reps.one (show Kd.M Kd.bool _ _ _ false [.bool false] from rfl) (Reps.one (show Kd.M Kd.bool _ _ _ false [.bool false] from rfl) (Reps.one (show Kd.M Kd.bool _ _ _ false [.bool false] from rfl) (Reps.one (show Kd.M Kd.bool _ _ _ false [.bool false] from rfl) (Reps.one (show Kd.M Kd.bool _ _ _ false [.bool false] from rfl) (Reps.one (show Kd.M Kd.bool _ _ _ false [.bool false] from rfl) (Reps.one (show Kd.M Kd.bool _ _ _ false [.bool false] from rfl) (Reps.none _ _))))))))); intro v469 w17 ho18 hb hg_ hnew_; clear hg_ hnew_; (first | rw [← Ny468.out] at ho18 | (simp only [Int.reduceToNat] at ho18; rw [← Ny468.out] at ho18)); have n0_ := Aside0.mk (Kd.R_elder' (rd_ HO_3.out) (Kd.R_base ho18) hb); have HO470 := Aside0.mk (Kd.R_lower (Kd.R_new' ho18 (Kd.R_lt (rd_ HO_3.out))) (keep_size (w := w) (g := g) (row := none) y105_)); have n2_ := Aside0.mk (IsS69.below (y108_) hb); have n3_ := Aside0.mk (KeepBut.trans y105_ (KeepBut.of_below hb g none) (.inl rfl)); have n4_ := Aside0.mk (below_step (y107_) hb); clear HO_3; clear HI0; clear HK; clear HB; have HO_3 := n0_; have HI0 := n2_; have HK := n3_; have HB := n4_; clear n0_ n2_ n3_ n4_; clear hb ho18))
            go_ret
            exact ⟨_, by first | rfl | (simp [errW_none, errW_some] <;> rfl) | (simp [*, errW_none, errW_some] <;> rfl), by (with_reducible repeat (first | apply Kd.R_alloc | apply Kd.R_drewN | apply Kd.R_drew)); exact Kd.R_mono HO470.out (fun _ hk => trivial), y108_, y107_, y109_⟩
          · rw [if_neg c15] at H
            have c15b0 : (t462 == 1) = false := beq_eq_false_iff_ne.mpr c15
            have c15b1 : (t462 != 1) = true := bne_iff_ne.mpr c15
            by_cases c19 : t462 = 2
            · rw [if_pos c19] at H
              have c19b0 : (t462 == 2) = true := beq_iff_eq.mpr c19
              have c19b1 : (t462 != 2) = false := bne_eq_false_iff_eq.mpr c19
              clear c19
              obtain ⟨y471, hy471⟩ : ∃ y_ : List Bool, y_ = (([false, false, false, true, false, false, false] : List Bool)) := ⟨_, rfl⟩
              replace H : (some (y471, t463, t464)) = some (r1, r2, r3) := by first | (rw [hy471]; with_reducible exact H) | (have H2_ := (Option.bind_some _ _).symm.trans H; rw [hy471]; with_reducible exact H2_) | (have H2_ := (Option.bind_some _ _).symm.trans H; with_reducible exact H2_) | with_reducible exact H | (rw [hy471]; exact H) | exact H
              have Ny471 := Aside0.mk hy471
              clear hy471
              simp only [Option.some.injEq, Prod.mk.injEq] at H
              obtain ⟨rfl, rfl, rfl⟩ := H
              go_wp2_with (first | ((with_reducible refine gate_callee (f := 41) rfl ?_); refine goesL_ (some 17) rfl rfl Tryd.func41 (by kernel_rfl) rfl #[.pointer (some ⟨g, 0, none⟩), .int .i64 9] rfl ma_ ?_; (with_reducible refine (spec_l1Below.calls g s0_0 x1001_1 x1002_1 9 t462 t463 t464 w0 _ ?side1 ?side2 A9.out).mono ?_); (case side1 => repeat (first | (with_reducible first | exact HI0.out | apply IsS69.alloc | apply IsS69.drewN | apply IsS69.drew | apply IsS69.set_1 | apply IsS69.set_2) | exact HI0.out)); (case side2 => repeat (first | (with_reducible first | exact HB.out | apply below_alloc | apply pw_below_drewN | apply below_drew1 | refine below_set ?_ (IsS69.ge HI0.out)) | exact HB.out)); rintro e w20 ⟨rfl, hi, hb, hk⟩; refine ⟨_, rfl, ?_⟩; have n0_ := Aside0.mk (Kd.R_mono (Kd.R_keep (IsS69.apart (show IsS69 w0 _ g s0_0 x1001_1 x1002_1 from y108_) (rd_ HO_3.out) (by decide)) hk (fun _ h => h.2)) (fun _ h => h.1)); have n1_ := Aside0.mk (KeepBut.trans y105_ hk (.inl rfl)); have n2_ := Aside0.mk (hb); have n3_ := Aside0.mk (hi); clear HO_3; clear HK; clear HB; clear HI0; have HO_3 := n0_; have HK := n1_; have HB := n2_; have HI0 := n3_; clear n0_ n1_ n2_ n3_; (try clear hb); (try clear hk); (try clear hi)) | ((with_reducible refine gate_dst (N := 27) rfl ?_); refine Kd.R_lit Kd.bool _ 4 ?hg (N := 27) ?hd (xs := ([false, false, false, true, false, false, false] : List Bool)) (inner := [.bool false, .bool false, .bool false, .bool true, .bool false, .bool false, .bool false]) (ok := fun _ => True) (okp := fun _ => True) ?hr ?hp (fun _ hk => hk) trivial (Below.refl _ _) (Nat.le_refl _) (by simp) ?_; (case hd => rfl); (case hg => rfl); (case hr => first | (go_simp; done) | (go_simp; rfl)); (case hp => exact (Reps.one (show Kd.M Kd.bool _ _ _ false [.bool false] from rfl) (Reps.one (show Kd.M Kd.bool _ _ _ false [.bool false] from rfl) (Reps.one (show Kd.M Kd.bool _ _ _ false [.bool false] from rfl) (Reps.one (show Kd.M Kd.bool _ _ _ true [.bool true] from rfl) (Reps.one (show Kd.M Kd.bool _ _ _ false [.bool false] from rfl) (Reps.one (show Kd.M Kd.bool _ _ _ false [.bool false] from rfl) (Reps.one (show Kd.M Kd.bool _ _ _ false [.bool false] from rfl) (Reps.none _ _))))))))); intro v472 w21 ho22 hb hg_ hnew_; clear hg_ hnew_; (first | rw [← Ny471.out] at ho22 | (simp only [Int.reduceToNat] at ho22; rw [← Ny471.out] at ho22)); have n0_ := Aside0.mk (Kd.R_elder' (rd_ HO_3.out) (Kd.R_base ho22) hb); have HO473 := Aside0.mk (Kd.R_lower (Kd.R_new' ho22 (Kd.R_lt (rd_ HO_3.out))) (keep_size (w := w) (g := g) (row := none) y105_)); have n2_ := Aside0.mk (IsS69.below (y108_) hb); have n3_ := Aside0.mk (KeepBut.trans y105_ (KeepBut.of_below hb g none) (.inl rfl)); have n4_ := Aside0.mk (below_step (y107_) hb); clear HO_3; clear HI0; clear HK; clear HB; have HO_3 := n0_; have HI0 := n2_; have HK := n3_; have HB := n4_; clear n0_ n2_ n3_ n4_; clear hb ho22))
              go_ret
              exact ⟨_, by first | rfl | (simp [errW_none, errW_some] <;> rfl) | (simp [*, errW_none, errW_some] <;> rfl), by (with_reducible repeat (first | apply Kd.R_alloc | apply Kd.R_drewN | apply Kd.R_drew)); exact Kd.R_mono HO473.out (fun _ hk => trivial), y108_, y107_, y109_⟩
            · rw [if_neg c19] at H
              have c19b0 : (t462 == 2) = false := beq_eq_false_iff_ne.mpr c19
              have c19b1 : (t462 != 2) = true := bne_iff_ne.mpr c19
              simp only [Option.some.injEq, Prod.mk.injEq] at H
              obtain ⟨rfl, rfl, rfl⟩ := H
              go_wp2_with (first | ((with_reducible refine gate_callee (f := 41) rfl ?_); refine goesL_ (some 17) rfl rfl Tryd.func41 (by kernel_rfl) rfl #[.pointer (some ⟨g, 0, none⟩), .int .i64 9] rfl ma_ ?_; (with_reducible refine (spec_l1Below.calls g s0_0 x1001_1 x1002_1 9 t462 t463 t464 w0 _ ?side1 ?side2 A9.out).mono ?_); (case side1 => repeat (first | (with_reducible first | exact HI0.out | apply IsS69.alloc | apply IsS69.drewN | apply IsS69.drew | apply IsS69.set_1 | apply IsS69.set_2) | exact HI0.out)); (case side2 => repeat (first | (with_reducible first | exact HB.out | apply below_alloc | apply pw_below_drewN | apply below_drew1 | refine below_set ?_ (IsS69.ge HI0.out)) | exact HB.out)); rintro e w23 ⟨rfl, hi, hb, hk⟩; refine ⟨_, rfl, ?_⟩; have n0_ := Aside0.mk (Kd.R_mono (Kd.R_keep (IsS69.apart (show IsS69 w0 _ g s0_0 x1001_1 x1002_1 from y108_) (rd_ HO_3.out) (by decide)) hk (fun _ h => h.2)) (fun _ h => h.1)); have n1_ := Aside0.mk (KeepBut.trans y105_ hk (.inl rfl)); have n2_ := Aside0.mk (hb); have n3_ := Aside0.mk (hi); clear HO_3; clear HK; clear HB; clear HI0; have HO_3 := n0_; have HK := n1_; have HB := n2_; have HI0 := n3_; clear n0_ n1_ n2_ n3_; (try clear hb); (try clear hk); (try clear hi)))
              go_ret
              exact ⟨_, by first | rfl | (simp [errW_none, errW_some] <;> rfl) | (simp [*, errW_none, errW_some] <;> rfl), rd_ HO_3.out, y108_, y107_, y109_⟩

/-! ### spec_DrawTasksFor: function 6 -/
def spec_DrawTasksFor.f (k : Nat) (l0 : List Int) : Option ((List (S38)) × (List (S73)) × List Bool × Int) := (spec_DrawFatesOf.f k l0).bind fun bt474 => ((spec_l1New.f k l0).bind fun bt481 => ((spec_l26Draw.f k bt481.1 bt481.2.1 bt481.2.2).bind fun bt485 => (some (bt474.1, bt474.2.1, bt485.1, bt474.2.2))))
theorem spec_DrawTasksFor.mono : ∀ a0 k, LeO (spec_DrawTasksFor.f k a0) (spec_DrawTasksFor.f (k + 1) a0) := by
  intro a0 k
  unfold spec_DrawTasksFor.f
  have jh0 := @spec_DrawFatesOf.mono
  have jh1 := @spec_l1New.mono
  have jh2 := @spec_l26Draw.mono
  exact mo_
set_option maxHeartbeats 8000000 in
set_option maxRecDepth 100000 in
theorem spec_DrawTasksFor.calls (k : Nat) (A0 : Option Addr) (c0 : Nat) (l0 : List Int) (r1 : List (S38)) (r2 : List (S73)) (r3 : List Bool) (r4 : Int) (w : World) (hr0 : Kd.C (Kd.int .u8) w A0 l0.length l0) (hc0 : l0.length ≤ c0) (h : spec_DrawTasksFor.f k l0 = some (r1, r2, r3, r4)) :
    Calls Tryd.prog 6 #[.slice A0 l0.length c0] w fun e w' => ∃ v0_ v1_ v2_ : Value, e = .returned (.tuple #[v0_, v1_, v2_, .int .i64 r4]) ∧ Kd.R k38 38 w' w.heap.size (fun _ => True) v0_ r1 ∧ Kd.R k73 73 w' w.heap.size (fun _ => True) v1_ r2 ∧ Kd.R Kd.bool 4 w' w.heap.size (fun _ => True) v2_ r3 ∧ Below w.heap.size w w' := by
  have HR0 := Aside0.mk hr0
  have HC0 := Aside0.mk hc0
  clear hr0 hc0
  have HB := Aside0.mk (Below.refl w.heap.size w)
  have H : ((spec_DrawFatesOf.f k l0).bind fun bt474 => ((spec_l1New.f k l0).bind fun bt481 => ((spec_l26Draw.f k bt481.1 bt481.2.1 bt481.2.2).bind fun bt485 => (some (bt474.1, bt474.2.1, bt485.1, bt474.2.2))))) = some (r1, r2, r3, r4) := h
  clear h
  replace H := Option.bind_eq_some_iff.mp H
  obtain ⟨⟨t474, t475, t476⟩, A20, H⟩ := H
  replace H : ((spec_l1New.f k l0).bind fun bt481 => ((spec_l26Draw.f k bt481.1 bt481.2.1 bt481.2.2).bind fun bt485 => (some (t474, t475, bt485.1, t476)))) = some (r1, r2, r3, r4) := H
  have A2 := Aside0.mk A20
  clear A20
  replace H := Option.bind_eq_some_iff.mp H
  obtain ⟨⟨t481, t482, t483⟩, A30, H⟩ := H
  replace H : ((spec_l26Draw.f k t481 t482 t483).bind fun bt485 => (some (t474, t475, bt485.1, t476))) = some (r1, r2, r3, r4) := H
  have A3 := Aside0.mk A30
  clear A30
  replace H := Option.bind_eq_some_iff.mp H
  obtain ⟨⟨t485, t488, t489⟩, A40, H⟩ := H
  replace H : (some (t474, t475, t485, t476)) = some (r1, r2, r3, r4) := H
  have A4 := Aside0.mk A40
  clear A40
  simp only [Option.some.injEq, Prod.mk.injEq] at H
  obtain ⟨rfl, rfl, rfl, rfl⟩ := H
  go_enter Tryd.func6, Tryd.ntmps6
  go_wp2_with (first | ((with_reducible refine gate_callee (f := 16) rfl ?_); refine goesL_ (some 12) rfl rfl Tryd.func16 (by kernel_rfl) rfl #[.slice A0 l0.length c0] rfl ma_ ?_; (with_reducible refine (spec_DrawFatesOf.calls k _ _ l0 t474 t475 t476 _ ?side1 ?side2 A2.out).mono ?_); (case side1 => exact cd_ HR0.out); (case side2 => exact HC0.out); rintro e w5 ⟨v477, v479, rfl, ho0, ho1, hb⟩; refine ⟨_, rfl, ?_⟩; have HO478 := Aside0.mk (Kd.R_lower ho0 (below_size (hd_ HB.out))); have HO480 := Aside0.mk (Kd.R_lower ho1 (below_size (hd_ HB.out))); have n2_ := Aside0.mk (below_step (hd_ HB.out) hb); clear HB; have HB := n2_; clear n2_; (try clear hb); (try clear ho0); (try clear ho1)) | ((with_reducible refine gate_callee (f := 17) rfl ?_); refine goesL_ (some 17) rfl rfl Tryd.func17 (by kernel_rfl) rfl #[.slice A0 l0.length c0] rfl ma_ ?_; (with_reducible refine (spec_l1New.calls k _ _ l0 t481 t482 t483 w _ ?side1 ?side2 ?side3 A3.out).mono ?_); (case side1 => repeat (first | (with_reducible first | exact HB.out | apply below_alloc | apply pw_below_drewN | apply below_drew1) | exact HB.out)); (case side2 => exact HR0.out); (case side3 => exact HC0.out); rintro e w6 ⟨g484, rfl, hi, hb, hb2⟩; refine ⟨_, rfl, ?_⟩; have n0_ := Aside0.mk (Kd.R_below (rd_ HO478.out) hb2); have n1_ := Aside0.mk (Kd.R_below (rd_ HO480.out) hb2); have n2_ := Aside0.mk (hb); have n3_ := Aside0.mk (hi); clear HO478; clear HO480; clear HB; have HO478 := n0_; have HO480 := n1_; have HB := n2_; have HI484 := n3_; clear n0_ n1_ n2_ n3_; (try clear hb); (try clear hb2); (try clear hi)) | ((with_reducible refine gate_callee (f := 18) rfl ?_); refine goesL_ (some 21) rfl rfl Tryd.func18 (by kernel_rfl) rfl #[.pointer (some ⟨g484, 0, none⟩)] rfl ma_ ?_; (with_reducible refine (spec_l26Draw.calls k g484 t481 t482 t483 t485 t488 t489 w _ ?side1 ?side2 A4.out).mono ?_); (case side1 => repeat (first | (with_reducible first | exact HI484.out | apply IsS69.alloc | apply IsS69.drewN | apply IsS69.drew | apply IsS69.set_1 | apply IsS69.set_2) | exact HI484.out)); (case side2 => repeat (first | (with_reducible first | exact HB.out | apply below_alloc | apply pw_below_drewN | apply below_drew1 | refine below_set ?_ (IsS69.ge HI484.out)) | exact HB.out)); rintro e w7 ⟨v486, rfl, ho0, hi, hb, hk⟩; refine ⟨_, rfl, ?_⟩; have n0_ := Aside0.mk (Kd.R_mono (Kd.R_keep (IsS69.apart (show IsS69 w _ g484 t481 t482 t483 from by repeat (first | (with_reducible first | exact HI484.out | apply IsS69.alloc | apply IsS69.drewN | apply IsS69.drew | apply IsS69.set_1 | apply IsS69.set_2) | exact HI484.out)) (rd_ HO478.out) (by decide)) hk (fun _ h => h.2)) (fun _ h => h.1)); have n1_ := Aside0.mk (Kd.R_mono (Kd.R_keep (IsS69.apart (show IsS69 w _ g484 t481 t482 t483 from by repeat (first | (with_reducible first | exact HI484.out | apply IsS69.alloc | apply IsS69.drewN | apply IsS69.drew | apply IsS69.set_1 | apply IsS69.set_2) | exact HI484.out)) (rd_ HO480.out) (by decide)) hk (fun _ h => h.2)) (fun _ h => h.1)); have HO487 := Aside0.mk (Kd.R_lower ho0 (below_size (by repeat (first | (with_reducible first | exact HB.out | apply below_alloc | apply pw_below_drewN | apply below_drew1 | refine below_set ?_ (IsS69.ge HI484.out)) | exact HB.out)))); have n3_ := Aside0.mk (hb); have n4_ := Aside0.mk (hi); clear HO478; clear HO480; clear HB; clear HI484; have HO478 := n0_; have HO480 := n1_; have HB := n3_; have HI484 := n4_; clear n0_ n1_ n3_ n4_; (try clear hb); (try clear hk); (try clear hi); (try clear ho0)))
  refine bodyPost_ret (results_list (rs := [.tmp 2, .tmp 3, .tmp 4, .tmp 5]) rfl (by simp) (.tmp (.tmp (.tmp (.tmp .nil))))) rfl ?_
  exact ⟨_, _, _, by first | rfl | (simp [errW_none, errW_some] <;> rfl) | (simp [*, errW_none, errW_some] <;> rfl), rd_ HO478.out, rd_ HO480.out, rd_ HO487.out, by repeat (first | (with_reducible first | exact HB.out | apply below_alloc | apply pw_below_drewN | apply below_drew1 | refine below_set ?_ (IsS69.ge HI484.out)) | exact HB.out)⟩

/-! ### impl_InRange: function 29 -/
def impl_InRange.f (a0 : Int) (a1 : Int) (a2 : Int) : Option (Bool) := if a1 ≤ a0 then (some (decide (a0 ≤ a2))) else (some false)
set_option maxHeartbeats 8000000 in
set_option maxRecDepth 100000 in
theorem impl_InRange.calls (a0 : Int) (a1 : Int) (a2 : Int) (r : Bool) (w : World) (h : impl_InRange.f a0 a1 a2 = some r) :
    Calls Tryd.prog 29 #[.int .i64 a0, .int .i64 a1, .int .i64 a2] w fun e w' => e = .returned (.bool r) ∧ Drawn0 w w' := by
  have H : (if a1 ≤ a0 then (some (decide (a0 ≤ a2))) else (some false)) = some r := h
  clear h
  by_cases c4 : a1 ≤ a0
  · rw [if_pos c4] at H
    have c4b0 : decide (a1 ≤ a0) = true := decide_eq_true c4
    clear c4
    obtain rfl := Option.some.inj H
    go_enter Tryd.func29, Tryd.ntmps29
    go_wp2
    go_ret
    exact ⟨rs_, by repeat (first | exact Drawn0.refl _ | apply Drawn0.step)⟩
  · rw [if_neg c4] at H
    have c4b0 : decide (a1 ≤ a0) = false := decide_eq_false c4
    clear c4
    obtain rfl := Option.some.inj H
    go_enter Tryd.func29, Tryd.ntmps29
    go_wp2
    go_ret
    exact ⟨rs_, by repeat (first | exact Drawn0.refl _ | apply Drawn0.step)⟩

/-! ### impl_IsThing: function 45 -/
def impl_IsThing.f (a0_0 : Int) (a0_1 : Int) (a0_2 : Int) (a0_3 : Int) (a0_4 : Int) : Option (Bool) := (impl_InRange.f a0_0 1 999).bind fun t491 => (if t491 = true then ((impl_InRange.f a0_1 1 8).bind fun t492 => (if t492 = true then ((impl_InRange.f a0_2 0 7).bind fun t493 => (if t493 = true then ((impl_InRange.f a0_3 1 50).bind fun t494 => (if t494 = true then ((impl_InRange.f a0_4 0 10000000).bind fun t495 => (some t495)) else (some false))) else (some false))) else (some false))) else (some false))
theorem e113_ {w : World} {g : Nat} {t : TypeId} {i0 : Int} {i1 : Int} {i2 : Int} {i3 : Int} {i4 : Int} (h : w.heap[g]? = some (.cells #[.int .i64 i0, .int .i64 i1, .int .i64 i2, .int .i64 i3, .int .i64 i4] t (0, 0))) : w.cell? ⟨g, 0, none⟩ = some (.int .i64 i0) ∧ w.cell? ⟨g, 1, none⟩ = some (.int .i64 i1) ∧ w.cell? ⟨g, 2, none⟩ = some (.int .i64 i2) ∧ w.cell? ⟨g, 3, none⟩ = some (.int .i64 i3) ∧ w.cell? ⟨g, 4, none⟩ = some (.int .i64 i4) := ⟨(blk_cell h 0).trans rfl, (blk_cell h 1).trans rfl, (blk_cell h 2).trans rfl, (blk_cell h 3).trans rfl, (blk_cell h 4).trans rfl⟩
theorem z114_ {w : World} {g : Nat} {t : TypeId} {cs : Array Value} (h : w.heap[g]? = some (.cells cs t (0, 0))) : w.frozen? ⟨g, 0, none⟩ = false ∧ w.frozen? ⟨g, 1, none⟩ = false ∧ w.frozen? ⟨g, 2, none⟩ = false ∧ w.frozen? ⟨g, 3, none⟩ = false ∧ w.frozen? ⟨g, 4, none⟩ = false := ⟨blk_frozen h 0, blk_frozen h 1, blk_frozen h 2, blk_frozen h 3, blk_frozen h 4⟩
theorem y116_ {P : Prop} (h : P := by repeat (first | (with_reducible first | exact HB.out | apply below_alloc | apply pw_below_drewN | apply below_drew1 | refine below_set ?_ GE490.out) | exact HB.out)) : P := h
theorem y118_ {P : Prop} (h : P := by rw [hg]; exact (below_size (hd_ HB.out))) : P := h
set_option maxHeartbeats 8000000 in
set_option maxRecDepth 100000 in
theorem impl_IsThing.calls (a0_0 : Int) (a0_1 : Int) (a0_2 : Int) (a0_3 : Int) (a0_4 : Int) (r : Bool) (w : World) (h : impl_IsThing.f a0_0 a0_1 a0_2 a0_3 a0_4 = some r) :
    Calls Tryd.prog 45 #[.agg #[.int .i64 a0_0, .int .i64 a0_1, .int .i64 a0_2, .int .i64 a0_3, .int .i64 a0_4]] w fun e w' => e = .returned (.bool r) ∧ Below w.heap.size w w' := by
  have hu36 := Tryd.underlying36
  have HB := Aside0.mk (Below.refl w.heap.size w)
  have H : ((impl_InRange.f a0_0 1 999).bind fun t491 => (if t491 = true then ((impl_InRange.f a0_1 1 8).bind fun t492 => (if t492 = true then ((impl_InRange.f a0_2 0 7).bind fun t493 => (if t493 = true then ((impl_InRange.f a0_3 1 50).bind fun t494 => (if t494 = true then ((impl_InRange.f a0_4 0 10000000).bind fun t495 => (some t495)) else (some false))) else (some false))) else (some false))) else (some false))) = some r := h
  clear h
  replace H := Option.bind_eq_some_iff.mp H
  obtain ⟨t491, A20, H⟩ := H
  replace H : (if t491 = true then ((impl_InRange.f a0_1 1 8).bind fun t492 => (if t492 = true then ((impl_InRange.f a0_2 0 7).bind fun t493 => (if t493 = true then ((impl_InRange.f a0_3 1 50).bind fun t494 => (if t494 = true then ((impl_InRange.f a0_4 0 10000000).bind fun t495 => (some t495)) else (some false))) else (some false))) else (some false))) else (some false)) = some r := H
  have A2 := Aside0.mk A20
  clear A20
  by_cases c3 : t491 = true
  · subst c3
    have H1 : ((impl_InRange.f a0_1 1 8).bind fun t492 => (if t492 = true then ((impl_InRange.f a0_2 0 7).bind fun t493 => (if t493 = true then ((impl_InRange.f a0_3 1 50).bind fun t494 => (if t494 = true then ((impl_InRange.f a0_4 0 10000000).bind fun t495 => (some t495)) else (some false))) else (some false))) else (some false))) = some r := by rw [if_pos rfl] at H; exact H
    clear H
    have H := H1
    clear H1
    replace H := Option.bind_eq_some_iff.mp H
    obtain ⟨t492, A40, H⟩ := H
    replace H : (if t492 = true then ((impl_InRange.f a0_2 0 7).bind fun t493 => (if t493 = true then ((impl_InRange.f a0_3 1 50).bind fun t494 => (if t494 = true then ((impl_InRange.f a0_4 0 10000000).bind fun t495 => (some t495)) else (some false))) else (some false))) else (some false)) = some r := H
    have A4 := Aside0.mk A40
    clear A40
    by_cases c5 : t492 = true
    · subst c5
      have H1 : ((impl_InRange.f a0_2 0 7).bind fun t493 => (if t493 = true then ((impl_InRange.f a0_3 1 50).bind fun t494 => (if t494 = true then ((impl_InRange.f a0_4 0 10000000).bind fun t495 => (some t495)) else (some false))) else (some false))) = some r := by rw [if_pos rfl] at H; exact H
      clear H
      have H := H1
      clear H1
      replace H := Option.bind_eq_some_iff.mp H
      obtain ⟨t493, A60, H⟩ := H
      replace H : (if t493 = true then ((impl_InRange.f a0_3 1 50).bind fun t494 => (if t494 = true then ((impl_InRange.f a0_4 0 10000000).bind fun t495 => (some t495)) else (some false))) else (some false)) = some r := H
      have A6 := Aside0.mk A60
      clear A60
      by_cases c7 : t493 = true
      · subst c7
        have H1 : ((impl_InRange.f a0_3 1 50).bind fun t494 => (if t494 = true then ((impl_InRange.f a0_4 0 10000000).bind fun t495 => (some t495)) else (some false))) = some r := by rw [if_pos rfl] at H; exact H
        clear H
        have H := H1
        clear H1
        replace H := Option.bind_eq_some_iff.mp H
        obtain ⟨t494, A80, H⟩ := H
        replace H : (if t494 = true then ((impl_InRange.f a0_4 0 10000000).bind fun t495 => (some t495)) else (some false)) = some r := H
        have A8 := Aside0.mk A80
        clear A80
        by_cases c9 : t494 = true
        · subst c9
          have H1 : ((impl_InRange.f a0_4 0 10000000).bind fun t495 => (some t495)) = some r := by rw [if_pos rfl] at H; exact H
          clear H
          have H := H1
          clear H1
          replace H := Option.bind_eq_some_iff.mp H
          obtain ⟨t495, A100, H⟩ := H
          replace H : (some t495) = some r := H
          have A10 := Aside0.mk A100
          clear A100
          obtain rfl := Option.some.inj H
          go_enter Tryd.func45, Tryd.ntmps45
          go_wp2_with (first | ((with_reducible refine gate_dst (N := 1) rfl ?_); refine bx_ 1 #[.int .i64 a0_0, .int .i64 a0_1, .int .i64 a0_2, .int .i64 a0_3, .int .i64 a0_4] 36 ?_; intro gb490 hg w11 hbox hb; have n0_ := Aside0.mk (below_step (hd_ HB.out) hb); have BK490 := Aside0.mk (hbox); have GW490 := Aside0.mk ((y118_ : w.heap.size ≤ gb490)); have GE490 := GW490; clear HB; have HB := n0_; clear n0_; clear hb hbox hg; obtain ⟨hcz12_0, hcz12_1, hcz12_2, hcz12_3, hcz12_4⟩ := e113_ BK490.out; obtain ⟨hfz12_0, hfz12_1, hfz12_2, hfz12_3, hfz12_4⟩ := z114_ BK490.out) | ((with_reducible refine gate_callee (f := 29) rfl ?_); refine goesL_ (some 5) rfl rfl Tryd.func29 (by kernel_rfl) rfl #[.int .i64 a0_0, .int .i64 1, .int .i64 999] rfl ma_ ?_; (with_reducible refine (impl_InRange.calls a0_0 1 999 true _ A2.out).mono ?_); rintro e w' ⟨rfl, ⟨nd, rfl⟩⟩; refine ⟨_, rfl, ?_⟩) | (go_at_call 29; (with_reducible refine (impl_InRange.calls a0_1 1 8 true _ A4.out).mono ?_); rintro e w' ⟨rfl, ⟨nd, rfl⟩⟩) | (go_at_call 29; (with_reducible refine (impl_InRange.calls a0_2 0 7 true _ A6.out).mono ?_); rintro e w' ⟨rfl, ⟨nd, rfl⟩⟩) | (go_at_call 29; (with_reducible refine (impl_InRange.calls a0_3 1 50 true _ A8.out).mono ?_); rintro e w' ⟨rfl, ⟨nd, rfl⟩⟩) | (go_at_call 29; (with_reducible refine (impl_InRange.calls a0_4 0 10000000 t495 _ A10.out).mono ?_); rintro e w' ⟨rfl, ⟨nd, rfl⟩⟩))
          go_ret
          exact ⟨rt_, y116_⟩
        · replace c9 := Bool.eq_false_iff.mpr c9
          subst c9
          have H1 : (some false) = some r := by rw [if_neg (show ¬ (false = true) by decide)] at H; exact H
          clear H
          have H := H1
          clear H1
          obtain rfl := Option.some.inj H
          go_enter Tryd.func45, Tryd.ntmps45
          go_wp2_with (first | ((with_reducible refine gate_dst (N := 1) rfl ?_); refine bx_ 1 #[.int .i64 a0_0, .int .i64 a0_1, .int .i64 a0_2, .int .i64 a0_3, .int .i64 a0_4] 36 ?_; intro gb490 hg w13 hbox hb; have n0_ := Aside0.mk (below_step (hd_ HB.out) hb); have BK490 := Aside0.mk (hbox); have GW490 := Aside0.mk ((y118_ : w.heap.size ≤ gb490)); have GE490 := GW490; clear HB; have HB := n0_; clear n0_; clear hb hbox hg; obtain ⟨hcz14_0, hcz14_1, hcz14_2, hcz14_3, hcz14_4⟩ := e113_ BK490.out; obtain ⟨hfz14_0, hfz14_1, hfz14_2, hfz14_3, hfz14_4⟩ := z114_ BK490.out) | ((with_reducible refine gate_callee (f := 29) rfl ?_); refine goesL_ (some 5) rfl rfl Tryd.func29 (by kernel_rfl) rfl #[.int .i64 a0_0, .int .i64 1, .int .i64 999] rfl ma_ ?_; (with_reducible refine (impl_InRange.calls a0_0 1 999 true _ A2.out).mono ?_); rintro e w' ⟨rfl, ⟨nd, rfl⟩⟩; refine ⟨_, rfl, ?_⟩) | (go_at_call 29; (with_reducible refine (impl_InRange.calls a0_1 1 8 true _ A4.out).mono ?_); rintro e w' ⟨rfl, ⟨nd, rfl⟩⟩) | (go_at_call 29; (with_reducible refine (impl_InRange.calls a0_2 0 7 true _ A6.out).mono ?_); rintro e w' ⟨rfl, ⟨nd, rfl⟩⟩) | (go_at_call 29; (with_reducible refine (impl_InRange.calls a0_3 1 50 false _ A8.out).mono ?_); rintro e w' ⟨rfl, ⟨nd, rfl⟩⟩))
          go_ret
          exact ⟨rt_, y116_⟩
      · replace c7 := Bool.eq_false_iff.mpr c7
        subst c7
        have H1 : (some false) = some r := by rw [if_neg (show ¬ (false = true) by decide)] at H; exact H
        clear H
        have H := H1
        clear H1
        obtain rfl := Option.some.inj H
        go_enter Tryd.func45, Tryd.ntmps45
        go_wp2_with (first | ((with_reducible refine gate_dst (N := 1) rfl ?_); refine bx_ 1 #[.int .i64 a0_0, .int .i64 a0_1, .int .i64 a0_2, .int .i64 a0_3, .int .i64 a0_4] 36 ?_; intro gb490 hg w15 hbox hb; have n0_ := Aside0.mk (below_step (hd_ HB.out) hb); have BK490 := Aside0.mk (hbox); have GW490 := Aside0.mk ((y118_ : w.heap.size ≤ gb490)); have GE490 := GW490; clear HB; have HB := n0_; clear n0_; clear hb hbox hg; obtain ⟨hcz16_0, hcz16_1, hcz16_2, hcz16_3, hcz16_4⟩ := e113_ BK490.out; obtain ⟨hfz16_0, hfz16_1, hfz16_2, hfz16_3, hfz16_4⟩ := z114_ BK490.out) | ((with_reducible refine gate_callee (f := 29) rfl ?_); refine goesL_ (some 5) rfl rfl Tryd.func29 (by kernel_rfl) rfl #[.int .i64 a0_0, .int .i64 1, .int .i64 999] rfl ma_ ?_; (with_reducible refine (impl_InRange.calls a0_0 1 999 true _ A2.out).mono ?_); rintro e w' ⟨rfl, ⟨nd, rfl⟩⟩; refine ⟨_, rfl, ?_⟩) | (go_at_call 29; (with_reducible refine (impl_InRange.calls a0_1 1 8 true _ A4.out).mono ?_); rintro e w' ⟨rfl, ⟨nd, rfl⟩⟩) | (go_at_call 29; (with_reducible refine (impl_InRange.calls a0_2 0 7 false _ A6.out).mono ?_); rintro e w' ⟨rfl, ⟨nd, rfl⟩⟩))
        go_ret
        exact ⟨rt_, y116_⟩
    · replace c5 := Bool.eq_false_iff.mpr c5
      subst c5
      have H1 : (some false) = some r := by rw [if_neg (show ¬ (false = true) by decide)] at H; exact H
      clear H
      have H := H1
      clear H1
      obtain rfl := Option.some.inj H
      go_enter Tryd.func45, Tryd.ntmps45
      go_wp2_with (first | ((with_reducible refine gate_dst (N := 1) rfl ?_); refine bx_ 1 #[.int .i64 a0_0, .int .i64 a0_1, .int .i64 a0_2, .int .i64 a0_3, .int .i64 a0_4] 36 ?_; intro gb490 hg w17 hbox hb; have n0_ := Aside0.mk (below_step (hd_ HB.out) hb); have BK490 := Aside0.mk (hbox); have GW490 := Aside0.mk ((y118_ : w.heap.size ≤ gb490)); have GE490 := GW490; clear HB; have HB := n0_; clear n0_; clear hb hbox hg; obtain ⟨hcz18_0, hcz18_1, hcz18_2, hcz18_3, hcz18_4⟩ := e113_ BK490.out; obtain ⟨hfz18_0, hfz18_1, hfz18_2, hfz18_3, hfz18_4⟩ := z114_ BK490.out) | ((with_reducible refine gate_callee (f := 29) rfl ?_); refine goesL_ (some 5) rfl rfl Tryd.func29 (by kernel_rfl) rfl #[.int .i64 a0_0, .int .i64 1, .int .i64 999] rfl ma_ ?_; (with_reducible refine (impl_InRange.calls a0_0 1 999 true _ A2.out).mono ?_); rintro e w' ⟨rfl, ⟨nd, rfl⟩⟩; refine ⟨_, rfl, ?_⟩) | (go_at_call 29; (with_reducible refine (impl_InRange.calls a0_1 1 8 false _ A4.out).mono ?_); rintro e w' ⟨rfl, ⟨nd, rfl⟩⟩))
      go_ret
      exact ⟨rt_, y116_⟩
  · replace c3 := Bool.eq_false_iff.mpr c3
    subst c3
    have H1 : (some false) = some r := by rw [if_neg (show ¬ (false = true) by decide)] at H; exact H
    clear H
    have H := H1
    clear H1
    obtain rfl := Option.some.inj H
    go_enter Tryd.func45, Tryd.ntmps45
    go_wp2_with (first | ((with_reducible refine gate_dst (N := 1) rfl ?_); refine bx_ 1 #[.int .i64 a0_0, .int .i64 a0_1, .int .i64 a0_2, .int .i64 a0_3, .int .i64 a0_4] 36 ?_; intro gb490 hg w19 hbox hb; have n0_ := Aside0.mk (below_step (hd_ HB.out) hb); have BK490 := Aside0.mk (hbox); have GW490 := Aside0.mk ((y118_ : w.heap.size ≤ gb490)); have GE490 := GW490; clear HB; have HB := n0_; clear n0_; clear hb hbox hg; obtain ⟨hcz20_0, hcz20_1, hcz20_2, hcz20_3, hcz20_4⟩ := e113_ BK490.out; obtain ⟨hfz20_0, hfz20_1, hfz20_2, hfz20_3, hfz20_4⟩ := z114_ BK490.out) | ((with_reducible refine gate_callee (f := 29) rfl ?_); refine goesL_ (some 5) rfl rfl Tryd.func29 (by kernel_rfl) rfl #[.int .i64 a0_0, .int .i64 1, .int .i64 999] rfl ma_ ?_; (with_reducible refine (impl_InRange.calls a0_0 1 999 false _ A2.out).mono ?_); rintro e w' ⟨rfl, ⟨nd, rfl⟩⟩; refine ⟨_, rfl, ?_⟩))
    go_ret
    exact ⟨rt_, y116_⟩

end Go.Proofs.YtnlgilmbmoiniaaDoor.PFnTasks
