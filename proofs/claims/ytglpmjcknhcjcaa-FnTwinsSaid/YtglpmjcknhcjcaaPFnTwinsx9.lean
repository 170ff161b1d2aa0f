-- Written for this claim by a program (a printer turned to this claim); Lean checks it.
import Derived.Test.YtglpmjcknhcjcaaPFnTwinsx0
import Derived.Test.YtglpmjcknhcjcaaPFnTwinsx3
import Derived.Test.YtglpmjcknhcjcaaPFnTwinsx4
import Derived.Test.YtglpmjcknhcjcaaPFnTwinsx8
namespace Go.Proofs.Ytglpmjcknhcjcaa.PFnTwins
open Go.RowKit Go.Proofs.YtglpmjcknhcjcaaW.PrintWords Go.Proofs.YtglpmjcknhcjcaaW.PrintLast Go.Proofs.YtglpmjcknhcjcaaW.PrintMore
attribute [local go_sem] max2_int min2_int max_two min_two max_three min_three max_four min_four   -- for this text's walks alone
set_option linter.unusedVariables false
set_option linter.unusedSimpArgs false

/-! ### spec_DropTwins: function 22 -/
def spec_DropTwins.l0 : Nat → List (S58) → List (S58) → List Int → Int → Option ((List (S58)))
  | 0, _, _, _, _ => none
  | k + 1, x0, x3, x4, x5 => if x5 < (x0.length : Int) then (if 0 ≤ x5 then ((spec_l8Has.f k x4 ((rd_T58 x0 x5).f0.f0)).bind fun t224 => (if t224 = true then (spec_DropTwins.l0 k x0 x3 x4 (wrap64 (x5 + 1))) else (if x3.length < 2199023255552 then (spec_DropTwins.l0 k x0 (x3 ++ [(⟨(⟨(rd_T58 x0 x5).f0.f0, (rd_T58 x0 x5).f0.f1, (rd_T58 x0 x5).f0.f2, (rd_T58 x0 x5).f0.f3, (rd_T58 x0 x5).f0.f4⟩ : S56), (rd_T58 x0 x5).f1, (rd_T58 x0 x5).f2, (rd_T58 x0 x5).f3⟩ : S58)]) x4 (wrap64 (x5 + 1))) else (none)))) else (none)) else (some x3)
def spec_DropTwins.f (k : Nat) (l0 : List (S58)) : Option ((List (S58))) := (spec_TwinsOf.f k l0).bind fun t220 => (spec_DropTwins.l0 k l0 (([] : List (S58))) t220 0)
theorem spec_DropTwins.mono_l : ∀ k, (∀ y0 y1 y2 y3, LeO (spec_DropTwins.l0 k y0 y1 y2 y3) (spec_DropTwins.l0 (k + 1) y0 y1 y2 y3))
  | 0 => fun _ _ _ _ r h => by simp [spec_DropTwins.l0] at h
  | k + 1 => by
    have ih0 := spec_DropTwins.mono_l k
    · intro y0 y1 y2 y3
      unfold spec_DropTwins.l0
      have jh0 := @spec_TwinsOf.mono
      have jh1 := @spec_l8Has.mono
      exact mo_
theorem spec_DropTwins.mono : ∀ a0 k, LeO (spec_DropTwins.f k a0) (spec_DropTwins.f (k + 1) a0) := by
  intro a0 k
  have ih0 := spec_DropTwins.mono_l k
  unfold spec_DropTwins.f
  have jh0 := @spec_TwinsOf.mono
  have jh1 := @spec_l8Has.mono
  exact mo_
set_option maxHeartbeats 8000000 in
set_option maxRecDepth 100000 in
theorem spec_DropTwins.calls (k : Nat) (A0 : Option Addr) (c0 : Nat) (l0 : List (S58)) (r : List (S58)) (w : World) (hr0 : Kd.C k58 w A0 l0.length l0) (hc0 : l0.length ≤ c0) (h : spec_DropTwins.f k l0 = some r) :
    Calls Try.prog 22 #[.slice A0 l0.length c0] w fun e w' => ∃ v0_ : Value, e = .returned (v0_) ∧ Kd.R k58 58 w' w.heap.size (fun _ => True) v0_ r ∧ Below w.heap.size w w' := by
  have hu58 := Try.underlying58
  have HR0 := o_ hr0
  have HC0 := o_ hc0
  clear hr0 hc0
  have HB := o_ (Below.refl w.heap.size w)
  have H : ((spec_TwinsOf.f k l0).bind fun t220 => (spec_DropTwins.l0 k l0 (([] : List (S58))) t220 0)) = some r := h
  clear h
  obtain ⟨y217, hy217⟩ : ∃ y_ : List (S58), y_ = (([] : List (S58))) := ⟨_, rfl⟩
  replace H : ((spec_TwinsOf.f k l0).bind fun t220 => (spec_DropTwins.l0 k l0 y217 t220 0)) = some r := hy_ H hy217
  have Ny217 := o_ hy217
  clear hy217
  obtain ⟨t220, A2, H⟩ := ob_ H
  try dsimp only at H
  have H' := o_ H
  clear H
  go_enter Try.func22, Try.ntmps22
  go_wp2_with (first | ((with_reducible refine gate_dst (N := 6) rfl ?_); refine Kd.R_lit k58 _ 58 ?hg (N := 6) ?hd (xs := ([] : List (S58))) (inner := []) (ok := fun _ => True) (okp := fun _ => True) ?hr ?hp (fun _ hk => hk) trivial (Below.refl _ _) (Nat.le_refl _) (by simp) ?_; (case hd => rfl); (case hg => rfl); (case hr => first | (go_simp; done) | (go_simp; rfl)); (case hp => exact (Reps.none _ _)); intro v218 w3 ho4 hb hg_ hnew_; clear hg_ hnew_; (first | rw [← Ny217.1] at ho4 | (simp only [Int.reduceToNat] at ho4; rw [← Ny217.1] at ho4)); have HO219 := o_ (Kd.R_lower ho4 (below_size (hd_ HB.1))); replace HB := o_ (below_step (hd_ HB.1) hb); clear hb ho4) | ((with_reducible refine g_ 9 ?_); refine gl_ (some 8) Try.func9 #[.slice A0 l0.length c0] ?_; (with_reducible refine (spec_TwinsOf.calls k _ _ l0 t220 _ (cd_ (Kd.C_below HR0.1 HB.1)) HC0.1 A2.1).mono ?_); rintro e w5 ⟨v221, rfl, ho0, hb⟩; refine ⟨_, rfl, ?_⟩; replace HO219 := o_ (Kd.R_below (rd_ HO219.1) hb); have HO222 := o_ (Kd.R_lower ho0 (below_size (hd_ HB.1))); replace HB := o_ (below_step (hd_ HB.1) hb); (try clear hb ho0)))
  go_loopg [3, 5] k (fun kq v3 v5 w' => ∃ (x3_1 : List (S58)) (x5_1 : Int), v5 = .int .i64 x5_1 ∧ Aside0 (spec_DropTwins.l0 kq l0 x3_1 t220 x5_1 = some r) ∧ Aside0 (kq ≤ k) ∧ Aside0 (Kd.R k58 58 w' w.heap.size (fun _ => True) v3 x3_1) ∧ Aside0 (Kd.R (Kd.int .i64) 3 w' w.heap.size (fun _ => True) v221 t220) ∧ Aside0 (Below w.heap.size w w'))
  case atStart => exact ⟨(y217), (0), rs_, H', ⟨Nat.le_refl _⟩, ⟨rd_ HO219.1⟩, ⟨rd_ HO222.1⟩, ⟨hd_ HB.1⟩⟩
  case round =>
    clear H'
    try clear c2
    try clear p2
    obtain ⟨x3_1, x5_1, rfl, HA, HK1, HO_3, HO_4, HB⟩ := hrel
    cases gk with
    | zero => exact absurd HA.1 (by simp [spec_DropTwins.l0])
    | succ k1 =>
      have H := HA.1
      clear HA
      simp only [spec_DropTwins.l0] at H
      by_cases c6 : x5_1 < (l0.length : Int)
      · rw [if_pos c6] at H
        have c6b0 := decide_eq_true c6
        clear c6
        by_cases c7 : 0 ≤ x5_1
        · rw [if_pos c7] at H
          have c7b0 := decide_eq_true c7
          clear c7
          obtain ⟨t224, A8, H⟩ := ob_ H
          try dsimp only at H
          by_cases c9 : t224 = true
          · subst c9
            have H1 := H
            rw [if_pos rfl] at H1
            clear H
            have H := H1
            clear H1
            have H' := o_ H
            clear H
            have p223 : 0 ≤ (x5_1 : Int) := of_decide_eq_true as_
            have q223 : x5_1 < (l0.length : Int) := of_decide_eq_true as_
            obtain ⟨ad223, e223, hx223_0, hx223_1, hx223_2, hx223_3, hx223_4, hx223_5, hx223_6, hx223_7⟩ := at_T58 HR0.1 x5_1 p223 q223
            cases e223
            replace hx223_0 := cb_ HB.1 hx223_0
            replace hx223_1 := cb_ HB.1 hx223_1
            replace hx223_2 := cb_ HB.1 hx223_2
            replace hx223_3 := cb_ HB.1 hx223_3
            replace hx223_4 := cb_ HB.1 hx223_4
            replace hx223_5 := cb_ HB.1 hx223_5
            replace hx223_6 := cb_ HB.1 hx223_6
            replace hx223_7 := cb_ HB.1 hx223_7
            replace p223 := eq_true p223
            replace q223 := eq_true q223
            obtain ⟨Ao10, co10, eo10⟩ := Kd.R_slice HO_4.1
            subst eo10
            go_wp2_with (first | ((with_reducible refine g_ 54 ?_); refine gl_ (some 22) Try.func54 #[.slice Ao10 t220.length co10, .int .i64 ((rd_T58 l0 x5_1).f0.f0)] ?_; (with_reducible refine (spec_l8Has.calls k1 _ _ t220 ((rd_T58 l0 x5_1).f0.f0) true _ (cd_ (Kd.R_reads' HO_4.1).2.2) ((Kd.R_reads' HO_4.1).2.1) A8.1).mono ?_); rintro e w' ⟨rfl, ⟨nd, rfl⟩⟩; refine ⟨_, rfl, ?_⟩))
            go_roundg k1
            case measure => have := HK1.1; omega
            case rel => exact ⟨(x3_1), (wrap64 (x5_1 + 1)), rs_, H', ⟨by have := HK1.1; omega⟩, ⟨rd_ HO_3.1⟩, ⟨rd_ HO_4.1⟩, ⟨hd_ HB.1⟩⟩
          · replace c9 := Bool.eq_false_iff.mpr c9
            subst c9
            have H1 := H
            rw [if_neg nt_] at H1
            clear H
            have H := H1
            clear H1
            by_cases c11 : x3_1.length < 2199023255552
            · rw [if_pos c11] at H
              have LMc11 := o_ c11
              clear c11
              obtain ⟨y226, hy226⟩ : ∃ y_ : List (S58), y_ = (x3_1 ++ [(⟨(⟨(rd_T58 l0 x5_1).f0.f0, (rd_T58 l0 x5_1).f0.f1, (rd_T58 l0 x5_1).f0.f2, (rd_T58 l0 x5_1).f0.f3, (rd_T58 l0 x5_1).f0.f4⟩ : S56), (rd_T58 l0 x5_1).f1, (rd_T58 l0 x5_1).f2, (rd_T58 l0 x5_1).f3⟩ : S58)]) := ⟨_, rfl⟩
              replace H : (spec_DropTwins.l0 k1 l0 y226 t220 (wrap64 (x5_1 + 1))) = some r := hy_ H hy226
              have Ny226 := o_ hy226
              clear hy226
              have H' := o_ H
              clear H
              have p223 : 0 ≤ (x5_1 : Int) := of_decide_eq_true as_
              have q223 : x5_1 < (l0.length : Int) := of_decide_eq_true as_
              obtain ⟨ad223, e223, hx223_0, hx223_1, hx223_2, hx223_3, hx223_4, hx223_5, hx223_6, hx223_7⟩ := at_T58 HR0.1 x5_1 p223 q223
              cases e223
              replace hx223_0 := cb_ HB.1 hx223_0
              replace hx223_1 := cb_ HB.1 hx223_1
              replace hx223_2 := cb_ HB.1 hx223_2
              replace hx223_3 := cb_ HB.1 hx223_3
              replace hx223_4 := cb_ HB.1 hx223_4
              replace hx223_5 := cb_ HB.1 hx223_5
              replace hx223_6 := cb_ HB.1 hx223_6
              replace hx223_7 := cb_ HB.1 hx223_7
              replace p223 := eq_true p223
              replace q223 := eq_true q223
              obtain ⟨Ao12, co12, eo12⟩ := Kd.R_slice HO_4.1
              subst eo12
              go_wp2_with (first | ((with_reducible refine g_ 54 ?_); refine gl_ (some 22) Try.func54 #[.slice Ao12 t220.length co12, .int .i64 ((rd_T58 l0 x5_1).f0.f0)] ?_; (with_reducible refine (spec_l8Has.calls k1 _ _ t220 ((rd_T58 l0 x5_1).f0.f0) false _ (cd_ (Kd.R_reads' HO_4.1).2.2) ((Kd.R_reads' HO_4.1).2.1) A8.1).mono ?_); rintro e w' ⟨rfl, ⟨nd, rfl⟩⟩; refine ⟨_, rfl, ?_⟩; have p225 : 0 ≤ (x5_1 : Int) := of_decide_eq_true as_; have q225 : x5_1 < (l0.length : Int) := of_decide_eq_true as_; obtain ⟨ad225, e225, hx225_0, hx225_1, hx225_2, hx225_3, hx225_4, hx225_5, hx225_6, hx225_7⟩ := at_T58 HR0.1 x5_1 p225 q225; obtain rfl : ad223 = ad225 := (by injection e225); replace hx225_0 := cb_ HB.1 hx225_0; replace hx225_1 := cb_ HB.1 hx225_1; replace hx225_2 := cb_ HB.1 hx225_2; replace hx225_3 := cb_ HB.1 hx225_3; replace hx225_4 := cb_ HB.1 hx225_4; replace hx225_5 := cb_ HB.1 hx225_5; replace hx225_6 := cb_ HB.1 hx225_6; replace hx225_7 := cb_ HB.1 hx225_7; replace p225 := eq_true p225; replace q225 := eq_true q225) | ((with_reducible refine gate_builtin (b := .append) (xs := #[.tmp 24, .tmp 29]) rfl ?_); at_builtin; refine Kd.R_append k58 (w0 := w) w.heap.size rfl (.tmp 24) (.tmp 29) 26 58 (.agg #[(.int .i64 0), (.int .i64 0), (.int .i64 0), (.int .i64 0), (.int .i64 0), (.int .i64 0), (.int .i64 0), (.int .i64 0)]) 64 rfl Try.underlying26 info58 rfl (by decide) (by omega) u3 x3_1 (⟨(⟨(rd_T58 l0 x5_1).f0.f0, (rd_T58 l0 x5_1).f0.f1, (rd_T58 l0 x5_1).f0.f2, (rd_T58 l0 x5_1).f0.f3, (rd_T58 l0 x5_1).f0.f4⟩ : S56), (rd_T58 l0 x5_1).f1, (rd_T58 l0 x5_1).f2, (rd_T58 l0 x5_1).f3⟩ : S58) [.int .i64 ((rd_T58 l0 x5_1).f0.f0), .int .i64 ((rd_T58 l0 x5_1).f0.f1), .int .i64 ((rd_T58 l0 x5_1).f0.f2), .int .i64 ((rd_T58 l0 x5_1).f0.f3), .int .i64 ((rd_T58 l0 x5_1).f0.f4), .int .i64 ((rd_T58 l0 x5_1).f1), .int .i64 ((rd_T58 l0 x5_1).f2), .int .i64 ((rd_T58 l0 x5_1).f3)] (fun _ => True) (fun _ => False) rfl rfl ?aP (fun _ hk => hk.elim) ?aF ?aO ?aB ?aS ?aL ?_; (case aP => exact k58_mkM _ _ _ (⟨(⟨(rd_T58 l0 x5_1).f0.f0, (rd_T58 l0 x5_1).f0.f1, (rd_T58 l0 x5_1).f0.f2, (rd_T58 l0 x5_1).f0.f3, (rd_T58 l0 x5_1).f0.f4⟩ : S56), (rd_T58 l0 x5_1).f1, (rd_T58 l0 x5_1).f2, (rd_T58 l0 x5_1).f3⟩ : S58)); (case aB => exact hd_ HB.1); (case aF => exact (fun _ _ => trivial)); (case aO => exact (rd_ HO_3.1)); (case aS => exact (below_size (hd_ HB.1))); (case aL => have := LMc11.1; omega); intro v227 w13 ho hb hg hat; rw [← Ny226.1] at ho; replace HO_4 := o_ (Kd.R_over' (rd_ HO_4.1) (Kd.R_typed (rd_ HO_3.1)) (by decide) hg); replace HB := o_ (hb); have HO228 := o_ (ho); clear HO_3 ho hb hg hat))
              go_roundg k1
              case measure => have := HK1.1; omega
              case rel => exact ⟨(y226), (wrap64 (x5_1 + 1)), rs_, H', ⟨by have := HK1.1; omega⟩, ⟨rd_ HO228.1⟩, ⟨rd_ HO_4.1⟩, ⟨hd_ HB.1⟩⟩
            · rw [if_neg c11] at H
              exact absurd H (by simp)
        · rw [if_neg c7] at H
          exact absurd H (by simp)
      · rw [if_neg c6] at H
        have c6b0 := decide_eq_false c6
        clear c6
        obtain rfl := Option.some.inj H
        go_wp2
        go_ret
        exact ⟨_, rt_, rd_ HO_3.1, hd_ HB.1⟩

/-! ### impl_DropTwins: function 23 -/
def impl_DropTwins.l0 : Nat → List Int → List (S58) → List (S58) → Int → Int → Option ((List (S58)))
  | 0, _, _, _, _, _ => none
  | k + 1, x3, x4, x10, x11, x12 => if x12 < x11 then (if 0 ≤ x12 then (if x12 < (x10.length : Int) then ((slices_Contains_int_int.f k x3 ((rd_T58 x10 x12).f0.f0)).bind fun t237 => (if t237 = true then (impl_DropTwins.l0 k x3 x4 x10 x11 (wrap64 (x12 + 1))) else (if x4.length < 2199023255552 then (impl_DropTwins.l0 k x3 (x4 ++ [(⟨(⟨(rd_T58 x10 x12).f0.f0, (rd_T58 x10 x12).f0.f1, (rd_T58 x10 x12).f0.f2, (rd_T58 x10 x12).f0.f3, (rd_T58 x10 x12).f0.f4⟩ : S56), (rd_T58 x10 x12).f1, (rd_T58 x10 x12).f2, (rd_T58 x10 x12).f3⟩ : S58)]) x10 x11 (wrap64 (x12 + 1))) else (none)))) else (none)) else (none)) else (some x4)
def impl_DropTwins.f (k : Nat) (l0 : List (S58)) : Option ((List (S58))) := (impl_TwinsOf.f k l0).bind fun t229 => (impl_DropTwins.l0 k t229 (([] : List (S58))) l0 (l0.length : Int) 0)
theorem impl_DropTwins.mono_l : ∀ k, (∀ y0 y1 y2 y3 y4, LeO (impl_DropTwins.l0 k y0 y1 y2 y3 y4) (impl_DropTwins.l0 (k + 1) y0 y1 y2 y3 y4))
  | 0 => fun _ _ _ _ _ r h => by simp [impl_DropTwins.l0] at h
  | k + 1 => by
    have ih0 := impl_DropTwins.mono_l k
    · intro y0 y1 y2 y3 y4
      unfold impl_DropTwins.l0
      have jh0 := @impl_TwinsOf.mono
      have jh1 := @slices_Contains_int_int.mono
      exact mo_
theorem impl_DropTwins.mono : ∀ a0 k, LeO (impl_DropTwins.f k a0) (impl_DropTwins.f (k + 1) a0) := by
  intro a0 k
  have ih0 := impl_DropTwins.mono_l k
  unfold impl_DropTwins.f
  have jh0 := @impl_TwinsOf.mono
  have jh1 := @slices_Contains_int_int.mono
  exact mo_
set_option maxHeartbeats 8000000 in
set_option maxRecDepth 100000 in
theorem impl_DropTwins.calls (k : Nat) (A0 : Option Addr) (c0 : Nat) (l0 : List (S58)) (r : List (S58)) (w : World) (hr0 : Kd.C k58 w A0 l0.length l0) (hc0 : l0.length ≤ c0) (h : impl_DropTwins.f k l0 = some r) :
    Calls Try.prog 23 #[.slice A0 l0.length c0] w fun e w' => ∃ v0_ : Value, e = .returned (v0_) ∧ Kd.R k58 58 w' w.heap.size (fun _ => True) v0_ r ∧ Below w.heap.size w w' := by
  have hu58 := Try.underlying58
  have HR0 := o_ hr0
  have HC0 := o_ hc0
  clear hr0 hc0
  have HB := o_ (Below.refl w.heap.size w)
  have H : ((impl_TwinsOf.f k l0).bind fun t229 => (impl_DropTwins.l0 k t229 (([] : List (S58))) l0 (l0.length : Int) 0)) = some r := h
  clear h
  obtain ⟨t229, A2, H⟩ := ob_ H
  try dsimp only at H
  obtain ⟨y232, hy232⟩ : ∃ y_ : List (S58), y_ = (([] : List (S58))) := ⟨_, rfl⟩
  replace H : (impl_DropTwins.l0 k t229 y232 l0 (l0.length : Int) 0) = some r := hy_ H hy232
  have Ny232 := o_ hy232
  clear hy232
  have H' := o_ H
  clear H
  go_enter Try.func23, Try.ntmps23
  go_wp2_with (first | ((with_reducible refine g_ 11 ?_); refine gl_ (some 8) Try.func11 #[.slice A0 l0.length c0] ?_; (with_reducible refine (impl_TwinsOf.calls k _ _ l0 t229 _ (cd_ HR0.1) HC0.1 A2.1).mono ?_); rintro e w3 ⟨v230, rfl, ho0, hb⟩; refine ⟨_, rfl, ?_⟩; have HO231 := o_ (Kd.R_lower ho0 (below_size (hd_ HB.1))); replace HB := o_ (below_step (hd_ HB.1) hb); (try clear hb ho0)) | ((with_reducible refine gate_dst (N := 9) rfl ?_); refine Kd.R_lit k58 _ 58 ?hg (N := 9) ?hd (xs := ([] : List (S58))) (inner := []) (ok := fun _ => True) (okp := fun _ => True) ?hr ?hp (fun _ hk => hk) trivial (Below.refl _ _) (Nat.le_refl _) (by simp) ?_; (case hd => rfl); (case hg => rfl); (case hr => first | (go_simp; done) | (go_simp; rfl)); (case hp => exact (Reps.none _ _)); intro v233 w4 ho5 hb hg_ hnew_; clear hg_ hnew_; (first | rw [← Ny232.1] at ho5 | (simp only [Int.reduceToNat] at ho5; rw [← Ny232.1] at ho5)); replace HO231 := o_ (Kd.R_below (rd_ HO231.1) hb); have HO234 := o_ (Kd.R_lower ho5 (below_size (hd_ HB.1))); replace HB := o_ (below_step (hd_ HB.1) hb); clear hb ho5))
  go_loopg [4, 12] k (fun kq v4 v12 w' => ∃ (x4_1 : List (S58)) (x12_1 : Int), v12 = .int .i64 x12_1 ∧ Aside0 (impl_DropTwins.l0 kq t229 x4_1 l0 (l0.length : Int) x12_1 = some r) ∧ Aside0 (kq ≤ k) ∧ Aside0 (Kd.R (Kd.int .i64) 3 w' w.heap.size (fun _ => True) v230 t229) ∧ Aside0 (Kd.R k58 58 w' w.heap.size (fun _ => True) v4 x4_1) ∧ Aside0 (Below w.heap.size w w'))
  case atStart => exact ⟨(y232), (0), rs_, H', ⟨Nat.le_refl _⟩, ⟨rd_ HO231.1⟩, ⟨rd_ HO234.1⟩, ⟨hd_ HB.1⟩⟩
  case round =>
    clear H'
    try clear c1
    try clear c2
    try clear p2
    obtain ⟨x4_1, x12_1, rfl, HA, HK1, HO_3, HO_4, HB⟩ := hrel
    cases gk with
    | zero => exact absurd HA.1 (by simp [impl_DropTwins.l0])
    | succ k1 =>
      have H := HA.1
      clear HA
      simp only [impl_DropTwins.l0] at H
      by_cases c6 : x12_1 < (l0.length : Int)
      · rw [if_pos c6] at H
        have c6b0 := decide_eq_true c6
        clear c6
        by_cases c7 : 0 ≤ x12_1
        · rw [if_pos c7] at H
          have c7b0 := decide_eq_true c7
          clear c7
          by_cases c8 : x12_1 < (l0.length : Int)
          · rw [if_pos c8] at H
            have c8b0 := decide_eq_true c8
            clear c8
            obtain ⟨t237, A9, H⟩ := ob_ H
            try dsimp only at H
            by_cases c10 : t237 = true
            · subst c10
              have H1 := H
              rw [if_pos rfl] at H1
              clear H
              have H := H1
              clear H1
              have H' := o_ H
              clear H
              have p235 : 0 ≤ (x12_1 : Int) := of_decide_eq_true as_
              have q235 : x12_1 < (l0.length : Int) := of_decide_eq_true as_
              obtain ⟨ad235, e235, hx235_0, hx235_1, hx235_2, hx235_3, hx235_4, hx235_5, hx235_6, hx235_7⟩ := at_T58 HR0.1 x12_1 p235 q235
              cases e235
              replace hx235_0 := cb_ HB.1 hx235_0
              replace hx235_1 := cb_ HB.1 hx235_1
              replace hx235_2 := cb_ HB.1 hx235_2
              replace hx235_3 := cb_ HB.1 hx235_3
              replace hx235_4 := cb_ HB.1 hx235_4
              replace hx235_5 := cb_ HB.1 hx235_5
              replace hx235_6 := cb_ HB.1 hx235_6
              replace hx235_7 := cb_ HB.1 hx235_7
              replace p235 := eq_true p235
              replace q235 := eq_true q235
              go_wp2_with (first | ((with_reducible refine gate_dst (N := 6) rfl ?_); refine bx_ 6 #[.int .i64 0, .int .i64 0, .int .i64 0, .int .i64 0, .int .i64 0, .int .i64 0, .int .i64 0, .int .i64 0] 58 ?_; intro gb236 hg w11 hbox hb; replace HO_3 := o_ (Kd.R_below (rd_ HO_3.1) hb); replace HO_4 := o_ (Kd.R_below (Kd.R_elderB (rd_ HO_4.1) gb236 (Nat.le_of_eq hg.symm)) hb); have BK236 := o_ (hbox); have GW236 := o_ ((by rw [hg]; exact (below_size (hd_ HB.1)) : w.heap.size ≤ gb236)); replace HB := o_ (below_step (hd_ HB.1) hb); have GE236 := GW236; clear hb hbox hg; obtain ⟨_, _, _, _, _, _, _, _⟩ := e4_ BK236.1; obtain ⟨_, _, _, _, _, _, _, _⟩ := z5_ BK236.1; obtain ⟨Ao13, co13, eo13⟩ := Kd.R_slice HO_3.1; subst eo13) | ((with_reducible refine g_ 55 ?_); refine gl_ (some 20) Try.func55 #[.slice Ao13 t229.length co13, .int .i64 ((rd_T58 l0 x12_1).f0.f0)] ?_; (with_reducible refine (slices_Contains_int_int.calls k1 _ _ t229 ((rd_T58 l0 x12_1).f0.f0) true _ ?side1 ((Kd.R_reads' HO_3.1).2.1) A9.1).mono ?_); (case side1 => refine (Kd.R_reads' (e := 3) (base := w.heap.size) (ok := fun k_ => True) (n := t229.length) (c := co13) ?_).2.2; exact (rf_ (R2_ HO_3.1 BK236.1) (fun _ h_ => h_.1))); rintro e w' ⟨rfl, ⟨nd, rfl⟩⟩; refine ⟨_, rfl, ?_⟩))
              go_roundg k1
              case measure => have := HK1.1; omega
              case rel => exact ⟨(x4_1), (wrap64 (x12_1 + 1)), rs_, H', ⟨by have := HK1.1; omega⟩, ⟨rf_ (R2_ HO_3.1 BK236.1) (fun _ hk => trivial)⟩, ⟨by exact rf_ (Kd.R_mono HO_4.1 (fun k_ hk => (⟨hk, hk.2⟩ : _ ∧ k_ ≠ gb236))) (fun _ hk => trivial)⟩, ⟨wb_⟩⟩
            · replace c10 := Bool.eq_false_iff.mpr c10
              subst c10
              have H1 := H
              rw [if_neg nt_] at H1
              clear H
              have H := H1
              clear H1
              by_cases c14 : x4_1.length < 2199023255552
              · rw [if_pos c14] at H
                have LMc14 := o_ c14
                clear c14
                obtain ⟨y238, hy238⟩ : ∃ y_ : List (S58), y_ = (x4_1 ++ [(⟨(⟨(rd_T58 l0 x12_1).f0.f0, (rd_T58 l0 x12_1).f0.f1, (rd_T58 l0 x12_1).f0.f2, (rd_T58 l0 x12_1).f0.f3, (rd_T58 l0 x12_1).f0.f4⟩ : S56), (rd_T58 l0 x12_1).f1, (rd_T58 l0 x12_1).f2, (rd_T58 l0 x12_1).f3⟩ : S58)]) := ⟨_, rfl⟩
                replace H : (impl_DropTwins.l0 k1 t229 y238 l0 (l0.length : Int) (wrap64 (x12_1 + 1))) = some r := hy_ H hy238
                have Ny238 := o_ hy238
                clear hy238
                have H' := o_ H
                clear H
                have p235 : 0 ≤ (x12_1 : Int) := of_decide_eq_true as_
                have q235 : x12_1 < (l0.length : Int) := of_decide_eq_true as_
                obtain ⟨ad235, e235, hx235_0, hx235_1, hx235_2, hx235_3, hx235_4, hx235_5, hx235_6, hx235_7⟩ := at_T58 HR0.1 x12_1 p235 q235
                cases e235
                replace hx235_0 := cb_ HB.1 hx235_0
                replace hx235_1 := cb_ HB.1 hx235_1
                replace hx235_2 := cb_ HB.1 hx235_2
                replace hx235_3 := cb_ HB.1 hx235_3
                replace hx235_4 := cb_ HB.1 hx235_4
                replace hx235_5 := cb_ HB.1 hx235_5
                replace hx235_6 := cb_ HB.1 hx235_6
                replace hx235_7 := cb_ HB.1 hx235_7
                replace p235 := eq_true p235
                replace q235 := eq_true q235
                go_wp2_with (first | ((with_reducible refine gate_dst (N := 6) rfl ?_); refine bx_ 6 #[.int .i64 0, .int .i64 0, .int .i64 0, .int .i64 0, .int .i64 0, .int .i64 0, .int .i64 0, .int .i64 0] 58 ?_; intro gb236 hg w15 hbox hb; replace HO_3 := o_ (Kd.R_below (rd_ HO_3.1) hb); replace HO_4 := o_ (Kd.R_below (Kd.R_elderB (rd_ HO_4.1) gb236 (Nat.le_of_eq hg.symm)) hb); have BK236 := o_ (hbox); have GW236 := o_ ((by rw [hg]; exact (below_size (hd_ HB.1)) : w.heap.size ≤ gb236)); replace HB := o_ (below_step (hd_ HB.1) hb); have GE236 := GW236; clear hb hbox hg; obtain ⟨_, _, _, _, _, _, _, _⟩ := e4_ BK236.1; obtain ⟨_, _, _, _, _, _, _, _⟩ := z5_ BK236.1; obtain ⟨Ao17, co17, eo17⟩ := Kd.R_slice HO_3.1; subst eo17) | ((with_reducible refine g_ 55 ?_); refine gl_ (some 20) Try.func55 #[.slice Ao17 t229.length co17, .int .i64 ((rd_T58 l0 x12_1).f0.f0)] ?_; (with_reducible refine (slices_Contains_int_int.calls k1 _ _ t229 ((rd_T58 l0 x12_1).f0.f0) false _ ?side1 ((Kd.R_reads' HO_3.1).2.1) A9.1).mono ?_); (case side1 => refine (Kd.R_reads' (e := 3) (base := w.heap.size) (ok := fun k_ => True) (n := t229.length) (c := co17) ?_).2.2; exact (rf_ (R2_ HO_3.1 BK236.1) (fun _ h_ => h_.1))); rintro e w' ⟨rfl, ⟨nd, rfl⟩⟩; refine ⟨_, rfl, ?_⟩) | ((with_reducible refine gate_builtin (b := .append) (xs := #[.tmp 22, .tmp 24]) rfl ?_); at_builtin; refine Kd.R_append k58 (w0 := w) w.heap.size rfl (.tmp 22) (.tmp 24) 26 58 (.agg #[(.int .i64 0), (.int .i64 0), (.int .i64 0), (.int .i64 0), (.int .i64 0), (.int .i64 0), (.int .i64 0), (.int .i64 0)]) 64 rfl Try.underlying26 info58 rfl (by decide) (by omega) u4 x4_1 (⟨(⟨(rd_T58 l0 x12_1).f0.f0, (rd_T58 l0 x12_1).f0.f1, (rd_T58 l0 x12_1).f0.f2, (rd_T58 l0 x12_1).f0.f3, (rd_T58 l0 x12_1).f0.f4⟩ : S56), (rd_T58 l0 x12_1).f1, (rd_T58 l0 x12_1).f2, (rd_T58 l0 x12_1).f3⟩ : S58) [.int .i64 ((rd_T58 l0 x12_1).f0.f0), .int .i64 ((rd_T58 l0 x12_1).f0.f1), .int .i64 ((rd_T58 l0 x12_1).f0.f2), .int .i64 ((rd_T58 l0 x12_1).f0.f3), .int .i64 ((rd_T58 l0 x12_1).f0.f4), .int .i64 ((rd_T58 l0 x12_1).f1), .int .i64 ((rd_T58 l0 x12_1).f2), .int .i64 ((rd_T58 l0 x12_1).f3)] (fun k_ => k_ ≠ gb236) (fun _ => False) rfl (by first | (go_simp; done) | (go_simp; rfl)) ?aP (fun _ hk => hk.elim) ?aF ?aO ?aB ?aS ?aL ?_; (case aP => exact k58_mkM _ _ _ (⟨(⟨(rd_T58 l0 x12_1).f0.f0, (rd_T58 l0 x12_1).f0.f1, (rd_T58 l0 x12_1).f0.f2, (rd_T58 l0 x12_1).f0.f3, (rd_T58 l0 x12_1).f0.f4⟩ : S56), (rd_T58 l0 x12_1).f1, (rd_T58 l0 x12_1).f2, (rd_T58 l0 x12_1).f3⟩ : S58)); (case aB => exact wb_); (case aF => exact (fun k_ hk => Kd.freshB (g := gb236) (o := c8_ ((rd_T58 l0 x12_1).f0.f0) ((rd_T58 l0 x12_1).f0.f1) ((rd_T58 l0 x12_1).f0.f2) ((rd_T58 l0 x12_1).f0.f3) ((rd_T58 l0 x12_1).f0.f4) ((rd_T58 l0 x12_1).f1) ((rd_T58 l0 x12_1).f2) ((rd_T58 l0 x12_1).f3)) (bk_ BK236.1) k_ hk)); (case aO => exact (by exact rf_ (Kd.R_mono HO_4.1 (fun k_ hk => (⟨hk, hk.2⟩ : _ ∧ k_ ≠ gb236))) (fun _ hk => hk.1.2))); (case aS => exact (below_size wb_)); (case aL => have := LMc14.1; omega); intro v239 w18 ho hb hg hat; rw [← Ny238.1] at ho; replace HO_3 := o_ (Kd.R_over' (rf_ (R2_ HO_3.1 BK236.1) (fun _ h_ => h_.1)) (Kd.R_typed (by exact rf_ (Kd.R_mono HO_4.1 (fun k_ hk => (⟨hk, hk.2⟩ : _ ∧ k_ ≠ gb236))) (fun _ h_ => h_.1))) (by decide) hg); replace BK236 := o_ (blk_grown (g := gb236) (o := c8_ ((rd_T58 l0 x12_1).f0.f0) ((rd_T58 l0 x12_1).f0.f1) ((rd_T58 l0 x12_1).f0.f2) ((rd_T58 l0 x12_1).f0.f3) ((rd_T58 l0 x12_1).f0.f4) ((rd_T58 l0 x12_1).f1) ((rd_T58 l0 x12_1).f2) ((rd_T58 l0 x12_1).f3)) (bk_ BK236.1) hg (Kd.R_away HO_4.1 (fun _ hk => hk.2))); replace HB := o_ (hb); have HO240 := o_ (ho); clear HO_4 ho hb hg hat))
                go_roundg k1
                case measure => have := HK1.1; omega
                case rel => exact ⟨(y238), (wrap64 (x12_1 + 1)), rs_, H', ⟨by have := HK1.1; omega⟩, ⟨rd_ HO_3.1⟩, ⟨by (with_reducible repeat (first | apply Kd.R_alloc | apply Kd.R_drewN | apply Kd.R_drew)); exact Kd.R_mono HO240.1 (fun _ hk => trivial)⟩, ⟨wb_⟩⟩
              · rw [if_neg c14] at H
                exact absurd H (by simp)
          · rw [if_neg c8] at H
            exact absurd H (by simp)
        · rw [if_neg c7] at H
          exact absurd H (by simp)
      · rw [if_neg c6] at H
        have c6b0 := decide_eq_false c6
        clear c6
        obtain rfl := Option.some.inj H
        go_wp2
        go_ret
        exact ⟨_, rt_, rd_ HO_4.1, hd_ HB.1⟩

end Go.Proofs.Ytglpmjcknhcjcaa.PFnTwins
