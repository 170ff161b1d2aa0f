-- Written for this claim by a program (a printer turned to this claim); Lean checks it.
import Derived.Test.YtihnanfekchlhaaDoorPFnFormsx0
import Derived.Test.YtihnanfekchlhaaDoorPFnFormsx3
namespace Go.Proofs.YtihnanfekchlhaaDoor.PFnForms
open Go.RowKit Go.Proofs.YtihnanfekchlhaaDoorW.PrintWords Go.Proofs.YtihnanfekchlhaaDoorW.PrintLast Go.Proofs.YtihnanfekchlhaaDoorW.PrintMore
attribute [local go_sem] max2_int min2_int max_two min_two max_three min_three max_four min_four   -- for this text's walks alone
set_option linter.unusedVariables false
set_option linter.unusedSimpArgs false

/-! ### impl_ListText: function 18 -/
def impl_ListText.l0 : Nat → List ByteArray → List Int → Int → Int → Option (ByteArray)
  | 0, _, _, _, _ => none
  | k + 1, x3, x10, x11, x12 => if x12 < x11 then (if 0 ≤ x12 then (if x12 < (x10.length : Int) then ((impl_FormatInt.f (rd x10 x12)).bind fun t299 => (if x3.length < 8796093022208 then (impl_ListText.l0 k (x3 ++ [t299]) x10 x11 (wrap64 (x12 + 1))) else (none))) else (none)) else (none)) else ((strings_Join.f x3 (⟨#[44]⟩ : ByteArray)).bind fun t303 => (some t303))
def impl_ListText.f (k : Nat) (l0 : List Int) : Option (ByteArray) := if (l0.length : Int) = 0 then (some (⟨#[45]⟩ : ByteArray)) else (impl_ListText.l0 k (([] : List ByteArray)) l0 (l0.length : Int) 0)
theorem impl_ListText.mono_l : ∀ k, (∀ y0 y1 y2 y3, LeO (impl_ListText.l0 k y0 y1 y2 y3) (impl_ListText.l0 (k + 1) y0 y1 y2 y3))
  | 0 => fun _ _ _ _ r h => by simp [impl_ListText.l0] at h
  | k + 1 => by
    have ih0 := impl_ListText.mono_l k
    · intro y0 y1 y2 y3
      unfold impl_ListText.l0
      exact mo_
theorem impl_ListText.mono : ∀ a0 k, LeO (impl_ListText.f k a0) (impl_ListText.f (k + 1) a0) := by
  intro a0 k
  have ih0 := impl_ListText.mono_l k
  unfold impl_ListText.f
  exact mo_
set_option maxHeartbeats 8000000 in
set_option maxRecDepth 100000 in
theorem impl_ListText.calls (k : Nat) (A0 : Option Addr) (c0 : Nat) (l0 : List Int) (r : ByteArray) (w : World) (hr0 : Kd.C (Kd.int .i64) w A0 l0.length l0) (hc0 : l0.length ≤ c0) (h : impl_ListText.f k l0 = some r) (TB_ : (Itm.Tb true true) w) :
    Calls Tryd.prog 18 #[.slice A0 l0.length c0] w fun e w' => e = .returned (.string r) ∧ Below w.heap.size w w' := by
  have HR0 := o_ hr0
  have HC0 := o_ hc0
  clear hr0 hc0
  have HB := o_ (Below.refl w.heap.size w)
  have H : (if (l0.length : Int) = 0 then (some (⟨#[45]⟩ : ByteArray)) else (impl_ListText.l0 k (([] : List ByteArray)) l0 (l0.length : Int) 0)) = some r := h
  clear h
  by_cases c2 : (l0.length : Int) = 0
  · rw [if_pos c2] at H
    have c2b0 := beq_iff_eq.mpr c2
    have c2b1 := bne_eq_false_iff_eq.mpr c2
    clear c2
    obtain rfl := Option.some.inj H
    go_enter Tryd.func18, Tryd.ntmps18
    go_wp2
    go_ret
    exact ⟨rt_, hd_ HB.1⟩
  · rw [if_neg c2] at H
    have c2b0 := beq_eq_false_iff_ne.mpr c2
    have c2b1 := bne_iff_ne.mpr c2
    have c2b2 : ¬ (l0 = []) := fun h_ => c2 (by rw [h_]; rfl)
    obtain ⟨y295, hy295⟩ : ∃ y_ : List ByteArray, y_ = (([] : List ByteArray)) := ⟨_, rfl⟩
    replace H : (impl_ListText.l0 k y295 l0 (l0.length : Int) 0) = some r := by first | (rw [hy295]; with_reducible exact H) | (have H2_ := (Option.bind_some _ _).symm.trans H; rw [hy295]; with_reducible exact H2_) | (have H2_ := (Option.bind_some _ _).symm.trans H; with_reducible exact H2_) | with_reducible exact H | (rw [hy295]; exact H) | exact H
    have Ny295 := o_ hy295
    clear hy295
    have H' := o_ H
    clear H
    go_enter Tryd.func18, Tryd.ntmps18
    go_wp2_with (first | ((with_reducible refine gate_dst (N := 9) rfl ?_); refine Kd.R_lit Kd.string _ 9 ?hg (N := 9) ?hd (xs := ([] : List ByteArray)) (inner := []) (ok := fun _ => True) (okp := fun _ => True) ?hr ?hp (fun _ hk => hk) trivial (Below.refl _ _) (Nat.le_refl _) (by simp) ?_; (case hd => rfl); (case hg => rfl); (case hr => first | (go_simp; done) | (go_simp; rfl)); (case hp => exact (Reps.none _ _)); intro v296 w3 ho4 hb hg_ hnew_; clear hg_ hnew_; (first | rw [← Ny295.1] at ho4 | (simp only [Int.reduceToNat] at ho4; rw [← Ny295.1] at ho4)); have HO297 := o_ (Kd.R_lower ho4 (below_size (hd_ HB.1))); replace HB := o_ (below_step (hd_ HB.1) hb); clear hb ho4))
    go_loopg [3, 12] k (fun kq v3 v12 w' => ∃ (x3_1 : List ByteArray) (x12_1 : Int), v12 = .int .i64 x12_1 ∧ Aside0 (impl_ListText.l0 kq x3_1 l0 (l0.length : Int) x12_1 = some r) ∧ Aside0 (kq ≤ k) ∧ Aside0 (Kd.R Kd.string 9 w' w.heap.size (fun _ => True) v3 x3_1) ∧ Aside0 (Below w.heap.size w w'))
    case atStart => exact ⟨(y295), (0), rs_, H', ⟨Nat.le_refl _⟩, ⟨rd_ HO297.1⟩, ⟨hd_ HB.1⟩⟩
    case round =>
      clear H'
      try clear c1
      try clear c2
      try clear c2b0
      try clear c2b1
      try clear c2b2
      try clear p2
      obtain ⟨x3_1, x12_1, rfl, HA, HK1, HO_3, HB⟩ := hrel
      cases gk with
      | zero => exact absurd HA.1 (by simp [impl_ListText.l0])
      | succ k1 =>
        have H := HA.1
        clear HA
        simp only [impl_ListText.l0] at H
        by_cases c5 : x12_1 < (l0.length : Int)
        · rw [if_pos c5] at H
          have c5b0 := decide_eq_true c5
          clear c5
          by_cases c6 : 0 ≤ x12_1
          · rw [if_pos c6] at H
            have c6b0 := decide_eq_true c6
            clear c6
            by_cases c7 : x12_1 < (l0.length : Int)
            · rw [if_pos c7] at H
              have c7b0 := decide_eq_true c7
              clear c7
              replace H := Option.bind_eq_some_iff.mp H
              obtain ⟨t299, A80, H⟩ := H
              try dsimp only at H
              have A8 := o_ A80
              clear A80
              by_cases c9 : x3_1.length < 8796093022208
              · rw [if_pos c9] at H
                have LMc9 := o_ c9
                clear c9
                obtain ⟨y300, hy300⟩ : ∃ y_ : List ByteArray, y_ = (x3_1 ++ [t299]) := ⟨_, rfl⟩
                replace H : (impl_ListText.l0 k1 y300 l0 (l0.length : Int) (wrap64 (x12_1 + 1))) = some r := by first | (rw [hy300]; with_reducible exact H) | (have H2_ := (Option.bind_some _ _).symm.trans H; rw [hy300]; with_reducible exact H2_) | (have H2_ := (Option.bind_some _ _).symm.trans H; with_reducible exact H2_) | with_reducible exact H | (rw [hy300]; exact H) | exact H
                have Ny300 := o_ hy300
                clear hy300
                have H' := o_ H
                clear H
                have p298 : 0 ≤ (x12_1 : Int) := of_decide_eq_true as_
                have q298 : x12_1 < (l0.length : Int) := of_decide_eq_true as_
                obtain ⟨ad298, e298, hx298_0⟩ := Kd.at_int HR0.1 x12_1 p298 q298
                cases e298
                replace hx298_0 := cb_ HB.1 hx298_0
                replace p298 := eq_true p298
                replace q298 := eq_true q298
                go_wp2_with (first | (refine gl_ (some 18) Tryd.func47 #[.int .i64 (rd l0 x12_1)] ?_; (with_reducible refine (impl_FormatInt.calls (rd l0 x12_1) t299 _ A8.1 (TB_.below (hd_ HB.1))).mono ?_); rintro e w10 ⟨rfl, hb⟩; refine ⟨_, rfl, ?_⟩; replace HO_3 := o_ (Kd.R_below (rd_ HO_3.1) hb); replace HB := o_ (below_step (hd_ HB.1) hb); (try clear hb)) | ((with_reducible refine gate_builtin (b := .append) (xs := #[.tmp 16, .tmp 19]) rfl ?_); at_builtin; refine Kd.R_append Kd.string (w0 := w) w.heap.size rfl (.tmp 16) (.tmp 19) 66 9 (.string ⟨#[]⟩) 16 rfl Tryd.underlying66 info9 rfl (by decide) (by omega) u3 x3_1 t299 [.string t299] (fun _ => True) (fun _ => False) rfl rfl ?aP (fun _ hk => hk.elim) ?aF ?aO ?aB ?aS ?aL ?_; (case aP => exact rfl); (case aB => exact hd_ HB.1); (case aF => exact (fun _ _ => trivial)); (case aO => exact rd_ HO_3.1); (case aS => exact (below_size (hd_ HB.1))); (case aL => have := LMc9.1; omega); intro v301 w11 ho hb hg hat; rw [← Ny300.1] at ho; replace HB := o_ (hb); have HO302 := o_ (ho); clear HO_3 ho hb hg hat))
                go_roundg k1
                case measure => have := HK1.1; omega
                case rel => exact ⟨(y300), (wrap64 (x12_1 + 1)), rs_, H', ⟨by have := HK1.1; omega⟩, ⟨rd_ HO302.1⟩, ⟨hd_ HB.1⟩⟩
              · rw [if_neg c9] at H
                exact absurd H (by simp)
            · rw [if_neg c7] at H
              exact absurd H (by simp)
          · rw [if_neg c6] at H
            exact absurd H (by simp)
        · rw [if_neg c5] at H
          have c5b0 := decide_eq_false c5
          clear c5
          replace H := Option.bind_eq_some_iff.mp H
          obtain ⟨t303, A120, H⟩ := H
          try dsimp only at H
          have A12 := o_ A120
          clear A120
          obtain rfl := Option.some.inj H
          obtain ⟨Ao13, co13, eo13⟩ := Kd.R_slice HO_3.1
          subst eo13
          go_wp2_with (first | (refine gl_ (some 23) Tryd.func46 #[.slice Ao13 x3_1.length co13, .string (⟨#[44]⟩ : ByteArray)] ?_; (with_reducible refine (strings_Join.calls _ _ x3_1 (⟨#[44]⟩ : ByteArray) t303 _ ?side1 ?side2 A12.1).mono ?_); (case side1 => exact cd_ (Kd.R_reads' HO_3.1).2.2); (case side2 => exact (Kd.R_reads' HO_3.1).2.1); rintro e w14 ⟨rfl, hb⟩; refine ⟨_, rfl, ?_⟩; replace HO_3 := o_ (Kd.R_below (rd_ HO_3.1) hb); replace HB := o_ (below_step (hd_ HB.1) hb); (try clear hb)))
          go_ret
          exact ⟨rt_, hd_ HB.1⟩

/-! ### impl_KindText: function 24 -/
def impl_KindText.L : List ByteArray := [(⟨#[98, 97, 103]⟩ : ByteArray), (⟨#[99, 111, 97, 116]⟩ : ByteArray), (⟨#[107, 101, 121, 115]⟩ : ByteArray), (⟨#[109, 111, 110, 101, 121]⟩ : ByteArray), (⟨#[112, 104, 111, 110, 101]⟩ : ByteArray), (⟨#[117, 109, 98, 114, 101, 108, 108, 97]⟩ : ByteArray), (⟨#[102, 111, 111, 100]⟩ : ByteArray), (⟨#[111, 116, 104, 101, 114]⟩ : ByteArray)]
def impl_KindText.f (a0 : Int) : Option ByteArray := some (if 1 ≤ a0 ∧ a0 ≤ 8 then impl_KindText.L.getD (a0 - 1).toNat ⟨#[]⟩ else ⟨#[]⟩)
set_option maxHeartbeats 8000000 in
set_option maxRecDepth 100000 in
theorem impl_KindText.calls (a0 : Int) (r : ByteArray) (w : World) (h : impl_KindText.f a0 = some r) :
    Calls Tryd.prog 24 #[.int .i64 a0] w fun e w' => e = .returned (.string r) ∧ Below w.heap.size w w' := by
  have HB := o_ (Below.refl w.heap.size w)
  obtain rfl := Option.some.inj h
  clear h
  by_cases hin : 1 ≤ a0 ∧ a0 ≤ 8
  · rw [if_pos hin]
    have h5 : a0 = 1 ∨ a0 = 2 ∨ a0 = 3 ∨ a0 = 4 ∨ a0 = 5 ∨ a0 = 6 ∨ a0 = 7 ∨ a0 = 8 := by omega
    clear hin
    rcases h5 with rfl | rfl | rfl | rfl | rfl | rfl | rfl | rfl
    · have A := o_ (show impl_InRange.f 1 1 8 = some true from by decide)
      go_enter Tryd.func24, Tryd.ntmps24
      go_wp2_with (go_at_call 49; (with_reducible refine (impl_InRange.calls 1 1 8 true _ A.1).mono ?_); rintro e w' ⟨rfl, ⟨nd, rfl⟩⟩)
      go_ret
      exact ⟨rfl, by repeat (first | exact HB.1 | apply below_alloc | apply pw_below_drewN | apply below_drew1)⟩
    · have A := o_ (show impl_InRange.f 2 1 8 = some true from by decide)
      go_enter Tryd.func24, Tryd.ntmps24
      go_wp2_with (go_at_call 49; (with_reducible refine (impl_InRange.calls 2 1 8 true _ A.1).mono ?_); rintro e w' ⟨rfl, ⟨nd, rfl⟩⟩)
      go_ret
      exact ⟨rfl, by repeat (first | exact HB.1 | apply below_alloc | apply pw_below_drewN | apply below_drew1)⟩
    · have A := o_ (show impl_InRange.f 3 1 8 = some true from by decide)
      go_enter Tryd.func24, Tryd.ntmps24
      go_wp2_with (go_at_call 49; (with_reducible refine (impl_InRange.calls 3 1 8 true _ A.1).mono ?_); rintro e w' ⟨rfl, ⟨nd, rfl⟩⟩)
      go_ret
      exact ⟨rfl, by repeat (first | exact HB.1 | apply below_alloc | apply pw_below_drewN | apply below_drew1)⟩
    · have A := o_ (show impl_InRange.f 4 1 8 = some true from by decide)
      go_enter Tryd.func24, Tryd.ntmps24
      go_wp2_with (go_at_call 49; (with_reducible refine (impl_InRange.calls 4 1 8 true _ A.1).mono ?_); rintro e w' ⟨rfl, ⟨nd, rfl⟩⟩)
      go_ret
      exact ⟨rfl, by repeat (first | exact HB.1 | apply below_alloc | apply pw_below_drewN | apply below_drew1)⟩
    · have A := o_ (show impl_InRange.f 5 1 8 = some true from by decide)
      go_enter Tryd.func24, Tryd.ntmps24
      go_wp2_with (go_at_call 49; (with_reducible refine (impl_InRange.calls 5 1 8 true _ A.1).mono ?_); rintro e w' ⟨rfl, ⟨nd, rfl⟩⟩)
      go_ret
      exact ⟨rfl, by repeat (first | exact HB.1 | apply below_alloc | apply pw_below_drewN | apply below_drew1)⟩
    · have A := o_ (show impl_InRange.f 6 1 8 = some true from by decide)
      go_enter Tryd.func24, Tryd.ntmps24
      go_wp2_with (go_at_call 49; (with_reducible refine (impl_InRange.calls 6 1 8 true _ A.1).mono ?_); rintro e w' ⟨rfl, ⟨nd, rfl⟩⟩)
      go_ret
      exact ⟨rfl, by repeat (first | exact HB.1 | apply below_alloc | apply pw_below_drewN | apply below_drew1)⟩
    · have A := o_ (show impl_InRange.f 7 1 8 = some true from by decide)
      go_enter Tryd.func24, Tryd.ntmps24
      go_wp2_with (go_at_call 49; (with_reducible refine (impl_InRange.calls 7 1 8 true _ A.1).mono ?_); rintro e w' ⟨rfl, ⟨nd, rfl⟩⟩)
      go_ret
      exact ⟨rfl, by repeat (first | exact HB.1 | apply below_alloc | apply pw_below_drewN | apply below_drew1)⟩
    · have A := o_ (show impl_InRange.f 8 1 8 = some true from by decide)
      go_enter Tryd.func24, Tryd.ntmps24
      go_wp2_with (go_at_call 49; (with_reducible refine (impl_InRange.calls 8 1 8 true _ A.1).mono ?_); rintro e w' ⟨rfl, ⟨nd, rfl⟩⟩)
      go_ret
      exact ⟨rfl, by repeat (first | exact HB.1 | apply below_alloc | apply pw_below_drewN | apply below_drew1)⟩
  · rw [if_neg hin]
    · have A := o_ (show impl_InRange.f a0 1 8 = some false from by unfold impl_InRange.f; split <;> simp <;> omega)
      clear hin
      go_enter Tryd.func24, Tryd.ntmps24
      go_wp2_with (go_at_call 49; (with_reducible refine (impl_InRange.calls a0 1 8 false _ A.1).mono ?_); rintro e w' ⟨rfl, ⟨nd, rfl⟩⟩)
      go_ret
      exact ⟨rfl, by repeat (first | exact HB.1 | apply below_alloc | apply pw_below_drewN | apply below_drew1)⟩


/-! ### impl_pairText: function 48 -/
def impl_pairText.f (a0 : Int) (a1 : Int) : Option (ByteArray) := (impl_FormatInt.f a0).bind fun t304 => (if t304.size + 1 ≤ 9223372036854775807 then ((impl_FormatInt.f a1).bind fun t305 => (if (t304 ++ (⟨#[45]⟩ : ByteArray)).size + t305.size ≤ 9223372036854775807 then (some ((t304 ++ (⟨#[45]⟩ : ByteArray)) ++ t305)) else (none))) else (none))
set_option maxHeartbeats 8000000 in
set_option maxRecDepth 100000 in
theorem impl_pairText.calls (a0 : Int) (a1 : Int) (r : ByteArray) (w : World) (h : impl_pairText.f a0 a1 = some r) (TB_ : (Itm.Tb true true) w) :
    Calls Tryd.prog 48 #[.int .i64 a0, .int .i64 a1] w fun e w' => e = .returned (.string r) ∧ Below w.heap.size w w' := by
  have HB := o_ (Below.refl w.heap.size w)
  have H : ((impl_FormatInt.f a0).bind fun t304 => (if t304.size + 1 ≤ 9223372036854775807 then ((impl_FormatInt.f a1).bind fun t305 => (if (t304 ++ (⟨#[45]⟩ : ByteArray)).size + t305.size ≤ 9223372036854775807 then (some ((t304 ++ (⟨#[45]⟩ : ByteArray)) ++ t305)) else (none))) else (none))) = some r := h
  clear h
  replace H := Option.bind_eq_some_iff.mp H
  obtain ⟨t304, A30, H⟩ := H
  try dsimp only at H
  have A3 := o_ A30
  clear A30
  by_cases c4 : t304.size + 1 ≤ 9223372036854775807
  · rw [if_pos c4] at H
    have c4b0 := eq_true c4
    have c4b1 := decide_eq_true c4
    try have c4b2 : (9223372036854775807 < t304.size + 1) = False := eq_false (Nat.not_lt.2 c4)
    replace H := Option.bind_eq_some_iff.mp H
    obtain ⟨t305, A50, H⟩ := H
    try dsimp only at H
    have A5 := o_ A50
    clear A50
    by_cases c6 : (t304 ++ (⟨#[45]⟩ : ByteArray)).size + t305.size ≤ 9223372036854775807
    · rw [if_pos c6] at H
      have c6b0 := eq_true c6
      have c6b1 := decide_eq_true c6
      try have c6b2 : (9223372036854775807 < (t304 ++ (⟨#[45]⟩ : ByteArray)).size + t305.size) = False := eq_false (Nat.not_lt.2 c6)
      try have c6b3 : (9223372036854775807 < t304.size + 1 + t305.size) = False := eq_false (Nat.not_lt.2 (by have h_ := c6; simp only [ByteArray.size_append] at h_; exact h_))
      obtain rfl := Option.some.inj H
      go_enter Tryd.func48, Tryd.ntmps48
      go_wp2_with (first | (refine gl_ (some 6) Tryd.func47 #[.int .i64 a0] ?_; (with_reducible refine (impl_FormatInt.calls a0 t304 _ A3.1 (TB_.below (hd_ HB.1))).mono ?_); rintro e w7 ⟨rfl, hb⟩; refine ⟨_, rfl, ?_⟩; replace HB := o_ (below_step (hd_ HB.1) hb); (try clear hb)) | (refine gl_ (some 9) Tryd.func47 #[.int .i64 a1] ?_; (with_reducible refine (impl_FormatInt.calls a1 t305 _ A5.1 (TB_.below (hd_ HB.1))).mono ?_); rintro e w8 ⟨rfl, hb⟩; refine ⟨_, rfl, ?_⟩; replace HB := o_ (below_step (hd_ HB.1) hb); (try clear hb)))
      go_ret
      exact ⟨rt_, hd_ HB.1⟩
    · rw [if_neg c6] at H
      exact absurd H (by simp)
  · rw [if_neg c4] at H
    exact absurd H (by simp)

/-! ### impl_ReportText: function 12 -/
def impl_ReportText.f (k : Nat) (a0_0 : Int) (a0_1 : Int) (l0_2 : List Int) (a0_3 : Int) (a0_4 : Int) (l0_5 : List Int) (a0_6 : Int) (a0_7 : Int) : Option (ByteArray) := (impl_IsReport.f k a0_0 a0_1 l0_2 a0_3 a0_4 l0_5 a0_6 a0_7).bind fun t307 => (if t307 = true then ((impl_FormatInt.f a0_0).bind fun t308 => ((impl_KindText.f a0_1).bind fun t309 => ((impl_ListText.f k l0_2).bind fun t310 => ((impl_pairText.f a0_3 a0_4).bind fun t311 => ((impl_ListText.f k l0_5).bind fun t312 => ((impl_pairText.f a0_6 a0_7).bind fun t313 => ((strings_Join.f (([t308, t309, t310, t311, t312, t313] : List ByteArray)) (⟨#[32]⟩ : ByteArray)).bind fun t317 => (some t317)))))))) else (some (⟨#[]⟩ : ByteArray)))
theorem impl_ReportText.mono : ∀ a0 a1 a2 a3 a4 a5 a6 a7 k, LeO (impl_ReportText.f k a0 a1 a2 a3 a4 a5 a6 a7) (impl_ReportText.f (k + 1) a0 a1 a2 a3 a4 a5 a6 a7) := by
  intro a0 a1 a2 a3 a4 a5 a6 a7 k
  unfold impl_ReportText.f
  have jh0 := @impl_IsReport.mono
  have jh1 := @impl_ListText.mono
  exact mo_
def impl_ReportText.T3 : Bool × List (List Nat × List Nat) := (true, [([], []), ([0], [0]), ([1], [1]), ([], []), ([3], [3]), ([4, 2], [4]), ([], []), ([6], [6]), ([7, 5], [7]), ([], []), ([9], [9]), ([], []), ([11], [11]), ([10, 12, 8], [10, 12]), ([], []), ([14], [14]), ([15, 13], [15]), ([], []), ([17], [17]), ([18], [18]), ([], []), ([20], [20]), ([21], [21]), ([19, 22, 16], [19, 22]), ([2, 5, 8, 13, 16, 23], [2, 5, 8, 13, 16, 23]), ([24, 23], [24]), ([25, 25, 0, 1, 2, 3, 4, 5, 6, 7, 8, 9, 10, 11, 12, 13, 14, 15, 16, 17, 18, 19, 20, 21, 22, 23, 24, 25], [25])])
def impl_ReportText.B3 : List Nat := [0, 1, 3, 0, 8, 31, 0, 64, 255, 0, 512, 0, 2048, 8191, 0, 16384, 65535, 0, 131072, 393216, 0, 1048576, 3145728, 8388607, 16777215, 33554431, 67108863]
theorem impl_ReportText.tab3 : rtab .any (opsOf Tryd.f12 3) = impl_ReportText.T3 := by kernel_rfl
theorem impl_ReportText.bits3 : waitsOk impl_ReportText.T3.2 impl_ReportText.B3 = true := by kernel_rfl
abbrev M0_0 := bm_ 27 0
abbrev M0_1 := bm_ 27 1
abbrev M0_2 := bm_ 27 9
abbrev M0_3 := bm_ 27 73
abbrev M0_4 := bm_ 27 585
abbrev M0_5 := bm_ 27 2633
abbrev M0_6 := bm_ 27 19017
abbrev M0_7 := bm_ 27 150089
abbrev M0_8 := bm_ 27 412233
abbrev M0_9 := bm_ 27 1460809
abbrev M0_10 := bm_ 27 3557961
abbrev M0_11 := bm_ 27 3557963
abbrev M0_12 := bm_ 27 3557979
abbrev M0_13 := bm_ 27 3558107
abbrev M0_14 := bm_ 27 3559131
abbrev M0_15 := bm_ 27 3563227
abbrev M0_16 := bm_ 27 3595995
abbrev M0_17 := bm_ 27 4120283
abbrev M0_18 := bm_ 27 8314587
abbrev M0_19 := bm_ 27 8314591
abbrev M0_20 := bm_ 27 8314623
abbrev M0_21 := bm_ 27 8314879
abbrev M0_22 := bm_ 27 8323071
abbrev M0_23 := bm_ 27 8388607
abbrev M0_24 := bm_ 27 16777215
abbrev M0_25 := bm_ 27 33554431
abbrev M0_26 := bm_ 27 67108863
abbrev M0_27 := bm_ 27 134217727
abbrev c100_ (i0 : Int) (i1 : Int) (A2 : Option Addr) (n2 c2 : Nat) (i3 : Int) (i4 : Int) (A5 : Option Addr) (n5 c5 : Nat) (i6 : Int) (i7 : Int) : Obj := .cells #[.int .i64 i0, .int .i64 i1, .slice A2 n2 c2, .int .i64 i3, .int .i64 i4, .slice A5 n5 c5, .int .i64 i6, .int .i64 i7] 28 (0, 0)
theorem e101_ {w : World} {g : Nat} {t : TypeId} {i0 : Int} {i1 : Int} {A2 : Option Addr} {n2 c2 : Nat} {i3 : Int} {i4 : Int} {A5 : Option Addr} {n5 c5 : Nat} {i6 : Int} {i7 : Int} (h : w.heap[g]? = some (.cells #[.int .i64 i0, .int .i64 i1, .slice A2 n2 c2, .int .i64 i3, .int .i64 i4, .slice A5 n5 c5, .int .i64 i6, .int .i64 i7] t (0, 0))) : w.cell? ⟨g, 0, none⟩ = some (.int .i64 i0) ∧ w.cell? ⟨g, 1, none⟩ = some (.int .i64 i1) ∧ w.cell? ⟨g, 2, none⟩ = some (.slice A2 n2 c2) ∧ w.cell? ⟨g, 3, none⟩ = some (.int .i64 i3) ∧ w.cell? ⟨g, 4, none⟩ = some (.int .i64 i4) ∧ w.cell? ⟨g, 5, none⟩ = some (.slice A5 n5 c5) ∧ w.cell? ⟨g, 6, none⟩ = some (.int .i64 i6) ∧ w.cell? ⟨g, 7, none⟩ = some (.int .i64 i7) := ⟨(blk_cell h 0).trans rfl, (blk_cell h 1).trans rfl, (blk_cell h 2).trans rfl, (blk_cell h 3).trans rfl, (blk_cell h 4).trans rfl, (blk_cell h 5).trans rfl, (blk_cell h 6).trans rfl, (blk_cell h 7).trans rfl⟩
theorem z102_ {w : World} {g : Nat} {t : TypeId} {cs : Array Value} (h : w.heap[g]? = some (.cells cs t (0, 0))) : w.frozen? ⟨g, 0, none⟩ = false ∧ w.frozen? ⟨g, 1, none⟩ = false ∧ w.frozen? ⟨g, 2, none⟩ = false ∧ w.frozen? ⟨g, 3, none⟩ = false ∧ w.frozen? ⟨g, 4, none⟩ = false ∧ w.frozen? ⟨g, 5, none⟩ = false ∧ w.frozen? ⟨g, 6, none⟩ = false ∧ w.frozen? ⟨g, 7, none⟩ = false := ⟨blk_frozen h 0, blk_frozen h 1, blk_frozen h 2, blk_frozen h 3, blk_frozen h 4, blk_frozen h 5, blk_frozen h 6, blk_frozen h 7⟩
set_option maxHeartbeats 8000000 in
set_option maxRecDepth 100000 in
theorem impl_ReportText.calls (k : Nat) (a0_0 : Int) (a0_1 : Int) (A0_2 : Option Addr) (c0_2 : Nat) (l0_2 : List Int) (a0_3 : Int) (a0_4 : Int) (A0_5 : Option Addr) (c0_5 : Nat) (l0_5 : List Int) (a0_6 : Int) (a0_7 : Int) (r : ByteArray) (w : World) (hr0_2 : Kd.C (Kd.int .i64) w A0_2 l0_2.length l0_2) (hc0_2 : l0_2.length ≤ c0_2) (hr0_5 : Kd.C (Kd.int .i64) w A0_5 l0_5.length l0_5) (hc0_5 : l0_5.length ≤ c0_5) (h : impl_ReportText.f k a0_0 a0_1 l0_2 a0_3 a0_4 l0_5 a0_6 a0_7 = some r) (TB_ : (Itm.Tb true true) w) :
    Calls Tryd.prog 12 #[.agg #[.int .i64 a0_0, .int .i64 a0_1, .slice A0_2 l0_2.length c0_2, .int .i64 a0_3, .int .i64 a0_4, .slice A0_5 l0_5.length c0_5, .int .i64 a0_6, .int .i64 a0_7]] w fun e w' => e = .returned (.string r) ∧ Below w.heap.size w w' := by
  have hu28 := Tryd.underlying28
  have HR0_2 := o_ hr0_2
  have HC0_2 := o_ hc0_2
  clear hr0_2 hc0_2
  have HR0_5 := o_ hr0_5
  have HC0_5 := o_ hc0_5
  clear hr0_5 hc0_5
  have HB := o_ (Below.refl w.heap.size w)
  have H : ((impl_IsReport.f k a0_0 a0_1 l0_2 a0_3 a0_4 l0_5 a0_6 a0_7).bind fun t307 => (if t307 = true then ((impl_FormatInt.f a0_0).bind fun t308 => ((impl_KindText.f a0_1).bind fun t309 => ((impl_ListText.f k l0_2).bind fun t310 => ((impl_pairText.f a0_3 a0_4).bind fun t311 => ((impl_ListText.f k l0_5).bind fun t312 => ((impl_pairText.f a0_6 a0_7).bind fun t313 => ((strings_Join.f (([t308, t309, t310, t311, t312, t313] : List ByteArray)) (⟨#[32]⟩ : ByteArray)).bind fun t317 => (some t317)))))))) else (some (⟨#[]⟩ : ByteArray)))) = some r := h
  clear h
  replace H := Option.bind_eq_some_iff.mp H
  obtain ⟨t307, A20, H⟩ := H
  try dsimp only at H
  have A2 := o_ A20
  clear A20
  by_cases c3 : t307 = true
  · subst c3
    have H1 := H
    rw [if_pos rfl] at H1
    clear H
    have H := H1
    clear H1
    replace H := Option.bind_eq_some_iff.mp H
    obtain ⟨t308, A40, H⟩ := H
    try dsimp only at H
    have A4 := o_ A40
    clear A40
    replace H := Option.bind_eq_some_iff.mp H
    obtain ⟨t309, A50, H⟩ := H
    try dsimp only at H
    have A5 := o_ A50
    clear A50
    replace H := Option.bind_eq_some_iff.mp H
    obtain ⟨t310, A60, H⟩ := H
    try dsimp only at H
    have A6 := o_ A60
    clear A60
    replace H := Option.bind_eq_some_iff.mp H
    obtain ⟨t311, A70, H⟩ := H
    try dsimp only at H
    have A7 := o_ A70
    clear A70
    replace H := Option.bind_eq_some_iff.mp H
    obtain ⟨t312, A80, H⟩ := H
    try dsimp only at H
    have A8 := o_ A80
    clear A80
    replace H := Option.bind_eq_some_iff.mp H
    obtain ⟨t313, A90, H⟩ := H
    try dsimp only at H
    have A9 := o_ A90
    clear A90
    obtain ⟨y314, hy314⟩ : ∃ y_ : List ByteArray, y_ = (([t308, t309, t310, t311, t312, t313] : List ByteArray)) := ⟨_, rfl⟩
    replace H : ((strings_Join.f y314 (⟨#[32]⟩ : ByteArray)).bind fun t317 => (some t317)) = some r := by first | (rw [hy314]; with_reducible exact H) | (have H2_ := (Option.bind_some _ _).symm.trans H; rw [hy314]; with_reducible exact H2_) | (have H2_ := (Option.bind_some _ _).symm.trans H; with_reducible exact H2_) | with_reducible exact H | (rw [hy314]; exact H) | exact H
    have Ny314 := o_ hy314
    clear hy314
    replace H := Option.bind_eq_some_iff.mp H
    obtain ⟨t317, A100, H⟩ := H
    try dsimp only at H
    have A10 := o_ A100
    clear A100
    obtain rfl := Option.some.inj H
    go_enter Tryd.func12, Tryd.ntmps12
    try go_wp2_with (first | ((with_reducible refine gate_dst (N := 1) rfl ?_); refine bx_ 1 #[.int .i64 a0_0, .int .i64 a0_1, .slice A0_2 l0_2.length c0_2, .int .i64 a0_3, .int .i64 a0_4, .slice A0_5 l0_5.length c0_5, .int .i64 a0_6, .int .i64 a0_7] 28 ?_; intro gb306 hg w11 hbox hb; have BK306 := o_ (hbox); have GW306 := o_ ((by rw [hg]; exact (below_size (hd_ HB.1)) : w.heap.size ≤ gb306)); replace HB := o_ (below_step (hd_ HB.1) hb); have GE306 := GW306; clear hb hbox hg; obtain ⟨hcz12_0, hcz12_1, hcz12_2, hcz12_3, hcz12_4, hcz12_5, hcz12_6, hcz12_7⟩ := e101_ BK306.1; obtain ⟨hfz12_0, hfz12_1, hfz12_2, hfz12_3, hfz12_4, hfz12_5, hfz12_6, hfz12_7⟩ := z102_ BK306.1) | (refine gl_ (some 4) Tryd.func13 #[.agg #[.int .i64 a0_0, .int .i64 a0_1, .slice A0_2 l0_2.length c0_2, .int .i64 a0_3, .int .i64 a0_4, .slice A0_5 l0_5.length c0_5, .int .i64 a0_6, .int .i64 a0_7]] ?_; (with_reducible refine (impl_IsReport.calls k a0_0 a0_1 _ _ l0_2 a0_3 a0_4 _ _ l0_5 a0_6 a0_7 true _ ?side1 ?side2 ?side3 ?side4 A2.1).mono ?_); (case side1 => exact cd_ (Kd.C_below HR0_2.1 HB.1)); (case side2 => exact HC0_2.1); (case side3 => exact cd_ (Kd.C_below HR0_5.1 HB.1)); (case side4 => exact HC0_5.1); rintro e w13 ⟨rfl, hb⟩; refine ⟨_, rfl, ?_⟩; replace BK306 := o_ (blk_below (bd_ BK306.1) hb); replace HB := o_ (below_step wB_ hb); (try clear hb)))
    replace BK306 := o_ (blk_drew BK306.1)
    replace HB := o_ (below_drew1 HB.1)
    refine start_ (n := 27) (S := fun w' => q1e_ w' gb306 a0_0 a0_1 A0_2 l0_2.length c0_2 a0_3 a0_4 A0_5 l0_5.length c0_5 a0_6 a0_7) (ds := []) M0_0 (by kernel_rfl) rfl rfl ⟨(blk_cell BK306.1 0).trans rfl, (blk_cell BK306.1 1).trans rfl, (blk_cell BK306.1 2).trans rfl, (blk_cell BK306.1 3).trans rfl, (blk_cell BK306.1 4).trans rfl, (blk_cell BK306.1 5).trans rfl, (blk_cell BK306.1 6).trans rfl, (blk_cell BK306.1 7).trans rfl⟩ (fun hHeld => ?_); refine with_tabW impl_ReportText.tab3 impl_ReportText.bits3 (fun HT_ HW_ => ?_)
    generalize w13.drew = w14 at BK306 HB hHeld ⊢
    refine pu_ 0 (some 6) M0_1 HT_ ?_
    refine pu_ 3 (some 9) M0_2 HT_ ?_
    refine pu_ 6 (some 12) M0_3 HT_ ?_
    refine pu_ 9 (some 15) M0_4 HT_ ?_
    refine pu_ 11 (some 17) M0_5 HT_ ?_
    refine pu_ 14 (some 20) M0_6 HT_ ?_
    refine pu_ 17 (some 23) M0_7 HT_ ?_
    refine pu_ 18 (some 24) M0_8 HT_ ?_
    refine pu_ 20 (some 26) M0_9 HT_ ?_
    refine pu_ 21 (some 27) M0_10 HT_ ?_
    refine tk_ 1 (some 7) M0_11 HT_ HW_ hHeld ?_
    refine tk_ 4 (some 10) M0_12 HT_ HW_ hHeld ?_
    refine tk_ 7 (some 13) M0_13 HT_ HW_ hHeld ?_
    refine tk_ 10 (some 16) M0_14 HT_ HW_ hHeld ?_
    refine tk_ 12 (some 18) M0_15 HT_ HW_ hHeld ?_
    refine tk_ 15 (some 21) M0_16 HT_ HW_ hHeld ?_
    refine tk_ 19 (some 25) M0_17 HT_ HW_ hHeld ?_
    refine tk_ 22 (some 28) M0_18 HT_ HW_ hHeld ?_
    refine one_ (i := 2) (N := some 8) M0_19 rfl rfl (one_of HT_.1 (by kernel_rfl)) (by decide) (fun K hK => ?_)
    refine goes_ Tryd.func47 (by kernel_rfl) rfl #[.int .i64 a0_0] (by rfl) rfl rfl ma_ ?_
    with_reducible refine (impl_FormatInt.calls a0_0 t308 _ A4.1 (TB_.below wB_)).mono ?_
    rintro e w15 ⟨rfl, hb⟩
    refine ⟨_, rfl, ?_⟩
    replace BK306 := o_ (blk_below (bd_ BK306.1) hb)
    replace HB := o_ (below_step wB_ hb)
    (try clear hb)
    (try clear hb2)
    (try clear hk)
    (try clear hi)
    refine hK.out _ _ ⟨(blk_cell BK306.1 0).trans rfl, (blk_cell BK306.1 1).trans rfl, (blk_cell BK306.1 2).trans rfl, (blk_cell BK306.1 3).trans rfl, (blk_cell BK306.1 4).trans rfl, (blk_cell BK306.1 5).trans rfl, (blk_cell BK306.1 6).trans rfl, (blk_cell BK306.1 7).trans rfl⟩ (fun hHeld => ?_)
    clear hK K
    refine norm_ (a' := ?_) ?_ ?_
    rotate_left
    · show Act.put _ (some 8) _ = _
      simp only [Act.put, List.setIfInBounds_toArray, List.set_cons_zero, List.set_cons_succ, i64_w, i32_w]
      rfl
    refine one_ (i := 5) (N := some 11) M0_20 rfl rfl (one_of HT_.1 (by kernel_rfl)) (by decide) (fun K hK => ?_)
    refine goes_ Tryd.func24 (by kernel_rfl) rfl #[.int .i64 a0_1] (by rfl) rfl rfl ma_ ?_
    with_reducible refine (impl_KindText.calls a0_1 t309 _ A5.1).mono ?_
    rintro e w16 ⟨rfl, hb⟩
    refine ⟨_, rfl, ?_⟩
    replace BK306 := o_ (blk_below (bd_ BK306.1) hb)
    replace HB := o_ (below_step wB_ hb)
    (try clear hb)
    (try clear hb2)
    (try clear hk)
    (try clear hi)
    refine hK.out _ _ ⟨(blk_cell BK306.1 0).trans rfl, (blk_cell BK306.1 1).trans rfl, (blk_cell BK306.1 2).trans rfl, (blk_cell BK306.1 3).trans rfl, (blk_cell BK306.1 4).trans rfl, (blk_cell BK306.1 5).trans rfl, (blk_cell BK306.1 6).trans rfl, (blk_cell BK306.1 7).trans rfl⟩ (fun hHeld => ?_)
    clear hK K
    refine norm_ (a' := ?_) ?_ ?_
    rotate_left
    · show Act.put _ (some 11) _ = _
      simp only [Act.put, List.setIfInBounds_toArray, List.set_cons_zero, List.set_cons_succ, i64_w, i32_w]
      rfl
    refine one_ (i := 8) (N := some 14) M0_21 rfl rfl (one_of HT_.1 (by kernel_rfl)) (by decide) (fun K hK => ?_)
    refine goes_ Tryd.func18 (by kernel_rfl) rfl #[.slice A0_2 l0_2.length c0_2] (by rfl) rfl rfl ma_ ?_
    with_reducible refine (impl_ListText.calls k _ _ l0_2 t310 _ ?side1 ?side2 A6.1 (TB_.below wB_)).mono ?_
    (case side1 => exact cd_ (Kd.C_below HR0_2.1 HB.1))
    (case side2 => exact HC0_2.1)
    rintro e w17 ⟨rfl, hb⟩
    refine ⟨_, rfl, ?_⟩
    replace BK306 := o_ (blk_below (bd_ BK306.1) hb)
    replace HB := o_ (below_step wB_ hb)
    (try clear hb)
    (try clear hb2)
    (try clear hk)
    (try clear hi)
    refine hK.out _ _ ⟨(blk_cell BK306.1 0).trans rfl, (blk_cell BK306.1 1).trans rfl, (blk_cell BK306.1 2).trans rfl, (blk_cell BK306.1 3).trans rfl, (blk_cell BK306.1 4).trans rfl, (blk_cell BK306.1 5).trans rfl, (blk_cell BK306.1 6).trans rfl, (blk_cell BK306.1 7).trans rfl⟩ (fun hHeld => ?_)
    clear hK K
    refine norm_ (a' := ?_) ?_ ?_
    rotate_left
    · show Act.put _ (some 14) _ = _
      simp only [Act.put, List.setIfInBounds_toArray, List.set_cons_zero, List.set_cons_succ, i64_w, i32_w]
      rfl
    refine one_ (i := 13) (N := some 19) M0_22 rfl rfl (one_of HT_.1 (by kernel_rfl)) (by decide) (fun K hK => ?_)
    refine goes_ Tryd.func48 (by kernel_rfl) rfl #[.int .i64 a0_3, .int .i64 a0_4] (by rfl) rfl rfl ma_ ?_
    with_reducible refine (impl_pairText.calls a0_3 a0_4 t311 _ A7.1 (TB_.below wB_)).mono ?_
    rintro e w18 ⟨rfl, hb⟩
    refine ⟨_, rfl, ?_⟩
    replace BK306 := o_ (blk_below (bd_ BK306.1) hb)
    replace HB := o_ (below_step wB_ hb)
    (try clear hb)
    (try clear hb2)
    (try clear hk)
    (try clear hi)
    refine hK.out _ _ ⟨(blk_cell BK306.1 0).trans rfl, (blk_cell BK306.1 1).trans rfl, (blk_cell BK306.1 2).trans rfl, (blk_cell BK306.1 3).trans rfl, (blk_cell BK306.1 4).trans rfl, (blk_cell BK306.1 5).trans rfl, (blk_cell BK306.1 6).trans rfl, (blk_cell BK306.1 7).trans rfl⟩ (fun hHeld => ?_)
    clear hK K
    refine norm_ (a' := ?_) ?_ ?_
    rotate_left
    · show Act.put _ (some 19) _ = _
      simp only [Act.put, List.setIfInBounds_toArray, List.set_cons_zero, List.set_cons_succ, i64_w, i32_w]
      rfl
    refine one_ (i := 16) (N := some 22) M0_23 rfl rfl (one_of HT_.1 (by kernel_rfl)) (by decide) (fun K hK => ?_)
    refine goes_ Tryd.func18 (by kernel_rfl) rfl #[.slice A0_5 l0_5.length c0_5] (by rfl) rfl rfl ma_ ?_
    with_reducible refine (impl_ListText.calls k _ _ l0_5 t312 _ ?side1 ?side2 A8.1 (TB_.below wB_)).mono ?_
    (case side1 => exact cd_ (Kd.C_below HR0_5.1 HB.1))
    (case side2 => exact HC0_5.1)
    rintro e w19 ⟨rfl, hb⟩
    refine ⟨_, rfl, ?_⟩
    replace BK306 := o_ (blk_below (bd_ BK306.1) hb)
    replace HB := o_ (below_step wB_ hb)
    (try clear hb)
    (try clear hb2)
    (try clear hk)
    (try clear hi)
    refine hK.out _ _ ⟨(blk_cell BK306.1 0).trans rfl, (blk_cell BK306.1 1).trans rfl, (blk_cell BK306.1 2).trans rfl, (blk_cell BK306.1 3).trans rfl, (blk_cell BK306.1 4).trans rfl, (blk_cell BK306.1 5).trans rfl, (blk_cell BK306.1 6).trans rfl, (blk_cell BK306.1 7).trans rfl⟩ (fun hHeld => ?_)
    clear hK K
    refine norm_ (a' := ?_) ?_ ?_
    rotate_left
    · show Act.put _ (some 22) _ = _
      simp only [Act.put, List.setIfInBounds_toArray, List.set_cons_zero, List.set_cons_succ, i64_w, i32_w]
      rfl
    refine one_ (i := 23) (N := some 29) M0_24 rfl rfl (one_of HT_.1 (by kernel_rfl)) (by decide) (fun K hK => ?_)
    refine goes_ Tryd.func48 (by kernel_rfl) rfl #[.int .i64 a0_6, .int .i64 a0_7] (by rfl) rfl rfl ma_ ?_
    with_reducible refine (impl_pairText.calls a0_6 a0_7 t313 _ A9.1 (TB_.below wB_)).mono ?_
    rintro e w20 ⟨rfl, hb⟩
    refine ⟨_, rfl, ?_⟩
    replace BK306 := o_ (blk_below (bd_ BK306.1) hb)
    replace HB := o_ (below_step wB_ hb)
    (try clear hb)
    (try clear hb2)
    (try clear hk)
    (try clear hi)
    refine hK.out _ _ ⟨(blk_cell BK306.1 0).trans rfl, (blk_cell BK306.1 1).trans rfl, (blk_cell BK306.1 2).trans rfl, (blk_cell BK306.1 3).trans rfl, (blk_cell BK306.1 4).trans rfl, (blk_cell BK306.1 5).trans rfl, (blk_cell BK306.1 6).trans rfl, (blk_cell BK306.1 7).trans rfl⟩ (fun hHeld => ?_)
    clear hK K
    refine norm_ (a' := ?_) ?_ ?_
    rotate_left
    · show Act.put _ (some 29) _ = _
      simp only [Act.put, List.setIfInBounds_toArray, List.set_cons_zero, List.set_cons_succ, i64_w, i32_w]
      rfl
    refine one_ (i := 24) (N := some 30) M0_25 rfl rfl (one_of HT_.1 (by kernel_rfl)) (by decide) (fun K hK => ?_)
    refine Kd.R_lit_step Kd.string _ 9 ?hg (N := 30) ?hd (xs := ([t308, t309, t310, t311, t312, t313] : List ByteArray)) (inner := [.string t308, .string t309, .string t310, .string t311, .string t312, .string t313]) (ok := fun _ => True) (okp := fun _ => True) ?hr ?hp (fun _ hk => hk) trivial (Below.refl _ _) (Nat.le_refl _) (by simp) ?_; (case hd => rfl); (case hg => rfl); (case hr => first | (go_simp; done) | (go_simp; rfl)); (case hp => exact (Reps.one (show Kd.M Kd.string _ _ _ t308 [.string t308] from rfl) (Reps.one (show Kd.M Kd.string _ _ _ t309 [.string t309] from rfl) (Reps.one (show Kd.M Kd.string _ _ _ t310 [.string t310] from rfl) (Reps.one (show Kd.M Kd.string _ _ _ t311 [.string t311] from rfl) (Reps.one (show Kd.M Kd.string _ _ _ t312 [.string t312] from rfl) (Reps.one (show Kd.M Kd.string _ _ _ t313 [.string t313] from rfl) (Reps.none _ _))))))))
    intro v315 w21 ho22 hb hg_ hnew_
    clear hg_ hnew_
    (first | rw [← Ny314.1] at ho22 | (simp only [Int.reduceToNat] at ho22; rw [← Ny314.1] at ho22))
    have HO316 := o_ (Kd.R_lower ho22 (below_size wB_))
    replace BK306 := o_ (blk_below (bd_ BK306.1) hb)
    replace HB := o_ (below_step wB_ hb)
    clear hb ho22
    obtain ⟨Ao23, co23, eo23⟩ := Kd.R_slice HO316.1
    (first | subst eo23 | (injection eo23 with f1_ f2_ f3_; have f4_ := f1_.symm; have f5_ := f3_.symm; clear f1_ f2_ f3_; subst f4_; subst f5_))
    refine hK.out _ _ ⟨(blk_cell BK306.1 0).trans rfl, (blk_cell BK306.1 1).trans rfl, (blk_cell BK306.1 2).trans rfl, (blk_cell BK306.1 3).trans rfl, (blk_cell BK306.1 4).trans rfl, (blk_cell BK306.1 5).trans rfl, (blk_cell BK306.1 6).trans rfl, (blk_cell BK306.1 7).trans rfl⟩ (fun hHeld => ?_)
    clear hK K
    refine norm_ (a' := ?_) ?_ ?_
    rotate_left
    · show Act.put _ (some 30) _ = _
      simp only [Act.put, List.setIfInBounds_toArray, List.set_cons_zero, List.set_cons_succ, i64_w, i32_w]
      rfl
    refine one_ (i := 25) (N := some 31) M0_26 rfl rfl (one_of HT_.1 (by kernel_rfl)) (by decide) (fun K hK => ?_)
    refine goes_ Tryd.func46 (by kernel_rfl) rfl #[.slice Ao23 y314.length co23, .string (⟨#[32]⟩ : ByteArray)] (by rfl) rfl rfl ma_ ?_
    with_reducible refine (strings_Join.calls _ _ y314 (⟨#[32]⟩ : ByteArray) t317 _ ?side1 ?side2 A10.1).mono ?_
    (case side1 => exact cd_ (Kd.R_reads' HO316.1).2.2)
    (case side2 => exact (Kd.R_reads' HO316.1).2.1)
    rintro e w24 ⟨rfl, hb⟩
    refine ⟨_, rfl, ?_⟩
    replace HO316 := o_ (Kd.R_below (rd_ HO316.1) hb)
    replace BK306 := o_ (blk_below (bd_ BK306.1) hb)
    replace HB := o_ (below_step wB_ hb)
    (try clear hb)
    (try clear hb2)
    (try clear hk)
    (try clear hi)
    refine hK.out _ _ ⟨(blk_cell BK306.1 0).trans rfl, (blk_cell BK306.1 1).trans rfl, (blk_cell BK306.1 2).trans rfl, (blk_cell BK306.1 3).trans rfl, (blk_cell BK306.1 4).trans rfl, (blk_cell BK306.1 5).trans rfl, (blk_cell BK306.1 6).trans rfl, (blk_cell BK306.1 7).trans rfl⟩ (fun hHeld => ?_)
    clear hK K
    refine norm_ (a' := ?_) ?_ ?_
    rotate_left
    · show Act.put _ (some 31) _ = _
      simp only [Act.put, List.setIfInBounds_toArray, List.set_cons_zero, List.set_cons_succ, i64_w, i32_w]
      rfl
    refine pu_ 26 (some 2) M0_27 HT_ ?_
    refine done_ (done_of HT_.1 (by kernel_rfl)) ?_
    try go_wp2
    go_ret
    exact ⟨rt_, wB_⟩
  · replace c3 := Bool.eq_false_iff.mpr c3
    subst c3
    have H1 := H
    rw [if_neg nt_] at H1
    clear H
    have H := H1
    clear H1
    obtain rfl := Option.some.inj H
    go_enter Tryd.func12, Tryd.ntmps12
    go_wp2_with (first | ((with_reducible refine gate_dst (N := 1) rfl ?_); refine bx_ 1 #[.int .i64 a0_0, .int .i64 a0_1, .slice A0_2 l0_2.length c0_2, .int .i64 a0_3, .int .i64 a0_4, .slice A0_5 l0_5.length c0_5, .int .i64 a0_6, .int .i64 a0_7] 28 ?_; intro gb306 hg w25 hbox hb; have BK306 := o_ (hbox); have GW306 := o_ ((by rw [hg]; exact (below_size (hd_ HB.1)) : w.heap.size ≤ gb306)); replace HB := o_ (below_step (hd_ HB.1) hb); have GE306 := GW306; clear hb hbox hg; obtain ⟨hcz26_0, hcz26_1, hcz26_2, hcz26_3, hcz26_4, hcz26_5, hcz26_6, hcz26_7⟩ := e101_ BK306.1; obtain ⟨hfz26_0, hfz26_1, hfz26_2, hfz26_3, hfz26_4, hfz26_5, hfz26_6, hfz26_7⟩ := z102_ BK306.1) | (refine gl_ (some 4) Tryd.func13 #[.agg #[.int .i64 a0_0, .int .i64 a0_1, .slice A0_2 l0_2.length c0_2, .int .i64 a0_3, .int .i64 a0_4, .slice A0_5 l0_5.length c0_5, .int .i64 a0_6, .int .i64 a0_7]] ?_; (with_reducible refine (impl_IsReport.calls k a0_0 a0_1 _ _ l0_2 a0_3 a0_4 _ _ l0_5 a0_6 a0_7 false _ ?side1 ?side2 ?side3 ?side4 A2.1).mono ?_); (case side1 => exact cd_ (Kd.C_below HR0_2.1 HB.1)); (case side2 => exact HC0_2.1); (case side3 => exact cd_ (Kd.C_below HR0_5.1 HB.1)); (case side4 => exact HC0_5.1); rintro e w27 ⟨rfl, hb⟩; refine ⟨_, rfl, ?_⟩; replace BK306 := o_ (blk_below (bd_ BK306.1) hb); replace HB := o_ (below_step wB_ hb); (try clear hb)))
    go_ret
    exact ⟨rt_, wB_⟩

/-! ### strings_Split: function 43 -/
def strings_Split.f (a0 a1 : ByteArray) : Option (List ByteArray) := if a0.size < 4294967281 ∧ 1 ≤ a1.size then some (Lib.splitB a1 0 (Lib.countB a0 a1) a0) else none
theorem strings_Split.calls (a0 a1 : ByteArray) (r : List ByteArray) (w : World) (h : strings_Split.f a0 a1 = some r) (TB_ : (Itm.Tb true true) w) :
    Calls Tryd.prog 43 #[.string a0, .string a1] w fun e w' => ∃ v0_ : Value, e = .returned (v0_) ∧ Kd.R Kd.string 9 w' w.heap.size (fun _ => True) v0_ r ∧ Below w.heap.size w w' := by
  unfold strings_Split.f at h
  split at h
  case isFalse => cases h
  rename_i hin
  obtain rfl := Option.some.inj h
  exact Itm.split a0 a1 w hin.1 hin.2 TB_


end Go.Proofs.YtihnanfekchlhaaDoor.PFnForms
