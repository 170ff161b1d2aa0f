-- Written for this claim by a program (a printer turned to this claim); Lean checks it.
import Derived.Test.YtihnanfekchlhaaDoorPFnFormsx0
import Derived.Test.YtihnanfekchlhaaDoorPFnFormsx6
namespace Go.Proofs.YtihnanfekchlhaaDoor.PFnForms
open Go.RowKit Go.Proofs.YtihnanfekchlhaaDoorW.PrintWords Go.Proofs.YtihnanfekchlhaaDoorW.PrintLast Go.Proofs.YtihnanfekchlhaaDoorW.PrintMore
attribute [local go_sem] max2_int min2_int max_two min_two max_three min_three max_four min_four   -- for this text's walks alone
set_option linter.unusedVariables false
set_option linter.unusedSimpArgs false

/-! ### spec_ListText: function 29 -/
def spec_ListText.l0 : Nat → List Int → ByteArray → Int → Option (ByteArray)
  | 0, _, _, _ => none
  | k + 1, x0, x3, x4 => if x4 < (x0.length : Int) then (if x4 > 0 then (if x3.size + 1 ≤ 9223372036854775807 then (if 0 ≤ x4 then ((spec_FormatInt.f k (rd x0 x4)).bind fun t383 => (if (x3 ++ (⟨#[44]⟩ : ByteArray)).size + t383.size ≤ 9223372036854775807 then (spec_ListText.l0 k x0 ((x3 ++ (⟨#[44]⟩ : ByteArray)) ++ t383) (wrap64 (x4 + 1))) else (none))) else (none)) else (none)) else (if 0 ≤ x4 then ((spec_FormatInt.f k (rd x0 x4)).bind fun t385 => (if x3.size + t385.size ≤ 9223372036854775807 then (spec_ListText.l0 k x0 (x3 ++ t385) (wrap64 (x4 + 1))) else (none))) else (none))) else (if (x0.length : Int) = 0 then (some (⟨#[45]⟩ : ByteArray)) else (some x3))
def spec_ListText.f (k : Nat) (l0 : List Int) : Option (ByteArray) := spec_ListText.l0 k l0 (⟨#[]⟩ : ByteArray) 0
theorem spec_ListText.mono_l : ∀ k, (∀ y0 y1 y2, LeO (spec_ListText.l0 k y0 y1 y2) (spec_ListText.l0 (k + 1) y0 y1 y2))
  | 0 => fun _ _ _ r h => by simp [spec_ListText.l0] at h
  | k + 1 => by
    have ih0 := spec_ListText.mono_l k
    · intro y0 y1 y2
      unfold spec_ListText.l0
      have jh0 := @spec_FormatInt.mono
      exact mo_
theorem spec_ListText.mono : ∀ a0 k, LeO (spec_ListText.f k a0) (spec_ListText.f (k + 1) a0) := by
  intro a0 k
  have ih0 := spec_ListText.mono_l k
  unfold spec_ListText.f
  have jh0 := @spec_FormatInt.mono
  exact mo_
theorem y157_ {P : Prop} (h : P := by first | rfl | (simp; done) | (simp [*]; done)) : P := h
set_option maxHeartbeats 8000000 in
set_option maxRecDepth 100000 in
theorem spec_ListText.calls (k : Nat) (A0 : Option Addr) (c0 : Nat) (l0 : List Int) (r : ByteArray) (w : World) (hr0 : Kd.C (Kd.int .i64) w A0 l0.length l0) (hc0 : l0.length ≤ c0) (h : spec_ListText.f k l0 = some r) :
    Calls Tryd.prog 29 #[.slice A0 l0.length c0] w fun e w' => e = .returned (.string r) ∧ Below w.heap.size w w' := by
  have HR0 := o_ hr0
  have HC0 := o_ hc0
  clear hr0 hc0
  have HB := o_ (Below.refl w.heap.size w)
  have H : (spec_ListText.l0 k l0 (⟨#[]⟩ : ByteArray) 0) = some r := h
  clear h
  have H' := o_ H
  clear H
  go_enter Tryd.func29, Tryd.ntmps29
  go_wp2
  go_loopg [3, 4] k (fun kq v3 v4 w' => ∃ (x3_1 : ByteArray) (x4_1 : Int), v3 = .string x3_1 ∧ v4 = .int .i64 x4_1 ∧ Aside0 (spec_ListText.l0 kq l0 x3_1 x4_1 = some r) ∧ Aside0 (kq ≤ k) ∧ Aside0 (Below w.heap.size w w'))
  case atStart => exact ⟨((⟨#[]⟩ : ByteArray)), (0), y157_, y157_, H', ⟨Nat.le_refl _⟩, ⟨hd_ HB.1⟩⟩
  case round =>
    clear H'
    obtain ⟨x3_1, x4_1, rfl, rfl, HA, HK1, HB⟩ := hrel
    cases gk with
    | zero => exact absurd HA.1 (by simp [spec_ListText.l0])
    | succ k1 =>
      have H := HA.1
      clear HA
      simp only [spec_ListText.l0] at H
      by_cases c2 : x4_1 < (l0.length : Int)
      · rw [if_pos c2] at H
        have c2b0 := decide_eq_true c2
        clear c2
        by_cases c3 : x4_1 > 0
        · rw [if_pos c3] at H
          have c3b0 := decide_eq_true c3
          clear c3
          by_cases c4 : x3_1.size + 1 ≤ 9223372036854775807
          · rw [if_pos c4] at H
            have c4b0 := eq_true c4
            have c4b1 := decide_eq_true c4
            try have c4b2 : (9223372036854775807 < x3_1.size + 1) = False := eq_false (Nat.not_lt.2 c4)
            by_cases c5 : 0 ≤ x4_1
            · rw [if_pos c5] at H
              have c5b0 := decide_eq_true c5
              clear c5
              replace H := Option.bind_eq_some_iff.mp H
              obtain ⟨t383, A60, H⟩ := H
              try dsimp only at H
              have A6 := o_ A60
              clear A60
              by_cases c7 : (x3_1 ++ (⟨#[44]⟩ : ByteArray)).size + t383.size ≤ 9223372036854775807
              · rw [if_pos c7] at H
                have c7b0 := eq_true c7
                have c7b1 := decide_eq_true c7
                try have c7b2 : (9223372036854775807 < (x3_1 ++ (⟨#[44]⟩ : ByteArray)).size + t383.size) = False := eq_false (Nat.not_lt.2 c7)
                try have c7b3 : (9223372036854775807 < x3_1.size + 1 + t383.size) = False := eq_false (Nat.not_lt.2 (by have h_ := c7; simp only [ByteArray.size_append] at h_; exact h_))
                have H' := o_ H
                clear H
                have p382 : 0 ≤ (x4_1 : Int) := of_decide_eq_true as_
                have q382 : x4_1 < (l0.length : Int) := of_decide_eq_true as_
                obtain ⟨ad382, e382, hx382_0⟩ := Kd.at_int HR0.1 x4_1 p382 q382
                cases e382
                replace hx382_0 := cb_ HB.1 hx382_0
                replace p382 := eq_true p382
                replace q382 := eq_true q382
                go_wp2_with (first | (refine gl_ (some 20) Tryd.func64 #[.int .i64 (rd l0 x4_1)] ?_; (with_reducible refine (spec_FormatInt.calls k1 (rd l0 x4_1) t383 _ A6.1).mono ?_); rintro e w8 ⟨rfl, hb⟩; refine ⟨_, rfl, ?_⟩; replace HB := o_ (below_step (hd_ HB.1) hb); (try clear hb)))
                go_roundg k1
                case measure => have := HK1.1; omega
                case rel => exact ⟨((x3_1 ++ (⟨#[44]⟩ : ByteArray)) ++ t383), (wrap64 (x4_1 + 1)), y157_, y157_, H', ⟨by have := HK1.1; omega⟩, ⟨hd_ HB.1⟩⟩
              · rw [if_neg c7] at H
                exact absurd H (by simp)
            · rw [if_neg c5] at H
              exact absurd H (by simp)
          · rw [if_neg c4] at H
            exact absurd H (by simp)
        · rw [if_neg c3] at H
          have c3b0 := decide_eq_false c3
          clear c3
          by_cases c9 : 0 ≤ x4_1
          · rw [if_pos c9] at H
            have c9b0 := decide_eq_true c9
            clear c9
            replace H := Option.bind_eq_some_iff.mp H
            obtain ⟨t385, A100, H⟩ := H
            try dsimp only at H
            have A10 := o_ A100
            clear A100
            by_cases c11 : x3_1.size + t385.size ≤ 9223372036854775807
            · rw [if_pos c11] at H
              have c11b0 := eq_true c11
              have c11b1 := decide_eq_true c11
              try have c11b2 : (9223372036854775807 < x3_1.size + t385.size) = False := eq_false (Nat.not_lt.2 c11)
              have H' := o_ H
              clear H
              have p384 : 0 ≤ (x4_1 : Int) := of_decide_eq_true as_
              have q384 : x4_1 < (l0.length : Int) := of_decide_eq_true as_
              obtain ⟨ad384, e384, hx384_0⟩ := Kd.at_int HR0.1 x4_1 p384 q384
              cases e384
              replace hx384_0 := cb_ HB.1 hx384_0
              replace p384 := eq_true p384
              replace q384 := eq_true q384
              go_wp2_with (first | (refine gl_ (some 20) Tryd.func64 #[.int .i64 (rd l0 x4_1)] ?_; (with_reducible refine (spec_FormatInt.calls k1 (rd l0 x4_1) t385 _ A10.1).mono ?_); rintro e w12 ⟨rfl, hb⟩; refine ⟨_, rfl, ?_⟩; replace HB := o_ (below_step (hd_ HB.1) hb); (try clear hb)))
              go_roundg k1
              case measure => have := HK1.1; omega
              case rel => exact ⟨(x3_1 ++ t385), (wrap64 (x4_1 + 1)), y157_, y157_, H', ⟨by have := HK1.1; omega⟩, ⟨hd_ HB.1⟩⟩
            · rw [if_neg c11] at H
              exact absurd H (by simp)
          · rw [if_neg c9] at H
            exact absurd H (by simp)
      · rw [if_neg c2] at H
        have c2b0 := decide_eq_false c2
        clear c2
        by_cases c13 : (l0.length : Int) = 0
        · rw [if_pos c13] at H
          have c13b0 := beq_iff_eq.mpr c13
          have c13b1 := bne_eq_false_iff_eq.mpr c13
          clear c13
          obtain rfl := Option.some.inj H
          go_wp2
          go_ret
          exact ⟨rt_, hd_ HB.1⟩
        · rw [if_neg c13] at H
          have c13b0 := beq_eq_false_iff_ne.mpr c13
          have c13b1 := bne_iff_ne.mpr c13
          have c13b2 : ¬ (l0 = []) := fun h_ => c13 (by rw [h_]; rfl)
          obtain rfl := Option.some.inj H
          go_wp2
          go_ret
          exact ⟨rt_, hd_ HB.1⟩

/-! ### spec_l1In: function 85 -/
def spec_l1In.f (a0 : Int) (a1 : Int) (a2 : Int) : Option (Bool) := if a0 ≥ a1 then (some (decide (a0 ≤ a2))) else (some false)
set_option maxHeartbeats 8000000 in
set_option maxRecDepth 100000 in
theorem spec_l1In.calls (a0 : Int) (a1 : Int) (a2 : Int) (r : Bool) (w : World) (h : spec_l1In.f a0 a1 a2 = some r) :
    Calls Tryd.prog 85 #[.int .i64 a0, .int .i64 a1, .int .i64 a2] w fun e w' => e = .returned (.bool r) ∧ Drawn0 w w' := by
  have H : (if a0 ≥ a1 then (some (decide (a0 ≤ a2))) else (some false)) = some r := h
  clear h
  by_cases c4 : a0 ≥ a1
  · rw [if_pos c4] at H
    have c4b0 := decide_eq_true c4
    clear c4
    obtain rfl := Option.some.inj H
    go_enter Tryd.func85, Tryd.ntmps85
    go_wp2
    go_ret
    exact ⟨rs_, by repeat (first | exact Drawn0.refl _ | apply Drawn0.step)⟩
  · rw [if_neg c4] at H
    have c4b0 := decide_eq_false c4
    clear c4
    obtain rfl := Option.some.inj H
    go_enter Tryd.func85, Tryd.ntmps85
    go_wp2
    go_ret
    exact ⟨rs_, by repeat (first | exact Drawn0.refl _ | apply Drawn0.step)⟩

/-! ### spec_KindText: function 57 -/
def spec_KindText.f (a0 : Int) : Option (ByteArray) := (spec_l1In.f a0 1 8).bind fun t386 => (if t386 = true then ((some (([(⟨#[]⟩ : ByteArray), (⟨#[98, 97, 103]⟩ : ByteArray), (⟨#[99, 111, 97, 116]⟩ : ByteArray), (⟨#[107, 101, 121, 115]⟩ : ByteArray), (⟨#[109, 111, 110, 101, 121]⟩ : ByteArray), (⟨#[112, 104, 111, 110, 101]⟩ : ByteArray), (⟨#[117, 109, 98, 114, 101, 108, 108, 97]⟩ : ByteArray), (⟨#[102, 111, 111, 100]⟩ : ByteArray), (⟨#[111, 116, 104, 101, 114]⟩ : ByteArray)] : List ByteArray) : List ByteArray)).bind fun y387 => (if 0 ≤ a0 then (if a0 < (y387.length : Int) then (some (rdOf ByteArray.empty y387 a0)) else (none)) else (none))) else (some (⟨#[]⟩ : ByteArray)))
set_option maxHeartbeats 8000000 in
set_option maxRecDepth 100000 in
theorem spec_KindText.calls (a0 : Int) (r : ByteArray) (w : World) (h : spec_KindText.f a0 = some r) :
    Calls Tryd.prog 57 #[.int .i64 a0] w fun e w' => e = .returned (.string r) ∧ Below w.heap.size w w' := by
  have HB := o_ (Below.refl w.heap.size w)
  have H : ((spec_l1In.f a0 1 8).bind fun t386 => (if t386 = true then ((some (([(⟨#[]⟩ : ByteArray), (⟨#[98, 97, 103]⟩ : ByteArray), (⟨#[99, 111, 97, 116]⟩ : ByteArray), (⟨#[107, 101, 121, 115]⟩ : ByteArray), (⟨#[109, 111, 110, 101, 121]⟩ : ByteArray), (⟨#[112, 104, 111, 110, 101]⟩ : ByteArray), (⟨#[117, 109, 98, 114, 101, 108, 108, 97]⟩ : ByteArray), (⟨#[102, 111, 111, 100]⟩ : ByteArray), (⟨#[111, 116, 104, 101, 114]⟩ : ByteArray)] : List ByteArray) : List ByteArray)).bind fun y387 => (if 0 ≤ a0 then (if a0 < (y387.length : Int) then (some (rdOf ByteArray.empty y387 a0)) else (none)) else (none))) else (some (⟨#[]⟩ : ByteArray)))) = some r := h
  clear h
  replace H := Option.bind_eq_some_iff.mp H
  obtain ⟨t386, A20, H⟩ := H
  try dsimp only at H
  have A2 := o_ A20
  clear A20
  by_cases c3 : t386 = true
  · subst c3
    have H1 := H
    rw [if_pos rfl] at H1
    clear H
    have H := H1
    clear H1
    obtain ⟨y387, hy387⟩ : ∃ y_ : List ByteArray, y_ = (([(⟨#[]⟩ : ByteArray), (⟨#[98, 97, 103]⟩ : ByteArray), (⟨#[99, 111, 97, 116]⟩ : ByteArray), (⟨#[107, 101, 121, 115]⟩ : ByteArray), (⟨#[109, 111, 110, 101, 121]⟩ : ByteArray), (⟨#[112, 104, 111, 110, 101]⟩ : ByteArray), (⟨#[117, 109, 98, 114, 101, 108, 108, 97]⟩ : ByteArray), (⟨#[102, 111, 111, 100]⟩ : ByteArray), (⟨#[111, 116, 104, 101, 114]⟩ : ByteArray)] : List ByteArray)) := ⟨_, rfl⟩
    replace H : (if 0 ≤ a0 then (if a0 < (y387.length : Int) then (some (rdOf ByteArray.empty y387 a0)) else (none)) else (none)) = some r := by first | (rw [hy387]; with_reducible exact H) | (have H2_ := (Option.bind_some _ _).symm.trans H; rw [hy387]; with_reducible exact H2_) | (have H2_ := (Option.bind_some _ _).symm.trans H; with_reducible exact H2_) | with_reducible exact H | (rw [hy387]; exact H) | exact H
    have Ny387 := o_ hy387
    clear hy387
    by_cases c4 : 0 ≤ a0
    · rw [if_pos c4] at H
      have c4b0 := decide_eq_true c4
      clear c4
      by_cases c5 : a0 < (y387.length : Int)
      · rw [if_pos c5] at H
        have c5b0 := decide_eq_true c5
        clear c5
        obtain rfl := Option.some.inj H
        go_enter Tryd.func57, Tryd.ntmps57
        go_wp2_with (first | (refine gl_ (some 4) Tryd.func85 #[.int .i64 a0, .int .i64 1, .int .i64 8] ?_; (with_reducible refine (spec_l1In.calls a0 1 8 true _ A2.1).mono ?_); rintro e w' ⟨rfl, ⟨nd, rfl⟩⟩; refine ⟨_, rfl, ?_⟩) | ((with_reducible refine gate_dst (N := 6) rfl ?_); refine Kd.R_lit Kd.string _ 9 ?hg (N := 6) ?hd (xs := ([(⟨#[]⟩ : ByteArray), (⟨#[98, 97, 103]⟩ : ByteArray), (⟨#[99, 111, 97, 116]⟩ : ByteArray), (⟨#[107, 101, 121, 115]⟩ : ByteArray), (⟨#[109, 111, 110, 101, 121]⟩ : ByteArray), (⟨#[112, 104, 111, 110, 101]⟩ : ByteArray), (⟨#[117, 109, 98, 114, 101, 108, 108, 97]⟩ : ByteArray), (⟨#[102, 111, 111, 100]⟩ : ByteArray), (⟨#[111, 116, 104, 101, 114]⟩ : ByteArray)] : List ByteArray)) (inner := [.string (⟨#[]⟩ : ByteArray), .string (⟨#[98, 97, 103]⟩ : ByteArray), .string (⟨#[99, 111, 97, 116]⟩ : ByteArray), .string (⟨#[107, 101, 121, 115]⟩ : ByteArray), .string (⟨#[109, 111, 110, 101, 121]⟩ : ByteArray), .string (⟨#[112, 104, 111, 110, 101]⟩ : ByteArray), .string (⟨#[117, 109, 98, 114, 101, 108, 108, 97]⟩ : ByteArray), .string (⟨#[102, 111, 111, 100]⟩ : ByteArray), .string (⟨#[111, 116, 104, 101, 114]⟩ : ByteArray)]) (ok := fun _ => True) (okp := fun _ => True) ?hr ?hp (fun _ hk => hk) trivial (Below.refl _ _) (Nat.le_refl _) (by simp) ?_; (case hd => rfl); (case hg => rfl); (case hr => first | (go_simp; done) | (go_simp; rfl)); (case hp => exact (Reps.one (show Kd.M Kd.string _ _ _ (⟨#[]⟩ : ByteArray) [.string (⟨#[]⟩ : ByteArray)] from rfl) (Reps.one (show Kd.M Kd.string _ _ _ (⟨#[98, 97, 103]⟩ : ByteArray) [.string (⟨#[98, 97, 103]⟩ : ByteArray)] from rfl) (Reps.one (show Kd.M Kd.string _ _ _ (⟨#[99, 111, 97, 116]⟩ : ByteArray) [.string (⟨#[99, 111, 97, 116]⟩ : ByteArray)] from rfl) (Reps.one (show Kd.M Kd.string _ _ _ (⟨#[107, 101, 121, 115]⟩ : ByteArray) [.string (⟨#[107, 101, 121, 115]⟩ : ByteArray)] from rfl) (Reps.one (show Kd.M Kd.string _ _ _ (⟨#[109, 111, 110, 101, 121]⟩ : ByteArray) [.string (⟨#[109, 111, 110, 101, 121]⟩ : ByteArray)] from rfl) (Reps.one (show Kd.M Kd.string _ _ _ (⟨#[112, 104, 111, 110, 101]⟩ : ByteArray) [.string (⟨#[112, 104, 111, 110, 101]⟩ : ByteArray)] from rfl) (Reps.one (show Kd.M Kd.string _ _ _ (⟨#[117, 109, 98, 114, 101, 108, 108, 97]⟩ : ByteArray) [.string (⟨#[117, 109, 98, 114, 101, 108, 108, 97]⟩ : ByteArray)] from rfl) (Reps.one (show Kd.M Kd.string _ _ _ (⟨#[102, 111, 111, 100]⟩ : ByteArray) [.string (⟨#[102, 111, 111, 100]⟩ : ByteArray)] from rfl) (Reps.one (show Kd.M Kd.string _ _ _ (⟨#[111, 116, 104, 101, 114]⟩ : ByteArray) [.string (⟨#[111, 116, 104, 101, 114]⟩ : ByteArray)] from rfl) (Reps.none _ _))))))))))); intro v388 w6 ho7 hb hg_ hnew_; clear hg_ hnew_; (first | rw [← Ny387.1] at ho7 | (simp only [Int.reduceToNat] at ho7; rw [← Ny387.1] at ho7)); have HO389 := o_ (Kd.R_lower ho7 (below_size (hd_ HB.1))); replace HB := o_ (below_step (hd_ HB.1) hb); clear hb ho7; obtain ⟨Ao8, co8, eo8⟩ := Kd.R_slice HO389.1; subst eo8; have p390 : 0 ≤ (a0 : Int) := of_decide_eq_true as_; have q390 : a0 < (y387.length : Int) := of_decide_eq_true as_; obtain ⟨ad390, e390, hx390_0⟩ := Kd.at_string (Kd.R_reads' HO389.1).2.2 a0 p390 q390; cases e390; replace p390 := eq_true p390; replace q390 := eq_true q390))
        go_ret
        exact ⟨rt_, hd_ HB.1⟩
      · rw [if_neg c5] at H
        exact absurd H (by simp)
    · rw [if_neg c4] at H
      exact absurd H (by simp)
  · replace c3 := Bool.eq_false_iff.mpr c3
    subst c3
    have H1 := H
    rw [if_neg nt_] at H1
    clear H
    have H := H1
    clear H1
    obtain rfl := Option.some.inj H
    go_enter Tryd.func57, Tryd.ntmps57
    go_wp2_with (first | (refine gl_ (some 4) Tryd.func85 #[.int .i64 a0, .int .i64 1, .int .i64 8] ?_; (with_reducible refine (spec_l1In.calls a0 1 8 false _ A2.1).mono ?_); rintro e w' ⟨rfl, ⟨nd, rfl⟩⟩; refine ⟨_, rfl, ?_⟩))
    go_ret
    exact ⟨rt_, hd_ HB.1⟩

/-! ### spec_l7Ids: function 91 -/
def spec_l7Ids.l0 : Nat → List Int → Int → Int → Int → Option (Bool)
  | 0, _, _, _, _ => none
  | k + 1, x0, x1, x2, x7 => if x7 < (x0.length : Int) then (if 0 ≤ x7 then ((spec_l1In.f (rd x0 x7) x1 x2).bind fun t392 => (if t392 = true then (if x7 > 0 then (if 0 ≤ (wrap64 (x7 - 1)) then (if (wrap64 (x7 - 1)) < (x0.length : Int) then (if (rd x0 (wrap64 (x7 - 1))) ≥ (rd x0 x7) then (some false) else (spec_l7Ids.l0 k x0 x1 x2 (wrap64 (x7 + 1)))) else (none)) else (none)) else (spec_l7Ids.l0 k x0 x1 x2 (wrap64 (x7 + 1)))) else (some false))) else (none)) else (some true)
def spec_l7Ids.f (k : Nat) (l0 : List Int) (a1 : Int) (a2 : Int) : Option (Bool) := spec_l7Ids.l0 k l0 a1 a2 0
theorem spec_l7Ids.mono_l : ∀ k, (∀ y0 y1 y2 y3, LeO (spec_l7Ids.l0 k y0 y1 y2 y3) (spec_l7Ids.l0 (k + 1) y0 y1 y2 y3))
  | 0 => fun _ _ _ _ r h => by simp [spec_l7Ids.l0] at h
  | k + 1 => by
    have ih0 := spec_l7Ids.mono_l k
    · intro y0 y1 y2 y3
      unfold spec_l7Ids.l0
      exact mo_
theorem spec_l7Ids.mono : ∀ a0 a1 a2 k, LeO (spec_l7Ids.f k a0 a1 a2) (spec_l7Ids.f (k + 1) a0 a1 a2) := by
  intro a0 a1 a2 k
  have ih0 := spec_l7Ids.mono_l k
  unfold spec_l7Ids.f
  exact mo_
theorem y159_ {P : Prop} (h : P := by repeat (first | exact Drawn0.refl _ | apply Drawn0.step)) : P := h
set_option maxHeartbeats 8000000 in
set_option maxRecDepth 100000 in
theorem spec_l7Ids.calls (k : Nat) (A0 : Option Addr) (c0 : Nat) (l0 : List Int) (a1 : Int) (a2 : Int) (r : Bool) (w : World) (hr0 : Kd.C (Kd.int .i64) w A0 l0.length l0) (hc0 : l0.length ≤ c0) (h : spec_l7Ids.f k l0 a1 a2 = some r) :
    Calls Tryd.prog 91 #[.slice A0 l0.length c0, .int .i64 a1, .int .i64 a2] w fun e w' => e = .returned (.bool r) ∧ Drawn0 w w' := by
  have HR0 := o_ hr0
  have HC0 := o_ hc0
  clear hr0 hc0
  have H : (spec_l7Ids.l0 k l0 a1 a2 0) = some r := h
  clear h
  have H' := o_ H
  clear H
  go_enter Tryd.func91, Tryd.ntmps91
  go_wp2
  repeat (go_quiet (fail); try go_wp2)
  go_loopg [7] k (fun kq v7 w' => ∃ (x7_1 : Int), v7 = .int .i64 x7_1 ∧ Aside0 (spec_l7Ids.l0 kq l0 a1 a2 x7_1 = some r) ∧ Aside0 (kq ≤ k) ∧ Drawn0 w w')
  case atStart => exact ⟨(0), rs_, H', ⟨Nat.le_refl _⟩, y159_⟩
  case round =>
    clear H'
    try clear p2
    obtain ⟨x7_1, rfl, HA, HK1, ⟨m1, rfl⟩⟩ := hrel
    cases gk with
    | zero => exact absurd HA.1 (by simp [spec_l7Ids.l0])
    | succ k1 =>
      have H := HA.1
      clear HA
      simp only [spec_l7Ids.l0] at H
      by_cases c4 : x7_1 < (l0.length : Int)
      · rw [if_pos c4] at H
        have c4b0 := decide_eq_true c4
        clear c4
        by_cases c5 : 0 ≤ x7_1
        · rw [if_pos c5] at H
          have c5b0 := decide_eq_true c5
          clear c5
          replace H := Option.bind_eq_some_iff.mp H
          obtain ⟨t392, A60, H⟩ := H
          try dsimp only at H
          have A6 := o_ A60
          clear A60
          by_cases c7 : t392 = true
          · subst c7
            have H1 := H
            rw [if_pos rfl] at H1
            clear H
            have H := H1
            clear H1
            by_cases c8 : x7_1 > 0
            · rw [if_pos c8] at H
              have c8b0 := decide_eq_true c8
              clear c8
              obtain ⟨ji9, hji9⟩ : ∃ j_ : Int, (wrap64 (x7_1 - 1)) = j_ := ⟨_, rfl⟩
              replace H : (if 0 ≤ (ji9) then (if (ji9) < (l0.length : Int) then (if (rd l0 (ji9)) ≥ (rd l0 x7_1) then (some false) else (spec_l7Ids.l0 k1 l0 a1 a2 (wrap64 (x7_1 + 1)))) else (none)) else (none)) = some r := by first | (rw [hji9] at H; exact H) | (simp only [hji9] at H ⊢; exact H)
              (try rw [hji9] at A6)
              have hji9w : (IntKind.i64.wrap (x7_1 - 1)) = ji9 := (i64_w _).trans hji9
              by_cases c10 : 0 ≤ (ji9)
              · rw [if_pos c10] at H
                have c10b0 := decide_eq_true c10
                clear c10
                by_cases c11 : (ji9) < (l0.length : Int)
                · rw [if_pos c11] at H
                  have c11b0 := decide_eq_true c11
                  clear c11
                  by_cases c12 : (rd l0 (ji9)) ≥ (rd l0 x7_1)
                  · rw [if_pos c12] at H
                    have c12b0 := decide_eq_true c12
                    clear c12
                    obtain rfl := Option.some.inj H
                    have p391 : 0 ≤ (x7_1 : Int) := of_decide_eq_true as_
                    have q391 : x7_1 < (l0.length : Int) := of_decide_eq_true as_
                    obtain ⟨ad391, e391, hx391_0⟩ := Kd.at_int HR0.1 x7_1 p391 q391
                    cases e391
                    replace p391 := eq_true p391
                    replace q391 := eq_true q391
                    go_wp2_with (first | (go_at_call 85; (with_reducible refine (spec_l1In.calls (rd l0 x7_1) a1 a2 true _ A6.1).mono ?_); rintro e w' ⟨rfl, ⟨nd, rfl⟩⟩; (try first | exact ⟨rfl, _, World.drewN_drewN _ _ _⟩ | exact ⟨rfl, _, Eq.trans (World.drewN_drewN _ _ _) (congrArg (World.drewN _) (Nat.add_assoc _ _ _))⟩); all_goals (have p393 : 0 ≤ ((ji9) : Int) := of_decide_eq_true as_; have q393 : (ji9) < (l0.length : Int) := of_decide_eq_true as_; obtain ⟨ad393, e393, hx393_0⟩ := Kd.at_int HR0.1 (ji9) p393 q393; obtain rfl : ad391 = ad393 := (by injection e393); replace p393 := eq_true p393; replace q393 := eq_true q393; have p394 : 0 ≤ (x7_1 : Int) := of_decide_eq_true as_; have q394 : x7_1 < (l0.length : Int) := of_decide_eq_true as_; obtain ⟨ad394, e394, hx394_0⟩ := Kd.at_int HR0.1 x7_1 p394 q394; obtain rfl : ad391 = ad394 := (by injection e394); replace p394 := eq_true p394; replace q394 := eq_true q394)))
                    repeat (go_quiet (first | (go_at_call 85; (with_reducible refine (spec_l1In.calls (rd l0 x7_1) a1 a2 true _ A6.1).mono ?_); rintro e w' ⟨rfl, ⟨nd, rfl⟩⟩; (try first | exact ⟨rfl, _, World.drewN_drewN _ _ _⟩ | exact ⟨rfl, _, Eq.trans (World.drewN_drewN _ _ _) (congrArg (World.drewN _) (Nat.add_assoc _ _ _))⟩); all_goals (have p393 : 0 ≤ ((ji9) : Int) := of_decide_eq_true as_; have q393 : (ji9) < (l0.length : Int) := of_decide_eq_true as_; obtain ⟨ad393, e393, hx393_0⟩ := Kd.at_int HR0.1 (ji9) p393 q393; obtain rfl : ad391 = ad393 := (by injection e393); replace p393 := eq_true p393; replace q393 := eq_true q393; have p394 : 0 ≤ (x7_1 : Int) := of_decide_eq_true as_; have q394 : x7_1 < (l0.length : Int) := of_decide_eq_true as_; obtain ⟨ad394, e394, hx394_0⟩ := Kd.at_int HR0.1 x7_1 p394 q394; obtain rfl : ad391 = ad394 := (by injection e394); replace p394 := eq_true p394; replace q394 := eq_true q394))); try go_wp2_with (first | (go_at_call 85; (with_reducible refine (spec_l1In.calls (rd l0 x7_1) a1 a2 true _ A6.1).mono ?_); rintro e w' ⟨rfl, ⟨nd, rfl⟩⟩; (try first | exact ⟨rfl, _, World.drewN_drewN _ _ _⟩ | exact ⟨rfl, _, Eq.trans (World.drewN_drewN _ _ _) (congrArg (World.drewN _) (Nat.add_assoc _ _ _))⟩); all_goals (have p393 : 0 ≤ ((ji9) : Int) := of_decide_eq_true as_; have q393 : (ji9) < (l0.length : Int) := of_decide_eq_true as_; obtain ⟨ad393, e393, hx393_0⟩ := Kd.at_int HR0.1 (ji9) p393 q393; obtain rfl : ad391 = ad393 := (by injection e393); replace p393 := eq_true p393; replace q393 := eq_true q393; have p394 : 0 ≤ (x7_1 : Int) := of_decide_eq_true as_; have q394 : x7_1 < (l0.length : Int) := of_decide_eq_true as_; obtain ⟨ad394, e394, hx394_0⟩ := Kd.at_int HR0.1 x7_1 p394 q394; obtain rfl : ad391 = ad394 := (by injection e394); replace p394 := eq_true p394; replace q394 := eq_true q394))))
                    go_ret
                    exact ⟨by first | rfl | (simp; done) | (simp only [← hji9] <;> (first | rfl | simp)) | (simp [*]; done), y159_⟩
                  · rw [if_neg c12] at H
                    have c12b0 := decide_eq_false c12
                    clear c12
                    have H' := o_ H
                    clear H
                    have p391 : 0 ≤ (x7_1 : Int) := of_decide_eq_true as_
                    have q391 : x7_1 < (l0.length : Int) := of_decide_eq_true as_
                    obtain ⟨ad391, e391, hx391_0⟩ := Kd.at_int HR0.1 x7_1 p391 q391
                    cases e391
                    replace p391 := eq_true p391
                    replace q391 := eq_true q391
                    go_wp2_with (first | (go_at_call 85; (with_reducible refine (spec_l1In.calls (rd l0 x7_1) a1 a2 true _ A6.1).mono ?_); rintro e w' ⟨rfl, ⟨nd, rfl⟩⟩; (try first | exact ⟨rfl, _, World.drewN_drewN _ _ _⟩ | exact ⟨rfl, _, Eq.trans (World.drewN_drewN _ _ _) (congrArg (World.drewN _) (Nat.add_assoc _ _ _))⟩); all_goals (have p393 : 0 ≤ ((ji9) : Int) := of_decide_eq_true as_; have q393 : (ji9) < (l0.length : Int) := of_decide_eq_true as_; obtain ⟨ad393, e393, hx393_0⟩ := Kd.at_int HR0.1 (ji9) p393 q393; obtain rfl : ad391 = ad393 := (by injection e393); replace p393 := eq_true p393; replace q393 := eq_true q393; have p394 : 0 ≤ (x7_1 : Int) := of_decide_eq_true as_; have q394 : x7_1 < (l0.length : Int) := of_decide_eq_true as_; obtain ⟨ad394, e394, hx394_0⟩ := Kd.at_int HR0.1 x7_1 p394 q394; obtain rfl : ad391 = ad394 := (by injection e394); replace p394 := eq_true p394; replace q394 := eq_true q394)))
                    repeat (go_quiet (first | (go_at_call 85; (with_reducible refine (spec_l1In.calls (rd l0 x7_1) a1 a2 true _ A6.1).mono ?_); rintro e w' ⟨rfl, ⟨nd, rfl⟩⟩; (try first | exact ⟨rfl, _, World.drewN_drewN _ _ _⟩ | exact ⟨rfl, _, Eq.trans (World.drewN_drewN _ _ _) (congrArg (World.drewN _) (Nat.add_assoc _ _ _))⟩); all_goals (have p393 : 0 ≤ ((ji9) : Int) := of_decide_eq_true as_; have q393 : (ji9) < (l0.length : Int) := of_decide_eq_true as_; obtain ⟨ad393, e393, hx393_0⟩ := Kd.at_int HR0.1 (ji9) p393 q393; obtain rfl : ad391 = ad393 := (by injection e393); replace p393 := eq_true p393; replace q393 := eq_true q393; have p394 : 0 ≤ (x7_1 : Int) := of_decide_eq_true as_; have q394 : x7_1 < (l0.length : Int) := of_decide_eq_true as_; obtain ⟨ad394, e394, hx394_0⟩ := Kd.at_int HR0.1 x7_1 p394 q394; obtain rfl : ad391 = ad394 := (by injection e394); replace p394 := eq_true p394; replace q394 := eq_true q394))); try go_wp2_with (first | (go_at_call 85; (with_reducible refine (spec_l1In.calls (rd l0 x7_1) a1 a2 true _ A6.1).mono ?_); rintro e w' ⟨rfl, ⟨nd, rfl⟩⟩; (try first | exact ⟨rfl, _, World.drewN_drewN _ _ _⟩ | exact ⟨rfl, _, Eq.trans (World.drewN_drewN _ _ _) (congrArg (World.drewN _) (Nat.add_assoc _ _ _))⟩); all_goals (have p393 : 0 ≤ ((ji9) : Int) := of_decide_eq_true as_; have q393 : (ji9) < (l0.length : Int) := of_decide_eq_true as_; obtain ⟨ad393, e393, hx393_0⟩ := Kd.at_int HR0.1 (ji9) p393 q393; obtain rfl : ad391 = ad393 := (by injection e393); replace p393 := eq_true p393; replace q393 := eq_true q393; have p394 : 0 ≤ (x7_1 : Int) := of_decide_eq_true as_; have q394 : x7_1 < (l0.length : Int) := of_decide_eq_true as_; obtain ⟨ad394, e394, hx394_0⟩ := Kd.at_int HR0.1 x7_1 p394 q394; obtain rfl : ad391 = ad394 := (by injection e394); replace p394 := eq_true p394; replace q394 := eq_true q394))))
                    go_roundg k1
                    case measure => have := HK1.1; omega
                    case rel => exact ⟨(wrap64 (x7_1 + 1)), rs_, H', ⟨by have := HK1.1; omega⟩, y159_⟩
                · rw [if_neg c11] at H
                  exact absurd H (by simp)
              · rw [if_neg c10] at H
                exact absurd H (by simp)
            · rw [if_neg c8] at H
              have c8b0 := decide_eq_false c8
              clear c8
              have H' := o_ H
              clear H
              have p391 : 0 ≤ (x7_1 : Int) := of_decide_eq_true as_
              have q391 : x7_1 < (l0.length : Int) := of_decide_eq_true as_
              obtain ⟨ad391, e391, hx391_0⟩ := Kd.at_int HR0.1 x7_1 p391 q391
              cases e391
              replace p391 := eq_true p391
              replace q391 := eq_true q391
              go_wp2_with (first | (go_at_call 85; (with_reducible refine (spec_l1In.calls (rd l0 x7_1) a1 a2 true _ A6.1).mono ?_); rintro e w' ⟨rfl, ⟨nd, rfl⟩⟩; (try first | exact ⟨rfl, _, World.drewN_drewN _ _ _⟩ | exact ⟨rfl, _, Eq.trans (World.drewN_drewN _ _ _) (congrArg (World.drewN _) (Nat.add_assoc _ _ _))⟩)))
              repeat (go_quiet (first | (go_at_call 85; (with_reducible refine (spec_l1In.calls (rd l0 x7_1) a1 a2 true _ A6.1).mono ?_); rintro e w' ⟨rfl, ⟨nd, rfl⟩⟩; (try first | exact ⟨rfl, _, World.drewN_drewN _ _ _⟩ | exact ⟨rfl, _, Eq.trans (World.drewN_drewN _ _ _) (congrArg (World.drewN _) (Nat.add_assoc _ _ _))⟩))); try go_wp2_with (first | (go_at_call 85; (with_reducible refine (spec_l1In.calls (rd l0 x7_1) a1 a2 true _ A6.1).mono ?_); rintro e w' ⟨rfl, ⟨nd, rfl⟩⟩; (try first | exact ⟨rfl, _, World.drewN_drewN _ _ _⟩ | exact ⟨rfl, _, Eq.trans (World.drewN_drewN _ _ _) (congrArg (World.drewN _) (Nat.add_assoc _ _ _))⟩))))
              go_roundg k1
              case measure => have := HK1.1; omega
              case rel => exact ⟨(wrap64 (x7_1 + 1)), rs_, H', ⟨by have := HK1.1; omega⟩, y159_⟩
          · replace c7 := Bool.eq_false_iff.mpr c7
            subst c7
            have H1 := H
            rw [if_neg nt_] at H1
            clear H
            have H := H1
            clear H1
            obtain rfl := Option.some.inj H
            have p391 : 0 ≤ (x7_1 : Int) := of_decide_eq_true as_
            have q391 : x7_1 < (l0.length : Int) := of_decide_eq_true as_
            obtain ⟨ad391, e391, hx391_0⟩ := Kd.at_int HR0.1 x7_1 p391 q391
            cases e391
            replace p391 := eq_true p391
            replace q391 := eq_true q391
            go_wp2_with (first | (go_at_call 85; (with_reducible refine (spec_l1In.calls (rd l0 x7_1) a1 a2 false _ A6.1).mono ?_); rintro e w' ⟨rfl, ⟨nd, rfl⟩⟩; (try first | exact ⟨rfl, _, World.drewN_drewN _ _ _⟩ | exact ⟨rfl, _, Eq.trans (World.drewN_drewN _ _ _) (congrArg (World.drewN _) (Nat.add_assoc _ _ _))⟩)))
            repeat (go_quiet (first | (go_at_call 85; (with_reducible refine (spec_l1In.calls (rd l0 x7_1) a1 a2 false _ A6.1).mono ?_); rintro e w' ⟨rfl, ⟨nd, rfl⟩⟩; (try first | exact ⟨rfl, _, World.drewN_drewN _ _ _⟩ | exact ⟨rfl, _, Eq.trans (World.drewN_drewN _ _ _) (congrArg (World.drewN _) (Nat.add_assoc _ _ _))⟩))); try go_wp2_with (first | (go_at_call 85; (with_reducible refine (spec_l1In.calls (rd l0 x7_1) a1 a2 false _ A6.1).mono ?_); rintro e w' ⟨rfl, ⟨nd, rfl⟩⟩; (try first | exact ⟨rfl, _, World.drewN_drewN _ _ _⟩ | exact ⟨rfl, _, Eq.trans (World.drewN_drewN _ _ _) (congrArg (World.drewN _) (Nat.add_assoc _ _ _))⟩))))
            go_ret
            exact ⟨rs_, y159_⟩
        · rw [if_neg c5] at H
          exact absurd H (by simp)
      · rw [if_neg c4] at H
        have c4b0 := decide_eq_false c4
        clear c4
        obtain rfl := Option.some.inj H
        go_wp2
        repeat (go_quiet (fail); try go_wp2)
        go_ret
        exact ⟨rs_, y159_⟩

/-! ### spec_IsSpan: function 92 -/
def spec_IsSpan.f (a0_0 : Int) (a0_1 : Int) : Option (Bool) := (spec_l1In.f a0_0 0 100000).bind fun t396 => (if t396 = true then ((spec_l1In.f a0_1 0 100000).bind fun t397 => (if t397 = true then (some (decide (a0_0 ≤ a0_1))) else (some false))) else (some false))
set_option maxHeartbeats 8000000 in
set_option maxRecDepth 100000 in
theorem spec_IsSpan.calls (a0_0 : Int) (a0_1 : Int) (r : Bool) (w : World) (h : spec_IsSpan.f a0_0 a0_1 = some r) :
    Calls Tryd.prog 92 #[.agg #[.int .i64 a0_0, .int .i64 a0_1]] w fun e w' => e = .returned (.bool r) ∧ Below w.heap.size w w' := by
  have hu26 := Tryd.underlying26
  have HB := o_ (Below.refl w.heap.size w)
  have H : ((spec_l1In.f a0_0 0 100000).bind fun t396 => (if t396 = true then ((spec_l1In.f a0_1 0 100000).bind fun t397 => (if t397 = true then (some (decide (a0_0 ≤ a0_1))) else (some false))) else (some false))) = some r := h
  clear h
  replace H := Option.bind_eq_some_iff.mp H
  obtain ⟨t396, A20, H⟩ := H
  try dsimp only at H
  have A2 := o_ A20
  clear A20
  by_cases c3 : t396 = true
  · subst c3
    have H1 := H
    rw [if_pos rfl] at H1
    clear H
    have H := H1
    clear H1
    replace H := Option.bind_eq_some_iff.mp H
    obtain ⟨t397, A40, H⟩ := H
    try dsimp only at H
    have A4 := o_ A40
    clear A40
    by_cases c5 : t397 = true
    · subst c5
      have H1 := H
      rw [if_pos rfl] at H1
      clear H
      have H := H1
      clear H1
      obtain rfl := Option.some.inj H
      go_enter Tryd.func92, Tryd.ntmps92
      go_wp2_with (first | ((with_reducible refine gate_dst (N := 1) rfl ?_); refine bx_ 1 #[.int .i64 a0_0, .int .i64 a0_1] 26 ?_; intro gb395 hg w6 hbox hb; have BK395 := o_ (hbox); have GW395 := o_ ((by rw [hg]; exact (below_size (hd_ HB.1)) : w.heap.size ≤ gb395)); replace HB := o_ (below_step (hd_ HB.1) hb); have GE395 := GW395; clear hb hbox hg; have hcz7_0 : w6.cell? ⟨gb395, 0, none⟩ = some (.int .i64 a0_0) := (blk_cell BK395.1 0).trans rfl; have hcz7_1 : w6.cell? ⟨gb395, 1, none⟩ = some (.int .i64 a0_1) := (blk_cell BK395.1 1).trans rfl; have hfz7_0 := blk_frozen BK395.1 0; have hfz7_1 := blk_frozen BK395.1 1) | (refine gl_ (some 5) Tryd.func85 #[.int .i64 a0_0, .int .i64 0, .int .i64 100000] ?_; (with_reducible refine (spec_l1In.calls a0_0 0 100000 true _ A2.1).mono ?_); rintro e w' ⟨rfl, ⟨nd, rfl⟩⟩; refine ⟨_, rfl, ?_⟩) | (go_at_call 85; (with_reducible refine (spec_l1In.calls a0_1 0 100000 true _ A4.1).mono ?_); rintro e w' ⟨rfl, ⟨nd, rfl⟩⟩))
      go_ret
      exact ⟨rt_, wB_⟩
    · replace c5 := Bool.eq_false_iff.mpr c5
      subst c5
      have H1 := H
      rw [if_neg nt_] at H1
      clear H
      have H := H1
      clear H1
      obtain rfl := Option.some.inj H
      go_enter Tryd.func92, Tryd.ntmps92
      go_wp2_with (first | ((with_reducible refine gate_dst (N := 1) rfl ?_); refine bx_ 1 #[.int .i64 a0_0, .int .i64 a0_1] 26 ?_; intro gb395 hg w8 hbox hb; have BK395 := o_ (hbox); have GW395 := o_ ((by rw [hg]; exact (below_size (hd_ HB.1)) : w.heap.size ≤ gb395)); replace HB := o_ (below_step (hd_ HB.1) hb); have GE395 := GW395; clear hb hbox hg; have hcz9_0 : w8.cell? ⟨gb395, 0, none⟩ = some (.int .i64 a0_0) := (blk_cell BK395.1 0).trans rfl; have hcz9_1 : w8.cell? ⟨gb395, 1, none⟩ = some (.int .i64 a0_1) := (blk_cell BK395.1 1).trans rfl; have hfz9_0 := blk_frozen BK395.1 0; have hfz9_1 := blk_frozen BK395.1 1) | (refine gl_ (some 5) Tryd.func85 #[.int .i64 a0_0, .int .i64 0, .int .i64 100000] ?_; (with_reducible refine (spec_l1In.calls a0_0 0 100000 true _ A2.1).mono ?_); rintro e w' ⟨rfl, ⟨nd, rfl⟩⟩; refine ⟨_, rfl, ?_⟩) | (go_at_call 85; (with_reducible refine (spec_l1In.calls a0_1 0 100000 false _ A4.1).mono ?_); rintro e w' ⟨rfl, ⟨nd, rfl⟩⟩))
      go_ret
      exact ⟨rt_, wB_⟩
  · replace c3 := Bool.eq_false_iff.mpr c3
    subst c3
    have H1 := H
    rw [if_neg nt_] at H1
    clear H
    have H := H1
    clear H1
    obtain rfl := Option.some.inj H
    go_enter Tryd.func92, Tryd.ntmps92
    go_wp2_with (first | ((with_reducible refine gate_dst (N := 1) rfl ?_); refine bx_ 1 #[.int .i64 a0_0, .int .i64 a0_1] 26 ?_; intro gb395 hg w10 hbox hb; have BK395 := o_ (hbox); have GW395 := o_ ((by rw [hg]; exact (below_size (hd_ HB.1)) : w.heap.size ≤ gb395)); replace HB := o_ (below_step (hd_ HB.1) hb); have GE395 := GW395; clear hb hbox hg; have hcz11_0 : w10.cell? ⟨gb395, 0, none⟩ = some (.int .i64 a0_0) := (blk_cell BK395.1 0).trans rfl; have hcz11_1 : w10.cell? ⟨gb395, 1, none⟩ = some (.int .i64 a0_1) := (blk_cell BK395.1 1).trans rfl; have hfz11_0 := blk_frozen BK395.1 0; have hfz11_1 := blk_frozen BK395.1 1) | (refine gl_ (some 5) Tryd.func85 #[.int .i64 a0_0, .int .i64 0, .int .i64 100000] ?_; (with_reducible refine (spec_l1In.calls a0_0 0 100000 false _ A2.1).mono ?_); rintro e w' ⟨rfl, ⟨nd, rfl⟩⟩; refine ⟨_, rfl, ?_⟩))
    go_ret
    exact ⟨rt_, wB_⟩

/-! ### spec_IsReport: function 69 -/
def spec_IsReport.f (k : Nat) (a0_0 : Int) (a0_1 : Int) (l0_2 : List Int) (a0_3 : Int) (a0_4 : Int) (l0_5 : List Int) (a0_6 : Int) (a0_7 : Int) : Option (Bool) := (spec_l1In.f a0_0 1 999).bind fun t399 => (if t399 = true then ((spec_l1In.f a0_1 1 8).bind fun t400 => (if t400 = true then ((spec_l7Ids.f k l0_2 0 7).bind fun t401 => (if t401 = true then (if a0_3 ≥ 1 then (if a0_3 ≤ a0_4 then (if a0_4 ≤ 50 then ((spec_l7Ids.f k l0_5 1 30).bind fun t402 => (if t402 = true then (if (l0_5.length : Int) ≤ 10 then ((spec_IsSpan.f a0_6 a0_7).bind fun t403 => (some t403)) else (some false)) else (some false))) else (some false)) else (some false)) else (some false)) else (some false))) else (some false))) else (some false))
theorem spec_IsReport.mono : ∀ a0 a1 a2 a3 a4 a5 a6 a7 k, LeO (spec_IsReport.f k a0 a1 a2 a3 a4 a5 a6 a7) (spec_IsReport.f (k + 1) a0 a1 a2 a3 a4 a5 a6 a7) := by
  intro a0 a1 a2 a3 a4 a5 a6 a7 k
  unfold spec_IsReport.f
  have jh0 := @spec_l7Ids.mono
  exact mo_
theorem e163_ {w : World} {g : Nat} {t : TypeId} {i0 : Int} {i1 : Int} {A2 : Option Addr} {n2 c2 : Nat} {i3 : Int} {i4 : Int} {A5 : Option Addr} {n5 c5 : Nat} {i6 : Int} {i7 : Int} (h : w.heap[g]? = some (.cells #[.int .i64 i0, .int .i64 i1, .slice A2 n2 c2, .int .i64 i3, .int .i64 i4, .slice A5 n5 c5, .int .i64 i6, .int .i64 i7] t (0, 0))) : w.cell? ⟨g, 0, none⟩ = some (.int .i64 i0) ∧ w.cell? ⟨g, 1, none⟩ = some (.int .i64 i1) ∧ w.cell? ⟨g, 2, none⟩ = some (.slice A2 n2 c2) ∧ w.cell? ⟨g, 3, none⟩ = some (.int .i64 i3) ∧ w.cell? ⟨g, 4, none⟩ = some (.int .i64 i4) ∧ w.cell? ⟨g, 5, none⟩ = some (.slice A5 n5 c5) ∧ w.cell? ⟨g, 6, none⟩ = some (.int .i64 i6) ∧ w.cell? ⟨g, 7, none⟩ = some (.int .i64 i7) := ⟨(blk_cell h 0).trans rfl, (blk_cell h 1).trans rfl, (blk_cell h 2).trans rfl, (blk_cell h 3).trans rfl, (blk_cell h 4).trans rfl, (blk_cell h 5).trans rfl, (blk_cell h 6).trans rfl, (blk_cell h 7).trans rfl⟩
theorem z164_ {w : World} {g : Nat} {t : TypeId} {cs : Array Value} (h : w.heap[g]? = some (.cells cs t (0, 0))) : w.frozen? ⟨g, 0, none⟩ = false ∧ w.frozen? ⟨g, 1, none⟩ = false ∧ w.frozen? ⟨g, 2, none⟩ = false ∧ w.frozen? ⟨g, 3, none⟩ = false ∧ w.frozen? ⟨g, 4, none⟩ = false ∧ w.frozen? ⟨g, 5, none⟩ = false ∧ w.frozen? ⟨g, 6, none⟩ = false ∧ w.frozen? ⟨g, 7, none⟩ = false := ⟨blk_frozen h 0, blk_frozen h 1, blk_frozen h 2, blk_frozen h 3, blk_frozen h 4, blk_frozen h 5, blk_frozen h 6, blk_frozen h 7⟩
theorem y169_ {P : Prop} (h : P := by rw [hg]; exact (below_size (hd_ HB.1))) : P := h
set_option maxHeartbeats 8000000 in
set_option maxRecDepth 100000 in
theorem spec_IsReport.calls (k : Nat) (a0_0 : Int) (a0_1 : Int) (A0_2 : Option Addr) (c0_2 : Nat) (l0_2 : List Int) (a0_3 : Int) (a0_4 : Int) (A0_5 : Option Addr) (c0_5 : Nat) (l0_5 : List Int) (a0_6 : Int) (a0_7 : Int) (r : Bool) (w : World) (hr0_2 : Kd.C (Kd.int .i64) w A0_2 l0_2.length l0_2) (hc0_2 : l0_2.length ≤ c0_2) (hr0_5 : Kd.C (Kd.int .i64) w A0_5 l0_5.length l0_5) (hc0_5 : l0_5.length ≤ c0_5) (h : spec_IsReport.f k a0_0 a0_1 l0_2 a0_3 a0_4 l0_5 a0_6 a0_7 = some r) :
    Calls Tryd.prog 69 #[.agg #[.int .i64 a0_0, .int .i64 a0_1, .slice A0_2 l0_2.length c0_2, .int .i64 a0_3, .int .i64 a0_4, .slice A0_5 l0_5.length c0_5, .int .i64 a0_6, .int .i64 a0_7]] w fun e w' => e = .returned (.bool r) ∧ Below w.heap.size w w' := by
  have hu28 := Tryd.underlying28
  have hu26 := Tryd.underlying26
  have HR0_2 := o_ hr0_2
  have HC0_2 := o_ hc0_2
  clear hr0_2 hc0_2
  have HR0_5 := o_ hr0_5
  have HC0_5 := o_ hc0_5
  clear hr0_5 hc0_5
  have HB := o_ (Below.refl w.heap.size w)
  have H : ((spec_l1In.f a0_0 1 999).bind fun t399 => (if t399 = true then ((spec_l1In.f a0_1 1 8).bind fun t400 => (if t400 = true then ((spec_l7Ids.f k l0_2 0 7).bind fun t401 => (if t401 = true then (if a0_3 ≥ 1 then (if a0_3 ≤ a0_4 then (if a0_4 ≤ 50 then ((spec_l7Ids.f k l0_5 1 30).bind fun t402 => (if t402 = true then (if (l0_5.length : Int) ≤ 10 then ((spec_IsSpan.f a0_6 a0_7).bind fun t403 => (some t403)) else (some false)) else (some false))) else (some false)) else (some false)) else (some false)) else (some false))) else (some false))) else (some false))) = some r := h
  clear h
  replace H := Option.bind_eq_some_iff.mp H
  obtain ⟨t399, A20, H⟩ := H
  try dsimp only at H
  have A2 := o_ A20
  clear A20
  by_cases c3 : t399 = true
  · subst c3
    have H1 := H
    rw [if_pos rfl] at H1
    clear H
    have H := H1
    clear H1
    replace H := Option.bind_eq_some_iff.mp H
    obtain ⟨t400, A40, H⟩ := H
    try dsimp only at H
    have A4 := o_ A40
    clear A40
    by_cases c5 : t400 = true
    · subst c5
      have H1 := H
      rw [if_pos rfl] at H1
      clear H
      have H := H1
      clear H1
      replace H := Option.bind_eq_some_iff.mp H
      obtain ⟨t401, A60, H⟩ := H
      try dsimp only at H
      have A6 := o_ A60
      clear A60
      by_cases c7 : t401 = true
      · subst c7
        have H1 := H
        rw [if_pos rfl] at H1
        clear H
        have H := H1
        clear H1
        by_cases c8 : a0_3 ≥ 1
        · rw [if_pos c8] at H
          have c8b0 := decide_eq_true c8
          clear c8
          by_cases c9 : a0_3 ≤ a0_4
          · rw [if_pos c9] at H
            have c9b0 := decide_eq_true c9
            clear c9
            by_cases c10 : a0_4 ≤ 50
            · rw [if_pos c10] at H
              have c10b0 := decide_eq_true c10
              clear c10
              replace H := Option.bind_eq_some_iff.mp H
              obtain ⟨t402, A110, H⟩ := H
              try dsimp only at H
              have A11 := o_ A110
              clear A110
              by_cases c12 : t402 = true
              · subst c12
                have H1 := H
                rw [if_pos rfl] at H1
                clear H
                have H := H1
                clear H1
                by_cases c13 : (l0_5.length : Int) ≤ 10
                · rw [if_pos c13] at H
                  have c13b0 := decide_eq_true c13
                  have c13b1 : decide (l0_5.length ≤ 10) = true := decide_eq_true (by omega)
                  clear c13
                  replace H := Option.bind_eq_some_iff.mp H
                  obtain ⟨t403, A140, H⟩ := H
                  try dsimp only at H
                  have A14 := o_ A140
                  clear A140
                  obtain rfl := Option.some.inj H
                  go_enter Tryd.func69, Tryd.ntmps69
                  go_wp2_with (first | ((with_reducible refine gate_dst (N := 1) rfl ?_); (try (refine gate_guard (by rfl) ?_; dsimp only)); refine box_event ?hg (N := 1) ?hd (cs := #[.int .i64 a0_0, .int .i64 a0_1, .slice A0_2 l0_2.length c0_2, .int .i64 a0_3, .int .i64 a0_4, .slice A0_5 l0_5.length c0_5, .int .i64 a0_6, .int .i64 a0_7]) (t := 28) ?hr ?_; (case hd => rfl); (case hg => rfl); (case hr => first | (go_simp; done) | (go_simp; rfl)); intro gb398 hg w15 hbox hb; have BK398 := o_ (hbox); have GW398 := o_ ((y169_ : w.heap.size ≤ gb398)); replace HB := o_ (below_step (hd_ HB.1) hb); have GE398 := GW398; clear hb hbox hg; obtain ⟨hcz16_0, hcz16_1, hcz16_2, hcz16_3, hcz16_4, hcz16_5, hcz16_6, hcz16_7⟩ := e163_ BK398.1; obtain ⟨hfz16_0, hfz16_1, hfz16_2, hfz16_3, hfz16_4, hfz16_5, hfz16_6, hfz16_7⟩ := z164_ BK398.1) | (refine gl_ (some 5) Tryd.func85 #[.int .i64 a0_0, .int .i64 1, .int .i64 999] ?_; (with_reducible refine (spec_l1In.calls a0_0 1 999 true _ A2.1).mono ?_); rintro e w' ⟨rfl, ⟨nd, rfl⟩⟩; refine ⟨_, rfl, ?_⟩) | (go_at_call 85; (with_reducible refine (spec_l1In.calls a0_1 1 8 true _ A4.1).mono ?_); rintro e w' ⟨rfl, ⟨nd, rfl⟩⟩) | (go_at_call 91; (with_reducible refine (spec_l7Ids.calls k _ _ l0_2 0 7 true _ ?side1 ?side2 A6.1).mono ?_); (case side1 => repeat (first | exact (Kd.C_below HR0_2.1 wB_) | (with_reducible refine Kd.C_alloc ?_ _) | (with_reducible refine Kd.C_drewN ?_ _) | (with_reducible refine Kd.C_drew ?_))); (case side2 => exact HC0_2.1); rintro e w' ⟨rfl, ⟨nd, rfl⟩⟩) | (go_at_call 91; (with_reducible refine (spec_l7Ids.calls k _ _ l0_5 1 30 true _ ?side1 ?side2 A11.1).mono ?_); (case side1 => repeat (first | exact (Kd.C_below HR0_5.1 wB_) | (with_reducible refine Kd.C_alloc ?_ _) | (with_reducible refine Kd.C_drewN ?_ _) | (with_reducible refine Kd.C_drew ?_))); (case side2 => exact HC0_5.1); rintro e w' ⟨rfl, ⟨nd, rfl⟩⟩) | (go_at_call 92; (with_reducible refine (spec_IsSpan.calls a0_6 a0_7 t403 _ A14.1).mono ?_); rintro e w17 ⟨rfl, hb⟩; replace BK398 := o_ (blk_below (bd_ BK398.1) hb); replace HB := o_ (below_step wB_ hb); (try clear hb)))
                  go_ret
                  exact ⟨rt_, wB_⟩
                · rw [if_neg c13] at H
                  have c13b0 := decide_eq_false c13
                  have c13b1 : decide (l0_5.length ≤ 10) = false := decide_eq_false (by omega)
                  clear c13
                  obtain rfl := Option.some.inj H
                  go_enter Tryd.func69, Tryd.ntmps69
                  go_wp2_with (first | ((with_reducible refine gate_dst (N := 1) rfl ?_); (try (refine gate_guard (by rfl) ?_; dsimp only)); refine box_event ?hg (N := 1) ?hd (cs := #[.int .i64 a0_0, .int .i64 a0_1, .slice A0_2 l0_2.length c0_2, .int .i64 a0_3, .int .i64 a0_4, .slice A0_5 l0_5.length c0_5, .int .i64 a0_6, .int .i64 a0_7]) (t := 28) ?hr ?_; (case hd => rfl); (case hg => rfl); (case hr => first | (go_simp; done) | (go_simp; rfl)); intro gb398 hg w18 hbox hb; have BK398 := o_ (hbox); have GW398 := o_ ((y169_ : w.heap.size ≤ gb398)); replace HB := o_ (below_step (hd_ HB.1) hb); have GE398 := GW398; clear hb hbox hg; obtain ⟨hcz19_0, hcz19_1, hcz19_2, hcz19_3, hcz19_4, hcz19_5, hcz19_6, hcz19_7⟩ := e163_ BK398.1; obtain ⟨hfz19_0, hfz19_1, hfz19_2, hfz19_3, hfz19_4, hfz19_5, hfz19_6, hfz19_7⟩ := z164_ BK398.1) | (refine gl_ (some 5) Tryd.func85 #[.int .i64 a0_0, .int .i64 1, .int .i64 999] ?_; (with_reducible refine (spec_l1In.calls a0_0 1 999 true _ A2.1).mono ?_); rintro e w' ⟨rfl, ⟨nd, rfl⟩⟩; refine ⟨_, rfl, ?_⟩) | (go_at_call 85; (with_reducible refine (spec_l1In.calls a0_1 1 8 true _ A4.1).mono ?_); rintro e w' ⟨rfl, ⟨nd, rfl⟩⟩) | (go_at_call 91; (with_reducible refine (spec_l7Ids.calls k _ _ l0_2 0 7 true _ ?side1 ?side2 A6.1).mono ?_); (case side1 => repeat (first | exact (Kd.C_below HR0_2.1 wB_) | (with_reducible refine Kd.C_alloc ?_ _) | (with_reducible refine Kd.C_drewN ?_ _) | (with_reducible refine Kd.C_drew ?_))); (case side2 => exact HC0_2.1); rintro e w' ⟨rfl, ⟨nd, rfl⟩⟩) | (go_at_call 91; (with_reducible refine (spec_l7Ids.calls k _ _ l0_5 1 30 true _ ?side1 ?side2 A11.1).mono ?_); (case side1 => repeat (first | exact (Kd.C_below HR0_5.1 wB_) | (with_reducible refine Kd.C_alloc ?_ _) | (with_reducible refine Kd.C_drewN ?_ _) | (with_reducible refine Kd.C_drew ?_))); (case side2 => exact HC0_5.1); rintro e w' ⟨rfl, ⟨nd, rfl⟩⟩))
                  go_ret
                  exact ⟨rt_, wB_⟩
              · replace c12 := Bool.eq_false_iff.mpr c12
                subst c12
                have H1 := H
                rw [if_neg nt_] at H1
                clear H
                have H := H1
                clear H1
                obtain rfl := Option.some.inj H
                go_enter Tryd.func69, Tryd.ntmps69
                go_wp2_with (first | ((with_reducible refine gate_dst (N := 1) rfl ?_); (try (refine gate_guard (by rfl) ?_; dsimp only)); refine box_event ?hg (N := 1) ?hd (cs := #[.int .i64 a0_0, .int .i64 a0_1, .slice A0_2 l0_2.length c0_2, .int .i64 a0_3, .int .i64 a0_4, .slice A0_5 l0_5.length c0_5, .int .i64 a0_6, .int .i64 a0_7]) (t := 28) ?hr ?_; (case hd => rfl); (case hg => rfl); (case hr => first | (go_simp; done) | (go_simp; rfl)); intro gb398 hg w20 hbox hb; have BK398 := o_ (hbox); have GW398 := o_ ((y169_ : w.heap.size ≤ gb398)); replace HB := o_ (below_step (hd_ HB.1) hb); have GE398 := GW398; clear hb hbox hg; obtain ⟨hcz21_0, hcz21_1, hcz21_2, hcz21_3, hcz21_4, hcz21_5, hcz21_6, hcz21_7⟩ := e163_ BK398.1; obtain ⟨hfz21_0, hfz21_1, hfz21_2, hfz21_3, hfz21_4, hfz21_5, hfz21_6, hfz21_7⟩ := z164_ BK398.1) | (refine gl_ (some 5) Tryd.func85 #[.int .i64 a0_0, .int .i64 1, .int .i64 999] ?_; (with_reducible refine (spec_l1In.calls a0_0 1 999 true _ A2.1).mono ?_); rintro e w' ⟨rfl, ⟨nd, rfl⟩⟩; refine ⟨_, rfl, ?_⟩) | (go_at_call 85; (with_reducible refine (spec_l1In.calls a0_1 1 8 true _ A4.1).mono ?_); rintro e w' ⟨rfl, ⟨nd, rfl⟩⟩) | (go_at_call 91; (with_reducible refine (spec_l7Ids.calls k _ _ l0_2 0 7 true _ ?side1 ?side2 A6.1).mono ?_); (case side1 => repeat (first | exact (Kd.C_below HR0_2.1 wB_) | (with_reducible refine Kd.C_alloc ?_ _) | (with_reducible refine Kd.C_drewN ?_ _) | (with_reducible refine Kd.C_drew ?_))); (case side2 => exact HC0_2.1); rintro e w' ⟨rfl, ⟨nd, rfl⟩⟩) | (go_at_call 91; (with_reducible refine (spec_l7Ids.calls k _ _ l0_5 1 30 false _ ?side1 ?side2 A11.1).mono ?_); (case side1 => repeat (first | exact (Kd.C_below HR0_5.1 wB_) | (with_reducible refine Kd.C_alloc ?_ _) | (with_reducible refine Kd.C_drewN ?_ _) | (with_reducible refine Kd.C_drew ?_))); (case side2 => exact HC0_5.1); rintro e w' ⟨rfl, ⟨nd, rfl⟩⟩))
                go_ret
                exact ⟨rt_, wB_⟩
            · rw [if_neg c10] at H
              have c10b0 := decide_eq_false c10
              clear c10
              obtain rfl := Option.some.inj H
              go_enter Tryd.func69, Tryd.ntmps69
              go_wp2_with (first | ((with_reducible refine gate_dst (N := 1) rfl ?_); (try (refine gate_guard (by rfl) ?_; dsimp only)); refine box_event ?hg (N := 1) ?hd (cs := #[.int .i64 a0_0, .int .i64 a0_1, .slice A0_2 l0_2.length c0_2, .int .i64 a0_3, .int .i64 a0_4, .slice A0_5 l0_5.length c0_5, .int .i64 a0_6, .int .i64 a0_7]) (t := 28) ?hr ?_; (case hd => rfl); (case hg => rfl); (case hr => first | (go_simp; done) | (go_simp; rfl)); intro gb398 hg w22 hbox hb; have BK398 := o_ (hbox); have GW398 := o_ ((y169_ : w.heap.size ≤ gb398)); replace HB := o_ (below_step (hd_ HB.1) hb); have GE398 := GW398; clear hb hbox hg; obtain ⟨hcz23_0, hcz23_1, hcz23_2, hcz23_3, hcz23_4, hcz23_5, hcz23_6, hcz23_7⟩ := e163_ BK398.1; obtain ⟨hfz23_0, hfz23_1, hfz23_2, hfz23_3, hfz23_4, hfz23_5, hfz23_6, hfz23_7⟩ := z164_ BK398.1) | (refine gl_ (some 5) Tryd.func85 #[.int .i64 a0_0, .int .i64 1, .int .i64 999] ?_; (with_reducible refine (spec_l1In.calls a0_0 1 999 true _ A2.1).mono ?_); rintro e w' ⟨rfl, ⟨nd, rfl⟩⟩; refine ⟨_, rfl, ?_⟩) | (go_at_call 85; (with_reducible refine (spec_l1In.calls a0_1 1 8 true _ A4.1).mono ?_); rintro e w' ⟨rfl, ⟨nd, rfl⟩⟩) | (go_at_call 91; (with_reducible refine (spec_l7Ids.calls k _ _ l0_2 0 7 true _ ?side1 ?side2 A6.1).mono ?_); (case side1 => repeat (first | exact (Kd.C_below HR0_2.1 wB_) | (with_reducible refine Kd.C_alloc ?_ _) | (with_reducible refine Kd.C_drewN ?_ _) | (with_reducible refine Kd.C_drew ?_))); (case side2 => exact HC0_2.1); rintro e w' ⟨rfl, ⟨nd, rfl⟩⟩))
              go_ret
              exact ⟨rt_, wB_⟩
          · rw [if_neg c9] at H
            have c9b0 := decide_eq_false c9
            clear c9
            obtain rfl := Option.some.inj H
            go_enter Tryd.func69, Tryd.ntmps69
            go_wp2_with (first | ((with_reducible refine gate_dst (N := 1) rfl ?_); (try (refine gate_guard (by rfl) ?_; dsimp only)); refine box_event ?hg (N := 1) ?hd (cs := #[.int .i64 a0_0, .int .i64 a0_1, .slice A0_2 l0_2.length c0_2, .int .i64 a0_3, .int .i64 a0_4, .slice A0_5 l0_5.length c0_5, .int .i64 a0_6, .int .i64 a0_7]) (t := 28) ?hr ?_; (case hd => rfl); (case hg => rfl); (case hr => first | (go_simp; done) | (go_simp; rfl)); intro gb398 hg w24 hbox hb; have BK398 := o_ (hbox); have GW398 := o_ ((y169_ : w.heap.size ≤ gb398)); replace HB := o_ (below_step (hd_ HB.1) hb); have GE398 := GW398; clear hb hbox hg; obtain ⟨hcz25_0, hcz25_1, hcz25_2, hcz25_3, hcz25_4, hcz25_5, hcz25_6, hcz25_7⟩ := e163_ BK398.1; obtain ⟨hfz25_0, hfz25_1, hfz25_2, hfz25_3, hfz25_4, hfz25_5, hfz25_6, hfz25_7⟩ := z164_ BK398.1) | (refine gl_ (some 5) Tryd.func85 #[.int .i64 a0_0, .int .i64 1, .int .i64 999] ?_; (with_reducible refine (spec_l1In.calls a0_0 1 999 true _ A2.1).mono ?_); rintro e w' ⟨rfl, ⟨nd, rfl⟩⟩; refine ⟨_, rfl, ?_⟩) | (go_at_call 85; (with_reducible refine (spec_l1In.calls a0_1 1 8 true _ A4.1).mono ?_); rintro e w' ⟨rfl, ⟨nd, rfl⟩⟩) | (go_at_call 91; (with_reducible refine (spec_l7Ids.calls k _ _ l0_2 0 7 true _ ?side1 ?side2 A6.1).mono ?_); (case side1 => repeat (first | exact (Kd.C_below HR0_2.1 wB_) | (with_reducible refine Kd.C_alloc ?_ _) | (with_reducible refine Kd.C_drewN ?_ _) | (with_reducible refine Kd.C_drew ?_))); (case side2 => exact HC0_2.1); rintro e w' ⟨rfl, ⟨nd, rfl⟩⟩))
            go_ret
            exact ⟨rt_, wB_⟩
        · rw [if_neg c8] at H
          have c8b0 := decide_eq_false c8
          clear c8
          obtain rfl := Option.some.inj H
          go_enter Tryd.func69, Tryd.ntmps69
          go_wp2_with (first | ((with_reducible refine gate_dst (N := 1) rfl ?_); (try (refine gate_guard (by rfl) ?_; dsimp only)); refine box_event ?hg (N := 1) ?hd (cs := #[.int .i64 a0_0, .int .i64 a0_1, .slice A0_2 l0_2.length c0_2, .int .i64 a0_3, .int .i64 a0_4, .slice A0_5 l0_5.length c0_5, .int .i64 a0_6, .int .i64 a0_7]) (t := 28) ?hr ?_; (case hd => rfl); (case hg => rfl); (case hr => first | (go_simp; done) | (go_simp; rfl)); intro gb398 hg w26 hbox hb; have BK398 := o_ (hbox); have GW398 := o_ ((y169_ : w.heap.size ≤ gb398)); replace HB := o_ (below_step (hd_ HB.1) hb); have GE398 := GW398; clear hb hbox hg; obtain ⟨hcz27_0, hcz27_1, hcz27_2, hcz27_3, hcz27_4, hcz27_5, hcz27_6, hcz27_7⟩ := e163_ BK398.1; obtain ⟨hfz27_0, hfz27_1, hfz27_2, hfz27_3, hfz27_4, hfz27_5, hfz27_6, hfz27_7⟩ := z164_ BK398.1) | (refine gl_ (some 5) Tryd.func85 #[.int .i64 a0_0, .int .i64 1, .int .i64 999] ?_; (with_reducible refine (spec_l1In.calls a0_0 1 999 true _ A2.1).mono ?_); rintro e w' ⟨rfl, ⟨nd, rfl⟩⟩; refine ⟨_, rfl, ?_⟩) | (go_at_call 85; (with_reducible refine (spec_l1In.calls a0_1 1 8 true _ A4.1).mono ?_); rintro e w' ⟨rfl, ⟨nd, rfl⟩⟩) | (go_at_call 91; (with_reducible refine (spec_l7Ids.calls k _ _ l0_2 0 7 true _ ?side1 ?side2 A6.1).mono ?_); (case side1 => repeat (first | exact (Kd.C_below HR0_2.1 wB_) | (with_reducible refine Kd.C_alloc ?_ _) | (with_reducible refine Kd.C_drewN ?_ _) | (with_reducible refine Kd.C_drew ?_))); (case side2 => exact HC0_2.1); rintro e w' ⟨rfl, ⟨nd, rfl⟩⟩))
          go_ret
          exact ⟨rt_, wB_⟩
      · replace c7 := Bool.eq_false_iff.mpr c7
        subst c7
        have H1 := H
        rw [if_neg nt_] at H1
        clear H
        have H := H1
        clear H1
        obtain rfl := Option.some.inj H
        go_enter Tryd.func69, Tryd.ntmps69
        go_wp2_with (first | ((with_reducible refine gate_dst (N := 1) rfl ?_); (try (refine gate_guard (by rfl) ?_; dsimp only)); refine box_event ?hg (N := 1) ?hd (cs := #[.int .i64 a0_0, .int .i64 a0_1, .slice A0_2 l0_2.length c0_2, .int .i64 a0_3, .int .i64 a0_4, .slice A0_5 l0_5.length c0_5, .int .i64 a0_6, .int .i64 a0_7]) (t := 28) ?hr ?_; (case hd => rfl); (case hg => rfl); (case hr => first | (go_simp; done) | (go_simp; rfl)); intro gb398 hg w28 hbox hb; have BK398 := o_ (hbox); have GW398 := o_ ((y169_ : w.heap.size ≤ gb398)); replace HB := o_ (below_step (hd_ HB.1) hb); have GE398 := GW398; clear hb hbox hg; obtain ⟨hcz29_0, hcz29_1, hcz29_2, hcz29_3, hcz29_4, hcz29_5, hcz29_6, hcz29_7⟩ := e163_ BK398.1; obtain ⟨hfz29_0, hfz29_1, hfz29_2, hfz29_3, hfz29_4, hfz29_5, hfz29_6, hfz29_7⟩ := z164_ BK398.1) | (refine gl_ (some 5) Tryd.func85 #[.int .i64 a0_0, .int .i64 1, .int .i64 999] ?_; (with_reducible refine (spec_l1In.calls a0_0 1 999 true _ A2.1).mono ?_); rintro e w' ⟨rfl, ⟨nd, rfl⟩⟩; refine ⟨_, rfl, ?_⟩) | (go_at_call 85; (with_reducible refine (spec_l1In.calls a0_1 1 8 true _ A4.1).mono ?_); rintro e w' ⟨rfl, ⟨nd, rfl⟩⟩) | (go_at_call 91; (with_reducible refine (spec_l7Ids.calls k _ _ l0_2 0 7 false _ ?side1 ?side2 A6.1).mono ?_); (case side1 => repeat (first | exact (Kd.C_below HR0_2.1 wB_) | (with_reducible refine Kd.C_alloc ?_ _) | (with_reducible refine Kd.C_drewN ?_ _) | (with_reducible refine Kd.C_drew ?_))); (case side2 => exact HC0_2.1); rintro e w' ⟨rfl, ⟨nd, rfl⟩⟩))
        go_ret
        exact ⟨rt_, wB_⟩
    · replace c5 := Bool.eq_false_iff.mpr c5
      subst c5
      have H1 := H
      rw [if_neg nt_] at H1
      clear H
      have H := H1
      clear H1
      obtain rfl := Option.some.inj H
      go_enter Tryd.func69, Tryd.ntmps69
      go_wp2_with (first | ((with_reducible refine gate_dst (N := 1) rfl ?_); (try (refine gate_guard (by rfl) ?_; dsimp only)); refine box_event ?hg (N := 1) ?hd (cs := #[.int .i64 a0_0, .int .i64 a0_1, .slice A0_2 l0_2.length c0_2, .int .i64 a0_3, .int .i64 a0_4, .slice A0_5 l0_5.length c0_5, .int .i64 a0_6, .int .i64 a0_7]) (t := 28) ?hr ?_; (case hd => rfl); (case hg => rfl); (case hr => first | (go_simp; done) | (go_simp; rfl)); intro gb398 hg w30 hbox hb; have BK398 := o_ (hbox); have GW398 := o_ ((y169_ : w.heap.size ≤ gb398)); replace HB := o_ (below_step (hd_ HB.1) hb); have GE398 := GW398; clear hb hbox hg; obtain ⟨hcz31_0, hcz31_1, hcz31_2, hcz31_3, hcz31_4, hcz31_5, hcz31_6, hcz31_7⟩ := e163_ BK398.1; obtain ⟨hfz31_0, hfz31_1, hfz31_2, hfz31_3, hfz31_4, hfz31_5, hfz31_6, hfz31_7⟩ := z164_ BK398.1) | (refine gl_ (some 5) Tryd.func85 #[.int .i64 a0_0, .int .i64 1, .int .i64 999] ?_; (with_reducible refine (spec_l1In.calls a0_0 1 999 true _ A2.1).mono ?_); rintro e w' ⟨rfl, ⟨nd, rfl⟩⟩; refine ⟨_, rfl, ?_⟩) | (go_at_call 85; (with_reducible refine (spec_l1In.calls a0_1 1 8 false _ A4.1).mono ?_); rintro e w' ⟨rfl, ⟨nd, rfl⟩⟩))
      go_ret
      exact ⟨rt_, wB_⟩
  · replace c3 := Bool.eq_false_iff.mpr c3
    subst c3
    have H1 := H
    rw [if_neg nt_] at H1
    clear H
    have H := H1
    clear H1
    obtain rfl := Option.some.inj H
    go_enter Tryd.func69, Tryd.ntmps69
    go_wp2_with (first | ((with_reducible refine gate_dst (N := 1) rfl ?_); (try (refine gate_guard (by rfl) ?_; dsimp only)); refine box_event ?hg (N := 1) ?hd (cs := #[.int .i64 a0_0, .int .i64 a0_1, .slice A0_2 l0_2.length c0_2, .int .i64 a0_3, .int .i64 a0_4, .slice A0_5 l0_5.length c0_5, .int .i64 a0_6, .int .i64 a0_7]) (t := 28) ?hr ?_; (case hd => rfl); (case hg => rfl); (case hr => first | (go_simp; done) | (go_simp; rfl)); intro gb398 hg w32 hbox hb; have BK398 := o_ (hbox); have GW398 := o_ ((y169_ : w.heap.size ≤ gb398)); replace HB := o_ (below_step (hd_ HB.1) hb); have GE398 := GW398; clear hb hbox hg; obtain ⟨hcz33_0, hcz33_1, hcz33_2, hcz33_3, hcz33_4, hcz33_5, hcz33_6, hcz33_7⟩ := e163_ BK398.1; obtain ⟨hfz33_0, hfz33_1, hfz33_2, hfz33_3, hfz33_4, hfz33_5, hfz33_6, hfz33_7⟩ := z164_ BK398.1) | (refine gl_ (some 5) Tryd.func85 #[.int .i64 a0_0, .int .i64 1, .int .i64 999] ?_; (with_reducible refine (spec_l1In.calls a0_0 1 999 false _ A2.1).mono ?_); rintro e w' ⟨rfl, ⟨nd, rfl⟩⟩; refine ⟨_, rfl, ?_⟩))
    go_ret
    exact ⟨rt_, wB_⟩

end Go.Proofs.YtihnanfekchlhaaDoor.PFnForms
