-- Written for this claim by a program (a printer turned to this claim); Lean checks it.
import Derived.Test.YtihnanfekchlhaaDoorPFnFormsx0
import Derived.Test.YtihnanfekchlhaaDoorPFnFormsx2
import Derived.Test.YtihnanfekchlhaaDoorPFnFormsx7
import Derived.Test.YtihnanfekchlhaaDoorPFnFormsx8
namespace Go.Proofs.YtihnanfekchlhaaDoor.PFnForms
open Go.RowKit Go.Proofs.YtihnanfekchlhaaDoorW.PrintWords Go.Proofs.YtihnanfekchlhaaDoorW.PrintLast Go.Proofs.YtihnanfekchlhaaDoorW.PrintMore
attribute [local go_sem] max2_int min2_int max_two min_two max_three min_three max_four min_four   -- for this text's walks alone
set_option linter.unusedVariables false
set_option linter.unusedSimpArgs false

/-! ### laws_sameInts: function 19 -/
def laws_sameInts.l0 : Nat → List Int → List Int → Int → Option (Bool)
  | 0, _, _, _ => none
  | k + 1, x0, x1, x5 => if x5 < (x0.length : Int) then (if 0 ≤ x5 then (if x5 < (x1.length : Int) then (if (rd x0 x5) = (rd x1 x5) then (laws_sameInts.l0 k x0 x1 (wrap64 (x5 + 1))) else (some false)) else (none)) else (none)) else (some true)
def laws_sameInts.f (k : Nat) (l0 : List Int) (l1 : List Int) : Option (Bool) := if (l0.length : Int) = (l1.length : Int) then (laws_sameInts.l0 k l0 l1 0) else (some false)
theorem laws_sameInts.mono_l : ∀ k, (∀ y0 y1 y2, LeO (laws_sameInts.l0 k y0 y1 y2) (laws_sameInts.l0 (k + 1) y0 y1 y2))
  | 0 => fun _ _ _ r h => by simp [laws_sameInts.l0] at h
  | k + 1 => by
    have ih0 := laws_sameInts.mono_l k
    · intro y0 y1 y2
      unfold laws_sameInts.l0
      exact mo_
theorem laws_sameInts.mono : ∀ a0 a1 k, LeO (laws_sameInts.f k a0 a1) (laws_sameInts.f (k + 1) a0 a1) := by
  intro a0 a1 k
  have ih0 := laws_sameInts.mono_l k
  unfold laws_sameInts.f
  exact mo_
theorem y182_ {P : Prop} (h : P := by repeat (first | exact Drawn0.refl _ | apply Drawn0.step)) : P := h
set_option maxHeartbeats 8000000 in
set_option maxRecDepth 100000 in
theorem laws_sameInts.calls (k : Nat) (A0 : Option Addr) (c0 : Nat) (l0 : List Int) (A1 : Option Addr) (c1 : Nat) (l1 : List Int) (r : Bool) (w : World) (hr0 : Kd.C (Kd.int .i64) w A0 l0.length l0) (hc0 : l0.length ≤ c0) (hr1 : Kd.C (Kd.int .i64) w A1 l1.length l1) (hc1 : l1.length ≤ c1) (h : laws_sameInts.f k l0 l1 = some r) :
    Calls Tryd.prog 19 #[.slice A0 l0.length c0, .slice A1 l1.length c1] w fun e w' => e = .returned (.bool r) ∧ Drawn0 w w' := by
  have HR0 := o_ hr0
  have HC0 := o_ hc0
  clear hr0 hc0
  have HR1 := o_ hr1
  have HC1 := o_ hc1
  clear hr1 hc1
  have H : (if (l0.length : Int) = (l1.length : Int) then (laws_sameInts.l0 k l0 l1 0) else (some false)) = some r := h
  clear h
  by_cases c3 : (l0.length : Int) = (l1.length : Int)
  · rw [if_pos c3] at H
    have c3b0 := beq_iff_eq.mpr c3
    have c3b1 := bne_eq_false_iff_eq.mpr c3
    have c3b2 : (l0.length == l1.length) = true := by first | simpa using c3 | (simp at c3 ⊢; omega)
    clear c3
    have H' := o_ H
    clear H
    go_enter Tryd.func19, Tryd.ntmps19
    go_wp2
    repeat (go_quiet (fail); try go_wp2)
    go_loopg [5] k (fun kq v5 w' => ∃ (x5_1 : Int), v5 = .int .i64 x5_1 ∧ Aside0 (laws_sameInts.l0 kq l0 l1 x5_1 = some r) ∧ Aside0 (kq ≤ k) ∧ Drawn0 w w')
    case atStart => exact ⟨(0), rs_, H', ⟨Nat.le_refl _⟩, y182_⟩
    case round =>
      clear H'
      try clear c1
      try clear p2
      try clear c3
      try clear c3b0
      try clear c3b1
      try clear c3b2
      obtain ⟨x5_1, rfl, HA, HK1, ⟨m1, rfl⟩⟩ := hrel
      cases gk with
      | zero => exact absurd HA.1 (by simp [laws_sameInts.l0])
      | succ k1 =>
        have H := HA.1
        clear HA
        simp only [laws_sameInts.l0] at H
        by_cases c4 : x5_1 < (l0.length : Int)
        · rw [if_pos c4] at H
          have c4b0 := decide_eq_true c4
          clear c4
          by_cases c5 : 0 ≤ x5_1
          · rw [if_pos c5] at H
            have c5b0 := decide_eq_true c5
            clear c5
            by_cases c6 : x5_1 < (l1.length : Int)
            · rw [if_pos c6] at H
              have c6b0 := decide_eq_true c6
              clear c6
              by_cases c7 : (rd l0 x5_1) = (rd l1 x5_1)
              · rw [if_pos c7] at H
                have c7b0 := beq_iff_eq.mpr c7
                have c7b1 := bne_eq_false_iff_eq.mpr c7
                clear c7
                have H' := o_ H
                clear H
                have p452 : 0 ≤ (x5_1 : Int) := of_decide_eq_true as_
                have q452 : x5_1 < (l0.length : Int) := of_decide_eq_true as_
                obtain ⟨ad452, e452, hx452_0⟩ := Kd.at_int HR0.1 x5_1 p452 q452
                cases e452
                replace p452 := eq_true p452
                replace q452 := eq_true q452
                have p453 : 0 ≤ (x5_1 : Int) := of_decide_eq_true as_
                have q453 : x5_1 < (l1.length : Int) := of_decide_eq_true as_
                obtain ⟨ad453, e453, hx453_0⟩ := Kd.at_int HR1.1 x5_1 p453 q453
                cases e453
                replace p453 := eq_true p453
                replace q453 := eq_true q453
                go_wp2
                repeat (go_quiet (fail); try go_wp2)
                go_roundg k1
                case measure => have := HK1.1; omega
                case rel => exact ⟨(wrap64 (x5_1 + 1)), rs_, H', ⟨by have := HK1.1; omega⟩, y182_⟩
              · rw [if_neg c7] at H
                have c7b0 := beq_eq_false_iff_ne.mpr c7
                have c7b1 := bne_iff_ne.mpr c7
                obtain rfl := Option.some.inj H
                have p452 : 0 ≤ (x5_1 : Int) := of_decide_eq_true as_
                have q452 : x5_1 < (l0.length : Int) := of_decide_eq_true as_
                obtain ⟨ad452, e452, hx452_0⟩ := Kd.at_int HR0.1 x5_1 p452 q452
                cases e452
                replace p452 := eq_true p452
                replace q452 := eq_true q452
                have p453 : 0 ≤ (x5_1 : Int) := of_decide_eq_true as_
                have q453 : x5_1 < (l1.length : Int) := of_decide_eq_true as_
                obtain ⟨ad453, e453, hx453_0⟩ := Kd.at_int HR1.1 x5_1 p453 q453
                cases e453
                replace p453 := eq_true p453
                replace q453 := eq_true q453
                go_wp2
                repeat (go_quiet (fail); try go_wp2)
                go_ret
                exact ⟨rs_, y182_⟩
            · rw [if_neg c6] at H
              exact absurd H (by simp)
          · rw [if_neg c5] at H
            exact absurd H (by simp)
        · rw [if_neg c4] at H
          have c4b0 := decide_eq_false c4
          clear c4
          obtain rfl := Option.some.inj H
          go_wp2
          repeat (go_quiet (fail); try go_wp2)
          go_ret
          exact ⟨rs_, y182_⟩
  · rw [if_neg c3] at H
    have c3b0 := beq_eq_false_iff_ne.mpr c3
    have c3b1 := bne_iff_ne.mpr c3
    have c3b2 : (l0.length == l1.length) = false := by first | simpa using c3 | (simp at c3 ⊢; omega)
    obtain rfl := Option.some.inj H
    go_enter Tryd.func19, Tryd.ntmps19
    go_wp2
    repeat (go_quiet (fail); try go_wp2)
    go_ret
    exact ⟨rs_, y182_⟩

/-! ### spec_DrawParseList: function 20 -/
def spec_DrawParseList.f (k : Nat) (l0 : List Int) : Option (ByteArray) := (spec_l1New.f k l0).bind fun bt454 => ((spec_l7Some.f k bt454.1 bt454.2.1 bt454.2.2 0 9 3).bind fun bt458 => ((spec_ListText.f k bt458.1).bind fun t463 => (if t463.size + 1 ≤ 9223372036854775807 then ((spec_l1Str.f bt454.1 bt458.2.1 bt458.2.2 (([t463, t463, t463 ++ (⟨#[44]⟩ : ByteArray), (⟨#[45, 49, 44, 53]⟩ : ByteArray), (⟨#[]⟩ : ByteArray), (⟨#[49, 44, 44, 50]⟩ : ByteArray), (⟨#[48, 49]⟩ : ByteArray), (⟨#[97]⟩ : ByteArray), (⟨#[49, 32, 44, 50]⟩ : ByteArray), (⟨#[45, 44, 45]⟩ : ByteArray)] : List ByteArray))).bind fun bt467 => (some bt467.1)) else (none))))
theorem spec_DrawParseList.mono : ∀ a0 k, LeO (spec_DrawParseList.f k a0) (spec_DrawParseList.f (k + 1) a0) := by
  intro a0 k
  unfold spec_DrawParseList.f
  have jh0 := @spec_ListText.mono
  have jh1 := @spec_l1New.mono
  have jh2 := @spec_l7Some.mono
  exact mo_
theorem y183_ {P : Prop} (h : P := by repeat (first | (with_reducible first | exact HB.1 | apply below_alloc | apply pw_below_drewN | apply below_drew1 | refine below_set ?_ (IsS103.ge HI457.1)) | exact HB.1)) : P := h
set_option maxHeartbeats 8000000 in
set_option maxRecDepth 100000 in
theorem spec_DrawParseList.calls (k : Nat) (A0 : Option Addr) (c0 : Nat) (l0 : List Int) (r : ByteArray) (w : World) (hr0 : Kd.C (Kd.int .u8) w A0 l0.length l0) (hc0 : l0.length ≤ c0) (h : spec_DrawParseList.f k l0 = some r) :
    Calls Tryd.prog 20 #[.slice A0 l0.length c0] w fun e w' => e = .returned (.string r) ∧ Below w.heap.size w w' := by
  have HR0 := o_ hr0
  have HC0 := o_ hc0
  clear hr0 hc0
  have HB := o_ (Below.refl w.heap.size w)
  have H : ((spec_l1New.f k l0).bind fun bt454 => ((spec_l7Some.f k bt454.1 bt454.2.1 bt454.2.2 0 9 3).bind fun bt458 => ((spec_ListText.f k bt458.1).bind fun t463 => (if t463.size + 1 ≤ 9223372036854775807 then ((spec_l1Str.f bt454.1 bt458.2.1 bt458.2.2 (([t463, t463, t463 ++ (⟨#[44]⟩ : ByteArray), (⟨#[45, 49, 44, 53]⟩ : ByteArray), (⟨#[]⟩ : ByteArray), (⟨#[49, 44, 44, 50]⟩ : ByteArray), (⟨#[48, 49]⟩ : ByteArray), (⟨#[97]⟩ : ByteArray), (⟨#[49, 32, 44, 50]⟩ : ByteArray), (⟨#[45, 44, 45]⟩ : ByteArray)] : List ByteArray))).bind fun bt467 => (some bt467.1)) else (none))))) = some r := h
  clear h
  replace H := Option.bind_eq_some_iff.mp H
  obtain ⟨⟨t454, t455, t456⟩, A20, H⟩ := H
  try dsimp only at H
  have A2 := o_ A20
  clear A20
  replace H := Option.bind_eq_some_iff.mp H
  obtain ⟨⟨t458, t461, t462⟩, A30, H⟩ := H
  try dsimp only at H
  have A3 := o_ A30
  clear A30
  replace H := Option.bind_eq_some_iff.mp H
  obtain ⟨t463, A40, H⟩ := H
  try dsimp only at H
  have A4 := o_ A40
  clear A40
  by_cases c5 : t463.size + 1 ≤ 9223372036854775807
  · rw [if_pos c5] at H
    have c5b0 := eq_true c5
    have c5b1 := decide_eq_true c5
    try have c5b2 : (9223372036854775807 < t463.size + 1) = False := eq_false (Nat.not_lt.2 c5)
    obtain ⟨y464, hy464⟩ : ∃ y_ : List ByteArray, y_ = (([t463, t463, t463 ++ (⟨#[44]⟩ : ByteArray), (⟨#[45, 49, 44, 53]⟩ : ByteArray), (⟨#[]⟩ : ByteArray), (⟨#[49, 44, 44, 50]⟩ : ByteArray), (⟨#[48, 49]⟩ : ByteArray), (⟨#[97]⟩ : ByteArray), (⟨#[49, 32, 44, 50]⟩ : ByteArray), (⟨#[45, 44, 45]⟩ : ByteArray)] : List ByteArray)) := ⟨_, rfl⟩
    replace H : ((spec_l1Str.f t454 t461 t462 y464).bind fun bt467 => (some bt467.1)) = some r := by first | (rw [hy464]; with_reducible exact H) | (have H2_ := (Option.bind_some _ _).symm.trans H; rw [hy464]; with_reducible exact H2_) | (have H2_ := (Option.bind_some _ _).symm.trans H; with_reducible exact H2_) | with_reducible exact H | (rw [hy464]; exact H) | exact H
    have Ny464 := o_ hy464
    clear hy464
    replace H := Option.bind_eq_some_iff.mp H
    obtain ⟨⟨t467, t468, t469⟩, A60, H⟩ := H
    try dsimp only at H
    have A6 := o_ A60
    clear A60
    obtain rfl := Option.some.inj H
    go_enter Tryd.func20, Tryd.ntmps20
    go_wp2_with (first | (refine gl_ (some 6) Tryd.func53 #[.slice A0 l0.length c0] ?_; (with_reducible refine (spec_l1New.calls k _ _ l0 t454 t455 t456 w _ ?side1 ?side2 ?side3 A2.1).mono ?_); (case side1 => exact wB_); (case side2 => exact HR0.1); (case side3 => exact HC0.1); rintro e w7 ⟨g457, rfl, hi, hb, hb2⟩; refine ⟨_, rfl, ?_⟩; replace HB := o_ (hb); replace HI457 := o_ (hi); (try clear hb hb2 hi)) | (refine gl_ (some 8) Tryd.func56 #[.pointer (some ⟨g457, 0, none⟩), .int .i64 0, .int .i64 9, .int .i64 3] ?_; (with_reducible refine (spec_l7Some.calls k g457 t454 t455 t456 0 9 3 t458 t461 t462 w _ ?side1 ?side2 A3.1).mono ?_); (case side1 => repeat (first | (with_reducible first | exact HI457.1 | apply IsS103.alloc | apply IsS103.drewN | apply IsS103.drew | apply IsS103.set_1 | apply IsS103.set_2) | exact HI457.1)); (case side2 => repeat (first | (with_reducible first | exact HB.1 | apply below_alloc | apply pw_below_drewN | apply below_drew1 | refine below_set ?_ (IsS103.ge HI457.1)) | exact HB.1)); rintro e w8 ⟨v459, rfl, ho0, hi, hb, hk⟩; refine ⟨_, rfl, ?_⟩; have HO460 := o_ (Kd.R_lower ho0 (below_size y183_)); replace HB := o_ (hb); replace HI457 := o_ (hi); (try clear hb hk hi ho0); obtain ⟨Ao9, co9, eo9⟩ := Kd.R_slice HO460.1; subst eo9) | (refine gl_ (some 9) Tryd.func29 #[.slice Ao9 t458.length co9] ?_; (with_reducible refine (spec_ListText.calls k _ _ t458 t463 _ ?side1 ?side2 A4.1).mono ?_); (case side1 => exact cd_ (Kd.R_reads' HO460.1).2.2); (case side2 => exact (Kd.R_reads' HO460.1).2.1); rintro e w10 ⟨rfl, hb⟩; refine ⟨_, rfl, ?_⟩; replace HO460 := o_ (Kd.R_below (rd_ HO460.1) hb); replace HB := o_ (below_step y183_ hb); replace HI457 := o_ (IsS103.below (by repeat (first | (with_reducible first | exact HI457.1 | apply IsS103.alloc | apply IsS103.drewN | apply IsS103.drew | apply IsS103.set_1 | apply IsS103.set_2) | exact HI457.1)) hb); (try clear hb)) | ((with_reducible refine gate_dst (N := 15) rfl ?_); refine Kd.R_lit Kd.string _ 9 ?hg (N := 15) ?hd (xs := ([t463, t463, t463 ++ (⟨#[44]⟩ : ByteArray), (⟨#[45, 49, 44, 53]⟩ : ByteArray), (⟨#[]⟩ : ByteArray), (⟨#[49, 44, 44, 50]⟩ : ByteArray), (⟨#[48, 49]⟩ : ByteArray), (⟨#[97]⟩ : ByteArray), (⟨#[49, 32, 44, 50]⟩ : ByteArray), (⟨#[45, 44, 45]⟩ : ByteArray)] : List ByteArray)) (inner := [.string t463, .string t463, .string (t463 ++ (⟨#[44]⟩ : ByteArray)), .string (⟨#[45, 49, 44, 53]⟩ : ByteArray), .string (⟨#[]⟩ : ByteArray), .string (⟨#[49, 44, 44, 50]⟩ : ByteArray), .string (⟨#[48, 49]⟩ : ByteArray), .string (⟨#[97]⟩ : ByteArray), .string (⟨#[49, 32, 44, 50]⟩ : ByteArray), .string (⟨#[45, 44, 45]⟩ : ByteArray)]) (ok := fun _ => True) (okp := fun _ => True) ?hr ?hp (fun _ hk => hk) trivial (Below.refl _ _) (Nat.le_refl _) (by simp) ?_; (case hd => rfl); (case hg => rfl); (case hr => first | (go_simp; done) | (go_simp; rfl)); (case hp => exact (Reps.one (show Kd.M Kd.string _ _ _ t463 [.string t463] from rfl) (Reps.one (show Kd.M Kd.string _ _ _ t463 [.string t463] from rfl) (Reps.one (show Kd.M Kd.string _ _ _ (t463 ++ (⟨#[44]⟩ : ByteArray)) [.string (t463 ++ (⟨#[44]⟩ : ByteArray))] from rfl) (Reps.one (show Kd.M Kd.string _ _ _ (⟨#[45, 49, 44, 53]⟩ : ByteArray) [.string (⟨#[45, 49, 44, 53]⟩ : ByteArray)] from rfl) (Reps.one (show Kd.M Kd.string _ _ _ (⟨#[]⟩ : ByteArray) [.string (⟨#[]⟩ : ByteArray)] from rfl) (Reps.one (show Kd.M Kd.string _ _ _ (⟨#[49, 44, 44, 50]⟩ : ByteArray) [.string (⟨#[49, 44, 44, 50]⟩ : ByteArray)] from rfl) (Reps.one (show Kd.M Kd.string _ _ _ (⟨#[48, 49]⟩ : ByteArray) [.string (⟨#[48, 49]⟩ : ByteArray)] from rfl) (Reps.one (show Kd.M Kd.string _ _ _ (⟨#[97]⟩ : ByteArray) [.string (⟨#[97]⟩ : ByteArray)] from rfl) (Reps.one (show Kd.M Kd.string _ _ _ (⟨#[49, 32, 44, 50]⟩ : ByteArray) [.string (⟨#[49, 32, 44, 50]⟩ : ByteArray)] from rfl) (Reps.one (show Kd.M Kd.string _ _ _ (⟨#[45, 44, 45]⟩ : ByteArray) [.string (⟨#[45, 44, 45]⟩ : ByteArray)] from rfl) (Reps.none _ _)))))))))))); intro v465 w11 ho12 hb hg_ hnew_; clear hg_ hnew_; (first | rw [← Ny464.1] at ho12 | (simp only [Int.reduceToNat] at ho12; rw [← Ny464.1] at ho12)); replace HO460 := o_ (Kd.R_below (rd_ HO460.1) hb); have HO466 := o_ (Kd.R_lower ho12 (below_size y183_)); replace HB := o_ (below_step y183_ hb); replace HI457 := o_ (IsS103.below (by repeat (first | (with_reducible first | exact HI457.1 | apply IsS103.alloc | apply IsS103.drewN | apply IsS103.drew | apply IsS103.set_1 | apply IsS103.set_2) | exact HI457.1)) hb); clear hb ho12; obtain ⟨Ao13, co13, eo13⟩ := Kd.R_slice HO466.1; subst eo13) | (refine gl_ (some 16) Tryd.func55 #[.pointer (some ⟨g457, 0, none⟩), .slice Ao13 y464.length co13] ?_; (with_reducible refine (spec_l1Str.calls g457 t454 t461 t462 _ _ y464 t467 t468 t469 w _ ?side1 ?side2 ?side3 ?side4 ?side5 A6.1).mono ?_); (case side1 => repeat (first | (with_reducible first | exact HI457.1 | apply IsS103.alloc | apply IsS103.drewN | apply IsS103.drew | apply IsS103.set_1 | apply IsS103.set_2) | exact HI457.1)); (case side2 => repeat (first | (with_reducible first | exact HB.1 | apply below_alloc | apply pw_below_drewN | apply below_drew1 | refine below_set ?_ (IsS103.ge HI457.1)) | exact HB.1)); (case side3 => exact cd_ (Kd.R_reads' HO466.1).2.2); (case side4 => exact (Kd.R_reads' HO466.1).2.1); (case side5 => exact far_slice (IsS103.own_ne HI457.1 HO466.1 (by decide))); rintro e w14 ⟨rfl, hi, hb, hk⟩; refine ⟨_, rfl, ?_⟩; replace HO460 := o_ (Kd.R_mono (Kd.R_keep (IsS103.apart (show IsS103 w _ g457 t454 t461 t462 from by repeat (first | (with_reducible first | exact HI457.1 | apply IsS103.alloc | apply IsS103.drewN | apply IsS103.drew | apply IsS103.set_1 | apply IsS103.set_2) | exact HI457.1)) (rd_ HO460.1) (by decide)) hk (fun _ h => h.2)) (fun _ h => h.1)); replace HO466 := o_ (Kd.R_mono (Kd.R_keep (IsS103.apart (show IsS103 w _ g457 t454 t461 t462 from by repeat (first | (with_reducible first | exact HI457.1 | apply IsS103.alloc | apply IsS103.drewN | apply IsS103.drew | apply IsS103.set_1 | apply IsS103.set_2) | exact HI457.1)) (rd_ HO466.1) (by decide)) hk (fun _ h => h.2)) (fun _ h => h.1)); replace HB := o_ (hb); replace HI457 := o_ (hi); (try clear hb hk hi)))
    go_ret
    exact ⟨rt_, by repeat (first | (with_reducible first | exact HB.1 | apply below_alloc | apply pw_below_drewN | apply below_drew1 | refine below_set ?_ (IsS103.ge HI457.1)) | exact HB.1)⟩
  · rw [if_neg c5] at H
    exact absurd H (by simp)

/-! ### spec_DrawKindOf: function 21 -/
def spec_DrawKindOf.f (k : Nat) (l0 : List Int) : Option (ByteArray) := (spec_l1New.f k l0).bind fun bt470 => ((spec_l1Below.f bt470.1 bt470.2.1 bt470.2.2 8).bind fun bt474 => ((spec_KindText.f (wrap64 (1 + bt474.1))).bind fun t477 => ((spec_l1Str.f bt470.1 bt474.2.1 bt474.2.2 (([t477, (⟨#[]⟩ : ByteArray), (⟨#[66, 97, 103]⟩ : ByteArray), (⟨#[98, 111, 120]⟩ : ByteArray)] : List ByteArray))).bind fun bt481 => (some bt481.1))))
theorem spec_DrawKindOf.mono : ∀ a0 k, LeO (spec_DrawKindOf.f k a0) (spec_DrawKindOf.f (k + 1) a0) := by
  intro a0 k
  unfold spec_DrawKindOf.f
  have jh0 := @spec_l1New.mono
  exact mo_
theorem y187_ {P : Prop} (h : P := by repeat (first | (with_reducible first | exact HB.1 | apply below_alloc | apply pw_below_drewN | apply below_drew1 | refine below_set ?_ (IsS103.ge HI473.1)) | exact HB.1)) : P := h
set_option maxHeartbeats 8000000 in
set_option maxRecDepth 100000 in
theorem spec_DrawKindOf.calls (k : Nat) (A0 : Option Addr) (c0 : Nat) (l0 : List Int) (r : ByteArray) (w : World) (hr0 : Kd.C (Kd.int .u8) w A0 l0.length l0) (hc0 : l0.length ≤ c0) (h : spec_DrawKindOf.f k l0 = some r) :
    Calls Tryd.prog 21 #[.slice A0 l0.length c0] w fun e w' => e = .returned (.string r) ∧ Below w.heap.size w w' := by
  have HR0 := o_ hr0
  have HC0 := o_ hc0
  clear hr0 hc0
  have HB := o_ (Below.refl w.heap.size w)
  have H : ((spec_l1New.f k l0).bind fun bt470 => ((spec_l1Below.f bt470.1 bt470.2.1 bt470.2.2 8).bind fun bt474 => ((spec_KindText.f (wrap64 (1 + bt474.1))).bind fun t477 => ((spec_l1Str.f bt470.1 bt474.2.1 bt474.2.2 (([t477, (⟨#[]⟩ : ByteArray), (⟨#[66, 97, 103]⟩ : ByteArray), (⟨#[98, 111, 120]⟩ : ByteArray)] : List ByteArray))).bind fun bt481 => (some bt481.1))))) = some r := h
  clear h
  replace H := Option.bind_eq_some_iff.mp H
  obtain ⟨⟨t470, t471, t472⟩, A20, H⟩ := H
  try dsimp only at H
  have A2 := o_ A20
  clear A20
  replace H := Option.bind_eq_some_iff.mp H
  obtain ⟨⟨t474, t475, t476⟩, A30, H⟩ := H
  try dsimp only at H
  have A3 := o_ A30
  clear A30
  replace H := Option.bind_eq_some_iff.mp H
  obtain ⟨t477, A40, H⟩ := H
  try dsimp only at H
  have A4 := o_ A40
  clear A40
  obtain ⟨y478, hy478⟩ : ∃ y_ : List ByteArray, y_ = (([t477, (⟨#[]⟩ : ByteArray), (⟨#[66, 97, 103]⟩ : ByteArray), (⟨#[98, 111, 120]⟩ : ByteArray)] : List ByteArray)) := ⟨_, rfl⟩
  replace H : ((spec_l1Str.f t470 t475 t476 y478).bind fun bt481 => (some bt481.1)) = some r := by first | (rw [hy478]; with_reducible exact H) | (have H2_ := (Option.bind_some _ _).symm.trans H; rw [hy478]; with_reducible exact H2_) | (have H2_ := (Option.bind_some _ _).symm.trans H; with_reducible exact H2_) | with_reducible exact H | (rw [hy478]; exact H) | exact H
  have Ny478 := o_ hy478
  clear hy478
  replace H := Option.bind_eq_some_iff.mp H
  obtain ⟨⟨t481, t482, t483⟩, A50, H⟩ := H
  try dsimp only at H
  have A5 := o_ A50
  clear A50
  obtain rfl := Option.some.inj H
  go_enter Tryd.func21, Tryd.ntmps21
  go_wp2_with (first | (refine gl_ (some 5) Tryd.func53 #[.slice A0 l0.length c0] ?_; (with_reducible refine (spec_l1New.calls k _ _ l0 t470 t471 t472 w _ ?side1 ?side2 ?side3 A2.1).mono ?_); (case side1 => exact wB_); (case side2 => exact HR0.1); (case side3 => exact HC0.1); rintro e w6 ⟨g473, rfl, hi, hb, hb2⟩; refine ⟨_, rfl, ?_⟩; replace HB := o_ (hb); replace HI473 := o_ (hi); (try clear hb hb2 hi)) | (refine gl_ (some 8) Tryd.func58 #[.pointer (some ⟨g473, 0, none⟩), .int .i64 8] ?_; (with_reducible refine (spec_l1Below.calls g473 t470 t471 t472 8 t474 t475 t476 w _ ?side1 ?side2 A3.1).mono ?_); (case side1 => repeat (first | (with_reducible first | exact HI473.1 | apply IsS103.alloc | apply IsS103.drewN | apply IsS103.drew | apply IsS103.set_1 | apply IsS103.set_2) | exact HI473.1)); (case side2 => repeat (first | (with_reducible first | exact HB.1 | apply below_alloc | apply pw_below_drewN | apply below_drew1 | refine below_set ?_ (IsS103.ge HI473.1)) | exact HB.1)); rintro e w7 ⟨rfl, hi, hb, hk⟩; refine ⟨_, rfl, ?_⟩; replace HB := o_ (hb); replace HI473 := o_ (hi); (try clear hb hk hi)) | (refine gl_ (some 10) Tryd.func57 #[.int .i64 (wrap64 (1 + t474))] ?_; (with_reducible refine (spec_KindText.calls (wrap64 (1 + t474)) t477 _ A4.1).mono ?_); rintro e w8 ⟨rfl, hb⟩; refine ⟨_, rfl, ?_⟩; replace HB := o_ (below_step y187_ hb); replace HI473 := o_ (IsS103.below (by repeat (first | (with_reducible first | exact HI473.1 | apply IsS103.alloc | apply IsS103.drewN | apply IsS103.drew | apply IsS103.set_1 | apply IsS103.set_2) | exact HI473.1)) hb); (try clear hb)) | ((with_reducible refine gate_dst (N := 11) rfl ?_); refine Kd.R_lit Kd.string _ 9 ?hg (N := 11) ?hd (xs := ([t477, (⟨#[]⟩ : ByteArray), (⟨#[66, 97, 103]⟩ : ByteArray), (⟨#[98, 111, 120]⟩ : ByteArray)] : List ByteArray)) (inner := [.string t477, .string (⟨#[]⟩ : ByteArray), .string (⟨#[66, 97, 103]⟩ : ByteArray), .string (⟨#[98, 111, 120]⟩ : ByteArray)]) (ok := fun _ => True) (okp := fun _ => True) ?hr ?hp (fun _ hk => hk) trivial (Below.refl _ _) (Nat.le_refl _) (by simp) ?_; (case hd => rfl); (case hg => rfl); (case hr => first | (go_simp; done) | (go_simp; rfl)); (case hp => exact (Reps.one (show Kd.M Kd.string _ _ _ t477 [.string t477] from rfl) (Reps.one (show Kd.M Kd.string _ _ _ (⟨#[]⟩ : ByteArray) [.string (⟨#[]⟩ : ByteArray)] from rfl) (Reps.one (show Kd.M Kd.string _ _ _ (⟨#[66, 97, 103]⟩ : ByteArray) [.string (⟨#[66, 97, 103]⟩ : ByteArray)] from rfl) (Reps.one (show Kd.M Kd.string _ _ _ (⟨#[98, 111, 120]⟩ : ByteArray) [.string (⟨#[98, 111, 120]⟩ : ByteArray)] from rfl) (Reps.none _ _)))))); intro v479 w9 ho10 hb hg_ hnew_; clear hg_ hnew_; (first | rw [← Ny478.1] at ho10 | (simp only [Int.reduceToNat] at ho10; rw [← Ny478.1] at ho10)); have HO480 := o_ (Kd.R_lower ho10 (below_size y187_)); replace HB := o_ (below_step y187_ hb); replace HI473 := o_ (IsS103.below (by repeat (first | (with_reducible first | exact HI473.1 | apply IsS103.alloc | apply IsS103.drewN | apply IsS103.drew | apply IsS103.set_1 | apply IsS103.set_2) | exact HI473.1)) hb); clear hb ho10; obtain ⟨Ao11, co11, eo11⟩ := Kd.R_slice HO480.1; subst eo11) | (refine gl_ (some 12) Tryd.func55 #[.pointer (some ⟨g473, 0, none⟩), .slice Ao11 y478.length co11] ?_; (with_reducible refine (spec_l1Str.calls g473 t470 t475 t476 _ _ y478 t481 t482 t483 w _ ?side1 ?side2 ?side3 ?side4 ?side5 A5.1).mono ?_); (case side1 => repeat (first | (with_reducible first | exact HI473.1 | apply IsS103.alloc | apply IsS103.drewN | apply IsS103.drew | apply IsS103.set_1 | apply IsS103.set_2) | exact HI473.1)); (case side2 => repeat (first | (with_reducible first | exact HB.1 | apply below_alloc | apply pw_below_drewN | apply below_drew1 | refine below_set ?_ (IsS103.ge HI473.1)) | exact HB.1)); (case side3 => exact cd_ (Kd.R_reads' HO480.1).2.2); (case side4 => exact (Kd.R_reads' HO480.1).2.1); (case side5 => exact far_slice (IsS103.own_ne HI473.1 HO480.1 (by decide))); rintro e w12 ⟨rfl, hi, hb, hk⟩; refine ⟨_, rfl, ?_⟩; replace HO480 := o_ (Kd.R_mono (Kd.R_keep (IsS103.apart (show IsS103 w _ g473 t470 t475 t476 from by repeat (first | (with_reducible first | exact HI473.1 | apply IsS103.alloc | apply IsS103.drewN | apply IsS103.drew | apply IsS103.set_1 | apply IsS103.set_2) | exact HI473.1)) (rd_ HO480.1) (by decide)) hk (fun _ h => h.2)) (fun _ h => h.1)); replace HB := o_ (hb); replace HI473 := o_ (hi); (try clear hb hk hi)))
  go_ret
  exact ⟨rt_, by repeat (first | (with_reducible first | exact HB.1 | apply below_alloc | apply pw_below_drewN | apply below_drew1 | refine below_set ?_ (IsS103.ge HI473.1)) | exact HB.1)⟩

/-! ### spec_l4Draw: function 121 -/
def spec_l4Draw.f (s0_0 : List Int) (s0_1 : Int) (s0_2 : Int) (a1 : Int) : Option (Int × Int × Int × Int × Int × Int × Int) := (spec_l1Below.f s0_0 s0_1 s0_2 8).bind fun bt485 => ((spec_l1Below.f s0_0 bt485.2.1 bt485.2.2 8).bind fun bt488 => ((spec_l1Below.f s0_0 bt488.2.1 bt488.2.2 20).bind fun bt491 => ((spec_l1Below.f s0_0 bt491.2.1 bt491.2.2 500).bind fun bt494 => (some (a1, wrap64 (1 + bt485.1), bt488.1, wrap64 (1 + bt491.1), wrap64 (10 * bt494.1), bt494.2.1, bt494.2.2)))))
theorem e188_ {w : World} {g : Nat} {t : TypeId} {i0 : Int} {i1 : Int} {i2 : Int} {i3 : Int} {i4 : Int} (h : w.heap[g]? = some (.cells #[.int .i64 i0, .int .i64 i1, .int .i64 i2, .int .i64 i3, .int .i64 i4] t (0, 0))) : w.cell? ⟨g, 0, none⟩ = some (.int .i64 i0) ∧ w.cell? ⟨g, 1, none⟩ = some (.int .i64 i1) ∧ w.cell? ⟨g, 2, none⟩ = some (.int .i64 i2) ∧ w.cell? ⟨g, 3, none⟩ = some (.int .i64 i3) ∧ w.cell? ⟨g, 4, none⟩ = some (.int .i64 i4) := ⟨(blk_cell h 0).trans rfl, (blk_cell h 1).trans rfl, (blk_cell h 2).trans rfl, (blk_cell h 3).trans rfl, (blk_cell h 4).trans rfl⟩
theorem z189_ {w : World} {g : Nat} {t : TypeId} {cs : Array Value} (h : w.heap[g]? = some (.cells cs t (0, 0))) : w.frozen? ⟨g, 0, none⟩ = false ∧ w.frozen? ⟨g, 1, none⟩ = false ∧ w.frozen? ⟨g, 2, none⟩ = false ∧ w.frozen? ⟨g, 3, none⟩ = false ∧ w.frozen? ⟨g, 4, none⟩ = false := ⟨blk_frozen h 0, blk_frozen h 1, blk_frozen h 2, blk_frozen h 3, blk_frozen h 4⟩
set_option maxHeartbeats 8000000 in
set_option maxRecDepth 100000 in
theorem spec_l4Draw.calls (g : Nat) (s0_0 : List Int) (s0_1 : Int) (s0_2 : Int) (a1 : Int) (r1 : Int) (r2 : Int) (r3 : Int) (r4 : Int) (r5 : Int) (r6 : Int) (r7 : Int) (w0 w : World) (hI : IsS103 w0 w g s0_0 s0_1 s0_2) (hB : Below w0.heap.size w0 w) (h : spec_l4Draw.f s0_0 s0_1 s0_2 a1 = some (r1, r2, r3, r4, r5, r6, r7)) :
    Calls Tryd.prog 121 #[.pointer (some ⟨g, 0, none⟩), .int .i64 a1] w fun e w' => e = .returned (.agg #[.int .i64 r1, .int .i64 r2, .int .i64 r3, .int .i64 r4, .int .i64 r5]) ∧ IsS103 w0 w' g s0_0 r6 r7 ∧ Below w0.heap.size w0 w' ∧ KeepBut w w' g none := by
  have hu42 := Tryd.underlying42
  have HI0 := o_ hI
  have HK := o_ (KeepBut.refl w g none)
  have HL := o_ hB.size
  clear hI
  have HW0 := o_ hB.size
  have HB := o_ hB
  clear hB
  have H : ((spec_l1Below.f s0_0 s0_1 s0_2 8).bind fun bt485 => ((spec_l1Below.f s0_0 bt485.2.1 bt485.2.2 8).bind fun bt488 => ((spec_l1Below.f s0_0 bt488.2.1 bt488.2.2 20).bind fun bt491 => ((spec_l1Below.f s0_0 bt491.2.1 bt491.2.2 500).bind fun bt494 => (some (a1, wrap64 (1 + bt485.1), bt488.1, wrap64 (1 + bt491.1), wrap64 (10 * bt494.1), bt494.2.1, bt494.2.2)))))) = some (r1, r2, r3, r4, r5, r6, r7) := h
  clear h
  replace H := Option.bind_eq_some_iff.mp H
  obtain ⟨⟨t485, t486, t487⟩, A30, H⟩ := H
  try dsimp only at H
  have A3 := o_ A30
  clear A30
  replace H := Option.bind_eq_some_iff.mp H
  obtain ⟨⟨t488, t489, t490⟩, A40, H⟩ := H
  try dsimp only at H
  have A4 := o_ A40
  clear A40
  replace H := Option.bind_eq_some_iff.mp H
  obtain ⟨⟨t491, t492, t493⟩, A50, H⟩ := H
  try dsimp only at H
  have A5 := o_ A50
  clear A50
  replace H := Option.bind_eq_some_iff.mp H
  obtain ⟨⟨t494, t495, t496⟩, A60, H⟩ := H
  try dsimp only at H
  have A6 := o_ A60
  clear A60
  simp only [Option.some.injEq, Prod.mk.injEq] at H
  obtain ⟨rfl, rfl, rfl, rfl, rfl, rfl, rfl⟩ := H
  go_enter Tryd.func121, Tryd.ntmps121
  go_wp2_with (first | ((with_reducible refine gate_dst (N := 4) rfl ?_); refine bx_ 4 #[.int .i64 0, .int .i64 0, .int .i64 0, .int .i64 0, .int .i64 0] 42 ?_; intro gb484 hg w7 hbox hb; replace HB := o_ (below_step wB_ hb); have BK484 := o_ (hbox); have GW484 := o_ ((by rw [hg]; exact (keep_size (w := w) (g := g) (row := none) wK_) : w.heap.size ≤ gb484)); have GE484 := o_ ((Nat.le_trans HW0.1 (by rw [hg]; exact (keep_size (w := w) (g := g) (row := none) wK_) : w.heap.size ≤ gb484) : w0.heap.size ≤ gb484)); replace HK := o_ (KeepBut.trans wK_ (KeepBut.of_below hb g none) (.inl rfl)); have NB0_484 := o_ ((by rw [hg]; exact Nat.ne_of_lt (IsS103.lt (show IsS103 w0 _ g s0_0 s0_1 s0_2 from wI_)) : g ≠ gb484)); have NB484_0 := o_ ((by rw [hg]; exact Nat.ne_of_gt (IsS103.lt (show IsS103 w0 _ g s0_0 s0_1 s0_2 from wI_)) : gb484 ≠ g)); replace HI0 := o_ (IsS103.below wI_ hb); clear hb hbox hg) | (refine gl_ (some 7) Tryd.func58 #[.pointer (some ⟨g, 0, none⟩), .int .i64 8] ?_; (with_reducible refine (spec_l1Below.calls g s0_0 s0_1 s0_2 8 t485 t486 t487 w0 _ ?side1 ?side2 A3.1).mono ?_); (case side1 => exact wI_); (case side2 => exact wB_); rintro e w8 ⟨rfl, hi, hb, hk⟩; refine ⟨_, rfl, ?_⟩; replace BK484 := o_ (KeepBut.blk hk (g' := gb484) (o := .cells #[.int .i64 0, .int .i64 0, .int .i64 0, .int .i64 0, .int .i64 0] 42 (0, 0)) (bd_ BK484.1) NB484_0.1 (by simp)); replace HK := o_ (KeepBut.trans wK_ hk (.inl rfl)); replace HB := o_ (hb); replace HI0 := o_ (hi); (try clear hb hk hi)) | (refine gl_ (some 10) Tryd.func58 #[.pointer (some ⟨g, 0, none⟩), .int .i64 8] ?_; (with_reducible refine (spec_l1Below.calls g s0_0 t486 t487 8 t488 t489 t490 w0 _ ?side1 ?side2 A4.1).mono ?_); (case side1 => exact wI_); (case side2 => exact wB_); rintro e w9 ⟨rfl, hi, hb, hk⟩; refine ⟨_, rfl, ?_⟩; replace BK484 := o_ (KeepBut.blk hk (g' := gb484) (o := .cells #[.int .i64 0, .int .i64 0, .int .i64 0, .int .i64 0, .int .i64 0] 42 (0, 0)) (bd_ BK484.1) NB484_0.1 (by simp)); replace HK := o_ (KeepBut.trans wK_ hk (.inl rfl)); replace HB := o_ (hb); replace HI0 := o_ (hi); (try clear hb hk hi)) | (refine gl_ (some 12) Tryd.func58 #[.pointer (some ⟨g, 0, none⟩), .int .i64 20] ?_; (with_reducible refine (spec_l1Below.calls g s0_0 t489 t490 20 t491 t492 t493 w0 _ ?side1 ?side2 A5.1).mono ?_); (case side1 => exact wI_); (case side2 => exact wB_); rintro e w10 ⟨rfl, hi, hb, hk⟩; refine ⟨_, rfl, ?_⟩; replace BK484 := o_ (KeepBut.blk hk (g' := gb484) (o := .cells #[.int .i64 0, .int .i64 0, .int .i64 0, .int .i64 0, .int .i64 0] 42 (0, 0)) (bd_ BK484.1) NB484_0.1 (by simp)); replace HK := o_ (KeepBut.trans wK_ hk (.inl rfl)); replace HB := o_ (hb); replace HI0 := o_ (hi); (try clear hb hk hi)) | (refine gl_ (some 15) Tryd.func58 #[.pointer (some ⟨g, 0, none⟩), .int .i64 500] ?_; (with_reducible refine (spec_l1Below.calls g s0_0 t492 t493 500 t494 t495 t496 w0 _ ?side1 ?side2 A6.1).mono ?_); (case side1 => exact wI_); (case side2 => exact wB_); rintro e w11 ⟨rfl, hi, hb, hk⟩; refine ⟨_, rfl, ?_⟩; replace BK484 := o_ (KeepBut.blk hk (g' := gb484) (o := .cells #[.int .i64 0, .int .i64 0, .int .i64 0, .int .i64 0, .int .i64 0] 42 (0, 0)) (bd_ BK484.1) NB484_0.1 (by simp)); replace HK := o_ (KeepBut.trans wK_ hk (.inl rfl)); replace HB := o_ (hb); replace HI0 := o_ (hi); (try clear hb hk hi); have hnb12 := NB484_0.1; have hnc12 := NB0_484.1; obtain ⟨hcz13_0, hcz13_1, hcz13_2, hcz13_3, hcz13_4⟩ := e188_ BK484.1; obtain ⟨hfz13_0, hfz13_1, hfz13_2, hfz13_3, hfz13_4⟩ := z189_ BK484.1))
  refine bodyPost_ret (results_cell_row rfl _ _ gb484 42 #[.int .i64 a1, .int .i64 (wrap64 (1 + t485)), .int .i64 t488, .int .i64 (wrap64 (1 + t491)), .int .i64 (wrap64 (10 * t494))] (0, 0) _ rfl (bk_ BK484.1) Tryd.underlying42 rfl (by kernel_rfl)) rfl ?_
  exact ⟨rt_, wI_, wB_, wK_⟩

/-! ### spec_l6Draw: function 120 -/
def spec_l6Draw.f (s0_0 : List Int) (s0_1 : Int) (s0_2 : Int) (a1 : Int) : Option (Int × Int × Int × Int × Int × Int × Int × Int × Int × Int) := (spec_l4Draw.f s0_0 s0_1 s0_2 a1).bind fun bt498 => ((spec_l1Below.f s0_0 bt498.2.2.2.2.2.1 bt498.2.2.2.2.2.2 6).bind fun bt505 => ((spec_l1Below.f s0_0 bt505.2.1 bt505.2.2 80).bind fun bt508 => ((spec_l1Below.f s0_0 bt508.2.1 bt508.2.2 5).bind fun bt511 => (some (bt498.1, bt498.2.1, bt498.2.2.1, bt498.2.2.2.1, bt498.2.2.2.2.1, wrap64 (1 + bt505.1), bt508.1, bt511.1, bt511.2.1, bt511.2.2)))))
theorem e194_ {w : World} {g : Nat} {t : TypeId} {i0 : Int} {i1 : Int} {i2 : Int} {i3 : Int} {i4 : Int} {i5 : Int} {i6 : Int} {i7 : Int} (h : w.heap[g]? = some (.cells #[.int .i64 i0, .int .i64 i1, .int .i64 i2, .int .i64 i3, .int .i64 i4, .int .i64 i5, .int .i64 i6, .int .i64 i7] t (0, 0))) : w.cell? ⟨g, 0, none⟩ = some (.int .i64 i0) ∧ w.cell? ⟨g, 1, none⟩ = some (.int .i64 i1) ∧ w.cell? ⟨g, 2, none⟩ = some (.int .i64 i2) ∧ w.cell? ⟨g, 3, none⟩ = some (.int .i64 i3) ∧ w.cell? ⟨g, 4, none⟩ = some (.int .i64 i4) ∧ w.cell? ⟨g, 5, none⟩ = some (.int .i64 i5) ∧ w.cell? ⟨g, 6, none⟩ = some (.int .i64 i6) ∧ w.cell? ⟨g, 7, none⟩ = some (.int .i64 i7) := ⟨(blk_cell h 0).trans rfl, (blk_cell h 1).trans rfl, (blk_cell h 2).trans rfl, (blk_cell h 3).trans rfl, (blk_cell h 4).trans rfl, (blk_cell h 5).trans rfl, (blk_cell h 6).trans rfl, (blk_cell h 7).trans rfl⟩
theorem z195_ {w : World} {g : Nat} {t : TypeId} {cs : Array Value} (h : w.heap[g]? = some (.cells cs t (0, 0))) : w.frozen? ⟨g, 0, none⟩ = false ∧ w.frozen? ⟨g, 1, none⟩ = false ∧ w.frozen? ⟨g, 2, none⟩ = false ∧ w.frozen? ⟨g, 3, none⟩ = false ∧ w.frozen? ⟨g, 4, none⟩ = false ∧ w.frozen? ⟨g, 5, none⟩ = false ∧ w.frozen? ⟨g, 6, none⟩ = false ∧ w.frozen? ⟨g, 7, none⟩ = false := ⟨blk_frozen h 0, blk_frozen h 1, blk_frozen h 2, blk_frozen h 3, blk_frozen h 4, blk_frozen h 5, blk_frozen h 6, blk_frozen h 7⟩
set_option maxHeartbeats 8000000 in
set_option maxRecDepth 100000 in
theorem spec_l6Draw.calls (g : Nat) (s0_0 : List Int) (s0_1 : Int) (s0_2 : Int) (a1 : Int) (r1 : Int) (r2 : Int) (r3 : Int) (r4 : Int) (r5 : Int) (r6 : Int) (r7 : Int) (r8 : Int) (r9 : Int) (r10 : Int) (w0 w : World) (hI : IsS103 w0 w g s0_0 s0_1 s0_2) (hB : Below w0.heap.size w0 w) (h : spec_l6Draw.f s0_0 s0_1 s0_2 a1 = some (r1, r2, r3, r4, r5, r6, r7, r8, r9, r10)) :
    Calls Tryd.prog 120 #[.pointer (some ⟨g, 0, none⟩), .int .i64 a1] w fun e w' => e = .returned (.agg #[.int .i64 r1, .int .i64 r2, .int .i64 r3, .int .i64 r4, .int .i64 r5, .int .i64 r6, .int .i64 r7, .int .i64 r8]) ∧ IsS103 w0 w' g s0_0 r9 r10 ∧ Below w0.heap.size w0 w' ∧ KeepBut w w' g none := by
  have hu44 := Tryd.underlying44
  have HI0 := o_ hI
  have HK := o_ (KeepBut.refl w g none)
  have HL := o_ hB.size
  clear hI
  have HW0 := o_ hB.size
  have HB := o_ hB
  clear hB
  have H : ((spec_l4Draw.f s0_0 s0_1 s0_2 a1).bind fun bt498 => ((spec_l1Below.f s0_0 bt498.2.2.2.2.2.1 bt498.2.2.2.2.2.2 6).bind fun bt505 => ((spec_l1Below.f s0_0 bt505.2.1 bt505.2.2 80).bind fun bt508 => ((spec_l1Below.f s0_0 bt508.2.1 bt508.2.2 5).bind fun bt511 => (some (bt498.1, bt498.2.1, bt498.2.2.1, bt498.2.2.2.1, bt498.2.2.2.2.1, wrap64 (1 + bt505.1), bt508.1, bt511.1, bt511.2.1, bt511.2.2)))))) = some (r1, r2, r3, r4, r5, r6, r7, r8, r9, r10) := h
  clear h
  replace H := Option.bind_eq_some_iff.mp H
  obtain ⟨⟨t498, t499, t500, t501, t502, t503, t504⟩, A30, H⟩ := H
  try dsimp only at H
  have A3 := o_ A30
  clear A30
  replace H := Option.bind_eq_some_iff.mp H
  obtain ⟨⟨t505, t506, t507⟩, A40, H⟩ := H
  try dsimp only at H
  have A4 := o_ A40
  clear A40
  replace H := Option.bind_eq_some_iff.mp H
  obtain ⟨⟨t508, t509, t510⟩, A50, H⟩ := H
  try dsimp only at H
  have A5 := o_ A50
  clear A50
  replace H := Option.bind_eq_some_iff.mp H
  obtain ⟨⟨t511, t512, t513⟩, A60, H⟩ := H
  try dsimp only at H
  have A6 := o_ A60
  clear A60
  simp only [Option.some.injEq, Prod.mk.injEq] at H
  obtain ⟨rfl, rfl, rfl, rfl, rfl, rfl, rfl, rfl, rfl, rfl⟩ := H
  go_enter Tryd.func120, Tryd.ntmps120
  go_wp2_with (first | ((with_reducible refine gate_dst (N := 4) rfl ?_); refine bx_ 4 #[.int .i64 0, .int .i64 0, .int .i64 0, .int .i64 0, .int .i64 0, .int .i64 0, .int .i64 0, .int .i64 0] 44 ?_; intro gb497 hg w7 hbox hb; replace HB := o_ (below_step wB_ hb); have BK497 := o_ (hbox); have GW497 := o_ ((by rw [hg]; exact (keep_size (w := w) (g := g) (row := none) wK_) : w.heap.size ≤ gb497)); have GE497 := o_ ((Nat.le_trans HW0.1 (by rw [hg]; exact (keep_size (w := w) (g := g) (row := none) wK_) : w.heap.size ≤ gb497) : w0.heap.size ≤ gb497)); replace HK := o_ (KeepBut.trans wK_ (KeepBut.of_below hb g none) (.inl rfl)); have NB0_497 := o_ ((by rw [hg]; exact Nat.ne_of_lt (IsS103.lt (show IsS103 w0 _ g s0_0 s0_1 s0_2 from wI_)) : g ≠ gb497)); have NB497_0 := o_ ((by rw [hg]; exact Nat.ne_of_gt (IsS103.lt (show IsS103 w0 _ g s0_0 s0_1 s0_2 from wI_)) : gb497 ≠ g)); replace HI0 := o_ (IsS103.below wI_ hb); clear hb hbox hg) | (refine gl_ (some 7) Tryd.func121 #[.pointer (some ⟨g, 0, none⟩), .int .i64 a1] ?_; (with_reducible refine (spec_l4Draw.calls g s0_0 s0_1 s0_2 a1 t498 t499 t500 t501 t502 t503 t504 w0 _ ?side1 ?side2 A3.1).mono ?_); (case side1 => exact wI_); (case side2 => exact wB_); rintro e w8 ⟨rfl, hi, hb, hk⟩; refine ⟨_, rfl, ?_⟩; replace BK497 := o_ (KeepBut.blk hk (g' := gb497) (o := .cells #[.int .i64 0, .int .i64 0, .int .i64 0, .int .i64 0, .int .i64 0, .int .i64 0, .int .i64 0, .int .i64 0] 44 (0, 0)) (bd_ BK497.1) NB497_0.1 (by simp)); replace HK := o_ (KeepBut.trans wK_ hk (.inl rfl)); replace HB := o_ (hb); replace HI0 := o_ (hi); (try clear hb hk hi)) | (refine gl_ (some 9) Tryd.func58 #[.pointer (some ⟨g, 0, none⟩), .int .i64 6] ?_; (with_reducible refine (spec_l1Below.calls g s0_0 t503 t504 6 t505 t506 t507 w0 _ ?side1 ?side2 A4.1).mono ?_); (case side1 => exact wI_); (case side2 => exact wB_); rintro e w9 ⟨rfl, hi, hb, hk⟩; refine ⟨_, rfl, ?_⟩; replace BK497 := o_ (KeepBut.blk hk (g' := gb497) (o := .cells #[.int .i64 0, .int .i64 0, .int .i64 0, .int .i64 0, .int .i64 0, .int .i64 0, .int .i64 0, .int .i64 0] 44 (0, 0)) (bd_ BK497.1) NB497_0.1 (by simp)); replace HK := o_ (KeepBut.trans wK_ hk (.inl rfl)); replace HB := o_ (hb); replace HI0 := o_ (hi); (try clear hb hk hi)) | (refine gl_ (some 12) Tryd.func58 #[.pointer (some ⟨g, 0, none⟩), .int .i64 80] ?_; (with_reducible refine (spec_l1Below.calls g s0_0 t506 t507 80 t508 t509 t510 w0 _ ?side1 ?side2 A5.1).mono ?_); (case side1 => exact wI_); (case side2 => exact wB_); rintro e w10 ⟨rfl, hi, hb, hk⟩; refine ⟨_, rfl, ?_⟩; replace BK497 := o_ (KeepBut.blk hk (g' := gb497) (o := .cells #[.int .i64 0, .int .i64 0, .int .i64 0, .int .i64 0, .int .i64 0, .int .i64 0, .int .i64 0, .int .i64 0] 44 (0, 0)) (bd_ BK497.1) NB497_0.1 (by simp)); replace HK := o_ (KeepBut.trans wK_ hk (.inl rfl)); replace HB := o_ (hb); replace HI0 := o_ (hi); (try clear hb hk hi)) | (refine gl_ (some 14) Tryd.func58 #[.pointer (some ⟨g, 0, none⟩), .int .i64 5] ?_; (with_reducible refine (spec_l1Below.calls g s0_0 t509 t510 5 t511 t512 t513 w0 _ ?side1 ?side2 A6.1).mono ?_); (case side1 => exact wI_); (case side2 => exact wB_); rintro e w11 ⟨rfl, hi, hb, hk⟩; refine ⟨_, rfl, ?_⟩; replace BK497 := o_ (KeepBut.blk hk (g' := gb497) (o := .cells #[.int .i64 0, .int .i64 0, .int .i64 0, .int .i64 0, .int .i64 0, .int .i64 0, .int .i64 0, .int .i64 0] 44 (0, 0)) (bd_ BK497.1) NB497_0.1 (by simp)); replace HK := o_ (KeepBut.trans wK_ hk (.inl rfl)); replace HB := o_ (hb); replace HI0 := o_ (hi); (try clear hb hk hi); have hnb12 := NB497_0.1; have hnc12 := NB0_497.1; obtain ⟨hcz13_0, hcz13_1, hcz13_2, hcz13_3, hcz13_4, hcz13_5, hcz13_6, hcz13_7⟩ := e194_ BK497.1; obtain ⟨hfz13_0, hfz13_1, hfz13_2, hfz13_3, hfz13_4, hfz13_5, hfz13_6, hfz13_7⟩ := z195_ BK497.1))
  refine bodyPost_ret (results_cell_row rfl _ _ gb497 44 #[.int .i64 t498, .int .i64 t499, .int .i64 t500, .int .i64 t501, .int .i64 t502, .int .i64 (wrap64 (1 + t505)), .int .i64 t508, .int .i64 t511] (0, 0) _ rfl (bk_ BK497.1) Tryd.underlying44 rfl (by kernel_rfl)) rfl ?_
  exact ⟨rt_, wI_, wB_, wK_⟩

/-! ### spec_l6List: function 109 -/
def spec_l6List.l0 : Nat → List (S44) → Int → List Int → Int → Int → Option ((List (S44)) × Int × Int)
  | 0, _, _, _, _, _ => none
  | k + 1, x3, x4, x1000, x1001, x1002 => (spec_l1Below.f x1000 x1001 x1002 8).bind fun bt517 => (if x4 ≤ bt517.1 then ((spec_l6Draw.f x1000 bt517.2.1 bt517.2.2 (wrap64 (2 * x4))).bind fun bt520 => (if x3.length < 2199023255552 then (spec_l6List.l0 k (x3 ++ [(⟨(⟨bt520.1, bt520.2.1, bt520.2.2.1, bt520.2.2.2.1, bt520.2.2.2.2.1⟩ : S42), bt520.2.2.2.2.2.1, bt520.2.2.2.2.2.2.1, bt520.2.2.2.2.2.2.2.1⟩ : S44)]) (wrap64 (x4 + 1)) x1000 bt520.2.2.2.2.2.2.2.2.1 bt520.2.2.2.2.2.2.2.2.2) else (none))) else (some (x3, bt517.2.1, bt517.2.2)))
def spec_l6List.f (k : Nat) (s0_0 : List Int) (s0_1 : Int) (s0_2 : Int) : Option ((List (S44)) × Int × Int) := spec_l6List.l0 k (([] : List (S44))) 1 s0_0 s0_1 s0_2
theorem spec_l6List.mono_l : ∀ k, (∀ y0 y1 y2 y3 y4, LeO (spec_l6List.l0 k y0 y1 y2 y3 y4) (spec_l6List.l0 (k + 1) y0 y1 y2 y3 y4))
  | 0 => fun _ _ _ _ _ r h => by simp [spec_l6List.l0] at h
  | k + 1 => by
    have ih0 := spec_l6List.mono_l k
    · intro y0 y1 y2 y3 y4
      unfold spec_l6List.l0
      exact mo_
theorem spec_l6List.mono : ∀ a0 a1 a2 k, LeO (spec_l6List.f k a0 a1 a2) (spec_l6List.f (k + 1) a0 a1 a2) := by
  intro a0 a1 a2 k
  have ih0 := spec_l6List.mono_l k
  unfold spec_l6List.f
  exact mo_
set_option maxHeartbeats 8000000 in
set_option maxRecDepth 100000 in
theorem spec_l6List.calls (k : Nat) (g : Nat) (s0_0 : List Int) (s0_1 : Int) (s0_2 : Int) (r1 : List (S44)) (r2 : Int) (r3 : Int) (w0 w : World) (hI : IsS103 w0 w g s0_0 s0_1 s0_2) (hB : Below w0.heap.size w0 w) (h : spec_l6List.f k s0_0 s0_1 s0_2 = some (r1, r2, r3)) :
    Calls Tryd.prog 109 #[.pointer (some ⟨g, 0, none⟩)] w fun e w' => ∃ v0_ : Value, e = .returned (v0_) ∧ Kd.R k44 44 w' w.heap.size (fun _ => True) v0_ r1 ∧ IsS103 w0 w' g s0_0 r2 r3 ∧ Below w0.heap.size w0 w' ∧ KeepBut w w' g none := by
  have HI0 := o_ hI
  have HK := o_ (KeepBut.refl w g none)
  have HL := o_ hB.size
  clear hI
  have HW0 := o_ hB.size
  have HB := o_ hB
  clear hB
  have H : (spec_l6List.l0 k (([] : List (S44))) 1 s0_0 s0_1 s0_2) = some (r1, r2, r3) := h
  clear h
  obtain ⟨y514, hy514⟩ : ∃ y_ : List (S44), y_ = (([] : List (S44))) := ⟨_, rfl⟩
  replace H : (spec_l6List.l0 k y514 1 s0_0 s0_1 s0_2) = some (r1, r2, r3) := by first | (rw [hy514]; with_reducible exact H) | (have H2_ := (Option.bind_some _ _).symm.trans H; rw [hy514]; with_reducible exact H2_) | (have H2_ := (Option.bind_some _ _).symm.trans H; with_reducible exact H2_) | with_reducible exact H | (rw [hy514]; exact H) | exact H
  have Ny514 := o_ hy514
  clear hy514
  have H' := o_ H
  clear H
  go_enter Tryd.func109, Tryd.ntmps109
  go_wp2_with (first | ((with_reducible refine gate_dst (N := 5) rfl ?_); refine Kd.R_lit k44 _ 44 ?hg (N := 5) ?hd (xs := ([] : List (S44))) (inner := []) (ok := fun _ => True) (okp := fun _ => True) ?hr ?hp (fun _ hk => hk) trivial (Below.refl _ _) (Nat.le_refl _) (by simp) ?_; (case hd => rfl); (case hg => rfl); (case hr => first | (go_simp; done) | (go_simp; rfl)); (case hp => exact (Reps.none _ _)); intro v515 w2 ho3 hb hg_ hnew_; clear hg_ hnew_; (first | rw [← Ny514.1] at ho3 | (simp only [Int.reduceToNat] at ho3; rw [← Ny514.1] at ho3)); have HO516 := o_ (Kd.R_lower ho3 (keep_size (w := w) (g := g) (row := none) wK_)); replace HK := o_ (KeepBut.trans wK_ (KeepBut.of_below hb g none) (.inl rfl)); replace HB := o_ (below_step (wB_) hb); replace HI0 := o_ (IsS103.below (wI_) hb); clear hb ho3))
  go_loopg [3, 4] k (fun kq v3 v4 w' => ∃ (x3_1 : List (S44)) (x4_1 : Int) (x1001_1 : Int) (x1002_1 : Int), v4 = .int .i64 x4_1 ∧ Aside0 (spec_l6List.l0 kq x3_1 x4_1 s0_0 x1001_1 x1002_1 = some (r1, r2, r3)) ∧ Aside0 (kq ≤ k) ∧ Aside0 (Kd.R k44 44 w' w.heap.size (fun _ => True) v3 x3_1) ∧ Aside0 (IsS103 w0 w' g s0_0 x1001_1 x1002_1) ∧ Aside0 (KeepBut w w' g none) ∧ Aside0 (Below w0.heap.size w0 w'))
  case atStart => exact ⟨(y514), (1), (s0_1), (s0_2), rs_, H', ⟨Nat.le_refl _⟩, ⟨rd_ HO516.1⟩, ⟨wI_⟩, ⟨wK_⟩, ⟨wB_⟩⟩
  case round =>
    clear H'
    try clear c1
    try clear p2
    obtain ⟨x3_1, x4_1, x1001_1, x1002_1, rfl, HA, HK1, HO_3, HI0, HK, HB⟩ := hrel
    cases gk with
    | zero => exact absurd HA.1 (by simp [spec_l6List.l0])
    | succ k1 =>
      have H := HA.1
      clear HA
      simp only [spec_l6List.l0] at H
      replace H := Option.bind_eq_some_iff.mp H
      obtain ⟨⟨t517, t518, t519⟩, A40, H⟩ := H
      try dsimp only at H
      have A4 := o_ A40
      clear A40
      by_cases c5 : x4_1 ≤ t517
      · rw [if_pos c5] at H
        have c5b0 := decide_eq_true c5
        clear c5
        replace H := Option.bind_eq_some_iff.mp H
        obtain ⟨⟨t520, t521, t522, t523, t524, t525, t526, t527, t528, t529⟩, A60, H⟩ := H
        try dsimp only at H
        have A6 := o_ A60
        clear A60
        by_cases c7 : x3_1.length < 2199023255552
        · rw [if_pos c7] at H
          have LMc7 := o_ c7
          clear c7
          obtain ⟨y530, hy530⟩ : ∃ y_ : List (S44), y_ = (x3_1 ++ [(⟨(⟨t520, t521, t522, t523, t524⟩ : S42), t525, t526, t527⟩ : S44)]) := ⟨_, rfl⟩
          replace H : (spec_l6List.l0 k1 y530 (wrap64 (x4_1 + 1)) s0_0 t528 t529) = some (r1, r2, r3) := by first | (rw [hy530]; with_reducible exact H) | (have H2_ := (Option.bind_some _ _).symm.trans H; rw [hy530]; with_reducible exact H2_) | (have H2_ := (Option.bind_some _ _).symm.trans H; with_reducible exact H2_) | with_reducible exact H | (rw [hy530]; exact H) | exact H
          have Ny530 := o_ hy530
          clear hy530
          have H' := o_ H
          clear H
          go_wp2_with (first | (refine gl_ (some 8) Tryd.func58 #[.pointer (some ⟨g, 0, none⟩), .int .i64 8] ?_; (with_reducible refine (spec_l1Below.calls g s0_0 x1001_1 x1002_1 8 t517 t518 t519 w0 _ ?side1 ?side2 A4.1).mono ?_); (case side1 => exact wI_); (case side2 => exact wB_); rintro e w8 ⟨rfl, hi, hb, hk⟩; refine ⟨_, rfl, ?_⟩; replace HO_3 := o_ (Kd.R_mono (Kd.R_keep (IsS103.apart (show IsS103 w0 _ g s0_0 x1001_1 x1002_1 from wI_) (rd_ HO_3.1) (by decide)) hk (fun _ h => h.2)) (fun _ h => h.1)); replace HK := o_ (KeepBut.trans wK_ hk (.inl rfl)); replace HB := o_ (hb); replace HI0 := o_ (hi); (try clear hb hk hi)) | (refine gl_ (some 16) Tryd.func120 #[.pointer (some ⟨g, 0, none⟩), .int .i64 (wrap64 (2 * x4_1))] ?_; (with_reducible refine (spec_l6Draw.calls g s0_0 t518 t519 (wrap64 (2 * x4_1)) t520 t521 t522 t523 t524 t525 t526 t527 t528 t529 w0 _ ?side1 ?side2 A6.1).mono ?_); (case side1 => exact wI_); (case side2 => exact wB_); rintro e w9 ⟨rfl, hi, hb, hk⟩; refine ⟨_, rfl, ?_⟩; replace HO_3 := o_ (Kd.R_mono (Kd.R_keep (IsS103.apart (show IsS103 w0 _ g s0_0 t518 t519 from wI_) (rd_ HO_3.1) (by decide)) hk (fun _ h => h.2)) (fun _ h => h.1)); replace HK := o_ (KeepBut.trans wK_ hk (.inl rfl)); replace HB := o_ (hb); replace HI0 := o_ (hi); (try clear hb hk hi)) | ((with_reducible refine gate_builtin (b := .append) (xs := #[.tmp 12, .tmp 17]) rfl ?_); at_builtin; refine Kd.R_append k44 w.heap.size rfl (.tmp 12) (.tmp 17) 114 44 (.agg #[(.int .i64 0), (.int .i64 0), (.int .i64 0), (.int .i64 0), (.int .i64 0), (.int .i64 0), (.int .i64 0), (.int .i64 0)]) 64 rfl Tryd.underlying114 info44 rfl (by decide) (by omega) u3 x3_1 (⟨(⟨t520, t521, t522, t523, t524⟩ : S42), t525, t526, t527⟩ : S44) [.int .i64 t520, .int .i64 t521, .int .i64 t522, .int .i64 t523, .int .i64 t524, .int .i64 t525, .int .i64 t526, .int .i64 t527] (fun _ => True) (fun _ => False) rfl rfl ?aP (fun _ hk => hk.elim) ?aF ?aO (Below.refl _ _) ?aS ?aL ?_; (case aP => exact k44_mkM _ _ _ (⟨(⟨t520, t521, t522, t523, t524⟩ : S42), t525, t526, t527⟩ : S44)); (case aF => exact (fun _ _ => trivial)); (case aO => exact rd_ HO_3.1); (case aS => exact (keep_size (w := w) (g := g) (row := none) wK_)); (case aL => have := LMc7.1; omega); intro v531 w10 ho hb hg hat; rw [← Ny530.1] at ho; replace HB := o_ (below_weaken (wB_) HL.1 hb); replace HI0 := o_ (IsS103.grown (wI_) hg (IsS103.own_ne HI0.1 HO_3.1 (by decide))); replace HK := o_ (KeepBut.trans wK_ (KeepBut.of_grown hg g) (Kd.R_base2 HO_3.1)); have HO532 := o_ (ho); clear HO_3 ho hb hg hat))
          go_roundg k1
          case measure => have := HK1.1; omega
          case rel => exact ⟨(y530), (wrap64 (x4_1 + 1)), (t528), (t529), rs_, H', ⟨by have := HK1.1; omega⟩, ⟨rd_ HO532.1⟩, ⟨wI_⟩, ⟨wK_⟩, ⟨wB_⟩⟩
        · rw [if_neg c7] at H
          exact absurd H (by simp)
      · rw [if_neg c5] at H
        have c5b0 := decide_eq_false c5
        clear c5
        simp only [Option.some.injEq, Prod.mk.injEq] at H
        obtain ⟨rfl, rfl, rfl⟩ := H
        go_wp2_with (first | (refine gl_ (some 8) Tryd.func58 #[.pointer (some ⟨g, 0, none⟩), .int .i64 8] ?_; (with_reducible refine (spec_l1Below.calls g s0_0 x1001_1 x1002_1 8 t517 t518 t519 w0 _ ?side1 ?side2 A4.1).mono ?_); (case side1 => exact wI_); (case side2 => exact wB_); rintro e w11 ⟨rfl, hi, hb, hk⟩; refine ⟨_, rfl, ?_⟩; replace HO_3 := o_ (Kd.R_mono (Kd.R_keep (IsS103.apart (show IsS103 w0 _ g s0_0 x1001_1 x1002_1 from wI_) (rd_ HO_3.1) (by decide)) hk (fun _ h => h.2)) (fun _ h => h.1)); replace HK := o_ (KeepBut.trans wK_ hk (.inl rfl)); replace HB := o_ (hb); replace HI0 := o_ (hi); (try clear hb hk hi)))
        go_ret
        exact ⟨_, by first | rfl | (simp [errW_none, errW_some] <;> rfl) | (simp [*, errW_none, errW_some] <;> rfl), rd_ HO_3.1, wI_, wB_, wK_⟩

/-! ### spec_l4Any: function 110 -/
def spec_l4Any.f (s0_0 : List Int) (s0_1 : Int) (s0_2 : Int) : Option (Int × Int × Int × Int × Int × Int × Int) := (spec_l1Below.f s0_0 s0_1 s0_2 40).bind fun bt534 => ((spec_l4Draw.f s0_0 bt534.2.1 bt534.2.2 (wrap64 (1 + bt534.1))).bind fun bt537 => ((spec_l1Below.f s0_0 bt537.2.2.2.2.2.1 bt537.2.2.2.2.2.2 14).bind fun bt545 => (if bt545.1 = 0 then ((spec_l1Int.f s0_0 bt545.2.1 bt545.2.2 (([0, 999, 1000] : List Int))).bind fun bt551 => (some (bt551.1, bt537.2.1, bt537.2.2.1, bt537.2.2.2.1, bt537.2.2.2.2.1, bt551.2.1, bt551.2.2))) else (if bt545.1 = 1 then ((spec_l1Int.f s0_0 bt545.2.1 bt545.2.2 (([0, 8, 9] : List Int))).bind fun bt557 => (some (bt537.1, bt557.1, bt537.2.2.1, bt537.2.2.2.1, bt537.2.2.2.2.1, bt557.2.1, bt557.2.2))) else (if bt545.1 = 2 then ((spec_l1Int.f s0_0 bt545.2.1 bt545.2.2 (([(-1), 7, 8] : List Int))).bind fun bt563 => (some (bt537.1, bt537.2.1, bt563.1, bt537.2.2.2.1, bt537.2.2.2.2.1, bt563.2.1, bt563.2.2))) else (if bt545.1 = 3 then ((spec_l4Raw.f s0_0 bt545.2.1 bt545.2.2).bind fun bt566 => (some (bt537.1, bt537.2.1, bt537.2.2.1, bt566.1, bt537.2.2.2.2.1, bt566.2.1, bt566.2.2))) else (if bt545.1 = 4 then ((spec_l1Int.f s0_0 bt545.2.1 bt545.2.2 (([(-1), 10000000, 10000001] : List Int))).bind fun bt572 => (some (bt537.1, bt537.2.1, bt537.2.2.1, bt537.2.2.2.1, bt572.1, bt572.2.1, bt572.2.2))) else (some (bt537.1, bt537.2.1, bt537.2.2.1, bt537.2.2.2.1, bt537.2.2.2.2.1, bt545.2.1, bt545.2.2)))))))))
abbrev c206_ (i0 : Int) (i1 : Int) (i2 : Int) (i3 : Int) (i4 : Int) : Obj := .cells #[.int .i64 i0, .int .i64 i1, .int .i64 i2, .int .i64 i3, .int .i64 i4] 42 (0, 0)
theorem e207_ {w : World} {g : Nat} {t : TypeId} {i0 : Int} {i1 : Int} {i2 : Int} {i3 : Int} {i4 : Int} (h : w.heap[g]? = some (.cells #[.int .i64 i0, .int .i64 i1, .int .i64 i2, .int .i64 i3, .int .i64 i4] t (0, 0))) : w.cell? ⟨g, 0, none⟩ = some (.int .i64 i0) ∧ w.cell? ⟨g, 1, none⟩ = some (.int .i64 i1) ∧ w.cell? ⟨g, 2, none⟩ = some (.int .i64 i2) ∧ w.cell? ⟨g, 3, none⟩ = some (.int .i64 i3) ∧ w.cell? ⟨g, 4, none⟩ = some (.int .i64 i4) := ⟨(blk_cell h 0).trans rfl, (blk_cell h 1).trans rfl, (blk_cell h 2).trans rfl, (blk_cell h 3).trans rfl, (blk_cell h 4).trans rfl⟩
theorem z208_ {w : World} {g : Nat} {t : TypeId} {cs : Array Value} (h : w.heap[g]? = some (.cells cs t (0, 0))) : w.frozen? ⟨g, 0, none⟩ = false ∧ w.frozen? ⟨g, 1, none⟩ = false ∧ w.frozen? ⟨g, 2, none⟩ = false ∧ w.frozen? ⟨g, 3, none⟩ = false ∧ w.frozen? ⟨g, 4, none⟩ = false := ⟨blk_frozen h 0, blk_frozen h 1, blk_frozen h 2, blk_frozen h 3, blk_frozen h 4⟩
theorem y216_ {P : Prop} (h : P := by rw [hg]; exact Nat.ne_of_lt (IsS103.lt (show IsS103 w0 _ g s0_0 t542 t543 from wI_))) : P := h
theorem y217_ {P : Prop} (h : P := by rw [hg]; exact Nat.ne_of_gt (IsS103.lt (show IsS103 w0 _ g s0_0 t542 t543 from wI_))) : P := h
theorem y218_ {P : Prop} (h : P := by rw [hg]; exact Nat.ne_of_lt (IsS103.lt (show IsS103 w0 _ g s0_0 s0_1 s0_2 from wI_))) : P := h
theorem y219_ {P : Prop} (h : P := by rw [hg]; exact Nat.ne_of_gt (IsS103.lt (show IsS103 w0 _ g s0_0 s0_1 s0_2 from wI_))) : P := h
theorem y228_ {P : Prop} (h : P := by rw [hg]; exact (keep_size (w := w) (g := g) (row := none) wK_)) : P := h
theorem y230_ {P : Prop} (h : P := by rw [hg]; exact Nat.ne_of_lt (blk_lt (bd_ BK533.1))) : P := h
theorem y231_ {P : Prop} (h : P := by rw [hg]; exact Nat.ne_of_gt (blk_lt (bd_ BK533.1))) : P := h
set_option maxHeartbeats 8000000 in
set_option maxRecDepth 100000 in
theorem spec_l4Any.calls (g : Nat) (s0_0 : List Int) (s0_1 : Int) (s0_2 : Int) (r1 : Int) (r2 : Int) (r3 : Int) (r4 : Int) (r5 : Int) (r6 : Int) (r7 : Int) (w0 w : World) (hI : IsS103 w0 w g s0_0 s0_1 s0_2) (hB : Below w0.heap.size w0 w) (h : spec_l4Any.f s0_0 s0_1 s0_2 = some (r1, r2, r3, r4, r5, r6, r7)) :
  Calls Tryd.prog 110 #[.pointer (some ⟨g, 0, none⟩)] w fun e w' => e = .returned (.agg #[.int .i64 r1, .int .i64 r2, .int .i64 r3, .int .i64 r4, .int .i64 r5]) ∧ IsS103 w0 w' g s0_0 r6 r7 ∧ Below w0.heap.size w0 w' ∧ KeepBut w w' g none := by
 have hu42 := Tryd.underlying42
 have HI0 := o_ hI
 have HK := o_ (KeepBut.refl w g none)
 have HL := o_ hB.size
 clear hI
 have HW0 := o_ hB.size
 have HB := o_ hB
 clear hB
 have H : ((spec_l1Below.f s0_0 s0_1 s0_2 40).bind fun bt534 => ((spec_l4Draw.f s0_0 bt534.2.1 bt534.2.2 (wrap64 (1 + bt534.1))).bind fun bt537 => ((spec_l1Below.f s0_0 bt537.2.2.2.2.2.1 bt537.2.2.2.2.2.2 14).bind fun bt545 => (if bt545.1 = 0 then ((spec_l1Int.f s0_0 bt545.2.1 bt545.2.2 (([0, 999, 1000] : List Int))).bind fun bt551 => (some (bt551.1, bt537.2.1, bt537.2.2.1, bt537.2.2.2.1, bt537.2.2.2.2.1, bt551.2.1, bt551.2.2))) else (if bt545.1 = 1 then ((spec_l1Int.f s0_0 bt545.2.1 bt545.2.2 (([0, 8, 9] : List Int))).bind fun bt557 => (some (bt537.1, bt557.1, bt537.2.2.1, bt537.2.2.2.1, bt537.2.2.2.2.1, bt557.2.1, bt557.2.2))) else (if bt545.1 = 2 then ((spec_l1Int.f s0_0 bt545.2.1 bt545.2.2 (([(-1), 7, 8] : List Int))).bind fun bt563 => (some (bt537.1, bt537.2.1, bt563.1, bt537.2.2.2.1, bt537.2.2.2.2.1, bt563.2.1, bt563.2.2))) else (if bt545.1 = 3 then ((spec_l4Raw.f s0_0 bt545.2.1 bt545.2.2).bind fun bt566 => (some (bt537.1, bt537.2.1, bt537.2.2.1, bt566.1, bt537.2.2.2.2.1, bt566.2.1, bt566.2.2))) else (if bt545.1 = 4 then ((spec_l1Int.f s0_0 bt545.2.1 bt545.2.2 (([(-1), 10000000, 10000001] : List Int))).bind fun bt572 => (some (bt537.1, bt537.2.1, bt537.2.2.1, bt537.2.2.2.1, bt572.1, bt572.2.1, bt572.2.2))) else (some (bt537.1, bt537.2.1, bt537.2.2.1, bt537.2.2.2.1, bt537.2.2.2.2.1, bt545.2.1, bt545.2.2)))))))))) = some (r1, r2, r3, r4, r5, r6, r7) := h
 clear h
 replace H := Option.bind_eq_some_iff.mp H
 obtain ⟨⟨t534, t535, t536⟩, A20, H⟩ := H
 try dsimp only at H
 have A2 := o_ A20
 clear A20
 replace H := Option.bind_eq_some_iff.mp H
 obtain ⟨⟨t537, t538, t539, t540, t541, t542, t543⟩, A30, H⟩ := H
 try dsimp only at H
 have A3 := o_ A30
 clear A30
 replace H := Option.bind_eq_some_iff.mp H
 obtain ⟨⟨t545, t546, t547⟩, A40, H⟩ := H
 try dsimp only at H
 have A4 := o_ A40
 clear A40
 by_cases c5 : t545 = 0
 ·
  rw [if_pos c5] at H
  have c5b0 := beq_iff_eq.mpr c5
  have c5b1 := bne_eq_false_iff_eq.mpr c5
  clear c5
  obtain ⟨y548, hy548⟩ : ∃ y_ : List Int, y_ = (([0, 999, 1000] : List Int)) := ⟨_, rfl⟩
  replace H : ((spec_l1Int.f s0_0 t546 t547 y548).bind fun bt551 => (some (bt551.1, t538, t539, t540, t541, bt551.2.1, bt551.2.2))) = some (r1, r2, r3, r4, r5, r6, r7) := by first | (rw [hy548]; with_reducible exact H) | (have H2_ := (Option.bind_some _ _).symm.trans H; rw [hy548]; with_reducible exact H2_) | (have H2_ := (Option.bind_some _ _).symm.trans H; with_reducible exact H2_) | with_reducible exact H | (rw [hy548]; exact H) | exact H
  have Ny548 := o_ hy548
  clear hy548
  replace H := Option.bind_eq_some_iff.mp H
  obtain ⟨⟨t551, t552, t553⟩, A60, H⟩ := H
  try dsimp only at H
  have A6 := o_ A60
  clear A60
  simp only [Option.some.injEq, Prod.mk.injEq] at H
  obtain ⟨rfl, rfl, rfl, rfl, rfl, rfl, rfl⟩ := H
  go_enter Tryd.func110, Tryd.ntmps110
  go_wp2_with (first | ((with_reducible refine gate_dst (N := 2) rfl ?_); refine bx_ 2 #[.int .i64 0, .int .i64 0, .int .i64 0, .int .i64 0, .int .i64 0] 42 ?_; intro gb533 hg w7 hbox hb; replace HB := o_ (below_step wB_ hb); have BK533 := o_ (hbox); have GW533 := o_ ((y228_ : w.heap.size ≤ gb533)); have GE533 := o_ ((Nat.le_trans HW0.1 (y228_ : w.heap.size ≤ gb533) : w0.heap.size ≤ gb533)); replace HK := o_ (KeepBut.trans wK_ (KeepBut.of_below hb g none) (.inl rfl)); have NB0_533 := o_ ((y218_ : g ≠ gb533)); have NB533_0 := o_ ((y219_ : gb533 ≠ g)); replace HI0 := o_ (IsS103.below wI_ hb); clear hb hbox hg) | (refine gl_ (some 6) Tryd.func58 #[.pointer (some ⟨g, 0, none⟩), .int .i64 40] ?_; (with_reducible refine (spec_l1Below.calls g s0_0 s0_1 s0_2 40 t534 t535 t536 w0 _ ?side1 ?side2 A2.1).mono ?_); (case side1 => exact wI_); (case side2 => exact wB_); rintro e w8 ⟨rfl, hi, hb, hk⟩; refine ⟨_, rfl, ?_⟩; replace BK533 := o_ (KeepBut.blk hk (g' := gb533) (o := c206_ 0 0 0 0 0) (bd_ BK533.1) NB533_0.1 (by simp)); replace HK := o_ (KeepBut.trans wK_ hk (.inl rfl)); replace HB := o_ (hb); replace HI0 := o_ (hi); (try clear hb hk hi)) | (refine gl_ (some 8) Tryd.func121 #[.pointer (some ⟨g, 0, none⟩), .int .i64 (wrap64 (1 + t534))] ?_; (with_reducible refine (spec_l4Draw.calls g s0_0 t535 t536 (wrap64 (1 + t534)) t537 t538 t539 t540 t541 t542 t543 w0 _ ?side1 ?side2 A3.1).mono ?_); (case side1 => exact wI_); (case side2 => exact wB_); rintro e w9 ⟨rfl, hi, hb, hk⟩; refine ⟨_, rfl, ?_⟩; replace BK533 := o_ (KeepBut.blk hk (g' := gb533) (o := c206_ 0 0 0 0 0) (bd_ BK533.1) NB533_0.1 (by simp)); replace HK := o_ (KeepBut.trans wK_ hk (.inl rfl)); replace HB := o_ (hb); replace HI0 := o_ (hi); (try clear hb hk hi)) | ((with_reducible refine gate_dst (N := 3) rfl ?_); refine bx_ 3 #[.int .i64 0, .int .i64 0, .int .i64 0, .int .i64 0, .int .i64 0] 42 ?_; intro gb544 hg w10 hbox hb; replace HB := o_ (below_step wB_ hb); have BK544 := o_ (hbox); have GW544 := o_ ((y228_ : w.heap.size ≤ gb544)); have GE544 := o_ ((Nat.le_trans HW0.1 (y228_ : w.heap.size ≤ gb544) : w0.heap.size ≤ gb544)); replace HK := o_ (KeepBut.trans wK_ (KeepBut.of_below hb g none) (.inl rfl)); have NB533_544 := o_ ((y230_ : gb533 ≠ gb544)); have NB544_533 := o_ ((y231_ : gb544 ≠ gb533)); replace BK533 := o_ (blk_below (bd_ BK533.1) hb); have NB0_544 := o_ ((y216_ : g ≠ gb544)); have NB544_0 := o_ ((y217_ : gb544 ≠ g)); replace HI0 := o_ (IsS103.below wI_ hb); clear hb hbox hg; have hnb11 := NB544_533.1; have hnc11 := NB533_544.1; have hnb12 := NB544_0.1; have hnc12 := NB0_544.1; obtain ⟨hcz13_0, hcz13_1, hcz13_2, hcz13_3, hcz13_4⟩ := e207_ BK544.1; obtain ⟨hfz13_0, hfz13_1, hfz13_2, hfz13_3, hfz13_4⟩ := z208_ BK544.1) | (refine gl_ (some 10) Tryd.func58 #[.pointer (some ⟨g, 0, none⟩), .int .i64 14] ?_; (with_reducible refine (spec_l1Below.calls g s0_0 t542 t543 14 t545 t546 t547 w0 _ ?side1 ?side2 A4.1).mono ?_); (case side1 => exact wI_); (case side2 => exact wB_); rintro e w14 ⟨rfl, hi, hb, hk⟩; refine ⟨_, rfl, ?_⟩; replace BK533 := o_ (KeepBut.blk hk (g' := gb533) (o := c206_ 0 0 0 0 0) (bk_ BK533.1) NB533_0.1 (by simp)); replace BK544 := o_ (KeepBut.blk hk (g' := gb544) (o := c206_ t537 t538 t539 t540 t541) (bk_ BK544.1) NB544_0.1 (by simp)); replace HK := o_ (KeepBut.trans wK_ hk (.inl rfl)); replace HB := o_ (hb); replace HI0 := o_ (hi); (try clear hb hk hi)) | ((with_reducible refine gate_dst (N := 14) rfl ?_); refine Kd.R_lit (Kd.int .i64) _ 3 ?hg (N := 14) ?hd (xs := ([0, 999, 1000] : List Int)) (inner := [.int .i64 0, .int .i64 999, .int .i64 1000]) (ok := fun _ => True) (okp := fun _ => True) ?hr ?hp (fun _ hk => hk) trivial (Below.refl _ _) (Nat.le_refl _) (by simp) ?_; (case hd => rfl); (case hg => rfl); (case hr => first | (go_simp; done) | (go_simp; rfl)); (case hp => exact (Reps.one (show Kd.M (Kd.int .i64) _ _ _ 0 [.int .i64 0] from rfl) (Reps.one (show Kd.M (Kd.int .i64) _ _ _ 999 [.int .i64 999] from rfl) (Reps.one (show Kd.M (Kd.int .i64) _ _ _ 1000 [.int .i64 1000] from rfl) (Reps.none _ _))))); intro v549 w15 ho16 hb hg_ hnew_; clear hg_ hnew_; (first | rw [← Ny548.1] at ho16 | (simp only [Int.reduceToNat] at ho16; rw [← Ny548.1] at ho16)); have HO550 := o_ (Kd.R_lower ho16 (keep_size (w := w) (g := g) (row := none) wK_)); replace BK533 := o_ (blk_below (bd_ BK533.1) hb); replace BK544 := o_ (blk_below (bd_ BK544.1) hb); replace HK := o_ (KeepBut.trans wK_ (KeepBut.of_below hb g none) (.inl rfl)); replace HB := o_ (below_step (wB_) hb); replace HI0 := o_ (IsS103.below (wI_) hb); clear hb ho16; obtain ⟨Ao17, co17, eo17⟩ := Kd.R_slice HO550.1; subst eo17) | (refine gl_ (some 15) Tryd.func81 #[.pointer (some ⟨g, 0, none⟩), .slice Ao17 y548.length co17] ?_; (with_reducible refine (spec_l1Int.calls g s0_0 t546 t547 _ _ y548 t551 t552 t553 w0 _ ?side1 ?side2 ?side3 ?side4 ?side5 A6.1).mono ?_); (case side1 => exact wI_); (case side2 => exact wB_); (case side3 => exact cd_ (Kd.R_reads' HO550.1).2.2); (case side4 => exact (Kd.R_reads' HO550.1).2.1); (case side5 => exact far_slice (IsS103.own_ne HI0.1 HO550.1 (by decide))); rintro e w18 ⟨rfl, hi, hb, hk⟩; refine ⟨_, rfl, ?_⟩; replace BK533 := o_ (KeepBut.blk hk (g' := gb533) (o := c206_ 0 0 0 0 0) (bd_ BK533.1) NB533_0.1 (by simp)); replace BK544 := o_ (KeepBut.blk hk (g' := gb544) (o := c206_ t537 t538 t539 t540 t541) (bd_ BK544.1) NB544_0.1 (by simp)); replace HO550 := o_ (Kd.R_mono (Kd.R_keep (IsS103.apart (show IsS103 w0 _ g s0_0 t546 t547 from wI_) (rd_ HO550.1) (by decide)) hk (fun _ h => h.2)) (fun _ h => h.1)); replace HK := o_ (KeepBut.trans wK_ hk (.inl rfl)); replace HB := o_ (hb); replace HI0 := o_ (hi); (try clear hb hk hi); obtain ⟨hcz19_0, hcz19_1, hcz19_2, hcz19_3, hcz19_4⟩ := e207_ BK544.1; obtain ⟨hfz19_0, hfz19_1, hfz19_2, hfz19_3, hfz19_4⟩ := z208_ BK544.1; have hnb20 := NB533_0.1; have hnc20 := NB0_533.1; obtain ⟨hcz21_0, hcz21_1, hcz21_2, hcz21_3, hcz21_4⟩ := e207_ BK533.1; obtain ⟨hfz21_0, hfz21_1, hfz21_2, hfz21_3, hfz21_4⟩ := z208_ BK533.1))
  refine bodyPost_ret (results_cell_row rfl _ _ gb533 42 #[.int .i64 t551, .int .i64 t538, .int .i64 t539, .int .i64 t540, .int .i64 t541] (0, 0) _ rfl (bk_ BK533.1) Tryd.underlying42 rfl (by kernel_rfl)) rfl ?_
  exact ⟨rt_, wI_, wB_, wK_⟩
 ·
  rw [if_neg c5] at H
  have c5b0 := beq_eq_false_iff_ne.mpr c5
  have c5b1 := bne_iff_ne.mpr c5
  by_cases c22 : t545 = 1
  ·
   rw [if_pos c22] at H
   have c22b0 := beq_iff_eq.mpr c22
   have c22b1 := bne_eq_false_iff_eq.mpr c22
   clear c22
   obtain ⟨y554, hy554⟩ : ∃ y_ : List Int, y_ = (([0, 8, 9] : List Int)) := ⟨_, rfl⟩
   replace H : ((spec_l1Int.f s0_0 t546 t547 y554).bind fun bt557 => (some (t537, bt557.1, t539, t540, t541, bt557.2.1, bt557.2.2))) = some (r1, r2, r3, r4, r5, r6, r7) := by first | (rw [hy554]; with_reducible exact H) | (have H2_ := (Option.bind_some _ _).symm.trans H; rw [hy554]; with_reducible exact H2_) | (have H2_ := (Option.bind_some _ _).symm.trans H; with_reducible exact H2_) | with_reducible exact H | (rw [hy554]; exact H) | exact H
   have Ny554 := o_ hy554
   clear hy554
   replace H := Option.bind_eq_some_iff.mp H
   obtain ⟨⟨t557, t558, t559⟩, A230, H⟩ := H
   try dsimp only at H
   have A23 := o_ A230
   clear A230
   simp only [Option.some.injEq, Prod.mk.injEq] at H
   obtain ⟨rfl, rfl, rfl, rfl, rfl, rfl, rfl⟩ := H
   go_enter Tryd.func110, Tryd.ntmps110
   go_wp2_with (first | ((with_reducible refine gate_dst (N := 2) rfl ?_); refine bx_ 2 #[.int .i64 0, .int .i64 0, .int .i64 0, .int .i64 0, .int .i64 0] 42 ?_; intro gb533 hg w24 hbox hb; replace HB := o_ (below_step wB_ hb); have BK533 := o_ (hbox); have GW533 := o_ ((y228_ : w.heap.size ≤ gb533)); have GE533 := o_ ((Nat.le_trans HW0.1 (y228_ : w.heap.size ≤ gb533) : w0.heap.size ≤ gb533)); replace HK := o_ (KeepBut.trans wK_ (KeepBut.of_below hb g none) (.inl rfl)); have NB0_533 := o_ ((y218_ : g ≠ gb533)); have NB533_0 := o_ ((y219_ : gb533 ≠ g)); replace HI0 := o_ (IsS103.below wI_ hb); clear hb hbox hg) | (refine gl_ (some 6) Tryd.func58 #[.pointer (some ⟨g, 0, none⟩), .int .i64 40] ?_; (with_reducible refine (spec_l1Below.calls g s0_0 s0_1 s0_2 40 t534 t535 t536 w0 _ ?side1 ?side2 A2.1).mono ?_); (case side1 => exact wI_); (case side2 => exact wB_); rintro e w25 ⟨rfl, hi, hb, hk⟩; refine ⟨_, rfl, ?_⟩; replace BK533 := o_ (KeepBut.blk hk (g' := gb533) (o := c206_ 0 0 0 0 0) (bd_ BK533.1) NB533_0.1 (by simp)); replace HK := o_ (KeepBut.trans wK_ hk (.inl rfl)); replace HB := o_ (hb); replace HI0 := o_ (hi); (try clear hb hk hi)) | (refine gl_ (some 8) Tryd.func121 #[.pointer (some ⟨g, 0, none⟩), .int .i64 (wrap64 (1 + t534))] ?_; (with_reducible refine (spec_l4Draw.calls g s0_0 t535 t536 (wrap64 (1 + t534)) t537 t538 t539 t540 t541 t542 t543 w0 _ ?side1 ?side2 A3.1).mono ?_); (case side1 => exact wI_); (case side2 => exact wB_); rintro e w26 ⟨rfl, hi, hb, hk⟩; refine ⟨_, rfl, ?_⟩; replace BK533 := o_ (KeepBut.blk hk (g' := gb533) (o := c206_ 0 0 0 0 0) (bd_ BK533.1) NB533_0.1 (by simp)); replace HK := o_ (KeepBut.trans wK_ hk (.inl rfl)); replace HB := o_ (hb); replace HI0 := o_ (hi); (try clear hb hk hi)) | ((with_reducible refine gate_dst (N := 3) rfl ?_); refine bx_ 3 #[.int .i64 0, .int .i64 0, .int .i64 0, .int .i64 0, .int .i64 0] 42 ?_; intro gb544 hg w27 hbox hb; replace HB := o_ (below_step wB_ hb); have BK544 := o_ (hbox); have GW544 := o_ ((y228_ : w.heap.size ≤ gb544)); have GE544 := o_ ((Nat.le_trans HW0.1 (y228_ : w.heap.size ≤ gb544) : w0.heap.size ≤ gb544)); replace HK := o_ (KeepBut.trans wK_ (KeepBut.of_below hb g none) (.inl rfl)); have NB533_544 := o_ ((y230_ : gb533 ≠ gb544)); have NB544_533 := o_ ((y231_ : gb544 ≠ gb533)); replace BK533 := o_ (blk_below (bd_ BK533.1) hb); have NB0_544 := o_ ((y216_ : g ≠ gb544)); have NB544_0 := o_ ((y217_ : gb544 ≠ g)); replace HI0 := o_ (IsS103.below wI_ hb); clear hb hbox hg; have hnb28 := NB544_533.1; have hnc28 := NB533_544.1; have hnb29 := NB544_0.1; have hnc29 := NB0_544.1; obtain ⟨hcz30_0, hcz30_1, hcz30_2, hcz30_3, hcz30_4⟩ := e207_ BK544.1; obtain ⟨hfz30_0, hfz30_1, hfz30_2, hfz30_3, hfz30_4⟩ := z208_ BK544.1) | (refine gl_ (some 10) Tryd.func58 #[.pointer (some ⟨g, 0, none⟩), .int .i64 14] ?_; (with_reducible refine (spec_l1Below.calls g s0_0 t542 t543 14 t545 t546 t547 w0 _ ?side1 ?side2 A4.1).mono ?_); (case side1 => exact wI_); (case side2 => exact wB_); rintro e w31 ⟨rfl, hi, hb, hk⟩; refine ⟨_, rfl, ?_⟩; replace BK533 := o_ (KeepBut.blk hk (g' := gb533) (o := c206_ 0 0 0 0 0) (bk_ BK533.1) NB533_0.1 (by simp)); replace BK544 := o_ (KeepBut.blk hk (g' := gb544) (o := c206_ t537 t538 t539 t540 t541) (bk_ BK544.1) NB544_0.1 (by simp)); replace HK := o_ (KeepBut.trans wK_ hk (.inl rfl)); replace HB := o_ (hb); replace HI0 := o_ (hi); (try clear hb hk hi)) | ((with_reducible refine gate_dst (N := 20) rfl ?_); refine Kd.R_lit (Kd.int .i64) _ 3 ?hg (N := 20) ?hd (xs := ([0, 8, 9] : List Int)) (inner := [.int .i64 0, .int .i64 8, .int .i64 9]) (ok := fun _ => True) (okp := fun _ => True) ?hr ?hp (fun _ hk => hk) trivial (Below.refl _ _) (Nat.le_refl _) (by simp) ?_; (case hd => rfl); (case hg => rfl); (case hr => first | (go_simp; done) | (go_simp; rfl)); (case hp => exact (Reps.one (show Kd.M (Kd.int .i64) _ _ _ 0 [.int .i64 0] from rfl) (Reps.one (show Kd.M (Kd.int .i64) _ _ _ 8 [.int .i64 8] from rfl) (Reps.one (show Kd.M (Kd.int .i64) _ _ _ 9 [.int .i64 9] from rfl) (Reps.none _ _))))); intro v555 w32 ho33 hb hg_ hnew_; clear hg_ hnew_; (first | rw [← Ny554.1] at ho33 | (simp only [Int.reduceToNat] at ho33; rw [← Ny554.1] at ho33)); have HO556 := o_ (Kd.R_lower ho33 (keep_size (w := w) (g := g) (row := none) wK_)); replace BK533 := o_ (blk_below (bd_ BK533.1) hb); replace BK544 := o_ (blk_below (bd_ BK544.1) hb); replace HK := o_ (KeepBut.trans wK_ (KeepBut.of_below hb g none) (.inl rfl)); replace HB := o_ (below_step (wB_) hb); replace HI0 := o_ (IsS103.below (wI_) hb); clear hb ho33; obtain ⟨Ao34, co34, eo34⟩ := Kd.R_slice HO556.1; subst eo34) | (refine gl_ (some 21) Tryd.func81 #[.pointer (some ⟨g, 0, none⟩), .slice Ao34 y554.length co34] ?_; (with_reducible refine (spec_l1Int.calls g s0_0 t546 t547 _ _ y554 t557 t558 t559 w0 _ ?side1 ?side2 ?side3 ?side4 ?side5 A23.1).mono ?_); (case side1 => exact wI_); (case side2 => exact wB_); (case side3 => exact cd_ (Kd.R_reads' HO556.1).2.2); (case side4 => exact (Kd.R_reads' HO556.1).2.1); (case side5 => exact far_slice (IsS103.own_ne HI0.1 HO556.1 (by decide))); rintro e w35 ⟨rfl, hi, hb, hk⟩; refine ⟨_, rfl, ?_⟩; replace BK533 := o_ (KeepBut.blk hk (g' := gb533) (o := c206_ 0 0 0 0 0) (bd_ BK533.1) NB533_0.1 (by simp)); replace BK544 := o_ (KeepBut.blk hk (g' := gb544) (o := c206_ t537 t538 t539 t540 t541) (bd_ BK544.1) NB544_0.1 (by simp)); replace HO556 := o_ (Kd.R_mono (Kd.R_keep (IsS103.apart (show IsS103 w0 _ g s0_0 t546 t547 from wI_) (rd_ HO556.1) (by decide)) hk (fun _ h => h.2)) (fun _ h => h.1)); replace HK := o_ (KeepBut.trans wK_ hk (.inl rfl)); replace HB := o_ (hb); replace HI0 := o_ (hi); (try clear hb hk hi); obtain ⟨hcz36_0, hcz36_1, hcz36_2, hcz36_3, hcz36_4⟩ := e207_ BK544.1; obtain ⟨hfz36_0, hfz36_1, hfz36_2, hfz36_3, hfz36_4⟩ := z208_ BK544.1; have hnb37 := NB533_0.1; have hnc37 := NB0_533.1; obtain ⟨hcz38_0, hcz38_1, hcz38_2, hcz38_3, hcz38_4⟩ := e207_ BK533.1; obtain ⟨hfz38_0, hfz38_1, hfz38_2, hfz38_3, hfz38_4⟩ := z208_ BK533.1))
   refine bodyPost_ret (results_cell_row rfl _ _ gb533 42 #[.int .i64 t537, .int .i64 t557, .int .i64 t539, .int .i64 t540, .int .i64 t541] (0, 0) _ rfl (bk_ BK533.1) Tryd.underlying42 rfl (by kernel_rfl)) rfl ?_
   exact ⟨rt_, wI_, wB_, wK_⟩
  ·
   rw [if_neg c22] at H
   have c22b0 := beq_eq_false_iff_ne.mpr c22
   have c22b1 := bne_iff_ne.mpr c22
   by_cases c39 : t545 = 2
   ·
    rw [if_pos c39] at H
    have c39b0 := beq_iff_eq.mpr c39
    have c39b1 := bne_eq_false_iff_eq.mpr c39
    clear c39
    obtain ⟨y560, hy560⟩ : ∃ y_ : List Int, y_ = (([(-1), 7, 8] : List Int)) := ⟨_, rfl⟩
    replace H : ((spec_l1Int.f s0_0 t546 t547 y560).bind fun bt563 => (some (t537, t538, bt563.1, t540, t541, bt563.2.1, bt563.2.2))) = some (r1, r2, r3, r4, r5, r6, r7) := by first | (rw [hy560]; with_reducible exact H) | (have H2_ := (Option.bind_some _ _).symm.trans H; rw [hy560]; with_reducible exact H2_) | (have H2_ := (Option.bind_some _ _).symm.trans H; with_reducible exact H2_) | with_reducible exact H | (rw [hy560]; exact H) | exact H
    have Ny560 := o_ hy560
    clear hy560
    replace H := Option.bind_eq_some_iff.mp H
    obtain ⟨⟨t563, t564, t565⟩, A400, H⟩ := H
    try dsimp only at H
    have A40 := o_ A400
    clear A400
    simp only [Option.some.injEq, Prod.mk.injEq] at H
    obtain ⟨rfl, rfl, rfl, rfl, rfl, rfl, rfl⟩ := H
    go_enter Tryd.func110, Tryd.ntmps110
    go_wp2_with (first | ((with_reducible refine gate_dst (N := 2) rfl ?_); refine bx_ 2 #[.int .i64 0, .int .i64 0, .int .i64 0, .int .i64 0, .int .i64 0] 42 ?_; intro gb533 hg w41 hbox hb; replace HB := o_ (below_step wB_ hb); have BK533 := o_ (hbox); have GW533 := o_ ((y228_ : w.heap.size ≤ gb533)); have GE533 := o_ ((Nat.le_trans HW0.1 (y228_ : w.heap.size ≤ gb533) : w0.heap.size ≤ gb533)); replace HK := o_ (KeepBut.trans wK_ (KeepBut.of_below hb g none) (.inl rfl)); have NB0_533 := o_ ((y218_ : g ≠ gb533)); have NB533_0 := o_ ((y219_ : gb533 ≠ g)); replace HI0 := o_ (IsS103.below wI_ hb); clear hb hbox hg) | (refine gl_ (some 6) Tryd.func58 #[.pointer (some ⟨g, 0, none⟩), .int .i64 40] ?_; (with_reducible refine (spec_l1Below.calls g s0_0 s0_1 s0_2 40 t534 t535 t536 w0 _ ?side1 ?side2 A2.1).mono ?_); (case side1 => exact wI_); (case side2 => exact wB_); rintro e w42 ⟨rfl, hi, hb, hk⟩; refine ⟨_, rfl, ?_⟩; replace BK533 := o_ (KeepBut.blk hk (g' := gb533) (o := c206_ 0 0 0 0 0) (bd_ BK533.1) NB533_0.1 (by simp)); replace HK := o_ (KeepBut.trans wK_ hk (.inl rfl)); replace HB := o_ (hb); replace HI0 := o_ (hi); (try clear hb hk hi)) | (refine gl_ (some 8) Tryd.func121 #[.pointer (some ⟨g, 0, none⟩), .int .i64 (wrap64 (1 + t534))] ?_; (with_reducible refine (spec_l4Draw.calls g s0_0 t535 t536 (wrap64 (1 + t534)) t537 t538 t539 t540 t541 t542 t543 w0 _ ?side1 ?side2 A3.1).mono ?_); (case side1 => exact wI_); (case side2 => exact wB_); rintro e w43 ⟨rfl, hi, hb, hk⟩; refine ⟨_, rfl, ?_⟩; replace BK533 := o_ (KeepBut.blk hk (g' := gb533) (o := c206_ 0 0 0 0 0) (bd_ BK533.1) NB533_0.1 (by simp)); replace HK := o_ (KeepBut.trans wK_ hk (.inl rfl)); replace HB := o_ (hb); replace HI0 := o_ (hi); (try clear hb hk hi)) | ((with_reducible refine gate_dst (N := 3) rfl ?_); refine bx_ 3 #[.int .i64 0, .int .i64 0, .int .i64 0, .int .i64 0, .int .i64 0] 42 ?_; intro gb544 hg w44 hbox hb; replace HB := o_ (below_step wB_ hb); have BK544 := o_ (hbox); have GW544 := o_ ((y228_ : w.heap.size ≤ gb544)); have GE544 := o_ ((Nat.le_trans HW0.1 (y228_ : w.heap.size ≤ gb544) : w0.heap.size ≤ gb544)); replace HK := o_ (KeepBut.trans wK_ (KeepBut.of_below hb g none) (.inl rfl)); have NB533_544 := o_ ((y230_ : gb533 ≠ gb544)); have NB544_533 := o_ ((y231_ : gb544 ≠ gb533)); replace BK533 := o_ (blk_below (bd_ BK533.1) hb); have NB0_544 := o_ ((y216_ : g ≠ gb544)); have NB544_0 := o_ ((y217_ : gb544 ≠ g)); replace HI0 := o_ (IsS103.below wI_ hb); clear hb hbox hg; have hnb45 := NB544_533.1; have hnc45 := NB533_544.1; have hnb46 := NB544_0.1; have hnc46 := NB0_544.1; obtain ⟨hcz47_0, hcz47_1, hcz47_2, hcz47_3, hcz47_4⟩ := e207_ BK544.1; obtain ⟨hfz47_0, hfz47_1, hfz47_2, hfz47_3, hfz47_4⟩ := z208_ BK544.1) | (refine gl_ (some 10) Tryd.func58 #[.pointer (some ⟨g, 0, none⟩), .int .i64 14] ?_; (with_reducible refine (spec_l1Below.calls g s0_0 t542 t543 14 t545 t546 t547 w0 _ ?side1 ?side2 A4.1).mono ?_); (case side1 => exact wI_); (case side2 => exact wB_); rintro e w48 ⟨rfl, hi, hb, hk⟩; refine ⟨_, rfl, ?_⟩; replace BK533 := o_ (KeepBut.blk hk (g' := gb533) (o := c206_ 0 0 0 0 0) (bk_ BK533.1) NB533_0.1 (by simp)); replace BK544 := o_ (KeepBut.blk hk (g' := gb544) (o := c206_ t537 t538 t539 t540 t541) (bk_ BK544.1) NB544_0.1 (by simp)); replace HK := o_ (KeepBut.trans wK_ hk (.inl rfl)); replace HB := o_ (hb); replace HI0 := o_ (hi); (try clear hb hk hi)) | ((with_reducible refine gate_dst (N := 26) rfl ?_); refine Kd.R_lit (Kd.int .i64) _ 3 ?hg (N := 26) ?hd (xs := ([(-1), 7, 8] : List Int)) (inner := [.int .i64 (-1), .int .i64 7, .int .i64 8]) (ok := fun _ => True) (okp := fun _ => True) ?hr ?hp (fun _ hk => hk) trivial (Below.refl _ _) (Nat.le_refl _) (by simp) ?_; (case hd => rfl); (case hg => rfl); (case hr => first | (go_simp; done) | (go_simp; rfl)); (case hp => exact (Reps.one (show Kd.M (Kd.int .i64) _ _ _ (-1) [.int .i64 (-1)] from rfl) (Reps.one (show Kd.M (Kd.int .i64) _ _ _ 7 [.int .i64 7] from rfl) (Reps.one (show Kd.M (Kd.int .i64) _ _ _ 8 [.int .i64 8] from rfl) (Reps.none _ _))))); intro v561 w49 ho50 hb hg_ hnew_; clear hg_ hnew_; (first | rw [← Ny560.1] at ho50 | (simp only [Int.reduceToNat] at ho50; rw [← Ny560.1] at ho50)); have HO562 := o_ (Kd.R_lower ho50 (keep_size (w := w) (g := g) (row := none) wK_)); replace BK533 := o_ (blk_below (bd_ BK533.1) hb); replace BK544 := o_ (blk_below (bd_ BK544.1) hb); replace HK := o_ (KeepBut.trans wK_ (KeepBut.of_below hb g none) (.inl rfl)); replace HB := o_ (below_step (wB_) hb); replace HI0 := o_ (IsS103.below (wI_) hb); clear hb ho50; obtain ⟨Ao51, co51, eo51⟩ := Kd.R_slice HO562.1; subst eo51) | (refine gl_ (some 27) Tryd.func81 #[.pointer (some ⟨g, 0, none⟩), .slice Ao51 y560.length co51] ?_; (with_reducible refine (spec_l1Int.calls g s0_0 t546 t547 _ _ y560 t563 t564 t565 w0 _ ?side1 ?side2 ?side3 ?side4 ?side5 A40.1).mono ?_); (case side1 => exact wI_); (case side2 => exact wB_); (case side3 => exact cd_ (Kd.R_reads' HO562.1).2.2); (case side4 => exact (Kd.R_reads' HO562.1).2.1); (case side5 => exact far_slice (IsS103.own_ne HI0.1 HO562.1 (by decide))); rintro e w52 ⟨rfl, hi, hb, hk⟩; refine ⟨_, rfl, ?_⟩; replace BK533 := o_ (KeepBut.blk hk (g' := gb533) (o := c206_ 0 0 0 0 0) (bd_ BK533.1) NB533_0.1 (by simp)); replace BK544 := o_ (KeepBut.blk hk (g' := gb544) (o := c206_ t537 t538 t539 t540 t541) (bd_ BK544.1) NB544_0.1 (by simp)); replace HO562 := o_ (Kd.R_mono (Kd.R_keep (IsS103.apart (show IsS103 w0 _ g s0_0 t546 t547 from wI_) (rd_ HO562.1) (by decide)) hk (fun _ h => h.2)) (fun _ h => h.1)); replace HK := o_ (KeepBut.trans wK_ hk (.inl rfl)); replace HB := o_ (hb); replace HI0 := o_ (hi); (try clear hb hk hi); obtain ⟨hcz53_0, hcz53_1, hcz53_2, hcz53_3, hcz53_4⟩ := e207_ BK544.1; obtain ⟨hfz53_0, hfz53_1, hfz53_2, hfz53_3, hfz53_4⟩ := z208_ BK544.1; have hnb54 := NB533_0.1; have hnc54 := NB0_533.1; obtain ⟨hcz55_0, hcz55_1, hcz55_2, hcz55_3, hcz55_4⟩ := e207_ BK533.1; obtain ⟨hfz55_0, hfz55_1, hfz55_2, hfz55_3, hfz55_4⟩ := z208_ BK533.1))
    refine bodyPost_ret (results_cell_row rfl _ _ gb533 42 #[.int .i64 t537, .int .i64 t538, .int .i64 t563, .int .i64 t540, .int .i64 t541] (0, 0) _ rfl (bk_ BK533.1) Tryd.underlying42 rfl (by kernel_rfl)) rfl ?_
    exact ⟨rt_, wI_, wB_, wK_⟩
   ·
    rw [if_neg c39] at H
    have c39b0 := beq_eq_false_iff_ne.mpr c39
    have c39b1 := bne_iff_ne.mpr c39
    by_cases c56 : t545 = 3
    ·
     rw [if_pos c56] at H
     have c56b0 := beq_iff_eq.mpr c56
     have c56b1 := bne_eq_false_iff_eq.mpr c56
     clear c56
     replace H := Option.bind_eq_some_iff.mp H
     obtain ⟨⟨t566, t567, t568⟩, A570, H⟩ := H
     try dsimp only at H
     have A57 := o_ A570
     clear A570
     simp only [Option.some.injEq, Prod.mk.injEq] at H
     obtain ⟨rfl, rfl, rfl, rfl, rfl, rfl, rfl⟩ := H
     go_enter Tryd.func110, Tryd.ntmps110
     go_wp2_with (first | ((with_reducible refine gate_dst (N := 2) rfl ?_); refine bx_ 2 #[.int .i64 0, .int .i64 0, .int .i64 0, .int .i64 0, .int .i64 0] 42 ?_; intro gb533 hg w58 hbox hb; replace HB := o_ (below_step wB_ hb); have BK533 := o_ (hbox); have GW533 := o_ ((y228_ : w.heap.size ≤ gb533)); have GE533 := o_ ((Nat.le_trans HW0.1 (y228_ : w.heap.size ≤ gb533) : w0.heap.size ≤ gb533)); replace HK := o_ (KeepBut.trans wK_ (KeepBut.of_below hb g none) (.inl rfl)); have NB0_533 := o_ ((y218_ : g ≠ gb533)); have NB533_0 := o_ ((y219_ : gb533 ≠ g)); replace HI0 := o_ (IsS103.below wI_ hb); clear hb hbox hg) | (refine gl_ (some 6) Tryd.func58 #[.pointer (some ⟨g, 0, none⟩), .int .i64 40] ?_; (with_reducible refine (spec_l1Below.calls g s0_0 s0_1 s0_2 40 t534 t535 t536 w0 _ ?side1 ?side2 A2.1).mono ?_); (case side1 => exact wI_); (case side2 => exact wB_); rintro e w59 ⟨rfl, hi, hb, hk⟩; refine ⟨_, rfl, ?_⟩; replace BK533 := o_ (KeepBut.blk hk (g' := gb533) (o := c206_ 0 0 0 0 0) (bd_ BK533.1) NB533_0.1 (by simp)); replace HK := o_ (KeepBut.trans wK_ hk (.inl rfl)); replace HB := o_ (hb); replace HI0 := o_ (hi); (try clear hb hk hi)) | (refine gl_ (some 8) Tryd.func121 #[.pointer (some ⟨g, 0, none⟩), .int .i64 (wrap64 (1 + t534))] ?_; (with_reducible refine (spec_l4Draw.calls g s0_0 t535 t536 (wrap64 (1 + t534)) t537 t538 t539 t540 t541 t542 t543 w0 _ ?side1 ?side2 A3.1).mono ?_); (case side1 => exact wI_); (case side2 => exact wB_); rintro e w60 ⟨rfl, hi, hb, hk⟩; refine ⟨_, rfl, ?_⟩; replace BK533 := o_ (KeepBut.blk hk (g' := gb533) (o := c206_ 0 0 0 0 0) (bd_ BK533.1) NB533_0.1 (by simp)); replace HK := o_ (KeepBut.trans wK_ hk (.inl rfl)); replace HB := o_ (hb); replace HI0 := o_ (hi); (try clear hb hk hi)) | ((with_reducible refine gate_dst (N := 3) rfl ?_); refine bx_ 3 #[.int .i64 0, .int .i64 0, .int .i64 0, .int .i64 0, .int .i64 0] 42 ?_; intro gb544 hg w61 hbox hb; replace HB := o_ (below_step wB_ hb); have BK544 := o_ (hbox); have GW544 := o_ ((y228_ : w.heap.size ≤ gb544)); have GE544 := o_ ((Nat.le_trans HW0.1 (y228_ : w.heap.size ≤ gb544) : w0.heap.size ≤ gb544)); replace HK := o_ (KeepBut.trans wK_ (KeepBut.of_below hb g none) (.inl rfl)); have NB533_544 := o_ ((y230_ : gb533 ≠ gb544)); have NB544_533 := o_ ((y231_ : gb544 ≠ gb533)); replace BK533 := o_ (blk_below (bd_ BK533.1) hb); have NB0_544 := o_ ((y216_ : g ≠ gb544)); have NB544_0 := o_ ((y217_ : gb544 ≠ g)); replace HI0 := o_ (IsS103.below wI_ hb); clear hb hbox hg; have hnb62 := NB544_533.1; have hnc62 := NB533_544.1; have hnb63 := NB544_0.1; have hnc63 := NB0_544.1; obtain ⟨hcz64_0, hcz64_1, hcz64_2, hcz64_3, hcz64_4⟩ := e207_ BK544.1; obtain ⟨hfz64_0, hfz64_1, hfz64_2, hfz64_3, hfz64_4⟩ := z208_ BK544.1) | (refine gl_ (some 10) Tryd.func58 #[.pointer (some ⟨g, 0, none⟩), .int .i64 14] ?_; (with_reducible refine (spec_l1Below.calls g s0_0 t542 t543 14 t545 t546 t547 w0 _ ?side1 ?side2 A4.1).mono ?_); (case side1 => exact wI_); (case side2 => exact wB_); rintro e w65 ⟨rfl, hi, hb, hk⟩; refine ⟨_, rfl, ?_⟩; replace BK533 := o_ (KeepBut.blk hk (g' := gb533) (o := c206_ 0 0 0 0 0) (bk_ BK533.1) NB533_0.1 (by simp)); replace BK544 := o_ (KeepBut.blk hk (g' := gb544) (o := c206_ t537 t538 t539 t540 t541) (bk_ BK544.1) NB544_0.1 (by simp)); replace HK := o_ (KeepBut.trans wK_ hk (.inl rfl)); replace HB := o_ (hb); replace HI0 := o_ (hi); (try clear hb hk hi)) | (refine gl_ (some 32) Tryd.func82 #[.pointer (some ⟨g, 0, none⟩)] ?_; (with_reducible refine (spec_l4Raw.calls g s0_0 t546 t547 t566 t567 t568 w0 _ ?side1 ?side2 A57.1).mono ?_); (case side1 => exact wI_); (case side2 => exact wB_); rintro e w66 ⟨rfl, hi, hb, hk⟩; refine ⟨_, rfl, ?_⟩; replace BK533 := o_ (KeepBut.blk hk (g' := gb533) (o := c206_ 0 0 0 0 0) (bd_ BK533.1) NB533_0.1 (by simp)); replace BK544 := o_ (KeepBut.blk hk (g' := gb544) (o := c206_ t537 t538 t539 t540 t541) (bd_ BK544.1) NB544_0.1 (by simp)); replace HK := o_ (KeepBut.trans wK_ hk (.inl rfl)); replace HB := o_ (hb); replace HI0 := o_ (hi); (try clear hb hk hi); obtain ⟨hcz67_0, hcz67_1, hcz67_2, hcz67_3, hcz67_4⟩ := e207_ BK544.1; obtain ⟨hfz67_0, hfz67_1, hfz67_2, hfz67_3, hfz67_4⟩ := z208_ BK544.1; have hnb68 := NB533_0.1; have hnc68 := NB0_533.1; obtain ⟨hcz69_0, hcz69_1, hcz69_2, hcz69_3, hcz69_4⟩ := e207_ BK533.1; obtain ⟨hfz69_0, hfz69_1, hfz69_2, hfz69_3, hfz69_4⟩ := z208_ BK533.1))
     refine bodyPost_ret (results_cell_row rfl _ _ gb533 42 #[.int .i64 t537, .int .i64 t538, .int .i64 t539, .int .i64 t566, .int .i64 t541] (0, 0) _ rfl (bk_ BK533.1) Tryd.underlying42 rfl (by kernel_rfl)) rfl ?_
     exact ⟨rt_, wI_, wB_, wK_⟩
    ·
     rw [if_neg c56] at H
     have c56b0 := beq_eq_false_iff_ne.mpr c56
     have c56b1 := bne_iff_ne.mpr c56
     by_cases c70 : t545 = 4
     ·
      rw [if_pos c70] at H
      have c70b0 := beq_iff_eq.mpr c70
      have c70b1 := bne_eq_false_iff_eq.mpr c70
      clear c70
      obtain ⟨y569, hy569⟩ : ∃ y_ : List Int, y_ = (([(-1), 10000000, 10000001] : List Int)) := ⟨_, rfl⟩
      replace H : ((spec_l1Int.f s0_0 t546 t547 y569).bind fun bt572 => (some (t537, t538, t539, t540, bt572.1, bt572.2.1, bt572.2.2))) = some (r1, r2, r3, r4, r5, r6, r7) := by first | (rw [hy569]; with_reducible exact H) | (have H2_ := (Option.bind_some _ _).symm.trans H; rw [hy569]; with_reducible exact H2_) | (have H2_ := (Option.bind_some _ _).symm.trans H; with_reducible exact H2_) | with_reducible exact H | (rw [hy569]; exact H) | exact H
      have Ny569 := o_ hy569
      clear hy569
      replace H := Option.bind_eq_some_iff.mp H
      obtain ⟨⟨t572, t573, t574⟩, A710, H⟩ := H
      try dsimp only at H
      have A71 := o_ A710
      clear A710
      simp only [Option.some.injEq, Prod.mk.injEq] at H
      obtain ⟨rfl, rfl, rfl, rfl, rfl, rfl, rfl⟩ := H
      go_enter Tryd.func110, Tryd.ntmps110
      go_wp2_with (first | ((with_reducible refine gate_dst (N := 2) rfl ?_); refine bx_ 2 #[.int .i64 0, .int .i64 0, .int .i64 0, .int .i64 0, .int .i64 0] 42 ?_; intro gb533 hg w72 hbox hb; replace HB := o_ (below_step wB_ hb); have BK533 := o_ (hbox); have GW533 := o_ ((y228_ : w.heap.size ≤ gb533)); have GE533 := o_ ((Nat.le_trans HW0.1 (y228_ : w.heap.size ≤ gb533) : w0.heap.size ≤ gb533)); replace HK := o_ (KeepBut.trans wK_ (KeepBut.of_below hb g none) (.inl rfl)); have NB0_533 := o_ ((y218_ : g ≠ gb533)); have NB533_0 := o_ ((y219_ : gb533 ≠ g)); replace HI0 := o_ (IsS103.below wI_ hb); clear hb hbox hg) | (refine gl_ (some 6) Tryd.func58 #[.pointer (some ⟨g, 0, none⟩), .int .i64 40] ?_; (with_reducible refine (spec_l1Below.calls g s0_0 s0_1 s0_2 40 t534 t535 t536 w0 _ ?side1 ?side2 A2.1).mono ?_); (case side1 => exact wI_); (case side2 => exact wB_); rintro e w73 ⟨rfl, hi, hb, hk⟩; refine ⟨_, rfl, ?_⟩; replace BK533 := o_ (KeepBut.blk hk (g' := gb533) (o := c206_ 0 0 0 0 0) (bd_ BK533.1) NB533_0.1 (by simp)); replace HK := o_ (KeepBut.trans wK_ hk (.inl rfl)); replace HB := o_ (hb); replace HI0 := o_ (hi); (try clear hb hk hi)) | (refine gl_ (some 8) Tryd.func121 #[.pointer (some ⟨g, 0, none⟩), .int .i64 (wrap64 (1 + t534))] ?_; (with_reducible refine (spec_l4Draw.calls g s0_0 t535 t536 (wrap64 (1 + t534)) t537 t538 t539 t540 t541 t542 t543 w0 _ ?side1 ?side2 A3.1).mono ?_); (case side1 => exact wI_); (case side2 => exact wB_); rintro e w74 ⟨rfl, hi, hb, hk⟩; refine ⟨_, rfl, ?_⟩; replace BK533 := o_ (KeepBut.blk hk (g' := gb533) (o := c206_ 0 0 0 0 0) (bd_ BK533.1) NB533_0.1 (by simp)); replace HK := o_ (KeepBut.trans wK_ hk (.inl rfl)); replace HB := o_ (hb); replace HI0 := o_ (hi); (try clear hb hk hi)) | ((with_reducible refine gate_dst (N := 3) rfl ?_); refine bx_ 3 #[.int .i64 0, .int .i64 0, .int .i64 0, .int .i64 0, .int .i64 0] 42 ?_; intro gb544 hg w75 hbox hb; replace HB := o_ (below_step wB_ hb); have BK544 := o_ (hbox); have GW544 := o_ ((y228_ : w.heap.size ≤ gb544)); have GE544 := o_ ((Nat.le_trans HW0.1 (y228_ : w.heap.size ≤ gb544) : w0.heap.size ≤ gb544)); replace HK := o_ (KeepBut.trans wK_ (KeepBut.of_below hb g none) (.inl rfl)); have NB533_544 := o_ ((y230_ : gb533 ≠ gb544)); have NB544_533 := o_ ((y231_ : gb544 ≠ gb533)); replace BK533 := o_ (blk_below (bd_ BK533.1) hb); have NB0_544 := o_ ((y216_ : g ≠ gb544)); have NB544_0 := o_ ((y217_ : gb544 ≠ g)); replace HI0 := o_ (IsS103.below wI_ hb); clear hb hbox hg; have hnb76 := NB544_533.1; have hnc76 := NB533_544.1; have hnb77 := NB544_0.1; have hnc77 := NB0_544.1; obtain ⟨hcz78_0, hcz78_1, hcz78_2, hcz78_3, hcz78_4⟩ := e207_ BK544.1; obtain ⟨hfz78_0, hfz78_1, hfz78_2, hfz78_3, hfz78_4⟩ := z208_ BK544.1) | (refine gl_ (some 10) Tryd.func58 #[.pointer (some ⟨g, 0, none⟩), .int .i64 14] ?_; (with_reducible refine (spec_l1Below.calls g s0_0 t542 t543 14 t545 t546 t547 w0 _ ?side1 ?side2 A4.1).mono ?_); (case side1 => exact wI_); (case side2 => exact wB_); rintro e w79 ⟨rfl, hi, hb, hk⟩; refine ⟨_, rfl, ?_⟩; replace BK533 := o_ (KeepBut.blk hk (g' := gb533) (o := c206_ 0 0 0 0 0) (bk_ BK533.1) NB533_0.1 (by simp)); replace BK544 := o_ (KeepBut.blk hk (g' := gb544) (o := c206_ t537 t538 t539 t540 t541) (bk_ BK544.1) NB544_0.1 (by simp)); replace HK := o_ (KeepBut.trans wK_ hk (.inl rfl)); replace HB := o_ (hb); replace HI0 := o_ (hi); (try clear hb hk hi)) | ((with_reducible refine gate_dst (N := 37) rfl ?_); refine Kd.R_lit (Kd.int .i64) _ 3 ?hg (N := 37) ?hd (xs := ([(-1), 10000000, 10000001] : List Int)) (inner := [.int .i64 (-1), .int .i64 10000000, .int .i64 10000001]) (ok := fun _ => True) (okp := fun _ => True) ?hr ?hp (fun _ hk => hk) trivial (Below.refl _ _) (Nat.le_refl _) (by simp) ?_; (case hd => rfl); (case hg => rfl); (case hr => first | (go_simp; done) | (go_simp; rfl)); (case hp => exact (Reps.one (show Kd.M (Kd.int .i64) _ _ _ (-1) [.int .i64 (-1)] from rfl) (Reps.one (show Kd.M (Kd.int .i64) _ _ _ 10000000 [.int .i64 10000000] from rfl) (Reps.one (show Kd.M (Kd.int .i64) _ _ _ 10000001 [.int .i64 10000001] from rfl) (Reps.none _ _))))); intro v570 w80 ho81 hb hg_ hnew_; clear hg_ hnew_; (first | rw [← Ny569.1] at ho81 | (simp only [Int.reduceToNat] at ho81; rw [← Ny569.1] at ho81)); have HO571 := o_ (Kd.R_lower ho81 (keep_size (w := w) (g := g) (row := none) wK_)); replace BK533 := o_ (blk_below (bd_ BK533.1) hb); replace BK544 := o_ (blk_below (bd_ BK544.1) hb); replace HK := o_ (KeepBut.trans wK_ (KeepBut.of_below hb g none) (.inl rfl)); replace HB := o_ (below_step (wB_) hb); replace HI0 := o_ (IsS103.below (wI_) hb); clear hb ho81; obtain ⟨Ao82, co82, eo82⟩ := Kd.R_slice HO571.1; subst eo82) | (refine gl_ (some 38) Tryd.func81 #[.pointer (some ⟨g, 0, none⟩), .slice Ao82 y569.length co82] ?_; (with_reducible refine (spec_l1Int.calls g s0_0 t546 t547 _ _ y569 t572 t573 t574 w0 _ ?side1 ?side2 ?side3 ?side4 ?side5 A71.1).mono ?_); (case side1 => exact wI_); (case side2 => exact wB_); (case side3 => exact cd_ (Kd.R_reads' HO571.1).2.2); (case side4 => exact (Kd.R_reads' HO571.1).2.1); (case side5 => exact far_slice (IsS103.own_ne HI0.1 HO571.1 (by decide))); rintro e w83 ⟨rfl, hi, hb, hk⟩; refine ⟨_, rfl, ?_⟩; replace BK533 := o_ (KeepBut.blk hk (g' := gb533) (o := c206_ 0 0 0 0 0) (bd_ BK533.1) NB533_0.1 (by simp)); replace BK544 := o_ (KeepBut.blk hk (g' := gb544) (o := c206_ t537 t538 t539 t540 t541) (bd_ BK544.1) NB544_0.1 (by simp)); replace HO571 := o_ (Kd.R_mono (Kd.R_keep (IsS103.apart (show IsS103 w0 _ g s0_0 t546 t547 from wI_) (rd_ HO571.1) (by decide)) hk (fun _ h => h.2)) (fun _ h => h.1)); replace HK := o_ (KeepBut.trans wK_ hk (.inl rfl)); replace HB := o_ (hb); replace HI0 := o_ (hi); (try clear hb hk hi); obtain ⟨hcz84_0, hcz84_1, hcz84_2, hcz84_3, hcz84_4⟩ := e207_ BK544.1; obtain ⟨hfz84_0, hfz84_1, hfz84_2, hfz84_3, hfz84_4⟩ := z208_ BK544.1; have hnb85 := NB533_0.1; have hnc85 := NB0_533.1; obtain ⟨hcz86_0, hcz86_1, hcz86_2, hcz86_3, hcz86_4⟩ := e207_ BK533.1; obtain ⟨hfz86_0, hfz86_1, hfz86_2, hfz86_3, hfz86_4⟩ := z208_ BK533.1))
      refine bodyPost_ret (results_cell_row rfl _ _ gb533 42 #[.int .i64 t537, .int .i64 t538, .int .i64 t539, .int .i64 t540, .int .i64 t572] (0, 0) _ rfl (bk_ BK533.1) Tryd.underlying42 rfl (by kernel_rfl)) rfl ?_
      exact ⟨rt_, wI_, wB_, wK_⟩
     ·
      rw [if_neg c70] at H
      have c70b0 := beq_eq_false_iff_ne.mpr c70
      have c70b1 := bne_iff_ne.mpr c70
      simp only [Option.some.injEq, Prod.mk.injEq] at H
      obtain ⟨rfl, rfl, rfl, rfl, rfl, rfl, rfl⟩ := H
      go_enter Tryd.func110, Tryd.ntmps110
      go_wp2_with (first | ((with_reducible refine gate_dst (N := 2) rfl ?_); refine bx_ 2 #[.int .i64 0, .int .i64 0, .int .i64 0, .int .i64 0, .int .i64 0] 42 ?_; intro gb533 hg w87 hbox hb; replace HB := o_ (below_step wB_ hb); have BK533 := o_ (hbox); have GW533 := o_ ((y228_ : w.heap.size ≤ gb533)); have GE533 := o_ ((Nat.le_trans HW0.1 (y228_ : w.heap.size ≤ gb533) : w0.heap.size ≤ gb533)); replace HK := o_ (KeepBut.trans wK_ (KeepBut.of_below hb g none) (.inl rfl)); have NB0_533 := o_ ((y218_ : g ≠ gb533)); have NB533_0 := o_ ((y219_ : gb533 ≠ g)); replace HI0 := o_ (IsS103.below wI_ hb); clear hb hbox hg) | (refine gl_ (some 6) Tryd.func58 #[.pointer (some ⟨g, 0, none⟩), .int .i64 40] ?_; (with_reducible refine (spec_l1Below.calls g s0_0 s0_1 s0_2 40 t534 t535 t536 w0 _ ?side1 ?side2 A2.1).mono ?_); (case side1 => exact wI_); (case side2 => exact wB_); rintro e w88 ⟨rfl, hi, hb, hk⟩; refine ⟨_, rfl, ?_⟩; replace BK533 := o_ (KeepBut.blk hk (g' := gb533) (o := c206_ 0 0 0 0 0) (bd_ BK533.1) NB533_0.1 (by simp)); replace HK := o_ (KeepBut.trans wK_ hk (.inl rfl)); replace HB := o_ (hb); replace HI0 := o_ (hi); (try clear hb hk hi)) | (refine gl_ (some 8) Tryd.func121 #[.pointer (some ⟨g, 0, none⟩), .int .i64 (wrap64 (1 + t534))] ?_; (with_reducible refine (spec_l4Draw.calls g s0_0 t535 t536 (wrap64 (1 + t534)) t537 t538 t539 t540 t541 t542 t543 w0 _ ?side1 ?side2 A3.1).mono ?_); (case side1 => exact wI_); (case side2 => exact wB_); rintro e w89 ⟨rfl, hi, hb, hk⟩; refine ⟨_, rfl, ?_⟩; replace BK533 := o_ (KeepBut.blk hk (g' := gb533) (o := c206_ 0 0 0 0 0) (bd_ BK533.1) NB533_0.1 (by simp)); replace HK := o_ (KeepBut.trans wK_ hk (.inl rfl)); replace HB := o_ (hb); replace HI0 := o_ (hi); (try clear hb hk hi)) | ((with_reducible refine gate_dst (N := 3) rfl ?_); refine bx_ 3 #[.int .i64 0, .int .i64 0, .int .i64 0, .int .i64 0, .int .i64 0] 42 ?_; intro gb544 hg w90 hbox hb; replace HB := o_ (below_step wB_ hb); have BK544 := o_ (hbox); have GW544 := o_ ((y228_ : w.heap.size ≤ gb544)); have GE544 := o_ ((Nat.le_trans HW0.1 (y228_ : w.heap.size ≤ gb544) : w0.heap.size ≤ gb544)); replace HK := o_ (KeepBut.trans wK_ (KeepBut.of_below hb g none) (.inl rfl)); have NB533_544 := o_ ((y230_ : gb533 ≠ gb544)); have NB544_533 := o_ ((y231_ : gb544 ≠ gb533)); replace BK533 := o_ (blk_below (bd_ BK533.1) hb); have NB0_544 := o_ ((y216_ : g ≠ gb544)); have NB544_0 := o_ ((y217_ : gb544 ≠ g)); replace HI0 := o_ (IsS103.below wI_ hb); clear hb hbox hg; have hnb91 := NB544_533.1; have hnc91 := NB533_544.1; have hnb92 := NB544_0.1; have hnc92 := NB0_544.1; obtain ⟨hcz93_0, hcz93_1, hcz93_2, hcz93_3, hcz93_4⟩ := e207_ BK544.1; obtain ⟨hfz93_0, hfz93_1, hfz93_2, hfz93_3, hfz93_4⟩ := z208_ BK544.1) | (refine gl_ (some 10) Tryd.func58 #[.pointer (some ⟨g, 0, none⟩), .int .i64 14] ?_; (with_reducible refine (spec_l1Below.calls g s0_0 t542 t543 14 t545 t546 t547 w0 _ ?side1 ?side2 A4.1).mono ?_); (case side1 => exact wI_); (case side2 => exact wB_); rintro e w94 ⟨rfl, hi, hb, hk⟩; refine ⟨_, rfl, ?_⟩; replace BK533 := o_ (KeepBut.blk hk (g' := gb533) (o := c206_ 0 0 0 0 0) (bk_ BK533.1) NB533_0.1 (by simp)); replace BK544 := o_ (KeepBut.blk hk (g' := gb544) (o := c206_ t537 t538 t539 t540 t541) (bk_ BK544.1) NB544_0.1 (by simp)); replace HK := o_ (KeepBut.trans wK_ hk (.inl rfl)); replace HB := o_ (hb); replace HI0 := o_ (hi); (try clear hb hk hi); obtain ⟨hcz95_0, hcz95_1, hcz95_2, hcz95_3, hcz95_4⟩ := e207_ BK544.1; obtain ⟨hfz95_0, hfz95_1, hfz95_2, hfz95_3, hfz95_4⟩ := z208_ BK544.1; have hnb96 := NB533_0.1; have hnc96 := NB0_533.1; obtain ⟨hcz97_0, hcz97_1, hcz97_2, hcz97_3, hcz97_4⟩ := e207_ BK533.1; obtain ⟨hfz97_0, hfz97_1, hfz97_2, hfz97_3, hfz97_4⟩ := z208_ BK533.1))
      refine bodyPost_ret (results_cell_row rfl _ _ gb533 42 #[.int .i64 t537, .int .i64 t538, .int .i64 t539, .int .i64 t540, .int .i64 t541] (0, 0) _ rfl (bk_ BK533.1) Tryd.underlying42 rfl (by kernel_rfl)) rfl ?_
      exact ⟨rt_, wI_, wB_, wK_⟩

end Go.Proofs.YtihnanfekchlhaaDoor.PFnForms
