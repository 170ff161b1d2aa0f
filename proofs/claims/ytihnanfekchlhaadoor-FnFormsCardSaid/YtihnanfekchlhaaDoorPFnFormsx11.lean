-- Written for this claim by a program (a printer turned to this claim); Lean checks it.
import Derived.Test.YtihnanfekchlhaaDoorPFnFormsx0
import Derived.Test.YtihnanfekchlhaaDoorPFnFormsx3
import Derived.Test.YtihnanfekchlhaaDoorPFnFormsx4
import Derived.Test.YtihnanfekchlhaaDoorPFnFormsx10
namespace Go.Proofs.YtihnanfekchlhaaDoor.PFnForms
open Go.RowKit Go.Proofs.YtihnanfekchlhaaDoorW.PrintWords Go.Proofs.YtihnanfekchlhaaDoorW.PrintLast Go.Proofs.YtihnanfekchlhaaDoorW.PrintMore
attribute [local go_sem] max2_int min2_int max_two min_two max_three min_three max_four min_four   -- for this text's walks alone
set_option linter.unusedVariables false
set_option linter.unusedSimpArgs false

/-! ### impl_ThingText: function 61 -/
def impl_ThingText.f (a0_0 : Int) (a0_1 : Int) (a0_2 : Int) (a0_3 : Int) (a0_4 : Int) : Option (ByteArray) := (impl_IsThing.f a0_0 a0_1 a0_2 a0_3 a0_4).bind fun t655 => (if t655 = true then ((impl_FormatInt.f a0_0).bind fun t656 => (if t656.size + 1 ≤ 9223372036854775807 then ((impl_ColourText.f a0_2).bind fun t657 => (if (t656 ++ (⟨#[32]⟩ : ByteArray)).size + t657.size ≤ 9223372036854775807 then (if ((t656 ++ (⟨#[32]⟩ : ByteArray)) ++ t657).size + 1 ≤ 9223372036854775807 then ((impl_KindText.f a0_1).bind fun t658 => (if (((t656 ++ (⟨#[32]⟩ : ByteArray)) ++ t657) ++ (⟨#[32]⟩ : ByteArray)).size + t658.size ≤ 9223372036854775807 then (if ((((t656 ++ (⟨#[32]⟩ : ByteArray)) ++ t657) ++ (⟨#[32]⟩ : ByteArray)) ++ t658).size + 1 ≤ 9223372036854775807 then ((impl_FormatInt.f a0_3).bind fun t659 => (if (((((t656 ++ (⟨#[32]⟩ : ByteArray)) ++ t657) ++ (⟨#[32]⟩ : ByteArray)) ++ t658) ++ (⟨#[32]⟩ : ByteArray)).size + t659.size ≤ 9223372036854775807 then (some ((((((t656 ++ (⟨#[32]⟩ : ByteArray)) ++ t657) ++ (⟨#[32]⟩ : ByteArray)) ++ t658) ++ (⟨#[32]⟩ : ByteArray)) ++ t659)) else (none))) else (none)) else (none))) else (none)) else (none))) else (none))) else (some (⟨#[]⟩ : ByteArray)))
def impl_ThingText.T3 : Bool × List (List Nat × List Nat) := (true, [([], []), ([0], [0]), ([1], [1]), ([2], [2]), ([], []), ([4], [4]), ([5, 2], [5]), ([3, 6], [3, 6]), ([7], [7]), ([], []), ([9], [9]), ([10, 6], [10]), ([8, 11], [8, 11]), ([12], [12]), ([], []), ([14], [14]), ([15, 11], [15]), ([13, 16], [13, 16]), ([17, 16, 0, 1, 2, 3, 4, 5, 6, 7, 8, 9, 10, 11, 12, 13, 14, 15, 16, 17], [17])])
def impl_ThingText.B3 : List Nat := [0, 1, 3, 7, 0, 16, 55, 127, 255, 0, 512, 1655, 4095, 8191, 0, 16384, 52855, 131071, 262143]
theorem impl_ThingText.tab3 : rtab .any (opsOf Tryd.f61 3) = impl_ThingText.T3 := by kernel_rfl
theorem impl_ThingText.bits3 : waitsOk impl_ThingText.T3.2 impl_ThingText.B3 = true := by kernel_rfl
abbrev M2_0 := bm_ 19 0
abbrev M2_1 := bm_ 19 1
abbrev M2_2 := bm_ 19 17
abbrev M2_3 := bm_ 19 529
abbrev M2_4 := bm_ 19 16913
abbrev M2_5 := bm_ 19 16915
abbrev M2_6 := bm_ 19 16947
abbrev M2_7 := bm_ 19 17971
abbrev M2_8 := bm_ 19 50739
abbrev M2_9 := bm_ 19 50743
abbrev M2_10 := bm_ 19 50751
abbrev M2_11 := bm_ 19 50815
abbrev M2_12 := bm_ 19 50943
abbrev M2_13 := bm_ 19 51199
abbrev M2_14 := bm_ 19 53247
abbrev M2_15 := bm_ 19 57343
abbrev M2_16 := bm_ 19 65535
abbrev M2_17 := bm_ 19 131071
abbrev M2_18 := bm_ 19 262143
abbrev M2_19 := bm_ 19 524287
abbrev c270_ (i0 : Int) (i1 : Int) (i2 : Int) (i3 : Int) (i4 : Int) : Obj := .cells #[.int .i64 i0, .int .i64 i1, .int .i64 i2, .int .i64 i3, .int .i64 i4] 42 (0, 0)
theorem e271_ {w : World} {g : Nat} {t : TypeId} {i0 : Int} {i1 : Int} {i2 : Int} {i3 : Int} {i4 : Int} (h : w.heap[g]? = some (.cells #[.int .i64 i0, .int .i64 i1, .int .i64 i2, .int .i64 i3, .int .i64 i4] t (0, 0))) : w.cell? ⟨g, 0, none⟩ = some (.int .i64 i0) ∧ w.cell? ⟨g, 1, none⟩ = some (.int .i64 i1) ∧ w.cell? ⟨g, 2, none⟩ = some (.int .i64 i2) ∧ w.cell? ⟨g, 3, none⟩ = some (.int .i64 i3) ∧ w.cell? ⟨g, 4, none⟩ = some (.int .i64 i4) := ⟨(blk_cell h 0).trans rfl, (blk_cell h 1).trans rfl, (blk_cell h 2).trans rfl, (blk_cell h 3).trans rfl, (blk_cell h 4).trans rfl⟩
theorem z272_ {w : World} {g : Nat} {t : TypeId} {cs : Array Value} (h : w.heap[g]? = some (.cells cs t (0, 0))) : w.frozen? ⟨g, 0, none⟩ = false ∧ w.frozen? ⟨g, 1, none⟩ = false ∧ w.frozen? ⟨g, 2, none⟩ = false ∧ w.frozen? ⟨g, 3, none⟩ = false ∧ w.frozen? ⟨g, 4, none⟩ = false := ⟨blk_frozen h 0, blk_frozen h 1, blk_frozen h 2, blk_frozen h 3, blk_frozen h 4⟩
set_option maxHeartbeats 8000000 in
set_option maxRecDepth 100000 in
theorem impl_ThingText.calls (a0_0 : Int) (a0_1 : Int) (a0_2 : Int) (a0_3 : Int) (a0_4 : Int) (r : ByteArray) (w : World) (h : impl_ThingText.f a0_0 a0_1 a0_2 a0_3 a0_4 = some r) (TB_ : (Itm.Tb true true) w) :
    Calls Tryd.prog 61 #[.agg #[.int .i64 a0_0, .int .i64 a0_1, .int .i64 a0_2, .int .i64 a0_3, .int .i64 a0_4]] w fun e w' => e = .returned (.string r) ∧ Below w.heap.size w w' := by
  have hu42 := Tryd.underlying42
  have HB := o_ (Below.refl w.heap.size w)
  have H : ((impl_IsThing.f a0_0 a0_1 a0_2 a0_3 a0_4).bind fun t655 => (if t655 = true then ((impl_FormatInt.f a0_0).bind fun t656 => (if t656.size + 1 ≤ 9223372036854775807 then ((impl_ColourText.f a0_2).bind fun t657 => (if (t656 ++ (⟨#[32]⟩ : ByteArray)).size + t657.size ≤ 9223372036854775807 then (if ((t656 ++ (⟨#[32]⟩ : ByteArray)) ++ t657).size + 1 ≤ 9223372036854775807 then ((impl_KindText.f a0_1).bind fun t658 => (if (((t656 ++ (⟨#[32]⟩ : ByteArray)) ++ t657) ++ (⟨#[32]⟩ : ByteArray)).size + t658.size ≤ 9223372036854775807 then (if ((((t656 ++ (⟨#[32]⟩ : ByteArray)) ++ t657) ++ (⟨#[32]⟩ : ByteArray)) ++ t658).size + 1 ≤ 9223372036854775807 then ((impl_FormatInt.f a0_3).bind fun t659 => (if (((((t656 ++ (⟨#[32]⟩ : ByteArray)) ++ t657) ++ (⟨#[32]⟩ : ByteArray)) ++ t658) ++ (⟨#[32]⟩ : ByteArray)).size + t659.size ≤ 9223372036854775807 then (some ((((((t656 ++ (⟨#[32]⟩ : ByteArray)) ++ t657) ++ (⟨#[32]⟩ : ByteArray)) ++ t658) ++ (⟨#[32]⟩ : ByteArray)) ++ t659)) else (none))) else (none)) else (none))) else (none)) else (none))) else (none))) else (some (⟨#[]⟩ : ByteArray)))) = some r := h
  clear h
  replace H := Option.bind_eq_some_iff.mp H
  obtain ⟨t655, A20, H⟩ := H
  try dsimp only at H
  have A2 := o_ A20
  clear A20
  by_cases c3 : t655 = true
  · subst c3
    have H1 := H
    rw [if_pos rfl] at H1
    clear H
    have H := H1
    clear H1
    replace H := Option.bind_eq_some_iff.mp H
    obtain ⟨t656, A40, H⟩ := H
    try dsimp only at H
    have A4 := o_ A40
    clear A40
    by_cases c5 : t656.size + 1 ≤ 9223372036854775807
    · rw [if_pos c5] at H
      have c5b0 := eq_true c5
      have c5b1 := decide_eq_true c5
      try have c5b2 : (9223372036854775807 < t656.size + 1) = False := eq_false (Nat.not_lt.2 c5)
      replace H := Option.bind_eq_some_iff.mp H
      obtain ⟨t657, A60, H⟩ := H
      try dsimp only at H
      have A6 := o_ A60
      clear A60
      by_cases c7 : (t656 ++ (⟨#[32]⟩ : ByteArray)).size + t657.size ≤ 9223372036854775807
      · rw [if_pos c7] at H
        have c7b0 := eq_true c7
        have c7b1 := decide_eq_true c7
        try have c7b2 : (9223372036854775807 < (t656 ++ (⟨#[32]⟩ : ByteArray)).size + t657.size) = False := eq_false (Nat.not_lt.2 c7)
        try have c7b3 : (9223372036854775807 < t656.size + 1 + t657.size) = False := eq_false (Nat.not_lt.2 (by have h_ := c7; simp only [ByteArray.size_append] at h_; exact h_))
        by_cases c8 : ((t656 ++ (⟨#[32]⟩ : ByteArray)) ++ t657).size + 1 ≤ 9223372036854775807
        · rw [if_pos c8] at H
          have c8b0 := eq_true c8
          have c8b1 := decide_eq_true c8
          try have c8b2 : (9223372036854775807 < ((t656 ++ (⟨#[32]⟩ : ByteArray)) ++ t657).size + 1) = False := eq_false (Nat.not_lt.2 c8)
          try have c8b3 : (9223372036854775807 < t656.size + 1 + t657.size + 1) = False := eq_false (Nat.not_lt.2 (by have h_ := c8; simp only [ByteArray.size_append] at h_; exact h_))
          replace H := Option.bind_eq_some_iff.mp H
          obtain ⟨t658, A90, H⟩ := H
          try dsimp only at H
          have A9 := o_ A90
          clear A90
          by_cases c10 : (((t656 ++ (⟨#[32]⟩ : ByteArray)) ++ t657) ++ (⟨#[32]⟩ : ByteArray)).size + t658.size ≤ 9223372036854775807
          · rw [if_pos c10] at H
            have c10b0 := eq_true c10
            have c10b1 := decide_eq_true c10
            try have c10b2 : (9223372036854775807 < (((t656 ++ (⟨#[32]⟩ : ByteArray)) ++ t657) ++ (⟨#[32]⟩ : ByteArray)).size + t658.size) = False := eq_false (Nat.not_lt.2 c10)
            try have c10b3 : (9223372036854775807 < t656.size + 1 + t657.size + 1 + t658.size) = False := eq_false (Nat.not_lt.2 (by have h_ := c10; simp only [ByteArray.size_append] at h_; exact h_))
            by_cases c11 : ((((t656 ++ (⟨#[32]⟩ : ByteArray)) ++ t657) ++ (⟨#[32]⟩ : ByteArray)) ++ t658).size + 1 ≤ 9223372036854775807
            · rw [if_pos c11] at H
              have c11b0 := eq_true c11
              have c11b1 := decide_eq_true c11
              try have c11b2 : (9223372036854775807 < ((((t656 ++ (⟨#[32]⟩ : ByteArray)) ++ t657) ++ (⟨#[32]⟩ : ByteArray)) ++ t658).size + 1) = False := eq_false (Nat.not_lt.2 c11)
              try have c11b3 : (9223372036854775807 < t656.size + 1 + t657.size + 1 + t658.size + 1) = False := eq_false (Nat.not_lt.2 (by have h_ := c11; simp only [ByteArray.size_append] at h_; exact h_))
              replace H := Option.bind_eq_some_iff.mp H
              obtain ⟨t659, A120, H⟩ := H
              try dsimp only at H
              have A12 := o_ A120
              clear A120
              by_cases c13 : (((((t656 ++ (⟨#[32]⟩ : ByteArray)) ++ t657) ++ (⟨#[32]⟩ : ByteArray)) ++ t658) ++ (⟨#[32]⟩ : ByteArray)).size + t659.size ≤ 9223372036854775807
              · rw [if_pos c13] at H
                have c13b0 := eq_true c13
                have c13b1 := decide_eq_true c13
                try have c13b2 : (9223372036854775807 < (((((t656 ++ (⟨#[32]⟩ : ByteArray)) ++ t657) ++ (⟨#[32]⟩ : ByteArray)) ++ t658) ++ (⟨#[32]⟩ : ByteArray)).size + t659.size) = False := eq_false (Nat.not_lt.2 c13)
                try have c13b3 : (9223372036854775807 < t656.size + 1 + t657.size + 1 + t658.size + 1 + t659.size) = False := eq_false (Nat.not_lt.2 (by have h_ := c13; simp only [ByteArray.size_append] at h_; exact h_))
                obtain rfl := Option.some.inj H
                go_enter Tryd.func61, Tryd.ntmps61
                try go_wp2_with (first | ((with_reducible refine gate_dst (N := 1) rfl ?_); refine bx_ 1 #[.int .i64 a0_0, .int .i64 a0_1, .int .i64 a0_2, .int .i64 a0_3, .int .i64 a0_4] 42 ?_; intro gb654 hg w14 hbox hb; have BK654 := o_ (hbox); have GW654 := o_ ((by rw [hg]; exact (below_size (hd_ HB.1)) : w.heap.size ≤ gb654)); replace HB := o_ (below_step (hd_ HB.1) hb); have GE654 := GW654; clear hb hbox hg; obtain ⟨hcz15_0, hcz15_1, hcz15_2, hcz15_3, hcz15_4⟩ := e271_ BK654.1; obtain ⟨hfz15_0, hfz15_1, hfz15_2, hfz15_3, hfz15_4⟩ := z272_ BK654.1) | (refine gl_ (some 4) Tryd.func60 #[.agg #[.int .i64 a0_0, .int .i64 a0_1, .int .i64 a0_2, .int .i64 a0_3, .int .i64 a0_4]] ?_; (with_reducible refine (impl_IsThing.calls a0_0 a0_1 a0_2 a0_3 a0_4 true _ A2.1).mono ?_); rintro e w16 ⟨rfl, hb⟩; refine ⟨_, rfl, ?_⟩; replace BK654 := o_ (blk_below (bd_ BK654.1) hb); replace HB := o_ (below_step wB_ hb); (try clear hb)))
                replace BK654 := o_ (blk_drew BK654.1)
                replace HB := o_ (below_drew1 HB.1)
                refine start_ (n := 19) (S := fun w' => q2e_ w' gb654 a0_0 a0_1 a0_2 a0_3 a0_4) (ds := []) M2_0 (by kernel_rfl) rfl rfl (k2e_ BK654.1) (fun hHeld => ?_); refine with_tabW impl_ThingText.tab3 impl_ThingText.bits3 (fun HT_ HW_ => ?_)
                generalize w16.drew = w17 at BK654 HB hHeld ⊢
                refine pu_ 0 (some 6) M2_1 HT_ ?_
                refine pu_ 4 (some 10) M2_2 HT_ ?_
                refine pu_ 9 (some 15) M2_3 HT_ ?_
                refine pu_ 14 (some 20) M2_4 HT_ ?_
                refine tk_ 1 (some 7) M2_5 HT_ HW_ hHeld ?_
                refine tk_ 5 (some 11) M2_6 HT_ HW_ hHeld ?_
                refine tk_ 10 (some 16) M2_7 HT_ HW_ hHeld ?_
                refine tk_ 15 (some 21) M2_8 HT_ HW_ hHeld ?_
                refine one_ (i := 2) (N := some 8) M2_9 rfl rfl (one_of HT_.1 (by kernel_rfl)) (by decide) (fun K hK => ?_)
                refine goes_ Tryd.func47 (by kernel_rfl) rfl #[.int .i64 a0_0] (by rfl) rfl rfl ma_ ?_
                with_reducible refine (impl_FormatInt.calls a0_0 t656 _ A4.1 (TB_.below wB_)).mono ?_
                rintro e w18 ⟨rfl, hb⟩
                refine ⟨_, rfl, ?_⟩
                replace BK654 := o_ (blk_below (bd_ BK654.1) hb)
                replace HB := o_ (below_step wB_ hb)
                (try clear hb)
                (try clear hb2)
                (try clear hk)
                (try clear hi)
                refine hK.out _ _ (k2e_ BK654.1) (fun hHeld => ?_)
                clear hK K
                refine norm_ (a' := ?_) ?_ ?_
                rotate_left
                · show Act.put _ (some 8) _ = _
                  simp only [Act.put, List.setIfInBounds_toArray, List.set_cons_zero, List.set_cons_succ, i64_w, i32_w]
                  rfl
                refine pu_ 3 (some 9) M2_10 HT_ ?_
                refine one_ (i := 6) (N := some 12) M2_11 rfl rfl (one_of HT_.1 (by kernel_rfl)) (by decide) (fun K hK => ?_)
                refine goes_ Tryd.func88 (by kernel_rfl) rfl #[.int .i64 a0_2] (by rfl) rfl rfl ma_ ?_
                with_reducible refine (impl_ColourText.calls a0_2 t657 _ A6.1).mono ?_
                rintro e w19 ⟨rfl, hb⟩
                refine ⟨_, rfl, ?_⟩
                replace BK654 := o_ (blk_below (bd_ BK654.1) hb)
                replace HB := o_ (below_step wB_ hb)
                (try clear hb)
                (try clear hb2)
                (try clear hk)
                (try clear hi)
                refine hK.out _ _ (k2e_ BK654.1) (fun hHeld => ?_)
                clear hK K
                refine norm_ (a' := ?_) ?_ ?_
                rotate_left
                · show Act.put _ (some 12) _ = _
                  simp only [Act.put, List.setIfInBounds_toArray, List.set_cons_zero, List.set_cons_succ, i64_w, i32_w]
                  rfl
                refine pu_ 7 (some 13) M2_12 HT_ ?_
                refine pu_ 8 (some 14) M2_13 HT_ ?_
                refine one_ (i := 11) (N := some 17) M2_14 rfl rfl (one_of HT_.1 (by kernel_rfl)) (by decide) (fun K hK => ?_)
                refine goes_ Tryd.func24 (by kernel_rfl) rfl #[.int .i64 a0_1] (by rfl) rfl rfl ma_ ?_
                with_reducible refine (impl_KindText.calls a0_1 t658 _ A9.1).mono ?_
                rintro e w20 ⟨rfl, hb⟩
                refine ⟨_, rfl, ?_⟩
                replace BK654 := o_ (blk_below (bd_ BK654.1) hb)
                replace HB := o_ (below_step wB_ hb)
                (try clear hb)
                (try clear hb2)
                (try clear hk)
                (try clear hi)
                refine hK.out _ _ (k2e_ BK654.1) (fun hHeld => ?_)
                clear hK K
                refine norm_ (a' := ?_) ?_ ?_
                rotate_left
                · show Act.put _ (some 17) _ = _
                  simp only [Act.put, List.setIfInBounds_toArray, List.set_cons_zero, List.set_cons_succ, i64_w, i32_w]
                  rfl
                refine pu_ 12 (some 18) M2_15 HT_ ?_
                refine pu_ 13 (some 19) M2_16 HT_ ?_
                refine one_ (i := 16) (N := some 22) M2_17 rfl rfl (one_of HT_.1 (by kernel_rfl)) (by decide) (fun K hK => ?_)
                refine goes_ Tryd.func47 (by kernel_rfl) rfl #[.int .i64 a0_3] (by rfl) rfl rfl ma_ ?_
                with_reducible refine (impl_FormatInt.calls a0_3 t659 _ A12.1 (TB_.below wB_)).mono ?_
                rintro e w21 ⟨rfl, hb⟩
                refine ⟨_, rfl, ?_⟩
                replace BK654 := o_ (blk_below (bd_ BK654.1) hb)
                replace HB := o_ (below_step wB_ hb)
                (try clear hb)
                (try clear hb2)
                (try clear hk)
                (try clear hi)
                refine hK.out _ _ (k2e_ BK654.1) (fun hHeld => ?_)
                clear hK K
                refine norm_ (a' := ?_) ?_ ?_
                rotate_left
                · show Act.put _ (some 22) _ = _
                  simp only [Act.put, List.setIfInBounds_toArray, List.set_cons_zero, List.set_cons_succ, i64_w, i32_w]
                  rfl
                refine pu_ 17 (some 23) M2_18 HT_ ?_
                refine pu_ 18 (some 2) M2_19 HT_ ?_
                refine done_ (done_of HT_.1 (by kernel_rfl)) ?_
                try go_wp2
                go_ret
                exact ⟨rt_, wB_⟩
              · rw [if_neg c13] at H
                exact absurd H (by simp)
            · rw [if_neg c11] at H
              exact absurd H (by simp)
          · rw [if_neg c10] at H
            exact absurd H (by simp)
        · rw [if_neg c8] at H
          exact absurd H (by simp)
      · rw [if_neg c7] at H
        exact absurd H (by simp)
    · rw [if_neg c5] at H
      exact absurd H (by simp)
  · replace c3 := Bool.eq_false_iff.mpr c3
    subst c3
    have H1 := H
    rw [if_neg nt_] at H1
    clear H
    have H := H1
    clear H1
    obtain rfl := Option.some.inj H
    go_enter Tryd.func61, Tryd.ntmps61
    go_wp2_with (first | ((with_reducible refine gate_dst (N := 1) rfl ?_); refine bx_ 1 #[.int .i64 a0_0, .int .i64 a0_1, .int .i64 a0_2, .int .i64 a0_3, .int .i64 a0_4] 42 ?_; intro gb654 hg w22 hbox hb; have BK654 := o_ (hbox); have GW654 := o_ ((by rw [hg]; exact (below_size (hd_ HB.1)) : w.heap.size ≤ gb654)); replace HB := o_ (below_step (hd_ HB.1) hb); have GE654 := GW654; clear hb hbox hg; obtain ⟨hcz23_0, hcz23_1, hcz23_2, hcz23_3, hcz23_4⟩ := e271_ BK654.1; obtain ⟨hfz23_0, hfz23_1, hfz23_2, hfz23_3, hfz23_4⟩ := z272_ BK654.1) | (refine gl_ (some 4) Tryd.func60 #[.agg #[.int .i64 a0_0, .int .i64 a0_1, .int .i64 a0_2, .int .i64 a0_3, .int .i64 a0_4]] ?_; (with_reducible refine (impl_IsThing.calls a0_0 a0_1 a0_2 a0_3 a0_4 false _ A2.1).mono ?_); rintro e w24 ⟨rfl, hb⟩; refine ⟨_, rfl, ?_⟩; replace BK654 := o_ (blk_below (bd_ BK654.1) hb); replace HB := o_ (below_step wB_ hb); (try clear hb)))
    go_ret
    exact ⟨rt_, wB_⟩

/-! ### impl_FindText: function 26 -/
def impl_FindText.f (a0_0 : Int) (a0_1 : Int) (a0_2 : Int) (a0_3 : Int) (a0_4 : Int) (a0_5 : Int) (a0_6 : Int) (a0_7 : Int) : Option (ByteArray) := (impl_IsFind.f a0_0 a0_1 a0_2 a0_3 a0_4 a0_5 a0_6 a0_7).bind fun t661 => (if t661 = true then ((impl_ThingText.f a0_0 a0_1 a0_2 a0_3 a0_4).bind fun t662 => (if t662.size + 2 ≤ 9223372036854775807 then ((impl_FormatInt.f a0_5).bind fun t663 => (if (t662 ++ (⟨#[32, 64]⟩ : ByteArray)).size + t663.size ≤ 9223372036854775807 then (if ((t662 ++ (⟨#[32, 64]⟩ : ByteArray)) ++ t663).size + 2 ≤ 9223372036854775807 then ((impl_FormatInt.f a0_6).bind fun t664 => (if (((t662 ++ (⟨#[32, 64]⟩ : ByteArray)) ++ t663) ++ (⟨#[32, 43]⟩ : ByteArray)).size + t664.size ≤ 9223372036854775807 then (if ((((t662 ++ (⟨#[32, 64]⟩ : ByteArray)) ++ t663) ++ (⟨#[32, 43]⟩ : ByteArray)) ++ t664).size + 4 ≤ 9223372036854775807 then ((impl_FormatInt.f a0_7).bind fun t665 => (if (((((t662 ++ (⟨#[32, 64]⟩ : ByteArray)) ++ t663) ++ (⟨#[32, 43]⟩ : ByteArray)) ++ t664) ++ (⟨#[32, 98, 121, 32]⟩ : ByteArray)).size + t665.size ≤ 9223372036854775807 then (some ((((((t662 ++ (⟨#[32, 64]⟩ : ByteArray)) ++ t663) ++ (⟨#[32, 43]⟩ : ByteArray)) ++ t664) ++ (⟨#[32, 98, 121, 32]⟩ : ByteArray)) ++ t665)) else (none))) else (none)) else (none))) else (none)) else (none))) else (none))) else (some (⟨#[]⟩ : ByteArray)))
def impl_FindText.T3 : Bool × List (List Nat × List Nat) := (true, [([], []), ([0], [0]), ([1], [1]), ([2], [2]), ([], []), ([4], [4]), ([5, 2], [5]), ([3, 6], [3, 6]), ([7], [7]), ([], []), ([9], [9]), ([10, 6], [10]), ([8, 11], [8, 11]), ([12], [12]), ([], []), ([14], [14]), ([15, 11], [15]), ([13, 16], [13, 16]), ([17, 16, 0, 1, 2, 3, 4, 5, 6, 7, 8, 9, 10, 11, 12, 13, 14, 15, 16, 17], [17])])
def impl_FindText.B3 : List Nat := [0, 1, 3, 7, 0, 16, 55, 127, 255, 0, 512, 1655, 4095, 8191, 0, 16384, 52855, 131071, 262143]
theorem impl_FindText.tab3 : rtab .any (opsOf Tryd.f26 3) = impl_FindText.T3 := by kernel_rfl
theorem impl_FindText.bits3 : waitsOk impl_FindText.T3.2 impl_FindText.B3 = true := by kernel_rfl
abbrev M3_0 := bm_ 19 0
abbrev M3_1 := bm_ 19 1
abbrev M3_2 := bm_ 19 17
abbrev M3_3 := bm_ 19 529
abbrev M3_4 := bm_ 19 16913
abbrev M3_5 := bm_ 19 16915
abbrev M3_6 := bm_ 19 16947
abbrev M3_7 := bm_ 19 17971
abbrev M3_8 := bm_ 19 50739
abbrev M3_9 := bm_ 19 50743
abbrev M3_10 := bm_ 19 50751
abbrev M3_11 := bm_ 19 50815
abbrev M3_12 := bm_ 19 50943
abbrev M3_13 := bm_ 19 51199
abbrev M3_14 := bm_ 19 53247
abbrev M3_15 := bm_ 19 57343
abbrev M3_16 := bm_ 19 65535
abbrev M3_17 := bm_ 19 131071
abbrev M3_18 := bm_ 19 262143
abbrev M3_19 := bm_ 19 524287
abbrev c277_ (i0 : Int) (i1 : Int) (i2 : Int) (i3 : Int) (i4 : Int) (i5 : Int) (i6 : Int) (i7 : Int) : Obj := .cells #[.int .i64 i0, .int .i64 i1, .int .i64 i2, .int .i64 i3, .int .i64 i4, .int .i64 i5, .int .i64 i6, .int .i64 i7] 44 (0, 0)
theorem e278_ {w : World} {g : Nat} {t : TypeId} {i0 : Int} {i1 : Int} {i2 : Int} {i3 : Int} {i4 : Int} {i5 : Int} {i6 : Int} {i7 : Int} (h : w.heap[g]? = some (.cells #[.int .i64 i0, .int .i64 i1, .int .i64 i2, .int .i64 i3, .int .i64 i4, .int .i64 i5, .int .i64 i6, .int .i64 i7] t (0, 0))) : w.cell? ⟨g, 0, none⟩ = some (.int .i64 i0) ∧ w.cell? ⟨g, 1, none⟩ = some (.int .i64 i1) ∧ w.cell? ⟨g, 2, none⟩ = some (.int .i64 i2) ∧ w.cell? ⟨g, 3, none⟩ = some (.int .i64 i3) ∧ w.cell? ⟨g, 4, none⟩ = some (.int .i64 i4) ∧ w.cell? ⟨g, 5, none⟩ = some (.int .i64 i5) ∧ w.cell? ⟨g, 6, none⟩ = some (.int .i64 i6) ∧ w.cell? ⟨g, 7, none⟩ = some (.int .i64 i7) := ⟨(blk_cell h 0).trans rfl, (blk_cell h 1).trans rfl, (blk_cell h 2).trans rfl, (blk_cell h 3).trans rfl, (blk_cell h 4).trans rfl, (blk_cell h 5).trans rfl, (blk_cell h 6).trans rfl, (blk_cell h 7).trans rfl⟩
theorem z279_ {w : World} {g : Nat} {t : TypeId} {cs : Array Value} (h : w.heap[g]? = some (.cells cs t (0, 0))) : w.frozen? ⟨g, 0, none⟩ = false ∧ w.frozen? ⟨g, 1, none⟩ = false ∧ w.frozen? ⟨g, 2, none⟩ = false ∧ w.frozen? ⟨g, 3, none⟩ = false ∧ w.frozen? ⟨g, 4, none⟩ = false ∧ w.frozen? ⟨g, 5, none⟩ = false ∧ w.frozen? ⟨g, 6, none⟩ = false ∧ w.frozen? ⟨g, 7, none⟩ = false := ⟨blk_frozen h 0, blk_frozen h 1, blk_frozen h 2, blk_frozen h 3, blk_frozen h 4, blk_frozen h 5, blk_frozen h 6, blk_frozen h 7⟩
set_option maxHeartbeats 8000000 in
set_option maxRecDepth 100000 in
theorem impl_FindText.calls (a0_0 : Int) (a0_1 : Int) (a0_2 : Int) (a0_3 : Int) (a0_4 : Int) (a0_5 : Int) (a0_6 : Int) (a0_7 : Int) (r : ByteArray) (w : World) (h : impl_FindText.f a0_0 a0_1 a0_2 a0_3 a0_4 a0_5 a0_6 a0_7 = some r) (TB_ : (Itm.Tb true true) w) :
    Calls Tryd.prog 26 #[.agg #[.int .i64 a0_0, .int .i64 a0_1, .int .i64 a0_2, .int .i64 a0_3, .int .i64 a0_4, .int .i64 a0_5, .int .i64 a0_6, .int .i64 a0_7]] w fun e w' => e = .returned (.string r) ∧ Below w.heap.size w w' := by
  have hu44 := Tryd.underlying44
  have hu42 := Tryd.underlying42
  have HB := o_ (Below.refl w.heap.size w)
  have H : ((impl_IsFind.f a0_0 a0_1 a0_2 a0_3 a0_4 a0_5 a0_6 a0_7).bind fun t661 => (if t661 = true then ((impl_ThingText.f a0_0 a0_1 a0_2 a0_3 a0_4).bind fun t662 => (if t662.size + 2 ≤ 9223372036854775807 then ((impl_FormatInt.f a0_5).bind fun t663 => (if (t662 ++ (⟨#[32, 64]⟩ : ByteArray)).size + t663.size ≤ 9223372036854775807 then (if ((t662 ++ (⟨#[32, 64]⟩ : ByteArray)) ++ t663).size + 2 ≤ 9223372036854775807 then ((impl_FormatInt.f a0_6).bind fun t664 => (if (((t662 ++ (⟨#[32, 64]⟩ : ByteArray)) ++ t663) ++ (⟨#[32, 43]⟩ : ByteArray)).size + t664.size ≤ 9223372036854775807 then (if ((((t662 ++ (⟨#[32, 64]⟩ : ByteArray)) ++ t663) ++ (⟨#[32, 43]⟩ : ByteArray)) ++ t664).size + 4 ≤ 9223372036854775807 then ((impl_FormatInt.f a0_7).bind fun t665 => (if (((((t662 ++ (⟨#[32, 64]⟩ : ByteArray)) ++ t663) ++ (⟨#[32, 43]⟩ : ByteArray)) ++ t664) ++ (⟨#[32, 98, 121, 32]⟩ : ByteArray)).size + t665.size ≤ 9223372036854775807 then (some ((((((t662 ++ (⟨#[32, 64]⟩ : ByteArray)) ++ t663) ++ (⟨#[32, 43]⟩ : ByteArray)) ++ t664) ++ (⟨#[32, 98, 121, 32]⟩ : ByteArray)) ++ t665)) else (none))) else (none)) else (none))) else (none)) else (none))) else (none))) else (some (⟨#[]⟩ : ByteArray)))) = some r := h
  clear h
  replace H := Option.bind_eq_some_iff.mp H
  obtain ⟨t661, A20, H⟩ := H
  try dsimp only at H
  have A2 := o_ A20
  clear A20
  by_cases c3 : t661 = true
  · subst c3
    have H1 := H
    rw [if_pos rfl] at H1
    clear H
    have H := H1
    clear H1
    replace H := Option.bind_eq_some_iff.mp H
    obtain ⟨t662, A40, H⟩ := H
    try dsimp only at H
    have A4 := o_ A40
    clear A40
    by_cases c5 : t662.size + 2 ≤ 9223372036854775807
    · rw [if_pos c5] at H
      have c5b0 := eq_true c5
      have c5b1 := decide_eq_true c5
      try have c5b2 : (9223372036854775807 < t662.size + 2) = False := eq_false (Nat.not_lt.2 c5)
      replace H := Option.bind_eq_some_iff.mp H
      obtain ⟨t663, A60, H⟩ := H
      try dsimp only at H
      have A6 := o_ A60
      clear A60
      by_cases c7 : (t662 ++ (⟨#[32, 64]⟩ : ByteArray)).size + t663.size ≤ 9223372036854775807
      · rw [if_pos c7] at H
        have c7b0 := eq_true c7
        have c7b1 := decide_eq_true c7
        try have c7b2 : (9223372036854775807 < (t662 ++ (⟨#[32, 64]⟩ : ByteArray)).size + t663.size) = False := eq_false (Nat.not_lt.2 c7)
        try have c7b3 : (9223372036854775807 < t662.size + 2 + t663.size) = False := eq_false (Nat.not_lt.2 (by have h_ := c7; simp only [ByteArray.size_append] at h_; exact h_))
        by_cases c8 : ((t662 ++ (⟨#[32, 64]⟩ : ByteArray)) ++ t663).size + 2 ≤ 9223372036854775807
        · rw [if_pos c8] at H
          have c8b0 := eq_true c8
          have c8b1 := decide_eq_true c8
          try have c8b2 : (9223372036854775807 < ((t662 ++ (⟨#[32, 64]⟩ : ByteArray)) ++ t663).size + 2) = False := eq_false (Nat.not_lt.2 c8)
          try have c8b3 : (9223372036854775807 < t662.size + 2 + t663.size + 2) = False := eq_false (Nat.not_lt.2 (by have h_ := c8; simp only [ByteArray.size_append] at h_; exact h_))
          replace H := Option.bind_eq_some_iff.mp H
          obtain ⟨t664, A90, H⟩ := H
          try dsimp only at H
          have A9 := o_ A90
          clear A90
          by_cases c10 : (((t662 ++ (⟨#[32, 64]⟩ : ByteArray)) ++ t663) ++ (⟨#[32, 43]⟩ : ByteArray)).size + t664.size ≤ 9223372036854775807
          · rw [if_pos c10] at H
            have c10b0 := eq_true c10
            have c10b1 := decide_eq_true c10
            try have c10b2 : (9223372036854775807 < (((t662 ++ (⟨#[32, 64]⟩ : ByteArray)) ++ t663) ++ (⟨#[32, 43]⟩ : ByteArray)).size + t664.size) = False := eq_false (Nat.not_lt.2 c10)
            try have c10b3 : (9223372036854775807 < t662.size + 2 + t663.size + 2 + t664.size) = False := eq_false (Nat.not_lt.2 (by have h_ := c10; simp only [ByteArray.size_append] at h_; exact h_))
            by_cases c11 : ((((t662 ++ (⟨#[32, 64]⟩ : ByteArray)) ++ t663) ++ (⟨#[32, 43]⟩ : ByteArray)) ++ t664).size + 4 ≤ 9223372036854775807
            · rw [if_pos c11] at H
              have c11b0 := eq_true c11
              have c11b1 := decide_eq_true c11
              try have c11b2 : (9223372036854775807 < ((((t662 ++ (⟨#[32, 64]⟩ : ByteArray)) ++ t663) ++ (⟨#[32, 43]⟩ : ByteArray)) ++ t664).size + 4) = False := eq_false (Nat.not_lt.2 c11)
              try have c11b3 : (9223372036854775807 < t662.size + 2 + t663.size + 2 + t664.size + 4) = False := eq_false (Nat.not_lt.2 (by have h_ := c11; simp only [ByteArray.size_append] at h_; exact h_))
              replace H := Option.bind_eq_some_iff.mp H
              obtain ⟨t665, A120, H⟩ := H
              try dsimp only at H
              have A12 := o_ A120
              clear A120
              by_cases c13 : (((((t662 ++ (⟨#[32, 64]⟩ : ByteArray)) ++ t663) ++ (⟨#[32, 43]⟩ : ByteArray)) ++ t664) ++ (⟨#[32, 98, 121, 32]⟩ : ByteArray)).size + t665.size ≤ 9223372036854775807
              · rw [if_pos c13] at H
                have c13b0 := eq_true c13
                have c13b1 := decide_eq_true c13
                try have c13b2 : (9223372036854775807 < (((((t662 ++ (⟨#[32, 64]⟩ : ByteArray)) ++ t663) ++ (⟨#[32, 43]⟩ : ByteArray)) ++ t664) ++ (⟨#[32, 98, 121, 32]⟩ : ByteArray)).size + t665.size) = False := eq_false (Nat.not_lt.2 c13)
                try have c13b3 : (9223372036854775807 < t662.size + 2 + t663.size + 2 + t664.size + 4 + t665.size) = False := eq_false (Nat.not_lt.2 (by have h_ := c13; simp only [ByteArray.size_append] at h_; exact h_))
                obtain rfl := Option.some.inj H
                go_enter Tryd.func26, Tryd.ntmps26
                try go_wp2_with (first | ((with_reducible refine gate_dst (N := 1) rfl ?_); refine bx_ 1 #[.int .i64 a0_0, .int .i64 a0_1, .int .i64 a0_2, .int .i64 a0_3, .int .i64 a0_4, .int .i64 a0_5, .int .i64 a0_6, .int .i64 a0_7] 44 ?_; intro gb660 hg w14 hbox hb; have BK660 := o_ (hbox); have GW660 := o_ ((by rw [hg]; exact (below_size (hd_ HB.1)) : w.heap.size ≤ gb660)); replace HB := o_ (below_step (hd_ HB.1) hb); have GE660 := GW660; clear hb hbox hg; obtain ⟨hcz15_0, hcz15_1, hcz15_2, hcz15_3, hcz15_4, hcz15_5, hcz15_6, hcz15_7⟩ := e278_ BK660.1; obtain ⟨hfz15_0, hfz15_1, hfz15_2, hfz15_3, hfz15_4, hfz15_5, hfz15_6, hfz15_7⟩ := z279_ BK660.1) | (refine gl_ (some 4) Tryd.func25 #[.agg #[.int .i64 a0_0, .int .i64 a0_1, .int .i64 a0_2, .int .i64 a0_3, .int .i64 a0_4, .int .i64 a0_5, .int .i64 a0_6, .int .i64 a0_7]] ?_; (with_reducible refine (impl_IsFind.calls a0_0 a0_1 a0_2 a0_3 a0_4 a0_5 a0_6 a0_7 true _ A2.1).mono ?_); rintro e w16 ⟨rfl, hb⟩; refine ⟨_, rfl, ?_⟩; replace BK660 := o_ (blk_below (bd_ BK660.1) hb); replace HB := o_ (below_step wB_ hb); (try clear hb)))
                replace BK660 := o_ (blk_drew BK660.1)
                replace HB := o_ (below_drew1 HB.1)
                refine start_ (n := 19) (S := fun w' => q3e_ w' gb660 a0_0 a0_1 a0_2 a0_3 a0_4 a0_5 a0_6 a0_7) (ds := []) M3_0 (by kernel_rfl) rfl rfl ⟨(blk_cell BK660.1 0).trans rfl, (blk_cell BK660.1 1).trans rfl, (blk_cell BK660.1 2).trans rfl, (blk_cell BK660.1 3).trans rfl, (blk_cell BK660.1 4).trans rfl, (blk_cell BK660.1 5).trans rfl, (blk_cell BK660.1 6).trans rfl, (blk_cell BK660.1 7).trans rfl⟩ (fun hHeld => ?_); refine with_tabW impl_FindText.tab3 impl_FindText.bits3 (fun HT_ HW_ => ?_)
                generalize w16.drew = w17 at BK660 HB hHeld ⊢
                refine pu_ 0 (some 6) M3_1 HT_ ?_
                refine pu_ 4 (some 10) M3_2 HT_ ?_
                refine pu_ 9 (some 15) M3_3 HT_ ?_
                refine pu_ 14 (some 20) M3_4 HT_ ?_
                refine tk_ 1 (some 7) M3_5 HT_ HW_ hHeld ?_
                refine tk_ 5 (some 11) M3_6 HT_ HW_ hHeld ?_
                refine tk_ 10 (some 16) M3_7 HT_ HW_ hHeld ?_
                refine tk_ 15 (some 21) M3_8 HT_ HW_ hHeld ?_
                refine one_ (i := 2) (N := some 8) M3_9 rfl rfl (one_of HT_.1 (by kernel_rfl)) (by decide) (fun K hK => ?_)
                refine goes_ Tryd.func61 (by kernel_rfl) rfl #[.agg #[.int .i64 a0_0, .int .i64 a0_1, .int .i64 a0_2, .int .i64 a0_3, .int .i64 a0_4]] (by rfl) rfl rfl ma_ ?_
                with_reducible refine (impl_ThingText.calls a0_0 a0_1 a0_2 a0_3 a0_4 t662 _ A4.1 (TB_.below wB_)).mono ?_
                rintro e w18 ⟨rfl, hb⟩
                refine ⟨_, rfl, ?_⟩
                replace BK660 := o_ (blk_below (bd_ BK660.1) hb)
                replace HB := o_ (below_step wB_ hb)
                (try clear hb)
                (try clear hb2)
                (try clear hk)
                (try clear hi)
                refine hK.out _ _ ⟨(blk_cell BK660.1 0).trans rfl, (blk_cell BK660.1 1).trans rfl, (blk_cell BK660.1 2).trans rfl, (blk_cell BK660.1 3).trans rfl, (blk_cell BK660.1 4).trans rfl, (blk_cell BK660.1 5).trans rfl, (blk_cell BK660.1 6).trans rfl, (blk_cell BK660.1 7).trans rfl⟩ (fun hHeld => ?_)
                clear hK K
                refine norm_ (a' := ?_) ?_ ?_
                rotate_left
                · show Act.put _ (some 8) _ = _
                  simp only [Act.put, List.setIfInBounds_toArray, List.set_cons_zero, List.set_cons_succ, i64_w, i32_w]
                  rfl
                refine pu_ 3 (some 9) M3_10 HT_ ?_
                refine one_ (i := 6) (N := some 12) M3_11 rfl rfl (one_of HT_.1 (by kernel_rfl)) (by decide) (fun K hK => ?_)
                refine goes_ Tryd.func47 (by kernel_rfl) rfl #[.int .i64 a0_5] (by rfl) rfl rfl ma_ ?_
                with_reducible refine (impl_FormatInt.calls a0_5 t663 _ A6.1 (TB_.below wB_)).mono ?_
                rintro e w19 ⟨rfl, hb⟩
                refine ⟨_, rfl, ?_⟩
                replace BK660 := o_ (blk_below (bd_ BK660.1) hb)
                replace HB := o_ (below_step wB_ hb)
                (try clear hb)
                (try clear hb2)
                (try clear hk)
                (try clear hi)
                refine hK.out _ _ ⟨(blk_cell BK660.1 0).trans rfl, (blk_cell BK660.1 1).trans rfl, (blk_cell BK660.1 2).trans rfl, (blk_cell BK660.1 3).trans rfl, (blk_cell BK660.1 4).trans rfl, (blk_cell BK660.1 5).trans rfl, (blk_cell BK660.1 6).trans rfl, (blk_cell BK660.1 7).trans rfl⟩ (fun hHeld => ?_)
                clear hK K
                refine norm_ (a' := ?_) ?_ ?_
                rotate_left
                · show Act.put _ (some 12) _ = _
                  simp only [Act.put, List.setIfInBounds_toArray, List.set_cons_zero, List.set_cons_succ, i64_w, i32_w]
                  rfl
                refine pu_ 7 (some 13) M3_12 HT_ ?_
                refine pu_ 8 (some 14) M3_13 HT_ ?_
                refine one_ (i := 11) (N := some 17) M3_14 rfl rfl (one_of HT_.1 (by kernel_rfl)) (by decide) (fun K hK => ?_)
                refine goes_ Tryd.func47 (by kernel_rfl) rfl #[.int .i64 a0_6] (by rfl) rfl rfl ma_ ?_
                with_reducible refine (impl_FormatInt.calls a0_6 t664 _ A9.1 (TB_.below wB_)).mono ?_
                rintro e w20 ⟨rfl, hb⟩
                refine ⟨_, rfl, ?_⟩
                replace BK660 := o_ (blk_below (bd_ BK660.1) hb)
                replace HB := o_ (below_step wB_ hb)
                (try clear hb)
                (try clear hb2)
                (try clear hk)
                (try clear hi)
                refine hK.out _ _ ⟨(blk_cell BK660.1 0).trans rfl, (blk_cell BK660.1 1).trans rfl, (blk_cell BK660.1 2).trans rfl, (blk_cell BK660.1 3).trans rfl, (blk_cell BK660.1 4).trans rfl, (blk_cell BK660.1 5).trans rfl, (blk_cell BK660.1 6).trans rfl, (blk_cell BK660.1 7).trans rfl⟩ (fun hHeld => ?_)
                clear hK K
                refine norm_ (a' := ?_) ?_ ?_
                rotate_left
                · show Act.put _ (some 17) _ = _
                  simp only [Act.put, List.setIfInBounds_toArray, List.set_cons_zero, List.set_cons_succ, i64_w, i32_w]
                  rfl
                refine pu_ 12 (some 18) M3_15 HT_ ?_
                refine pu_ 13 (some 19) M3_16 HT_ ?_
                refine one_ (i := 16) (N := some 22) M3_17 rfl rfl (one_of HT_.1 (by kernel_rfl)) (by decide) (fun K hK => ?_)
                refine goes_ Tryd.func47 (by kernel_rfl) rfl #[.int .i64 a0_7] (by rfl) rfl rfl ma_ ?_
                with_reducible refine (impl_FormatInt.calls a0_7 t665 _ A12.1 (TB_.below wB_)).mono ?_
                rintro e w21 ⟨rfl, hb⟩
                refine ⟨_, rfl, ?_⟩
                replace BK660 := o_ (blk_below (bd_ BK660.1) hb)
                replace HB := o_ (below_step wB_ hb)
                (try clear hb)
                (try clear hb2)
                (try clear hk)
                (try clear hi)
                refine hK.out _ _ ⟨(blk_cell BK660.1 0).trans rfl, (blk_cell BK660.1 1).trans rfl, (blk_cell BK660.1 2).trans rfl, (blk_cell BK660.1 3).trans rfl, (blk_cell BK660.1 4).trans rfl, (blk_cell BK660.1 5).trans rfl, (blk_cell BK660.1 6).trans rfl, (blk_cell BK660.1 7).trans rfl⟩ (fun hHeld => ?_)
                clear hK K
                refine norm_ (a' := ?_) ?_ ?_
                rotate_left
                · show Act.put _ (some 22) _ = _
                  simp only [Act.put, List.setIfInBounds_toArray, List.set_cons_zero, List.set_cons_succ, i64_w, i32_w]
                  rfl
                refine pu_ 17 (some 23) M3_18 HT_ ?_
                refine pu_ 18 (some 2) M3_19 HT_ ?_
                refine done_ (done_of HT_.1 (by kernel_rfl)) ?_
                try go_wp2
                go_ret
                exact ⟨rt_, wB_⟩
              · rw [if_neg c13] at H
                exact absurd H (by simp)
            · rw [if_neg c11] at H
              exact absurd H (by simp)
          · rw [if_neg c10] at H
            exact absurd H (by simp)
        · rw [if_neg c8] at H
          exact absurd H (by simp)
      · rw [if_neg c7] at H
        exact absurd H (by simp)
    · rw [if_neg c5] at H
      exact absurd H (by simp)
  · replace c3 := Bool.eq_false_iff.mpr c3
    subst c3
    have H1 := H
    rw [if_neg nt_] at H1
    clear H
    have H := H1
    clear H1
    obtain rfl := Option.some.inj H
    go_enter Tryd.func26, Tryd.ntmps26
    go_wp2_with (first | ((with_reducible refine gate_dst (N := 1) rfl ?_); refine bx_ 1 #[.int .i64 a0_0, .int .i64 a0_1, .int .i64 a0_2, .int .i64 a0_3, .int .i64 a0_4, .int .i64 a0_5, .int .i64 a0_6, .int .i64 a0_7] 44 ?_; intro gb660 hg w22 hbox hb; have BK660 := o_ (hbox); have GW660 := o_ ((by rw [hg]; exact (below_size (hd_ HB.1)) : w.heap.size ≤ gb660)); replace HB := o_ (below_step (hd_ HB.1) hb); have GE660 := GW660; clear hb hbox hg; obtain ⟨hcz23_0, hcz23_1, hcz23_2, hcz23_3, hcz23_4, hcz23_5, hcz23_6, hcz23_7⟩ := e278_ BK660.1; obtain ⟨hfz23_0, hfz23_1, hfz23_2, hfz23_3, hfz23_4, hfz23_5, hfz23_6, hfz23_7⟩ := z279_ BK660.1) | (refine gl_ (some 4) Tryd.func25 #[.agg #[.int .i64 a0_0, .int .i64 a0_1, .int .i64 a0_2, .int .i64 a0_3, .int .i64 a0_4, .int .i64 a0_5, .int .i64 a0_6, .int .i64 a0_7]] ?_; (with_reducible refine (impl_IsFind.calls a0_0 a0_1 a0_2 a0_3 a0_4 a0_5 a0_6 a0_7 false _ A2.1).mono ?_); rintro e w24 ⟨rfl, hb⟩; refine ⟨_, rfl, ?_⟩; replace BK660 := o_ (blk_below (bd_ BK660.1) hb); replace HB := o_ (below_step wB_ hb); (try clear hb)))
    go_ret
    exact ⟨rt_, wB_⟩

end Go.Proofs.YtihnanfekchlhaaDoor.PFnForms
