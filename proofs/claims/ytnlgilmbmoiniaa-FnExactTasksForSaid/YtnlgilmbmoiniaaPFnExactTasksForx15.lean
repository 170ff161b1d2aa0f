-- Written for this claim by a program (a printer turned to this claim); Lean checks it.
import Derived.Test.YtnlgilmbmoiniaaPFnExactTasksForx0
namespace Go.Proofs.Ytnlgilmbmoiniaa.PFnExactTasksFor
open Go.RowKit Go.Proofs.YtnlgilmbmoiniaaW.PrintWords Go.Proofs.YtnlgilmbmoiniaaW.PrintLast Go.Proofs.YtnlgilmbmoiniaaW.PrintMore
attribute [local go_sem] max2_int min2_int max_two min_two max_three min_three max_four min_four   -- for this text's walks alone
set_option linter.unusedVariables false
set_option linter.unusedSimpArgs false

/-! ### laws_eqThing: function 62 -/
def laws_eqThing.f (a0_0 : Int) (a0_1 : Int) (a0_2 : Int) (a0_3 : Int) (a0_4 : Int) (a1_0 : Int) (a1_1 : Int) (a1_2 : Int) (a1_3 : Int) (a1_4 : Int) : Option (Bool) := if a0_0 = a1_0 then (if a0_1 = a1_1 then (if a0_2 = a1_2 then (if a0_3 = a1_3 then (if a0_4 = a1_4 then (some true) else (some false)) else (some false)) else (some false)) else (some false)) else (some false)
abbrev c246_ (i0 : Int) (i1 : Int) (i2 : Int) (i3 : Int) (i4 : Int) : Obj := .cells #[.int .i64 i0, .int .i64 i1, .int .i64 i2, .int .i64 i3, .int .i64 i4] 56 (0, 0)
theorem e247_ {w : World} {g : Nat} {t : TypeId} {i0 : Int} {i1 : Int} {i2 : Int} {i3 : Int} {i4 : Int} (h : w.heap[g]? = some (.cells #[.int .i64 i0, .int .i64 i1, .int .i64 i2, .int .i64 i3, .int .i64 i4] t (0, 0))) : w.cell? ⟨g, 0, none⟩ = some (.int .i64 i0) ∧ w.cell? ⟨g, 1, none⟩ = some (.int .i64 i1) ∧ w.cell? ⟨g, 2, none⟩ = some (.int .i64 i2) ∧ w.cell? ⟨g, 3, none⟩ = some (.int .i64 i3) ∧ w.cell? ⟨g, 4, none⟩ = some (.int .i64 i4) := ⟨(blk_cell h 0).trans rfl, (blk_cell h 1).trans rfl, (blk_cell h 2).trans rfl, (blk_cell h 3).trans rfl, (blk_cell h 4).trans rfl⟩
theorem z248_ {w : World} {g : Nat} {t : TypeId} {cs : Array Value} (h : w.heap[g]? = some (.cells cs t (0, 0))) : w.frozen? ⟨g, 0, none⟩ = false ∧ w.frozen? ⟨g, 1, none⟩ = false ∧ w.frozen? ⟨g, 2, none⟩ = false ∧ w.frozen? ⟨g, 3, none⟩ = false ∧ w.frozen? ⟨g, 4, none⟩ = false := ⟨blk_frozen h 0, blk_frozen h 1, blk_frozen h 2, blk_frozen h 3, blk_frozen h 4⟩
theorem y249_ {P : Prop} (h : P := by repeat (first | (with_reducible first | exact HB.out | apply below_alloc | apply pw_below_drewN | apply below_drew1 | refine below_set ?_ GE320.out) | exact HB.out)) : P := h
theorem y252_ {P : Prop} (h : P := by repeat (first | (with_reducible first | exact HB.out | apply below_alloc | apply pw_below_drewN | apply below_drew1 | refine below_set ?_ GE320.out | refine below_set ?_ GE321.out) | exact HB.out)) : P := h
theorem y253_ {P : Prop} (h : P := by rw [hg]; exact Nat.ne_of_lt (blk_lt (bd_ BK320.out))) : P := h
theorem y254_ {P : Prop} (h : P := by rw [hg]; exact Nat.ne_of_gt (blk_lt (bd_ BK320.out))) : P := h
theorem y255_ {P : Prop} (h : P := by rw [hg]; exact (below_size (hd_ HB.out))) : P := h
theorem y256_ {P : Prop} (h : P := by rw [hg]; exact (below_size y249_)) : P := h
set_option maxHeartbeats 8000000 in
set_option maxRecDepth 100000 in
theorem laws_eqThing.calls (a0_0 : Int) (a0_1 : Int) (a0_2 : Int) (a0_3 : Int) (a0_4 : Int) (a1_0 : Int) (a1_1 : Int) (a1_2 : Int) (a1_3 : Int) (a1_4 : Int) (r : Bool) (w : World) (h : laws_eqThing.f a0_0 a0_1 a0_2 a0_3 a0_4 a1_0 a1_1 a1_2 a1_3 a1_4 = some r) :
    Calls Try.prog 62 #[.agg #[.int .i64 a0_0, .int .i64 a0_1, .int .i64 a0_2, .int .i64 a0_3, .int .i64 a0_4], .agg #[.int .i64 a1_0, .int .i64 a1_1, .int .i64 a1_2, .int .i64 a1_3, .int .i64 a1_4]] w fun e w' => e = .returned (.bool r) ∧ Below w.heap.size w w' := by
  have hu56 := Try.underlying56
  have HB := Aside0.mk (Below.refl w.heap.size w)
  have H : (if a0_0 = a1_0 then (if a0_1 = a1_1 then (if a0_2 = a1_2 then (if a0_3 = a1_3 then (if a0_4 = a1_4 then (some true) else (some false)) else (some false)) else (some false)) else (some false)) else (some false)) = some r := h
  clear h
  by_cases c3 : a0_0 = a1_0
  · rw [if_pos c3] at H
    have c3b0 : (a0_0 == a1_0) = true := beq_iff_eq.mpr c3
    have c3b1 : (a0_0 != a1_0) = false := bne_eq_false_iff_eq.mpr c3
    clear c3
    by_cases c4 : a0_1 = a1_1
    · rw [if_pos c4] at H
      have c4b0 : (a0_1 == a1_1) = true := beq_iff_eq.mpr c4
      have c4b1 : (a0_1 != a1_1) = false := bne_eq_false_iff_eq.mpr c4
      clear c4
      by_cases c5 : a0_2 = a1_2
      · rw [if_pos c5] at H
        have c5b0 : (a0_2 == a1_2) = true := beq_iff_eq.mpr c5
        have c5b1 : (a0_2 != a1_2) = false := bne_eq_false_iff_eq.mpr c5
        clear c5
        by_cases c6 : a0_3 = a1_3
        · rw [if_pos c6] at H
          have c6b0 : (a0_3 == a1_3) = true := beq_iff_eq.mpr c6
          have c6b1 : (a0_3 != a1_3) = false := bne_eq_false_iff_eq.mpr c6
          clear c6
          by_cases c7 : a0_4 = a1_4
          · rw [if_pos c7] at H
            have c7b0 : (a0_4 == a1_4) = true := beq_iff_eq.mpr c7
            have c7b1 : (a0_4 != a1_4) = false := bne_eq_false_iff_eq.mpr c7
            clear c7
            obtain rfl := Option.some.inj H
            go_enter Try.func62, Try.ntmps62
            go_wp2_with (first | (refine bx_ 2 #[.int .i64 a0_0, .int .i64 a0_1, .int .i64 a0_2, .int .i64 a0_3, .int .i64 a0_4] 56 ?_; intro gb320 hg w8 hbox hb; have n0_ := Aside0.mk (below_step (hd_ HB.out) hb); have BK320 := Aside0.mk (hbox); have GW320 := Aside0.mk ((y255_ : w.heap.size ≤ gb320)); have GE320 := GW320; clear HB; have HB := n0_; clear n0_; clear hb hbox hg) | (refine bx_ 3 #[.int .i64 a1_0, .int .i64 a1_1, .int .i64 a1_2, .int .i64 a1_3, .int .i64 a1_4] 56 ?_; intro gb321 hg w9 hbox hb; have n0_ := Aside0.mk (blk_below (bd_ BK320.out) hb); have n1_ := Aside0.mk (below_step y249_ hb); have BK321 := Aside0.mk (hbox); have GW321 := Aside0.mk ((y256_ : w.heap.size ≤ gb321)); have GE321 := GW321; have NB320_321 := Aside0.mk ((y253_ : gb320 ≠ gb321)); have NB321_320 := Aside0.mk ((y254_ : gb321 ≠ gb320)); clear BK320; clear HB; have BK320 := n0_; have HB := n1_; clear n0_ n1_; clear hb hbox hg; have hnb10 := NB320_321.out; have hnc10 := NB321_320.out; obtain ⟨hcz11_0, hcz11_1, hcz11_2, hcz11_3, hcz11_4⟩ := e247_ BK320.out; obtain ⟨hfz11_0, hfz11_1, hfz11_2, hfz11_3, hfz11_4⟩ := z248_ BK320.out; obtain ⟨hcz12_0, hcz12_1, hcz12_2, hcz12_3, hcz12_4⟩ := e247_ BK321.out; obtain ⟨hfz12_0, hfz12_1, hfz12_2, hfz12_3, hfz12_4⟩ := z248_ BK321.out))
            go_ret
            exact ⟨rt_, y252_⟩
          · rw [if_neg c7] at H
            have c7b0 : (a0_4 == a1_4) = false := beq_eq_false_iff_ne.mpr c7
            have c7b1 : (a0_4 != a1_4) = true := bne_iff_ne.mpr c7
            obtain rfl := Option.some.inj H
            go_enter Try.func62, Try.ntmps62
            go_wp2_with (first | (refine bx_ 2 #[.int .i64 a0_0, .int .i64 a0_1, .int .i64 a0_2, .int .i64 a0_3, .int .i64 a0_4] 56 ?_; intro gb320 hg w13 hbox hb; have n0_ := Aside0.mk (below_step (hd_ HB.out) hb); have BK320 := Aside0.mk (hbox); have GW320 := Aside0.mk ((y255_ : w.heap.size ≤ gb320)); have GE320 := GW320; clear HB; have HB := n0_; clear n0_; clear hb hbox hg) | (refine bx_ 3 #[.int .i64 a1_0, .int .i64 a1_1, .int .i64 a1_2, .int .i64 a1_3, .int .i64 a1_4] 56 ?_; intro gb321 hg w14 hbox hb; have n0_ := Aside0.mk (blk_below (bd_ BK320.out) hb); have n1_ := Aside0.mk (below_step y249_ hb); have BK321 := Aside0.mk (hbox); have GW321 := Aside0.mk ((y256_ : w.heap.size ≤ gb321)); have GE321 := GW321; have NB320_321 := Aside0.mk ((y253_ : gb320 ≠ gb321)); have NB321_320 := Aside0.mk ((y254_ : gb321 ≠ gb320)); clear BK320; clear HB; have BK320 := n0_; have HB := n1_; clear n0_ n1_; clear hb hbox hg; have hnb15 := NB320_321.out; have hnc15 := NB321_320.out; obtain ⟨hcz16_0, hcz16_1, hcz16_2, hcz16_3, hcz16_4⟩ := e247_ BK320.out; obtain ⟨hfz16_0, hfz16_1, hfz16_2, hfz16_3, hfz16_4⟩ := z248_ BK320.out; obtain ⟨hcz17_0, hcz17_1, hcz17_2, hcz17_3, hcz17_4⟩ := e247_ BK321.out; obtain ⟨hfz17_0, hfz17_1, hfz17_2, hfz17_3, hfz17_4⟩ := z248_ BK321.out))
            go_ret
            exact ⟨rt_, y252_⟩
        · rw [if_neg c6] at H
          have c6b0 : (a0_3 == a1_3) = false := beq_eq_false_iff_ne.mpr c6
          have c6b1 : (a0_3 != a1_3) = true := bne_iff_ne.mpr c6
          obtain rfl := Option.some.inj H
          go_enter Try.func62, Try.ntmps62
          go_wp2_with (first | (refine bx_ 2 #[.int .i64 a0_0, .int .i64 a0_1, .int .i64 a0_2, .int .i64 a0_3, .int .i64 a0_4] 56 ?_; intro gb320 hg w18 hbox hb; have n0_ := Aside0.mk (below_step (hd_ HB.out) hb); have BK320 := Aside0.mk (hbox); have GW320 := Aside0.mk ((y255_ : w.heap.size ≤ gb320)); have GE320 := GW320; clear HB; have HB := n0_; clear n0_; clear hb hbox hg) | (refine bx_ 3 #[.int .i64 a1_0, .int .i64 a1_1, .int .i64 a1_2, .int .i64 a1_3, .int .i64 a1_4] 56 ?_; intro gb321 hg w19 hbox hb; have n0_ := Aside0.mk (blk_below (bd_ BK320.out) hb); have n1_ := Aside0.mk (below_step y249_ hb); have BK321 := Aside0.mk (hbox); have GW321 := Aside0.mk ((y256_ : w.heap.size ≤ gb321)); have GE321 := GW321; have NB320_321 := Aside0.mk ((y253_ : gb320 ≠ gb321)); have NB321_320 := Aside0.mk ((y254_ : gb321 ≠ gb320)); clear BK320; clear HB; have BK320 := n0_; have HB := n1_; clear n0_ n1_; clear hb hbox hg; have hnb20 := NB320_321.out; have hnc20 := NB321_320.out; obtain ⟨hcz21_0, hcz21_1, hcz21_2, hcz21_3, hcz21_4⟩ := e247_ BK320.out; obtain ⟨hfz21_0, hfz21_1, hfz21_2, hfz21_3, hfz21_4⟩ := z248_ BK320.out; obtain ⟨hcz22_0, hcz22_1, hcz22_2, hcz22_3, hcz22_4⟩ := e247_ BK321.out; obtain ⟨hfz22_0, hfz22_1, hfz22_2, hfz22_3, hfz22_4⟩ := z248_ BK321.out))
          go_ret
          exact ⟨rt_, y252_⟩
      · rw [if_neg c5] at H
        have c5b0 : (a0_2 == a1_2) = false := beq_eq_false_iff_ne.mpr c5
        have c5b1 : (a0_2 != a1_2) = true := bne_iff_ne.mpr c5
        obtain rfl := Option.some.inj H
        go_enter Try.func62, Try.ntmps62
        go_wp2_with (first | (refine bx_ 2 #[.int .i64 a0_0, .int .i64 a0_1, .int .i64 a0_2, .int .i64 a0_3, .int .i64 a0_4] 56 ?_; intro gb320 hg w23 hbox hb; have n0_ := Aside0.mk (below_step (hd_ HB.out) hb); have BK320 := Aside0.mk (hbox); have GW320 := Aside0.mk ((y255_ : w.heap.size ≤ gb320)); have GE320 := GW320; clear HB; have HB := n0_; clear n0_; clear hb hbox hg) | (refine bx_ 3 #[.int .i64 a1_0, .int .i64 a1_1, .int .i64 a1_2, .int .i64 a1_3, .int .i64 a1_4] 56 ?_; intro gb321 hg w24 hbox hb; have n0_ := Aside0.mk (blk_below (bd_ BK320.out) hb); have n1_ := Aside0.mk (below_step y249_ hb); have BK321 := Aside0.mk (hbox); have GW321 := Aside0.mk ((y256_ : w.heap.size ≤ gb321)); have GE321 := GW321; have NB320_321 := Aside0.mk ((y253_ : gb320 ≠ gb321)); have NB321_320 := Aside0.mk ((y254_ : gb321 ≠ gb320)); clear BK320; clear HB; have BK320 := n0_; have HB := n1_; clear n0_ n1_; clear hb hbox hg; have hnb25 := NB320_321.out; have hnc25 := NB321_320.out; obtain ⟨hcz26_0, hcz26_1, hcz26_2, hcz26_3, hcz26_4⟩ := e247_ BK320.out; obtain ⟨hfz26_0, hfz26_1, hfz26_2, hfz26_3, hfz26_4⟩ := z248_ BK320.out; obtain ⟨hcz27_0, hcz27_1, hcz27_2, hcz27_3, hcz27_4⟩ := e247_ BK321.out; obtain ⟨hfz27_0, hfz27_1, hfz27_2, hfz27_3, hfz27_4⟩ := z248_ BK321.out))
        go_ret
        exact ⟨rt_, y252_⟩
    · rw [if_neg c4] at H
      have c4b0 : (a0_1 == a1_1) = false := beq_eq_false_iff_ne.mpr c4
      have c4b1 : (a0_1 != a1_1) = true := bne_iff_ne.mpr c4
      obtain rfl := Option.some.inj H
      go_enter Try.func62, Try.ntmps62
      go_wp2_with (first | (refine bx_ 2 #[.int .i64 a0_0, .int .i64 a0_1, .int .i64 a0_2, .int .i64 a0_3, .int .i64 a0_4] 56 ?_; intro gb320 hg w28 hbox hb; have n0_ := Aside0.mk (below_step (hd_ HB.out) hb); have BK320 := Aside0.mk (hbox); have GW320 := Aside0.mk ((y255_ : w.heap.size ≤ gb320)); have GE320 := GW320; clear HB; have HB := n0_; clear n0_; clear hb hbox hg) | (refine bx_ 3 #[.int .i64 a1_0, .int .i64 a1_1, .int .i64 a1_2, .int .i64 a1_3, .int .i64 a1_4] 56 ?_; intro gb321 hg w29 hbox hb; have n0_ := Aside0.mk (blk_below (bd_ BK320.out) hb); have n1_ := Aside0.mk (below_step y249_ hb); have BK321 := Aside0.mk (hbox); have GW321 := Aside0.mk ((y256_ : w.heap.size ≤ gb321)); have GE321 := GW321; have NB320_321 := Aside0.mk ((y253_ : gb320 ≠ gb321)); have NB321_320 := Aside0.mk ((y254_ : gb321 ≠ gb320)); clear BK320; clear HB; have BK320 := n0_; have HB := n1_; clear n0_ n1_; clear hb hbox hg; have hnb30 := NB320_321.out; have hnc30 := NB321_320.out; obtain ⟨hcz31_0, hcz31_1, hcz31_2, hcz31_3, hcz31_4⟩ := e247_ BK320.out; obtain ⟨hfz31_0, hfz31_1, hfz31_2, hfz31_3, hfz31_4⟩ := z248_ BK320.out; obtain ⟨hcz32_0, hcz32_1, hcz32_2, hcz32_3, hcz32_4⟩ := e247_ BK321.out; obtain ⟨hfz32_0, hfz32_1, hfz32_2, hfz32_3, hfz32_4⟩ := z248_ BK321.out))
      go_ret
      exact ⟨rt_, y252_⟩
  · rw [if_neg c3] at H
    have c3b0 : (a0_0 == a1_0) = false := beq_eq_false_iff_ne.mpr c3
    have c3b1 : (a0_0 != a1_0) = true := bne_iff_ne.mpr c3
    obtain rfl := Option.some.inj H
    go_enter Try.func62, Try.ntmps62
    go_wp2_with (first | (refine bx_ 2 #[.int .i64 a0_0, .int .i64 a0_1, .int .i64 a0_2, .int .i64 a0_3, .int .i64 a0_4] 56 ?_; intro gb320 hg w33 hbox hb; have n0_ := Aside0.mk (below_step (hd_ HB.out) hb); have BK320 := Aside0.mk (hbox); have GW320 := Aside0.mk ((y255_ : w.heap.size ≤ gb320)); have GE320 := GW320; clear HB; have HB := n0_; clear n0_; clear hb hbox hg) | (refine bx_ 3 #[.int .i64 a1_0, .int .i64 a1_1, .int .i64 a1_2, .int .i64 a1_3, .int .i64 a1_4] 56 ?_; intro gb321 hg w34 hbox hb; have n0_ := Aside0.mk (blk_below (bd_ BK320.out) hb); have n1_ := Aside0.mk (below_step y249_ hb); have BK321 := Aside0.mk (hbox); have GW321 := Aside0.mk ((y256_ : w.heap.size ≤ gb321)); have GE321 := GW321; have NB320_321 := Aside0.mk ((y253_ : gb320 ≠ gb321)); have NB321_320 := Aside0.mk ((y254_ : gb321 ≠ gb320)); clear BK320; clear HB; have BK320 := n0_; have HB := n1_; clear n0_ n1_; clear hb hbox hg; have hnb35 := NB320_321.out; have hnc35 := NB321_320.out; obtain ⟨hcz36_0, hcz36_1, hcz36_2, hcz36_3, hcz36_4⟩ := e247_ BK320.out; obtain ⟨hfz36_0, hfz36_1, hfz36_2, hfz36_3, hfz36_4⟩ := z248_ BK320.out; obtain ⟨hcz37_0, hcz37_1, hcz37_2, hcz37_3, hcz37_4⟩ := e247_ BK321.out; obtain ⟨hfz37_0, hfz37_1, hfz37_2, hfz37_3, hfz37_4⟩ := z248_ BK321.out))
    go_ret
    exact ⟨rt_, y252_⟩

/-! ### laws_eqFind: function 46 -/
def laws_eqFind.f (a0_0 : Int) (a0_1 : Int) (a0_2 : Int) (a0_3 : Int) (a0_4 : Int) (a0_5 : Int) (a0_6 : Int) (a0_7 : Int) (a1_0 : Int) (a1_1 : Int) (a1_2 : Int) (a1_3 : Int) (a1_4 : Int) (a1_5 : Int) (a1_6 : Int) (a1_7 : Int) : Option (Bool) := (laws_eqThing.f a0_0 a0_1 a0_2 a0_3 a0_4 a1_0 a1_1 a1_2 a1_3 a1_4).bind fun t324 => (if t324 = true then (if a0_5 = a1_5 then (if a0_6 = a1_6 then (if a0_7 = a1_7 then (some true) else (some false)) else (some false)) else (some false)) else (some false))
abbrev c257_ (i0 : Int) (i1 : Int) (i2 : Int) (i3 : Int) (i4 : Int) (i5 : Int) (i6 : Int) (i7 : Int) : Obj := .cells #[.int .i64 i0, .int .i64 i1, .int .i64 i2, .int .i64 i3, .int .i64 i4, .int .i64 i5, .int .i64 i6, .int .i64 i7] 58 (0, 0)
theorem e258_ {w : World} {g : Nat} {t : TypeId} {i0 : Int} {i1 : Int} {i2 : Int} {i3 : Int} {i4 : Int} {i5 : Int} {i6 : Int} {i7 : Int} (h : w.heap[g]? = some (.cells #[.int .i64 i0, .int .i64 i1, .int .i64 i2, .int .i64 i3, .int .i64 i4, .int .i64 i5, .int .i64 i6, .int .i64 i7] t (0, 0))) : w.cell? ⟨g, 0, none⟩ = some (.int .i64 i0) ∧ w.cell? ⟨g, 1, none⟩ = some (.int .i64 i1) ∧ w.cell? ⟨g, 2, none⟩ = some (.int .i64 i2) ∧ w.cell? ⟨g, 3, none⟩ = some (.int .i64 i3) ∧ w.cell? ⟨g, 4, none⟩ = some (.int .i64 i4) ∧ w.cell? ⟨g, 5, none⟩ = some (.int .i64 i5) ∧ w.cell? ⟨g, 6, none⟩ = some (.int .i64 i6) ∧ w.cell? ⟨g, 7, none⟩ = some (.int .i64 i7) := ⟨(blk_cell h 0).trans rfl, (blk_cell h 1).trans rfl, (blk_cell h 2).trans rfl, (blk_cell h 3).trans rfl, (blk_cell h 4).trans rfl, (blk_cell h 5).trans rfl, (blk_cell h 6).trans rfl, (blk_cell h 7).trans rfl⟩
theorem z259_ {w : World} {g : Nat} {t : TypeId} {cs : Array Value} (h : w.heap[g]? = some (.cells cs t (0, 0))) : w.frozen? ⟨g, 0, none⟩ = false ∧ w.frozen? ⟨g, 1, none⟩ = false ∧ w.frozen? ⟨g, 2, none⟩ = false ∧ w.frozen? ⟨g, 3, none⟩ = false ∧ w.frozen? ⟨g, 4, none⟩ = false ∧ w.frozen? ⟨g, 5, none⟩ = false ∧ w.frozen? ⟨g, 6, none⟩ = false ∧ w.frozen? ⟨g, 7, none⟩ = false := ⟨blk_frozen h 0, blk_frozen h 1, blk_frozen h 2, blk_frozen h 3, blk_frozen h 4, blk_frozen h 5, blk_frozen h 6, blk_frozen h 7⟩
theorem y260_ {P : Prop} (h : P := by repeat (first | (with_reducible first | exact HB.out | apply below_alloc | apply pw_below_drewN | apply below_drew1 | refine below_set ?_ GE322.out) | exact HB.out)) : P := h
theorem y263_ {P : Prop} (h : P := by repeat (first | (with_reducible first | exact HB.out | apply below_alloc | apply pw_below_drewN | apply below_drew1 | refine below_set ?_ GE322.out | refine below_set ?_ GE323.out) | exact HB.out)) : P := h
theorem y264_ {P : Prop} (h : P := by repeat (first | (with_reducible first | exact HB.out | apply below_alloc | apply pw_below_drewN | apply below_drew1 | refine below_set ?_ GE322.out | refine below_set ?_ GE323.out) | exact HB.out)) : P := h
theorem y267_ {P : Prop} (h : P := by rw [hg]; exact Nat.ne_of_lt (blk_lt (bd_ BK322.out))) : P := h
theorem y268_ {P : Prop} (h : P := by rw [hg]; exact Nat.ne_of_gt (blk_lt (bd_ BK322.out))) : P := h
theorem y269_ {P : Prop} (h : P := by rw [hg]; exact (below_size (hd_ HB.out))) : P := h
theorem y270_ {P : Prop} (h : P := by rw [hg]; exact (below_size y260_)) : P := h
set_option maxHeartbeats 8000000 in
set_option maxRecDepth 100000 in
theorem laws_eqFind.calls (a0_0 : Int) (a0_1 : Int) (a0_2 : Int) (a0_3 : Int) (a0_4 : Int) (a0_5 : Int) (a0_6 : Int) (a0_7 : Int) (a1_0 : Int) (a1_1 : Int) (a1_2 : Int) (a1_3 : Int) (a1_4 : Int) (a1_5 : Int) (a1_6 : Int) (a1_7 : Int) (r : Bool) (w : World) (h : laws_eqFind.f a0_0 a0_1 a0_2 a0_3 a0_4 a0_5 a0_6 a0_7 a1_0 a1_1 a1_2 a1_3 a1_4 a1_5 a1_6 a1_7 = some r) :
    Calls Try.prog 46 #[.agg #[.int .i64 a0_0, .int .i64 a0_1, .int .i64 a0_2, .int .i64 a0_3, .int .i64 a0_4, .int .i64 a0_5, .int .i64 a0_6, .int .i64 a0_7], .agg #[.int .i64 a1_0, .int .i64 a1_1, .int .i64 a1_2, .int .i64 a1_3, .int .i64 a1_4, .int .i64 a1_5, .int .i64 a1_6, .int .i64 a1_7]] w fun e w' => e = .returned (.bool r) ∧ Below w.heap.size w w' := by
  have hu58 := Try.underlying58
  have hu56 := Try.underlying56
  have HB := Aside0.mk (Below.refl w.heap.size w)
  have H : ((laws_eqThing.f a0_0 a0_1 a0_2 a0_3 a0_4 a1_0 a1_1 a1_2 a1_3 a1_4).bind fun t324 => (if t324 = true then (if a0_5 = a1_5 then (if a0_6 = a1_6 then (if a0_7 = a1_7 then (some true) else (some false)) else (some false)) else (some false)) else (some false))) = some r := h
  clear h
  replace H := Option.bind_eq_some_iff.mp H
  obtain ⟨t324, A30, H⟩ := H
  replace H : (if t324 = true then (if a0_5 = a1_5 then (if a0_6 = a1_6 then (if a0_7 = a1_7 then (some true) else (some false)) else (some false)) else (some false)) else (some false)) = some r := H
  have A3 := Aside0.mk A30
  clear A30
  by_cases c4 : t324 = true
  · subst c4
    have H1 : (if a0_5 = a1_5 then (if a0_6 = a1_6 then (if a0_7 = a1_7 then (some true) else (some false)) else (some false)) else (some false)) = some r := by rw [if_pos rfl] at H; exact H
    clear H
    have H := H1
    clear H1
    by_cases c5 : a0_5 = a1_5
    · rw [if_pos c5] at H
      have c5b0 : (a0_5 == a1_5) = true := beq_iff_eq.mpr c5
      have c5b1 : (a0_5 != a1_5) = false := bne_eq_false_iff_eq.mpr c5
      clear c5
      by_cases c6 : a0_6 = a1_6
      · rw [if_pos c6] at H
        have c6b0 : (a0_6 == a1_6) = true := beq_iff_eq.mpr c6
        have c6b1 : (a0_6 != a1_6) = false := bne_eq_false_iff_eq.mpr c6
        clear c6
        by_cases c7 : a0_7 = a1_7
        · rw [if_pos c7] at H
          have c7b0 : (a0_7 == a1_7) = true := beq_iff_eq.mpr c7
          have c7b1 : (a0_7 != a1_7) = false := bne_eq_false_iff_eq.mpr c7
          clear c7
          obtain rfl := Option.some.inj H
          go_enter Try.func46, Try.ntmps46
          go_wp2_with (first | (refine bx_ 2 #[.int .i64 a0_0, .int .i64 a0_1, .int .i64 a0_2, .int .i64 a0_3, .int .i64 a0_4, .int .i64 a0_5, .int .i64 a0_6, .int .i64 a0_7] 58 ?_; intro gb322 hg w8 hbox hb; have n0_ := Aside0.mk (below_step (hd_ HB.out) hb); have BK322 := Aside0.mk (hbox); have GW322 := Aside0.mk ((y269_ : w.heap.size ≤ gb322)); have GE322 := GW322; clear HB; have HB := n0_; clear n0_; clear hb hbox hg) | (refine bx_ 3 #[.int .i64 a1_0, .int .i64 a1_1, .int .i64 a1_2, .int .i64 a1_3, .int .i64 a1_4, .int .i64 a1_5, .int .i64 a1_6, .int .i64 a1_7] 58 ?_; intro gb323 hg w9 hbox hb; have n0_ := Aside0.mk (blk_below (bd_ BK322.out) hb); have n1_ := Aside0.mk (below_step y260_ hb); have BK323 := Aside0.mk (hbox); have GW323 := Aside0.mk ((y270_ : w.heap.size ≤ gb323)); have GE323 := GW323; have NB322_323 := Aside0.mk ((y267_ : gb322 ≠ gb323)); have NB323_322 := Aside0.mk ((y268_ : gb323 ≠ gb322)); clear BK322; clear HB; have BK322 := n0_; have HB := n1_; clear n0_ n1_; clear hb hbox hg; have hnb10 := NB322_323.out; have hnc10 := NB323_322.out; obtain ⟨hcz11_0, hcz11_1, hcz11_2, hcz11_3, hcz11_4, hcz11_5, hcz11_6, hcz11_7⟩ := e258_ BK322.out; obtain ⟨hfz11_0, hfz11_1, hfz11_2, hfz11_3, hfz11_4, hfz11_5, hfz11_6, hfz11_7⟩ := z259_ BK322.out; obtain ⟨hcz12_0, hcz12_1, hcz12_2, hcz12_3, hcz12_4, hcz12_5, hcz12_6, hcz12_7⟩ := e258_ BK323.out; obtain ⟨hfz12_0, hfz12_1, hfz12_2, hfz12_3, hfz12_4, hfz12_5, hfz12_6, hfz12_7⟩ := z259_ BK323.out) | ((with_reducible refine gate_callee (f := 62) rfl ?_); refine goesL_ (some 9) rfl rfl Try.func62 (by kernel_rfl) rfl #[.agg #[.int .i64 a0_0, .int .i64 a0_1, .int .i64 a0_2, .int .i64 a0_3, .int .i64 a0_4], .agg #[.int .i64 a1_0, .int .i64 a1_1, .int .i64 a1_2, .int .i64 a1_3, .int .i64 a1_4]] rfl ma_ ?_; (with_reducible refine (laws_eqThing.calls a0_0 a0_1 a0_2 a0_3 a0_4 a1_0 a1_1 a1_2 a1_3 a1_4 true _ A3.out).mono ?_); rintro e w13 ⟨rfl, hb⟩; refine ⟨_, rfl, ?_⟩; have n0_ := Aside0.mk (blk_below (bd_ BK322.out) hb); have n1_ := Aside0.mk (blk_below (bd_ BK323.out) hb); have n2_ := Aside0.mk (below_step y263_ hb); clear BK322; clear BK323; clear HB; have BK322 := n0_; have BK323 := n1_; have HB := n2_; clear n0_ n1_ n2_; (try clear hb); obtain ⟨hcz14_0, hcz14_1, hcz14_2, hcz14_3, hcz14_4, hcz14_5, hcz14_6, hcz14_7⟩ := e258_ BK322.out; obtain ⟨hfz14_0, hfz14_1, hfz14_2, hfz14_3, hfz14_4, hfz14_5, hfz14_6, hfz14_7⟩ := z259_ BK322.out; obtain ⟨hcz15_0, hcz15_1, hcz15_2, hcz15_3, hcz15_4, hcz15_5, hcz15_6, hcz15_7⟩ := e258_ BK323.out; obtain ⟨hfz15_0, hfz15_1, hfz15_2, hfz15_3, hfz15_4, hfz15_5, hfz15_6, hfz15_7⟩ := z259_ BK323.out))
          go_ret
          exact ⟨rt_, y264_⟩
        · rw [if_neg c7] at H
          have c7b0 : (a0_7 == a1_7) = false := beq_eq_false_iff_ne.mpr c7
          have c7b1 : (a0_7 != a1_7) = true := bne_iff_ne.mpr c7
          obtain rfl := Option.some.inj H
          go_enter Try.func46, Try.ntmps46
          go_wp2_with (first | (refine bx_ 2 #[.int .i64 a0_0, .int .i64 a0_1, .int .i64 a0_2, .int .i64 a0_3, .int .i64 a0_4, .int .i64 a0_5, .int .i64 a0_6, .int .i64 a0_7] 58 ?_; intro gb322 hg w16 hbox hb; have n0_ := Aside0.mk (below_step (hd_ HB.out) hb); have BK322 := Aside0.mk (hbox); have GW322 := Aside0.mk ((y269_ : w.heap.size ≤ gb322)); have GE322 := GW322; clear HB; have HB := n0_; clear n0_; clear hb hbox hg) | (refine bx_ 3 #[.int .i64 a1_0, .int .i64 a1_1, .int .i64 a1_2, .int .i64 a1_3, .int .i64 a1_4, .int .i64 a1_5, .int .i64 a1_6, .int .i64 a1_7] 58 ?_; intro gb323 hg w17 hbox hb; have n0_ := Aside0.mk (blk_below (bd_ BK322.out) hb); have n1_ := Aside0.mk (below_step y260_ hb); have BK323 := Aside0.mk (hbox); have GW323 := Aside0.mk ((y270_ : w.heap.size ≤ gb323)); have GE323 := GW323; have NB322_323 := Aside0.mk ((y267_ : gb322 ≠ gb323)); have NB323_322 := Aside0.mk ((y268_ : gb323 ≠ gb322)); clear BK322; clear HB; have BK322 := n0_; have HB := n1_; clear n0_ n1_; clear hb hbox hg; have hnb18 := NB322_323.out; have hnc18 := NB323_322.out; obtain ⟨hcz19_0, hcz19_1, hcz19_2, hcz19_3, hcz19_4, hcz19_5, hcz19_6, hcz19_7⟩ := e258_ BK322.out; obtain ⟨hfz19_0, hfz19_1, hfz19_2, hfz19_3, hfz19_4, hfz19_5, hfz19_6, hfz19_7⟩ := z259_ BK322.out; obtain ⟨hcz20_0, hcz20_1, hcz20_2, hcz20_3, hcz20_4, hcz20_5, hcz20_6, hcz20_7⟩ := e258_ BK323.out; obtain ⟨hfz20_0, hfz20_1, hfz20_2, hfz20_3, hfz20_4, hfz20_5, hfz20_6, hfz20_7⟩ := z259_ BK323.out) | ((with_reducible refine gate_callee (f := 62) rfl ?_); refine goesL_ (some 9) rfl rfl Try.func62 (by kernel_rfl) rfl #[.agg #[.int .i64 a0_0, .int .i64 a0_1, .int .i64 a0_2, .int .i64 a0_3, .int .i64 a0_4], .agg #[.int .i64 a1_0, .int .i64 a1_1, .int .i64 a1_2, .int .i64 a1_3, .int .i64 a1_4]] rfl ma_ ?_; (with_reducible refine (laws_eqThing.calls a0_0 a0_1 a0_2 a0_3 a0_4 a1_0 a1_1 a1_2 a1_3 a1_4 true _ A3.out).mono ?_); rintro e w21 ⟨rfl, hb⟩; refine ⟨_, rfl, ?_⟩; have n0_ := Aside0.mk (blk_below (bd_ BK322.out) hb); have n1_ := Aside0.mk (blk_below (bd_ BK323.out) hb); have n2_ := Aside0.mk (below_step y263_ hb); clear BK322; clear BK323; clear HB; have BK322 := n0_; have BK323 := n1_; have HB := n2_; clear n0_ n1_ n2_; (try clear hb); obtain ⟨hcz22_0, hcz22_1, hcz22_2, hcz22_3, hcz22_4, hcz22_5, hcz22_6, hcz22_7⟩ := e258_ BK322.out; obtain ⟨hfz22_0, hfz22_1, hfz22_2, hfz22_3, hfz22_4, hfz22_5, hfz22_6, hfz22_7⟩ := z259_ BK322.out; obtain ⟨hcz23_0, hcz23_1, hcz23_2, hcz23_3, hcz23_4, hcz23_5, hcz23_6, hcz23_7⟩ := e258_ BK323.out; obtain ⟨hfz23_0, hfz23_1, hfz23_2, hfz23_3, hfz23_4, hfz23_5, hfz23_6, hfz23_7⟩ := z259_ BK323.out))
          go_ret
          exact ⟨rt_, y264_⟩
      · rw [if_neg c6] at H
        have c6b0 : (a0_6 == a1_6) = false := beq_eq_false_iff_ne.mpr c6
        have c6b1 : (a0_6 != a1_6) = true := bne_iff_ne.mpr c6
        obtain rfl := Option.some.inj H
        go_enter Try.func46, Try.ntmps46
        go_wp2_with (first | (refine bx_ 2 #[.int .i64 a0_0, .int .i64 a0_1, .int .i64 a0_2, .int .i64 a0_3, .int .i64 a0_4, .int .i64 a0_5, .int .i64 a0_6, .int .i64 a0_7] 58 ?_; intro gb322 hg w24 hbox hb; have n0_ := Aside0.mk (below_step (hd_ HB.out) hb); have BK322 := Aside0.mk (hbox); have GW322 := Aside0.mk ((y269_ : w.heap.size ≤ gb322)); have GE322 := GW322; clear HB; have HB := n0_; clear n0_; clear hb hbox hg) | (refine bx_ 3 #[.int .i64 a1_0, .int .i64 a1_1, .int .i64 a1_2, .int .i64 a1_3, .int .i64 a1_4, .int .i64 a1_5, .int .i64 a1_6, .int .i64 a1_7] 58 ?_; intro gb323 hg w25 hbox hb; have n0_ := Aside0.mk (blk_below (bd_ BK322.out) hb); have n1_ := Aside0.mk (below_step y260_ hb); have BK323 := Aside0.mk (hbox); have GW323 := Aside0.mk ((y270_ : w.heap.size ≤ gb323)); have GE323 := GW323; have NB322_323 := Aside0.mk ((y267_ : gb322 ≠ gb323)); have NB323_322 := Aside0.mk ((y268_ : gb323 ≠ gb322)); clear BK322; clear HB; have BK322 := n0_; have HB := n1_; clear n0_ n1_; clear hb hbox hg; have hnb26 := NB322_323.out; have hnc26 := NB323_322.out; obtain ⟨hcz27_0, hcz27_1, hcz27_2, hcz27_3, hcz27_4, hcz27_5, hcz27_6, hcz27_7⟩ := e258_ BK322.out; obtain ⟨hfz27_0, hfz27_1, hfz27_2, hfz27_3, hfz27_4, hfz27_5, hfz27_6, hfz27_7⟩ := z259_ BK322.out; obtain ⟨hcz28_0, hcz28_1, hcz28_2, hcz28_3, hcz28_4, hcz28_5, hcz28_6, hcz28_7⟩ := e258_ BK323.out; obtain ⟨hfz28_0, hfz28_1, hfz28_2, hfz28_3, hfz28_4, hfz28_5, hfz28_6, hfz28_7⟩ := z259_ BK323.out) | ((with_reducible refine gate_callee (f := 62) rfl ?_); refine goesL_ (some 9) rfl rfl Try.func62 (by kernel_rfl) rfl #[.agg #[.int .i64 a0_0, .int .i64 a0_1, .int .i64 a0_2, .int .i64 a0_3, .int .i64 a0_4], .agg #[.int .i64 a1_0, .int .i64 a1_1, .int .i64 a1_2, .int .i64 a1_3, .int .i64 a1_4]] rfl ma_ ?_; (with_reducible refine (laws_eqThing.calls a0_0 a0_1 a0_2 a0_3 a0_4 a1_0 a1_1 a1_2 a1_3 a1_4 true _ A3.out).mono ?_); rintro e w29 ⟨rfl, hb⟩; refine ⟨_, rfl, ?_⟩; have n0_ := Aside0.mk (blk_below (bd_ BK322.out) hb); have n1_ := Aside0.mk (blk_below (bd_ BK323.out) hb); have n2_ := Aside0.mk (below_step y263_ hb); clear BK322; clear BK323; clear HB; have BK322 := n0_; have BK323 := n1_; have HB := n2_; clear n0_ n1_ n2_; (try clear hb); obtain ⟨hcz30_0, hcz30_1, hcz30_2, hcz30_3, hcz30_4, hcz30_5, hcz30_6, hcz30_7⟩ := e258_ BK322.out; obtain ⟨hfz30_0, hfz30_1, hfz30_2, hfz30_3, hfz30_4, hfz30_5, hfz30_6, hfz30_7⟩ := z259_ BK322.out; obtain ⟨hcz31_0, hcz31_1, hcz31_2, hcz31_3, hcz31_4, hcz31_5, hcz31_6, hcz31_7⟩ := e258_ BK323.out; obtain ⟨hfz31_0, hfz31_1, hfz31_2, hfz31_3, hfz31_4, hfz31_5, hfz31_6, hfz31_7⟩ := z259_ BK323.out))
        go_ret
        exact ⟨rt_, y264_⟩
    · rw [if_neg c5] at H
      have c5b0 : (a0_5 == a1_5) = false := beq_eq_false_iff_ne.mpr c5
      have c5b1 : (a0_5 != a1_5) = true := bne_iff_ne.mpr c5
      obtain rfl := Option.some.inj H
      go_enter Try.func46, Try.ntmps46
      go_wp2_with (first | (refine bx_ 2 #[.int .i64 a0_0, .int .i64 a0_1, .int .i64 a0_2, .int .i64 a0_3, .int .i64 a0_4, .int .i64 a0_5, .int .i64 a0_6, .int .i64 a0_7] 58 ?_; intro gb322 hg w32 hbox hb; have n0_ := Aside0.mk (below_step (hd_ HB.out) hb); have BK322 := Aside0.mk (hbox); have GW322 := Aside0.mk ((y269_ : w.heap.size ≤ gb322)); have GE322 := GW322; clear HB; have HB := n0_; clear n0_; clear hb hbox hg) | (refine bx_ 3 #[.int .i64 a1_0, .int .i64 a1_1, .int .i64 a1_2, .int .i64 a1_3, .int .i64 a1_4, .int .i64 a1_5, .int .i64 a1_6, .int .i64 a1_7] 58 ?_; intro gb323 hg w33 hbox hb; have n0_ := Aside0.mk (blk_below (bd_ BK322.out) hb); have n1_ := Aside0.mk (below_step y260_ hb); have BK323 := Aside0.mk (hbox); have GW323 := Aside0.mk ((y270_ : w.heap.size ≤ gb323)); have GE323 := GW323; have NB322_323 := Aside0.mk ((y267_ : gb322 ≠ gb323)); have NB323_322 := Aside0.mk ((y268_ : gb323 ≠ gb322)); clear BK322; clear HB; have BK322 := n0_; have HB := n1_; clear n0_ n1_; clear hb hbox hg; have hnb34 := NB322_323.out; have hnc34 := NB323_322.out; obtain ⟨hcz35_0, hcz35_1, hcz35_2, hcz35_3, hcz35_4, hcz35_5, hcz35_6, hcz35_7⟩ := e258_ BK322.out; obtain ⟨hfz35_0, hfz35_1, hfz35_2, hfz35_3, hfz35_4, hfz35_5, hfz35_6, hfz35_7⟩ := z259_ BK322.out; obtain ⟨hcz36_0, hcz36_1, hcz36_2, hcz36_3, hcz36_4, hcz36_5, hcz36_6, hcz36_7⟩ := e258_ BK323.out; obtain ⟨hfz36_0, hfz36_1, hfz36_2, hfz36_3, hfz36_4, hfz36_5, hfz36_6, hfz36_7⟩ := z259_ BK323.out) | ((with_reducible refine gate_callee (f := 62) rfl ?_); refine goesL_ (some 9) rfl rfl Try.func62 (by kernel_rfl) rfl #[.agg #[.int .i64 a0_0, .int .i64 a0_1, .int .i64 a0_2, .int .i64 a0_3, .int .i64 a0_4], .agg #[.int .i64 a1_0, .int .i64 a1_1, .int .i64 a1_2, .int .i64 a1_3, .int .i64 a1_4]] rfl ma_ ?_; (with_reducible refine (laws_eqThing.calls a0_0 a0_1 a0_2 a0_3 a0_4 a1_0 a1_1 a1_2 a1_3 a1_4 true _ A3.out).mono ?_); rintro e w37 ⟨rfl, hb⟩; refine ⟨_, rfl, ?_⟩; have n0_ := Aside0.mk (blk_below (bd_ BK322.out) hb); have n1_ := Aside0.mk (blk_below (bd_ BK323.out) hb); have n2_ := Aside0.mk (below_step y263_ hb); clear BK322; clear BK323; clear HB; have BK322 := n0_; have BK323 := n1_; have HB := n2_; clear n0_ n1_ n2_; (try clear hb); obtain ⟨hcz38_0, hcz38_1, hcz38_2, hcz38_3, hcz38_4, hcz38_5, hcz38_6, hcz38_7⟩ := e258_ BK322.out; obtain ⟨hfz38_0, hfz38_1, hfz38_2, hfz38_3, hfz38_4, hfz38_5, hfz38_6, hfz38_7⟩ := z259_ BK322.out; obtain ⟨hcz39_0, hcz39_1, hcz39_2, hcz39_3, hcz39_4, hcz39_5, hcz39_6, hcz39_7⟩ := e258_ BK323.out; obtain ⟨hfz39_0, hfz39_1, hfz39_2, hfz39_3, hfz39_4, hfz39_5, hfz39_6, hfz39_7⟩ := z259_ BK323.out))
      go_ret
      exact ⟨rt_, y264_⟩
  · replace c4 := Bool.eq_false_iff.mpr c4
    subst c4
    have H1 : (some false) = some r := by rw [if_neg (show ¬ (false = true) by decide)] at H; exact H
    clear H
    have H := H1
    clear H1
    obtain rfl := Option.some.inj H
    go_enter Try.func46, Try.ntmps46
    go_wp2_with (first | (refine bx_ 2 #[.int .i64 a0_0, .int .i64 a0_1, .int .i64 a0_2, .int .i64 a0_3, .int .i64 a0_4, .int .i64 a0_5, .int .i64 a0_6, .int .i64 a0_7] 58 ?_; intro gb322 hg w40 hbox hb; have n0_ := Aside0.mk (below_step (hd_ HB.out) hb); have BK322 := Aside0.mk (hbox); have GW322 := Aside0.mk ((y269_ : w.heap.size ≤ gb322)); have GE322 := GW322; clear HB; have HB := n0_; clear n0_; clear hb hbox hg) | (refine bx_ 3 #[.int .i64 a1_0, .int .i64 a1_1, .int .i64 a1_2, .int .i64 a1_3, .int .i64 a1_4, .int .i64 a1_5, .int .i64 a1_6, .int .i64 a1_7] 58 ?_; intro gb323 hg w41 hbox hb; have n0_ := Aside0.mk (blk_below (bd_ BK322.out) hb); have n1_ := Aside0.mk (below_step y260_ hb); have BK323 := Aside0.mk (hbox); have GW323 := Aside0.mk ((y270_ : w.heap.size ≤ gb323)); have GE323 := GW323; have NB322_323 := Aside0.mk ((y267_ : gb322 ≠ gb323)); have NB323_322 := Aside0.mk ((y268_ : gb323 ≠ gb322)); clear BK322; clear HB; have BK322 := n0_; have HB := n1_; clear n0_ n1_; clear hb hbox hg; have hnb42 := NB322_323.out; have hnc42 := NB323_322.out; obtain ⟨hcz43_0, hcz43_1, hcz43_2, hcz43_3, hcz43_4, hcz43_5, hcz43_6, hcz43_7⟩ := e258_ BK322.out; obtain ⟨hfz43_0, hfz43_1, hfz43_2, hfz43_3, hfz43_4, hfz43_5, hfz43_6, hfz43_7⟩ := z259_ BK322.out; obtain ⟨hcz44_0, hcz44_1, hcz44_2, hcz44_3, hcz44_4, hcz44_5, hcz44_6, hcz44_7⟩ := e258_ BK323.out; obtain ⟨hfz44_0, hfz44_1, hfz44_2, hfz44_3, hfz44_4, hfz44_5, hfz44_6, hfz44_7⟩ := z259_ BK323.out) | ((with_reducible refine gate_callee (f := 62) rfl ?_); refine goesL_ (some 9) rfl rfl Try.func62 (by kernel_rfl) rfl #[.agg #[.int .i64 a0_0, .int .i64 a0_1, .int .i64 a0_2, .int .i64 a0_3, .int .i64 a0_4], .agg #[.int .i64 a1_0, .int .i64 a1_1, .int .i64 a1_2, .int .i64 a1_3, .int .i64 a1_4]] rfl ma_ ?_; (with_reducible refine (laws_eqThing.calls a0_0 a0_1 a0_2 a0_3 a0_4 a1_0 a1_1 a1_2 a1_3 a1_4 false _ A3.out).mono ?_); rintro e w45 ⟨rfl, hb⟩; refine ⟨_, rfl, ?_⟩; have n0_ := Aside0.mk (blk_below (bd_ BK322.out) hb); have n1_ := Aside0.mk (blk_below (bd_ BK323.out) hb); have n2_ := Aside0.mk (below_step y263_ hb); clear BK322; clear BK323; clear HB; have BK322 := n0_; have BK323 := n1_; have HB := n2_; clear n0_ n1_ n2_; (try clear hb)))
    go_ret
    exact ⟨rt_, y264_⟩

/-! ### laws_eqFindS: function 19 -/
def laws_eqFindS.l0 : Nat → List (S58) → List (S58) → Int → Option (Bool)
  | 0, _, _, _ => none
  | k + 1, x0, x1, x5 => if x5 < (x0.length : Int) then (if 0 ≤ x5 then (if x5 < (x1.length : Int) then ((laws_eqFind.f ((rd_T58 x0 x5).f0.f0) ((rd_T58 x0 x5).f0.f1) ((rd_T58 x0 x5).f0.f2) ((rd_T58 x0 x5).f0.f3) ((rd_T58 x0 x5).f0.f4) ((rd_T58 x0 x5).f1) ((rd_T58 x0 x5).f2) ((rd_T58 x0 x5).f3) ((rd_T58 x1 x5).f0.f0) ((rd_T58 x1 x5).f0.f1) ((rd_T58 x1 x5).f0.f2) ((rd_T58 x1 x5).f0.f3) ((rd_T58 x1 x5).f0.f4) ((rd_T58 x1 x5).f1) ((rd_T58 x1 x5).f2) ((rd_T58 x1 x5).f3)).bind fun t327 => (if t327 = true then (laws_eqFindS.l0 k x0 x1 (wrap64 (x5 + 1))) else (some false))) else (none)) else (none)) else (some true)
def laws_eqFindS.f (k : Nat) (l0 : List (S58)) (l1 : List (S58)) : Option (Bool) := if (l0.length : Int) = (l1.length : Int) then (laws_eqFindS.l0 k l0 l1 0) else (some false)
theorem laws_eqFindS.mono_l : ∀ k, (∀ y0 y1 y2, LeO (laws_eqFindS.l0 k y0 y1 y2) (laws_eqFindS.l0 (k + 1) y0 y1 y2))
  | 0 => fun _ _ _ r h => by simp [laws_eqFindS.l0] at h
  | k + 1 => by
    have ih0 := laws_eqFindS.mono_l k
    · intro y0 y1 y2
      unfold laws_eqFindS.l0
      exact mo_
theorem laws_eqFindS.mono : ∀ a0 a1 k, LeO (laws_eqFindS.f k a0 a1) (laws_eqFindS.f (k + 1) a0 a1) := by
  intro a0 a1 k
  have ih0 := laws_eqFindS.mono_l k
  unfold laws_eqFindS.f
  exact mo_
def laws_eqFindS.T6 : Bool × List (List Nat × List Nat) := (true, [([], []), ([], []), ([0, 1], [0, 1]), ([2], [2]), ([], []), ([], []), ([4, 5], [4, 5]), ([6], [6]), ([3, 7], [3, 7]), ([8], [8])])
def laws_eqFindS.B6 : List Nat := [0, 0, 3, 7, 0, 0, 48, 112, 255, 511]
theorem laws_eqFindS.tab6 : rtab .any (opsOf Try.f19 6) = laws_eqFindS.T6 := by kernel_rfl
theorem laws_eqFindS.bits6 : waitsOk laws_eqFindS.T6.2 laws_eqFindS.B6 = true := by kernel_rfl
abbrev M6_0 := bm_ 10 0
abbrev M6_1 := bm_ 10 1
abbrev M6_2 := bm_ 10 3
abbrev M6_3 := bm_ 10 7
abbrev M6_4 := bm_ 10 23
abbrev M6_5 := bm_ 10 55
abbrev M6_6 := bm_ 10 119
abbrev M6_7 := bm_ 10 127
abbrev M6_8 := bm_ 10 255
abbrev M6_9 := bm_ 10 511
abbrev M6_10 := bm_ 10 1023
set_option maxHeartbeats 8000000 in
set_option maxRecDepth 100000 in
theorem laws_eqFindS.calls (k : Nat) (A0 : Option Addr) (c0 : Nat) (l0 : List (S58)) (A1 : Option Addr) (c1 : Nat) (l1 : List (S58)) (r : Bool) (w : World) (hr0 : Kd.C k58 w A0 l0.length l0) (hc0 : l0.length ≤ c0) (hr1 : Kd.C k58 w A1 l1.length l1) (hc1 : l1.length ≤ c1) (h : laws_eqFindS.f k l0 l1 = some r) :
    Calls Try.prog 19 #[.slice A0 l0.length c0, .slice A1 l1.length c1] w fun e w' => e = .returned (.bool r) ∧ Below w.heap.size w w' := by
  have hu58 := Try.underlying58
  have HR0 := Aside0.mk hr0
  have HC0 := Aside0.mk hc0
  clear hr0 hc0
  have HR1 := Aside0.mk hr1
  have HC1 := Aside0.mk hc1
  clear hr1 hc1
  have HB := Aside0.mk (Below.refl w.heap.size w)
  have H : (if (l0.length : Int) = (l1.length : Int) then (laws_eqFindS.l0 k l0 l1 0) else (some false)) = some r := h
  clear h
  by_cases c3 : (l0.length : Int) = (l1.length : Int)
  · rw [if_pos c3] at H
    have c3b0 : ((l0.length : Int) == (l1.length : Int)) = true := beq_iff_eq.mpr c3
    have c3b1 : ((l0.length : Int) != (l1.length : Int)) = false := bne_eq_false_iff_eq.mpr c3
    have c3b2 : (l0.length == l1.length) = true := by first | simpa using c3 | (simp at c3 ⊢; omega)
    clear c3
    have H' := Aside0.mk H
    clear H
    go_enter Try.func19, Try.ntmps19
    go_wp2
    go_loopg [5] k (fun kq v5 w' => ∃ (x5_1 : Int), v5 = .int .i64 x5_1 ∧ Aside0 (laws_eqFindS.l0 kq l0 l1 x5_1 = some r) ∧ Aside0 (kq ≤ k) ∧ Aside0 (Below w.heap.size w w'))
    case atStart => exact ⟨(0), rs_, H', ⟨Nat.le_refl _⟩, ⟨hd_ HB.out⟩⟩
    case round =>
      clear H'
      try clear c1
      try clear p2
      try clear c3
      try clear c3b0
      try clear c3b1
      try clear c3b2
      obtain ⟨x5_1, rfl, HA, HK1, HB⟩ := hrel
      cases gk with
      | zero => exact absurd HA.out (by simp [laws_eqFindS.l0])
      | succ k1 =>
        have H := HA.out
        clear HA
        simp only [laws_eqFindS.l0] at H
        by_cases c4 : x5_1 < (l0.length : Int)
        · rw [if_pos c4] at H
          have c4b0 : decide (x5_1 < (l0.length : Int)) = true := decide_eq_true c4
          clear c4
          by_cases c5 : 0 ≤ x5_1
          · rw [if_pos c5] at H
            have c5b0 : decide (0 ≤ x5_1) = true := decide_eq_true c5
            clear c5
            by_cases c6 : x5_1 < (l1.length : Int)
            · rw [if_pos c6] at H
              have c6b0 : decide (x5_1 < (l1.length : Int)) = true := decide_eq_true c6
              clear c6
              replace H := Option.bind_eq_some_iff.mp H
              obtain ⟨t327, A70, H⟩ := H
              replace H : (if t327 = true then (laws_eqFindS.l0 k1 l0 l1 (wrap64 (x5_1 + 1))) else (some false)) = some r := H
              have A7 := Aside0.mk A70
              clear A70
              by_cases c8 : t327 = true
              · subst c8
                have H1 : (laws_eqFindS.l0 k1 l0 l1 (wrap64 (x5_1 + 1))) = some r := by rw [if_pos rfl] at H; exact H
                clear H
                have H := H1
                clear H1
                have H' := Aside0.mk H
                clear H
                try go_wp2
                have n0_ := Aside0.mk (below_drew1 HB.out)
                clear HB
                have HB := n0_
                clear n0_
                have p325 : 0 ≤ (x5_1 : Int) := of_decide_eq_true as_
                have q325 : x5_1 < (l0.length : Int) := of_decide_eq_true as_
                obtain ⟨ad325, e325, hx325_0, hx325_1, hx325_2, hx325_3, hx325_4, hx325_5, hx325_6, hx325_7⟩ := at_T58 HR0.out x5_1 p325 q325
                have hw325_7 := hx325_7
                have hw325_6 := hx325_6
                have hw325_5 := hx325_5
                have hw325_4 := hx325_4
                have hw325_3 := hx325_3
                have hw325_2 := hx325_2
                have hw325_1 := hx325_1
                have hw325_0 := hx325_0
                cases e325
                replace hx325_0 := cb_ HB.out hx325_0
                replace hx325_1 := cb_ HB.out hx325_1
                replace hx325_2 := cb_ HB.out hx325_2
                replace hx325_3 := cb_ HB.out hx325_3
                replace hx325_4 := cb_ HB.out hx325_4
                replace hx325_5 := cb_ HB.out hx325_5
                replace hx325_6 := cb_ HB.out hx325_6
                replace hx325_7 := cb_ HB.out hx325_7
                replace p325 := eq_true p325
                replace q325 := eq_true q325
                have p326 : 0 ≤ (x5_1 : Int) := of_decide_eq_true as_
                have q326 : x5_1 < (l1.length : Int) := of_decide_eq_true as_
                obtain ⟨ad326, e326, hx326_0, hx326_1, hx326_2, hx326_3, hx326_4, hx326_5, hx326_6, hx326_7⟩ := at_T58 HR1.out x5_1 p326 q326
                have hw326_7 := hx326_7
                have hw326_6 := hx326_6
                have hw326_5 := hx326_5
                have hw326_4 := hx326_4
                have hw326_3 := hx326_3
                have hw326_2 := hx326_2
                have hw326_1 := hx326_1
                have hw326_0 := hx326_0
                cases e326
                replace hx326_0 := cb_ HB.out hx326_0
                replace hx326_1 := cb_ HB.out hx326_1
                replace hx326_2 := cb_ HB.out hx326_2
                replace hx326_3 := cb_ HB.out hx326_3
                replace hx326_4 := cb_ HB.out hx326_4
                replace hx326_5 := cb_ HB.out hx326_5
                replace hx326_6 := cb_ HB.out hx326_6
                replace hx326_7 := cb_ HB.out hx326_7
                replace p326 := eq_true p326
                replace q326 := eq_true q326
                refine start_ (n := 10) (S := fun w' => q3_ w' (ad325.add ((x5_1).toNat * 8)) ((rd_T58 l0 x5_1).f0.f0) ((rd_T58 l0 x5_1).f0.f1) ((rd_T58 l0 x5_1).f0.f2) ((rd_T58 l0 x5_1).f0.f3) ((rd_T58 l0 x5_1).f0.f4) ((rd_T58 l0 x5_1).f1) ((rd_T58 l0 x5_1).f2) ((rd_T58 l0 x5_1).f3) (q3e_ w' (ad326.add ((x5_1).toNat * 8)) ((rd_T58 l1 x5_1).f0.f0) ((rd_T58 l1 x5_1).f0.f1) ((rd_T58 l1 x5_1).f0.f2) ((rd_T58 l1 x5_1).f0.f3) ((rd_T58 l1 x5_1).f0.f4) ((rd_T58 l1 x5_1).f1) ((rd_T58 l1 x5_1).f2) ((rd_T58 l1 x5_1).f3))) (ds := []) M6_0 (by kernel_rfl) rfl rfl ⟨(cb_ HB.out hw325_0), (cb_ HB.out hw325_1), (cb_ HB.out hw325_2), (cb_ HB.out hw325_3), (cb_ HB.out hw325_4), (cb_ HB.out hw325_5), (cb_ HB.out hw325_6), (cb_ HB.out hw325_7), (cb_ HB.out hw326_0), (cb_ HB.out hw326_1), (cb_ HB.out hw326_2), (cb_ HB.out hw326_3), (cb_ HB.out hw326_4), (cb_ HB.out hw326_5), (cb_ HB.out hw326_6), (cb_ HB.out hw326_7)⟩ (fun hHeld => ?_); refine with_tabW laws_eqFindS.tab6 laws_eqFindS.bits6 (fun HT_ HW_ => ?_)
                generalize wr.drew = w9 at HB hx325_0 hx325_1 hx325_2 hx325_3 hx325_4 hx325_5 hx325_6 hx325_7 hx326_0 hx326_1 hx326_2 hx326_3 hx326_4 hx326_5 hx326_6 hx326_7 hHeld ⊢
                refine pu_ 0 (some 17) M6_1 HT_ ?_
                refine pu_ 1 (some 18) M6_2 HT_ ?_
                refine pu_ 2 (some 19) M6_3 HT_ ?_
                refine pu_ 4 (some 21) M6_4 HT_ ?_
                refine pu_ 5 (some 22) M6_5 HT_ ?_
                refine pu_ 6 (some 23) M6_6 HT_ ?_
                refine tk_ 3 (some 20) M6_7 HT_ HW_ hHeld ?_
                refine tk_ 7 (some 24) M6_8 HT_ HW_ hHeld ?_
                refine one_ (i := 8) (N := some 25) M6_9 rfl rfl (one_of HT_.out (by kernel_rfl)) (by decide) (fun K hK => ?_)
                refine goes_ Try.func46 (by kernel_rfl) rfl #[.agg #[.int .i64 ((rd_T58 l0 x5_1).f0.f0), .int .i64 ((rd_T58 l0 x5_1).f0.f1), .int .i64 ((rd_T58 l0 x5_1).f0.f2), .int .i64 ((rd_T58 l0 x5_1).f0.f3), .int .i64 ((rd_T58 l0 x5_1).f0.f4), .int .i64 ((rd_T58 l0 x5_1).f1), .int .i64 ((rd_T58 l0 x5_1).f2), .int .i64 ((rd_T58 l0 x5_1).f3)], .agg #[.int .i64 ((rd_T58 l1 x5_1).f0.f0), .int .i64 ((rd_T58 l1 x5_1).f0.f1), .int .i64 ((rd_T58 l1 x5_1).f0.f2), .int .i64 ((rd_T58 l1 x5_1).f0.f3), .int .i64 ((rd_T58 l1 x5_1).f0.f4), .int .i64 ((rd_T58 l1 x5_1).f1), .int .i64 ((rd_T58 l1 x5_1).f2), .int .i64 ((rd_T58 l1 x5_1).f3)]] (by rfl) rfl rfl ma_ ?_
                with_reducible refine (laws_eqFind.calls ((rd_T58 l0 x5_1).f0.f0) ((rd_T58 l0 x5_1).f0.f1) ((rd_T58 l0 x5_1).f0.f2) ((rd_T58 l0 x5_1).f0.f3) ((rd_T58 l0 x5_1).f0.f4) ((rd_T58 l0 x5_1).f1) ((rd_T58 l0 x5_1).f2) ((rd_T58 l0 x5_1).f3) ((rd_T58 l1 x5_1).f0.f0) ((rd_T58 l1 x5_1).f0.f1) ((rd_T58 l1 x5_1).f0.f2) ((rd_T58 l1 x5_1).f0.f3) ((rd_T58 l1 x5_1).f0.f4) ((rd_T58 l1 x5_1).f1) ((rd_T58 l1 x5_1).f2) ((rd_T58 l1 x5_1).f3) true _ A7.out).mono ?_
                rintro e w10 ⟨rfl, hb⟩
                refine ⟨_, rfl, ?_⟩
                have n0_ := Aside0.mk (below_step (hd_ HB.out) hb)
                clear HB
                have HB := n0_
                clear n0_
                (try clear hb)
                (try clear hb2)
                (try clear hk)
                (try clear hi)
                refine hK.out _ _ ⟨(cb_ HB.out hw325_0), (cb_ HB.out hw325_1), (cb_ HB.out hw325_2), (cb_ HB.out hw325_3), (cb_ HB.out hw325_4), (cb_ HB.out hw325_5), (cb_ HB.out hw325_6), (cb_ HB.out hw325_7), (cb_ HB.out hw326_0), (cb_ HB.out hw326_1), (cb_ HB.out hw326_2), (cb_ HB.out hw326_3), (cb_ HB.out hw326_4), (cb_ HB.out hw326_5), (cb_ HB.out hw326_6), (cb_ HB.out hw326_7)⟩ (fun hHeld => ?_)
                clear hK K
                refine norm_ (a' := ?_) ?_ ?_
                rotate_left
                · show Act.put _ (some 25) _ = _
                  simp only [Act.put, List.setIfInBounds_toArray, List.set_cons_zero, List.set_cons_succ, i64_w, i32_w]
                  rfl
                refine pu_ 9 (some 26) M6_10 HT_ ?_
                refine done_ (done_of HT_.out (by kernel_rfl)) ?_
                try go_wp2
                go_roundg k1
                case measure => have := HK1.out; omega
                case rel => exact ⟨(wrap64 (x5_1 + 1)), rs_, H', ⟨by have := HK1.out; omega⟩, ⟨hd_ HB.out⟩⟩
              · replace c8 := Bool.eq_false_iff.mpr c8
                subst c8
                have H1 : (some false) = some r := by rw [if_neg (show ¬ (false = true) by decide)] at H; exact H
                clear H
                have H := H1
                clear H1
                obtain rfl := Option.some.inj H
                try go_wp2
                have n0_ := Aside0.mk (below_drew1 HB.out)
                clear HB
                have HB := n0_
                clear n0_
                have p325 : 0 ≤ (x5_1 : Int) := of_decide_eq_true as_
                have q325 : x5_1 < (l0.length : Int) := of_decide_eq_true as_
                obtain ⟨ad325, e325, hx325_0, hx325_1, hx325_2, hx325_3, hx325_4, hx325_5, hx325_6, hx325_7⟩ := at_T58 HR0.out x5_1 p325 q325
                have hw325_7 := hx325_7
                have hw325_6 := hx325_6
                have hw325_5 := hx325_5
                have hw325_4 := hx325_4
                have hw325_3 := hx325_3
                have hw325_2 := hx325_2
                have hw325_1 := hx325_1
                have hw325_0 := hx325_0
                cases e325
                replace hx325_0 := cb_ HB.out hx325_0
                replace hx325_1 := cb_ HB.out hx325_1
                replace hx325_2 := cb_ HB.out hx325_2
                replace hx325_3 := cb_ HB.out hx325_3
                replace hx325_4 := cb_ HB.out hx325_4
                replace hx325_5 := cb_ HB.out hx325_5
                replace hx325_6 := cb_ HB.out hx325_6
                replace hx325_7 := cb_ HB.out hx325_7
                replace p325 := eq_true p325
                replace q325 := eq_true q325
                have p326 : 0 ≤ (x5_1 : Int) := of_decide_eq_true as_
                have q326 : x5_1 < (l1.length : Int) := of_decide_eq_true as_
                obtain ⟨ad326, e326, hx326_0, hx326_1, hx326_2, hx326_3, hx326_4, hx326_5, hx326_6, hx326_7⟩ := at_T58 HR1.out x5_1 p326 q326
                have hw326_7 := hx326_7
                have hw326_6 := hx326_6
                have hw326_5 := hx326_5
                have hw326_4 := hx326_4
                have hw326_3 := hx326_3
                have hw326_2 := hx326_2
                have hw326_1 := hx326_1
                have hw326_0 := hx326_0
                cases e326
                replace hx326_0 := cb_ HB.out hx326_0
                replace hx326_1 := cb_ HB.out hx326_1
                replace hx326_2 := cb_ HB.out hx326_2
                replace hx326_3 := cb_ HB.out hx326_3
                replace hx326_4 := cb_ HB.out hx326_4
                replace hx326_5 := cb_ HB.out hx326_5
                replace hx326_6 := cb_ HB.out hx326_6
                replace hx326_7 := cb_ HB.out hx326_7
                replace p326 := eq_true p326
                replace q326 := eq_true q326
                refine start_ (n := 10) (S := fun w' => q3_ w' (ad325.add ((x5_1).toNat * 8)) ((rd_T58 l0 x5_1).f0.f0) ((rd_T58 l0 x5_1).f0.f1) ((rd_T58 l0 x5_1).f0.f2) ((rd_T58 l0 x5_1).f0.f3) ((rd_T58 l0 x5_1).f0.f4) ((rd_T58 l0 x5_1).f1) ((rd_T58 l0 x5_1).f2) ((rd_T58 l0 x5_1).f3) (q3e_ w' (ad326.add ((x5_1).toNat * 8)) ((rd_T58 l1 x5_1).f0.f0) ((rd_T58 l1 x5_1).f0.f1) ((rd_T58 l1 x5_1).f0.f2) ((rd_T58 l1 x5_1).f0.f3) ((rd_T58 l1 x5_1).f0.f4) ((rd_T58 l1 x5_1).f1) ((rd_T58 l1 x5_1).f2) ((rd_T58 l1 x5_1).f3))) (ds := []) M6_0 (by kernel_rfl) rfl rfl ⟨(cb_ HB.out hw325_0), (cb_ HB.out hw325_1), (cb_ HB.out hw325_2), (cb_ HB.out hw325_3), (cb_ HB.out hw325_4), (cb_ HB.out hw325_5), (cb_ HB.out hw325_6), (cb_ HB.out hw325_7), (cb_ HB.out hw326_0), (cb_ HB.out hw326_1), (cb_ HB.out hw326_2), (cb_ HB.out hw326_3), (cb_ HB.out hw326_4), (cb_ HB.out hw326_5), (cb_ HB.out hw326_6), (cb_ HB.out hw326_7)⟩ (fun hHeld => ?_); refine with_tabW laws_eqFindS.tab6 laws_eqFindS.bits6 (fun HT_ HW_ => ?_)
                generalize wr.drew = w11 at HB hx325_0 hx325_1 hx325_2 hx325_3 hx325_4 hx325_5 hx325_6 hx325_7 hx326_0 hx326_1 hx326_2 hx326_3 hx326_4 hx326_5 hx326_6 hx326_7 hHeld ⊢
                refine pu_ 0 (some 17) M6_1 HT_ ?_
                refine pu_ 1 (some 18) M6_2 HT_ ?_
                refine pu_ 2 (some 19) M6_3 HT_ ?_
                refine pu_ 4 (some 21) M6_4 HT_ ?_
                refine pu_ 5 (some 22) M6_5 HT_ ?_
                refine pu_ 6 (some 23) M6_6 HT_ ?_
                refine tk_ 3 (some 20) M6_7 HT_ HW_ hHeld ?_
                refine tk_ 7 (some 24) M6_8 HT_ HW_ hHeld ?_
                refine one_ (i := 8) (N := some 25) M6_9 rfl rfl (one_of HT_.out (by kernel_rfl)) (by decide) (fun K hK => ?_)
                refine goes_ Try.func46 (by kernel_rfl) rfl #[.agg #[.int .i64 ((rd_T58 l0 x5_1).f0.f0), .int .i64 ((rd_T58 l0 x5_1).f0.f1), .int .i64 ((rd_T58 l0 x5_1).f0.f2), .int .i64 ((rd_T58 l0 x5_1).f0.f3), .int .i64 ((rd_T58 l0 x5_1).f0.f4), .int .i64 ((rd_T58 l0 x5_1).f1), .int .i64 ((rd_T58 l0 x5_1).f2), .int .i64 ((rd_T58 l0 x5_1).f3)], .agg #[.int .i64 ((rd_T58 l1 x5_1).f0.f0), .int .i64 ((rd_T58 l1 x5_1).f0.f1), .int .i64 ((rd_T58 l1 x5_1).f0.f2), .int .i64 ((rd_T58 l1 x5_1).f0.f3), .int .i64 ((rd_T58 l1 x5_1).f0.f4), .int .i64 ((rd_T58 l1 x5_1).f1), .int .i64 ((rd_T58 l1 x5_1).f2), .int .i64 ((rd_T58 l1 x5_1).f3)]] (by rfl) rfl rfl ma_ ?_
                with_reducible refine (laws_eqFind.calls ((rd_T58 l0 x5_1).f0.f0) ((rd_T58 l0 x5_1).f0.f1) ((rd_T58 l0 x5_1).f0.f2) ((rd_T58 l0 x5_1).f0.f3) ((rd_T58 l0 x5_1).f0.f4) ((rd_T58 l0 x5_1).f1) ((rd_T58 l0 x5_1).f2) ((rd_T58 l0 x5_1).f3) ((rd_T58 l1 x5_1).f0.f0) ((rd_T58 l1 x5_1).f0.f1) ((rd_T58 l1 x5_1).f0.f2) ((rd_T58 l1 x5_1).f0.f3) ((rd_T58 l1 x5_1).f0.f4) ((rd_T58 l1 x5_1).f1) ((rd_T58 l1 x5_1).f2) ((rd_T58 l1 x5_1).f3) false _ A7.out).mono ?_
                rintro e w12 ⟨rfl, hb⟩
                refine ⟨_, rfl, ?_⟩
                have n0_ := Aside0.mk (below_step (hd_ HB.out) hb)
                clear HB
                have HB := n0_
                clear n0_
                (try clear hb)
                (try clear hb2)
                (try clear hk)
                (try clear hi)
                refine hK.out _ _ ⟨(cb_ HB.out hw325_0), (cb_ HB.out hw325_1), (cb_ HB.out hw325_2), (cb_ HB.out hw325_3), (cb_ HB.out hw325_4), (cb_ HB.out hw325_5), (cb_ HB.out hw325_6), (cb_ HB.out hw325_7), (cb_ HB.out hw326_0), (cb_ HB.out hw326_1), (cb_ HB.out hw326_2), (cb_ HB.out hw326_3), (cb_ HB.out hw326_4), (cb_ HB.out hw326_5), (cb_ HB.out hw326_6), (cb_ HB.out hw326_7)⟩ (fun hHeld => ?_)
                clear hK K
                refine norm_ (a' := ?_) ?_ ?_
                rotate_left
                · show Act.put _ (some 25) _ = _
                  simp only [Act.put, List.setIfInBounds_toArray, List.set_cons_zero, List.set_cons_succ, i64_w, i32_w]
                  rfl
                refine pu_ 9 (some 26) M6_10 HT_ ?_
                refine done_ (done_of HT_.out (by kernel_rfl)) ?_
                try go_wp2
                go_ret
                exact ⟨rt_, hd_ HB.out⟩
            · rw [if_neg c6] at H
              exact absurd H (by simp)
          · rw [if_neg c5] at H
            exact absurd H (by simp)
        · rw [if_neg c4] at H
          have c4b0 : decide (x5_1 < (l0.length : Int)) = false := decide_eq_false c4
          clear c4
          obtain rfl := Option.some.inj H
          go_wp2
          go_ret
          exact ⟨rt_, hd_ HB.out⟩
  · rw [if_neg c3] at H
    have c3b0 : ((l0.length : Int) == (l1.length : Int)) = false := beq_eq_false_iff_ne.mpr c3
    have c3b1 : ((l0.length : Int) != (l1.length : Int)) = true := bne_iff_ne.mpr c3
    have c3b2 : (l0.length == l1.length) = false := by first | simpa using c3 | (simp at c3 ⊢; omega)
    obtain rfl := Option.some.inj H
    go_enter Try.func19, Try.ntmps19
    go_wp2
    go_ret
    exact ⟨rt_, hd_ HB.out⟩

/-! ### laws_eqClaim: function 47 -/
def laws_eqClaim.f (a0_0 : Int) (a0_1 : Int) (a0_2 : Int) (a0_3 : Int) (a0_4 : Int) (a1_0 : Int) (a1_1 : Int) (a1_2 : Int) (a1_3 : Int) (a1_4 : Int) : Option (Bool) := if a0_0 = a1_0 then (if a0_1 = a1_1 then (if a0_2 = a1_2 then (if a0_3 = a1_3 then (if a0_4 = a1_4 then (some true) else (some false)) else (some false)) else (some false)) else (some false)) else (some false)
abbrev c273_ (i0 : Int) (i1 : Int) (i2 : Int) (i3 : Int) (i4 : Int) : Obj := .cells #[.int .i64 i0, .int .i64 i1, .int .i64 i2, .int .i64 i3, .int .i64 i4] 69 (0, 0)
theorem e274_ {w : World} {g : Nat} {t : TypeId} {i0 : Int} {i1 : Int} {i2 : Int} {i3 : Int} {i4 : Int} (h : w.heap[g]? = some (.cells #[.int .i64 i0, .int .i64 i1, .int .i64 i2, .int .i64 i3, .int .i64 i4] t (0, 0))) : w.cell? ⟨g, 0, none⟩ = some (.int .i64 i0) ∧ w.cell? ⟨g, 1, none⟩ = some (.int .i64 i1) ∧ w.cell? ⟨g, 2, none⟩ = some (.int .i64 i2) ∧ w.cell? ⟨g, 3, none⟩ = some (.int .i64 i3) ∧ w.cell? ⟨g, 4, none⟩ = some (.int .i64 i4) := ⟨(blk_cell h 0).trans rfl, (blk_cell h 1).trans rfl, (blk_cell h 2).trans rfl, (blk_cell h 3).trans rfl, (blk_cell h 4).trans rfl⟩
theorem z275_ {w : World} {g : Nat} {t : TypeId} {cs : Array Value} (h : w.heap[g]? = some (.cells cs t (0, 0))) : w.frozen? ⟨g, 0, none⟩ = false ∧ w.frozen? ⟨g, 1, none⟩ = false ∧ w.frozen? ⟨g, 2, none⟩ = false ∧ w.frozen? ⟨g, 3, none⟩ = false ∧ w.frozen? ⟨g, 4, none⟩ = false := ⟨blk_frozen h 0, blk_frozen h 1, blk_frozen h 2, blk_frozen h 3, blk_frozen h 4⟩
theorem y276_ {P : Prop} (h : P := by repeat (first | (with_reducible first | exact HB.out | apply below_alloc | apply pw_below_drewN | apply below_drew1 | refine below_set ?_ GE328.out) | exact HB.out)) : P := h
theorem y279_ {P : Prop} (h : P := by repeat (first | (with_reducible first | exact HB.out | apply below_alloc | apply pw_below_drewN | apply below_drew1 | refine below_set ?_ GE328.out | refine below_set ?_ GE329.out) | exact HB.out)) : P := h
theorem y280_ {P : Prop} (h : P := by rw [hg]; exact Nat.ne_of_lt (blk_lt (bd_ BK328.out))) : P := h
theorem y281_ {P : Prop} (h : P := by rw [hg]; exact Nat.ne_of_gt (blk_lt (bd_ BK328.out))) : P := h
theorem y282_ {P : Prop} (h : P := by rw [hg]; exact (below_size (hd_ HB.out))) : P := h
theorem y283_ {P : Prop} (h : P := by rw [hg]; exact (below_size y276_)) : P := h
set_option maxHeartbeats 8000000 in
set_option maxRecDepth 100000 in
theorem laws_eqClaim.calls (a0_0 : Int) (a0_1 : Int) (a0_2 : Int) (a0_3 : Int) (a0_4 : Int) (a1_0 : Int) (a1_1 : Int) (a1_2 : Int) (a1_3 : Int) (a1_4 : Int) (r : Bool) (w : World) (h : laws_eqClaim.f a0_0 a0_1 a0_2 a0_3 a0_4 a1_0 a1_1 a1_2 a1_3 a1_4 = some r) :
    Calls Try.prog 47 #[.agg #[.int .i64 a0_0, .int .i64 a0_1, .int .i64 a0_2, .int .i64 a0_3, .int .i64 a0_4], .agg #[.int .i64 a1_0, .int .i64 a1_1, .int .i64 a1_2, .int .i64 a1_3, .int .i64 a1_4]] w fun e w' => e = .returned (.bool r) ∧ Below w.heap.size w w' := by
  have hu69 := Try.underlying69
  have HB := Aside0.mk (Below.refl w.heap.size w)
  have H : (if a0_0 = a1_0 then (if a0_1 = a1_1 then (if a0_2 = a1_2 then (if a0_3 = a1_3 then (if a0_4 = a1_4 then (some true) else (some false)) else (some false)) else (some false)) else (some false)) else (some false)) = some r := h
  clear h
  by_cases c3 : a0_0 = a1_0
  · rw [if_pos c3] at H
    have c3b0 : (a0_0 == a1_0) = true := beq_iff_eq.mpr c3
    have c3b1 : (a0_0 != a1_0) = false := bne_eq_false_iff_eq.mpr c3
    clear c3
    by_cases c4 : a0_1 = a1_1
    · rw [if_pos c4] at H
      have c4b0 : (a0_1 == a1_1) = true := beq_iff_eq.mpr c4
      have c4b1 : (a0_1 != a1_1) = false := bne_eq_false_iff_eq.mpr c4
      clear c4
      by_cases c5 : a0_2 = a1_2
      · rw [if_pos c5] at H
        have c5b0 : (a0_2 == a1_2) = true := beq_iff_eq.mpr c5
        have c5b1 : (a0_2 != a1_2) = false := bne_eq_false_iff_eq.mpr c5
        clear c5
        by_cases c6 : a0_3 = a1_3
        · rw [if_pos c6] at H
          have c6b0 : (a0_3 == a1_3) = true := beq_iff_eq.mpr c6
          have c6b1 : (a0_3 != a1_3) = false := bne_eq_false_iff_eq.mpr c6
          clear c6
          by_cases c7 : a0_4 = a1_4
          · rw [if_pos c7] at H
            have c7b0 : (a0_4 == a1_4) = true := beq_iff_eq.mpr c7
            have c7b1 : (a0_4 != a1_4) = false := bne_eq_false_iff_eq.mpr c7
            clear c7
            obtain rfl := Option.some.inj H
            go_enter Try.func47, Try.ntmps47
            go_wp2_with (first | (refine bx_ 2 #[.int .i64 a0_0, .int .i64 a0_1, .int .i64 a0_2, .int .i64 a0_3, .int .i64 a0_4] 69 ?_; intro gb328 hg w8 hbox hb; have n0_ := Aside0.mk (below_step (hd_ HB.out) hb); have BK328 := Aside0.mk (hbox); have GW328 := Aside0.mk ((y282_ : w.heap.size ≤ gb328)); have GE328 := GW328; clear HB; have HB := n0_; clear n0_; clear hb hbox hg) | (refine bx_ 3 #[.int .i64 a1_0, .int .i64 a1_1, .int .i64 a1_2, .int .i64 a1_3, .int .i64 a1_4] 69 ?_; intro gb329 hg w9 hbox hb; have n0_ := Aside0.mk (blk_below (bd_ BK328.out) hb); have n1_ := Aside0.mk (below_step y276_ hb); have BK329 := Aside0.mk (hbox); have GW329 := Aside0.mk ((y283_ : w.heap.size ≤ gb329)); have GE329 := GW329; have NB328_329 := Aside0.mk ((y280_ : gb328 ≠ gb329)); have NB329_328 := Aside0.mk ((y281_ : gb329 ≠ gb328)); clear BK328; clear HB; have BK328 := n0_; have HB := n1_; clear n0_ n1_; clear hb hbox hg; have hnb10 := NB328_329.out; have hnc10 := NB329_328.out; obtain ⟨hcz11_0, hcz11_1, hcz11_2, hcz11_3, hcz11_4⟩ := e274_ BK328.out; obtain ⟨hfz11_0, hfz11_1, hfz11_2, hfz11_3, hfz11_4⟩ := z275_ BK328.out; obtain ⟨hcz12_0, hcz12_1, hcz12_2, hcz12_3, hcz12_4⟩ := e274_ BK329.out; obtain ⟨hfz12_0, hfz12_1, hfz12_2, hfz12_3, hfz12_4⟩ := z275_ BK329.out))
            go_ret
            exact ⟨rt_, y279_⟩
          · rw [if_neg c7] at H
            have c7b0 : (a0_4 == a1_4) = false := beq_eq_false_iff_ne.mpr c7
            have c7b1 : (a0_4 != a1_4) = true := bne_iff_ne.mpr c7
            obtain rfl := Option.some.inj H
            go_enter Try.func47, Try.ntmps47
            go_wp2_with (first | (refine bx_ 2 #[.int .i64 a0_0, .int .i64 a0_1, .int .i64 a0_2, .int .i64 a0_3, .int .i64 a0_4] 69 ?_; intro gb328 hg w13 hbox hb; have n0_ := Aside0.mk (below_step (hd_ HB.out) hb); have BK328 := Aside0.mk (hbox); have GW328 := Aside0.mk ((y282_ : w.heap.size ≤ gb328)); have GE328 := GW328; clear HB; have HB := n0_; clear n0_; clear hb hbox hg) | (refine bx_ 3 #[.int .i64 a1_0, .int .i64 a1_1, .int .i64 a1_2, .int .i64 a1_3, .int .i64 a1_4] 69 ?_; intro gb329 hg w14 hbox hb; have n0_ := Aside0.mk (blk_below (bd_ BK328.out) hb); have n1_ := Aside0.mk (below_step y276_ hb); have BK329 := Aside0.mk (hbox); have GW329 := Aside0.mk ((y283_ : w.heap.size ≤ gb329)); have GE329 := GW329; have NB328_329 := Aside0.mk ((y280_ : gb328 ≠ gb329)); have NB329_328 := Aside0.mk ((y281_ : gb329 ≠ gb328)); clear BK328; clear HB; have BK328 := n0_; have HB := n1_; clear n0_ n1_; clear hb hbox hg; have hnb15 := NB328_329.out; have hnc15 := NB329_328.out; obtain ⟨hcz16_0, hcz16_1, hcz16_2, hcz16_3, hcz16_4⟩ := e274_ BK328.out; obtain ⟨hfz16_0, hfz16_1, hfz16_2, hfz16_3, hfz16_4⟩ := z275_ BK328.out; obtain ⟨hcz17_0, hcz17_1, hcz17_2, hcz17_3, hcz17_4⟩ := e274_ BK329.out; obtain ⟨hfz17_0, hfz17_1, hfz17_2, hfz17_3, hfz17_4⟩ := z275_ BK329.out))
            go_ret
            exact ⟨rt_, y279_⟩
        · rw [if_neg c6] at H
          have c6b0 : (a0_3 == a1_3) = false := beq_eq_false_iff_ne.mpr c6
          have c6b1 : (a0_3 != a1_3) = true := bne_iff_ne.mpr c6
          obtain rfl := Option.some.inj H
          go_enter Try.func47, Try.ntmps47
          go_wp2_with (first | (refine bx_ 2 #[.int .i64 a0_0, .int .i64 a0_1, .int .i64 a0_2, .int .i64 a0_3, .int .i64 a0_4] 69 ?_; intro gb328 hg w18 hbox hb; have n0_ := Aside0.mk (below_step (hd_ HB.out) hb); have BK328 := Aside0.mk (hbox); have GW328 := Aside0.mk ((y282_ : w.heap.size ≤ gb328)); have GE328 := GW328; clear HB; have HB := n0_; clear n0_; clear hb hbox hg) | (refine bx_ 3 #[.int .i64 a1_0, .int .i64 a1_1, .int .i64 a1_2, .int .i64 a1_3, .int .i64 a1_4] 69 ?_; intro gb329 hg w19 hbox hb; have n0_ := Aside0.mk (blk_below (bd_ BK328.out) hb); have n1_ := Aside0.mk (below_step y276_ hb); have BK329 := Aside0.mk (hbox); have GW329 := Aside0.mk ((y283_ : w.heap.size ≤ gb329)); have GE329 := GW329; have NB328_329 := Aside0.mk ((y280_ : gb328 ≠ gb329)); have NB329_328 := Aside0.mk ((y281_ : gb329 ≠ gb328)); clear BK328; clear HB; have BK328 := n0_; have HB := n1_; clear n0_ n1_; clear hb hbox hg; have hnb20 := NB328_329.out; have hnc20 := NB329_328.out; obtain ⟨hcz21_0, hcz21_1, hcz21_2, hcz21_3, hcz21_4⟩ := e274_ BK328.out; obtain ⟨hfz21_0, hfz21_1, hfz21_2, hfz21_3, hfz21_4⟩ := z275_ BK328.out; obtain ⟨hcz22_0, hcz22_1, hcz22_2, hcz22_3, hcz22_4⟩ := e274_ BK329.out; obtain ⟨hfz22_0, hfz22_1, hfz22_2, hfz22_3, hfz22_4⟩ := z275_ BK329.out))
          go_ret
          exact ⟨rt_, y279_⟩
      · rw [if_neg c5] at H
        have c5b0 : (a0_2 == a1_2) = false := beq_eq_false_iff_ne.mpr c5
        have c5b1 : (a0_2 != a1_2) = true := bne_iff_ne.mpr c5
        obtain rfl := Option.some.inj H
        go_enter Try.func47, Try.ntmps47
        go_wp2_with (first | (refine bx_ 2 #[.int .i64 a0_0, .int .i64 a0_1, .int .i64 a0_2, .int .i64 a0_3, .int .i64 a0_4] 69 ?_; intro gb328 hg w23 hbox hb; have n0_ := Aside0.mk (below_step (hd_ HB.out) hb); have BK328 := Aside0.mk (hbox); have GW328 := Aside0.mk ((y282_ : w.heap.size ≤ gb328)); have GE328 := GW328; clear HB; have HB := n0_; clear n0_; clear hb hbox hg) | (refine bx_ 3 #[.int .i64 a1_0, .int .i64 a1_1, .int .i64 a1_2, .int .i64 a1_3, .int .i64 a1_4] 69 ?_; intro gb329 hg w24 hbox hb; have n0_ := Aside0.mk (blk_below (bd_ BK328.out) hb); have n1_ := Aside0.mk (below_step y276_ hb); have BK329 := Aside0.mk (hbox); have GW329 := Aside0.mk ((y283_ : w.heap.size ≤ gb329)); have GE329 := GW329; have NB328_329 := Aside0.mk ((y280_ : gb328 ≠ gb329)); have NB329_328 := Aside0.mk ((y281_ : gb329 ≠ gb328)); clear BK328; clear HB; have BK328 := n0_; have HB := n1_; clear n0_ n1_; clear hb hbox hg; have hnb25 := NB328_329.out; have hnc25 := NB329_328.out; obtain ⟨hcz26_0, hcz26_1, hcz26_2, hcz26_3, hcz26_4⟩ := e274_ BK328.out; obtain ⟨hfz26_0, hfz26_1, hfz26_2, hfz26_3, hfz26_4⟩ := z275_ BK328.out; obtain ⟨hcz27_0, hcz27_1, hcz27_2, hcz27_3, hcz27_4⟩ := e274_ BK329.out; obtain ⟨hfz27_0, hfz27_1, hfz27_2, hfz27_3, hfz27_4⟩ := z275_ BK329.out))
        go_ret
        exact ⟨rt_, y279_⟩
    · rw [if_neg c4] at H
      have c4b0 : (a0_1 == a1_1) = false := beq_eq_false_iff_ne.mpr c4
      have c4b1 : (a0_1 != a1_1) = true := bne_iff_ne.mpr c4
      obtain rfl := Option.some.inj H
      go_enter Try.func47, Try.ntmps47
      go_wp2_with (first | (refine bx_ 2 #[.int .i64 a0_0, .int .i64 a0_1, .int .i64 a0_2, .int .i64 a0_3, .int .i64 a0_4] 69 ?_; intro gb328 hg w28 hbox hb; have n0_ := Aside0.mk (below_step (hd_ HB.out) hb); have BK328 := Aside0.mk (hbox); have GW328 := Aside0.mk ((y282_ : w.heap.size ≤ gb328)); have GE328 := GW328; clear HB; have HB := n0_; clear n0_; clear hb hbox hg) | (refine bx_ 3 #[.int .i64 a1_0, .int .i64 a1_1, .int .i64 a1_2, .int .i64 a1_3, .int .i64 a1_4] 69 ?_; intro gb329 hg w29 hbox hb; have n0_ := Aside0.mk (blk_below (bd_ BK328.out) hb); have n1_ := Aside0.mk (below_step y276_ hb); have BK329 := Aside0.mk (hbox); have GW329 := Aside0.mk ((y283_ : w.heap.size ≤ gb329)); have GE329 := GW329; have NB328_329 := Aside0.mk ((y280_ : gb328 ≠ gb329)); have NB329_328 := Aside0.mk ((y281_ : gb329 ≠ gb328)); clear BK328; clear HB; have BK328 := n0_; have HB := n1_; clear n0_ n1_; clear hb hbox hg; have hnb30 := NB328_329.out; have hnc30 := NB329_328.out; obtain ⟨hcz31_0, hcz31_1, hcz31_2, hcz31_3, hcz31_4⟩ := e274_ BK328.out; obtain ⟨hfz31_0, hfz31_1, hfz31_2, hfz31_3, hfz31_4⟩ := z275_ BK328.out; obtain ⟨hcz32_0, hcz32_1, hcz32_2, hcz32_3, hcz32_4⟩ := e274_ BK329.out; obtain ⟨hfz32_0, hfz32_1, hfz32_2, hfz32_3, hfz32_4⟩ := z275_ BK329.out))
      go_ret
      exact ⟨rt_, y279_⟩
  · rw [if_neg c3] at H
    have c3b0 : (a0_0 == a1_0) = false := beq_eq_false_iff_ne.mpr c3
    have c3b1 : (a0_0 != a1_0) = true := bne_iff_ne.mpr c3
    obtain rfl := Option.some.inj H
    go_enter Try.func47, Try.ntmps47
    go_wp2_with (first | (refine bx_ 2 #[.int .i64 a0_0, .int .i64 a0_1, .int .i64 a0_2, .int .i64 a0_3, .int .i64 a0_4] 69 ?_; intro gb328 hg w33 hbox hb; have n0_ := Aside0.mk (below_step (hd_ HB.out) hb); have BK328 := Aside0.mk (hbox); have GW328 := Aside0.mk ((y282_ : w.heap.size ≤ gb328)); have GE328 := GW328; clear HB; have HB := n0_; clear n0_; clear hb hbox hg) | (refine bx_ 3 #[.int .i64 a1_0, .int .i64 a1_1, .int .i64 a1_2, .int .i64 a1_3, .int .i64 a1_4] 69 ?_; intro gb329 hg w34 hbox hb; have n0_ := Aside0.mk (blk_below (bd_ BK328.out) hb); have n1_ := Aside0.mk (below_step y276_ hb); have BK329 := Aside0.mk (hbox); have GW329 := Aside0.mk ((y283_ : w.heap.size ≤ gb329)); have GE329 := GW329; have NB328_329 := Aside0.mk ((y280_ : gb328 ≠ gb329)); have NB329_328 := Aside0.mk ((y281_ : gb329 ≠ gb328)); clear BK328; clear HB; have BK328 := n0_; have HB := n1_; clear n0_ n1_; clear hb hbox hg; have hnb35 := NB328_329.out; have hnc35 := NB329_328.out; obtain ⟨hcz36_0, hcz36_1, hcz36_2, hcz36_3, hcz36_4⟩ := e274_ BK328.out; obtain ⟨hfz36_0, hfz36_1, hfz36_2, hfz36_3, hfz36_4⟩ := z275_ BK328.out; obtain ⟨hcz37_0, hcz37_1, hcz37_2, hcz37_3, hcz37_4⟩ := e274_ BK329.out; obtain ⟨hfz37_0, hfz37_1, hfz37_2, hfz37_3, hfz37_4⟩ := z275_ BK329.out))
    go_ret
    exact ⟨rt_, y279_⟩

end Go.Proofs.Ytnlgilmbmoiniaa.PFnExactTasksFor
