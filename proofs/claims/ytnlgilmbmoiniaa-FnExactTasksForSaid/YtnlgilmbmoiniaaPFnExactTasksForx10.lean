-- Written for this claim by a program (a printer turned to this claim); Lean checks it.
import Derived.Test.YtnlgilmbmoiniaaPFnExactTasksForx0
import Derived.Test.YtnlgilmbmoiniaaPFnExactTasksForx9
namespace Go.Proofs.Ytnlgilmbmoiniaa.PFnExactTasksFor
open Go.RowKit Go.Proofs.YtnlgilmbmoiniaaW.PrintWords Go.Proofs.YtnlgilmbmoiniaaW.PrintLast Go.Proofs.YtnlgilmbmoiniaaW.PrintMore
attribute [local go_sem] max2_int min2_int max_two min_two max_three min_three max_four min_four   -- for this text's walks alone
set_option linter.unusedVariables false
set_option linter.unusedSimpArgs false

/-! ### impl_IsCalendar: function 55 -/
def impl_IsCalendar.f (k : Nat) (l0 : List Bool) : Option (Bool) := if (l0.length : Int) = 7 then ((slices_Contains_bool_bool.f k l0 true).bind fun t272 => (some t272)) else (some false)
theorem impl_IsCalendar.mono : ∀ a0 k, LeO (impl_IsCalendar.f k a0) (impl_IsCalendar.f (k + 1) a0) := by
  intro a0 k
  unfold impl_IsCalendar.f
  have jh0 := @slices_Contains_bool_bool.mono
  exact mo_
set_option maxHeartbeats 8000000 in
set_option maxRecDepth 100000 in
theorem impl_IsCalendar.calls (k : Nat) (A0 : Option Addr) (c0 : Nat) (l0 : List Bool) (r : Bool) (w : World) (hr0 : Kd.C Kd.bool w A0 l0.length l0) (hc0 : l0.length ≤ c0) (h : impl_IsCalendar.f k l0 = some r) :
    Calls Try.prog 55 #[.slice A0 l0.length c0] w fun e w' => e = .returned (.bool r) ∧ Drawn0 w w' := by
  have HR0 := Aside0.mk hr0
  have HC0 := Aside0.mk hc0
  clear hr0 hc0
  have H : (if (l0.length : Int) = 7 then ((slices_Contains_bool_bool.f k l0 true).bind fun t272 => (some t272)) else (some false)) = some r := h
  clear h
  by_cases c2 : (l0.length : Int) = 7
  · rw [if_pos c2] at H
    have c2b0 : ((l0.length : Int) == 7) = true := beq_iff_eq.mpr c2
    have c2b1 : ((l0.length : Int) != 7) = false := bne_eq_false_iff_eq.mpr c2
    clear c2
    replace H := Option.bind_eq_some_iff.mp H
    obtain ⟨t272, A30, H⟩ := H
    replace H : (some t272) = some r := H
    have A3 := Aside0.mk A30
    clear A30
    obtain rfl := Option.some.inj H
    go_enter Try.func55, Try.ntmps55
    go_wp2_with (first | (go_at_call 68; (with_reducible refine (slices_Contains_bool_bool.calls k _ _ l0 true t272 _ ?side1 ?side2 A3.out).mono ?_); (case side1 => exact cd_ HR0.out); (case side2 => exact HC0.out); rintro e w' ⟨rfl, ⟨nd, rfl⟩⟩))
    go_ret
    exact ⟨rs_, by repeat (first | exact Drawn0.refl _ | apply Drawn0.step)⟩
  · rw [if_neg c2] at H
    have c2b0 : ((l0.length : Int) == 7) = false := beq_eq_false_iff_ne.mpr c2
    have c2b1 : ((l0.length : Int) != 7) = true := bne_iff_ne.mpr c2
    obtain rfl := Option.some.inj H
    go_enter Try.func55, Try.ntmps55
    go_wp2
    go_ret
    exact ⟨rs_, by repeat (first | exact Drawn0.refl _ | apply Drawn0.step)⟩

/-! ### impl_FirstProved: function 69 -/
def impl_FirstProved.l0 : Nat → Int → Bool → List (S69) → Int → Int → Int → Int → Int → Int → Int → Option (Int)
  | 0, _, _, _, _, _, _, _, _, _, _ => none
  | k + 1, x1, x6, x10, x11, x12, x274000, x274001, x274002, x274003, x274004 => if x12 < x11 then (if 0 ≤ x12 then (if x12 < (x10.length : Int) then (if ((rd_T69 x10 x12).f2) = x1 then (if ((rd_T69 x10 x12).f4) = 1 then (if x6 = true then (if ((rd_T69 x10 x12).f3) < x274003 then (impl_FirstProved.l0 k x1 true x10 x11 (wrap64 (x12 + 1)) ((rd_T69 x10 x12).f0) ((rd_T69 x10 x12).f1) ((rd_T69 x10 x12).f2) ((rd_T69 x10 x12).f3) ((rd_T69 x10 x12).f4)) else (impl_FirstProved.l0 k x1 x6 x10 x11 (wrap64 (x12 + 1)) x274000 x274001 x274002 x274003 x274004)) else (impl_FirstProved.l0 k x1 true x10 x11 (wrap64 (x12 + 1)) ((rd_T69 x10 x12).f0) ((rd_T69 x10 x12).f1) ((rd_T69 x10 x12).f2) ((rd_T69 x10 x12).f3) ((rd_T69 x10 x12).f4))) else (impl_FirstProved.l0 k x1 x6 x10 x11 (wrap64 (x12 + 1)) x274000 x274001 x274002 x274003 x274004)) else (impl_FirstProved.l0 k x1 x6 x10 x11 (wrap64 (x12 + 1)) x274000 x274001 x274002 x274003 x274004)) else (none)) else (none)) else (some x274000)
def impl_FirstProved.f (k : Nat) (l0 : List (S69)) (a1 : Int) : Option (Int) := impl_FirstProved.l0 k a1 false l0 (l0.length : Int) 0 0 0 0 0 0
theorem impl_FirstProved.mono_l : ∀ k, (∀ y0 y1 y2 y3 y4 y5 y6 y7 y8 y9, LeO (impl_FirstProved.l0 k y0 y1 y2 y3 y4 y5 y6 y7 y8 y9) (impl_FirstProved.l0 (k + 1) y0 y1 y2 y3 y4 y5 y6 y7 y8 y9))
  | 0 => fun _ _ _ _ _ _ _ _ _ _ r h => by simp [impl_FirstProved.l0] at h
  | k + 1 => by
    have ih0 := impl_FirstProved.mono_l k
    · intro y0 y1 y2 y3 y4 y5 y6 y7 y8 y9
      unfold impl_FirstProved.l0
      exact mo_
theorem impl_FirstProved.mono : ∀ a0 a1 k, LeO (impl_FirstProved.f k a0 a1) (impl_FirstProved.f (k + 1) a0 a1) := by
  intro a0 a1 k
  have ih0 := impl_FirstProved.mono_l k
  unfold impl_FirstProved.f
  exact mo_
abbrev c164_ (i0 : Int) (i1 : Int) (i2 : Int) (i3 : Int) (i4 : Int) : Obj := .cells #[.int .i64 i0, .int .i64 i1, .int .i64 i2, .int .i64 i3, .int .i64 i4] 69 (0, 0)
theorem e165_ {w : World} {g : Nat} {t : TypeId} {i0 : Int} {i1 : Int} {i2 : Int} {i3 : Int} {i4 : Int} (h : w.heap[g]? = some (.cells #[.int .i64 i0, .int .i64 i1, .int .i64 i2, .int .i64 i3, .int .i64 i4] t (0, 0))) : w.cell? ⟨g, 0, none⟩ = some (.int .i64 i0) ∧ w.cell? ⟨g, 1, none⟩ = some (.int .i64 i1) ∧ w.cell? ⟨g, 2, none⟩ = some (.int .i64 i2) ∧ w.cell? ⟨g, 3, none⟩ = some (.int .i64 i3) ∧ w.cell? ⟨g, 4, none⟩ = some (.int .i64 i4) := ⟨(blk_cell h 0).trans rfl, (blk_cell h 1).trans rfl, (blk_cell h 2).trans rfl, (blk_cell h 3).trans rfl, (blk_cell h 4).trans rfl⟩
theorem z166_ {w : World} {g : Nat} {t : TypeId} {cs : Array Value} (h : w.heap[g]? = some (.cells cs t (0, 0))) : w.frozen? ⟨g, 0, none⟩ = false ∧ w.frozen? ⟨g, 1, none⟩ = false ∧ w.frozen? ⟨g, 2, none⟩ = false ∧ w.frozen? ⟨g, 3, none⟩ = false ∧ w.frozen? ⟨g, 4, none⟩ = false := ⟨blk_frozen h 0, blk_frozen h 1, blk_frozen h 2, blk_frozen h 3, blk_frozen h 4⟩
theorem y167_ {P : Prop} (h : P := by repeat (first | (with_reducible first | exact HB.out | apply below_alloc | apply pw_below_drewN | apply below_drew1 | refine below_set ?_ GE273.out) | exact HB.out)) : P := h
theorem y169_ {P : Prop} (h : P := by repeat (first | (with_reducible first | exact HB.out | apply below_alloc | apply pw_below_drewN | apply below_drew1 | refine below_set ?_ GE273.out | refine below_set ?_ GE275.out) | exact HB.out)) : P := h
theorem y170_ {P : Prop} (h : P := by first | rfl | (simp; done) | (simp [*]; done)) : P := h
theorem y171_ {P : Prop} (h : P := by rw [hg]; exact Nat.ne_of_lt (blk_lt (bd_ BK273.out))) : P := h
theorem y172_ {P : Prop} (h : P := by rw [hg]; exact Nat.ne_of_gt (blk_lt (bd_ BK273.out))) : P := h
theorem y174_ {P : Prop} (h : P := by rw [hg]; exact (below_size y167_)) : P := h
set_option maxHeartbeats 8000000 in
set_option maxRecDepth 100000 in
theorem impl_FirstProved.calls (k : Nat) (A0 : Option Addr) (c0 : Nat) (l0 : List (S69)) (a1 : Int) (r : Int) (w : World) (hr0 : Kd.C k69 w A0 l0.length l0) (hc0 : l0.length ≤ c0) (h : impl_FirstProved.f k l0 a1 = some r) :
    Calls Try.prog 69 #[.slice A0 l0.length c0, .int .i64 a1] w fun e w' => e = .returned (.int .i64 r) ∧ Below w.heap.size w w' := by
  have hu69 := Try.underlying69
  have HR0 := Aside0.mk hr0
  have HC0 := Aside0.mk hc0
  clear hr0 hc0
  have HB := Aside0.mk (Below.refl w.heap.size w)
  have H : (impl_FirstProved.l0 k a1 false l0 (l0.length : Int) 0 0 0 0 0 0) = some r := h
  clear h
  have H' := Aside0.mk H
  clear H
  go_enter Try.func69, Try.ntmps69
  go_wp2_with (first | (refine bx_ 5 #[.int .i64 0, .int .i64 0, .int .i64 0, .int .i64 0, .int .i64 0] 69 ?_; intro gb273 hg w3 hbox hb; have n0_ := Aside0.mk (below_step (hd_ HB.out) hb); have BK273 := Aside0.mk (hbox); have GW273 := Aside0.mk ((by rw [hg]; exact (below_size (hd_ HB.out)) : w.heap.size ≤ gb273)); have GE273 := GW273; clear HB; have HB := n0_; clear n0_; clear hb hbox hg; obtain ⟨hcz4_0, hcz4_1, hcz4_2, hcz4_3, hcz4_4⟩ := e165_ BK273.out; obtain ⟨hfz4_0, hfz4_1, hfz4_2, hfz4_3, hfz4_4⟩ := z166_ BK273.out))
  go_loopg [6, 12] k (fun kq v6 v12 w' => ∃ (x6_1 : Bool) (x12_1 : Int) (x274000_1 : Int) (x274001_1 : Int) (x274002_1 : Int) (x274003_1 : Int) (x274004_1 : Int), v6 = .bool x6_1 ∧ v12 = .int .i64 x12_1 ∧ Aside0 (impl_FirstProved.l0 kq a1 x6_1 l0 (l0.length : Int) x12_1 x274000_1 x274001_1 x274002_1 x274003_1 x274004_1 = some r) ∧ Aside0 (kq ≤ k) ∧ Aside0 (w'.heap[gb273]? = some (c164_ x274000_1 x274001_1 x274002_1 x274003_1 x274004_1)) ∧ Aside0 (Below w.heap.size w w'))
  case atStart => exact ⟨(false), (0), (0), (0), (0), (0), (0), y170_, y170_, H', ⟨Nat.le_refl _⟩, ⟨by (with_reducible repeat (first | refine blk_drewN ?_ _ | refine blk_drew ?_ | refine blk_alloc ?_ _)); refine blk_put (cs := #[.int .i64 0, .int .i64 0, .int .i64 0, .int .i64 0, .int .i64 0]) ?_ 4 _ rfl; (with_reducible repeat (first | refine blk_drewN ?_ _ | refine blk_drew ?_ | refine blk_alloc ?_ _)); refine blk_put (cs := #[.int .i64 0, .int .i64 0, .int .i64 0, .int .i64 0, .int .i64 0]) ?_ 3 _ rfl; (with_reducible repeat (first | refine blk_drewN ?_ _ | refine blk_drew ?_ | refine blk_alloc ?_ _)); refine blk_put (cs := #[.int .i64 0, .int .i64 0, .int .i64 0, .int .i64 0, .int .i64 0]) ?_ 2 _ rfl; (with_reducible repeat (first | refine blk_drewN ?_ _ | refine blk_drew ?_ | refine blk_alloc ?_ _)); refine blk_put (cs := #[.int .i64 0, .int .i64 0, .int .i64 0, .int .i64 0, .int .i64 0]) ?_ 1 _ rfl; (with_reducible repeat (first | refine blk_drewN ?_ _ | refine blk_drew ?_ | refine blk_alloc ?_ _)); refine blk_put (cs := #[.int .i64 0, .int .i64 0, .int .i64 0, .int .i64 0, .int .i64 0]) ?_ 0 _ rfl; (with_reducible repeat (first | refine blk_drewN ?_ _ | refine blk_drew ?_ | refine blk_alloc ?_ _)); exact BK273.out⟩, ⟨by repeat (first | (with_reducible first | exact HB.out | apply below_alloc | apply pw_below_drewN | apply below_drew1 | refine below_set ?_ GE273.out) | exact HB.out)⟩⟩
  case round =>
    clear H'
    try clear p2
    obtain ⟨x6_1, x12_1, x274000_1, x274001_1, x274002_1, x274003_1, x274004_1, rfl, rfl, HA, HK1, BK273, HB⟩ := hrel
    cases gk with
    | zero => exact absurd HA.out (by simp [impl_FirstProved.l0])
    | succ k1 =>
      have H := HA.out
      clear HA
      simp only [impl_FirstProved.l0] at H
      by_cases c5 : x12_1 < (l0.length : Int)
      · rw [if_pos c5] at H
        have c5b0 : decide (x12_1 < (l0.length : Int)) = true := decide_eq_true c5
        clear c5
        by_cases c6 : 0 ≤ x12_1
        · rw [if_pos c6] at H
          have c6b0 : decide (0 ≤ x12_1) = true := decide_eq_true c6
          clear c6
          by_cases c7 : x12_1 < (l0.length : Int)
          · rw [if_pos c7] at H
            have c7b0 : decide (x12_1 < (l0.length : Int)) = true := decide_eq_true c7
            clear c7
            by_cases c8 : ((rd_T69 l0 x12_1).f2) = a1
            · rw [if_pos c8] at H
              have c8b0 : (((rd_T69 l0 x12_1).f2) == a1) = true := beq_iff_eq.mpr c8
              have c8b1 : (((rd_T69 l0 x12_1).f2) != a1) = false := bne_eq_false_iff_eq.mpr c8
              clear c8
              by_cases c9 : ((rd_T69 l0 x12_1).f4) = 1
              · rw [if_pos c9] at H
                have c9b0 : (((rd_T69 l0 x12_1).f4) == 1) = true := beq_iff_eq.mpr c9
                have c9b1 : (((rd_T69 l0 x12_1).f4) != 1) = false := bne_eq_false_iff_eq.mpr c9
                clear c9
                by_cases c10 : x6_1 = true
                · subst c10
                  have H1 : (if ((rd_T69 l0 x12_1).f3) < x274003_1 then (impl_FirstProved.l0 k1 a1 true l0 (l0.length : Int) (wrap64 (x12_1 + 1)) ((rd_T69 l0 x12_1).f0) ((rd_T69 l0 x12_1).f1) ((rd_T69 l0 x12_1).f2) ((rd_T69 l0 x12_1).f3) ((rd_T69 l0 x12_1).f4)) else (impl_FirstProved.l0 k1 a1 true l0 (l0.length : Int) (wrap64 (x12_1 + 1)) x274000_1 x274001_1 x274002_1 x274003_1 x274004_1)) = some r := by rw [if_pos rfl] at H; exact H
                  clear H
                  have H := H1
                  clear H1
                  by_cases c11 : ((rd_T69 l0 x12_1).f3) < x274003_1
                  · rw [if_pos c11] at H
                    have c11b0 : decide (((rd_T69 l0 x12_1).f3) < x274003_1) = true := decide_eq_true c11
                    clear c11
                    have H' := Aside0.mk H
                    clear H
                    have p274 : 0 ≤ (x12_1 : Int) := of_decide_eq_true as_
                    have q274 : x12_1 < (l0.length : Int) := of_decide_eq_true as_
                    obtain ⟨ad274, e274, hx274_0, hx274_1, hx274_2, hx274_3, hx274_4⟩ := at_T69 HR0.out x12_1 p274 q274
                    cases e274
                    replace hx274_0 := cb_ HB.out hx274_0
                    replace hx274_1 := cb_ HB.out hx274_1
                    replace hx274_2 := cb_ HB.out hx274_2
                    replace hx274_3 := cb_ HB.out hx274_3
                    replace hx274_4 := cb_ HB.out hx274_4
                    replace p274 := eq_true p274
                    replace q274 := eq_true q274
                    go_wp2_with (first | (refine bx_ 8 #[.int .i64 0, .int .i64 0, .int .i64 0, .int .i64 0, .int .i64 0] 69 ?_; intro gb275 hg w12 hbox hb; have n0_ := Aside0.mk (blk_below (bd_ BK273.out) hb); have n1_ := Aside0.mk (below_step y167_ hb); have BK275 := Aside0.mk (hbox); have GW275 := Aside0.mk ((y174_ : w.heap.size ≤ gb275)); have GE275 := GW275; have NB273_275 := Aside0.mk ((y171_ : gb273 ≠ gb275)); have NB275_273 := Aside0.mk ((y172_ : gb275 ≠ gb273)); clear BK273; clear HB; have BK273 := n0_; have HB := n1_; clear n0_ n1_; clear hb hbox hg; have hnb13 := NB275_273.out; have hnc13 := NB273_275.out; obtain ⟨hcz14_0, hcz14_1, hcz14_2, hcz14_3, hcz14_4⟩ := e165_ BK275.out; obtain ⟨hfz14_0, hfz14_1, hfz14_2, hfz14_3, hfz14_4⟩ := z166_ BK275.out; obtain ⟨hcz15_0, hcz15_1, hcz15_2, hcz15_3, hcz15_4⟩ := e165_ BK273.out; obtain ⟨hfz15_0, hfz15_1, hfz15_2, hfz15_3, hfz15_4⟩ := z166_ BK273.out))
                    go_roundg k1
                    case measure => have := HK1.out; omega
                    case rel => exact ⟨(true), (wrap64 (x12_1 + 1)), ((rd_T69 l0 x12_1).f0), ((rd_T69 l0 x12_1).f1), ((rd_T69 l0 x12_1).f2), ((rd_T69 l0 x12_1).f3), ((rd_T69 l0 x12_1).f4), y170_, y170_, H', ⟨by have := HK1.out; omega⟩, ⟨by (with_reducible repeat (first | refine blk_drewN ?_ _ | refine blk_drew ?_ | refine blk_alloc ?_ _)); refine blk_put (cs := #[.int .i64 ((rd_T69 l0 x12_1).f0), .int .i64 ((rd_T69 l0 x12_1).f1), .int .i64 ((rd_T69 l0 x12_1).f2), .int .i64 ((rd_T69 l0 x12_1).f3), .int .i64 x274004_1]) ?_ 4 _ rfl; (with_reducible repeat (first | refine blk_drewN ?_ _ | refine blk_drew ?_ | refine blk_alloc ?_ _)); refine blk_put (cs := #[.int .i64 ((rd_T69 l0 x12_1).f0), .int .i64 ((rd_T69 l0 x12_1).f1), .int .i64 ((rd_T69 l0 x12_1).f2), .int .i64 x274003_1, .int .i64 x274004_1]) ?_ 3 _ rfl; (with_reducible repeat (first | refine blk_drewN ?_ _ | refine blk_drew ?_ | refine blk_alloc ?_ _)); refine blk_put (cs := #[.int .i64 ((rd_T69 l0 x12_1).f0), .int .i64 ((rd_T69 l0 x12_1).f1), .int .i64 x274002_1, .int .i64 x274003_1, .int .i64 x274004_1]) ?_ 2 _ rfl; (with_reducible repeat (first | refine blk_drewN ?_ _ | refine blk_drew ?_ | refine blk_alloc ?_ _)); refine blk_put (cs := #[.int .i64 ((rd_T69 l0 x12_1).f0), .int .i64 x274001_1, .int .i64 x274002_1, .int .i64 x274003_1, .int .i64 x274004_1]) ?_ 1 _ rfl; (with_reducible repeat (first | refine blk_drewN ?_ _ | refine blk_drew ?_ | refine blk_alloc ?_ _)); refine blk_put (cs := #[.int .i64 x274000_1, .int .i64 x274001_1, .int .i64 x274002_1, .int .i64 x274003_1, .int .i64 x274004_1]) ?_ 0 _ rfl; (with_reducible repeat (first | refine blk_drewN ?_ _ | refine blk_drew ?_ | refine blk_alloc ?_ _)); refine blk_far ?_ NB273_275.out _; (with_reducible repeat (first | refine blk_drewN ?_ _ | refine blk_drew ?_ | refine blk_alloc ?_ _)); refine blk_far ?_ NB273_275.out _; (with_reducible repeat (first | refine blk_drewN ?_ _ | refine blk_drew ?_ | refine blk_alloc ?_ _)); refine blk_far ?_ NB273_275.out _; (with_reducible repeat (first | refine blk_drewN ?_ _ | refine blk_drew ?_ | refine blk_alloc ?_ _)); refine blk_far ?_ NB273_275.out _; (with_reducible repeat (first | refine blk_drewN ?_ _ | refine blk_drew ?_ | refine blk_alloc ?_ _)); refine blk_far ?_ NB273_275.out _; (with_reducible repeat (first | refine blk_drewN ?_ _ | refine blk_drew ?_ | refine blk_alloc ?_ _)); exact BK273.out⟩, ⟨y169_⟩⟩
                  · rw [if_neg c11] at H
                    have c11b0 : decide (((rd_T69 l0 x12_1).f3) < x274003_1) = false := decide_eq_false c11
                    clear c11
                    have H' := Aside0.mk H
                    clear H
                    have p274 : 0 ≤ (x12_1 : Int) := of_decide_eq_true as_
                    have q274 : x12_1 < (l0.length : Int) := of_decide_eq_true as_
                    obtain ⟨ad274, e274, hx274_0, hx274_1, hx274_2, hx274_3, hx274_4⟩ := at_T69 HR0.out x12_1 p274 q274
                    cases e274
                    replace hx274_0 := cb_ HB.out hx274_0
                    replace hx274_1 := cb_ HB.out hx274_1
                    replace hx274_2 := cb_ HB.out hx274_2
                    replace hx274_3 := cb_ HB.out hx274_3
                    replace hx274_4 := cb_ HB.out hx274_4
                    replace p274 := eq_true p274
                    replace q274 := eq_true q274
                    go_wp2_with (first | (refine bx_ 8 #[.int .i64 0, .int .i64 0, .int .i64 0, .int .i64 0, .int .i64 0] 69 ?_; intro gb275 hg w16 hbox hb; have n0_ := Aside0.mk (blk_below (bd_ BK273.out) hb); have n1_ := Aside0.mk (below_step y167_ hb); have BK275 := Aside0.mk (hbox); have GW275 := Aside0.mk ((y174_ : w.heap.size ≤ gb275)); have GE275 := GW275; have NB273_275 := Aside0.mk ((y171_ : gb273 ≠ gb275)); have NB275_273 := Aside0.mk ((y172_ : gb275 ≠ gb273)); clear BK273; clear HB; have BK273 := n0_; have HB := n1_; clear n0_ n1_; clear hb hbox hg; have hnb17 := NB275_273.out; have hnc17 := NB273_275.out; obtain ⟨hcz18_0, hcz18_1, hcz18_2, hcz18_3, hcz18_4⟩ := e165_ BK275.out; obtain ⟨hfz18_0, hfz18_1, hfz18_2, hfz18_3, hfz18_4⟩ := z166_ BK275.out; obtain ⟨hcz19_0, hcz19_1, hcz19_2, hcz19_3, hcz19_4⟩ := e165_ BK273.out; obtain ⟨hfz19_0, hfz19_1, hfz19_2, hfz19_3, hfz19_4⟩ := z166_ BK273.out))
                    go_roundg k1
                    case measure => have := HK1.out; omega
                    case rel => exact ⟨(true), (wrap64 (x12_1 + 1)), (x274000_1), (x274001_1), (x274002_1), (x274003_1), (x274004_1), y170_, y170_, H', ⟨by have := HK1.out; omega⟩, ⟨by (with_reducible repeat (first | refine blk_drewN ?_ _ | refine blk_drew ?_ | refine blk_alloc ?_ _)); refine blk_far ?_ NB273_275.out _; (with_reducible repeat (first | refine blk_drewN ?_ _ | refine blk_drew ?_ | refine blk_alloc ?_ _)); refine blk_far ?_ NB273_275.out _; (with_reducible repeat (first | refine blk_drewN ?_ _ | refine blk_drew ?_ | refine blk_alloc ?_ _)); refine blk_far ?_ NB273_275.out _; (with_reducible repeat (first | refine blk_drewN ?_ _ | refine blk_drew ?_ | refine blk_alloc ?_ _)); refine blk_far ?_ NB273_275.out _; (with_reducible repeat (first | refine blk_drewN ?_ _ | refine blk_drew ?_ | refine blk_alloc ?_ _)); refine blk_far ?_ NB273_275.out _; (with_reducible repeat (first | refine blk_drewN ?_ _ | refine blk_drew ?_ | refine blk_alloc ?_ _)); exact BK273.out⟩, ⟨y169_⟩⟩
                · replace c10 := Bool.eq_false_iff.mpr c10
                  subst c10
                  have H1 : (impl_FirstProved.l0 k1 a1 true l0 (l0.length : Int) (wrap64 (x12_1 + 1)) ((rd_T69 l0 x12_1).f0) ((rd_T69 l0 x12_1).f1) ((rd_T69 l0 x12_1).f2) ((rd_T69 l0 x12_1).f3) ((rd_T69 l0 x12_1).f4)) = some r := by rw [if_neg (show ¬ (false = true) by decide)] at H; exact H
                  clear H
                  have H := H1
                  clear H1
                  have H' := Aside0.mk H
                  clear H
                  have p274 : 0 ≤ (x12_1 : Int) := of_decide_eq_true as_
                  have q274 : x12_1 < (l0.length : Int) := of_decide_eq_true as_
                  obtain ⟨ad274, e274, hx274_0, hx274_1, hx274_2, hx274_3, hx274_4⟩ := at_T69 HR0.out x12_1 p274 q274
                  cases e274
                  replace hx274_0 := cb_ HB.out hx274_0
                  replace hx274_1 := cb_ HB.out hx274_1
                  replace hx274_2 := cb_ HB.out hx274_2
                  replace hx274_3 := cb_ HB.out hx274_3
                  replace hx274_4 := cb_ HB.out hx274_4
                  replace p274 := eq_true p274
                  replace q274 := eq_true q274
                  go_wp2_with (first | (refine bx_ 8 #[.int .i64 0, .int .i64 0, .int .i64 0, .int .i64 0, .int .i64 0] 69 ?_; intro gb275 hg w20 hbox hb; have n0_ := Aside0.mk (blk_below (bd_ BK273.out) hb); have n1_ := Aside0.mk (below_step y167_ hb); have BK275 := Aside0.mk (hbox); have GW275 := Aside0.mk ((y174_ : w.heap.size ≤ gb275)); have GE275 := GW275; have NB273_275 := Aside0.mk ((y171_ : gb273 ≠ gb275)); have NB275_273 := Aside0.mk ((y172_ : gb275 ≠ gb273)); clear BK273; clear HB; have BK273 := n0_; have HB := n1_; clear n0_ n1_; clear hb hbox hg; have hnb21 := NB275_273.out; have hnc21 := NB273_275.out; obtain ⟨hcz22_0, hcz22_1, hcz22_2, hcz22_3, hcz22_4⟩ := e165_ BK275.out; obtain ⟨hfz22_0, hfz22_1, hfz22_2, hfz22_3, hfz22_4⟩ := z166_ BK275.out; obtain ⟨hcz23_0, hcz23_1, hcz23_2, hcz23_3, hcz23_4⟩ := e165_ BK273.out; obtain ⟨hfz23_0, hfz23_1, hfz23_2, hfz23_3, hfz23_4⟩ := z166_ BK273.out))
                  go_roundg k1
                  case measure => have := HK1.out; omega
                  case rel => exact ⟨(true), (wrap64 (x12_1 + 1)), ((rd_T69 l0 x12_1).f0), ((rd_T69 l0 x12_1).f1), ((rd_T69 l0 x12_1).f2), ((rd_T69 l0 x12_1).f3), ((rd_T69 l0 x12_1).f4), y170_, y170_, H', ⟨by have := HK1.out; omega⟩, ⟨by (with_reducible repeat (first | refine blk_drewN ?_ _ | refine blk_drew ?_ | refine blk_alloc ?_ _)); refine blk_put (cs := #[.int .i64 ((rd_T69 l0 x12_1).f0), .int .i64 ((rd_T69 l0 x12_1).f1), .int .i64 ((rd_T69 l0 x12_1).f2), .int .i64 ((rd_T69 l0 x12_1).f3), .int .i64 x274004_1]) ?_ 4 _ rfl; (with_reducible repeat (first | refine blk_drewN ?_ _ | refine blk_drew ?_ | refine blk_alloc ?_ _)); refine blk_put (cs := #[.int .i64 ((rd_T69 l0 x12_1).f0), .int .i64 ((rd_T69 l0 x12_1).f1), .int .i64 ((rd_T69 l0 x12_1).f2), .int .i64 x274003_1, .int .i64 x274004_1]) ?_ 3 _ rfl; (with_reducible repeat (first | refine blk_drewN ?_ _ | refine blk_drew ?_ | refine blk_alloc ?_ _)); refine blk_put (cs := #[.int .i64 ((rd_T69 l0 x12_1).f0), .int .i64 ((rd_T69 l0 x12_1).f1), .int .i64 x274002_1, .int .i64 x274003_1, .int .i64 x274004_1]) ?_ 2 _ rfl; (with_reducible repeat (first | refine blk_drewN ?_ _ | refine blk_drew ?_ | refine blk_alloc ?_ _)); refine blk_put (cs := #[.int .i64 ((rd_T69 l0 x12_1).f0), .int .i64 x274001_1, .int .i64 x274002_1, .int .i64 x274003_1, .int .i64 x274004_1]) ?_ 1 _ rfl; (with_reducible repeat (first | refine blk_drewN ?_ _ | refine blk_drew ?_ | refine blk_alloc ?_ _)); refine blk_put (cs := #[.int .i64 x274000_1, .int .i64 x274001_1, .int .i64 x274002_1, .int .i64 x274003_1, .int .i64 x274004_1]) ?_ 0 _ rfl; (with_reducible repeat (first | refine blk_drewN ?_ _ | refine blk_drew ?_ | refine blk_alloc ?_ _)); refine blk_far ?_ NB273_275.out _; (with_reducible repeat (first | refine blk_drewN ?_ _ | refine blk_drew ?_ | refine blk_alloc ?_ _)); refine blk_far ?_ NB273_275.out _; (with_reducible repeat (first | refine blk_drewN ?_ _ | refine blk_drew ?_ | refine blk_alloc ?_ _)); refine blk_far ?_ NB273_275.out _; (with_reducible repeat (first | refine blk_drewN ?_ _ | refine blk_drew ?_ | refine blk_alloc ?_ _)); refine blk_far ?_ NB273_275.out _; (with_reducible repeat (first | refine blk_drewN ?_ _ | refine blk_drew ?_ | refine blk_alloc ?_ _)); refine blk_far ?_ NB273_275.out _; (with_reducible repeat (first | refine blk_drewN ?_ _ | refine blk_drew ?_ | refine blk_alloc ?_ _)); exact BK273.out⟩, ⟨y169_⟩⟩
              · rw [if_neg c9] at H
                have c9b0 : (((rd_T69 l0 x12_1).f4) == 1) = false := beq_eq_false_iff_ne.mpr c9
                have c9b1 : (((rd_T69 l0 x12_1).f4) != 1) = true := bne_iff_ne.mpr c9
                have H' := Aside0.mk H
                clear H
                have p274 : 0 ≤ (x12_1 : Int) := of_decide_eq_true as_
                have q274 : x12_1 < (l0.length : Int) := of_decide_eq_true as_
                obtain ⟨ad274, e274, hx274_0, hx274_1, hx274_2, hx274_3, hx274_4⟩ := at_T69 HR0.out x12_1 p274 q274
                cases e274
                replace hx274_0 := cb_ HB.out hx274_0
                replace hx274_1 := cb_ HB.out hx274_1
                replace hx274_2 := cb_ HB.out hx274_2
                replace hx274_3 := cb_ HB.out hx274_3
                replace hx274_4 := cb_ HB.out hx274_4
                replace p274 := eq_true p274
                replace q274 := eq_true q274
                go_wp2_with (first | (refine bx_ 8 #[.int .i64 0, .int .i64 0, .int .i64 0, .int .i64 0, .int .i64 0] 69 ?_; intro gb275 hg w24 hbox hb; have n0_ := Aside0.mk (blk_below (bd_ BK273.out) hb); have n1_ := Aside0.mk (below_step y167_ hb); have BK275 := Aside0.mk (hbox); have GW275 := Aside0.mk ((y174_ : w.heap.size ≤ gb275)); have GE275 := GW275; have NB273_275 := Aside0.mk ((y171_ : gb273 ≠ gb275)); have NB275_273 := Aside0.mk ((y172_ : gb275 ≠ gb273)); clear BK273; clear HB; have BK273 := n0_; have HB := n1_; clear n0_ n1_; clear hb hbox hg; have hnb25 := NB275_273.out; have hnc25 := NB273_275.out; obtain ⟨hcz26_0, hcz26_1, hcz26_2, hcz26_3, hcz26_4⟩ := e165_ BK275.out; obtain ⟨hfz26_0, hfz26_1, hfz26_2, hfz26_3, hfz26_4⟩ := z166_ BK275.out))
                go_roundg k1
                case measure => have := HK1.out; omega
                case rel => exact ⟨(x6_1), (wrap64 (x12_1 + 1)), (x274000_1), (x274001_1), (x274002_1), (x274003_1), (x274004_1), y170_, y170_, H', ⟨by have := HK1.out; omega⟩, ⟨by (with_reducible repeat (first | refine blk_drewN ?_ _ | refine blk_drew ?_ | refine blk_alloc ?_ _)); refine blk_far ?_ NB273_275.out _; (with_reducible repeat (first | refine blk_drewN ?_ _ | refine blk_drew ?_ | refine blk_alloc ?_ _)); refine blk_far ?_ NB273_275.out _; (with_reducible repeat (first | refine blk_drewN ?_ _ | refine blk_drew ?_ | refine blk_alloc ?_ _)); refine blk_far ?_ NB273_275.out _; (with_reducible repeat (first | refine blk_drewN ?_ _ | refine blk_drew ?_ | refine blk_alloc ?_ _)); refine blk_far ?_ NB273_275.out _; (with_reducible repeat (first | refine blk_drewN ?_ _ | refine blk_drew ?_ | refine blk_alloc ?_ _)); refine blk_far ?_ NB273_275.out _; (with_reducible repeat (first | refine blk_drewN ?_ _ | refine blk_drew ?_ | refine blk_alloc ?_ _)); exact BK273.out⟩, ⟨y169_⟩⟩
            · rw [if_neg c8] at H
              have c8b0 : (((rd_T69 l0 x12_1).f2) == a1) = false := beq_eq_false_iff_ne.mpr c8
              have c8b1 : (((rd_T69 l0 x12_1).f2) != a1) = true := bne_iff_ne.mpr c8
              have H' := Aside0.mk H
              clear H
              have p274 : 0 ≤ (x12_1 : Int) := of_decide_eq_true as_
              have q274 : x12_1 < (l0.length : Int) := of_decide_eq_true as_
              obtain ⟨ad274, e274, hx274_0, hx274_1, hx274_2, hx274_3, hx274_4⟩ := at_T69 HR0.out x12_1 p274 q274
              cases e274
              replace hx274_0 := cb_ HB.out hx274_0
              replace hx274_1 := cb_ HB.out hx274_1
              replace hx274_2 := cb_ HB.out hx274_2
              replace hx274_3 := cb_ HB.out hx274_3
              replace hx274_4 := cb_ HB.out hx274_4
              replace p274 := eq_true p274
              replace q274 := eq_true q274
              go_wp2_with (first | (refine bx_ 8 #[.int .i64 0, .int .i64 0, .int .i64 0, .int .i64 0, .int .i64 0] 69 ?_; intro gb275 hg w27 hbox hb; have n0_ := Aside0.mk (blk_below (bd_ BK273.out) hb); have n1_ := Aside0.mk (below_step y167_ hb); have BK275 := Aside0.mk (hbox); have GW275 := Aside0.mk ((y174_ : w.heap.size ≤ gb275)); have GE275 := GW275; have NB273_275 := Aside0.mk ((y171_ : gb273 ≠ gb275)); have NB275_273 := Aside0.mk ((y172_ : gb275 ≠ gb273)); clear BK273; clear HB; have BK273 := n0_; have HB := n1_; clear n0_ n1_; clear hb hbox hg; have hnb28 := NB275_273.out; have hnc28 := NB273_275.out; obtain ⟨hcz29_0, hcz29_1, hcz29_2, hcz29_3, hcz29_4⟩ := e165_ BK275.out; obtain ⟨hfz29_0, hfz29_1, hfz29_2, hfz29_3, hfz29_4⟩ := z166_ BK275.out))
              go_roundg k1
              case measure => have := HK1.out; omega
              case rel => exact ⟨(x6_1), (wrap64 (x12_1 + 1)), (x274000_1), (x274001_1), (x274002_1), (x274003_1), (x274004_1), y170_, y170_, H', ⟨by have := HK1.out; omega⟩, ⟨by (with_reducible repeat (first | refine blk_drewN ?_ _ | refine blk_drew ?_ | refine blk_alloc ?_ _)); refine blk_far ?_ NB273_275.out _; (with_reducible repeat (first | refine blk_drewN ?_ _ | refine blk_drew ?_ | refine blk_alloc ?_ _)); refine blk_far ?_ NB273_275.out _; (with_reducible repeat (first | refine blk_drewN ?_ _ | refine blk_drew ?_ | refine blk_alloc ?_ _)); refine blk_far ?_ NB273_275.out _; (with_reducible repeat (first | refine blk_drewN ?_ _ | refine blk_drew ?_ | refine blk_alloc ?_ _)); refine blk_far ?_ NB273_275.out _; (with_reducible repeat (first | refine blk_drewN ?_ _ | refine blk_drew ?_ | refine blk_alloc ?_ _)); refine blk_far ?_ NB273_275.out _; (with_reducible repeat (first | refine blk_drewN ?_ _ | refine blk_drew ?_ | refine blk_alloc ?_ _)); exact BK273.out⟩, ⟨y169_⟩⟩
          · rw [if_neg c7] at H
            exact absurd H (by simp)
        · rw [if_neg c6] at H
          exact absurd H (by simp)
      · rw [if_neg c5] at H
        have c5b0 : decide (x12_1 < (l0.length : Int)) = false := decide_eq_false c5
        clear c5
        obtain rfl := Option.some.inj H
        obtain ⟨hcz30_0, hcz30_1, hcz30_2, hcz30_3, hcz30_4⟩ := e165_ BK273.out
        obtain ⟨hfz30_0, hfz30_1, hfz30_2, hfz30_3, hfz30_4⟩ := z166_ BK273.out
        go_wp2
        go_ret
        exact ⟨rt_, by repeat (first | (with_reducible first | exact HB.out | apply below_alloc | apply pw_below_drewN | apply below_drew1 | refine below_set ?_ GE273.out) | exact HB.out)⟩

/-! ### impl_KeepDays: function 87 -/
def impl_KeepDays.j0 : Nat → Int → Bool → Option (Int)
  | 0, _, _ => none
  | k + 1, x3, x6 => if x6 = true then (some 180) else (if x3 = 1 then (some 90) else (if x3 = 2 then (some 90) else (if x3 = 3 then (some 90) else (if x3 = 6 then (some 90) else (if x3 = 8 then (some 90) else (some 0))))))
def impl_KeepDays.f (k : Nat) (a0 : Int) : Option (Int) := if a0 = 7 then (some 1) else (if a0 = 4 then (impl_KeepDays.j0 k a0 (a0 == 4)) else (impl_KeepDays.j0 k a0 (a0 == 5)))
theorem impl_KeepDays.mono_l : ∀ k, (∀ y0 y1, LeO (impl_KeepDays.j0 k y0 y1) (impl_KeepDays.j0 (k + 1) y0 y1))
  | 0 => fun _ _ r h => by simp [impl_KeepDays.j0] at h
  | k + 1 => by
    have ih0 := impl_KeepDays.mono_l k
    · intro y0 y1
      unfold impl_KeepDays.j0
      exact mo_
theorem impl_KeepDays.mono : ∀ a0 k, LeO (impl_KeepDays.f k a0) (impl_KeepDays.f (k + 1) a0) := by
  intro a0 k
  have ih0 := impl_KeepDays.mono_l k
  unfold impl_KeepDays.f
  exact mo_
theorem y176_ {P : Prop} (h : P := by repeat (first | exact Drawn0.refl _ | apply Drawn0.step)) : P := h
set_option maxHeartbeats 8000000 in
set_option maxRecDepth 100000 in
theorem impl_KeepDays.calls (k : Nat) (a0 : Int) (r : Int) (w : World) (h : impl_KeepDays.f k a0 = some r) :
    Calls Try.prog 87 #[.int .i64 a0] w fun e w' => e = .returned (.int .i64 r) ∧ Drawn0 w w' := by
  have H : (if a0 = 7 then (some 1) else (if a0 = 4 then (impl_KeepDays.j0 k a0 (a0 == 4)) else (impl_KeepDays.j0 k a0 (a0 == 5)))) = some r := h
  clear h
  by_cases c2 : a0 = 7
  · rw [if_pos c2] at H
    have c2b0 : (a0 == 7) = true := beq_iff_eq.mpr c2
    have c2b1 : (a0 != 7) = false := bne_eq_false_iff_eq.mpr c2
    clear c2
    obtain rfl := Option.some.inj H
    go_enter Try.func87, Try.ntmps87
    go_wp2
    go_ret
    exact ⟨rs_, y176_⟩
  · rw [if_neg c2] at H
    have c2b0 : (a0 == 7) = false := beq_eq_false_iff_ne.mpr c2
    have c2b1 : (a0 != 7) = true := bne_iff_ne.mpr c2
    have HC3 := Aside0.mk H
    clear H
    go_enter Try.func87, Try.ntmps87
    go_upto_if 6 with (fail)
    go_cut [6] (fun v6 wc => ∃ (kq : Nat) (x6_2 : Bool), v6 = .bool x6_2 ∧ Aside0 (impl_KeepDays.j0 kq a0 x6_2 = some r) ∧ Aside0 (kq ≤ k) ∧ Drawn0 w wc)
    case first =>
      have H := HC3.out
      clear HC3
      by_cases c4 : a0 = 4
      · rw [if_pos c4] at H
        have c4b0 : (a0 == 4) = true := beq_iff_eq.mpr c4
        have c4b1 : (a0 != 4) = false := bne_eq_false_iff_eq.mpr c4
        clear c4
        (first | rw [c4b0] | (simp only [i64_w, i32_w]; rw [c4b0]) | skip)
        have H' := Aside0.mk H
        clear H
        go_wp2
        go_meet
        case rel => exact ⟨_, ((a0 == 4)), rs_, H', ⟨by first | omega | exact Nat.le_refl _⟩, y176_⟩
      · rw [if_neg c4] at H
        have c4b0 : (a0 == 4) = false := beq_eq_false_iff_ne.mpr c4
        have c4b1 : (a0 != 4) = true := bne_iff_ne.mpr c4
        (first | rw [c4b0] | (simp only [i64_w, i32_w]; rw [c4b0]) | skip)
        have H' := Aside0.mk H
        clear H
        go_wp2
        go_meet
        case rel => exact ⟨_, ((a0 == 5)), rs_, H', ⟨by first | omega | exact Nat.le_refl _⟩, y176_⟩
    case rest =>
      clear HC3
      try clear c2
      try clear c2b0
      try clear c2b1
      try clear p2
      try clear c4
      try clear c4b0
      try clear c4b1
      obtain ⟨kq, x6_2, rfl, HA, HJ2, ⟨mc2, rfl⟩⟩ := hcut
      cases kq with
      | zero => exact absurd HA.out (by simp [impl_KeepDays.j0])
      | succ kj2 =>
        have H := HA.out
        clear HA
        simp only [impl_KeepDays.j0] at H
        by_cases c5 : x6_2 = true
        · subst c5
          have H1 : (some 180) = some r := by rw [if_pos rfl] at H; exact H
          clear H
          have H := H1
          clear H1
          obtain rfl := Option.some.inj H
          go_wp2
          go_ret
          exact ⟨rs_, y176_⟩
        · replace c5 := Bool.eq_false_iff.mpr c5
          subst c5
          have H1 : (if a0 = 1 then (some 90) else (if a0 = 2 then (some 90) else (if a0 = 3 then (some 90) else (if a0 = 6 then (some 90) else (if a0 = 8 then (some 90) else (some 0)))))) = some r := by rw [if_neg (show ¬ (false = true) by decide)] at H; exact H
          clear H
          have H := H1
          clear H1
          by_cases c6 : a0 = 1
          · rw [if_pos c6] at H
            have c6b0 : (a0 == 1) = true := beq_iff_eq.mpr c6
            have c6b1 : (a0 != 1) = false := bne_eq_false_iff_eq.mpr c6
            clear c6
            obtain rfl := Option.some.inj H
            go_wp2
            go_ret
            exact ⟨rs_, y176_⟩
          · rw [if_neg c6] at H
            have c6b0 : (a0 == 1) = false := beq_eq_false_iff_ne.mpr c6
            have c6b1 : (a0 != 1) = true := bne_iff_ne.mpr c6
            by_cases c7 : a0 = 2
            · rw [if_pos c7] at H
              have c7b0 : (a0 == 2) = true := beq_iff_eq.mpr c7
              have c7b1 : (a0 != 2) = false := bne_eq_false_iff_eq.mpr c7
              clear c7
              obtain rfl := Option.some.inj H
              go_wp2
              go_ret
              exact ⟨rs_, y176_⟩
            · rw [if_neg c7] at H
              have c7b0 : (a0 == 2) = false := beq_eq_false_iff_ne.mpr c7
              have c7b1 : (a0 != 2) = true := bne_iff_ne.mpr c7
              by_cases c8 : a0 = 3
              · rw [if_pos c8] at H
                have c8b0 : (a0 == 3) = true := beq_iff_eq.mpr c8
                have c8b1 : (a0 != 3) = false := bne_eq_false_iff_eq.mpr c8
                clear c8
                obtain rfl := Option.some.inj H
                go_wp2
                go_ret
                exact ⟨rs_, y176_⟩
              · rw [if_neg c8] at H
                have c8b0 : (a0 == 3) = false := beq_eq_false_iff_ne.mpr c8
                have c8b1 : (a0 != 3) = true := bne_iff_ne.mpr c8
                by_cases c9 : a0 = 6
                · rw [if_pos c9] at H
                  have c9b0 : (a0 == 6) = true := beq_iff_eq.mpr c9
                  have c9b1 : (a0 != 6) = false := bne_eq_false_iff_eq.mpr c9
                  clear c9
                  obtain rfl := Option.some.inj H
                  go_wp2
                  go_ret
                  exact ⟨rs_, y176_⟩
                · rw [if_neg c9] at H
                  have c9b0 : (a0 == 6) = false := beq_eq_false_iff_ne.mpr c9
                  have c9b1 : (a0 != 6) = true := bne_iff_ne.mpr c9
                  by_cases c10 : a0 = 8
                  · rw [if_pos c10] at H
                    have c10b0 : (a0 == 8) = true := beq_iff_eq.mpr c10
                    have c10b1 : (a0 != 8) = false := bne_eq_false_iff_eq.mpr c10
                    clear c10
                    obtain rfl := Option.some.inj H
                    go_wp2
                    go_ret
                    exact ⟨rs_, y176_⟩
                  · rw [if_neg c10] at H
                    have c10b0 : (a0 == 8) = false := beq_eq_false_iff_ne.mpr c10
                    have c10b1 : (a0 != 8) = true := bne_iff_ne.mpr c10
                    obtain rfl := Option.some.inj H
                    go_wp2
                    go_ret
                    exact ⟨rs_, y176_⟩

/-! ### impl_DueHour: function 73 -/
def impl_DueHour.f (k : Nat) (a0_0 : Int) (a0_1 : Int) (a0_2 : Int) (a0_3 : Int) (a0_4 : Int) (a0_5 : Int) (a0_6 : Int) (a0_7 : Int) : Option (Int) := (impl_IsFind.f a0_0 a0_1 a0_2 a0_3 a0_4 a0_5 a0_6 a0_7).bind fun t277 => (if t277 = true then ((impl_KeepDays.f k a0_1).bind fun t278 => (some (wrap64 (a0_6 + (wrap64 (24 * t278)))))) else (some (-1)))
theorem impl_DueHour.mono : ∀ a0 a1 a2 a3 a4 a5 a6 a7 k, LeO (impl_DueHour.f k a0 a1 a2 a3 a4 a5 a6 a7) (impl_DueHour.f (k + 1) a0 a1 a2 a3 a4 a5 a6 a7) := by
  intro a0 a1 a2 a3 a4 a5 a6 a7 k
  unfold impl_DueHour.f
  have jh0 := @impl_KeepDays.mono
  exact mo_
abbrev c177_ (i0 : Int) (i1 : Int) (i2 : Int) (i3 : Int) (i4 : Int) (i5 : Int) (i6 : Int) (i7 : Int) : Obj := .cells #[.int .i64 i0, .int .i64 i1, .int .i64 i2, .int .i64 i3, .int .i64 i4, .int .i64 i5, .int .i64 i6, .int .i64 i7] 58 (0, 0)
theorem e178_ {w : World} {g : Nat} {t : TypeId} {i0 : Int} {i1 : Int} {i2 : Int} {i3 : Int} {i4 : Int} {i5 : Int} {i6 : Int} {i7 : Int} (h : w.heap[g]? = some (.cells #[.int .i64 i0, .int .i64 i1, .int .i64 i2, .int .i64 i3, .int .i64 i4, .int .i64 i5, .int .i64 i6, .int .i64 i7] t (0, 0))) : w.cell? ⟨g, 0, none⟩ = some (.int .i64 i0) ∧ w.cell? ⟨g, 1, none⟩ = some (.int .i64 i1) ∧ w.cell? ⟨g, 2, none⟩ = some (.int .i64 i2) ∧ w.cell? ⟨g, 3, none⟩ = some (.int .i64 i3) ∧ w.cell? ⟨g, 4, none⟩ = some (.int .i64 i4) ∧ w.cell? ⟨g, 5, none⟩ = some (.int .i64 i5) ∧ w.cell? ⟨g, 6, none⟩ = some (.int .i64 i6) ∧ w.cell? ⟨g, 7, none⟩ = some (.int .i64 i7) := ⟨(blk_cell h 0).trans rfl, (blk_cell h 1).trans rfl, (blk_cell h 2).trans rfl, (blk_cell h 3).trans rfl, (blk_cell h 4).trans rfl, (blk_cell h 5).trans rfl, (blk_cell h 6).trans rfl, (blk_cell h 7).trans rfl⟩
theorem z179_ {w : World} {g : Nat} {t : TypeId} {cs : Array Value} (h : w.heap[g]? = some (.cells cs t (0, 0))) : w.frozen? ⟨g, 0, none⟩ = false ∧ w.frozen? ⟨g, 1, none⟩ = false ∧ w.frozen? ⟨g, 2, none⟩ = false ∧ w.frozen? ⟨g, 3, none⟩ = false ∧ w.frozen? ⟨g, 4, none⟩ = false ∧ w.frozen? ⟨g, 5, none⟩ = false ∧ w.frozen? ⟨g, 6, none⟩ = false ∧ w.frozen? ⟨g, 7, none⟩ = false := ⟨blk_frozen h 0, blk_frozen h 1, blk_frozen h 2, blk_frozen h 3, blk_frozen h 4, blk_frozen h 5, blk_frozen h 6, blk_frozen h 7⟩
theorem y181_ {P : Prop} (h : P := by repeat (first | (with_reducible first | exact HB.out | apply below_alloc | apply pw_below_drewN | apply below_drew1 | refine below_set ?_ GE276.out) | exact HB.out)) : P := h
theorem y183_ {P : Prop} (h : P := by rw [hg]; exact (below_size (hd_ HB.out))) : P := h
set_option maxHeartbeats 8000000 in
set_option maxRecDepth 100000 in
theorem impl_DueHour.calls (k : Nat) (a0_0 : Int) (a0_1 : Int) (a0_2 : Int) (a0_3 : Int) (a0_4 : Int) (a0_5 : Int) (a0_6 : Int) (a0_7 : Int) (r : Int) (w : World) (h : impl_DueHour.f k a0_0 a0_1 a0_2 a0_3 a0_4 a0_5 a0_6 a0_7 = some r) :
    Calls Try.prog 73 #[.agg #[.int .i64 a0_0, .int .i64 a0_1, .int .i64 a0_2, .int .i64 a0_3, .int .i64 a0_4, .int .i64 a0_5, .int .i64 a0_6, .int .i64 a0_7]] w fun e w' => e = .returned (.int .i64 r) ∧ Below w.heap.size w w' := by
  have hu58 := Try.underlying58
  have HB := Aside0.mk (Below.refl w.heap.size w)
  have H : ((impl_IsFind.f a0_0 a0_1 a0_2 a0_3 a0_4 a0_5 a0_6 a0_7).bind fun t277 => (if t277 = true then ((impl_KeepDays.f k a0_1).bind fun t278 => (some (wrap64 (a0_6 + (wrap64 (24 * t278)))))) else (some (-1)))) = some r := h
  clear h
  replace H := Option.bind_eq_some_iff.mp H
  obtain ⟨t277, A20, H⟩ := H
  replace H : (if t277 = true then ((impl_KeepDays.f k a0_1).bind fun t278 => (some (wrap64 (a0_6 + (wrap64 (24 * t278)))))) else (some (-1))) = some r := H
  have A2 := Aside0.mk A20
  clear A20
  by_cases c3 : t277 = true
  · subst c3
    have H1 : ((impl_KeepDays.f k a0_1).bind fun t278 => (some (wrap64 (a0_6 + (wrap64 (24 * t278)))))) = some r := by rw [if_pos rfl] at H; exact H
    clear H
    have H := H1
    clear H1
    replace H := Option.bind_eq_some_iff.mp H
    obtain ⟨t278, A40, H⟩ := H
    replace H : (some (wrap64 (a0_6 + (wrap64 (24 * t278))))) = some r := H
    have A4 := Aside0.mk A40
    clear A40
    obtain rfl := Option.some.inj H
    go_enter Try.func73, Try.ntmps73
    go_wp2_with (first | (refine bx_ 1 #[.int .i64 a0_0, .int .i64 a0_1, .int .i64 a0_2, .int .i64 a0_3, .int .i64 a0_4, .int .i64 a0_5, .int .i64 a0_6, .int .i64 a0_7] 58 ?_; intro gb276 hg w5 hbox hb; have n0_ := Aside0.mk (below_step (hd_ HB.out) hb); have BK276 := Aside0.mk (hbox); have GW276 := Aside0.mk ((y183_ : w.heap.size ≤ gb276)); have GE276 := GW276; clear HB; have HB := n0_; clear n0_; clear hb hbox hg; obtain ⟨hcz6_0, hcz6_1, hcz6_2, hcz6_3, hcz6_4, hcz6_5, hcz6_6, hcz6_7⟩ := e178_ BK276.out; obtain ⟨hfz6_0, hfz6_1, hfz6_2, hfz6_3, hfz6_4, hfz6_5, hfz6_6, hfz6_7⟩ := z179_ BK276.out) | (go_at_call 54; (with_reducible refine (impl_IsFind.calls a0_0 a0_1 a0_2 a0_3 a0_4 a0_5 a0_6 a0_7 true _ A2.out).mono ?_); rintro e w7 ⟨rfl, hb⟩; have n0_ := Aside0.mk (blk_below (bd_ BK276.out) hb); have n1_ := Aside0.mk (below_step y181_ hb); clear BK276; clear HB; have BK276 := n0_; have HB := n1_; clear n0_ n1_; (try clear hb); obtain ⟨hcz8_0, hcz8_1, hcz8_2, hcz8_3, hcz8_4, hcz8_5, hcz8_6, hcz8_7⟩ := e178_ BK276.out; obtain ⟨hfz8_0, hfz8_1, hfz8_2, hfz8_3, hfz8_4, hfz8_5, hfz8_6, hfz8_7⟩ := z179_ BK276.out) | (go_at_call 87; (with_reducible refine (impl_KeepDays.calls k a0_1 t278 _ A4.out).mono ?_); rintro e w' ⟨rfl, ⟨nd, rfl⟩⟩; (try first | exact ⟨rfl, _, World.drewN_drewN _ _ _⟩ | exact ⟨rfl, _, Eq.trans (World.drewN_drewN _ _ _) (congrArg (World.drewN _) (Nat.add_assoc _ _ _))⟩)))
    repeat (go_quiet (first | (refine bx_ 1 #[.int .i64 a0_0, .int .i64 a0_1, .int .i64 a0_2, .int .i64 a0_3, .int .i64 a0_4, .int .i64 a0_5, .int .i64 a0_6, .int .i64 a0_7] 58 ?_; intro gb276 hg w5 hbox hb; have n0_ := Aside0.mk (below_step (hd_ HB.out) hb); have BK276 := Aside0.mk (hbox); have GW276 := Aside0.mk ((y183_ : w.heap.size ≤ gb276)); have GE276 := GW276; clear HB; have HB := n0_; clear n0_; clear hb hbox hg; obtain ⟨hcz6_0, hcz6_1, hcz6_2, hcz6_3, hcz6_4, hcz6_5, hcz6_6, hcz6_7⟩ := e178_ BK276.out; obtain ⟨hfz6_0, hfz6_1, hfz6_2, hfz6_3, hfz6_4, hfz6_5, hfz6_6, hfz6_7⟩ := z179_ BK276.out) | (go_at_call 54; (with_reducible refine (impl_IsFind.calls a0_0 a0_1 a0_2 a0_3 a0_4 a0_5 a0_6 a0_7 true _ A2.out).mono ?_); rintro e w7 ⟨rfl, hb⟩; have n0_ := Aside0.mk (blk_below (bd_ BK276.out) hb); have n1_ := Aside0.mk (below_step y181_ hb); clear BK276; clear HB; have BK276 := n0_; have HB := n1_; clear n0_ n1_; (try clear hb); obtain ⟨hcz8_0, hcz8_1, hcz8_2, hcz8_3, hcz8_4, hcz8_5, hcz8_6, hcz8_7⟩ := e178_ BK276.out; obtain ⟨hfz8_0, hfz8_1, hfz8_2, hfz8_3, hfz8_4, hfz8_5, hfz8_6, hfz8_7⟩ := z179_ BK276.out) | (go_at_call 87; (with_reducible refine (impl_KeepDays.calls k a0_1 t278 _ A4.out).mono ?_); rintro e w' ⟨rfl, ⟨nd, rfl⟩⟩; (try first | exact ⟨rfl, _, World.drewN_drewN _ _ _⟩ | exact ⟨rfl, _, Eq.trans (World.drewN_drewN _ _ _) (congrArg (World.drewN _) (Nat.add_assoc _ _ _))⟩))); try go_wp2_with (first | (refine bx_ 1 #[.int .i64 a0_0, .int .i64 a0_1, .int .i64 a0_2, .int .i64 a0_3, .int .i64 a0_4, .int .i64 a0_5, .int .i64 a0_6, .int .i64 a0_7] 58 ?_; intro gb276 hg w5 hbox hb; have n0_ := Aside0.mk (below_step (hd_ HB.out) hb); have BK276 := Aside0.mk (hbox); have GW276 := Aside0.mk ((y183_ : w.heap.size ≤ gb276)); have GE276 := GW276; clear HB; have HB := n0_; clear n0_; clear hb hbox hg; obtain ⟨hcz6_0, hcz6_1, hcz6_2, hcz6_3, hcz6_4, hcz6_5, hcz6_6, hcz6_7⟩ := e178_ BK276.out; obtain ⟨hfz6_0, hfz6_1, hfz6_2, hfz6_3, hfz6_4, hfz6_5, hfz6_6, hfz6_7⟩ := z179_ BK276.out) | (go_at_call 54; (with_reducible refine (impl_IsFind.calls a0_0 a0_1 a0_2 a0_3 a0_4 a0_5 a0_6 a0_7 true _ A2.out).mono ?_); rintro e w7 ⟨rfl, hb⟩; have n0_ := Aside0.mk (blk_below (bd_ BK276.out) hb); have n1_ := Aside0.mk (below_step y181_ hb); clear BK276; clear HB; have BK276 := n0_; have HB := n1_; clear n0_ n1_; (try clear hb); obtain ⟨hcz8_0, hcz8_1, hcz8_2, hcz8_3, hcz8_4, hcz8_5, hcz8_6, hcz8_7⟩ := e178_ BK276.out; obtain ⟨hfz8_0, hfz8_1, hfz8_2, hfz8_3, hfz8_4, hfz8_5, hfz8_6, hfz8_7⟩ := z179_ BK276.out) | (go_at_call 87; (with_reducible refine (impl_KeepDays.calls k a0_1 t278 _ A4.out).mono ?_); rintro e w' ⟨rfl, ⟨nd, rfl⟩⟩; (try first | exact ⟨rfl, _, World.drewN_drewN _ _ _⟩ | exact ⟨rfl, _, Eq.trans (World.drewN_drewN _ _ _) (congrArg (World.drewN _) (Nat.add_assoc _ _ _))⟩))))
    go_ret
    exact ⟨rt_, by repeat (first | (with_reducible first | exact HB.out | apply below_alloc | apply pw_below_drewN | apply below_drew1 | refine below_set ?_ GE276.out) | exact HB.out)⟩
  · replace c3 := Bool.eq_false_iff.mpr c3
    subst c3
    have H1 : (some (-1)) = some r := by rw [if_neg (show ¬ (false = true) by decide)] at H; exact H
    clear H
    have H := H1
    clear H1
    obtain rfl := Option.some.inj H
    go_enter Try.func73, Try.ntmps73
    go_wp2_with (first | (refine bx_ 1 #[.int .i64 a0_0, .int .i64 a0_1, .int .i64 a0_2, .int .i64 a0_3, .int .i64 a0_4, .int .i64 a0_5, .int .i64 a0_6, .int .i64 a0_7] 58 ?_; intro gb276 hg w9 hbox hb; have n0_ := Aside0.mk (below_step (hd_ HB.out) hb); have BK276 := Aside0.mk (hbox); have GW276 := Aside0.mk ((y183_ : w.heap.size ≤ gb276)); have GE276 := GW276; clear HB; have HB := n0_; clear n0_; clear hb hbox hg; obtain ⟨hcz10_0, hcz10_1, hcz10_2, hcz10_3, hcz10_4, hcz10_5, hcz10_6, hcz10_7⟩ := e178_ BK276.out; obtain ⟨hfz10_0, hfz10_1, hfz10_2, hfz10_3, hfz10_4, hfz10_5, hfz10_6, hfz10_7⟩ := z179_ BK276.out) | (go_at_call 54; (with_reducible refine (impl_IsFind.calls a0_0 a0_1 a0_2 a0_3 a0_4 a0_5 a0_6 a0_7 false _ A2.out).mono ?_); rintro e w11 ⟨rfl, hb⟩; have n0_ := Aside0.mk (blk_below (bd_ BK276.out) hb); have n1_ := Aside0.mk (below_step y181_ hb); clear BK276; clear HB; have BK276 := n0_; have HB := n1_; clear n0_ n1_; (try clear hb)))
    repeat (go_quiet (first | (refine bx_ 1 #[.int .i64 a0_0, .int .i64 a0_1, .int .i64 a0_2, .int .i64 a0_3, .int .i64 a0_4, .int .i64 a0_5, .int .i64 a0_6, .int .i64 a0_7] 58 ?_; intro gb276 hg w9 hbox hb; have n0_ := Aside0.mk (below_step (hd_ HB.out) hb); have BK276 := Aside0.mk (hbox); have GW276 := Aside0.mk ((y183_ : w.heap.size ≤ gb276)); have GE276 := GW276; clear HB; have HB := n0_; clear n0_; clear hb hbox hg; obtain ⟨hcz10_0, hcz10_1, hcz10_2, hcz10_3, hcz10_4, hcz10_5, hcz10_6, hcz10_7⟩ := e178_ BK276.out; obtain ⟨hfz10_0, hfz10_1, hfz10_2, hfz10_3, hfz10_4, hfz10_5, hfz10_6, hfz10_7⟩ := z179_ BK276.out) | (go_at_call 54; (with_reducible refine (impl_IsFind.calls a0_0 a0_1 a0_2 a0_3 a0_4 a0_5 a0_6 a0_7 false _ A2.out).mono ?_); rintro e w11 ⟨rfl, hb⟩; have n0_ := Aside0.mk (blk_below (bd_ BK276.out) hb); have n1_ := Aside0.mk (below_step y181_ hb); clear BK276; clear HB; have BK276 := n0_; have HB := n1_; clear n0_ n1_; (try clear hb))); try go_wp2_with (first | (refine bx_ 1 #[.int .i64 a0_0, .int .i64 a0_1, .int .i64 a0_2, .int .i64 a0_3, .int .i64 a0_4, .int .i64 a0_5, .int .i64 a0_6, .int .i64 a0_7] 58 ?_; intro gb276 hg w9 hbox hb; have n0_ := Aside0.mk (below_step (hd_ HB.out) hb); have BK276 := Aside0.mk (hbox); have GW276 := Aside0.mk ((y183_ : w.heap.size ≤ gb276)); have GE276 := GW276; clear HB; have HB := n0_; clear n0_; clear hb hbox hg; obtain ⟨hcz10_0, hcz10_1, hcz10_2, hcz10_3, hcz10_4, hcz10_5, hcz10_6, hcz10_7⟩ := e178_ BK276.out; obtain ⟨hfz10_0, hfz10_1, hfz10_2, hfz10_3, hfz10_4, hfz10_5, hfz10_6, hfz10_7⟩ := z179_ BK276.out) | (go_at_call 54; (with_reducible refine (impl_IsFind.calls a0_0 a0_1 a0_2 a0_3 a0_4 a0_5 a0_6 a0_7 false _ A2.out).mono ?_); rintro e w11 ⟨rfl, hb⟩; have n0_ := Aside0.mk (blk_below (bd_ BK276.out) hb); have n1_ := Aside0.mk (below_step y181_ hb); clear BK276; clear HB; have BK276 := n0_; have HB := n1_; clear n0_ n1_; (try clear hb))))
    go_ret
    exact ⟨rt_, by repeat (first | (with_reducible first | exact HB.out | apply below_alloc | apply pw_below_drewN | apply below_drew1 | refine below_set ?_ GE276.out) | exact HB.out)⟩

/-! ### impl_IsDue: function 70 -/
def impl_IsDue.f (k : Nat) (a0_0 : Int) (a0_1 : Int) (a0_2 : Int) (a0_3 : Int) (a0_4 : Int) (a0_5 : Int) (a0_6 : Int) (a0_7 : Int) (a1 : Int) : Option (Bool) := (impl_IsFind.f a0_0 a0_1 a0_2 a0_3 a0_4 a0_5 a0_6 a0_7).bind fun t280 => (if t280 = true then ((impl_DueHour.f k a0_0 a0_1 a0_2 a0_3 a0_4 a0_5 a0_6 a0_7).bind fun t281 => (some (decide (a1 ≥ t281)))) else (some false))
theorem impl_IsDue.mono : ∀ a0 a1 a2 a3 a4 a5 a6 a7 a8 k, LeO (impl_IsDue.f k a0 a1 a2 a3 a4 a5 a6 a7 a8) (impl_IsDue.f (k + 1) a0 a1 a2 a3 a4 a5 a6 a7 a8) := by
  intro a0 a1 a2 a3 a4 a5 a6 a7 a8 k
  unfold impl_IsDue.f
  have jh0 := @impl_DueHour.mono
  exact mo_
theorem e184_ {w : World} {g : Nat} {t : TypeId} {i0 : Int} {i1 : Int} {i2 : Int} {i3 : Int} {i4 : Int} {i5 : Int} {i6 : Int} {i7 : Int} (h : w.heap[g]? = some (.cells #[.int .i64 i0, .int .i64 i1, .int .i64 i2, .int .i64 i3, .int .i64 i4, .int .i64 i5, .int .i64 i6, .int .i64 i7] t (0, 0))) : w.cell? ⟨g, 0, none⟩ = some (.int .i64 i0) ∧ w.cell? ⟨g, 1, none⟩ = some (.int .i64 i1) ∧ w.cell? ⟨g, 2, none⟩ = some (.int .i64 i2) ∧ w.cell? ⟨g, 3, none⟩ = some (.int .i64 i3) ∧ w.cell? ⟨g, 4, none⟩ = some (.int .i64 i4) ∧ w.cell? ⟨g, 5, none⟩ = some (.int .i64 i5) ∧ w.cell? ⟨g, 6, none⟩ = some (.int .i64 i6) ∧ w.cell? ⟨g, 7, none⟩ = some (.int .i64 i7) := ⟨(blk_cell h 0).trans rfl, (blk_cell h 1).trans rfl, (blk_cell h 2).trans rfl, (blk_cell h 3).trans rfl, (blk_cell h 4).trans rfl, (blk_cell h 5).trans rfl, (blk_cell h 6).trans rfl, (blk_cell h 7).trans rfl⟩
theorem z185_ {w : World} {g : Nat} {t : TypeId} {cs : Array Value} (h : w.heap[g]? = some (.cells cs t (0, 0))) : w.frozen? ⟨g, 0, none⟩ = false ∧ w.frozen? ⟨g, 1, none⟩ = false ∧ w.frozen? ⟨g, 2, none⟩ = false ∧ w.frozen? ⟨g, 3, none⟩ = false ∧ w.frozen? ⟨g, 4, none⟩ = false ∧ w.frozen? ⟨g, 5, none⟩ = false ∧ w.frozen? ⟨g, 6, none⟩ = false ∧ w.frozen? ⟨g, 7, none⟩ = false := ⟨blk_frozen h 0, blk_frozen h 1, blk_frozen h 2, blk_frozen h 3, blk_frozen h 4, blk_frozen h 5, blk_frozen h 6, blk_frozen h 7⟩
theorem y187_ {P : Prop} (h : P := by repeat (first | (with_reducible first | exact HB.out | apply below_alloc | apply pw_below_drewN | apply below_drew1 | refine below_set ?_ GE279.out) | exact HB.out)) : P := h
set_option maxHeartbeats 8000000 in
set_option maxRecDepth 100000 in
theorem impl_IsDue.calls (k : Nat) (a0_0 : Int) (a0_1 : Int) (a0_2 : Int) (a0_3 : Int) (a0_4 : Int) (a0_5 : Int) (a0_6 : Int) (a0_7 : Int) (a1 : Int) (r : Bool) (w : World) (h : impl_IsDue.f k a0_0 a0_1 a0_2 a0_3 a0_4 a0_5 a0_6 a0_7 a1 = some r) :
    Calls Try.prog 70 #[.agg #[.int .i64 a0_0, .int .i64 a0_1, .int .i64 a0_2, .int .i64 a0_3, .int .i64 a0_4, .int .i64 a0_5, .int .i64 a0_6, .int .i64 a0_7], .int .i64 a1] w fun e w' => e = .returned (.bool r) ∧ Below w.heap.size w w' := by
  have hu58 := Try.underlying58
  have HB := Aside0.mk (Below.refl w.heap.size w)
  have H : ((impl_IsFind.f a0_0 a0_1 a0_2 a0_3 a0_4 a0_5 a0_6 a0_7).bind fun t280 => (if t280 = true then ((impl_DueHour.f k a0_0 a0_1 a0_2 a0_3 a0_4 a0_5 a0_6 a0_7).bind fun t281 => (some (decide (a1 ≥ t281)))) else (some false))) = some r := h
  clear h
  replace H := Option.bind_eq_some_iff.mp H
  obtain ⟨t280, A30, H⟩ := H
  replace H : (if t280 = true then ((impl_DueHour.f k a0_0 a0_1 a0_2 a0_3 a0_4 a0_5 a0_6 a0_7).bind fun t281 => (some (decide (a1 ≥ t281)))) else (some false)) = some r := H
  have A3 := Aside0.mk A30
  clear A30
  by_cases c4 : t280 = true
  · subst c4
    have H1 : ((impl_DueHour.f k a0_0 a0_1 a0_2 a0_3 a0_4 a0_5 a0_6 a0_7).bind fun t281 => (some (decide (a1 ≥ t281)))) = some r := by rw [if_pos rfl] at H; exact H
    clear H
    have H := H1
    clear H1
    replace H := Option.bind_eq_some_iff.mp H
    obtain ⟨t281, A50, H⟩ := H
    replace H : (some (decide (a1 ≥ t281))) = some r := H
    have A5 := Aside0.mk A50
    clear A50
    obtain rfl := Option.some.inj H
    go_enter Try.func70, Try.ntmps70
    go_wp2_with (first | (refine bx_ 2 #[.int .i64 a0_0, .int .i64 a0_1, .int .i64 a0_2, .int .i64 a0_3, .int .i64 a0_4, .int .i64 a0_5, .int .i64 a0_6, .int .i64 a0_7] 58 ?_; intro gb279 hg w6 hbox hb; have n0_ := Aside0.mk (below_step (hd_ HB.out) hb); have BK279 := Aside0.mk (hbox); have GW279 := Aside0.mk ((by rw [hg]; exact (below_size (hd_ HB.out)) : w.heap.size ≤ gb279)); have GE279 := GW279; clear HB; have HB := n0_; clear n0_; clear hb hbox hg; obtain ⟨hcz7_0, hcz7_1, hcz7_2, hcz7_3, hcz7_4, hcz7_5, hcz7_6, hcz7_7⟩ := e184_ BK279.out; obtain ⟨hfz7_0, hfz7_1, hfz7_2, hfz7_3, hfz7_4, hfz7_5, hfz7_6, hfz7_7⟩ := z185_ BK279.out) | ((with_reducible refine gate_callee (f := 54) rfl ?_); refine goesL_ (some 6) rfl rfl Try.func54 (by kernel_rfl) rfl #[.agg #[.int .i64 a0_0, .int .i64 a0_1, .int .i64 a0_2, .int .i64 a0_3, .int .i64 a0_4, .int .i64 a0_5, .int .i64 a0_6, .int .i64 a0_7]] rfl ma_ ?_; (with_reducible refine (impl_IsFind.calls a0_0 a0_1 a0_2 a0_3 a0_4 a0_5 a0_6 a0_7 true _ A3.out).mono ?_); rintro e w8 ⟨rfl, hb⟩; refine ⟨_, rfl, ?_⟩; have n0_ := Aside0.mk (blk_below (bd_ BK279.out) hb); have n1_ := Aside0.mk (below_step y187_ hb); clear BK279; clear HB; have BK279 := n0_; have HB := n1_; clear n0_ n1_; (try clear hb); obtain ⟨hcz9_0, hcz9_1, hcz9_2, hcz9_3, hcz9_4, hcz9_5, hcz9_6, hcz9_7⟩ := e184_ BK279.out; obtain ⟨hfz9_0, hfz9_1, hfz9_2, hfz9_3, hfz9_4, hfz9_5, hfz9_6, hfz9_7⟩ := z185_ BK279.out) | (go_at_call 73; (with_reducible refine (impl_DueHour.calls k a0_0 a0_1 a0_2 a0_3 a0_4 a0_5 a0_6 a0_7 t281 _ A5.out).mono ?_); rintro e w10 ⟨rfl, hb⟩; have n0_ := Aside0.mk (blk_below (bd_ BK279.out) hb); have n1_ := Aside0.mk (below_step y187_ hb); clear BK279; clear HB; have BK279 := n0_; have HB := n1_; clear n0_ n1_; (try clear hb)))
    go_ret
    exact ⟨rt_, by repeat (first | (with_reducible first | exact HB.out | apply below_alloc | apply pw_below_drewN | apply below_drew1 | refine below_set ?_ GE279.out) | exact HB.out)⟩
  · replace c4 := Bool.eq_false_iff.mpr c4
    subst c4
    have H1 : (some false) = some r := by rw [if_neg (show ¬ (false = true) by decide)] at H; exact H
    clear H
    have H := H1
    clear H1
    obtain rfl := Option.some.inj H
    go_enter Try.func70, Try.ntmps70
    go_wp2_with (first | (refine bx_ 2 #[.int .i64 a0_0, .int .i64 a0_1, .int .i64 a0_2, .int .i64 a0_3, .int .i64 a0_4, .int .i64 a0_5, .int .i64 a0_6, .int .i64 a0_7] 58 ?_; intro gb279 hg w11 hbox hb; have n0_ := Aside0.mk (below_step (hd_ HB.out) hb); have BK279 := Aside0.mk (hbox); have GW279 := Aside0.mk ((by rw [hg]; exact (below_size (hd_ HB.out)) : w.heap.size ≤ gb279)); have GE279 := GW279; clear HB; have HB := n0_; clear n0_; clear hb hbox hg; obtain ⟨hcz12_0, hcz12_1, hcz12_2, hcz12_3, hcz12_4, hcz12_5, hcz12_6, hcz12_7⟩ := e184_ BK279.out; obtain ⟨hfz12_0, hfz12_1, hfz12_2, hfz12_3, hfz12_4, hfz12_5, hfz12_6, hfz12_7⟩ := z185_ BK279.out) | ((with_reducible refine gate_callee (f := 54) rfl ?_); refine goesL_ (some 6) rfl rfl Try.func54 (by kernel_rfl) rfl #[.agg #[.int .i64 a0_0, .int .i64 a0_1, .int .i64 a0_2, .int .i64 a0_3, .int .i64 a0_4, .int .i64 a0_5, .int .i64 a0_6, .int .i64 a0_7]] rfl ma_ ?_; (with_reducible refine (impl_IsFind.calls a0_0 a0_1 a0_2 a0_3 a0_4 a0_5 a0_6 a0_7 false _ A3.out).mono ?_); rintro e w13 ⟨rfl, hb⟩; refine ⟨_, rfl, ?_⟩; have n0_ := Aside0.mk (blk_below (bd_ BK279.out) hb); have n1_ := Aside0.mk (below_step y187_ hb); clear BK279; clear HB; have BK279 := n0_; have HB := n1_; clear n0_ n1_; (try clear hb)))
    go_ret
    exact ⟨rt_, by repeat (first | (with_reducible first | exact HB.out | apply below_alloc | apply pw_below_drewN | apply below_drew1 | refine below_set ?_ GE279.out) | exact HB.out)⟩

/-! ### impl_Claim_86: function 86 -/
set_option maxHeartbeats 8000000 in
set_option maxRecDepth 100000 in
theorem impl_Claim_86.calls (p : S69 → Bool) (g : Nat) (lb : Array Value) (eg : ∀ args w, (callFunc g args).run Try.prog w = .ok (.enter g args) w) (A0 : Option Addr) (c0 : Nat) (l0 : List S69) (w : World) (hr0 : Kd.C k69 w A0 l0.length l0)
    (hp : ∀ (x : S69) (W : World), Below w.heap.size w W → Calls Try.prog g (#[.agg #[.int .i64 x.f0, .int .i64 x.f1, .int .i64 x.f2, .int .i64 x.f3, .int .i64 x.f4]] ++ lb) W fun e W' => e = .returned (.bool (p x)) ∧ Below W.heap.size W W') :
    Calls Try.prog 86 #[.slice A0 l0.length c0, .func (.func g) #[] lb] w fun e w' => e = .returned (.int .i64 (EvLib.idxB p l0 0)) ∧ Below w.heap.size w w' := by
  have hu69 := Try.underlying69
  have HR0 := Aside0.mk hr0
  have HP := Aside0.mk hp
  have hmax := Kd.C_max hr0
  clear hr0 hp
  go_enter Try.func86, Try.ntmps86
  go_wp2
  go_loopg [5, 8] l0.length (fun gg _ v8 wr => ∃ z : Int, v8 = .int .i64 z ∧ Aside0 (0 ≤ z) ∧ Aside0 (z ≤ (l0.length : Int)) ∧ Aside0 ((l0.length : Int) - z ≤ gg) ∧ Aside0 (Below w.heap.size w wr) ∧ Aside0 (EvLib.idxB p (l0.drop z.toNat) z.toNat = EvLib.idxB p l0 0))
  case atStart => exact ⟨0, rfl, ⟨by omega⟩, ⟨by omega⟩, ⟨by omega⟩, ⟨Below.refl _ _⟩, ⟨rfl⟩⟩
  case round =>
    obtain ⟨z, rfl, Z0, Z1, ZG, HB, HI⟩ := hrel
    by_cases hlt : z < (l0.length : Int)
    · have p1 : 0 ≤ z := Z0.out
      obtain ⟨ad, e, hx0, hx1, hx2, hx3, hx4⟩ := at_T69 HR0.out z p1 hlt
      cases e
      replace hx0 := pw_cell_below HB.out hx0
      replace hx1 := pw_cell_below HB.out hx1
      replace hx2 := pw_cell_below HB.out hx2
      replace hx3 := pw_cell_below HB.out hx3
      replace hx4 := pw_cell_below HB.out hx4
      have hcall := HP.out (rd_T69 l0 z) wr HB.out
      have hat := Aside0.mk (EvLib.idxB_at p z69 l0 z.toNat (by omega))
      cases hq : p (rd_T69 l0 z) with
      | true =>
        rw [hq] at hcall
        have HQ := Aside0.mk hq
        clear hq
        have hltb : decide (z < (l0.length : Int)) = true := decide_eq_true hlt
        replace p1 := eq_true p1
        replace hlt := eq_true hlt
        go_wp2_with (go_at_fn g; refine hcall.mono ?_; rintro e w' ⟨rfl, hb⟩; have n1_ := Aside0.mk (below_step HB.out hb); clear HB; have HB := n1_; clear n1_ hb)
        go_ret
        have hz : EvLib.idxB p l0 0 = z := by rw [← HI.out, hat.out, if_pos (show p (l0.getD z.toNat z69) = true from HQ.out), Int.toNat_of_nonneg Z0.out]
        exact ⟨by rw [hz]; rfl, HB.out⟩
      | false =>
        rw [hq] at hcall
        have HQ := Aside0.mk hq
        clear hq
        have HL := Aside0.mk hlt
        have hltb : decide (z < (l0.length : Int)) = true := decide_eq_true hlt
        replace p1 := eq_true p1
        replace hlt := eq_true hlt
        have hwr : wrap64 (z + 1) = z + 1 := by have := Z0.out; have := HL.out; unfold wrap64; omega
        go_wp2_with (go_at_fn g; refine hcall.mono ?_; rintro e w' ⟨rfl, hb⟩; have n1_ := Aside0.mk (below_step HB.out hb); clear HB; have HB := n1_; clear n1_ hb)
        go_roundg ((l0.length : Int) - (z + 1)).toNat
        case measure => have := Z0.out; have := HL.out; have := ZG.out; omega
        case rel =>
          refine ⟨z + 1, by first | rfl | (simp; done) | (simp [*]; done), ⟨by have := Z0.out; omega⟩, ⟨by have := HL.out; omega⟩, ⟨by have := HL.out; omega⟩, ⟨HB.out⟩, ⟨?_⟩⟩
          rw [← HI.out, hat.out, if_neg (by rw [show p (l0.getD z.toNat z69) = false from HQ.out]; simp)]
          have e1 : (z + 1).toNat = z.toNat + 1 := by have := Z0.out; omega
          rw [e1]
    · have hltb : decide (z < (l0.length : Int)) = false := decide_eq_false hlt
      have HE := Aside0.mk (EvLib.idxB_end p l0 z.toNat (by have := Z1.out; omega))
      clear hlt
      go_wp2
      go_ret
      have hz : EvLib.idxB p l0 0 = -1 := by rw [← HI.out, HE.out]
      exact ⟨by rw [hz]; rfl, HB.out⟩


/-! ### impl_FateOf: function 56 -/
set_option maxHeartbeats 8000000 in
set_option maxRecDepth 100000 in
theorem impl_FateOf_cont.calls (p : S69 → Bool) (g : Nat) (lb : Array Value) (eg : ∀ args w, (callFunc g args).run Try.prog w = .ok (.enter g args) w) (A0 : Option Addr) (c0 : Nat) (l0 : List S69) (w : World) (hr0 : Kd.C k69 w A0 l0.length l0)
    (hp : ∀ (x : S69) (W : World), Below w.heap.size w W → Calls Try.prog g (#[.agg #[.int .i64 x.f0, .int .i64 x.f1, .int .i64 x.f2, .int .i64 x.f3, .int .i64 x.f4]] ++ lb) W fun e W' => e = .returned (.bool (p x)) ∧ Below W.heap.size W W') :
    Calls Try.prog 71 #[.slice A0 l0.length c0, .func (.func g) #[] lb] w fun e w' => e = .returned (.bool (decide (0 ≤ EvLib.idxB p l0 0))) ∧ Below w.heap.size w w' := by
  have HC := Aside0.mk (impl_Claim_86.calls p g lb eg A0 c0 l0 w hr0 hp)
  clear hr0 hp eg
  generalize EvLib.idxB p l0 0 = i at HC ⊢
  go_enter Try.func71, Try.ntmps71
  go_wp2_with (go_at_call 86; refine HC.out.mono ?_; rintro e w' ⟨rfl, hb⟩; have HB := Aside0.mk hb; clear hb)
  go_ret
  exact ⟨rfl, HB.out⟩
/-- An open claim to the thing of this id. -/
def impl_FateOf.p (id : Int) (x : S69) : Bool := decide (x.f2 = id) && decide (x.f4 = 0)
set_option maxHeartbeats 8000000 in
set_option maxRecDepth 100000 in
theorem impl_FateOf_1.calls (x : S69) (id : Int) (g : Nat) (w : World) (hc : w.cell? ⟨g, 0, none⟩ = some (.int .i64 id)) :
    Calls Try.prog 72 #[.agg #[.int .i64 x.f0, .int .i64 x.f1, .int .i64 x.f2, .int .i64 x.f3, .int .i64 x.f4], .pointer (some ⟨g, 0, none⟩)] w fun e w' => e = .returned (.bool (impl_FateOf.p id x)) ∧ Below w.heap.size w w' := by
  have huE := Try.underlying69
  have huT := Try.underlying56
  have hd : ∀ o, (w.alloc o).cell? ⟨g, 0, none⟩ = some (.int .i64 id) := fun o => pw_cell_below (below_alloc (Below.refl _ _) o) hc
  unfold impl_FateOf.p
  by_cases h1 : x.f2 = id
  · have hb1 : (x.f2 == id) = true := beq_iff_eq.2 h1
    have hd1 : decide (x.f2 = id) = true := decide_eq_true h1
    go_enter Try.func72, Try.ntmps72
    go_wp2
    go_ret
    exact ⟨by first | rfl | (simp [*]; done) | (simp [*]; (by_cases h4 : x.f4 = 0 <;> simp [h4])), below_alloc (Below.refl w.heap.size w) _⟩
  · have hb1 : (x.f2 == id) = false := beq_eq_false_iff_ne.2 h1
    have hd1 : decide (x.f2 = id) = false := decide_eq_false h1
    go_enter Try.func72, Try.ntmps72
    go_wp2
    go_ret
    exact ⟨by first | rfl | (simp [*]; done) | (simp [*]; (by_cases h4 : x.f4 = 0 <;> simp [h4])), below_alloc (Below.refl w.heap.size w) _⟩
/-- Behind the claims: what the thing itself says. -/
def impl_FateOf.tail (kind worth finder : Int) : Int := if kind = 7 then 5 else if worth = 0 then 5 else if finder = 0 then (if 5000 < worth then 3 else 4) else (if worth ≤ 5000 then 2 else 3)
def impl_FateOf.f (k : Nat) (a0_0 a0_1 a0_2 a0_3 a0_4 a0_5 a0_6 a0_7 : Int) (l1 : List S69) (a2 : Int) : Option Int := (impl_FirstProved.f k l1 a0_0).bind fun fp => if fp = 0 then ((impl_IsDue.f k a0_0 a0_1 a0_2 a0_3 a0_4 a0_5 a0_6 a0_7 a2).bind fun due => if due = true then (if 0 ≤ EvLib.idxB (impl_FateOf.p a0_0) l1 0 then some 0 else some (impl_FateOf.tail a0_1 a0_4 a0_7)) else some 0) else some 1
theorem impl_FateOf.mono : ∀ a0 a1 a2 a3 a4 a5 a6 a7 a8 a9 k, LeO (impl_FateOf.f k a0 a1 a2 a3 a4 a5 a6 a7 a8 a9) (impl_FateOf.f (k + 1) a0 a1 a2 a3 a4 a5 a6 a7 a8 a9) := by
  intro a0 a1 a2 a3 a4 a5 a6 a7 a8 a9 k
  unfold impl_FateOf.f
  refine LeO.bind (impl_FirstProved.mono _ _ _) (fun fp => ?_)
  split
  · exact LeO.bind (impl_IsDue.mono _ _ _ _ _ _ _ _ _ _) (fun _ => LeO.refl _)
  · exact LeO.refl _
set_option maxHeartbeats 8000000 in
set_option maxRecDepth 100000 in
theorem impl_FateOf.calls (k : Nat) (a0_0 : Int) (a0_1 : Int) (a0_2 : Int) (a0_3 : Int) (a0_4 : Int) (a0_5 : Int) (a0_6 : Int) (a0_7 : Int) (A1 : Option Addr) (c1 : Nat) (l1 : List S69) (a2 : Int) (r : Int) (w : World) (hr1 : Kd.C k69 w A1 l1.length l1) (hc1 : l1.length ≤ c1)
    (h : impl_FateOf.f k a0_0 a0_1 a0_2 a0_3 a0_4 a0_5 a0_6 a0_7 l1 a2 = some r) :
    Calls Try.prog 56 #[.agg #[.int .i64 a0_0, .int .i64 a0_1, .int .i64 a0_2, .int .i64 a0_3, .int .i64 a0_4, .int .i64 a0_5, .int .i64 a0_6, .int .i64 a0_7], .slice A1 l1.length c1, .int .i64 a2] w fun e w' => e = .returned (.int .i64 r) ∧ Below w.heap.size w w' := by
  have HR1 := Aside0.mk hr1
  have HC1 := Aside0.mk hc1
  clear hr1 hc1
  have huF := Try.underlying58
  have huT := Try.underlying56
  unfold impl_FateOf.f at h
  obtain ⟨fp, A1_, h⟩ := Option.bind_eq_some_iff.mp h
  have A1_ := Aside0.mk A1_
  have hbw : Below w.heap.size w ((w.alloc (.cells #[.int .i64 a0_0, .int .i64 a0_1, .int .i64 a0_2, .int .i64 a0_3, .int .i64 a0_4, .int .i64 a0_5, .int .i64 a0_6, .int .i64 a0_7] 58)).alloc (.cells #[.int .i64 a0_0, .int .i64 a0_1, .int .i64 a0_2, .int .i64 a0_3, .int .i64 a0_4] 56)) := below_alloc (below_alloc (Below.refl w.heap.size w) _) _
  have HB := Aside0.mk hbw
  have HR := Aside0.mk (Kd.C_below HR1.out HB.out)
  have hf0 : ((w.alloc (.cells #[.int .i64 a0_0, .int .i64 a0_1, .int .i64 a0_2, .int .i64 a0_3, .int .i64 a0_4, .int .i64 a0_5, .int .i64 a0_6, .int .i64 a0_7] 58)).alloc (.cells #[.int .i64 a0_0, .int .i64 a0_1, .int .i64 a0_2, .int .i64 a0_3, .int .i64 a0_4] 56)).cell? ⟨w.heap.size, 0, none⟩ = some (.int .i64 a0_0) := by simp
  have hf1 : ((w.alloc (.cells #[.int .i64 a0_0, .int .i64 a0_1, .int .i64 a0_2, .int .i64 a0_3, .int .i64 a0_4, .int .i64 a0_5, .int .i64 a0_6, .int .i64 a0_7] 58)).alloc (.cells #[.int .i64 a0_0, .int .i64 a0_1, .int .i64 a0_2, .int .i64 a0_3, .int .i64 a0_4] 56)).cell? ⟨w.heap.size, 1, none⟩ = some (.int .i64 a0_1) := by simp
  have hf2 : ((w.alloc (.cells #[.int .i64 a0_0, .int .i64 a0_1, .int .i64 a0_2, .int .i64 a0_3, .int .i64 a0_4, .int .i64 a0_5, .int .i64 a0_6, .int .i64 a0_7] 58)).alloc (.cells #[.int .i64 a0_0, .int .i64 a0_1, .int .i64 a0_2, .int .i64 a0_3, .int .i64 a0_4] 56)).cell? ⟨w.heap.size, 2, none⟩ = some (.int .i64 a0_2) := by simp
  have hf3 : ((w.alloc (.cells #[.int .i64 a0_0, .int .i64 a0_1, .int .i64 a0_2, .int .i64 a0_3, .int .i64 a0_4, .int .i64 a0_5, .int .i64 a0_6, .int .i64 a0_7] 58)).alloc (.cells #[.int .i64 a0_0, .int .i64 a0_1, .int .i64 a0_2, .int .i64 a0_3, .int .i64 a0_4] 56)).cell? ⟨w.heap.size, 3, none⟩ = some (.int .i64 a0_3) := by simp
  have hf4 : ((w.alloc (.cells #[.int .i64 a0_0, .int .i64 a0_1, .int .i64 a0_2, .int .i64 a0_3, .int .i64 a0_4, .int .i64 a0_5, .int .i64 a0_6, .int .i64 a0_7] 58)).alloc (.cells #[.int .i64 a0_0, .int .i64 a0_1, .int .i64 a0_2, .int .i64 a0_3, .int .i64 a0_4] 56)).cell? ⟨w.heap.size, 4, none⟩ = some (.int .i64 a0_4) := by simp
  have hf5 : ((w.alloc (.cells #[.int .i64 a0_0, .int .i64 a0_1, .int .i64 a0_2, .int .i64 a0_3, .int .i64 a0_4, .int .i64 a0_5, .int .i64 a0_6, .int .i64 a0_7] 58)).alloc (.cells #[.int .i64 a0_0, .int .i64 a0_1, .int .i64 a0_2, .int .i64 a0_3, .int .i64 a0_4] 56)).cell? ⟨w.heap.size, 5, none⟩ = some (.int .i64 a0_5) := by simp
  have hf6 : ((w.alloc (.cells #[.int .i64 a0_0, .int .i64 a0_1, .int .i64 a0_2, .int .i64 a0_3, .int .i64 a0_4, .int .i64 a0_5, .int .i64 a0_6, .int .i64 a0_7] 58)).alloc (.cells #[.int .i64 a0_0, .int .i64 a0_1, .int .i64 a0_2, .int .i64 a0_3, .int .i64 a0_4] 56)).cell? ⟨w.heap.size, 6, none⟩ = some (.int .i64 a0_6) := by simp
  have hf7 : ((w.alloc (.cells #[.int .i64 a0_0, .int .i64 a0_1, .int .i64 a0_2, .int .i64 a0_3, .int .i64 a0_4, .int .i64 a0_5, .int .i64 a0_6, .int .i64 a0_7] 58)).alloc (.cells #[.int .i64 a0_0, .int .i64 a0_1, .int .i64 a0_2, .int .i64 a0_3, .int .i64 a0_4] 56)).cell? ⟨w.heap.size, 7, none⟩ = some (.int .i64 a0_7) := by simp
  have ht0 : ((w.alloc (.cells #[.int .i64 a0_0, .int .i64 a0_1, .int .i64 a0_2, .int .i64 a0_3, .int .i64 a0_4, .int .i64 a0_5, .int .i64 a0_6, .int .i64 a0_7] 58)).alloc (.cells #[.int .i64 a0_0, .int .i64 a0_1, .int .i64 a0_2, .int .i64 a0_3, .int .i64 a0_4] 56)).cell? ⟨w.heap.size + 1, 0, none⟩ = some (.int .i64 a0_0) := by simp
  have ht1 : ((w.alloc (.cells #[.int .i64 a0_0, .int .i64 a0_1, .int .i64 a0_2, .int .i64 a0_3, .int .i64 a0_4, .int .i64 a0_5, .int .i64 a0_6, .int .i64 a0_7] 58)).alloc (.cells #[.int .i64 a0_0, .int .i64 a0_1, .int .i64 a0_2, .int .i64 a0_3, .int .i64 a0_4] 56)).cell? ⟨w.heap.size + 1, 1, none⟩ = some (.int .i64 a0_1) := by simp
  have ht2 : ((w.alloc (.cells #[.int .i64 a0_0, .int .i64 a0_1, .int .i64 a0_2, .int .i64 a0_3, .int .i64 a0_4, .int .i64 a0_5, .int .i64 a0_6, .int .i64 a0_7] 58)).alloc (.cells #[.int .i64 a0_0, .int .i64 a0_1, .int .i64 a0_2, .int .i64 a0_3, .int .i64 a0_4] 56)).cell? ⟨w.heap.size + 1, 2, none⟩ = some (.int .i64 a0_2) := by simp
  have ht3 : ((w.alloc (.cells #[.int .i64 a0_0, .int .i64 a0_1, .int .i64 a0_2, .int .i64 a0_3, .int .i64 a0_4, .int .i64 a0_5, .int .i64 a0_6, .int .i64 a0_7] 58)).alloc (.cells #[.int .i64 a0_0, .int .i64 a0_1, .int .i64 a0_2, .int .i64 a0_3, .int .i64 a0_4] 56)).cell? ⟨w.heap.size + 1, 3, none⟩ = some (.int .i64 a0_3) := by simp
  have ht4 : ((w.alloc (.cells #[.int .i64 a0_0, .int .i64 a0_1, .int .i64 a0_2, .int .i64 a0_3, .int .i64 a0_4, .int .i64 a0_5, .int .i64 a0_6, .int .i64 a0_7] 58)).alloc (.cells #[.int .i64 a0_0, .int .i64 a0_1, .int .i64 a0_2, .int .i64 a0_3, .int .i64 a0_4] 56)).cell? ⟨w.heap.size + 1, 4, none⟩ = some (.int .i64 a0_4) := by simp
  have HF0 := Aside0.mk hf0
  have HF1 := Aside0.mk hf1
  have HF2 := Aside0.mk hf2
  have HF3 := Aside0.mk hf3
  have HF4 := Aside0.mk hf4
  have HF5 := Aside0.mk hf5
  have HF6 := Aside0.mk hf6
  have HF7 := Aside0.mk hf7
  have HT0 := Aside0.mk ht0
  have HT1 := Aside0.mk ht1
  have HT2 := Aside0.mk ht2
  have HT3 := Aside0.mk ht3
  have HT4 := Aside0.mk ht4
  clear hbw hf0 hf1 hf2 hf3 hf4 hf5 hf6 hf7 ht0 ht1 ht2 ht3 ht4
  have eg : ∀ args w, (callFunc 72 args).run Try.prog w = .ok (.enter 72 args) w := enters_of Try.func72 (by kernel_rfl) rfl
  have HCT : ∀ W : World, Kd.C k69 W A1 l1.length l1 → W.cell? ⟨w.heap.size + 1, 0, none⟩ = some (.int .i64 a0_0) → Calls Try.prog 71 #[.slice A1 l1.length c1, .func (.func 72) #[] #[.pointer (some ⟨w.heap.size + 1, 0, none⟩)]] W fun e w' => e = .returned (.bool (decide (0 ≤ EvLib.idxB (impl_FateOf.p a0_0) l1 0))) ∧ Below W.heap.size W w' :=
    fun W hC hc => impl_FateOf_cont.calls (impl_FateOf.p a0_0) 72 #[.pointer (some ⟨w.heap.size + 1, 0, none⟩)] eg A1 c1 l1 W hC (fun x V hb => impl_FateOf_1.calls x a0_0 (w.heap.size + 1) V (pw_cell_below hb hc))
  clear eg
  generalize EvLib.idxB (impl_FateOf.p a0_0) l1 0 = q at HCT h
  have HCT := Aside0.mk HCT
  by_cases c0 : fp = 0
  · subst c0
    rw [if_pos rfl] at h
    obtain ⟨due, A2_, h⟩ := Option.bind_eq_some_iff.mp h
    have A2_ := Aside0.mk A2_
    cases due with
    | false =>
      rw [if_neg (by simp)] at h
      obtain rfl := Option.some.inj h
      clear h HCT
      go_enter Try.func56, Try.ntmps56
      go_wp2_with (first | (go_at_call 69; refine (impl_FirstProved.calls k A1 c1 l1 a0_0 0 _ HR.out HC1.out A1_.out).mono ?_; rintro e w1 ⟨rfl, hb⟩; have hf0 := pw_cell_below hb HF0.out; have hf1 := pw_cell_below hb HF1.out; have hf2 := pw_cell_below hb HF2.out; have hf3 := pw_cell_below hb HF3.out; have hf4 := pw_cell_below hb HF4.out; have hf5 := pw_cell_below hb HF5.out; have hf6 := pw_cell_below hb HF6.out; have hf7 := pw_cell_below hb HF7.out; have ht0 := pw_cell_below hb HT0.out; have ht1 := pw_cell_below hb HT1.out; have ht2 := pw_cell_below hb HT2.out; have ht3 := pw_cell_below hb HT3.out; have ht4 := pw_cell_below hb HT4.out; have n_ := Aside0.mk (below_step HB.out hb); have m_ := Aside0.mk (Kd.C_below HR.out hb); clear HB HR; have HB := n_; have HR := m_; clear n_ m_; clear hb) | (go_at_call 70; refine (impl_IsDue.calls k a0_0 a0_1 a0_2 a0_3 a0_4 a0_5 a0_6 a0_7 a2 false _ A2_.out).mono ?_; rintro e w2 ⟨rfl, hb⟩; replace hf0 := pw_cell_below hb hf0; replace hf1 := pw_cell_below hb hf1; replace hf2 := pw_cell_below hb hf2; replace hf3 := pw_cell_below hb hf3; replace hf4 := pw_cell_below hb hf4; replace hf5 := pw_cell_below hb hf5; replace hf6 := pw_cell_below hb hf6; replace hf7 := pw_cell_below hb hf7; replace ht0 := pw_cell_below hb ht0; replace ht1 := pw_cell_below hb ht1; replace ht2 := pw_cell_below hb ht2; replace ht3 := pw_cell_below hb ht3; replace ht4 := pw_cell_below hb ht4; have n_ := Aside0.mk (below_step HB.out hb); have m_ := Aside0.mk (Kd.C_below HR.out hb); clear HB HR; have HB := n_; have HR := m_; clear n_ m_; clear hb))
      go_ret
      exact ⟨rfl, HB.out⟩
    | true =>
      rw [if_pos rfl] at h
      by_cases hq : 0 ≤ q
      · rw [if_pos hq] at h
        obtain rfl := Option.some.inj h
        clear h
        have hqb : decide (0 ≤ q) = true := decide_eq_true hq
        replace hq := eq_true hq
        go_enter Try.func56, Try.ntmps56
        go_wp2_with (first | (go_at_call 69; refine (impl_FirstProved.calls k A1 c1 l1 a0_0 0 _ HR.out HC1.out A1_.out).mono ?_; rintro e w1 ⟨rfl, hb⟩; have hf0 := pw_cell_below hb HF0.out; have hf1 := pw_cell_below hb HF1.out; have hf2 := pw_cell_below hb HF2.out; have hf3 := pw_cell_below hb HF3.out; have hf4 := pw_cell_below hb HF4.out; have hf5 := pw_cell_below hb HF5.out; have hf6 := pw_cell_below hb HF6.out; have hf7 := pw_cell_below hb HF7.out; have ht0 := pw_cell_below hb HT0.out; have ht1 := pw_cell_below hb HT1.out; have ht2 := pw_cell_below hb HT2.out; have ht3 := pw_cell_below hb HT3.out; have ht4 := pw_cell_below hb HT4.out; have n_ := Aside0.mk (below_step HB.out hb); have m_ := Aside0.mk (Kd.C_below HR.out hb); clear HB HR; have HB := n_; have HR := m_; clear n_ m_; clear hb) | (go_at_call 70; refine (impl_IsDue.calls k a0_0 a0_1 a0_2 a0_3 a0_4 a0_5 a0_6 a0_7 a2 true _ A2_.out).mono ?_; rintro e w2 ⟨rfl, hb⟩; replace hf0 := pw_cell_below hb hf0; replace hf1 := pw_cell_below hb hf1; replace hf2 := pw_cell_below hb hf2; replace hf3 := pw_cell_below hb hf3; replace hf4 := pw_cell_below hb hf4; replace hf5 := pw_cell_below hb hf5; replace hf6 := pw_cell_below hb hf6; replace hf7 := pw_cell_below hb hf7; replace ht0 := pw_cell_below hb ht0; replace ht1 := pw_cell_below hb ht1; replace ht2 := pw_cell_below hb ht2; replace ht3 := pw_cell_below hb ht3; replace ht4 := pw_cell_below hb ht4; have n_ := Aside0.mk (below_step HB.out hb); have m_ := Aside0.mk (Kd.C_below HR.out hb); clear HB HR; have HB := n_; have HR := m_; clear n_ m_; clear hb) | (go_at_call 71; refine (HCT.out _ HR.out ht0).mono ?_; rintro e w3 ⟨rfl, hb⟩; replace hf0 := pw_cell_below hb hf0; replace hf1 := pw_cell_below hb hf1; replace hf2 := pw_cell_below hb hf2; replace hf3 := pw_cell_below hb hf3; replace hf4 := pw_cell_below hb hf4; replace hf5 := pw_cell_below hb hf5; replace hf6 := pw_cell_below hb hf6; replace hf7 := pw_cell_below hb hf7; replace ht0 := pw_cell_below hb ht0; replace ht1 := pw_cell_below hb ht1; replace ht2 := pw_cell_below hb ht2; replace ht3 := pw_cell_below hb ht3; replace ht4 := pw_cell_below hb ht4; have n_ := Aside0.mk (below_step HB.out hb); have m_ := Aside0.mk (Kd.C_below HR.out hb); clear HB HR; have HB := n_; have HR := m_; clear n_ m_; clear hb))
        go_ret
        exact ⟨rfl, HB.out⟩
      · rw [if_neg hq] at h
        have hqb : decide (0 ≤ q) = false := decide_eq_false hq
        replace hq := eq_false hq
        by_cases k7 : a0_1 = 7
        · skip
          have k7a : (a0_1 == 7) = true := beq_iff_eq.2 k7
          have k7b : (a0_1 != 7) = false := by simp [k7]
          have k7c : decide (a0_1 = 7) = true := decide_eq_true k7
          have ht_ : impl_FateOf.tail a0_1 a0_4 a0_7 = 5 := by unfold impl_FateOf.tail; rw [if_pos k7]
          rw [ht_] at h
          obtain rfl := Option.some.inj h
          clear h ht_
          replace k7 := eq_true k7
          go_enter Try.func56, Try.ntmps56
          go_wp2_with (first | (go_at_call 69; refine (impl_FirstProved.calls k A1 c1 l1 a0_0 0 _ HR.out HC1.out A1_.out).mono ?_; rintro e w1 ⟨rfl, hb⟩; have hf0 := pw_cell_below hb HF0.out; have hf1 := pw_cell_below hb HF1.out; have hf2 := pw_cell_below hb HF2.out; have hf3 := pw_cell_below hb HF3.out; have hf4 := pw_cell_below hb HF4.out; have hf5 := pw_cell_below hb HF5.out; have hf6 := pw_cell_below hb HF6.out; have hf7 := pw_cell_below hb HF7.out; have ht0 := pw_cell_below hb HT0.out; have ht1 := pw_cell_below hb HT1.out; have ht2 := pw_cell_below hb HT2.out; have ht3 := pw_cell_below hb HT3.out; have ht4 := pw_cell_below hb HT4.out; have n_ := Aside0.mk (below_step HB.out hb); have m_ := Aside0.mk (Kd.C_below HR.out hb); clear HB HR; have HB := n_; have HR := m_; clear n_ m_; clear hb) | (go_at_call 70; refine (impl_IsDue.calls k a0_0 a0_1 a0_2 a0_3 a0_4 a0_5 a0_6 a0_7 a2 true _ A2_.out).mono ?_; rintro e w2 ⟨rfl, hb⟩; replace hf0 := pw_cell_below hb hf0; replace hf1 := pw_cell_below hb hf1; replace hf2 := pw_cell_below hb hf2; replace hf3 := pw_cell_below hb hf3; replace hf4 := pw_cell_below hb hf4; replace hf5 := pw_cell_below hb hf5; replace hf6 := pw_cell_below hb hf6; replace hf7 := pw_cell_below hb hf7; replace ht0 := pw_cell_below hb ht0; replace ht1 := pw_cell_below hb ht1; replace ht2 := pw_cell_below hb ht2; replace ht3 := pw_cell_below hb ht3; replace ht4 := pw_cell_below hb ht4; have n_ := Aside0.mk (below_step HB.out hb); have m_ := Aside0.mk (Kd.C_below HR.out hb); clear HB HR; have HB := n_; have HR := m_; clear n_ m_; clear hb) | (go_at_call 71; refine (HCT.out _ HR.out ht0).mono ?_; rintro e w3 ⟨rfl, hb⟩; replace hf0 := pw_cell_below hb hf0; replace hf1 := pw_cell_below hb hf1; replace hf2 := pw_cell_below hb hf2; replace hf3 := pw_cell_below hb hf3; replace hf4 := pw_cell_below hb hf4; replace hf5 := pw_cell_below hb hf5; replace hf6 := pw_cell_below hb hf6; replace hf7 := pw_cell_below hb hf7; replace ht0 := pw_cell_below hb ht0; replace ht1 := pw_cell_below hb ht1; replace ht2 := pw_cell_below hb ht2; replace ht3 := pw_cell_below hb ht3; replace ht4 := pw_cell_below hb ht4; have n_ := Aside0.mk (below_step HB.out hb); have m_ := Aside0.mk (Kd.C_below HR.out hb); clear HB HR; have HB := n_; have HR := m_; clear n_ m_; clear hb))
          go_ret
          exact ⟨rfl, HB.out⟩
        · skip
          have k7a : (a0_1 == 7) = false := beq_eq_false_iff_ne.2 k7
          have k7b : (a0_1 != 7) = true := by simp [k7]
          have k7c : decide (a0_1 = 7) = false := decide_eq_false k7
          by_cases z0 : a0_4 = 0
          · skip
            have z0a : (a0_4 == 0) = true := beq_iff_eq.2 z0
            have z0b : (a0_4 != 0) = false := by simp [z0]
            have z0c : decide (a0_4 = 0) = true := decide_eq_true z0
            have ht_ : impl_FateOf.tail a0_1 a0_4 a0_7 = 5 := by unfold impl_FateOf.tail; rw [if_neg k7, if_pos z0]
            rw [ht_] at h
            obtain rfl := Option.some.inj h
            clear h ht_
            replace k7 := eq_false k7
            replace z0 := eq_true z0
            go_enter Try.func56, Try.ntmps56
            go_wp2_with (first | (go_at_call 69; refine (impl_FirstProved.calls k A1 c1 l1 a0_0 0 _ HR.out HC1.out A1_.out).mono ?_; rintro e w1 ⟨rfl, hb⟩; have hf0 := pw_cell_below hb HF0.out; have hf1 := pw_cell_below hb HF1.out; have hf2 := pw_cell_below hb HF2.out; have hf3 := pw_cell_below hb HF3.out; have hf4 := pw_cell_below hb HF4.out; have hf5 := pw_cell_below hb HF5.out; have hf6 := pw_cell_below hb HF6.out; have hf7 := pw_cell_below hb HF7.out; have ht0 := pw_cell_below hb HT0.out; have ht1 := pw_cell_below hb HT1.out; have ht2 := pw_cell_below hb HT2.out; have ht3 := pw_cell_below hb HT3.out; have ht4 := pw_cell_below hb HT4.out; have n_ := Aside0.mk (below_step HB.out hb); have m_ := Aside0.mk (Kd.C_below HR.out hb); clear HB HR; have HB := n_; have HR := m_; clear n_ m_; clear hb) | (go_at_call 70; refine (impl_IsDue.calls k a0_0 a0_1 a0_2 a0_3 a0_4 a0_5 a0_6 a0_7 a2 true _ A2_.out).mono ?_; rintro e w2 ⟨rfl, hb⟩; replace hf0 := pw_cell_below hb hf0; replace hf1 := pw_cell_below hb hf1; replace hf2 := pw_cell_below hb hf2; replace hf3 := pw_cell_below hb hf3; replace hf4 := pw_cell_below hb hf4; replace hf5 := pw_cell_below hb hf5; replace hf6 := pw_cell_below hb hf6; replace hf7 := pw_cell_below hb hf7; replace ht0 := pw_cell_below hb ht0; replace ht1 := pw_cell_below hb ht1; replace ht2 := pw_cell_below hb ht2; replace ht3 := pw_cell_below hb ht3; replace ht4 := pw_cell_below hb ht4; have n_ := Aside0.mk (below_step HB.out hb); have m_ := Aside0.mk (Kd.C_below HR.out hb); clear HB HR; have HB := n_; have HR := m_; clear n_ m_; clear hb) | (go_at_call 71; refine (HCT.out _ HR.out ht0).mono ?_; rintro e w3 ⟨rfl, hb⟩; replace hf0 := pw_cell_below hb hf0; replace hf1 := pw_cell_below hb hf1; replace hf2 := pw_cell_below hb hf2; replace hf3 := pw_cell_below hb hf3; replace hf4 := pw_cell_below hb hf4; replace hf5 := pw_cell_below hb hf5; replace hf6 := pw_cell_below hb hf6; replace hf7 := pw_cell_below hb hf7; replace ht0 := pw_cell_below hb ht0; replace ht1 := pw_cell_below hb ht1; replace ht2 := pw_cell_below hb ht2; replace ht3 := pw_cell_below hb ht3; replace ht4 := pw_cell_below hb ht4; have n_ := Aside0.mk (below_step HB.out hb); have m_ := Aside0.mk (Kd.C_below HR.out hb); clear HB HR; have HB := n_; have HR := m_; clear n_ m_; clear hb))
            go_ret
            exact ⟨rfl, HB.out⟩
          · skip
            have z0a : (a0_4 == 0) = false := beq_eq_false_iff_ne.2 z0
            have z0b : (a0_4 != 0) = true := by simp [z0]
            have z0c : decide (a0_4 = 0) = false := decide_eq_false z0
            by_cases w5 : 5000 < a0_4
            · skip
              have w5a : decide (5000 < a0_4) = true := decide_eq_true w5
              have w5b : decide (a0_4 ≤ 5000) = false := decide_eq_false (by omega)
              have w5c : (a0_4 ≤ 5000) = False := eq_false (by omega)
              by_cases n0 : a0_7 = 0
              · skip
                have n0a : (a0_7 == 0) = true := beq_iff_eq.2 n0
                have n0b : (a0_7 != 0) = false := by simp [n0]
                have n0c : decide (a0_7 = 0) = true := decide_eq_true n0
                have ht_ : impl_FateOf.tail a0_1 a0_4 a0_7 = 3 := by unfold impl_FateOf.tail; rw [if_neg k7, if_neg z0, if_pos n0, if_pos w5]
                rw [ht_] at h
                obtain rfl := Option.some.inj h
                clear h ht_
                replace k7 := eq_false k7
                replace z0 := eq_false z0
                replace w5 := eq_true w5
                replace n0 := eq_true n0
                go_enter Try.func56, Try.ntmps56
                go_wp2_with (first | (go_at_call 69; refine (impl_FirstProved.calls k A1 c1 l1 a0_0 0 _ HR.out HC1.out A1_.out).mono ?_; rintro e w1 ⟨rfl, hb⟩; have hf0 := pw_cell_below hb HF0.out; have hf1 := pw_cell_below hb HF1.out; have hf2 := pw_cell_below hb HF2.out; have hf3 := pw_cell_below hb HF3.out; have hf4 := pw_cell_below hb HF4.out; have hf5 := pw_cell_below hb HF5.out; have hf6 := pw_cell_below hb HF6.out; have hf7 := pw_cell_below hb HF7.out; have ht0 := pw_cell_below hb HT0.out; have ht1 := pw_cell_below hb HT1.out; have ht2 := pw_cell_below hb HT2.out; have ht3 := pw_cell_below hb HT3.out; have ht4 := pw_cell_below hb HT4.out; have n_ := Aside0.mk (below_step HB.out hb); have m_ := Aside0.mk (Kd.C_below HR.out hb); clear HB HR; have HB := n_; have HR := m_; clear n_ m_; clear hb) | (go_at_call 70; refine (impl_IsDue.calls k a0_0 a0_1 a0_2 a0_3 a0_4 a0_5 a0_6 a0_7 a2 true _ A2_.out).mono ?_; rintro e w2 ⟨rfl, hb⟩; replace hf0 := pw_cell_below hb hf0; replace hf1 := pw_cell_below hb hf1; replace hf2 := pw_cell_below hb hf2; replace hf3 := pw_cell_below hb hf3; replace hf4 := pw_cell_below hb hf4; replace hf5 := pw_cell_below hb hf5; replace hf6 := pw_cell_below hb hf6; replace hf7 := pw_cell_below hb hf7; replace ht0 := pw_cell_below hb ht0; replace ht1 := pw_cell_below hb ht1; replace ht2 := pw_cell_below hb ht2; replace ht3 := pw_cell_below hb ht3; replace ht4 := pw_cell_below hb ht4; have n_ := Aside0.mk (below_step HB.out hb); have m_ := Aside0.mk (Kd.C_below HR.out hb); clear HB HR; have HB := n_; have HR := m_; clear n_ m_; clear hb) | (go_at_call 71; refine (HCT.out _ HR.out ht0).mono ?_; rintro e w3 ⟨rfl, hb⟩; replace hf0 := pw_cell_below hb hf0; replace hf1 := pw_cell_below hb hf1; replace hf2 := pw_cell_below hb hf2; replace hf3 := pw_cell_below hb hf3; replace hf4 := pw_cell_below hb hf4; replace hf5 := pw_cell_below hb hf5; replace hf6 := pw_cell_below hb hf6; replace hf7 := pw_cell_below hb hf7; replace ht0 := pw_cell_below hb ht0; replace ht1 := pw_cell_below hb ht1; replace ht2 := pw_cell_below hb ht2; replace ht3 := pw_cell_below hb ht3; replace ht4 := pw_cell_below hb ht4; have n_ := Aside0.mk (below_step HB.out hb); have m_ := Aside0.mk (Kd.C_below HR.out hb); clear HB HR; have HB := n_; have HR := m_; clear n_ m_; clear hb))
                go_ret
                exact ⟨rfl, HB.out⟩
              · skip
                have n0a : (a0_7 == 0) = false := beq_eq_false_iff_ne.2 n0
                have n0b : (a0_7 != 0) = true := by simp [n0]
                have n0c : decide (a0_7 = 0) = false := decide_eq_false n0
                have ht_ : impl_FateOf.tail a0_1 a0_4 a0_7 = 3 := by unfold impl_FateOf.tail; rw [if_neg k7, if_neg z0, if_neg n0, if_neg (by omega)]
                rw [ht_] at h
                obtain rfl := Option.some.inj h
                clear h ht_
                replace k7 := eq_false k7
                replace z0 := eq_false z0
                replace w5 := eq_true w5
                replace n0 := eq_false n0
                go_enter Try.func56, Try.ntmps56
                go_wp2_with (first | (go_at_call 69; refine (impl_FirstProved.calls k A1 c1 l1 a0_0 0 _ HR.out HC1.out A1_.out).mono ?_; rintro e w1 ⟨rfl, hb⟩; have hf0 := pw_cell_below hb HF0.out; have hf1 := pw_cell_below hb HF1.out; have hf2 := pw_cell_below hb HF2.out; have hf3 := pw_cell_below hb HF3.out; have hf4 := pw_cell_below hb HF4.out; have hf5 := pw_cell_below hb HF5.out; have hf6 := pw_cell_below hb HF6.out; have hf7 := pw_cell_below hb HF7.out; have ht0 := pw_cell_below hb HT0.out; have ht1 := pw_cell_below hb HT1.out; have ht2 := pw_cell_below hb HT2.out; have ht3 := pw_cell_below hb HT3.out; have ht4 := pw_cell_below hb HT4.out; have n_ := Aside0.mk (below_step HB.out hb); have m_ := Aside0.mk (Kd.C_below HR.out hb); clear HB HR; have HB := n_; have HR := m_; clear n_ m_; clear hb) | (go_at_call 70; refine (impl_IsDue.calls k a0_0 a0_1 a0_2 a0_3 a0_4 a0_5 a0_6 a0_7 a2 true _ A2_.out).mono ?_; rintro e w2 ⟨rfl, hb⟩; replace hf0 := pw_cell_below hb hf0; replace hf1 := pw_cell_below hb hf1; replace hf2 := pw_cell_below hb hf2; replace hf3 := pw_cell_below hb hf3; replace hf4 := pw_cell_below hb hf4; replace hf5 := pw_cell_below hb hf5; replace hf6 := pw_cell_below hb hf6; replace hf7 := pw_cell_below hb hf7; replace ht0 := pw_cell_below hb ht0; replace ht1 := pw_cell_below hb ht1; replace ht2 := pw_cell_below hb ht2; replace ht3 := pw_cell_below hb ht3; replace ht4 := pw_cell_below hb ht4; have n_ := Aside0.mk (below_step HB.out hb); have m_ := Aside0.mk (Kd.C_below HR.out hb); clear HB HR; have HB := n_; have HR := m_; clear n_ m_; clear hb) | (go_at_call 71; refine (HCT.out _ HR.out ht0).mono ?_; rintro e w3 ⟨rfl, hb⟩; replace hf0 := pw_cell_below hb hf0; replace hf1 := pw_cell_below hb hf1; replace hf2 := pw_cell_below hb hf2; replace hf3 := pw_cell_below hb hf3; replace hf4 := pw_cell_below hb hf4; replace hf5 := pw_cell_below hb hf5; replace hf6 := pw_cell_below hb hf6; replace hf7 := pw_cell_below hb hf7; replace ht0 := pw_cell_below hb ht0; replace ht1 := pw_cell_below hb ht1; replace ht2 := pw_cell_below hb ht2; replace ht3 := pw_cell_below hb ht3; replace ht4 := pw_cell_below hb ht4; have n_ := Aside0.mk (below_step HB.out hb); have m_ := Aside0.mk (Kd.C_below HR.out hb); clear HB HR; have HB := n_; have HR := m_; clear n_ m_; clear hb))
                go_ret
                exact ⟨rfl, HB.out⟩
            · skip
              have w5a : decide (5000 < a0_4) = false := decide_eq_false w5
              have w5b : decide (a0_4 ≤ 5000) = true := decide_eq_true (by omega)
              have w5c : (a0_4 ≤ 5000) = True := eq_true (by omega)
              by_cases n0 : a0_7 = 0
              · skip
                have n0a : (a0_7 == 0) = true := beq_iff_eq.2 n0
                have n0b : (a0_7 != 0) = false := by simp [n0]
                have n0c : decide (a0_7 = 0) = true := decide_eq_true n0
                have ht_ : impl_FateOf.tail a0_1 a0_4 a0_7 = 4 := by unfold impl_FateOf.tail; rw [if_neg k7, if_neg z0, if_pos n0, if_neg w5]
                rw [ht_] at h
                obtain rfl := Option.some.inj h
                clear h ht_
                replace k7 := eq_false k7
                replace z0 := eq_false z0
                replace w5 := eq_false w5
                replace n0 := eq_true n0
                go_enter Try.func56, Try.ntmps56
                go_wp2_with (first | (go_at_call 69; refine (impl_FirstProved.calls k A1 c1 l1 a0_0 0 _ HR.out HC1.out A1_.out).mono ?_; rintro e w1 ⟨rfl, hb⟩; have hf0 := pw_cell_below hb HF0.out; have hf1 := pw_cell_below hb HF1.out; have hf2 := pw_cell_below hb HF2.out; have hf3 := pw_cell_below hb HF3.out; have hf4 := pw_cell_below hb HF4.out; have hf5 := pw_cell_below hb HF5.out; have hf6 := pw_cell_below hb HF6.out; have hf7 := pw_cell_below hb HF7.out; have ht0 := pw_cell_below hb HT0.out; have ht1 := pw_cell_below hb HT1.out; have ht2 := pw_cell_below hb HT2.out; have ht3 := pw_cell_below hb HT3.out; have ht4 := pw_cell_below hb HT4.out; have n_ := Aside0.mk (below_step HB.out hb); have m_ := Aside0.mk (Kd.C_below HR.out hb); clear HB HR; have HB := n_; have HR := m_; clear n_ m_; clear hb) | (go_at_call 70; refine (impl_IsDue.calls k a0_0 a0_1 a0_2 a0_3 a0_4 a0_5 a0_6 a0_7 a2 true _ A2_.out).mono ?_; rintro e w2 ⟨rfl, hb⟩; replace hf0 := pw_cell_below hb hf0; replace hf1 := pw_cell_below hb hf1; replace hf2 := pw_cell_below hb hf2; replace hf3 := pw_cell_below hb hf3; replace hf4 := pw_cell_below hb hf4; replace hf5 := pw_cell_below hb hf5; replace hf6 := pw_cell_below hb hf6; replace hf7 := pw_cell_below hb hf7; replace ht0 := pw_cell_below hb ht0; replace ht1 := pw_cell_below hb ht1; replace ht2 := pw_cell_below hb ht2; replace ht3 := pw_cell_below hb ht3; replace ht4 := pw_cell_below hb ht4; have n_ := Aside0.mk (below_step HB.out hb); have m_ := Aside0.mk (Kd.C_below HR.out hb); clear HB HR; have HB := n_; have HR := m_; clear n_ m_; clear hb) | (go_at_call 71; refine (HCT.out _ HR.out ht0).mono ?_; rintro e w3 ⟨rfl, hb⟩; replace hf0 := pw_cell_below hb hf0; replace hf1 := pw_cell_below hb hf1; replace hf2 := pw_cell_below hb hf2; replace hf3 := pw_cell_below hb hf3; replace hf4 := pw_cell_below hb hf4; replace hf5 := pw_cell_below hb hf5; replace hf6 := pw_cell_below hb hf6; replace hf7 := pw_cell_below hb hf7; replace ht0 := pw_cell_below hb ht0; replace ht1 := pw_cell_below hb ht1; replace ht2 := pw_cell_below hb ht2; replace ht3 := pw_cell_below hb ht3; replace ht4 := pw_cell_below hb ht4; have n_ := Aside0.mk (below_step HB.out hb); have m_ := Aside0.mk (Kd.C_below HR.out hb); clear HB HR; have HB := n_; have HR := m_; clear n_ m_; clear hb))
                go_ret
                exact ⟨rfl, HB.out⟩
              · skip
                have n0a : (a0_7 == 0) = false := beq_eq_false_iff_ne.2 n0
                have n0b : (a0_7 != 0) = true := by simp [n0]
                have n0c : decide (a0_7 = 0) = false := decide_eq_false n0
                have ht_ : impl_FateOf.tail a0_1 a0_4 a0_7 = 2 := by unfold impl_FateOf.tail; rw [if_neg k7, if_neg z0, if_neg n0, if_pos (by omega)]
                rw [ht_] at h
                obtain rfl := Option.some.inj h
                clear h ht_
                replace k7 := eq_false k7
                replace z0 := eq_false z0
                replace w5 := eq_false w5
                replace n0 := eq_false n0
                go_enter Try.func56, Try.ntmps56
                go_wp2_with (first | (go_at_call 69; refine (impl_FirstProved.calls k A1 c1 l1 a0_0 0 _ HR.out HC1.out A1_.out).mono ?_; rintro e w1 ⟨rfl, hb⟩; have hf0 := pw_cell_below hb HF0.out; have hf1 := pw_cell_below hb HF1.out; have hf2 := pw_cell_below hb HF2.out; have hf3 := pw_cell_below hb HF3.out; have hf4 := pw_cell_below hb HF4.out; have hf5 := pw_cell_below hb HF5.out; have hf6 := pw_cell_below hb HF6.out; have hf7 := pw_cell_below hb HF7.out; have ht0 := pw_cell_below hb HT0.out; have ht1 := pw_cell_below hb HT1.out; have ht2 := pw_cell_below hb HT2.out; have ht3 := pw_cell_below hb HT3.out; have ht4 := pw_cell_below hb HT4.out; have n_ := Aside0.mk (below_step HB.out hb); have m_ := Aside0.mk (Kd.C_below HR.out hb); clear HB HR; have HB := n_; have HR := m_; clear n_ m_; clear hb) | (go_at_call 70; refine (impl_IsDue.calls k a0_0 a0_1 a0_2 a0_3 a0_4 a0_5 a0_6 a0_7 a2 true _ A2_.out).mono ?_; rintro e w2 ⟨rfl, hb⟩; replace hf0 := pw_cell_below hb hf0; replace hf1 := pw_cell_below hb hf1; replace hf2 := pw_cell_below hb hf2; replace hf3 := pw_cell_below hb hf3; replace hf4 := pw_cell_below hb hf4; replace hf5 := pw_cell_below hb hf5; replace hf6 := pw_cell_below hb hf6; replace hf7 := pw_cell_below hb hf7; replace ht0 := pw_cell_below hb ht0; replace ht1 := pw_cell_below hb ht1; replace ht2 := pw_cell_below hb ht2; replace ht3 := pw_cell_below hb ht3; replace ht4 := pw_cell_below hb ht4; have n_ := Aside0.mk (below_step HB.out hb); have m_ := Aside0.mk (Kd.C_below HR.out hb); clear HB HR; have HB := n_; have HR := m_; clear n_ m_; clear hb) | (go_at_call 71; refine (HCT.out _ HR.out ht0).mono ?_; rintro e w3 ⟨rfl, hb⟩; replace hf0 := pw_cell_below hb hf0; replace hf1 := pw_cell_below hb hf1; replace hf2 := pw_cell_below hb hf2; replace hf3 := pw_cell_below hb hf3; replace hf4 := pw_cell_below hb hf4; replace hf5 := pw_cell_below hb hf5; replace hf6 := pw_cell_below hb hf6; replace hf7 := pw_cell_below hb hf7; replace ht0 := pw_cell_below hb ht0; replace ht1 := pw_cell_below hb ht1; replace ht2 := pw_cell_below hb ht2; replace ht3 := pw_cell_below hb ht3; replace ht4 := pw_cell_below hb ht4; have n_ := Aside0.mk (below_step HB.out hb); have m_ := Aside0.mk (Kd.C_below HR.out hb); clear HB HR; have HB := n_; have HR := m_; clear n_ m_; clear hb))
                go_ret
                exact ⟨rfl, HB.out⟩
  · rw [if_neg c0] at h
    obtain rfl := Option.some.inj h
    clear h HCT
    have c0a : (fp == 0) = false := beq_eq_false_iff_ne.2 c0
    have c0b : (fp != 0) = true := by simp [c0]
    have c0c : decide (fp = 0) = false := decide_eq_false c0
    replace c0 := eq_false c0
    go_enter Try.func56, Try.ntmps56
    go_wp2_with (first | (go_at_call 69; refine (impl_FirstProved.calls k A1 c1 l1 a0_0 fp _ HR.out HC1.out A1_.out).mono ?_; rintro e w1 ⟨rfl, hb⟩; have hf0 := pw_cell_below hb HF0.out; have hf1 := pw_cell_below hb HF1.out; have hf2 := pw_cell_below hb HF2.out; have hf3 := pw_cell_below hb HF3.out; have hf4 := pw_cell_below hb HF4.out; have hf5 := pw_cell_below hb HF5.out; have hf6 := pw_cell_below hb HF6.out; have hf7 := pw_cell_below hb HF7.out; have ht0 := pw_cell_below hb HT0.out; have ht1 := pw_cell_below hb HT1.out; have ht2 := pw_cell_below hb HT2.out; have ht3 := pw_cell_below hb HT3.out; have ht4 := pw_cell_below hb HT4.out; have n_ := Aside0.mk (below_step HB.out hb); have m_ := Aside0.mk (Kd.C_below HR.out hb); clear HB HR; have HB := n_; have HR := m_; clear n_ m_; clear hb))
    go_ret
    exact ⟨rfl, HB.out⟩


end Go.Proofs.Ytnlgilmbmoiniaa.PFnExactTasksFor
