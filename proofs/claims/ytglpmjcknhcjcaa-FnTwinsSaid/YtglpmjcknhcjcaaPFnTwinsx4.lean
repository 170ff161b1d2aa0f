-- Written for this claim by a program (a printer turned to this claim); Lean checks it.
import Derived.Test.YtglpmjcknhcjcaaPFnTwinsx0
import Derived.Test.YtglpmjcknhcjcaaPFnTwinsx1
import Derived.Test.YtglpmjcknhcjcaaPFnTwinsx3
namespace Go.Proofs.Ytglpmjcknhcjcaa.PFnTwins
open Go.RowKit Go.Proofs.YtglpmjcknhcjcaaW.PrintWords Go.Proofs.YtglpmjcknhcjcaaW.PrintLast Go.Proofs.YtglpmjcknhcjcaaW.PrintMore
attribute [local go_sem] max2_int min2_int max_two min_two max_three min_three max_four min_four   -- for this text's walks alone
set_option linter.unusedVariables false
set_option linter.unusedSimpArgs false

/-! ### impl_isAscending: function 93 -/
def impl_isAscending.l0 : Nat → List Int → Int → Int → List Int → Int → Int → Option (Bool)
  | 0, _, _, _, _, _, _ => none
  | k + 1, x0, x1, x2, x9, x10, x11 => if x11 < x10 then (if 0 ≤ x11 then (if x11 < (x9.length : Int) then ((impl_InRange.f (rd x9 x11) x1 x2).bind fun t120 => (if t120 = true then (if x11 > 0 then (if 0 ≤ (wrap64 (x11 - 1)) then (if (wrap64 (x11 - 1)) < (x0.length : Int) then (if (rd x9 x11) ≤ (rd x0 (wrap64 (x11 - 1))) then (some false) else (impl_isAscending.l0 k x0 x1 x2 x9 x10 (wrap64 (x11 + 1)))) else (none)) else (none)) else (impl_isAscending.l0 k x0 x1 x2 x9 x10 (wrap64 (x11 + 1)))) else (some false))) else (none)) else (none)) else (some true)
def impl_isAscending.f (k : Nat) (l0 : List Int) (a1 : Int) (a2 : Int) : Option (Bool) := impl_isAscending.l0 k l0 a1 a2 l0 (l0.length : Int) 0
theorem impl_isAscending.mono_l : ∀ k, (∀ y0 y1 y2 y3 y4 y5, LeO (impl_isAscending.l0 k y0 y1 y2 y3 y4 y5) (impl_isAscending.l0 (k + 1) y0 y1 y2 y3 y4 y5))
  | 0 => fun _ _ _ _ _ _ r h => by simp [impl_isAscending.l0] at h
  | k + 1 => by
    have ih0 := impl_isAscending.mono_l k
    · intro y0 y1 y2 y3 y4 y5
      unfold impl_isAscending.l0
      exact mo_
theorem impl_isAscending.mono : ∀ a0 a1 a2 k, LeO (impl_isAscending.f k a0 a1 a2) (impl_isAscending.f (k + 1) a0 a1 a2) := by
  intro a0 a1 a2 k
  have ih0 := impl_isAscending.mono_l k
  unfold impl_isAscending.f
  exact mo_
set_option maxHeartbeats 8000000 in
set_option maxRecDepth 100000 in
theorem impl_isAscending.calls (k : Nat) (A0 : Option Addr) (c0 : Nat) (l0 : List Int) (a1 : Int) (a2 : Int) (r : Bool) (w : World) (hr0 : Kd.C (Kd.int .i64) w A0 l0.length l0) (hc0 : l0.length ≤ c0) (h : impl_isAscending.f k l0 a1 a2 = some r) :
    Calls Try.prog 93 #[.slice A0 l0.length c0, .int .i64 a1, .int .i64 a2] w fun e w' => e = .returned (.bool r) ∧ Drawn0 w w' := by
  have HR0 := o_ hr0
  have HC0 := o_ hc0
  clear hr0 hc0
  have H : (impl_isAscending.l0 k l0 a1 a2 l0 (l0.length : Int) 0) = some r := h
  clear h
  have H' := o_ H
  clear H
  go_enter Try.func93, Try.ntmps93
  go_wp2
  go_loopg [11] k (fun kq v11 w' => ∃ (x11_1 : Int), v11 = .int .i64 x11_1 ∧ Aside0 (impl_isAscending.l0 kq l0 a1 a2 l0 (l0.length : Int) x11_1 = some r) ∧ Aside0 (kq ≤ k) ∧ Drawn0 w w')
  case atStart => exact ⟨(0), rs_, H', ⟨Nat.le_refl _⟩, y29_⟩
  case round =>
    clear H'
    try clear p2
    obtain ⟨x11_1, rfl, HA, HK1, ⟨m1, rfl⟩⟩ := hrel
    cases gk with
    | zero => exact absurd HA.1 (by simp [impl_isAscending.l0])
    | succ k1 =>
      have H := HA.1
      clear HA
      simp only [impl_isAscending.l0] at H
      by_cases c4 : x11_1 < (l0.length : Int)
      · rw [if_pos c4] at H
        have c4b0 := decide_eq_true c4
        clear c4
        by_cases c5 : 0 ≤ x11_1
        · rw [if_pos c5] at H
          have c5b0 := decide_eq_true c5
          clear c5
          by_cases c6 : x11_1 < (l0.length : Int)
          · rw [if_pos c6] at H
            have c6b0 := decide_eq_true c6
            clear c6
            obtain ⟨t120, A7, H⟩ := ob_ H
            try dsimp only at H
            by_cases c8 : t120 = true
            · subst c8
              have H1 := H
              rw [if_pos rfl] at H1
              clear H
              have H := H1
              clear H1
              by_cases c9 : x11_1 > 0
              · rw [if_pos c9] at H
                have c9b0 := decide_eq_true c9
                clear c9
                obtain ⟨ji10, hji10⟩ : ∃ j_ : Int, (wrap64 (x11_1 - 1)) = j_ := ⟨_, rfl⟩
                replace H : (if 0 ≤ (ji10) then (if (ji10) < (l0.length : Int) then (if (rd l0 x11_1) ≤ (rd l0 (ji10)) then (some false) else (impl_isAscending.l0 k1 l0 a1 a2 l0 (l0.length : Int) (wrap64 (x11_1 + 1)))) else (none)) else (none)) = some r := by first | (rw [hji10] at H; exact H) | (simp only [hji10] at H ⊢; exact H)
                (try rw [hji10] at A7)
                have hji10w : (IntKind.i64.wrap (x11_1 - 1)) = ji10 := (i64_w _).trans hji10
                by_cases c11 : 0 ≤ (ji10)
                · rw [if_pos c11] at H
                  have c11b0 := decide_eq_true c11
                  clear c11
                  by_cases c12 : (ji10) < (l0.length : Int)
                  · rw [if_pos c12] at H
                    have c12b0 := decide_eq_true c12
                    clear c12
                    by_cases c13 : (rd l0 x11_1) ≤ (rd l0 (ji10))
                    · rw [if_pos c13] at H
                      have c13b0 := decide_eq_true c13
                      clear c13
                      obtain rfl := Option.some.inj H
                      have p119 : 0 ≤ (x11_1 : Int) := of_decide_eq_true as_
                      have q119 : x11_1 < (l0.length : Int) := of_decide_eq_true as_
                      obtain ⟨ad119, e119, hx119_0⟩ := Kd.at_int HR0.1 x11_1 p119 q119
                      cases e119
                      replace p119 := eq_true p119
                      replace q119 := eq_true q119
                      go_wp2_with (first | ((with_reducible refine g_ 61 ?_); refine gl_ (some 19) Try.func61 #[.int .i64 (rd l0 x11_1), .int .i64 a1, .int .i64 a2] ?_; (with_reducible refine (impl_InRange.calls (rd l0 x11_1) a1 a2 true _ A7.1).mono ?_); rintro e w' ⟨rfl, ⟨nd, rfl⟩⟩; refine ⟨_, rfl, ?_⟩; have p121 : 0 ≤ ((ji10) : Int) := of_decide_eq_true as_; have q121 : (ji10) < (l0.length : Int) := of_decide_eq_true as_; obtain ⟨ad121, e121, hx121_0⟩ := Kd.at_int HR0.1 (ji10) p121 q121; obtain rfl : ad119 = ad121 := (by injection e121); replace p121 := eq_true p121; replace q121 := eq_true q121))
                      go_ret
                      exact ⟨by first | rfl | (simp; done) | (simp only [← hji10] <;> (first | rfl | simp)) | (simp [*]; done), y29_⟩
                    · rw [if_neg c13] at H
                      have c13b0 := decide_eq_false c13
                      clear c13
                      have H' := o_ H
                      clear H
                      have p119 : 0 ≤ (x11_1 : Int) := of_decide_eq_true as_
                      have q119 : x11_1 < (l0.length : Int) := of_decide_eq_true as_
                      obtain ⟨ad119, e119, hx119_0⟩ := Kd.at_int HR0.1 x11_1 p119 q119
                      cases e119
                      replace p119 := eq_true p119
                      replace q119 := eq_true q119
                      go_wp2_with (first | ((with_reducible refine g_ 61 ?_); refine gl_ (some 19) Try.func61 #[.int .i64 (rd l0 x11_1), .int .i64 a1, .int .i64 a2] ?_; (with_reducible refine (impl_InRange.calls (rd l0 x11_1) a1 a2 true _ A7.1).mono ?_); rintro e w' ⟨rfl, ⟨nd, rfl⟩⟩; refine ⟨_, rfl, ?_⟩; have p121 : 0 ≤ ((ji10) : Int) := of_decide_eq_true as_; have q121 : (ji10) < (l0.length : Int) := of_decide_eq_true as_; obtain ⟨ad121, e121, hx121_0⟩ := Kd.at_int HR0.1 (ji10) p121 q121; obtain rfl : ad119 = ad121 := (by injection e121); replace p121 := eq_true p121; replace q121 := eq_true q121))
                      go_roundg k1
                      case measure => have := HK1.1; omega
                      case rel => exact ⟨(wrap64 (x11_1 + 1)), rs_, H', ⟨by have := HK1.1; omega⟩, y29_⟩
                  · rw [if_neg c12] at H
                    exact absurd H (by simp)
                · rw [if_neg c11] at H
                  exact absurd H (by simp)
              · rw [if_neg c9] at H
                have c9b0 := decide_eq_false c9
                clear c9
                have H' := o_ H
                clear H
                have p119 : 0 ≤ (x11_1 : Int) := of_decide_eq_true as_
                have q119 : x11_1 < (l0.length : Int) := of_decide_eq_true as_
                obtain ⟨ad119, e119, hx119_0⟩ := Kd.at_int HR0.1 x11_1 p119 q119
                cases e119
                replace p119 := eq_true p119
                replace q119 := eq_true q119
                go_wp2_with (first | ((with_reducible refine g_ 61 ?_); refine gl_ (some 19) Try.func61 #[.int .i64 (rd l0 x11_1), .int .i64 a1, .int .i64 a2] ?_; (with_reducible refine (impl_InRange.calls (rd l0 x11_1) a1 a2 true _ A7.1).mono ?_); rintro e w' ⟨rfl, ⟨nd, rfl⟩⟩; refine ⟨_, rfl, ?_⟩))
                go_roundg k1
                case measure => have := HK1.1; omega
                case rel => exact ⟨(wrap64 (x11_1 + 1)), rs_, H', ⟨by have := HK1.1; omega⟩, y29_⟩
            · replace c8 := Bool.eq_false_iff.mpr c8
              subst c8
              have H1 := H
              rw [if_neg nt_] at H1
              clear H
              have H := H1
              clear H1
              obtain rfl := Option.some.inj H
              have p119 : 0 ≤ (x11_1 : Int) := of_decide_eq_true as_
              have q119 : x11_1 < (l0.length : Int) := of_decide_eq_true as_
              obtain ⟨ad119, e119, hx119_0⟩ := Kd.at_int HR0.1 x11_1 p119 q119
              cases e119
              replace p119 := eq_true p119
              replace q119 := eq_true q119
              go_wp2_with (first | ((with_reducible refine g_ 61 ?_); refine gl_ (some 19) Try.func61 #[.int .i64 (rd l0 x11_1), .int .i64 a1, .int .i64 a2] ?_; (with_reducible refine (impl_InRange.calls (rd l0 x11_1) a1 a2 false _ A7.1).mono ?_); rintro e w' ⟨rfl, ⟨nd, rfl⟩⟩; refine ⟨_, rfl, ?_⟩))
              go_ret
              exact ⟨rs_, y29_⟩
          · rw [if_neg c6] at H
            exact absurd H (by simp)
        · rw [if_neg c5] at H
          exact absurd H (by simp)
      · rw [if_neg c4] at H
        have c4b0 := decide_eq_false c4
        clear c4
        obtain rfl := Option.some.inj H
        go_wp2
        go_ret
        exact ⟨rs_, y29_⟩

/-! ### impl_IsReport: function 80 -/
def impl_IsReport.f (k : Nat) (a0_0 : Int) (a0_1 : Int) (l0_2 : List Int) (a0_3 : Int) (a0_4 : Int) (l0_5 : List Int) (a0_6 : Int) (a0_7 : Int) : Option (Bool) := (impl_InRange.f a0_0 1 999).bind fun t123 => (if t123 = true then ((impl_InRange.f a0_1 1 8).bind fun t124 => (if t124 = true then ((impl_isAscending.f k l0_2 0 7).bind fun t125 => (if t125 = true then (if 1 ≤ a0_3 then (if a0_3 ≤ a0_4 then (if a0_4 ≤ 50 then ((impl_isAscending.f k l0_5 1 30).bind fun t126 => (if t126 = true then (if (l0_5.length : Int) ≤ 10 then ((impl_IsSpan.f a0_6 a0_7).bind fun t127 => (some t127)) else (some false)) else (some false))) else (some false)) else (some false)) else (some false)) else (some false))) else (some false))) else (some false))
theorem impl_IsReport.mono : ∀ a0 a1 a2 a3 a4 a5 a6 a7 k, LeO (impl_IsReport.f k a0 a1 a2 a3 a4 a5 a6 a7) (impl_IsReport.f (k + 1) a0 a1 a2 a3 a4 a5 a6 a7) := by
  intro a0 a1 a2 a3 a4 a5 a6 a7 k
  unfold impl_IsReport.f
  have jh0 := @impl_isAscending.mono
  exact mo_
set_option maxHeartbeats 8000000 in
set_option maxRecDepth 100000 in
theorem impl_IsReport.calls (k : Nat) (a0_0 : Int) (a0_1 : Int) (A0_2 : Option Addr) (c0_2 : Nat) (l0_2 : List Int) (a0_3 : Int) (a0_4 : Int) (A0_5 : Option Addr) (c0_5 : Nat) (l0_5 : List Int) (a0_6 : Int) (a0_7 : Int) (r : Bool) (w : World) (hr0_2 : Kd.C (Kd.int .i64) w A0_2 l0_2.length l0_2) (hc0_2 : l0_2.length ≤ c0_2) (hr0_5 : Kd.C (Kd.int .i64) w A0_5 l0_5.length l0_5) (hc0_5 : l0_5.length ≤ c0_5) (h : impl_IsReport.f k a0_0 a0_1 l0_2 a0_3 a0_4 l0_5 a0_6 a0_7 = some r) :
    Calls Try.prog 80 #[.agg #[.int .i64 a0_0, .int .i64 a0_1, .slice A0_2 l0_2.length c0_2, .int .i64 a0_3, .int .i64 a0_4, .slice A0_5 l0_5.length c0_5, .int .i64 a0_6, .int .i64 a0_7]] w fun e w' => e = .returned (.bool r) ∧ Below w.heap.size w w' := by
  have hu41 := Try.underlying41
  have hu39 := Try.underlying39
  have HR0_2 := o_ hr0_2
  have HC0_2 := o_ hc0_2
  clear hr0_2 hc0_2
  have HR0_5 := o_ hr0_5
  have HC0_5 := o_ hc0_5
  clear hr0_5 hc0_5
  have HB := o_ (Below.refl w.heap.size w)
  have H := h
  unfold impl_IsReport.f at H
  clear h
  obtain ⟨t123, A2, H⟩ := ob_ H
  try dsimp only at H
  by_cases c3 : t123 = true
  · subst c3
    have H1 := H
    rw [if_pos rfl] at H1
    clear H
    have H := H1
    clear H1
    obtain ⟨t124, A4, H⟩ := ob_ H
    try dsimp only at H
    by_cases c5 : t124 = true
    · subst c5
      have H1 := H
      rw [if_pos rfl] at H1
      clear H
      have H := H1
      clear H1
      obtain ⟨t125, A6, H⟩ := ob_ H
      try dsimp only at H
      by_cases c7 : t125 = true
      · subst c7
        have H1 := H
        rw [if_pos rfl] at H1
        clear H
        have H := H1
        clear H1
        by_cases c8 : 1 ≤ a0_3
        · rw [if_pos c8] at H
          have c8b0 := decide_eq_true c8
          clear c8
          by_cases c9 : a0_3 ≤ a0_4
          · rw [if_pos c9] at H
            have c9b0 := decide_eq_true c9
            clear c9
            by_cases c10 : a0_4 ≤ 50
            · rw [if_pos c10] at H
              have c10b0 := decide_eq_true c10
              clear c10
              obtain ⟨t126, A11, H⟩ := ob_ H
              try dsimp only at H
              by_cases c12 : t126 = true
              · subst c12
                have H1 := H
                rw [if_pos rfl] at H1
                clear H
                have H := H1
                clear H1
                by_cases c13 : (l0_5.length : Int) ≤ 10
                · rw [if_pos c13] at H
                  have c13b0 := decide_eq_true c13
                  have c13b1 : decide (l0_5.length ≤ 10) = true := decide_eq_true (by omega)
                  clear c13
                  obtain ⟨t127, A14, H⟩ := ob_ H
                  try dsimp only at H
                  obtain rfl := Option.some.inj H
                  go_enter Try.func80, Try.ntmps80
                  go_wp2_with (first | ((with_reducible refine gate_dst (N := 1) rfl ?_); (try (refine gate_guard (by rfl) ?_; dsimp only)); refine box_event ?hg (N := 1) ?hd (cs := #[.int .i64 a0_0, .int .i64 a0_1, .slice A0_2 l0_2.length c0_2, .int .i64 a0_3, .int .i64 a0_4, .slice A0_5 l0_5.length c0_5, .int .i64 a0_6, .int .i64 a0_7]) (t := 41) ?hr ?_; (case hd => rfl); (case hg => rfl); (case hr => first | (go_simp; done) | (go_simp; rfl)); intro gb122 hg w15 hbox hb; have BK122 := o_ (hbox); have GW122 := o_ ((y6_ : w.heap.size ≤ gb122)); replace HB := o_ (below_step (hd_ HB.1) hb); have GE122 := GW122; clear hb hbox hg; obtain ⟨_, _, _, _, _, _, _, _⟩ := e6_ BK122.1; obtain ⟨_, _, _, _, _, _, _, _⟩ := z5_ BK122.1) | ((with_reducible refine g_ 61 ?_); refine gl_ (some 5) Try.func61 #[.int .i64 a0_0, .int .i64 1, .int .i64 999] ?_; (with_reducible refine (impl_InRange.calls a0_0 1 999 true _ A2.1).mono ?_); rintro e w' ⟨rfl, ⟨nd, rfl⟩⟩; refine ⟨_, rfl, ?_⟩) | (go_at_call 61; (with_reducible refine (impl_InRange.calls a0_1 1 8 true _ A4.1).mono ?_); rintro e w' ⟨rfl, ⟨nd, rfl⟩⟩) | (go_at_call 93; (with_reducible refine (impl_isAscending.calls k _ _ l0_2 0 7 true _ ?side1 HC0_2.1 A6.1).mono ?_); (case side1 => repeat (first | exact (Kd.C_below HR0_2.1 wb_) | (with_reducible refine Kd.C_alloc ?_ _) | (with_reducible refine Kd.C_drewN ?_ _) | (with_reducible refine Kd.C_drew ?_))); rintro e w' ⟨rfl, ⟨nd, rfl⟩⟩) | (go_at_call 93; (with_reducible refine (impl_isAscending.calls k _ _ l0_5 1 30 true _ ?side1 HC0_5.1 A11.1).mono ?_); (case side1 => repeat (first | exact (Kd.C_below HR0_5.1 wb_) | (with_reducible refine Kd.C_alloc ?_ _) | (with_reducible refine Kd.C_drewN ?_ _) | (with_reducible refine Kd.C_drew ?_))); rintro e w' ⟨rfl, ⟨nd, rfl⟩⟩) | (go_at_call 82; (with_reducible refine (impl_IsSpan.calls a0_6 a0_7 t127 _ A14.1).mono ?_); rintro e w17 ⟨rfl, hb⟩; replace BK122 := o_ (blk_below (bd_ BK122.1) hb); replace HB := o_ (below_step wb_ hb); (try clear hb)))
                  go_ret
                  exact ⟨rt_, wb_⟩
                · rw [if_neg c13] at H
                  have c13b0 := decide_eq_false c13
                  have c13b1 : decide (l0_5.length ≤ 10) = false := decide_eq_false (by omega)
                  clear c13
                  obtain rfl := Option.some.inj H
                  go_enter Try.func80, Try.ntmps80
                  go_wp2_with (first | ((with_reducible refine gate_dst (N := 1) rfl ?_); (try (refine gate_guard (by rfl) ?_; dsimp only)); refine box_event ?hg (N := 1) ?hd (cs := #[.int .i64 a0_0, .int .i64 a0_1, .slice A0_2 l0_2.length c0_2, .int .i64 a0_3, .int .i64 a0_4, .slice A0_5 l0_5.length c0_5, .int .i64 a0_6, .int .i64 a0_7]) (t := 41) ?hr ?_; (case hd => rfl); (case hg => rfl); (case hr => first | (go_simp; done) | (go_simp; rfl)); intro gb122 hg w18 hbox hb; have BK122 := o_ (hbox); have GW122 := o_ ((y6_ : w.heap.size ≤ gb122)); replace HB := o_ (below_step (hd_ HB.1) hb); have GE122 := GW122; clear hb hbox hg; obtain ⟨_, _, _, _, _, _, _, _⟩ := e6_ BK122.1; obtain ⟨_, _, _, _, _, _, _, _⟩ := z5_ BK122.1) | ((with_reducible refine g_ 61 ?_); refine gl_ (some 5) Try.func61 #[.int .i64 a0_0, .int .i64 1, .int .i64 999] ?_; (with_reducible refine (impl_InRange.calls a0_0 1 999 true _ A2.1).mono ?_); rintro e w' ⟨rfl, ⟨nd, rfl⟩⟩; refine ⟨_, rfl, ?_⟩) | (go_at_call 61; (with_reducible refine (impl_InRange.calls a0_1 1 8 true _ A4.1).mono ?_); rintro e w' ⟨rfl, ⟨nd, rfl⟩⟩) | (go_at_call 93; (with_reducible refine (impl_isAscending.calls k _ _ l0_2 0 7 true _ ?side1 HC0_2.1 A6.1).mono ?_); (case side1 => repeat (first | exact (Kd.C_below HR0_2.1 wb_) | (with_reducible refine Kd.C_alloc ?_ _) | (with_reducible refine Kd.C_drewN ?_ _) | (with_reducible refine Kd.C_drew ?_))); rintro e w' ⟨rfl, ⟨nd, rfl⟩⟩) | (go_at_call 93; (with_reducible refine (impl_isAscending.calls k _ _ l0_5 1 30 true _ ?side1 HC0_5.1 A11.1).mono ?_); (case side1 => repeat (first | exact (Kd.C_below HR0_5.1 wb_) | (with_reducible refine Kd.C_alloc ?_ _) | (with_reducible refine Kd.C_drewN ?_ _) | (with_reducible refine Kd.C_drew ?_))); rintro e w' ⟨rfl, ⟨nd, rfl⟩⟩))
                  go_ret
                  exact ⟨rt_, wb_⟩
              · replace c12 := Bool.eq_false_iff.mpr c12
                subst c12
                have H1 := H
                rw [if_neg nt_] at H1
                clear H
                have H := H1
                clear H1
                obtain rfl := Option.some.inj H
                go_enter Try.func80, Try.ntmps80
                go_wp2_with (first | ((with_reducible refine gate_dst (N := 1) rfl ?_); (try (refine gate_guard (by rfl) ?_; dsimp only)); refine box_event ?hg (N := 1) ?hd (cs := #[.int .i64 a0_0, .int .i64 a0_1, .slice A0_2 l0_2.length c0_2, .int .i64 a0_3, .int .i64 a0_4, .slice A0_5 l0_5.length c0_5, .int .i64 a0_6, .int .i64 a0_7]) (t := 41) ?hr ?_; (case hd => rfl); (case hg => rfl); (case hr => first | (go_simp; done) | (go_simp; rfl)); intro gb122 hg w20 hbox hb; have BK122 := o_ (hbox); have GW122 := o_ ((y6_ : w.heap.size ≤ gb122)); replace HB := o_ (below_step (hd_ HB.1) hb); have GE122 := GW122; clear hb hbox hg; obtain ⟨_, _, _, _, _, _, _, _⟩ := e6_ BK122.1; obtain ⟨_, _, _, _, _, _, _, _⟩ := z5_ BK122.1) | ((with_reducible refine g_ 61 ?_); refine gl_ (some 5) Try.func61 #[.int .i64 a0_0, .int .i64 1, .int .i64 999] ?_; (with_reducible refine (impl_InRange.calls a0_0 1 999 true _ A2.1).mono ?_); rintro e w' ⟨rfl, ⟨nd, rfl⟩⟩; refine ⟨_, rfl, ?_⟩) | (go_at_call 61; (with_reducible refine (impl_InRange.calls a0_1 1 8 true _ A4.1).mono ?_); rintro e w' ⟨rfl, ⟨nd, rfl⟩⟩) | (go_at_call 93; (with_reducible refine (impl_isAscending.calls k _ _ l0_2 0 7 true _ ?side1 HC0_2.1 A6.1).mono ?_); (case side1 => repeat (first | exact (Kd.C_below HR0_2.1 wb_) | (with_reducible refine Kd.C_alloc ?_ _) | (with_reducible refine Kd.C_drewN ?_ _) | (with_reducible refine Kd.C_drew ?_))); rintro e w' ⟨rfl, ⟨nd, rfl⟩⟩) | (go_at_call 93; (with_reducible refine (impl_isAscending.calls k _ _ l0_5 1 30 false _ ?side1 HC0_5.1 A11.1).mono ?_); (case side1 => repeat (first | exact (Kd.C_below HR0_5.1 wb_) | (with_reducible refine Kd.C_alloc ?_ _) | (with_reducible refine Kd.C_drewN ?_ _) | (with_reducible refine Kd.C_drew ?_))); rintro e w' ⟨rfl, ⟨nd, rfl⟩⟩))
                go_ret
                exact ⟨rt_, wb_⟩
            · rw [if_neg c10] at H
              have c10b0 := decide_eq_false c10
              clear c10
              obtain rfl := Option.some.inj H
              go_enter Try.func80, Try.ntmps80
              go_wp2_with (first | ((with_reducible refine gate_dst (N := 1) rfl ?_); (try (refine gate_guard (by rfl) ?_; dsimp only)); refine box_event ?hg (N := 1) ?hd (cs := #[.int .i64 a0_0, .int .i64 a0_1, .slice A0_2 l0_2.length c0_2, .int .i64 a0_3, .int .i64 a0_4, .slice A0_5 l0_5.length c0_5, .int .i64 a0_6, .int .i64 a0_7]) (t := 41) ?hr ?_; (case hd => rfl); (case hg => rfl); (case hr => first | (go_simp; done) | (go_simp; rfl)); intro gb122 hg w22 hbox hb; have BK122 := o_ (hbox); have GW122 := o_ ((y6_ : w.heap.size ≤ gb122)); replace HB := o_ (below_step (hd_ HB.1) hb); have GE122 := GW122; clear hb hbox hg; obtain ⟨_, _, _, _, _, _, _, _⟩ := e6_ BK122.1; obtain ⟨_, _, _, _, _, _, _, _⟩ := z5_ BK122.1) | ((with_reducible refine g_ 61 ?_); refine gl_ (some 5) Try.func61 #[.int .i64 a0_0, .int .i64 1, .int .i64 999] ?_; (with_reducible refine (impl_InRange.calls a0_0 1 999 true _ A2.1).mono ?_); rintro e w' ⟨rfl, ⟨nd, rfl⟩⟩; refine ⟨_, rfl, ?_⟩) | (go_at_call 61; (with_reducible refine (impl_InRange.calls a0_1 1 8 true _ A4.1).mono ?_); rintro e w' ⟨rfl, ⟨nd, rfl⟩⟩) | (go_at_call 93; (with_reducible refine (impl_isAscending.calls k _ _ l0_2 0 7 true _ ?side1 HC0_2.1 A6.1).mono ?_); (case side1 => repeat (first | exact (Kd.C_below HR0_2.1 wb_) | (with_reducible refine Kd.C_alloc ?_ _) | (with_reducible refine Kd.C_drewN ?_ _) | (with_reducible refine Kd.C_drew ?_))); rintro e w' ⟨rfl, ⟨nd, rfl⟩⟩))
              go_ret
              exact ⟨rt_, wb_⟩
          · rw [if_neg c9] at H
            have c9b0 := decide_eq_false c9
            clear c9
            obtain rfl := Option.some.inj H
            go_enter Try.func80, Try.ntmps80
            go_wp2_with (first | ((with_reducible refine gate_dst (N := 1) rfl ?_); (try (refine gate_guard (by rfl) ?_; dsimp only)); refine box_event ?hg (N := 1) ?hd (cs := #[.int .i64 a0_0, .int .i64 a0_1, .slice A0_2 l0_2.length c0_2, .int .i64 a0_3, .int .i64 a0_4, .slice A0_5 l0_5.length c0_5, .int .i64 a0_6, .int .i64 a0_7]) (t := 41) ?hr ?_; (case hd => rfl); (case hg => rfl); (case hr => first | (go_simp; done) | (go_simp; rfl)); intro gb122 hg w24 hbox hb; have BK122 := o_ (hbox); have GW122 := o_ ((y6_ : w.heap.size ≤ gb122)); replace HB := o_ (below_step (hd_ HB.1) hb); have GE122 := GW122; clear hb hbox hg; obtain ⟨_, _, _, _, _, _, _, _⟩ := e6_ BK122.1; obtain ⟨_, _, _, _, _, _, _, _⟩ := z5_ BK122.1) | ((with_reducible refine g_ 61 ?_); refine gl_ (some 5) Try.func61 #[.int .i64 a0_0, .int .i64 1, .int .i64 999] ?_; (with_reducible refine (impl_InRange.calls a0_0 1 999 true _ A2.1).mono ?_); rintro e w' ⟨rfl, ⟨nd, rfl⟩⟩; refine ⟨_, rfl, ?_⟩) | (go_at_call 61; (with_reducible refine (impl_InRange.calls a0_1 1 8 true _ A4.1).mono ?_); rintro e w' ⟨rfl, ⟨nd, rfl⟩⟩) | (go_at_call 93; (with_reducible refine (impl_isAscending.calls k _ _ l0_2 0 7 true _ ?side1 HC0_2.1 A6.1).mono ?_); (case side1 => repeat (first | exact (Kd.C_below HR0_2.1 wb_) | (with_reducible refine Kd.C_alloc ?_ _) | (with_reducible refine Kd.C_drewN ?_ _) | (with_reducible refine Kd.C_drew ?_))); rintro e w' ⟨rfl, ⟨nd, rfl⟩⟩))
            go_ret
            exact ⟨rt_, wb_⟩
        · rw [if_neg c8] at H
          have c8b0 := decide_eq_false c8
          clear c8
          obtain rfl := Option.some.inj H
          go_enter Try.func80, Try.ntmps80
          go_wp2_with (first | ((with_reducible refine gate_dst (N := 1) rfl ?_); (try (refine gate_guard (by rfl) ?_; dsimp only)); refine box_event ?hg (N := 1) ?hd (cs := #[.int .i64 a0_0, .int .i64 a0_1, .slice A0_2 l0_2.length c0_2, .int .i64 a0_3, .int .i64 a0_4, .slice A0_5 l0_5.length c0_5, .int .i64 a0_6, .int .i64 a0_7]) (t := 41) ?hr ?_; (case hd => rfl); (case hg => rfl); (case hr => first | (go_simp; done) | (go_simp; rfl)); intro gb122 hg w26 hbox hb; have BK122 := o_ (hbox); have GW122 := o_ ((y6_ : w.heap.size ≤ gb122)); replace HB := o_ (below_step (hd_ HB.1) hb); have GE122 := GW122; clear hb hbox hg; obtain ⟨_, _, _, _, _, _, _, _⟩ := e6_ BK122.1; obtain ⟨_, _, _, _, _, _, _, _⟩ := z5_ BK122.1) | ((with_reducible refine g_ 61 ?_); refine gl_ (some 5) Try.func61 #[.int .i64 a0_0, .int .i64 1, .int .i64 999] ?_; (with_reducible refine (impl_InRange.calls a0_0 1 999 true _ A2.1).mono ?_); rintro e w' ⟨rfl, ⟨nd, rfl⟩⟩; refine ⟨_, rfl, ?_⟩) | (go_at_call 61; (with_reducible refine (impl_InRange.calls a0_1 1 8 true _ A4.1).mono ?_); rintro e w' ⟨rfl, ⟨nd, rfl⟩⟩) | (go_at_call 93; (with_reducible refine (impl_isAscending.calls k _ _ l0_2 0 7 true _ ?side1 HC0_2.1 A6.1).mono ?_); (case side1 => repeat (first | exact (Kd.C_below HR0_2.1 wb_) | (with_reducible refine Kd.C_alloc ?_ _) | (with_reducible refine Kd.C_drewN ?_ _) | (with_reducible refine Kd.C_drew ?_))); rintro e w' ⟨rfl, ⟨nd, rfl⟩⟩))
          go_ret
          exact ⟨rt_, wb_⟩
      · replace c7 := Bool.eq_false_iff.mpr c7
        subst c7
        have H1 := H
        rw [if_neg nt_] at H1
        clear H
        have H := H1
        clear H1
        obtain rfl := Option.some.inj H
        go_enter Try.func80, Try.ntmps80
        go_wp2_with (first | ((with_reducible refine gate_dst (N := 1) rfl ?_); (try (refine gate_guard (by rfl) ?_; dsimp only)); refine box_event ?hg (N := 1) ?hd (cs := #[.int .i64 a0_0, .int .i64 a0_1, .slice A0_2 l0_2.length c0_2, .int .i64 a0_3, .int .i64 a0_4, .slice A0_5 l0_5.length c0_5, .int .i64 a0_6, .int .i64 a0_7]) (t := 41) ?hr ?_; (case hd => rfl); (case hg => rfl); (case hr => first | (go_simp; done) | (go_simp; rfl)); intro gb122 hg w28 hbox hb; have BK122 := o_ (hbox); have GW122 := o_ ((y6_ : w.heap.size ≤ gb122)); replace HB := o_ (below_step (hd_ HB.1) hb); have GE122 := GW122; clear hb hbox hg; obtain ⟨_, _, _, _, _, _, _, _⟩ := e6_ BK122.1; obtain ⟨_, _, _, _, _, _, _, _⟩ := z5_ BK122.1) | ((with_reducible refine g_ 61 ?_); refine gl_ (some 5) Try.func61 #[.int .i64 a0_0, .int .i64 1, .int .i64 999] ?_; (with_reducible refine (impl_InRange.calls a0_0 1 999 true _ A2.1).mono ?_); rintro e w' ⟨rfl, ⟨nd, rfl⟩⟩; refine ⟨_, rfl, ?_⟩) | (go_at_call 61; (with_reducible refine (impl_InRange.calls a0_1 1 8 true _ A4.1).mono ?_); rintro e w' ⟨rfl, ⟨nd, rfl⟩⟩) | (go_at_call 93; (with_reducible refine (impl_isAscending.calls k _ _ l0_2 0 7 false _ ?side1 HC0_2.1 A6.1).mono ?_); (case side1 => repeat (first | exact (Kd.C_below HR0_2.1 wb_) | (with_reducible refine Kd.C_alloc ?_ _) | (with_reducible refine Kd.C_drewN ?_ _) | (with_reducible refine Kd.C_drew ?_))); rintro e w' ⟨rfl, ⟨nd, rfl⟩⟩))
        go_ret
        exact ⟨rt_, wb_⟩
    · replace c5 := Bool.eq_false_iff.mpr c5
      subst c5
      have H1 := H
      rw [if_neg nt_] at H1
      clear H
      have H := H1
      clear H1
      obtain rfl := Option.some.inj H
      go_enter Try.func80, Try.ntmps80
      go_wp2_with (first | ((with_reducible refine gate_dst (N := 1) rfl ?_); (try (refine gate_guard (by rfl) ?_; dsimp only)); refine box_event ?hg (N := 1) ?hd (cs := #[.int .i64 a0_0, .int .i64 a0_1, .slice A0_2 l0_2.length c0_2, .int .i64 a0_3, .int .i64 a0_4, .slice A0_5 l0_5.length c0_5, .int .i64 a0_6, .int .i64 a0_7]) (t := 41) ?hr ?_; (case hd => rfl); (case hg => rfl); (case hr => first | (go_simp; done) | (go_simp; rfl)); intro gb122 hg w30 hbox hb; have BK122 := o_ (hbox); have GW122 := o_ ((y6_ : w.heap.size ≤ gb122)); replace HB := o_ (below_step (hd_ HB.1) hb); have GE122 := GW122; clear hb hbox hg; obtain ⟨_, _, _, _, _, _, _, _⟩ := e6_ BK122.1; obtain ⟨_, _, _, _, _, _, _, _⟩ := z5_ BK122.1) | ((with_reducible refine g_ 61 ?_); refine gl_ (some 5) Try.func61 #[.int .i64 a0_0, .int .i64 1, .int .i64 999] ?_; (with_reducible refine (impl_InRange.calls a0_0 1 999 true _ A2.1).mono ?_); rintro e w' ⟨rfl, ⟨nd, rfl⟩⟩; refine ⟨_, rfl, ?_⟩) | (go_at_call 61; (with_reducible refine (impl_InRange.calls a0_1 1 8 false _ A4.1).mono ?_); rintro e w' ⟨rfl, ⟨nd, rfl⟩⟩))
      go_ret
      exact ⟨rt_, wb_⟩
  · replace c3 := Bool.eq_false_iff.mpr c3
    subst c3
    have H1 := H
    rw [if_neg nt_] at H1
    clear H
    have H := H1
    clear H1
    obtain rfl := Option.some.inj H
    go_enter Try.func80, Try.ntmps80
    go_wp2_with (first | ((with_reducible refine gate_dst (N := 1) rfl ?_); (try (refine gate_guard (by rfl) ?_; dsimp only)); refine box_event ?hg (N := 1) ?hd (cs := #[.int .i64 a0_0, .int .i64 a0_1, .slice A0_2 l0_2.length c0_2, .int .i64 a0_3, .int .i64 a0_4, .slice A0_5 l0_5.length c0_5, .int .i64 a0_6, .int .i64 a0_7]) (t := 41) ?hr ?_; (case hd => rfl); (case hg => rfl); (case hr => first | (go_simp; done) | (go_simp; rfl)); intro gb122 hg w32 hbox hb; have BK122 := o_ (hbox); have GW122 := o_ ((y6_ : w.heap.size ≤ gb122)); replace HB := o_ (below_step (hd_ HB.1) hb); have GE122 := GW122; clear hb hbox hg; obtain ⟨_, _, _, _, _, _, _, _⟩ := e6_ BK122.1; obtain ⟨_, _, _, _, _, _, _, _⟩ := z5_ BK122.1) | ((with_reducible refine g_ 61 ?_); refine gl_ (some 5) Try.func61 #[.int .i64 a0_0, .int .i64 1, .int .i64 999] ?_; (with_reducible refine (impl_InRange.calls a0_0 1 999 false _ A2.1).mono ?_); rintro e w' ⟨rfl, ⟨nd, rfl⟩⟩; refine ⟨_, rfl, ?_⟩))
    go_ret
    exact ⟨rt_, wb_⟩

/-! ### slices_Index_int_int: function 83 -/
def slices_Index_int_int.l0 : Nat → List Int → Int → Int → Int → Option (Int)
  | 0, _, _, _, _ => none
  | k + 1, x0, x1, x7, x8 => if x8 < x7 then (if 0 ≤ x8 then (if x8 < (x0.length : Int) then (if x1 = (rd x0 x8) then (some x8) else (slices_Index_int_int.l0 k x0 x1 x7 (wrap64 (x8 + 1)))) else (none)) else (none)) else (some (-1))
def slices_Index_int_int.f (k : Nat) (l0 : List Int) (a1 : Int) : Option (Int) := slices_Index_int_int.l0 k l0 a1 (l0.length : Int) 0
theorem slices_Index_int_int.mono_l : ∀ k, (∀ y0 y1 y2 y3, LeO (slices_Index_int_int.l0 k y0 y1 y2 y3) (slices_Index_int_int.l0 (k + 1) y0 y1 y2 y3))
  | 0 => fun _ _ _ _ r h => by simp [slices_Index_int_int.l0] at h
  | k + 1 => by
    have ih0 := slices_Index_int_int.mono_l k
    · intro y0 y1 y2 y3
      unfold slices_Index_int_int.l0
      exact mo_
theorem slices_Index_int_int.mono : ∀ a0 a1 k, LeO (slices_Index_int_int.f k a0 a1) (slices_Index_int_int.f (k + 1) a0 a1) := by
  intro a0 a1 k
  have ih0 := slices_Index_int_int.mono_l k
  unfold slices_Index_int_int.f
  exact mo_
set_option maxHeartbeats 8000000 in
set_option maxRecDepth 100000 in
theorem slices_Index_int_int.calls (k : Nat) (A0 : Option Addr) (c0 : Nat) (l0 : List Int) (a1 : Int) (r : Int) (w : World) (hr0 : Kd.C (Kd.int .i64) w A0 l0.length l0) (hc0 : l0.length ≤ c0) (h : slices_Index_int_int.f k l0 a1 = some r) :
    Calls Try.prog 83 #[.slice A0 l0.length c0, .int .i64 a1] w fun e w' => e = .returned (.int .i64 r) ∧ Drawn0 w w' := by
  have HR0 := o_ hr0
  have HC0 := o_ hc0
  clear hr0 hc0
  have H : (slices_Index_int_int.l0 k l0 a1 (l0.length : Int) 0) = some r := h
  clear h
  have H' := o_ H
  clear H
  go_enter Try.func83, Try.ntmps83
  go_wp2
  go_loopg [8] k (fun kq v8 w' => ∃ (x8_1 : Int), v8 = .int .i64 x8_1 ∧ Aside0 (slices_Index_int_int.l0 kq l0 a1 (l0.length : Int) x8_1 = some r) ∧ Aside0 (kq ≤ k) ∧ Drawn0 w w')
  case atStart => exact ⟨(0), rs_, H', ⟨Nat.le_refl _⟩, by repeat (first | exact Drawn0.refl _ | apply Drawn0.step)⟩
  case round =>
    clear H'
    try clear p2
    obtain ⟨x8_1, rfl, HA, HK1, ⟨m1, rfl⟩⟩ := hrel
    cases gk with
    | zero => exact absurd HA.1 (by simp [slices_Index_int_int.l0])
    | succ k1 =>
      have H := HA.1
      clear HA
      simp only [slices_Index_int_int.l0] at H
      by_cases c3 : x8_1 < (l0.length : Int)
      · rw [if_pos c3] at H
        have c3b0 := decide_eq_true c3
        clear c3
        by_cases c4 : 0 ≤ x8_1
        · rw [if_pos c4] at H
          have c4b0 := decide_eq_true c4
          clear c4
          by_cases c5 : x8_1 < (l0.length : Int)
          · rw [if_pos c5] at H
            have c5b0 := decide_eq_true c5
            clear c5
            by_cases c6 : a1 = (rd l0 x8_1)
            · rw [if_pos c6] at H
              have c6b0 := beq_iff_eq.mpr c6
              have c6b1 := bne_eq_false_iff_eq.mpr c6
              clear c6
              obtain rfl := Option.some.inj H
              have p128 : 0 ≤ (x8_1 : Int) := of_decide_eq_true as_
              have q128 : x8_1 < (l0.length : Int) := of_decide_eq_true as_
              obtain ⟨ad128, e128, hx128_0⟩ := Kd.at_int HR0.1 x8_1 p128 q128
              cases e128
              replace p128 := eq_true p128
              replace q128 := eq_true q128
              go_wp2
              go_ret
              exact ⟨rs_, by repeat (first | exact Drawn0.refl _ | apply Drawn0.step)⟩
            · rw [if_neg c6] at H
              have c6b0 := beq_eq_false_iff_ne.mpr c6
              have c6b1 := bne_iff_ne.mpr c6
              have H' := o_ H
              clear H
              have p128 : 0 ≤ (x8_1 : Int) := of_decide_eq_true as_
              have q128 : x8_1 < (l0.length : Int) := of_decide_eq_true as_
              obtain ⟨ad128, e128, hx128_0⟩ := Kd.at_int HR0.1 x8_1 p128 q128
              cases e128
              replace p128 := eq_true p128
              replace q128 := eq_true q128
              go_wp2
              go_roundg k1
              case measure => have := HK1.1; omega
              case rel => exact ⟨(wrap64 (x8_1 + 1)), rs_, H', ⟨by have := HK1.1; omega⟩, by repeat (first | exact Drawn0.refl _ | apply Drawn0.step)⟩
          · rw [if_neg c5] at H
            exact absurd H (by simp)
        · rw [if_neg c4] at H
          exact absurd H (by simp)
      · rw [if_neg c3] at H
        have c3b0 := decide_eq_false c3
        clear c3
        obtain rfl := Option.some.inj H
        go_wp2
        go_ret
        exact ⟨rs_, by repeat (first | exact Drawn0.refl _ | apply Drawn0.step)⟩

/-! ### slices_Contains_int_int: function 55 -/
def slices_Contains_int_int.f (k : Nat) (l0 : List Int) (a1 : Int) : Option (Bool) := (slices_Index_int_int.f k l0 a1).bind fun t129 => (some (decide (t129 ≥ 0)))
theorem slices_Contains_int_int.mono : ∀ a0 a1 k, LeO (slices_Contains_int_int.f k a0 a1) (slices_Contains_int_int.f (k + 1) a0 a1) := by
  intro a0 a1 k
  unfold slices_Contains_int_int.f
  have jh0 := @slices_Index_int_int.mono
  exact mo_
set_option maxHeartbeats 8000000 in
set_option maxRecDepth 100000 in
theorem slices_Contains_int_int.calls (k : Nat) (A0 : Option Addr) (c0 : Nat) (l0 : List Int) (a1 : Int) (r : Bool) (w : World) (hr0 : Kd.C (Kd.int .i64) w A0 l0.length l0) (hc0 : l0.length ≤ c0) (h : slices_Contains_int_int.f k l0 a1 = some r) :
    Calls Try.prog 55 #[.slice A0 l0.length c0, .int .i64 a1] w fun e w' => e = .returned (.bool r) ∧ Drawn0 w w' := by
  have HR0 := o_ hr0
  have HC0 := o_ hc0
  clear hr0 hc0
  have H : ((slices_Index_int_int.f k l0 a1).bind fun t129 => (some (decide (t129 ≥ 0)))) = some r := h
  clear h
  obtain ⟨t129, A3, H⟩ := ob_ H
  try dsimp only at H
  obtain rfl := Option.some.inj H
  go_enter Try.func55, Try.ntmps55
  go_wp2_with (first | ((with_reducible refine g_ 83 ?_); refine gl_ (some 7) Try.func83 #[.slice A0 l0.length c0, .int .i64 a1] ?_; (with_reducible refine (slices_Index_int_int.calls k _ _ l0 a1 t129 _ (cd_ HR0.1) HC0.1 A3.1).mono ?_); rintro e w' ⟨rfl, ⟨nd, rfl⟩⟩; refine ⟨_, rfl, ?_⟩))
  go_ret
  exact ⟨rs_, by repeat (first | exact Drawn0.refl _ | apply Drawn0.step)⟩

/-! ### slices_Clone_int_int: function 94 -/
def slices_Clone_int_int.f (l0 : List (Int)) : Option (List (Int)) := if l0.length < 17592186044416 then some l0 else none
set_option maxHeartbeats 8000000 in
set_option maxRecDepth 100000 in
theorem slices_Clone_int_int.calls (A0 : Option Addr) (c0 : Nat) (l0 : List (Int)) (r : List (Int)) (w : World) (hr0 : Kd.C (Kd.int .i64) w A0 l0.length l0) (hc0 : l0.length ≤ c0) (h : slices_Clone_int_int.f l0 = some r) :
    Calls Try.prog 94 #[.slice A0 l0.length c0] w fun e w' => ∃ v0_ : Value, e = .returned (v0_) ∧ Kd.R (Kd.int .i64) 3 w' w.heap.size (fun _ => True) v0_ r ∧ Below w.heap.size w w' := by
  have HR0 := o_ hr0
  have HC0 := o_ hc0
  have HN := o_ hr0.2.2
  clear hr0 hc0
  have HB := o_ (Below.refl w.heap.size w)
  unfold slices_Clone_int_int.f at h
  split at h
  case isFalse => cases h
  case isTrue hlen =>
  obtain rfl := Option.some.inj h
  clear h
  have LM := o_ hlen
  clear hlen
  cases A0 with
  | none =>
    have hl0 : l0 = [] := by
      cases l0 with
      | nil => rfl
      | cons x l => exact absurd (HN.1 (by simp)) (by rintro ⟨ad, h, _⟩; cases h)
    subst hl0
    have hnil := fun (W : World) => Lib.run_eql_slice_nil (P := Try.prog) W 24 3 none 0 c0 0 0 Try.underlying24
    go_enter Try.func94, Try.ntmps94
    go_wp2
    go_ret
    exact ⟨_, rfl, Kd.R_nil _ _ _ _ _, HB.1⟩
  | some ad =>
    have hnil := fun (W : World) => Lib.run_eql_slice_nil (P := Try.prog) W 24 3 (some ad) l0.length c0 0 0 Try.underlying24
    obtain ⟨y147, hy147⟩ : ∃ y_ : List (Int), y_ = ([] : List (Int)) := ⟨_, rfl⟩
    have Ny147 := o_ hy147
    clear hy147
    go_enter Try.func94, Try.ntmps94
    go_wp2_with (first | ((with_reducible refine gate_dst (N := 5) rfl ?_); refine Kd.R_lit (Kd.int .i64) _ 3 ?hg (N := 5) ?hd (xs := ([] : List (Int))) (inner := []) (ok := fun _ => True) (okp := fun _ => True) ?hr ?hp (fun _ hk => hk) trivial (Below.refl _ _) (Nat.le_refl _) (by simp) ?_; (case hd => rfl); (case hg => rfl); (case hr => first | (go_simp; done) | (go_simp; rfl)); (case hp => exact (Reps.none _ _)); intro v148 w10 ho11 hb hg_ hnew_; clear hg_ hnew_; rw [← Ny147.1] at ho11; have HO149 := o_ (Kd.R_lower ho11 (below_size HB.1)); replace HB := o_ (below_step HB.1 hb); clear hb ho11) | ((with_reducible refine gate_builtin (b := .append) (xs := #[.tmp 5, .tmp 6]) rfl ?_); at_builtin; refine Kd.R_append_rows (Kd.int .i64) (w0 := w) w.heap.size rfl (.tmp 5) (.tmp 6) 24 3 ((.int .i64 0)) 8 rfl Try.underlying24 info3 rfl (by decide) (by omega) v148 y147 l0 _ _ _ (fun _ => True) (fun _ => False) rfl rfl ?aO ?aR (fun _ _ h => h) (fun _ h => h.elim) ?aF ?aB ?aS ?aL ?_; (case aR => exact (Kd.C_below HR0.1 HB.1)); (case aB => exact HB.1); (case aF => exact (fun _ _ => trivial)); (case aO => exact HO149.1); (case aS => exact (below_size HB.1)); (case aL => have := LM.1; rw [Ny147.1]; simp only [List.length_nil]; omega); intro v152 w12 ho hb hg hat; rw [Ny147.1, List.nil_append] at ho; replace HB := o_ (hb); have HO153 := o_ (ho); clear HO149 ho hb hg hat))
    go_ret
    exact ⟨_, rfl, HO153.1, HB.1⟩


/-! ### impl_both: function 81 -/
def impl_both.l0 : Nat → List Int → List Int → List Int → Int → Int → Option (List Int × Bool)
  | 0, _, _, _, _, _ => none
  | k + 1, x1, x6, x22, x23, x24 => if x24 < x23 then (if 0 ≤ x24 then (if x24 < (x22.length : Int) then ((slices_Contains_int_int.f k x1 (rd x22 x24)).bind fun t140 => (if t140 = true then (if x6.length < 17592186044416 then (impl_both.l0 k x1 (x6 ++ [rd x22 x24]) x22 x23 (wrap64 (x24 + 1))) else (none)) else (impl_both.l0 k x1 x6 x22 x23 (wrap64 (x24 + 1))))) else (none)) else (none)) else (some (x6, decide ((x6.length : Int) > 0)))
def impl_both.f (k : Nat) (l0 : List Int) (l1 : List Int) : Option (List Int × Bool) := if (l0.length : Int) = 0 then ((slices_Clone_int_int.f l1).bind fun t130 => (some (t130, true))) else (if (l1.length : Int) = 0 then ((slices_Clone_int_int.f l0).bind fun t133 => (some (t133, true))) else (impl_both.l0 k l1 (([] : List Int)) l0 (l0.length : Int) 0))
theorem impl_both.mono_l : ∀ k, (∀ y0 y1 y2 y3 y4, LeO (impl_both.l0 k y0 y1 y2 y3 y4) (impl_both.l0 (k + 1) y0 y1 y2 y3 y4))
  | 0 => fun _ _ _ _ _ r h => by simp [impl_both.l0] at h
  | k + 1 => by
    have ih0 := impl_both.mono_l k
    · intro y0 y1 y2 y3 y4
      unfold impl_both.l0
      have jh0 := @slices_Contains_int_int.mono
      exact mo_
theorem impl_both.mono : ∀ a0 a1 k, LeO (impl_both.f k a0 a1) (impl_both.f (k + 1) a0 a1) := by
  intro a0 a1 k
  have ih0 := impl_both.mono_l k
  unfold impl_both.f
  have jh0 := @slices_Contains_int_int.mono
  exact mo_
set_option maxHeartbeats 8000000 in
set_option maxRecDepth 100000 in
theorem impl_both.calls (k : Nat) (A0 : Option Addr) (c0 : Nat) (l0 : List Int) (A1 : Option Addr) (c1 : Nat) (l1 : List Int) (r1 : List Int) (r2 : Bool) (w : World) (hr0 : Kd.C (Kd.int .i64) w A0 l0.length l0) (hc0 : l0.length ≤ c0) (hr1 : Kd.C (Kd.int .i64) w A1 l1.length l1) (hc1 : l1.length ≤ c1) (h : impl_both.f k l0 l1 = some (r1, r2)) :
    Calls Try.prog 81 #[.slice A0 l0.length c0, .slice A1 l1.length c1] w fun e w' => ∃ v0_ : Value, e = .returned (.tuple #[v0_, .bool r2]) ∧ Kd.R (Kd.int .i64) 3 w' w.heap.size (fun _ => True) v0_ r1 ∧ Below w.heap.size w w' := by
  have HR0 := o_ hr0
  have HC0 := o_ hc0
  clear hr0 hc0
  have HR1 := o_ hr1
  have HC1 := o_ hc1
  clear hr1 hc1
  have HB := o_ (Below.refl w.heap.size w)
  have H := h
  unfold impl_both.f at H
  clear h
  by_cases c3 : (l0.length : Int) = 0
  · rw [if_pos c3] at H
    have c3b0 := beq_iff_eq.mpr c3
    have c3b1 := bne_eq_false_iff_eq.mpr c3
    clear c3
    obtain ⟨t130, A4, H⟩ := ob_ H
    try dsimp only at H
    simp only [Option.some.injEq, Prod.mk.injEq] at H
    obtain ⟨rfl, rfl⟩ := H
    go_enter Try.func81, Try.ntmps81
    go_wp2_with (first | ((with_reducible refine g_ 94 ?_); refine gl_ (some 14) Try.func94 #[.slice A1 l1.length c1] ?_; (with_reducible refine (slices_Clone_int_int.calls _ _ l1 t130 _ (cd_ HR1.1) HC1.1 A4.1).mono ?_); rintro e w5 ⟨v131, rfl, ho0, hb⟩; refine ⟨_, rfl, ?_⟩; have HO132 := o_ (Kd.R_lower ho0 (below_size (hd_ HB.1))); replace HB := o_ (below_step (hd_ HB.1) hb); (try clear hb ho0)))
    go_ret2
    exact ⟨_, rt_, rd_ HO132.1, hd_ HB.1⟩
  · rw [if_neg c3] at H
    have c3b0 := beq_eq_false_iff_ne.mpr c3
    have c3b1 := bne_iff_ne.mpr c3
    have c3b2 : ¬ (l0 = []) := fun h_ => c3 (by rw [h_]; rfl)
    by_cases c6 : (l1.length : Int) = 0
    · rw [if_pos c6] at H
      have c6b0 := beq_iff_eq.mpr c6
      have c6b1 := bne_eq_false_iff_eq.mpr c6
      clear c6
      obtain ⟨t133, A7, H⟩ := ob_ H
      try dsimp only at H
      simp only [Option.some.injEq, Prod.mk.injEq] at H
      obtain ⟨rfl, rfl⟩ := H
      go_enter Try.func81, Try.ntmps81
      go_wp2_with (first | ((with_reducible refine g_ 94 ?_); refine gl_ (some 20) Try.func94 #[.slice A0 l0.length c0] ?_; (with_reducible refine (slices_Clone_int_int.calls _ _ l0 t133 _ (cd_ HR0.1) HC0.1 A7.1).mono ?_); rintro e w8 ⟨v134, rfl, ho0, hb⟩; refine ⟨_, rfl, ?_⟩; have HO135 := o_ (Kd.R_lower ho0 (below_size (hd_ HB.1))); replace HB := o_ (below_step (hd_ HB.1) hb); (try clear hb ho0)))
      go_ret2
      exact ⟨_, rt_, rd_ HO135.1, hd_ HB.1⟩
    · rw [if_neg c6] at H
      have c6b0 := beq_eq_false_iff_ne.mpr c6
      have c6b1 := bne_iff_ne.mpr c6
      have c6b2 : ¬ (l1 = []) := fun h_ => c6 (by rw [h_]; rfl)
      obtain ⟨y136, hy136⟩ : ∃ y_ : List Int, y_ = (([] : List Int)) := ⟨_, rfl⟩
      replace H : (impl_both.l0 k l1 y136 l0 (l0.length : Int) 0) = some (r1, r2) := hy_ H hy136
      have Ny136 := o_ hy136
      clear hy136
      have H' := o_ H
      clear H
      go_enter Try.func81, Try.ntmps81
      go_wp2_with (first | ((with_reducible refine gate_dst (N := 21) rfl ?_); refine Kd.R_lit (Kd.int .i64) _ 3 ?hg (N := 21) ?hd (xs := ([] : List Int)) (inner := []) (ok := fun _ => True) (okp := fun _ => True) ?hr ?hp (fun _ hk => hk) trivial (Below.refl _ _) (Nat.le_refl _) (by simp) ?_; (case hd => rfl); (case hg => rfl); (case hr => first | (go_simp; done) | (go_simp; rfl)); (case hp => exact (Reps.none _ _)); intro v137 w9 ho10 hb hg_ hnew_; clear hg_ hnew_; (first | rw [← Ny136.1] at ho10 | (simp only [Int.reduceToNat] at ho10; rw [← Ny136.1] at ho10)); have HO138 := o_ (Kd.R_lower ho10 (below_size (hd_ HB.1))); replace HB := o_ (below_step (hd_ HB.1) hb); clear hb ho10))
      go_loopg [6, 24] k (fun kq v6 v24 w' => ∃ (x6_1 : List Int) (x24_1 : Int), v24 = .int .i64 x24_1 ∧ Aside0 (impl_both.l0 kq l1 x6_1 l0 (l0.length : Int) x24_1 = some (r1, r2)) ∧ Aside0 (kq ≤ k) ∧ Aside0 (Kd.R (Kd.int .i64) 3 w' w.heap.size (fun _ => True) v6 x6_1) ∧ Aside0 (Below w.heap.size w w'))
      case atStart => exact ⟨(y136), (0), rs_, H', ⟨Nat.le_refl _⟩, ⟨rd_ HO138.1⟩, ⟨hd_ HB.1⟩⟩
      case round =>
        clear H'
        try clear c1
        try clear p2
        try clear c3
        try clear c3b0
        try clear c3b1
        try clear c3b2
        try clear c6
        try clear c6b0
        try clear c6b1
        try clear c6b2
        try clear c8
        try clear c9
        obtain ⟨x6_1, x24_1, rfl, HA, HK1, HO_6, HB⟩ := hrel
        cases gk with
        | zero => exact absurd HA.1 (by simp [impl_both.l0])
        | succ k1 =>
          have H := HA.1
          clear HA
          simp only [impl_both.l0] at H
          by_cases c11 : x24_1 < (l0.length : Int)
          · rw [if_pos c11] at H
            have c11b0 := decide_eq_true c11
            clear c11
            by_cases c12 : 0 ≤ x24_1
            · rw [if_pos c12] at H
              have c12b0 := decide_eq_true c12
              clear c12
              by_cases c13 : x24_1 < (l0.length : Int)
              · rw [if_pos c13] at H
                have c13b0 := decide_eq_true c13
                clear c13
                obtain ⟨t140, A14, H⟩ := ob_ H
                try dsimp only at H
                by_cases c15 : t140 = true
                · subst c15
                  have H1 := H
                  rw [if_pos rfl] at H1
                  clear H
                  have H := H1
                  clear H1
                  by_cases c16 : x6_1.length < 17592186044416
                  · rw [if_pos c16] at H
                    have LMc16 := o_ c16
                    clear c16
                    obtain ⟨y141, hy141⟩ : ∃ y_ : List Int, y_ = (x6_1 ++ [rd l0 x24_1]) := ⟨_, rfl⟩
                    replace H : (impl_both.l0 k1 l1 y141 l0 (l0.length : Int) (wrap64 (x24_1 + 1))) = some (r1, r2) := hy_ H hy141
                    have Ny141 := o_ hy141
                    clear hy141
                    have H' := o_ H
                    clear H
                    have p139 : 0 ≤ (x24_1 : Int) := of_decide_eq_true as_
                    have q139 : x24_1 < (l0.length : Int) := of_decide_eq_true as_
                    obtain ⟨ad139, e139, hx139_0⟩ := Kd.at_int HR0.1 x24_1 p139 q139
                    cases e139
                    replace hx139_0 := cb_ HB.1 hx139_0
                    replace p139 := eq_true p139
                    replace q139 := eq_true q139
                    go_wp2_with (first | ((with_reducible refine g_ 55 ?_); refine gl_ (some 30) Try.func55 #[.slice A1 l1.length c1, .int .i64 (rd l0 x24_1)] ?_; (with_reducible refine (slices_Contains_int_int.calls k1 _ _ l1 (rd l0 x24_1) true _ (cd_ (Kd.C_below HR1.1 HB.1)) HC1.1 A14.1).mono ?_); rintro e w' ⟨rfl, ⟨nd, rfl⟩⟩; refine ⟨_, rfl, ?_⟩) | ((with_reducible refine gate_builtin (b := .append) (xs := #[.tmp 31, .tmp 33]) rfl ?_); at_builtin; refine Kd.R_append (Kd.int .i64) (w0 := w) w.heap.size rfl (.tmp 31) (.tmp 33) 24 3 (.int .i64 0) 8 rfl Try.underlying24 info3 rfl (by decide) (by omega) u6 x6_1 (rd l0 x24_1) [.int .i64 (rd l0 x24_1)] (fun _ => True) (fun _ => False) rfl rfl ?aP (fun _ hk => hk.elim) ?aF ?aO ?aB ?aS ?aL ?_; (case aP => exact rfl); (case aB => exact hd_ HB.1); (case aF => exact (fun _ _ => trivial)); (case aO => exact (rd_ HO_6.1)); (case aS => exact (below_size (hd_ HB.1))); (case aL => have := LMc16.1; omega); intro v142 w17 ho hb hg hat; rw [← Ny141.1] at ho; replace HB := o_ (hb); have HO143 := o_ (ho); clear HO_6 ho hb hg hat))
                    go_roundg k1
                    case measure => have := HK1.1; omega
                    case rel => exact ⟨(y141), (wrap64 (x24_1 + 1)), rs_, H', ⟨by have := HK1.1; omega⟩, ⟨rd_ HO143.1⟩, ⟨hd_ HB.1⟩⟩
                  · rw [if_neg c16] at H
                    exact absurd H (by simp)
                · replace c15 := Bool.eq_false_iff.mpr c15
                  subst c15
                  have H1 := H
                  rw [if_neg nt_] at H1
                  clear H
                  have H := H1
                  clear H1
                  have H' := o_ H
                  clear H
                  have p139 : 0 ≤ (x24_1 : Int) := of_decide_eq_true as_
                  have q139 : x24_1 < (l0.length : Int) := of_decide_eq_true as_
                  obtain ⟨ad139, e139, hx139_0⟩ := Kd.at_int HR0.1 x24_1 p139 q139
                  cases e139
                  replace hx139_0 := cb_ HB.1 hx139_0
                  replace p139 := eq_true p139
                  replace q139 := eq_true q139
                  go_wp2_with (first | ((with_reducible refine g_ 55 ?_); refine gl_ (some 30) Try.func55 #[.slice A1 l1.length c1, .int .i64 (rd l0 x24_1)] ?_; (with_reducible refine (slices_Contains_int_int.calls k1 _ _ l1 (rd l0 x24_1) false _ (cd_ (Kd.C_below HR1.1 HB.1)) HC1.1 A14.1).mono ?_); rintro e w' ⟨rfl, ⟨nd, rfl⟩⟩; refine ⟨_, rfl, ?_⟩))
                  go_roundg k1
                  case measure => have := HK1.1; omega
                  case rel => exact ⟨(x6_1), (wrap64 (x24_1 + 1)), rs_, H', ⟨by have := HK1.1; omega⟩, ⟨rd_ HO_6.1⟩, ⟨hd_ HB.1⟩⟩
              · rw [if_neg c13] at H
                exact absurd H (by simp)
            · rw [if_neg c12] at H
              exact absurd H (by simp)
          · rw [if_neg c11] at H
            have c11b0 := decide_eq_false c11
            clear c11
            simp only [Option.some.injEq, Prod.mk.injEq] at H
            obtain ⟨rfl, rfl⟩ := H
            obtain ⟨Ao18, co18, eo18⟩ := Kd.R_slice HO_6.1
            subst eo18
            go_wp2
            go_ret2
            exact ⟨_, rt_, rd_ HO_6.1, hd_ HB.1⟩

end Go.Proofs.Ytglpmjcknhcjcaa.PFnTwins
