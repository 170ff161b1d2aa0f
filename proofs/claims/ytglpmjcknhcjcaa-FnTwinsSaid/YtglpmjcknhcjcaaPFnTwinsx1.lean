-- Written for this claim by a program (a printer turned to this claim); Lean checks it.
import Derived.Test.YtglpmjcknhcjcaaPFnTwinsx0
namespace Go.Proofs.Ytglpmjcknhcjcaa.PFnTwins
open Go.RowKit Go.Proofs.YtglpmjcknhcjcaaW.PrintWords Go.Proofs.YtglpmjcknhcjcaaW.PrintLast Go.Proofs.YtglpmjcknhcjcaaW.PrintMore
attribute [local go_sem] max2_int min2_int max_two min_two max_three min_three max_four min_four   -- for this text's walks alone
set_option linter.unusedVariables false
set_option linter.unusedSimpArgs false

/-! ### impl_InRange: function 61 -/
def impl_InRange.f (a0 : Int) (a1 : Int) (a2 : Int) : Option (Bool) := if a1 ≤ a0 then (some (decide (a0 ≤ a2))) else (some false)
set_option maxHeartbeats 8000000 in
set_option maxRecDepth 100000 in
theorem impl_InRange.calls (a0 : Int) (a1 : Int) (a2 : Int) (r : Bool) (w : World) (h : impl_InRange.f a0 a1 a2 = some r) :
    Calls Try.prog 61 #[.int .i64 a0, .int .i64 a1, .int .i64 a2] w fun e w' => e = .returned (.bool r) ∧ Drawn0 w w' := by
  have H : (if a1 ≤ a0 then (some (decide (a0 ≤ a2))) else (some false)) = some r := h
  clear h
  by_cases c4 : a1 ≤ a0
  · rw [if_pos c4] at H
    have c4b0 := decide_eq_true c4
    clear c4
    obtain rfl := Option.some.inj H
    go_enter Try.func61, Try.ntmps61
    go_wp2
    go_ret
    exact ⟨rs_, by repeat (first | exact Drawn0.refl _ | apply Drawn0.step)⟩
  · rw [if_neg c4] at H
    have c4b0 := decide_eq_false c4
    clear c4
    obtain rfl := Option.some.inj H
    go_enter Try.func61, Try.ntmps61
    go_wp2
    go_ret
    exact ⟨rs_, by repeat (first | exact Drawn0.refl _ | apply Drawn0.step)⟩

/-! ### impl_IsThing: function 86 -/
def impl_IsThing.f (a0_0 : Int) (a0_1 : Int) (a0_2 : Int) (a0_3 : Int) (a0_4 : Int) : Option (Bool) := (impl_InRange.f a0_0 1 999).bind fun t102 => (if t102 = true then ((impl_InRange.f a0_1 1 8).bind fun t103 => (if t103 = true then ((impl_InRange.f a0_2 0 7).bind fun t104 => (if t104 = true then ((impl_InRange.f a0_3 1 50).bind fun t105 => (if t105 = true then ((impl_InRange.f a0_4 0 10000000).bind fun t106 => (some t106)) else (some false))) else (some false))) else (some false))) else (some false))
set_option maxHeartbeats 8000000 in
set_option maxRecDepth 100000 in
theorem impl_IsThing.calls (a0_0 : Int) (a0_1 : Int) (a0_2 : Int) (a0_3 : Int) (a0_4 : Int) (r : Bool) (w : World) (h : impl_IsThing.f a0_0 a0_1 a0_2 a0_3 a0_4 = some r) :
    Calls Try.prog 86 #[.agg #[.int .i64 a0_0, .int .i64 a0_1, .int .i64 a0_2, .int .i64 a0_3, .int .i64 a0_4]] w fun e w' => e = .returned (.bool r) ∧ Below w.heap.size w w' := by
  have hu56 := Try.underlying56
  have HB := o_ (Below.refl w.heap.size w)
  have H := h
  unfold impl_IsThing.f at H
  clear h
  obtain ⟨t102, A2, H⟩ := ob_ H
  try dsimp only at H
  by_cases c3 : t102 = true
  · subst c3
    have H1 := H
    rw [if_pos rfl] at H1
    clear H
    have H := H1
    clear H1
    obtain ⟨t103, A4, H⟩ := ob_ H
    try dsimp only at H
    by_cases c5 : t103 = true
    · subst c5
      have H1 := H
      rw [if_pos rfl] at H1
      clear H
      have H := H1
      clear H1
      obtain ⟨t104, A6, H⟩ := ob_ H
      try dsimp only at H
      by_cases c7 : t104 = true
      · subst c7
        have H1 := H
        rw [if_pos rfl] at H1
        clear H
        have H := H1
        clear H1
        obtain ⟨t105, A8, H⟩ := ob_ H
        try dsimp only at H
        by_cases c9 : t105 = true
        · subst c9
          have H1 := H
          rw [if_pos rfl] at H1
          clear H
          have H := H1
          clear H1
          obtain ⟨t106, A10, H⟩ := ob_ H
          try dsimp only at H
          obtain rfl := Option.some.inj H
          go_enter Try.func86, Try.ntmps86
          go_wp2_with (first | ((with_reducible refine gate_dst (N := 1) rfl ?_); refine bx_ 1 #[.int .i64 a0_0, .int .i64 a0_1, .int .i64 a0_2, .int .i64 a0_3, .int .i64 a0_4] 56 ?_; intro gb101 hg w11 hbox hb; have BK101 := o_ (hbox); have GW101 := o_ ((y6_ : w.heap.size ≤ gb101)); replace HB := o_ (below_step (hd_ HB.1) hb); have GE101 := GW101; clear hb hbox hg; obtain ⟨_, _, _, _, _⟩ := e2_ BK101.1; obtain ⟨_, _, _, _, _⟩ := z3_ BK101.1) | ((with_reducible refine g_ 61 ?_); refine gl_ (some 5) Try.func61 #[.int .i64 a0_0, .int .i64 1, .int .i64 999] ?_; (with_reducible refine (impl_InRange.calls a0_0 1 999 true _ A2.1).mono ?_); rintro e w' ⟨rfl, ⟨nd, rfl⟩⟩; refine ⟨_, rfl, ?_⟩) | (go_at_call 61; (with_reducible refine (impl_InRange.calls a0_1 1 8 true _ A4.1).mono ?_); rintro e w' ⟨rfl, ⟨nd, rfl⟩⟩) | (go_at_call 61; (with_reducible refine (impl_InRange.calls a0_2 0 7 true _ A6.1).mono ?_); rintro e w' ⟨rfl, ⟨nd, rfl⟩⟩) | (go_at_call 61; (with_reducible refine (impl_InRange.calls a0_3 1 50 true _ A8.1).mono ?_); rintro e w' ⟨rfl, ⟨nd, rfl⟩⟩) | (go_at_call 61; (with_reducible refine (impl_InRange.calls a0_4 0 10000000 t106 _ A10.1).mono ?_); rintro e w' ⟨rfl, ⟨nd, rfl⟩⟩))
          go_ret
          exact ⟨rt_, wb_⟩
        · replace c9 := Bool.eq_false_iff.mpr c9
          subst c9
          have H1 := H
          rw [if_neg nt_] at H1
          clear H
          have H := H1
          clear H1
          obtain rfl := Option.some.inj H
          go_enter Try.func86, Try.ntmps86
          go_wp2_with (first | ((with_reducible refine gate_dst (N := 1) rfl ?_); refine bx_ 1 #[.int .i64 a0_0, .int .i64 a0_1, .int .i64 a0_2, .int .i64 a0_3, .int .i64 a0_4] 56 ?_; intro gb101 hg w13 hbox hb; have BK101 := o_ (hbox); have GW101 := o_ ((y6_ : w.heap.size ≤ gb101)); replace HB := o_ (below_step (hd_ HB.1) hb); have GE101 := GW101; clear hb hbox hg; obtain ⟨_, _, _, _, _⟩ := e2_ BK101.1; obtain ⟨_, _, _, _, _⟩ := z3_ BK101.1) | ((with_reducible refine g_ 61 ?_); refine gl_ (some 5) Try.func61 #[.int .i64 a0_0, .int .i64 1, .int .i64 999] ?_; (with_reducible refine (impl_InRange.calls a0_0 1 999 true _ A2.1).mono ?_); rintro e w' ⟨rfl, ⟨nd, rfl⟩⟩; refine ⟨_, rfl, ?_⟩) | (go_at_call 61; (with_reducible refine (impl_InRange.calls a0_1 1 8 true _ A4.1).mono ?_); rintro e w' ⟨rfl, ⟨nd, rfl⟩⟩) | (go_at_call 61; (with_reducible refine (impl_InRange.calls a0_2 0 7 true _ A6.1).mono ?_); rintro e w' ⟨rfl, ⟨nd, rfl⟩⟩) | (go_at_call 61; (with_reducible refine (impl_InRange.calls a0_3 1 50 false _ A8.1).mono ?_); rintro e w' ⟨rfl, ⟨nd, rfl⟩⟩))
          go_ret
          exact ⟨rt_, wb_⟩
      · replace c7 := Bool.eq_false_iff.mpr c7
        subst c7
        have H1 := H
        rw [if_neg nt_] at H1
        clear H
        have H := H1
        clear H1
        obtain rfl := Option.some.inj H
        go_enter Try.func86, Try.ntmps86
        go_wp2_with (first | ((with_reducible refine gate_dst (N := 1) rfl ?_); refine bx_ 1 #[.int .i64 a0_0, .int .i64 a0_1, .int .i64 a0_2, .int .i64 a0_3, .int .i64 a0_4] 56 ?_; intro gb101 hg w15 hbox hb; have BK101 := o_ (hbox); have GW101 := o_ ((y6_ : w.heap.size ≤ gb101)); replace HB := o_ (below_step (hd_ HB.1) hb); have GE101 := GW101; clear hb hbox hg; obtain ⟨_, _, _, _, _⟩ := e2_ BK101.1; obtain ⟨_, _, _, _, _⟩ := z3_ BK101.1) | ((with_reducible refine g_ 61 ?_); refine gl_ (some 5) Try.func61 #[.int .i64 a0_0, .int .i64 1, .int .i64 999] ?_; (with_reducible refine (impl_InRange.calls a0_0 1 999 true _ A2.1).mono ?_); rintro e w' ⟨rfl, ⟨nd, rfl⟩⟩; refine ⟨_, rfl, ?_⟩) | (go_at_call 61; (with_reducible refine (impl_InRange.calls a0_1 1 8 true _ A4.1).mono ?_); rintro e w' ⟨rfl, ⟨nd, rfl⟩⟩) | (go_at_call 61; (with_reducible refine (impl_InRange.calls a0_2 0 7 false _ A6.1).mono ?_); rintro e w' ⟨rfl, ⟨nd, rfl⟩⟩))
        go_ret
        exact ⟨rt_, wb_⟩
    · replace c5 := Bool.eq_false_iff.mpr c5
      subst c5
      have H1 := H
      rw [if_neg nt_] at H1
      clear H
      have H := H1
      clear H1
      obtain rfl := Option.some.inj H
      go_enter Try.func86, Try.ntmps86
      go_wp2_with (first | ((with_reducible refine gate_dst (N := 1) rfl ?_); refine bx_ 1 #[.int .i64 a0_0, .int .i64 a0_1, .int .i64 a0_2, .int .i64 a0_3, .int .i64 a0_4] 56 ?_; intro gb101 hg w17 hbox hb; have BK101 := o_ (hbox); have GW101 := o_ ((y6_ : w.heap.size ≤ gb101)); replace HB := o_ (below_step (hd_ HB.1) hb); have GE101 := GW101; clear hb hbox hg; obtain ⟨_, _, _, _, _⟩ := e2_ BK101.1; obtain ⟨_, _, _, _, _⟩ := z3_ BK101.1) | ((with_reducible refine g_ 61 ?_); refine gl_ (some 5) Try.func61 #[.int .i64 a0_0, .int .i64 1, .int .i64 999] ?_; (with_reducible refine (impl_InRange.calls a0_0 1 999 true _ A2.1).mono ?_); rintro e w' ⟨rfl, ⟨nd, rfl⟩⟩; refine ⟨_, rfl, ?_⟩) | (go_at_call 61; (with_reducible refine (impl_InRange.calls a0_1 1 8 false _ A4.1).mono ?_); rintro e w' ⟨rfl, ⟨nd, rfl⟩⟩))
      go_ret
      exact ⟨rt_, wb_⟩
  · replace c3 := Bool.eq_false_iff.mpr c3
    subst c3
    have H1 := H
    rw [if_neg nt_] at H1
    clear H
    have H := H1
    clear H1
    obtain rfl := Option.some.inj H
    go_enter Try.func86, Try.ntmps86
    go_wp2_with (first | ((with_reducible refine gate_dst (N := 1) rfl ?_); refine bx_ 1 #[.int .i64 a0_0, .int .i64 a0_1, .int .i64 a0_2, .int .i64 a0_3, .int .i64 a0_4] 56 ?_; intro gb101 hg w19 hbox hb; have BK101 := o_ (hbox); have GW101 := o_ ((y6_ : w.heap.size ≤ gb101)); replace HB := o_ (below_step (hd_ HB.1) hb); have GE101 := GW101; clear hb hbox hg; obtain ⟨_, _, _, _, _⟩ := e2_ BK101.1; obtain ⟨_, _, _, _, _⟩ := z3_ BK101.1) | ((with_reducible refine g_ 61 ?_); refine gl_ (some 5) Try.func61 #[.int .i64 a0_0, .int .i64 1, .int .i64 999] ?_; (with_reducible refine (impl_InRange.calls a0_0 1 999 false _ A2.1).mono ?_); rintro e w' ⟨rfl, ⟨nd, rfl⟩⟩; refine ⟨_, rfl, ?_⟩))
    go_ret
    exact ⟨rt_, wb_⟩

/-! ### impl_IsFind: function 60 -/
def impl_IsFind.f (a0_0 : Int) (a0_1 : Int) (a0_2 : Int) (a0_3 : Int) (a0_4 : Int) (a0_5 : Int) (a0_6 : Int) (a0_7 : Int) : Option (Bool) := (impl_IsThing.f a0_0 a0_1 a0_2 a0_3 a0_4).bind fun t108 => (if t108 = true then ((impl_InRange.f a0_5 1 30).bind fun t109 => (if t109 = true then ((impl_InRange.f a0_6 0 100000).bind fun t110 => (if t110 = true then ((impl_InRange.f a0_7 0 999).bind fun t111 => (some t111)) else (some false))) else (some false))) else (some false))
set_option maxHeartbeats 8000000 in
set_option maxRecDepth 100000 in
theorem impl_IsFind.calls (a0_0 : Int) (a0_1 : Int) (a0_2 : Int) (a0_3 : Int) (a0_4 : Int) (a0_5 : Int) (a0_6 : Int) (a0_7 : Int) (r : Bool) (w : World) (h : impl_IsFind.f a0_0 a0_1 a0_2 a0_3 a0_4 a0_5 a0_6 a0_7 = some r) :
    Calls Try.prog 60 #[.agg #[.int .i64 a0_0, .int .i64 a0_1, .int .i64 a0_2, .int .i64 a0_3, .int .i64 a0_4, .int .i64 a0_5, .int .i64 a0_6, .int .i64 a0_7]] w fun e w' => e = .returned (.bool r) ∧ Below w.heap.size w w' := by
  have hu58 := Try.underlying58
  have hu56 := Try.underlying56
  have HB := o_ (Below.refl w.heap.size w)
  have H := h
  unfold impl_IsFind.f at H
  clear h
  obtain ⟨t108, A2, H⟩ := ob_ H
  try dsimp only at H
  by_cases c3 : t108 = true
  · subst c3
    have H1 := H
    rw [if_pos rfl] at H1
    clear H
    have H := H1
    clear H1
    obtain ⟨t109, A4, H⟩ := ob_ H
    try dsimp only at H
    by_cases c5 : t109 = true
    · subst c5
      have H1 := H
      rw [if_pos rfl] at H1
      clear H
      have H := H1
      clear H1
      obtain ⟨t110, A6, H⟩ := ob_ H
      try dsimp only at H
      by_cases c7 : t110 = true
      · subst c7
        have H1 := H
        rw [if_pos rfl] at H1
        clear H
        have H := H1
        clear H1
        obtain ⟨t111, A8, H⟩ := ob_ H
        try dsimp only at H
        obtain rfl := Option.some.inj H
        go_enter Try.func60, Try.ntmps60
        go_wp2_with (first | ((with_reducible refine gate_dst (N := 1) rfl ?_); refine bx_ 1 #[.int .i64 a0_0, .int .i64 a0_1, .int .i64 a0_2, .int .i64 a0_3, .int .i64 a0_4, .int .i64 a0_5, .int .i64 a0_6, .int .i64 a0_7] 58 ?_; intro gb107 hg w9 hbox hb; have BK107 := o_ (hbox); have GW107 := o_ ((y6_ : w.heap.size ≤ gb107)); replace HB := o_ (below_step (hd_ HB.1) hb); have GE107 := GW107; clear hb hbox hg; obtain ⟨_, _, _, _, _, _, _, _⟩ := e4_ BK107.1; obtain ⟨_, _, _, _, _, _, _, _⟩ := z5_ BK107.1) | ((with_reducible refine g_ 86 ?_); refine gl_ (some 5) Try.func86 #[.agg #[.int .i64 a0_0, .int .i64 a0_1, .int .i64 a0_2, .int .i64 a0_3, .int .i64 a0_4]] ?_; (with_reducible refine (impl_IsThing.calls a0_0 a0_1 a0_2 a0_3 a0_4 true _ A2.1).mono ?_); rintro e w11 ⟨rfl, hb⟩; refine ⟨_, rfl, ?_⟩; replace BK107 := o_ (blk_below (bd_ BK107.1) hb); replace HB := o_ (below_step wb_ hb); (try clear hb); obtain ⟨_, _, _, _, _, _, _, _⟩ := e4_ BK107.1; obtain ⟨_, _, _, _, _, _, _, _⟩ := z5_ BK107.1) | (go_at_call 61; (with_reducible refine (impl_InRange.calls a0_5 1 30 true _ A4.1).mono ?_); rintro e w' ⟨rfl, ⟨nd, rfl⟩⟩) | (go_at_call 61; (with_reducible refine (impl_InRange.calls a0_6 0 100000 true _ A6.1).mono ?_); rintro e w' ⟨rfl, ⟨nd, rfl⟩⟩) | (go_at_call 61; (with_reducible refine (impl_InRange.calls a0_7 0 999 t111 _ A8.1).mono ?_); rintro e w' ⟨rfl, ⟨nd, rfl⟩⟩))
        go_ret
        exact ⟨rt_, wb_⟩
      · replace c7 := Bool.eq_false_iff.mpr c7
        subst c7
        have H1 := H
        rw [if_neg nt_] at H1
        clear H
        have H := H1
        clear H1
        obtain rfl := Option.some.inj H
        go_enter Try.func60, Try.ntmps60
        go_wp2_with (first | ((with_reducible refine gate_dst (N := 1) rfl ?_); refine bx_ 1 #[.int .i64 a0_0, .int .i64 a0_1, .int .i64 a0_2, .int .i64 a0_3, .int .i64 a0_4, .int .i64 a0_5, .int .i64 a0_6, .int .i64 a0_7] 58 ?_; intro gb107 hg w13 hbox hb; have BK107 := o_ (hbox); have GW107 := o_ ((y6_ : w.heap.size ≤ gb107)); replace HB := o_ (below_step (hd_ HB.1) hb); have GE107 := GW107; clear hb hbox hg; obtain ⟨_, _, _, _, _, _, _, _⟩ := e4_ BK107.1; obtain ⟨_, _, _, _, _, _, _, _⟩ := z5_ BK107.1) | ((with_reducible refine g_ 86 ?_); refine gl_ (some 5) Try.func86 #[.agg #[.int .i64 a0_0, .int .i64 a0_1, .int .i64 a0_2, .int .i64 a0_3, .int .i64 a0_4]] ?_; (with_reducible refine (impl_IsThing.calls a0_0 a0_1 a0_2 a0_3 a0_4 true _ A2.1).mono ?_); rintro e w15 ⟨rfl, hb⟩; refine ⟨_, rfl, ?_⟩; replace BK107 := o_ (blk_below (bd_ BK107.1) hb); replace HB := o_ (below_step wb_ hb); (try clear hb); obtain ⟨_, _, _, _, _, _, _, _⟩ := e4_ BK107.1; obtain ⟨_, _, _, _, _, _, _, _⟩ := z5_ BK107.1) | (go_at_call 61; (with_reducible refine (impl_InRange.calls a0_5 1 30 true _ A4.1).mono ?_); rintro e w' ⟨rfl, ⟨nd, rfl⟩⟩) | (go_at_call 61; (with_reducible refine (impl_InRange.calls a0_6 0 100000 false _ A6.1).mono ?_); rintro e w' ⟨rfl, ⟨nd, rfl⟩⟩))
        go_ret
        exact ⟨rt_, wb_⟩
    · replace c5 := Bool.eq_false_iff.mpr c5
      subst c5
      have H1 := H
      rw [if_neg nt_] at H1
      clear H
      have H := H1
      clear H1
      obtain rfl := Option.some.inj H
      go_enter Try.func60, Try.ntmps60
      go_wp2_with (first | ((with_reducible refine gate_dst (N := 1) rfl ?_); refine bx_ 1 #[.int .i64 a0_0, .int .i64 a0_1, .int .i64 a0_2, .int .i64 a0_3, .int .i64 a0_4, .int .i64 a0_5, .int .i64 a0_6, .int .i64 a0_7] 58 ?_; intro gb107 hg w17 hbox hb; have BK107 := o_ (hbox); have GW107 := o_ ((y6_ : w.heap.size ≤ gb107)); replace HB := o_ (below_step (hd_ HB.1) hb); have GE107 := GW107; clear hb hbox hg; obtain ⟨_, _, _, _, _, _, _, _⟩ := e4_ BK107.1; obtain ⟨_, _, _, _, _, _, _, _⟩ := z5_ BK107.1) | ((with_reducible refine g_ 86 ?_); refine gl_ (some 5) Try.func86 #[.agg #[.int .i64 a0_0, .int .i64 a0_1, .int .i64 a0_2, .int .i64 a0_3, .int .i64 a0_4]] ?_; (with_reducible refine (impl_IsThing.calls a0_0 a0_1 a0_2 a0_3 a0_4 true _ A2.1).mono ?_); rintro e w19 ⟨rfl, hb⟩; refine ⟨_, rfl, ?_⟩; replace BK107 := o_ (blk_below (bd_ BK107.1) hb); replace HB := o_ (below_step wb_ hb); (try clear hb); obtain ⟨_, _, _, _, _, _, _, _⟩ := e4_ BK107.1; obtain ⟨_, _, _, _, _, _, _, _⟩ := z5_ BK107.1) | (go_at_call 61; (with_reducible refine (impl_InRange.calls a0_5 1 30 false _ A4.1).mono ?_); rintro e w' ⟨rfl, ⟨nd, rfl⟩⟩))
      go_ret
      exact ⟨rt_, wb_⟩
  · replace c3 := Bool.eq_false_iff.mpr c3
    subst c3
    have H1 := H
    rw [if_neg nt_] at H1
    clear H
    have H := H1
    clear H1
    obtain rfl := Option.some.inj H
    go_enter Try.func60, Try.ntmps60
    go_wp2_with (first | ((with_reducible refine gate_dst (N := 1) rfl ?_); refine bx_ 1 #[.int .i64 a0_0, .int .i64 a0_1, .int .i64 a0_2, .int .i64 a0_3, .int .i64 a0_4, .int .i64 a0_5, .int .i64 a0_6, .int .i64 a0_7] 58 ?_; intro gb107 hg w21 hbox hb; have BK107 := o_ (hbox); have GW107 := o_ ((y6_ : w.heap.size ≤ gb107)); replace HB := o_ (below_step (hd_ HB.1) hb); have GE107 := GW107; clear hb hbox hg; obtain ⟨_, _, _, _, _, _, _, _⟩ := e4_ BK107.1; obtain ⟨_, _, _, _, _, _, _, _⟩ := z5_ BK107.1) | ((with_reducible refine g_ 86 ?_); refine gl_ (some 5) Try.func86 #[.agg #[.int .i64 a0_0, .int .i64 a0_1, .int .i64 a0_2, .int .i64 a0_3, .int .i64 a0_4]] ?_; (with_reducible refine (impl_IsThing.calls a0_0 a0_1 a0_2 a0_3 a0_4 false _ A2.1).mono ?_); rintro e w23 ⟨rfl, hb⟩; refine ⟨_, rfl, ?_⟩; replace BK107 := o_ (blk_below (bd_ BK107.1) hb); replace HB := o_ (below_step wb_ hb); (try clear hb)))
    go_ret
    exact ⟨rt_, wb_⟩

end Go.Proofs.Ytglpmjcknhcjcaa.PFnTwins
