-- Written for this claim by a program (a printer turned to this claim); Lean checks it.
import Derived.Test.YtfghapankndioaaPFnExactPutSecretx0
namespace Go.Proofs.Ytfghapankndioaa.PFnExactPutSecret
open Go.RowKit Go.Proofs.YtfghapankndioaaW.PrintWords Go.Proofs.YtfghapankndioaaW.PrintLast Go.Proofs.YtfghapankndioaaW.PrintMore
attribute [local go_sem] max2_int min2_int max_two min_two max_three min_three max_four min_four   -- for this text's walks alone
set_option linter.unusedVariables false
set_option linter.unusedSimpArgs false

/-! ### impl_InRange: function 44 -/
def impl_InRange.f (a0 : Int) (a1 : Int) (a2 : Int) : Option (Bool) := if a1 ≤ a0 then (some (decide (a0 ≤ a2))) else (some false)
set_option maxHeartbeats 8000000 in
set_option maxRecDepth 100000 in
theorem impl_InRange.calls (a0 : Int) (a1 : Int) (a2 : Int) (r : Bool) (w : World) (h : impl_InRange.f a0 a1 a2 = some r) :
    Calls Try.prog 44 #[.int .i64 a0, .int .i64 a1, .int .i64 a2] w fun e w' => e = .returned (.bool r) ∧ Drawn0 w w' := by
  have H : (if a1 ≤ a0 then (some (decide (a0 ≤ a2))) else (some false)) = some r := h
  clear h
  by_cases c4 : a1 ≤ a0
  · rw [if_pos c4] at H
    have c4b0 : decide (a1 ≤ a0) = true := decide_eq_true c4
    clear c4
    obtain rfl := Option.some.inj H
    go_enter Try.func44, Try.ntmps44
    go_wp2
    go_ret
    exact ⟨by first | rfl | (simp; done) | (simp [*]; done), by repeat (first | exact Drawn0.refl _ | apply Drawn0.step)⟩
  · rw [if_neg c4] at H
    have c4b0 : decide (a1 ≤ a0) = false := decide_eq_false c4
    clear c4
    obtain rfl := Option.some.inj H
    go_enter Try.func44, Try.ntmps44
    go_wp2
    go_ret
    exact ⟨by first | rfl | (simp; done) | (simp [*]; done), by repeat (first | exact Drawn0.refl _ | apply Drawn0.step)⟩

/-! ### impl_AreMarks: function 45 -/
def impl_AreMarks.l0 : Nat → List (S67) → List (S67) → Int → Int → Option (Bool)
 | 0, _, _, _, _ => none
 | k + 1, x0, x8, x9, x10 => if x10 < x9 then (if 0 ≤ x10 then (if x10 < (x8.length : Int) then ((impl_InRange.f ((rd_T67 x8 x10).f0) 1 20).bind fun t208 => (if t208 = true then ((impl_InRange.f ((rd_T67 x8 x10).f1) 0 99).bind fun t209 => (if t209 = true then (if x10 > 0 then (if 0 ≤ (wrap64 (x10 - 1)) then (if (wrap64 (x10 - 1)) < (x0.length : Int) then (if ((rd_T67 x8 x10).f0) ≤ ((rd_T67 x0 (wrap64 (x10 - 1))).f0) then (some false) else (impl_AreMarks.l0 k x0 x8 x9 (wrap64 (x10 + 1)))) else (none)) else (none)) else (impl_AreMarks.l0 k x0 x8 x9 (wrap64 (x10 + 1)))) else (some false))) else (some false))) else (none)) else (none)) else (some true)
def impl_AreMarks.f (k : Nat) (l0 : List (S67)) : Option (Bool) := if (l0.length : Int) > 8 then (some false) else (impl_AreMarks.l0 k l0 l0 (l0.length : Int) 0)
theorem impl_AreMarks.mono_l : ∀ k, (∀ y0 y1 y2 y3, LeO (impl_AreMarks.l0 k y0 y1 y2 y3) (impl_AreMarks.l0 (k + 1) y0 y1 y2 y3))
 | 0 => fun _ _ _ _ r h => by simp [impl_AreMarks.l0] at h
 | k + 1 => by
  have ih0 := impl_AreMarks.mono_l k
  ·
   intro y0 y1 y2 y3
   unfold impl_AreMarks.l0
   repeat' first
   | (with_reducible exact ih0 _ _ _ _)
   | (with_reducible exact LeO.refl _)
   | (with_reducible exact LeO.none _)
   | (with_reducible refine LeO.ite ?_ ?_)
   | (with_reducible refine LeO.bind ?_ (fun _ => ?_))
   | exact ih0 _ _ _ _
   | exact LeO.none _
   | refine LeO.ite ?_ ?_
   | refine LeO.bind ?_ (fun _ => ?_)
theorem impl_AreMarks.mono : ∀ a0 k, LeO (impl_AreMarks.f k a0) (impl_AreMarks.f (k + 1) a0) := by
 intro a0 k
 have ih0 := impl_AreMarks.mono_l k
 unfold impl_AreMarks.f
 repeat' first
   | (with_reducible exact ih0 _ _ _ _)
   | (with_reducible exact LeO.refl _)
   | (with_reducible exact LeO.none _)
   | (with_reducible refine LeO.ite ?_ ?_)
   | (with_reducible refine LeO.bind ?_ (fun _ => ?_))
   | exact ih0 _ _ _ _
   | exact LeO.none _
   | refine LeO.ite ?_ ?_
   | refine LeO.bind ?_ (fun _ => ?_)
theorem y75_ {P : Prop} (h : P := by first | (rw [add_block]; exact hn210_0) | (show (Addr.add _ _).block ≠ _; rw [add_block]; exact hn210_0) | exact hn210_0) : P := h
theorem y76_ {P : Prop} (h : P := by first | (rw [add_block]; exact hn210_1) | (show (Addr.add _ _).block ≠ _; rw [add_block]; exact hn210_1) | exact hn210_1) : P := h
theorem y78_ {P : Prop} (h : P := by rw [hg]; exact (below_size (hd_ HB.out))) : P := h
theorem y79_ {P : Prop} (h : P := by repeat (first | (with_reducible first | exact HB.out | apply below_alloc | apply pw_below_drewN | apply below_drew1 | refine below_set ?_ GE207.out) | exact HB.out)) : P := h
set_option maxHeartbeats 8000000 in
set_option maxRecDepth 100000 in
theorem impl_AreMarks.calls (k : Nat) (A0 : Option Addr) (c0 : Nat) (l0 : List (S67)) (r : Bool) (w : World) (hr0 : Kd.C k67 w A0 l0.length l0) (hc0 : l0.length ≤ c0) (h : impl_AreMarks.f k l0 = some r) :
  Calls Try.prog 45 #[.slice A0 l0.length c0] w fun e w' => e = .returned (.bool r) ∧ Below w.heap.size w w' := by
 have hu67 := Try.underlying67
 have HR0 := Aside0.mk hr0
 have HC0 := Aside0.mk hc0
 clear hr0 hc0
 have HB := Aside0.mk (Below.refl w.heap.size w)
 have H : (if (l0.length : Int) > 8 then (some false) else (impl_AreMarks.l0 k l0 l0 (l0.length : Int) 0)) = some r := h
 clear h
 by_cases c2 : (l0.length : Int) > 8
 ·
  rw [if_pos c2] at H
  have c2b0 : decide (8 < (l0.length : Int)) = true := decide_eq_true c2
  have c2b1 : decide (8 < l0.length) = true := decide_eq_true (by omega)
  clear c2
  obtain rfl := Option.some.inj H
  go_enter Try.func45, Try.ntmps45
  go_wp2
  repeat (go_quiet (fail); try go_wp2)
  go_ret
  exact ⟨by first | rfl | (simp [errW_none, errW_some] <;> rfl) | (simp [*, errW_none, errW_some] <;> rfl), hd_ HB.out⟩
 ·
  rw [if_neg c2] at H
  have c2b0 : decide (8 < (l0.length : Int)) = false := decide_eq_false c2
  have c2b1 : decide (8 < l0.length) = false := decide_eq_false (by omega)
  clear c2
  have H' := Aside0.mk H
  clear H
  go_enter Try.func45, Try.ntmps45
  go_wp2
  repeat (go_quiet (fail); try go_wp2)
  go_loopg [10] k (fun kq v10 w' => ∃ (x10_1 : Int), v10 = .int .i64 x10_1 ∧ Aside0 (impl_AreMarks.l0 kq l0 l0 (l0.length : Int) x10_1 = some r) ∧ Aside0 (kq ≤ k) ∧ Aside0 (Below w.heap.size w w'))
  case atStart => exact ⟨(0), (by first | rfl | (simp; done) | (simp [*]; done)), H', ⟨Nat.le_refl _⟩, ⟨hd_ HB.out⟩⟩
  case round =>
   clear H'
   try clear c2
   try clear c2b0
   try clear c2b1
   try clear p2
   obtain ⟨x10_1, rfl, HA, HK1, HB⟩ := hrel
   cases gk with
   | zero => exact absurd HA.out (by simp [impl_AreMarks.l0])
   | succ k1 =>
    have H := HA.out
    clear HA
    simp only [impl_AreMarks.l0] at H
    by_cases c3 : x10_1 < (l0.length : Int)
    ·
     rw [if_pos c3] at H
     have c3b0 : decide (x10_1 < (l0.length : Int)) = true := decide_eq_true c3
     clear c3
     by_cases c4 : 0 ≤ x10_1
     ·
      rw [if_pos c4] at H
      have c4b0 : decide (0 ≤ x10_1) = true := decide_eq_true c4
      clear c4
      by_cases c5 : x10_1 < (l0.length : Int)
      ·
       rw [if_pos c5] at H
       have c5b0 : decide (x10_1 < (l0.length : Int)) = true := decide_eq_true c5
       clear c5
       replace H := Option.bind_eq_some_iff.mp H
       obtain ⟨t208, A60, H⟩ := H
       replace H : (if t208 = true then ((impl_InRange.f ((rd_T67 l0 x10_1).f1) 0 99).bind fun t209 => (if t209 = true then (if x10_1 > 0 then (if 0 ≤ (wrap64 (x10_1 - 1)) then (if (wrap64 (x10_1 - 1)) < (l0.length : Int) then (if ((rd_T67 l0 x10_1).f0) ≤ ((rd_T67 l0 (wrap64 (x10_1 - 1))).f0) then (some false) else (impl_AreMarks.l0 k1 l0 l0 (l0.length : Int) (wrap64 (x10_1 + 1)))) else (none)) else (none)) else (impl_AreMarks.l0 k1 l0 l0 (l0.length : Int) (wrap64 (x10_1 + 1)))) else (some false))) else (some false)) = some r := H
       have A6 := Aside0.mk A60
       clear A60
       by_cases c7 : t208 = true
       ·
        subst c7
        have H1 : ((impl_InRange.f ((rd_T67 l0 x10_1).f1) 0 99).bind fun t209 => (if t209 = true then (if x10_1 > 0 then (if 0 ≤ (wrap64 (x10_1 - 1)) then (if (wrap64 (x10_1 - 1)) < (l0.length : Int) then (if ((rd_T67 l0 x10_1).f0) ≤ ((rd_T67 l0 (wrap64 (x10_1 - 1))).f0) then (some false) else (impl_AreMarks.l0 k1 l0 l0 (l0.length : Int) (wrap64 (x10_1 + 1)))) else (none)) else (none)) else (impl_AreMarks.l0 k1 l0 l0 (l0.length : Int) (wrap64 (x10_1 + 1)))) else (some false))) = some r := by rw [if_pos rfl] at H; exact H
        clear H
        have H := H1
        clear H1
        replace H := Option.bind_eq_some_iff.mp H
        obtain ⟨t209, A80, H⟩ := H
        replace H : (if t209 = true then (if x10_1 > 0 then (if 0 ≤ (wrap64 (x10_1 - 1)) then (if (wrap64 (x10_1 - 1)) < (l0.length : Int) then (if ((rd_T67 l0 x10_1).f0) ≤ ((rd_T67 l0 (wrap64 (x10_1 - 1))).f0) then (some false) else (impl_AreMarks.l0 k1 l0 l0 (l0.length : Int) (wrap64 (x10_1 + 1)))) else (none)) else (none)) else (impl_AreMarks.l0 k1 l0 l0 (l0.length : Int) (wrap64 (x10_1 + 1)))) else (some false)) = some r := H
        have A8 := Aside0.mk A80
        clear A80
        by_cases c9 : t209 = true
        ·
         subst c9
         have H1 : (if x10_1 > 0 then (if 0 ≤ (wrap64 (x10_1 - 1)) then (if (wrap64 (x10_1 - 1)) < (l0.length : Int) then (if ((rd_T67 l0 x10_1).f0) ≤ ((rd_T67 l0 (wrap64 (x10_1 - 1))).f0) then (some false) else (impl_AreMarks.l0 k1 l0 l0 (l0.length : Int) (wrap64 (x10_1 + 1)))) else (none)) else (none)) else (impl_AreMarks.l0 k1 l0 l0 (l0.length : Int) (wrap64 (x10_1 + 1)))) = some r := by rw [if_pos rfl] at H; exact H
         clear H
         have H := H1
         clear H1
         by_cases c10 : x10_1 > 0
         ·
          rw [if_pos c10] at H
          have c10b0 : decide (0 < x10_1) = true := decide_eq_true c10
          clear c10
          obtain ⟨ji11, hji11⟩ : ∃ j_ : Int, (wrap64 (x10_1 - 1)) = j_ := ⟨_, rfl⟩
          replace H : (if 0 ≤ (ji11) then (if (ji11) < (l0.length : Int) then (if ((rd_T67 l0 x10_1).f0) ≤ ((rd_T67 l0 (ji11)).f0) then (some false) else (impl_AreMarks.l0 k1 l0 l0 (l0.length : Int) (wrap64 (x10_1 + 1)))) else (none)) else (none)) = some r := by first | (rw [hji11] at H; exact H) | (simp only [hji11] at H ⊢; exact H)
          (try rw [hji11] at A6)
          (try rw [hji11] at A8)
          have hji11w : (IntKind.i64.wrap (x10_1 - 1)) = ji11 := (i64_w _).trans hji11
          by_cases c12 : 0 ≤ (ji11)
          ·
           rw [if_pos c12] at H
           have c12b0 : decide (0 ≤ (ji11)) = true := decide_eq_true c12
           clear c12
           by_cases c13 : (ji11) < (l0.length : Int)
           ·
            rw [if_pos c13] at H
            have c13b0 : decide ((ji11) < (l0.length : Int)) = true := decide_eq_true c13
            clear c13
            by_cases c14 : ((rd_T67 l0 x10_1).f0) ≤ ((rd_T67 l0 (ji11)).f0)
            ·
             rw [if_pos c14] at H
             have c14b0 : decide (((rd_T67 l0 x10_1).f0) ≤ ((rd_T67 l0 (ji11)).f0)) = true := decide_eq_true c14
             clear c14
             obtain rfl := Option.some.inj H
             have p206 : 0 ≤ (x10_1 : Int) := of_decide_eq_true as_
             have q206 : x10_1 < (l0.length : Int) := of_decide_eq_true as_
             obtain ⟨ad206, e206, hx206_0, hx206_1⟩ := at_T67 HR0.out x10_1 p206 q206
             cases e206
             replace hx206_0 := cb_ HB.out hx206_0
             replace hx206_1 := cb_ HB.out hx206_1
             replace p206 := eq_true p206
             replace q206 := eq_true q206
             go_wp2_with (first | ((with_reducible refine gate_dst (N := 4) rfl ?_); refine box_event ?hg (N := 4) ?hd (cs := #[.int .i64 0, .int .i64 0]) (t := 67) ?hr ?_; (case hd => rfl); (case hg => rfl); (case hr => first | (go_simp; done) | (go_simp; rfl)); intro gb207 hg w15 hbox hb; have n0_ := Aside0.mk (below_step (hd_ HB.out) hb); have BK207 := Aside0.mk (hbox); have GW207 := Aside0.mk ((y78_ : w.heap.size ≤ gb207)); have GE207 := Aside0.mk ((y78_ : w.heap.size ≤ gb207)); clear HB; have HB := n0_; clear n0_; clear hb hbox hg; have hcz16_0 : w15.cell? ⟨gb207, 0, none⟩ = some (.int .i64 0) := (blk_cell BK207.out 0).trans rfl; have hcz16_1 : w15.cell? ⟨gb207, 1, none⟩ = some (.int .i64 0) := (blk_cell BK207.out 1).trans rfl; have hfz16_0 := blk_frozen BK207.out 0; have hfz16_1 := blk_frozen BK207.out 1) | (go_at_call 44; (with_reducible refine (impl_InRange.calls ((rd_T67 l0 x10_1).f0) 1 20 true _ A6.out).mono ?_); rintro e w' ⟨rfl, ⟨nd, rfl⟩⟩; (try first | exact ⟨rfl, _, World.drewN_drewN _ _ _⟩ | exact ⟨rfl, _, Eq.trans (World.drewN_drewN _ _ _) (congrArg (World.drewN _) (Nat.add_assoc _ _ _))⟩)) | (go_at_call 44; (with_reducible refine (impl_InRange.calls ((rd_T67 l0 x10_1).f1) 0 99 true _ A8.out).mono ?_); rintro e w' ⟨rfl, ⟨nd, rfl⟩⟩; (try first | exact ⟨rfl, _, World.drewN_drewN _ _ _⟩ | exact ⟨rfl, _, Eq.trans (World.drewN_drewN _ _ _) (congrArg (World.drewN _) (Nat.add_assoc _ _ _))⟩); all_goals (have p210 : 0 ≤ ((ji11) : Int) := of_decide_eq_true as_; have q210 : (ji11) < (l0.length : Int) := of_decide_eq_true as_; obtain ⟨ad210, e210, hx210_0, hx210_1⟩ := at_T67 HR0.out (ji11) p210 q210; obtain rfl : ad206 = ad210 := (by injection e210); have hn210_0 : ad206.block ≠ gb207 := Nat.ne_of_lt (Nat.lt_of_lt_of_le (by have := World.block_lt_of_cell? _ _ hx210_0; first | rwa [add_block] at this | exact this) GW207.out); have hn210_1 : ad206.block ≠ gb207 := Nat.ne_of_lt (Nat.lt_of_lt_of_le (by have := World.block_lt_of_cell? _ _ hx210_0; first | rwa [add_block] at this | exact this) GW207.out); replace hx210_0 := cb_ HB.out hx210_0; replace hx210_1 := cb_ HB.out hx210_1; replace hx210_0 := (cell_far (p := ⟨gb207, 0, none⟩) y75_ (.int .i64 ((rd_T67 l0 x10_1).f0))).trans hx210_0; replace hx210_1 := (cell_far (p := ⟨gb207, 0, none⟩) y75_ (.int .i64 ((rd_T67 l0 x10_1).f0))).trans hx210_1; replace hx210_0 := (cell_far (p := ⟨gb207, 1, none⟩) y76_ (.int .i64 ((rd_T67 l0 x10_1).f1))).trans hx210_0; replace hx210_1 := (cell_far (p := ⟨gb207, 1, none⟩) y76_ (.int .i64 ((rd_T67 l0 x10_1).f1))).trans hx210_1; (try have hy210_0 := fun (n_ : Nat) => (show ((((w15.drewN n_).setCell ⟨gb207, 0, none⟩ (.int .i64 ((rd_T67 l0 x10_1).f0))).setCell ⟨gb207, 1, none⟩ (.int .i64 ((rd_T67 l0 x10_1).f1)))).cell? _ = some _ from hx210_0)); (try have hy210_1 := fun (n_ : Nat) => (show ((((w15.drewN n_).setCell ⟨gb207, 0, none⟩ (.int .i64 ((rd_T67 l0 x10_1).f0))).setCell ⟨gb207, 1, none⟩ (.int .i64 ((rd_T67 l0 x10_1).f1)))).cell? _ = some _ from hx210_1)); clear hn210_0; clear hn210_1; replace p210 := eq_true p210; replace q210 := eq_true q210)))
             repeat (go_quiet (first | ((with_reducible refine gate_dst (N := 4) rfl ?_); refine box_event ?hg (N := 4) ?hd (cs := #[.int .i64 0, .int .i64 0]) (t := 67) ?hr ?_; (case hd => rfl); (case hg => rfl); (case hr => first | (go_simp; done) | (go_simp; rfl)); intro gb207 hg w15 hbox hb; have n0_ := Aside0.mk (below_step (hd_ HB.out) hb); have BK207 := Aside0.mk (hbox); have GW207 := Aside0.mk ((y78_ : w.heap.size ≤ gb207)); have GE207 := Aside0.mk ((y78_ : w.heap.size ≤ gb207)); clear HB; have HB := n0_; clear n0_; clear hb hbox hg; have hcz16_0 : w15.cell? ⟨gb207, 0, none⟩ = some (.int .i64 0) := (blk_cell BK207.out 0).trans rfl; have hcz16_1 : w15.cell? ⟨gb207, 1, none⟩ = some (.int .i64 0) := (blk_cell BK207.out 1).trans rfl; have hfz16_0 := blk_frozen BK207.out 0; have hfz16_1 := blk_frozen BK207.out 1) | (go_at_call 44; (with_reducible refine (impl_InRange.calls ((rd_T67 l0 x10_1).f0) 1 20 true _ A6.out).mono ?_); rintro e w' ⟨rfl, ⟨nd, rfl⟩⟩; (try first | exact ⟨rfl, _, World.drewN_drewN _ _ _⟩ | exact ⟨rfl, _, Eq.trans (World.drewN_drewN _ _ _) (congrArg (World.drewN _) (Nat.add_assoc _ _ _))⟩)) | (go_at_call 44; (with_reducible refine (impl_InRange.calls ((rd_T67 l0 x10_1).f1) 0 99 true _ A8.out).mono ?_); rintro e w' ⟨rfl, ⟨nd, rfl⟩⟩; (try first | exact ⟨rfl, _, World.drewN_drewN _ _ _⟩ | exact ⟨rfl, _, Eq.trans (World.drewN_drewN _ _ _) (congrArg (World.drewN _) (Nat.add_assoc _ _ _))⟩); all_goals (have p210 : 0 ≤ ((ji11) : Int) := of_decide_eq_true as_; have q210 : (ji11) < (l0.length : Int) := of_decide_eq_true as_; obtain ⟨ad210, e210, hx210_0, hx210_1⟩ := at_T67 HR0.out (ji11) p210 q210; obtain rfl : ad206 = ad210 := (by injection e210); have hn210_0 : ad206.block ≠ gb207 := Nat.ne_of_lt (Nat.lt_of_lt_of_le (by have := World.block_lt_of_cell? _ _ hx210_0; first | rwa [add_block] at this | exact this) GW207.out); have hn210_1 : ad206.block ≠ gb207 := Nat.ne_of_lt (Nat.lt_of_lt_of_le (by have := World.block_lt_of_cell? _ _ hx210_0; first | rwa [add_block] at this | exact this) GW207.out); replace hx210_0 := cb_ HB.out hx210_0; replace hx210_1 := cb_ HB.out hx210_1; replace hx210_0 := (cell_far (p := ⟨gb207, 0, none⟩) y75_ (.int .i64 ((rd_T67 l0 x10_1).f0))).trans hx210_0; replace hx210_1 := (cell_far (p := ⟨gb207, 0, none⟩) y75_ (.int .i64 ((rd_T67 l0 x10_1).f0))).trans hx210_1; replace hx210_0 := (cell_far (p := ⟨gb207, 1, none⟩) y76_ (.int .i64 ((rd_T67 l0 x10_1).f1))).trans hx210_0; replace hx210_1 := (cell_far (p := ⟨gb207, 1, none⟩) y76_ (.int .i64 ((rd_T67 l0 x10_1).f1))).trans hx210_1; (try have hy210_0 := fun (n_ : Nat) => (show ((((w15.drewN n_).setCell ⟨gb207, 0, none⟩ (.int .i64 ((rd_T67 l0 x10_1).f0))).setCell ⟨gb207, 1, none⟩ (.int .i64 ((rd_T67 l0 x10_1).f1)))).cell? _ = some _ from hx210_0)); (try have hy210_1 := fun (n_ : Nat) => (show ((((w15.drewN n_).setCell ⟨gb207, 0, none⟩ (.int .i64 ((rd_T67 l0 x10_1).f0))).setCell ⟨gb207, 1, none⟩ (.int .i64 ((rd_T67 l0 x10_1).f1)))).cell? _ = some _ from hx210_1)); clear hn210_0; clear hn210_1; replace p210 := eq_true p210; replace q210 := eq_true q210))); try go_wp2_with (first | ((with_reducible refine gate_dst (N := 4) rfl ?_); refine box_event ?hg (N := 4) ?hd (cs := #[.int .i64 0, .int .i64 0]) (t := 67) ?hr ?_; (case hd => rfl); (case hg => rfl); (case hr => first | (go_simp; done) | (go_simp; rfl)); intro gb207 hg w15 hbox hb; have n0_ := Aside0.mk (below_step (hd_ HB.out) hb); have BK207 := Aside0.mk (hbox); have GW207 := Aside0.mk ((y78_ : w.heap.size ≤ gb207)); have GE207 := Aside0.mk ((y78_ : w.heap.size ≤ gb207)); clear HB; have HB := n0_; clear n0_; clear hb hbox hg; have hcz16_0 : w15.cell? ⟨gb207, 0, none⟩ = some (.int .i64 0) := (blk_cell BK207.out 0).trans rfl; have hcz16_1 : w15.cell? ⟨gb207, 1, none⟩ = some (.int .i64 0) := (blk_cell BK207.out 1).trans rfl; have hfz16_0 := blk_frozen BK207.out 0; have hfz16_1 := blk_frozen BK207.out 1) | (go_at_call 44; (with_reducible refine (impl_InRange.calls ((rd_T67 l0 x10_1).f0) 1 20 true _ A6.out).mono ?_); rintro e w' ⟨rfl, ⟨nd, rfl⟩⟩; (try first | exact ⟨rfl, _, World.drewN_drewN _ _ _⟩ | exact ⟨rfl, _, Eq.trans (World.drewN_drewN _ _ _) (congrArg (World.drewN _) (Nat.add_assoc _ _ _))⟩)) | (go_at_call 44; (with_reducible refine (impl_InRange.calls ((rd_T67 l0 x10_1).f1) 0 99 true _ A8.out).mono ?_); rintro e w' ⟨rfl, ⟨nd, rfl⟩⟩; (try first | exact ⟨rfl, _, World.drewN_drewN _ _ _⟩ | exact ⟨rfl, _, Eq.trans (World.drewN_drewN _ _ _) (congrArg (World.drewN _) (Nat.add_assoc _ _ _))⟩); all_goals (have p210 : 0 ≤ ((ji11) : Int) := of_decide_eq_true as_; have q210 : (ji11) < (l0.length : Int) := of_decide_eq_true as_; obtain ⟨ad210, e210, hx210_0, hx210_1⟩ := at_T67 HR0.out (ji11) p210 q210; obtain rfl : ad206 = ad210 := (by injection e210); have hn210_0 : ad206.block ≠ gb207 := Nat.ne_of_lt (Nat.lt_of_lt_of_le (by have := World.block_lt_of_cell? _ _ hx210_0; first | rwa [add_block] at this | exact this) GW207.out); have hn210_1 : ad206.block ≠ gb207 := Nat.ne_of_lt (Nat.lt_of_lt_of_le (by have := World.block_lt_of_cell? _ _ hx210_0; first | rwa [add_block] at this | exact this) GW207.out); replace hx210_0 := cb_ HB.out hx210_0; replace hx210_1 := cb_ HB.out hx210_1; replace hx210_0 := (cell_far (p := ⟨gb207, 0, none⟩) y75_ (.int .i64 ((rd_T67 l0 x10_1).f0))).trans hx210_0; replace hx210_1 := (cell_far (p := ⟨gb207, 0, none⟩) y75_ (.int .i64 ((rd_T67 l0 x10_1).f0))).trans hx210_1; replace hx210_0 := (cell_far (p := ⟨gb207, 1, none⟩) y76_ (.int .i64 ((rd_T67 l0 x10_1).f1))).trans hx210_0; replace hx210_1 := (cell_far (p := ⟨gb207, 1, none⟩) y76_ (.int .i64 ((rd_T67 l0 x10_1).f1))).trans hx210_1; (try have hy210_0 := fun (n_ : Nat) => (show ((((w15.drewN n_).setCell ⟨gb207, 0, none⟩ (.int .i64 ((rd_T67 l0 x10_1).f0))).setCell ⟨gb207, 1, none⟩ (.int .i64 ((rd_T67 l0 x10_1).f1)))).cell? _ = some _ from hx210_0)); (try have hy210_1 := fun (n_ : Nat) => (show ((((w15.drewN n_).setCell ⟨gb207, 0, none⟩ (.int .i64 ((rd_T67 l0 x10_1).f0))).setCell ⟨gb207, 1, none⟩ (.int .i64 ((rd_T67 l0 x10_1).f1)))).cell? _ = some _ from hx210_1)); clear hn210_0; clear hn210_1; replace p210 := eq_true p210; replace q210 := eq_true q210))))
             go_ret
             exact ⟨by first | rfl | (simp [errW_none, errW_some] <;> rfl) | (simp only [← hji11]; first | rfl | (simp [errW_none, errW_some] <;> rfl)) | (simp [*, errW_none, errW_some] <;> rfl), y79_⟩
            ·
             rw [if_neg c14] at H
             have c14b0 : decide (((rd_T67 l0 x10_1).f0) ≤ ((rd_T67 l0 (ji11)).f0)) = false := decide_eq_false c14
             clear c14
             have H' := Aside0.mk H
             clear H
             have p206 : 0 ≤ (x10_1 : Int) := of_decide_eq_true as_
             have q206 : x10_1 < (l0.length : Int) := of_decide_eq_true as_
             obtain ⟨ad206, e206, hx206_0, hx206_1⟩ := at_T67 HR0.out x10_1 p206 q206
             cases e206
             replace hx206_0 := cb_ HB.out hx206_0
             replace hx206_1 := cb_ HB.out hx206_1
             replace p206 := eq_true p206
             replace q206 := eq_true q206
             go_wp2_with (first | ((with_reducible refine gate_dst (N := 4) rfl ?_); refine box_event ?hg (N := 4) ?hd (cs := #[.int .i64 0, .int .i64 0]) (t := 67) ?hr ?_; (case hd => rfl); (case hg => rfl); (case hr => first | (go_simp; done) | (go_simp; rfl)); intro gb207 hg w17 hbox hb; have n0_ := Aside0.mk (below_step (hd_ HB.out) hb); have BK207 := Aside0.mk (hbox); have GW207 := Aside0.mk ((y78_ : w.heap.size ≤ gb207)); have GE207 := Aside0.mk ((y78_ : w.heap.size ≤ gb207)); clear HB; have HB := n0_; clear n0_; clear hb hbox hg; have hcz18_0 : w17.cell? ⟨gb207, 0, none⟩ = some (.int .i64 0) := (blk_cell BK207.out 0).trans rfl; have hcz18_1 : w17.cell? ⟨gb207, 1, none⟩ = some (.int .i64 0) := (blk_cell BK207.out 1).trans rfl; have hfz18_0 := blk_frozen BK207.out 0; have hfz18_1 := blk_frozen BK207.out 1) | (go_at_call 44; (with_reducible refine (impl_InRange.calls ((rd_T67 l0 x10_1).f0) 1 20 true _ A6.out).mono ?_); rintro e w' ⟨rfl, ⟨nd, rfl⟩⟩; (try first | exact ⟨rfl, _, World.drewN_drewN _ _ _⟩ | exact ⟨rfl, _, Eq.trans (World.drewN_drewN _ _ _) (congrArg (World.drewN _) (Nat.add_assoc _ _ _))⟩)) | (go_at_call 44; (with_reducible refine (impl_InRange.calls ((rd_T67 l0 x10_1).f1) 0 99 true _ A8.out).mono ?_); rintro e w' ⟨rfl, ⟨nd, rfl⟩⟩; (try first | exact ⟨rfl, _, World.drewN_drewN _ _ _⟩ | exact ⟨rfl, _, Eq.trans (World.drewN_drewN _ _ _) (congrArg (World.drewN _) (Nat.add_assoc _ _ _))⟩); all_goals (have p210 : 0 ≤ ((ji11) : Int) := of_decide_eq_true as_; have q210 : (ji11) < (l0.length : Int) := of_decide_eq_true as_; obtain ⟨ad210, e210, hx210_0, hx210_1⟩ := at_T67 HR0.out (ji11) p210 q210; obtain rfl : ad206 = ad210 := (by injection e210); have hn210_0 : ad206.block ≠ gb207 := Nat.ne_of_lt (Nat.lt_of_lt_of_le (by have := World.block_lt_of_cell? _ _ hx210_0; first | rwa [add_block] at this | exact this) GW207.out); have hn210_1 : ad206.block ≠ gb207 := Nat.ne_of_lt (Nat.lt_of_lt_of_le (by have := World.block_lt_of_cell? _ _ hx210_0; first | rwa [add_block] at this | exact this) GW207.out); replace hx210_0 := cb_ HB.out hx210_0; replace hx210_1 := cb_ HB.out hx210_1; replace hx210_0 := (cell_far (p := ⟨gb207, 0, none⟩) y75_ (.int .i64 ((rd_T67 l0 x10_1).f0))).trans hx210_0; replace hx210_1 := (cell_far (p := ⟨gb207, 0, none⟩) y75_ (.int .i64 ((rd_T67 l0 x10_1).f0))).trans hx210_1; replace hx210_0 := (cell_far (p := ⟨gb207, 1, none⟩) y76_ (.int .i64 ((rd_T67 l0 x10_1).f1))).trans hx210_0; replace hx210_1 := (cell_far (p := ⟨gb207, 1, none⟩) y76_ (.int .i64 ((rd_T67 l0 x10_1).f1))).trans hx210_1; (try have hy210_0 := fun (n_ : Nat) => (show ((((w17.drewN n_).setCell ⟨gb207, 0, none⟩ (.int .i64 ((rd_T67 l0 x10_1).f0))).setCell ⟨gb207, 1, none⟩ (.int .i64 ((rd_T67 l0 x10_1).f1)))).cell? _ = some _ from hx210_0)); (try have hy210_1 := fun (n_ : Nat) => (show ((((w17.drewN n_).setCell ⟨gb207, 0, none⟩ (.int .i64 ((rd_T67 l0 x10_1).f0))).setCell ⟨gb207, 1, none⟩ (.int .i64 ((rd_T67 l0 x10_1).f1)))).cell? _ = some _ from hx210_1)); clear hn210_0; clear hn210_1; replace p210 := eq_true p210; replace q210 := eq_true q210)))
             repeat (go_quiet (first | ((with_reducible refine gate_dst (N := 4) rfl ?_); refine box_event ?hg (N := 4) ?hd (cs := #[.int .i64 0, .int .i64 0]) (t := 67) ?hr ?_; (case hd => rfl); (case hg => rfl); (case hr => first | (go_simp; done) | (go_simp; rfl)); intro gb207 hg w17 hbox hb; have n0_ := Aside0.mk (below_step (hd_ HB.out) hb); have BK207 := Aside0.mk (hbox); have GW207 := Aside0.mk ((y78_ : w.heap.size ≤ gb207)); have GE207 := Aside0.mk ((y78_ : w.heap.size ≤ gb207)); clear HB; have HB := n0_; clear n0_; clear hb hbox hg; have hcz18_0 : w17.cell? ⟨gb207, 0, none⟩ = some (.int .i64 0) := (blk_cell BK207.out 0).trans rfl; have hcz18_1 : w17.cell? ⟨gb207, 1, none⟩ = some (.int .i64 0) := (blk_cell BK207.out 1).trans rfl; have hfz18_0 := blk_frozen BK207.out 0; have hfz18_1 := blk_frozen BK207.out 1) | (go_at_call 44; (with_reducible refine (impl_InRange.calls ((rd_T67 l0 x10_1).f0) 1 20 true _ A6.out).mono ?_); rintro e w' ⟨rfl, ⟨nd, rfl⟩⟩; (try first | exact ⟨rfl, _, World.drewN_drewN _ _ _⟩ | exact ⟨rfl, _, Eq.trans (World.drewN_drewN _ _ _) (congrArg (World.drewN _) (Nat.add_assoc _ _ _))⟩)) | (go_at_call 44; (with_reducible refine (impl_InRange.calls ((rd_T67 l0 x10_1).f1) 0 99 true _ A8.out).mono ?_); rintro e w' ⟨rfl, ⟨nd, rfl⟩⟩; (try first | exact ⟨rfl, _, World.drewN_drewN _ _ _⟩ | exact ⟨rfl, _, Eq.trans (World.drewN_drewN _ _ _) (congrArg (World.drewN _) (Nat.add_assoc _ _ _))⟩); all_goals (have p210 : 0 ≤ ((ji11) : Int) := of_decide_eq_true as_; have q210 : (ji11) < (l0.length : Int) := of_decide_eq_true as_; obtain ⟨ad210, e210, hx210_0, hx210_1⟩ := at_T67 HR0.out (ji11) p210 q210; obtain rfl : ad206 = ad210 := (by injection e210); have hn210_0 : ad206.block ≠ gb207 := Nat.ne_of_lt (Nat.lt_of_lt_of_le (by have := World.block_lt_of_cell? _ _ hx210_0; first | rwa [add_block] at this | exact this) GW207.out); have hn210_1 : ad206.block ≠ gb207 := Nat.ne_of_lt (Nat.lt_of_lt_of_le (by have := World.block_lt_of_cell? _ _ hx210_0; first | rwa [add_block] at this | exact this) GW207.out); replace hx210_0 := cb_ HB.out hx210_0; replace hx210_1 := cb_ HB.out hx210_1; replace hx210_0 := (cell_far (p := ⟨gb207, 0, none⟩) y75_ (.int .i64 ((rd_T67 l0 x10_1).f0))).trans hx210_0; replace hx210_1 := (cell_far (p := ⟨gb207, 0, none⟩) y75_ (.int .i64 ((rd_T67 l0 x10_1).f0))).trans hx210_1; replace hx210_0 := (cell_far (p := ⟨gb207, 1, none⟩) y76_ (.int .i64 ((rd_T67 l0 x10_1).f1))).trans hx210_0; replace hx210_1 := (cell_far (p := ⟨gb207, 1, none⟩) y76_ (.int .i64 ((rd_T67 l0 x10_1).f1))).trans hx210_1; (try have hy210_0 := fun (n_ : Nat) => (show ((((w17.drewN n_).setCell ⟨gb207, 0, none⟩ (.int .i64 ((rd_T67 l0 x10_1).f0))).setCell ⟨gb207, 1, none⟩ (.int .i64 ((rd_T67 l0 x10_1).f1)))).cell? _ = some _ from hx210_0)); (try have hy210_1 := fun (n_ : Nat) => (show ((((w17.drewN n_).setCell ⟨gb207, 0, none⟩ (.int .i64 ((rd_T67 l0 x10_1).f0))).setCell ⟨gb207, 1, none⟩ (.int .i64 ((rd_T67 l0 x10_1).f1)))).cell? _ = some _ from hx210_1)); clear hn210_0; clear hn210_1; replace p210 := eq_true p210; replace q210 := eq_true q210))); try go_wp2_with (first | ((with_reducible refine gate_dst (N := 4) rfl ?_); refine box_event ?hg (N := 4) ?hd (cs := #[.int .i64 0, .int .i64 0]) (t := 67) ?hr ?_; (case hd => rfl); (case hg => rfl); (case hr => first | (go_simp; done) | (go_simp; rfl)); intro gb207 hg w17 hbox hb; have n0_ := Aside0.mk (below_step (hd_ HB.out) hb); have BK207 := Aside0.mk (hbox); have GW207 := Aside0.mk ((y78_ : w.heap.size ≤ gb207)); have GE207 := Aside0.mk ((y78_ : w.heap.size ≤ gb207)); clear HB; have HB := n0_; clear n0_; clear hb hbox hg; have hcz18_0 : w17.cell? ⟨gb207, 0, none⟩ = some (.int .i64 0) := (blk_cell BK207.out 0).trans rfl; have hcz18_1 : w17.cell? ⟨gb207, 1, none⟩ = some (.int .i64 0) := (blk_cell BK207.out 1).trans rfl; have hfz18_0 := blk_frozen BK207.out 0; have hfz18_1 := blk_frozen BK207.out 1) | (go_at_call 44; (with_reducible refine (impl_InRange.calls ((rd_T67 l0 x10_1).f0) 1 20 true _ A6.out).mono ?_); rintro e w' ⟨rfl, ⟨nd, rfl⟩⟩; (try first | exact ⟨rfl, _, World.drewN_drewN _ _ _⟩ | exact ⟨rfl, _, Eq.trans (World.drewN_drewN _ _ _) (congrArg (World.drewN _) (Nat.add_assoc _ _ _))⟩)) | (go_at_call 44; (with_reducible refine (impl_InRange.calls ((rd_T67 l0 x10_1).f1) 0 99 true _ A8.out).mono ?_); rintro e w' ⟨rfl, ⟨nd, rfl⟩⟩; (try first | exact ⟨rfl, _, World.drewN_drewN _ _ _⟩ | exact ⟨rfl, _, Eq.trans (World.drewN_drewN _ _ _) (congrArg (World.drewN _) (Nat.add_assoc _ _ _))⟩); all_goals (have p210 : 0 ≤ ((ji11) : Int) := of_decide_eq_true as_; have q210 : (ji11) < (l0.length : Int) := of_decide_eq_true as_; obtain ⟨ad210, e210, hx210_0, hx210_1⟩ := at_T67 HR0.out (ji11) p210 q210; obtain rfl : ad206 = ad210 := (by injection e210); have hn210_0 : ad206.block ≠ gb207 := Nat.ne_of_lt (Nat.lt_of_lt_of_le (by have := World.block_lt_of_cell? _ _ hx210_0; first | rwa [add_block] at this | exact this) GW207.out); have hn210_1 : ad206.block ≠ gb207 := Nat.ne_of_lt (Nat.lt_of_lt_of_le (by have := World.block_lt_of_cell? _ _ hx210_0; first | rwa [add_block] at this | exact this) GW207.out); replace hx210_0 := cb_ HB.out hx210_0; replace hx210_1 := cb_ HB.out hx210_1; replace hx210_0 := (cell_far (p := ⟨gb207, 0, none⟩) y75_ (.int .i64 ((rd_T67 l0 x10_1).f0))).trans hx210_0; replace hx210_1 := (cell_far (p := ⟨gb207, 0, none⟩) y75_ (.int .i64 ((rd_T67 l0 x10_1).f0))).trans hx210_1; replace hx210_0 := (cell_far (p := ⟨gb207, 1, none⟩) y76_ (.int .i64 ((rd_T67 l0 x10_1).f1))).trans hx210_0; replace hx210_1 := (cell_far (p := ⟨gb207, 1, none⟩) y76_ (.int .i64 ((rd_T67 l0 x10_1).f1))).trans hx210_1; (try have hy210_0 := fun (n_ : Nat) => (show ((((w17.drewN n_).setCell ⟨gb207, 0, none⟩ (.int .i64 ((rd_T67 l0 x10_1).f0))).setCell ⟨gb207, 1, none⟩ (.int .i64 ((rd_T67 l0 x10_1).f1)))).cell? _ = some _ from hx210_0)); (try have hy210_1 := fun (n_ : Nat) => (show ((((w17.drewN n_).setCell ⟨gb207, 0, none⟩ (.int .i64 ((rd_T67 l0 x10_1).f0))).setCell ⟨gb207, 1, none⟩ (.int .i64 ((rd_T67 l0 x10_1).f1)))).cell? _ = some _ from hx210_1)); clear hn210_0; clear hn210_1; replace p210 := eq_true p210; replace q210 := eq_true q210))))
             go_roundg k1
             case measure => have := HK1.out; omega
             case rel => exact ⟨(wrap64 (x10_1 + 1)), (by first | rfl | (simp; done) | (simp [*]; done)), H', ⟨by have := HK1.out; omega⟩, ⟨y79_⟩⟩
           ·
            rw [if_neg c13] at H
            exact absurd H (by simp)
          ·
           rw [if_neg c12] at H
           exact absurd H (by simp)
         ·
          rw [if_neg c10] at H
          have c10b0 : decide (0 < x10_1) = false := decide_eq_false c10
          clear c10
          have H' := Aside0.mk H
          clear H
          have p206 : 0 ≤ (x10_1 : Int) := of_decide_eq_true as_
          have q206 : x10_1 < (l0.length : Int) := of_decide_eq_true as_
          obtain ⟨ad206, e206, hx206_0, hx206_1⟩ := at_T67 HR0.out x10_1 p206 q206
          cases e206
          replace hx206_0 := cb_ HB.out hx206_0
          replace hx206_1 := cb_ HB.out hx206_1
          replace p206 := eq_true p206
          replace q206 := eq_true q206
          go_wp2_with (first | ((with_reducible refine gate_dst (N := 4) rfl ?_); refine box_event ?hg (N := 4) ?hd (cs := #[.int .i64 0, .int .i64 0]) (t := 67) ?hr ?_; (case hd => rfl); (case hg => rfl); (case hr => first | (go_simp; done) | (go_simp; rfl)); intro gb207 hg w19 hbox hb; have n0_ := Aside0.mk (below_step (hd_ HB.out) hb); have BK207 := Aside0.mk (hbox); have GW207 := Aside0.mk ((y78_ : w.heap.size ≤ gb207)); have GE207 := Aside0.mk ((y78_ : w.heap.size ≤ gb207)); clear HB; have HB := n0_; clear n0_; clear hb hbox hg; have hcz20_0 : w19.cell? ⟨gb207, 0, none⟩ = some (.int .i64 0) := (blk_cell BK207.out 0).trans rfl; have hcz20_1 : w19.cell? ⟨gb207, 1, none⟩ = some (.int .i64 0) := (blk_cell BK207.out 1).trans rfl; have hfz20_0 := blk_frozen BK207.out 0; have hfz20_1 := blk_frozen BK207.out 1) | (go_at_call 44; (with_reducible refine (impl_InRange.calls ((rd_T67 l0 x10_1).f0) 1 20 true _ A6.out).mono ?_); rintro e w' ⟨rfl, ⟨nd, rfl⟩⟩; (try first | exact ⟨rfl, _, World.drewN_drewN _ _ _⟩ | exact ⟨rfl, _, Eq.trans (World.drewN_drewN _ _ _) (congrArg (World.drewN _) (Nat.add_assoc _ _ _))⟩)) | (go_at_call 44; (with_reducible refine (impl_InRange.calls ((rd_T67 l0 x10_1).f1) 0 99 true _ A8.out).mono ?_); rintro e w' ⟨rfl, ⟨nd, rfl⟩⟩; (try first | exact ⟨rfl, _, World.drewN_drewN _ _ _⟩ | exact ⟨rfl, _, Eq.trans (World.drewN_drewN _ _ _) (congrArg (World.drewN _) (Nat.add_assoc _ _ _))⟩)))
          repeat (go_quiet (first | ((with_reducible refine gate_dst (N := 4) rfl ?_); refine box_event ?hg (N := 4) ?hd (cs := #[.int .i64 0, .int .i64 0]) (t := 67) ?hr ?_; (case hd => rfl); (case hg => rfl); (case hr => first | (go_simp; done) | (go_simp; rfl)); intro gb207 hg w19 hbox hb; have n0_ := Aside0.mk (below_step (hd_ HB.out) hb); have BK207 := Aside0.mk (hbox); have GW207 := Aside0.mk ((y78_ : w.heap.size ≤ gb207)); have GE207 := Aside0.mk ((y78_ : w.heap.size ≤ gb207)); clear HB; have HB := n0_; clear n0_; clear hb hbox hg; have hcz20_0 : w19.cell? ⟨gb207, 0, none⟩ = some (.int .i64 0) := (blk_cell BK207.out 0).trans rfl; have hcz20_1 : w19.cell? ⟨gb207, 1, none⟩ = some (.int .i64 0) := (blk_cell BK207.out 1).trans rfl; have hfz20_0 := blk_frozen BK207.out 0; have hfz20_1 := blk_frozen BK207.out 1) | (go_at_call 44; (with_reducible refine (impl_InRange.calls ((rd_T67 l0 x10_1).f0) 1 20 true _ A6.out).mono ?_); rintro e w' ⟨rfl, ⟨nd, rfl⟩⟩; (try first | exact ⟨rfl, _, World.drewN_drewN _ _ _⟩ | exact ⟨rfl, _, Eq.trans (World.drewN_drewN _ _ _) (congrArg (World.drewN _) (Nat.add_assoc _ _ _))⟩)) | (go_at_call 44; (with_reducible refine (impl_InRange.calls ((rd_T67 l0 x10_1).f1) 0 99 true _ A8.out).mono ?_); rintro e w' ⟨rfl, ⟨nd, rfl⟩⟩; (try first | exact ⟨rfl, _, World.drewN_drewN _ _ _⟩ | exact ⟨rfl, _, Eq.trans (World.drewN_drewN _ _ _) (congrArg (World.drewN _) (Nat.add_assoc _ _ _))⟩))); try go_wp2_with (first | ((with_reducible refine gate_dst (N := 4) rfl ?_); refine box_event ?hg (N := 4) ?hd (cs := #[.int .i64 0, .int .i64 0]) (t := 67) ?hr ?_; (case hd => rfl); (case hg => rfl); (case hr => first | (go_simp; done) | (go_simp; rfl)); intro gb207 hg w19 hbox hb; have n0_ := Aside0.mk (below_step (hd_ HB.out) hb); have BK207 := Aside0.mk (hbox); have GW207 := Aside0.mk ((y78_ : w.heap.size ≤ gb207)); have GE207 := Aside0.mk ((y78_ : w.heap.size ≤ gb207)); clear HB; have HB := n0_; clear n0_; clear hb hbox hg; have hcz20_0 : w19.cell? ⟨gb207, 0, none⟩ = some (.int .i64 0) := (blk_cell BK207.out 0).trans rfl; have hcz20_1 : w19.cell? ⟨gb207, 1, none⟩ = some (.int .i64 0) := (blk_cell BK207.out 1).trans rfl; have hfz20_0 := blk_frozen BK207.out 0; have hfz20_1 := blk_frozen BK207.out 1) | (go_at_call 44; (with_reducible refine (impl_InRange.calls ((rd_T67 l0 x10_1).f0) 1 20 true _ A6.out).mono ?_); rintro e w' ⟨rfl, ⟨nd, rfl⟩⟩; (try first | exact ⟨rfl, _, World.drewN_drewN _ _ _⟩ | exact ⟨rfl, _, Eq.trans (World.drewN_drewN _ _ _) (congrArg (World.drewN _) (Nat.add_assoc _ _ _))⟩)) | (go_at_call 44; (with_reducible refine (impl_InRange.calls ((rd_T67 l0 x10_1).f1) 0 99 true _ A8.out).mono ?_); rintro e w' ⟨rfl, ⟨nd, rfl⟩⟩; (try first | exact ⟨rfl, _, World.drewN_drewN _ _ _⟩ | exact ⟨rfl, _, Eq.trans (World.drewN_drewN _ _ _) (congrArg (World.drewN _) (Nat.add_assoc _ _ _))⟩))))
          go_roundg k1
          case measure => have := HK1.out; omega
          case rel => exact ⟨(wrap64 (x10_1 + 1)), (by first | rfl | (simp; done) | (simp [*]; done)), H', ⟨by have := HK1.out; omega⟩, ⟨y79_⟩⟩
        ·
         replace c9 := Bool.eq_false_iff.mpr c9
         subst c9
         have H1 : (some false) = some r := by rw [if_neg (show ¬ (false = true) by decide)] at H; exact H
         clear H
         have H := H1
         clear H1
         obtain rfl := Option.some.inj H
         have p206 : 0 ≤ (x10_1 : Int) := of_decide_eq_true as_
         have q206 : x10_1 < (l0.length : Int) := of_decide_eq_true as_
         obtain ⟨ad206, e206, hx206_0, hx206_1⟩ := at_T67 HR0.out x10_1 p206 q206
         cases e206
         replace hx206_0 := cb_ HB.out hx206_0
         replace hx206_1 := cb_ HB.out hx206_1
         replace p206 := eq_true p206
         replace q206 := eq_true q206
         go_wp2_with (first | ((with_reducible refine gate_dst (N := 4) rfl ?_); refine box_event ?hg (N := 4) ?hd (cs := #[.int .i64 0, .int .i64 0]) (t := 67) ?hr ?_; (case hd => rfl); (case hg => rfl); (case hr => first | (go_simp; done) | (go_simp; rfl)); intro gb207 hg w21 hbox hb; have n0_ := Aside0.mk (below_step (hd_ HB.out) hb); have BK207 := Aside0.mk (hbox); have GW207 := Aside0.mk ((y78_ : w.heap.size ≤ gb207)); have GE207 := Aside0.mk ((y78_ : w.heap.size ≤ gb207)); clear HB; have HB := n0_; clear n0_; clear hb hbox hg; have hcz22_0 : w21.cell? ⟨gb207, 0, none⟩ = some (.int .i64 0) := (blk_cell BK207.out 0).trans rfl; have hcz22_1 : w21.cell? ⟨gb207, 1, none⟩ = some (.int .i64 0) := (blk_cell BK207.out 1).trans rfl; have hfz22_0 := blk_frozen BK207.out 0; have hfz22_1 := blk_frozen BK207.out 1) | (go_at_call 44; (with_reducible refine (impl_InRange.calls ((rd_T67 l0 x10_1).f0) 1 20 true _ A6.out).mono ?_); rintro e w' ⟨rfl, ⟨nd, rfl⟩⟩; (try first | exact ⟨rfl, _, World.drewN_drewN _ _ _⟩ | exact ⟨rfl, _, Eq.trans (World.drewN_drewN _ _ _) (congrArg (World.drewN _) (Nat.add_assoc _ _ _))⟩)) | (go_at_call 44; (with_reducible refine (impl_InRange.calls ((rd_T67 l0 x10_1).f1) 0 99 false _ A8.out).mono ?_); rintro e w' ⟨rfl, ⟨nd, rfl⟩⟩; (try first | exact ⟨rfl, _, World.drewN_drewN _ _ _⟩ | exact ⟨rfl, _, Eq.trans (World.drewN_drewN _ _ _) (congrArg (World.drewN _) (Nat.add_assoc _ _ _))⟩)))
         repeat (go_quiet (first | ((with_reducible refine gate_dst (N := 4) rfl ?_); refine box_event ?hg (N := 4) ?hd (cs := #[.int .i64 0, .int .i64 0]) (t := 67) ?hr ?_; (case hd => rfl); (case hg => rfl); (case hr => first | (go_simp; done) | (go_simp; rfl)); intro gb207 hg w21 hbox hb; have n0_ := Aside0.mk (below_step (hd_ HB.out) hb); have BK207 := Aside0.mk (hbox); have GW207 := Aside0.mk ((y78_ : w.heap.size ≤ gb207)); have GE207 := Aside0.mk ((y78_ : w.heap.size ≤ gb207)); clear HB; have HB := n0_; clear n0_; clear hb hbox hg; have hcz22_0 : w21.cell? ⟨gb207, 0, none⟩ = some (.int .i64 0) := (blk_cell BK207.out 0).trans rfl; have hcz22_1 : w21.cell? ⟨gb207, 1, none⟩ = some (.int .i64 0) := (blk_cell BK207.out 1).trans rfl; have hfz22_0 := blk_frozen BK207.out 0; have hfz22_1 := blk_frozen BK207.out 1) | (go_at_call 44; (with_reducible refine (impl_InRange.calls ((rd_T67 l0 x10_1).f0) 1 20 true _ A6.out).mono ?_); rintro e w' ⟨rfl, ⟨nd, rfl⟩⟩; (try first | exact ⟨rfl, _, World.drewN_drewN _ _ _⟩ | exact ⟨rfl, _, Eq.trans (World.drewN_drewN _ _ _) (congrArg (World.drewN _) (Nat.add_assoc _ _ _))⟩)) | (go_at_call 44; (with_reducible refine (impl_InRange.calls ((rd_T67 l0 x10_1).f1) 0 99 false _ A8.out).mono ?_); rintro e w' ⟨rfl, ⟨nd, rfl⟩⟩; (try first | exact ⟨rfl, _, World.drewN_drewN _ _ _⟩ | exact ⟨rfl, _, Eq.trans (World.drewN_drewN _ _ _) (congrArg (World.drewN _) (Nat.add_assoc _ _ _))⟩))); try go_wp2_with (first | ((with_reducible refine gate_dst (N := 4) rfl ?_); refine box_event ?hg (N := 4) ?hd (cs := #[.int .i64 0, .int .i64 0]) (t := 67) ?hr ?_; (case hd => rfl); (case hg => rfl); (case hr => first | (go_simp; done) | (go_simp; rfl)); intro gb207 hg w21 hbox hb; have n0_ := Aside0.mk (below_step (hd_ HB.out) hb); have BK207 := Aside0.mk (hbox); have GW207 := Aside0.mk ((y78_ : w.heap.size ≤ gb207)); have GE207 := Aside0.mk ((y78_ : w.heap.size ≤ gb207)); clear HB; have HB := n0_; clear n0_; clear hb hbox hg; have hcz22_0 : w21.cell? ⟨gb207, 0, none⟩ = some (.int .i64 0) := (blk_cell BK207.out 0).trans rfl; have hcz22_1 : w21.cell? ⟨gb207, 1, none⟩ = some (.int .i64 0) := (blk_cell BK207.out 1).trans rfl; have hfz22_0 := blk_frozen BK207.out 0; have hfz22_1 := blk_frozen BK207.out 1) | (go_at_call 44; (with_reducible refine (impl_InRange.calls ((rd_T67 l0 x10_1).f0) 1 20 true _ A6.out).mono ?_); rintro e w' ⟨rfl, ⟨nd, rfl⟩⟩; (try first | exact ⟨rfl, _, World.drewN_drewN _ _ _⟩ | exact ⟨rfl, _, Eq.trans (World.drewN_drewN _ _ _) (congrArg (World.drewN _) (Nat.add_assoc _ _ _))⟩)) | (go_at_call 44; (with_reducible refine (impl_InRange.calls ((rd_T67 l0 x10_1).f1) 0 99 false _ A8.out).mono ?_); rintro e w' ⟨rfl, ⟨nd, rfl⟩⟩; (try first | exact ⟨rfl, _, World.drewN_drewN _ _ _⟩ | exact ⟨rfl, _, Eq.trans (World.drewN_drewN _ _ _) (congrArg (World.drewN _) (Nat.add_assoc _ _ _))⟩))))
         go_ret
         exact ⟨by first | rfl | (simp [errW_none, errW_some] <;> rfl) | (simp [*, errW_none, errW_some] <;> rfl), y79_⟩
       ·
        replace c7 := Bool.eq_false_iff.mpr c7
        subst c7
        have H1 : (some false) = some r := by rw [if_neg (show ¬ (false = true) by decide)] at H; exact H
        clear H
        have H := H1
        clear H1
        obtain rfl := Option.some.inj H
        have p206 : 0 ≤ (x10_1 : Int) := of_decide_eq_true as_
        have q206 : x10_1 < (l0.length : Int) := of_decide_eq_true as_
        obtain ⟨ad206, e206, hx206_0, hx206_1⟩ := at_T67 HR0.out x10_1 p206 q206
        cases e206
        replace hx206_0 := cb_ HB.out hx206_0
        replace hx206_1 := cb_ HB.out hx206_1
        replace p206 := eq_true p206
        replace q206 := eq_true q206
        go_wp2_with (first | ((with_reducible refine gate_dst (N := 4) rfl ?_); refine box_event ?hg (N := 4) ?hd (cs := #[.int .i64 0, .int .i64 0]) (t := 67) ?hr ?_; (case hd => rfl); (case hg => rfl); (case hr => first | (go_simp; done) | (go_simp; rfl)); intro gb207 hg w23 hbox hb; have n0_ := Aside0.mk (below_step (hd_ HB.out) hb); have BK207 := Aside0.mk (hbox); have GW207 := Aside0.mk ((y78_ : w.heap.size ≤ gb207)); have GE207 := Aside0.mk ((y78_ : w.heap.size ≤ gb207)); clear HB; have HB := n0_; clear n0_; clear hb hbox hg; have hcz24_0 : w23.cell? ⟨gb207, 0, none⟩ = some (.int .i64 0) := (blk_cell BK207.out 0).trans rfl; have hcz24_1 : w23.cell? ⟨gb207, 1, none⟩ = some (.int .i64 0) := (blk_cell BK207.out 1).trans rfl; have hfz24_0 := blk_frozen BK207.out 0; have hfz24_1 := blk_frozen BK207.out 1) | (go_at_call 44; (with_reducible refine (impl_InRange.calls ((rd_T67 l0 x10_1).f0) 1 20 false _ A6.out).mono ?_); rintro e w' ⟨rfl, ⟨nd, rfl⟩⟩; (try first | exact ⟨rfl, _, World.drewN_drewN _ _ _⟩ | exact ⟨rfl, _, Eq.trans (World.drewN_drewN _ _ _) (congrArg (World.drewN _) (Nat.add_assoc _ _ _))⟩)))
        repeat (go_quiet (first | ((with_reducible refine gate_dst (N := 4) rfl ?_); refine box_event ?hg (N := 4) ?hd (cs := #[.int .i64 0, .int .i64 0]) (t := 67) ?hr ?_; (case hd => rfl); (case hg => rfl); (case hr => first | (go_simp; done) | (go_simp; rfl)); intro gb207 hg w23 hbox hb; have n0_ := Aside0.mk (below_step (hd_ HB.out) hb); have BK207 := Aside0.mk (hbox); have GW207 := Aside0.mk ((y78_ : w.heap.size ≤ gb207)); have GE207 := Aside0.mk ((y78_ : w.heap.size ≤ gb207)); clear HB; have HB := n0_; clear n0_; clear hb hbox hg; have hcz24_0 : w23.cell? ⟨gb207, 0, none⟩ = some (.int .i64 0) := (blk_cell BK207.out 0).trans rfl; have hcz24_1 : w23.cell? ⟨gb207, 1, none⟩ = some (.int .i64 0) := (blk_cell BK207.out 1).trans rfl; have hfz24_0 := blk_frozen BK207.out 0; have hfz24_1 := blk_frozen BK207.out 1) | (go_at_call 44; (with_reducible refine (impl_InRange.calls ((rd_T67 l0 x10_1).f0) 1 20 false _ A6.out).mono ?_); rintro e w' ⟨rfl, ⟨nd, rfl⟩⟩; (try first | exact ⟨rfl, _, World.drewN_drewN _ _ _⟩ | exact ⟨rfl, _, Eq.trans (World.drewN_drewN _ _ _) (congrArg (World.drewN _) (Nat.add_assoc _ _ _))⟩))); try go_wp2_with (first | ((with_reducible refine gate_dst (N := 4) rfl ?_); refine box_event ?hg (N := 4) ?hd (cs := #[.int .i64 0, .int .i64 0]) (t := 67) ?hr ?_; (case hd => rfl); (case hg => rfl); (case hr => first | (go_simp; done) | (go_simp; rfl)); intro gb207 hg w23 hbox hb; have n0_ := Aside0.mk (below_step (hd_ HB.out) hb); have BK207 := Aside0.mk (hbox); have GW207 := Aside0.mk ((y78_ : w.heap.size ≤ gb207)); have GE207 := Aside0.mk ((y78_ : w.heap.size ≤ gb207)); clear HB; have HB := n0_; clear n0_; clear hb hbox hg; have hcz24_0 : w23.cell? ⟨gb207, 0, none⟩ = some (.int .i64 0) := (blk_cell BK207.out 0).trans rfl; have hcz24_1 : w23.cell? ⟨gb207, 1, none⟩ = some (.int .i64 0) := (blk_cell BK207.out 1).trans rfl; have hfz24_0 := blk_frozen BK207.out 0; have hfz24_1 := blk_frozen BK207.out 1) | (go_at_call 44; (with_reducible refine (impl_InRange.calls ((rd_T67 l0 x10_1).f0) 1 20 false _ A6.out).mono ?_); rintro e w' ⟨rfl, ⟨nd, rfl⟩⟩; (try first | exact ⟨rfl, _, World.drewN_drewN _ _ _⟩ | exact ⟨rfl, _, Eq.trans (World.drewN_drewN _ _ _) (congrArg (World.drewN _) (Nat.add_assoc _ _ _))⟩))))
        go_ret
        exact ⟨by first | rfl | (simp [errW_none, errW_some] <;> rfl) | (simp [*, errW_none, errW_some] <;> rfl), y79_⟩
      ·
       rw [if_neg c5] at H
       exact absurd H (by simp)
     ·
      rw [if_neg c4] at H
      exact absurd H (by simp)
    ·
     rw [if_neg c3] at H
     have c3b0 : decide (x10_1 < (l0.length : Int)) = false := decide_eq_false c3
     clear c3
     obtain rfl := Option.some.inj H
     go_wp2
     repeat (go_quiet (fail); try go_wp2)
     go_ret
     exact ⟨by first | rfl | (simp [errW_none, errW_some] <;> rfl) | (simp [*, errW_none, errW_some] <;> rfl), hd_ HB.out⟩

end Go.Proofs.Ytfghapankndioaa.PFnExactPutSecret
