-- Written for this claim by a program (a printer turned to this claim); Lean checks it.
import Derived.Test.YtglpmjcknhcjcaaPFnExactDropTwinsx0
import Derived.Test.YtglpmjcknhcjcaaPFnExactDropTwinsx5
namespace Go.Proofs.Ytglpmjcknhcjcaa.PFnExactDropTwins
open Go.RowKit Go.Proofs.YtglpmjcknhcjcaaW.PrintWords Go.Proofs.YtglpmjcknhcjcaaW.PrintLast Go.Proofs.YtglpmjcknhcjcaaW.PrintMore
attribute [local go_sem] max2_int min2_int max_two min_two max_three min_three max_four min_four   -- for this text's walks alone
set_option linter.unusedVariables false
set_option linter.unusedSimpArgs false

/-! ### impl_AreFinds: function 36 -/
def impl_AreFinds.l0 : Nat → List (S58) → List (S58) → Int → Int → Option (Bool)
 | 0, _, _, _, _ => none
 | k + 1, x0, x8, x9, x10 => if x10 < x9 then (if 0 ≤ x10 then (if x10 < (x8.length : Int) then ((impl_IsFind.f ((rd_T58 x8 x10).f0.f0) ((rd_T58 x8 x10).f0.f1) ((rd_T58 x8 x10).f0.f2) ((rd_T58 x8 x10).f0.f3) ((rd_T58 x8 x10).f0.f4) ((rd_T58 x8 x10).f1) ((rd_T58 x8 x10).f2) ((rd_T58 x8 x10).f3)).bind fun t198 => (if t198 = true then (if x10 > 0 then (if 0 ≤ (wrap64 (x10 - 1)) then (if (wrap64 (x10 - 1)) < (x0.length : Int) then (if ((rd_T58 x8 x10).f0.f0) ≤ ((rd_T58 x0 (wrap64 (x10 - 1))).f0.f0) then (some false) else (impl_AreFinds.l0 k x0 x8 x9 (wrap64 (x10 + 1)))) else (none)) else (none)) else (impl_AreFinds.l0 k x0 x8 x9 (wrap64 (x10 + 1)))) else (some false))) else (none)) else (none)) else (some true)
def impl_AreFinds.f (k : Nat) (l0 : List (S58)) : Option (Bool) := if (l0.length : Int) > 20 then (some false) else (impl_AreFinds.l0 k l0 l0 (l0.length : Int) 0)
theorem impl_AreFinds.mono_l : ∀ k, (∀ y0 y1 y2 y3, LeO (impl_AreFinds.l0 k y0 y1 y2 y3) (impl_AreFinds.l0 (k + 1) y0 y1 y2 y3))
 | 0 => fun _ _ _ _ r h => by simp [impl_AreFinds.l0] at h
 | k + 1 => by
  have ih0 := impl_AreFinds.mono_l k
  ·
   intro y0 y1 y2 y3
   unfold impl_AreFinds.l0
   repeat' first
   | (with_reducible exact ih0 _ _ _ _)
   | (with_reducible exact LeO.refl _)
   | (with_reducible exact LeO.none _)
   | (with_reducible refine LeO.ite ?_ ?_)
   | (with_reducible refine LeO.bind ?_ (fun _ => ?_))
   | exact ih0 _ _ _ _
   | exact LeO.none _
   | refine LeO.ite ?_ ?_
   | refine LeO.bind ?_ (fun _ => ?_)
theorem impl_AreFinds.mono : ∀ a0 k, LeO (impl_AreFinds.f k a0) (impl_AreFinds.f (k + 1) a0) := by
 intro a0 k
 have ih0 := impl_AreFinds.mono_l k
 unfold impl_AreFinds.f
 repeat' first
   | (with_reducible exact ih0 _ _ _ _)
   | (with_reducible exact LeO.refl _)
   | (with_reducible exact LeO.none _)
   | (with_reducible refine LeO.ite ?_ ?_)
   | (with_reducible refine LeO.bind ?_ (fun _ => ?_))
   | exact ih0 _ _ _ _
   | exact LeO.none _
   | refine LeO.ite ?_ ?_
   | refine LeO.bind ?_ (fun _ => ?_)
def impl_AreFinds.T6 : Bool × List (List Nat × List Nat) := (true, [([], []), ([0], [0]), ([1], [1]), ([2, 1], [2]), ([3], [3]), ([4, 3], [3, 4]), ([5, 3, 3], [3, 5]), ([6], [6]), ([7, 6], [6, 7]), ([8, 6], [6, 8]), ([6], [6]), ([6], [6]), ([11, 6], [6, 11]), ([10, 12, 6], [6, 10, 12]), ([13, 6], [6, 13]), ([14, 6], [6, 14]), ([15, 6], [6, 15]), ([9, 16, 6], [6, 9, 16]), ([6, 17, 3], [3, 6, 17]), ([3, 18], [3, 18])])
def impl_AreFinds.B6 : List Nat := [0, 1, 3, 7, 15, 31, 63, 127, 255, 511, 127, 127, 2175, 7295, 15487, 31871, 64639, 131071, 262143, 524287]
theorem impl_AreFinds.tab6 : rtab .any (opsOf Try.f36 6) = impl_AreFinds.T6 := by kernel_rfl
theorem impl_AreFinds.bits6 : waitsOk impl_AreFinds.T6.2 impl_AreFinds.B6 = true := by kernel_rfl
abbrev M3_0 : Array Bool := #[false, false, false, false, false, false, false, false, false, false, false, false, false, false, false, false, false, false, false, false]
abbrev M3_1 : Array Bool := #[true, false, false, false, false, false, false, false, false, false, false, false, false, false, false, false, false, false, false, false]
abbrev M3_2 : Array Bool := #[true, true, false, false, false, false, false, false, false, false, false, false, false, false, false, false, false, false, false, false]
abbrev M3_3 : Array Bool := #[true, true, true, false, false, false, false, false, false, false, false, false, false, false, false, false, false, false, false, false]
abbrev M3_4 : Array Bool := #[true, true, true, true, false, false, false, false, false, false, false, false, false, false, false, false, false, false, false, false]
abbrev M3_5 : Array Bool := #[true, true, true, true, true, false, false, false, false, false, false, false, false, false, false, false, false, false, false, false]
abbrev M3_6 : Array Bool := #[true, true, true, true, true, true, false, false, false, false, false, false, false, false, false, false, false, false, false, false]
abbrev M3_7 : Array Bool := #[true, true, true, true, true, true, true, false, false, false, false, false, false, false, false, false, false, false, false, false]
abbrev M3_8 : Array Bool := #[true, true, true, true, true, true, true, true, false, false, false, false, false, false, false, false, false, false, false, false]
abbrev M3_9 : Array Bool := #[true, true, true, true, true, true, true, true, true, false, false, false, false, false, false, false, false, false, false, false]
abbrev M3_10 : Array Bool := #[true, true, true, true, true, true, true, true, true, false, true, false, false, false, false, false, false, false, false, false]
abbrev M3_11 : Array Bool := #[true, true, true, true, true, true, true, true, true, false, true, true, false, false, false, false, false, false, false, false]
abbrev M3_12 : Array Bool := #[true, true, true, true, true, true, true, true, true, false, true, true, true, false, false, false, false, false, false, false]
abbrev M3_13 : Array Bool := #[true, true, true, true, true, true, true, true, true, false, true, true, true, true, false, false, false, false, false, false]
abbrev M3_14 : Array Bool := #[true, true, true, true, true, true, true, true, true, false, true, true, true, true, true, false, false, false, false, false]
abbrev M3_15 : Array Bool := #[true, true, true, true, true, true, true, true, true, false, true, true, true, true, true, true, false, false, false, false]
abbrev M3_16 : Array Bool := #[true, true, true, true, true, true, true, true, true, true, true, true, true, true, true, true, false, false, false, false]
abbrev M3_17 : Array Bool := #[true, true, true, true, true, true, true, true, true, true, true, true, true, true, true, true, true, false, false, false]
abbrev M3_18 : Array Bool := #[true, true, true, true, true, true, true, true, true, true, true, true, true, true, true, true, true, true, false, false]
abbrev M3_19 : Array Bool := #[true, true, true, true, true, true, true, true, true, true, true, true, true, true, true, true, true, true, true, false]
abbrev M3_20 : Array Bool := #[true, true, true, true, true, true, true, true, true, true, true, true, true, true, true, true, true, true, true, true]
abbrev M3_21 : Array Bool := #[true, true, true, true, true, true, true, true, true, true, false, false, false, false, false, false, false, false, false, false]
abbrev M3_22 : Array Bool := #[true, true, true, true, true, true, true, true, true, true, true, false, false, false, false, false, false, false, false, false]
abbrev M3_23 : Array Bool := #[true, true, true, true, true, true, true, true, true, true, true, true, false, false, false, false, false, false, false, false]
abbrev M3_24 : Array Bool := #[true, true, true, true, true, true, true, true, true, true, true, true, true, false, false, false, false, false, false, false]
abbrev M3_25 : Array Bool := #[true, true, true, true, true, true, true, true, true, true, true, true, true, true, false, false, false, false, false, false]
abbrev M3_26 : Array Bool := #[true, true, true, true, true, true, true, true, true, true, true, true, true, true, true, false, false, false, false, false]
theorem P3_1 {α : Type} (l : List α) (i : Nat) (a : α) : l.toArray.setIfInBounds i a = (l.set i a).toArray := List.setIfInBounds_toArray l i a
theorem P3_2 {α : Type} (x : α) (l : List α) (a : α) : (x :: l).set 0 a = a :: l := List.set_cons_zero
theorem P3_3 {α : Type} (x : α) (l : List α) (n : Nat) (a : α) : (x :: l).set (n + 1) a = x :: l.set n a := List.set_cons_succ
set_option maxHeartbeats 8000000 in
set_option maxRecDepth 100000 in
theorem impl_AreFinds.calls (k : Nat) (A0 : Option Addr) (c0 : Nat) (l0 : List (S58)) (r : Bool) (w : World) (hr0 : Kd.C k58 w A0 l0.length l0) (hc0 : l0.length ≤ c0) (h : impl_AreFinds.f k l0 = some r) :
  Calls Try.prog 36 #[.slice A0 l0.length c0] w fun e w' => e = .returned (.bool r) ∧ Below w.heap.size w w' := by
 have hu58 := Try.underlying58
 have HR0 := Aside0.mk hr0
 have HC0 := Aside0.mk hc0
 clear hr0 hc0
 have HB := Aside0.mk (Below.refl w.heap.size w)
 have H : (if (l0.length : Int) > 20 then (some false) else (impl_AreFinds.l0 k l0 l0 (l0.length : Int) 0)) = some r := h
 clear h
 by_cases c2 : (l0.length : Int) > 20
 ·
  rw [if_pos c2] at H
  have c2b0 : decide (20 < (l0.length : Int)) = true := decide_eq_true c2
  have c2b1 : decide (20 < l0.length) = true := decide_eq_true (by omega)
  clear c2
  obtain rfl := Option.some.inj H
  go_enter Try.func36, Try.ntmps36
  go_wp2
  go_ret
  exact ⟨by first | rfl | (simp [errW_none, errW_some] <;> rfl) | (simp [*, errW_none, errW_some] <;> rfl), by repeat (first | (with_reducible first | exact HB.out | apply below_alloc | apply pw_below_drewN | apply below_drew1) | exact HB.out)⟩
 ·
  rw [if_neg c2] at H
  have c2b0 : decide (20 < (l0.length : Int)) = false := decide_eq_false c2
  have c2b1 : decide (20 < l0.length) = false := decide_eq_false (by omega)
  clear c2
  have H' := Aside0.mk H
  clear H
  go_enter Try.func36, Try.ntmps36
  go_wp2
  go_loopg [10] k (fun kq v10 w' => ∃ (x10_1 : Int), v10 = .int .i64 x10_1 ∧ Aside0 (impl_AreFinds.l0 kq l0 l0 (l0.length : Int) x10_1 = some r) ∧ Aside0 (kq ≤ k) ∧ Aside0 (Below w.heap.size w w'))
  case atStart => exact ⟨(0), (by first | rfl | (simp; done) | (simp [*]; done)), H', ⟨Nat.le_refl _⟩, ⟨by repeat (first | (with_reducible first | exact HB.out | apply below_alloc | apply pw_below_drewN | apply below_drew1) | exact HB.out)⟩⟩
  case round =>
   clear H'
   try clear c2
   try clear c2b0
   try clear c2b1
   try clear p2
   obtain ⟨x10_1, rfl, HA, HK1, HB⟩ := hrel
   cases gk with
   | zero => exact absurd HA.out (by simp [impl_AreFinds.l0])
   | succ k1 =>
    have H := HA.out
    clear HA
    simp only [impl_AreFinds.l0] at H
    by_cases c3 : x10_1 < (l0.length : Int)
    ·
     rw [if_pos c3] at H
     have c3b0 : decide (x10_1 < (l0.length : Int)) = true := decide_eq_true c3
     clear c3
     by_cases c4 : 0 ≤ x10_1
     ·
      rw [if_pos c4] at H
      have c4b0 : decide (0 ≤ x10_1) = true := decide_eq_true c4
      clear c4
      by_cases c5 : x10_1 < (l0.length : Int)
      ·
       rw [if_pos c5] at H
       have c5b0 : decide (x10_1 < (l0.length : Int)) = true := decide_eq_true c5
       clear c5
       replace H := Option.bind_eq_some_iff.mp H
       obtain ⟨t198, A60, H⟩ := H
       replace H : (if t198 = true then (if x10_1 > 0 then (if 0 ≤ (wrap64 (x10_1 - 1)) then (if (wrap64 (x10_1 - 1)) < (l0.length : Int) then (if ((rd_T58 l0 x10_1).f0.f0) ≤ ((rd_T58 l0 (wrap64 (x10_1 - 1))).f0.f0) then (some false) else (impl_AreFinds.l0 k1 l0 l0 (l0.length : Int) (wrap64 (x10_1 + 1)))) else (none)) else (none)) else (impl_AreFinds.l0 k1 l0 l0 (l0.length : Int) (wrap64 (x10_1 + 1)))) else (some false)) = some r := H
       have A6 := Aside0.mk A60
       clear A60
       by_cases c7 : t198 = true
       ·
        subst c7
        have H1 : (if x10_1 > 0 then (if 0 ≤ (wrap64 (x10_1 - 1)) then (if (wrap64 (x10_1 - 1)) < (l0.length : Int) then (if ((rd_T58 l0 x10_1).f0.f0) ≤ ((rd_T58 l0 (wrap64 (x10_1 - 1))).f0.f0) then (some false) else (impl_AreFinds.l0 k1 l0 l0 (l0.length : Int) (wrap64 (x10_1 + 1)))) else (none)) else (none)) else (impl_AreFinds.l0 k1 l0 l0 (l0.length : Int) (wrap64 (x10_1 + 1)))) = some r := by rw [if_pos rfl] at H; exact H
        clear H
        have H := H1
        clear H1
        by_cases c8 : x10_1 > 0
        ·
         rw [if_pos c8] at H
         have c8b0 : decide (0 < x10_1) = true := decide_eq_true c8
         clear c8
         obtain ⟨ji9, hji9⟩ : ∃ j_ : Int, (wrap64 (x10_1 - 1)) = j_ := ⟨_, rfl⟩
         replace H : (if 0 ≤ (ji9) then (if (ji9) < (l0.length : Int) then (if ((rd_T58 l0 x10_1).f0.f0) ≤ ((rd_T58 l0 (ji9)).f0.f0) then (some false) else (impl_AreFinds.l0 k1 l0 l0 (l0.length : Int) (wrap64 (x10_1 + 1)))) else (none)) else (none)) = some r := by first | (rw [hji9] at H; exact H) | (simp only [hji9] at H ⊢; exact H)
         (try rw [hji9] at A6)
         have hji9w : (IntKind.i64.wrap (x10_1 - 1)) = ji9 := (i64_w _).trans hji9
         by_cases c10 : 0 ≤ (ji9)
         ·
          rw [if_pos c10] at H
          have c10b0 : decide (0 ≤ (ji9)) = true := decide_eq_true c10
          clear c10
          by_cases c11 : (ji9) < (l0.length : Int)
          ·
           rw [if_pos c11] at H
           have c11b0 : decide ((ji9) < (l0.length : Int)) = true := decide_eq_true c11
           clear c11
           by_cases c12 : ((rd_T58 l0 x10_1).f0.f0) ≤ ((rd_T58 l0 (ji9)).f0.f0)
           ·
            rw [if_pos c12] at H
            have c12b0 : decide (((rd_T58 l0 x10_1).f0.f0) ≤ ((rd_T58 l0 (ji9)).f0.f0)) = true := decide_eq_true c12
            clear c12
            obtain rfl := Option.some.inj H
            have p196 : 0 ≤ (x10_1 : Int) := of_decide_eq_true (by first | (with_reducible assumption) | assumption)
            have q196 : x10_1 < (l0.length : Int) := of_decide_eq_true (by first | (with_reducible assumption) | assumption)
            obtain ⟨ad196, e196, hx196_0, hx196_1, hx196_2, hx196_3, hx196_4, hx196_5, hx196_6, hx196_7⟩ := at_T58 HR0.out x10_1 p196 q196
            cases e196
            replace hx196_0 := (HB.out.cell (World.block_lt_of_cell? w _ hx196_0)).trans hx196_0
            replace hx196_1 := (HB.out.cell (World.block_lt_of_cell? w _ hx196_1)).trans hx196_1
            replace hx196_2 := (HB.out.cell (World.block_lt_of_cell? w _ hx196_2)).trans hx196_2
            replace hx196_3 := (HB.out.cell (World.block_lt_of_cell? w _ hx196_3)).trans hx196_3
            replace hx196_4 := (HB.out.cell (World.block_lt_of_cell? w _ hx196_4)).trans hx196_4
            replace hx196_5 := (HB.out.cell (World.block_lt_of_cell? w _ hx196_5)).trans hx196_5
            replace hx196_6 := (HB.out.cell (World.block_lt_of_cell? w _ hx196_6)).trans hx196_6
            replace hx196_7 := (HB.out.cell (World.block_lt_of_cell? w _ hx196_7)).trans hx196_7
            replace p196 := eq_true p196
            replace q196 := eq_true q196
            try go_wp2_with (first | ((with_reducible refine gate_dst (N := 4) rfl ?_); refine box_event ?hg (N := 4) ?hd (cs := #[.int .i64 0, .int .i64 0, .int .i64 0, .int .i64 0, .int .i64 0, .int .i64 0, .int .i64 0, .int .i64 0]) (t := 58) ?hr ?_; (case hd => rfl); (case hg => rfl); (case hr => first | (go_simp; done) | (go_simp; rfl)); intro gb197 hg w13 hbox hb; have n0_ := Aside0.mk (below_step (by repeat (first | (with_reducible first | exact HB.out | apply below_alloc | apply pw_below_drewN | apply below_drew1) | exact HB.out)) hb); have n1_ := Aside0.mk (hbox); have n2_ := Aside0.mk ((by rw [hg]; exact (below_size (by repeat (first | (with_reducible first | exact HB.out | apply below_alloc | apply pw_below_drewN | apply below_drew1) | exact HB.out))) : w.heap.size ≤ gb197)); have n3_ := Aside0.mk ((by rw [hg]; exact (below_size (by repeat (first | (with_reducible first | exact HB.out | apply below_alloc | apply pw_below_drewN | apply below_drew1) | exact HB.out))) : w.heap.size ≤ gb197)); clear HB; have HB := n0_; have BK197 := n1_; have GW197 := n2_; have GE197 := n3_; clear n0_ n1_ n2_ n3_; clear hb hbox hg; have hcz14_0 : w13.cell? ⟨gb197, 0, none⟩ = some (.int .i64 0) := (blk_cell BK197.out 0).trans rfl; have hcz14_1 : w13.cell? ⟨gb197, 1, none⟩ = some (.int .i64 0) := (blk_cell BK197.out 1).trans rfl; have hcz14_2 : w13.cell? ⟨gb197, 2, none⟩ = some (.int .i64 0) := (blk_cell BK197.out 2).trans rfl; have hcz14_3 : w13.cell? ⟨gb197, 3, none⟩ = some (.int .i64 0) := (blk_cell BK197.out 3).trans rfl; have hcz14_4 : w13.cell? ⟨gb197, 4, none⟩ = some (.int .i64 0) := (blk_cell BK197.out 4).trans rfl; have hcz14_5 : w13.cell? ⟨gb197, 5, none⟩ = some (.int .i64 0) := (blk_cell BK197.out 5).trans rfl; have hcz14_6 : w13.cell? ⟨gb197, 6, none⟩ = some (.int .i64 0) := (blk_cell BK197.out 6).trans rfl; have hcz14_7 : w13.cell? ⟨gb197, 7, none⟩ = some (.int .i64 0) := (blk_cell BK197.out 7).trans rfl; have hfz14_0 := blk_frozen BK197.out 0; have hfz14_1 := blk_frozen BK197.out 1; have hfz14_2 := blk_frozen BK197.out 2; have hfz14_3 := blk_frozen BK197.out 3; have hfz14_4 := blk_frozen BK197.out 4; have hfz14_5 := blk_frozen BK197.out 5; have hfz14_6 := blk_frozen BK197.out 6; have hfz14_7 := blk_frozen BK197.out 7))
            have n0_ : Aside0 (((((((((w13.setCell ⟨gb197, 0, none⟩ (.int .i64 ((rd_T58 l0 x10_1).f0.f0))).setCell ⟨gb197, 1, none⟩ (.int .i64 ((rd_T58 l0 x10_1).f0.f1))).setCell ⟨gb197, 2, none⟩ (.int .i64 ((rd_T58 l0 x10_1).f0.f2))).setCell ⟨gb197, 3, none⟩ (.int .i64 ((rd_T58 l0 x10_1).f0.f3))).setCell ⟨gb197, 4, none⟩ (.int .i64 ((rd_T58 l0 x10_1).f0.f4))).setCell ⟨gb197, 5, none⟩ (.int .i64 ((rd_T58 l0 x10_1).f1))).setCell ⟨gb197, 6, none⟩ (.int .i64 ((rd_T58 l0 x10_1).f2))).setCell ⟨gb197, 7, none⟩ (.int .i64 ((rd_T58 l0 x10_1).f3))).heap[gb197]? = some (.cells #[.int .i64 ((rd_T58 l0 x10_1).f0.f0), .int .i64 ((rd_T58 l0 x10_1).f0.f1), .int .i64 ((rd_T58 l0 x10_1).f0.f2), .int .i64 ((rd_T58 l0 x10_1).f0.f3), .int .i64 ((rd_T58 l0 x10_1).f0.f4), .int .i64 ((rd_T58 l0 x10_1).f1), .int .i64 ((rd_T58 l0 x10_1).f2), .int .i64 ((rd_T58 l0 x10_1).f3)] 58 (0, 0))) := ⟨by (with_reducible repeat (first | refine blk_drewN ?_ _ | refine blk_drew ?_ | refine blk_alloc ?_ _)); refine blk_put (cs := #[.int .i64 ((rd_T58 l0 x10_1).f0.f0), .int .i64 ((rd_T58 l0 x10_1).f0.f1), .int .i64 ((rd_T58 l0 x10_1).f0.f2), .int .i64 ((rd_T58 l0 x10_1).f0.f3), .int .i64 ((rd_T58 l0 x10_1).f0.f4), .int .i64 ((rd_T58 l0 x10_1).f1), .int .i64 ((rd_T58 l0 x10_1).f2), .int .i64 0]) ?_ 7 _ rfl; (with_reducible repeat (first | refine blk_drewN ?_ _ | refine blk_drew ?_ | refine blk_alloc ?_ _)); refine blk_put (cs := #[.int .i64 ((rd_T58 l0 x10_1).f0.f0), .int .i64 ((rd_T58 l0 x10_1).f0.f1), .int .i64 ((rd_T58 l0 x10_1).f0.f2), .int .i64 ((rd_T58 l0 x10_1).f0.f3), .int .i64 ((rd_T58 l0 x10_1).f0.f4), .int .i64 ((rd_T58 l0 x10_1).f1), .int .i64 0, .int .i64 0]) ?_ 6 _ rfl; (with_reducible repeat (first | refine blk_drewN ?_ _ | refine blk_drew ?_ | refine blk_alloc ?_ _)); refine blk_put (cs := #[.int .i64 ((rd_T58 l0 x10_1).f0.f0), .int .i64 ((rd_T58 l0 x10_1).f0.f1), .int .i64 ((rd_T58 l0 x10_1).f0.f2), .int .i64 ((rd_T58 l0 x10_1).f0.f3), .int .i64 ((rd_T58 l0 x10_1).f0.f4), .int .i64 0, .int .i64 0, .int .i64 0]) ?_ 5 _ rfl; (with_reducible repeat (first | refine blk_drewN ?_ _ | refine blk_drew ?_ | refine blk_alloc ?_ _)); refine blk_put (cs := #[.int .i64 ((rd_T58 l0 x10_1).f0.f0), .int .i64 ((rd_T58 l0 x10_1).f0.f1), .int .i64 ((rd_T58 l0 x10_1).f0.f2), .int .i64 ((rd_T58 l0 x10_1).f0.f3), .int .i64 0, .int .i64 0, .int .i64 0, .int .i64 0]) ?_ 4 _ rfl; (with_reducible repeat (first | refine blk_drewN ?_ _ | refine blk_drew ?_ | refine blk_alloc ?_ _)); refine blk_put (cs := #[.int .i64 ((rd_T58 l0 x10_1).f0.f0), .int .i64 ((rd_T58 l0 x10_1).f0.f1), .int .i64 ((rd_T58 l0 x10_1).f0.f2), .int .i64 0, .int .i64 0, .int .i64 0, .int .i64 0, .int .i64 0]) ?_ 3 _ rfl; (with_reducible repeat (first | refine blk_drewN ?_ _ | refine blk_drew ?_ | refine blk_alloc ?_ _)); refine blk_put (cs := #[.int .i64 ((rd_T58 l0 x10_1).f0.f0), .int .i64 ((rd_T58 l0 x10_1).f0.f1), .int .i64 0, .int .i64 0, .int .i64 0, .int .i64 0, .int .i64 0, .int .i64 0]) ?_ 2 _ rfl; (with_reducible repeat (first | refine blk_drewN ?_ _ | refine blk_drew ?_ | refine blk_alloc ?_ _)); refine blk_put (cs := #[.int .i64 ((rd_T58 l0 x10_1).f0.f0), .int .i64 0, .int .i64 0, .int .i64 0, .int .i64 0, .int .i64 0, .int .i64 0, .int .i64 0]) ?_ 1 _ rfl; (with_reducible repeat (first | refine blk_drewN ?_ _ | refine blk_drew ?_ | refine blk_alloc ?_ _)); refine blk_put (cs := #[.int .i64 0, .int .i64 0, .int .i64 0, .int .i64 0, .int .i64 0, .int .i64 0, .int .i64 0, .int .i64 0]) ?_ 0 _ rfl; (with_reducible repeat (first | refine blk_drewN ?_ _ | refine blk_drew ?_ | refine blk_alloc ?_ _)); exact BK197.out⟩
            have n1_ : Aside0 (Below w.heap.size w ((((((((w13.setCell ⟨gb197, 0, none⟩ (.int .i64 ((rd_T58 l0 x10_1).f0.f0))).setCell ⟨gb197, 1, none⟩ (.int .i64 ((rd_T58 l0 x10_1).f0.f1))).setCell ⟨gb197, 2, none⟩ (.int .i64 ((rd_T58 l0 x10_1).f0.f2))).setCell ⟨gb197, 3, none⟩ (.int .i64 ((rd_T58 l0 x10_1).f0.f3))).setCell ⟨gb197, 4, none⟩ (.int .i64 ((rd_T58 l0 x10_1).f0.f4))).setCell ⟨gb197, 5, none⟩ (.int .i64 ((rd_T58 l0 x10_1).f1))).setCell ⟨gb197, 6, none⟩ (.int .i64 ((rd_T58 l0 x10_1).f2))).setCell ⟨gb197, 7, none⟩ (.int .i64 ((rd_T58 l0 x10_1).f3)))) := ⟨by repeat (first | (with_reducible first | exact HB.out | apply below_alloc | apply pw_below_drewN | apply below_drew1 | refine below_set ?_ GE197.out) | exact HB.out)⟩
            (try clear BK197)
            (try clear HB)
            generalize ((((((((w13.setCell ⟨gb197, 0, none⟩ (.int .i64 ((rd_T58 l0 x10_1).f0.f0))).setCell ⟨gb197, 1, none⟩ (.int .i64 ((rd_T58 l0 x10_1).f0.f1))).setCell ⟨gb197, 2, none⟩ (.int .i64 ((rd_T58 l0 x10_1).f0.f2))).setCell ⟨gb197, 3, none⟩ (.int .i64 ((rd_T58 l0 x10_1).f0.f3))).setCell ⟨gb197, 4, none⟩ (.int .i64 ((rd_T58 l0 x10_1).f0.f4))).setCell ⟨gb197, 5, none⟩ (.int .i64 ((rd_T58 l0 x10_1).f1))).setCell ⟨gb197, 6, none⟩ (.int .i64 ((rd_T58 l0 x10_1).f2))).setCell ⟨gb197, 7, none⟩ (.int .i64 ((rd_T58 l0 x10_1).f3))) = w15 at n0_ n1_ ⊢
            have BK197 := n0_
            have HB := n1_
            clear n0_ n1_
            have n0_ := Aside0.mk (blk_drew BK197.out)
            have n1_ := Aside0.mk (below_drew1 HB.out)
            clear BK197
            clear HB
            have BK197 := n0_
            have HB := n1_
            clear n0_ n1_
            have p199 : 0 ≤ ((ji9) : Int) := of_decide_eq_true (by first | (with_reducible assumption) | assumption)
            have q199 : (ji9) < (l0.length : Int) := of_decide_eq_true (by first | (with_reducible assumption) | assumption)
            obtain ⟨ad199, e199, hx199_0, hx199_1, hx199_2, hx199_3, hx199_4, hx199_5, hx199_6, hx199_7⟩ := at_T58 HR0.out (ji9) p199 q199
            have hw199_7 := hx199_7
            have hw199_6 := hx199_6
            have hw199_5 := hx199_5
            have hw199_4 := hx199_4
            have hw199_3 := hx199_3
            have hw199_2 := hx199_2
            have hw199_1 := hx199_1
            have hw199_0 := hx199_0
            obtain rfl : ad196 = ad199 := (by injection e199)
            replace hx199_0 := (HB.out.cell (World.block_lt_of_cell? w _ hx199_0)).trans hx199_0
            replace hx199_1 := (HB.out.cell (World.block_lt_of_cell? w _ hx199_1)).trans hx199_1
            replace hx199_2 := (HB.out.cell (World.block_lt_of_cell? w _ hx199_2)).trans hx199_2
            replace hx199_3 := (HB.out.cell (World.block_lt_of_cell? w _ hx199_3)).trans hx199_3
            replace hx199_4 := (HB.out.cell (World.block_lt_of_cell? w _ hx199_4)).trans hx199_4
            replace hx199_5 := (HB.out.cell (World.block_lt_of_cell? w _ hx199_5)).trans hx199_5
            replace hx199_6 := (HB.out.cell (World.block_lt_of_cell? w _ hx199_6)).trans hx199_6
            replace hx199_7 := (HB.out.cell (World.block_lt_of_cell? w _ hx199_7)).trans hx199_7
            replace p199 := eq_true p199
            replace q199 := eq_true q199
            refine start_ (n := 20) (S := fun w' => w'.cell? ⟨gb197, 0, none⟩ = some (.int .i64 ((rd_T58 l0 x10_1).f0.f0)) ∧ w'.cell? ⟨gb197, 1, none⟩ = some (.int .i64 ((rd_T58 l0 x10_1).f0.f1)) ∧ w'.cell? ⟨gb197, 2, none⟩ = some (.int .i64 ((rd_T58 l0 x10_1).f0.f2)) ∧ w'.cell? ⟨gb197, 3, none⟩ = some (.int .i64 ((rd_T58 l0 x10_1).f0.f3)) ∧ w'.cell? ⟨gb197, 4, none⟩ = some (.int .i64 ((rd_T58 l0 x10_1).f0.f4)) ∧ w'.cell? ⟨gb197, 5, none⟩ = some (.int .i64 ((rd_T58 l0 x10_1).f1)) ∧ w'.cell? ⟨gb197, 6, none⟩ = some (.int .i64 ((rd_T58 l0 x10_1).f2)) ∧ w'.cell? ⟨gb197, 7, none⟩ = some (.int .i64 ((rd_T58 l0 x10_1).f3)) ∧ w'.cell? (ad196.add (((ji9)).toNat * 8)) = some (.int .i64 ((rd_T58 l0 (ji9)).f0.f0)) ∧ w'.cell? ⟨(ad196.add (((ji9)).toNat * 8)).block, (ad196.add (((ji9)).toNat * 8)).off + 1, none⟩ = some (.int .i64 ((rd_T58 l0 (ji9)).f0.f1)) ∧ w'.cell? ⟨(ad196.add (((ji9)).toNat * 8)).block, (ad196.add (((ji9)).toNat * 8)).off + 2, none⟩ = some (.int .i64 ((rd_T58 l0 (ji9)).f0.f2)) ∧ w'.cell? ⟨(ad196.add (((ji9)).toNat * 8)).block, (ad196.add (((ji9)).toNat * 8)).off + 3, none⟩ = some (.int .i64 ((rd_T58 l0 (ji9)).f0.f3)) ∧ w'.cell? ⟨(ad196.add (((ji9)).toNat * 8)).block, (ad196.add (((ji9)).toNat * 8)).off + 4, none⟩ = some (.int .i64 ((rd_T58 l0 (ji9)).f0.f4)) ∧ w'.cell? ⟨(ad196.add (((ji9)).toNat * 8)).block, (ad196.add (((ji9)).toNat * 8)).off + 5, none⟩ = some (.int .i64 ((rd_T58 l0 (ji9)).f1)) ∧ w'.cell? ⟨(ad196.add (((ji9)).toNat * 8)).block, (ad196.add (((ji9)).toNat * 8)).off + 6, none⟩ = some (.int .i64 ((rd_T58 l0 (ji9)).f2)) ∧ w'.cell? ⟨(ad196.add (((ji9)).toNat * 8)).block, (ad196.add (((ji9)).toNat * 8)).off + 7, none⟩ = some (.int .i64 ((rd_T58 l0 (ji9)).f3))) (ds := []) M3_0 (by kernel_rfl) rfl rfl ⟨(blk_cell BK197.out 0).trans rfl, (blk_cell BK197.out 1).trans rfl, (blk_cell BK197.out 2).trans rfl, (blk_cell BK197.out 3).trans rfl, (blk_cell BK197.out 4).trans rfl, (blk_cell BK197.out 5).trans rfl, (blk_cell BK197.out 6).trans rfl, (blk_cell BK197.out 7).trans rfl, ((HB.out.cell (World.block_lt_of_cell? w _ hw199_0)).trans hw199_0), ((HB.out.cell (World.block_lt_of_cell? w _ hw199_1)).trans hw199_1), ((HB.out.cell (World.block_lt_of_cell? w _ hw199_2)).trans hw199_2), ((HB.out.cell (World.block_lt_of_cell? w _ hw199_3)).trans hw199_3), ((HB.out.cell (World.block_lt_of_cell? w _ hw199_4)).trans hw199_4), ((HB.out.cell (World.block_lt_of_cell? w _ hw199_5)).trans hw199_5), ((HB.out.cell (World.block_lt_of_cell? w _ hw199_6)).trans hw199_6), ((HB.out.cell (World.block_lt_of_cell? w _ hw199_7)).trans hw199_7)⟩ (fun hHeld => ?_); refine with_tabW impl_AreFinds.tab6 impl_AreFinds.bits6 (fun HT_ HW_ => ?_)
            generalize w15.drew = w16 at BK197 HB hx199_0 hx199_1 hx199_2 hx199_3 hx199_4 hx199_5 hx199_6 hx199_7 hHeld ⊢
            refine take_ (i := 0) (N := some 15) (v := ?_) (a' := ?_) M3_1 rfl rfl (take_ofW HT_.out HW_.out (by kernel_rfl)) (fun _ _ _ h => h) (Or.inl ⟨by rfl, ?_⟩) hHeld ?_ ?_
            rotate_left; · rintro w' ⟨s0, s1, s2, s3, s4, s5, s6, s7, s8, s9, s10, s11, s12, s13, s14, s15⟩; go_simp; with_reducible rfl
            rotate_left; · simp only [Act.put, P3_1, P3_2, P3_3, i64_w, i32_w]; rfl
            refine one_ (i := 1) (N := some 16) M3_2 rfl rfl (one_of HT_.out (by kernel_rfl)) (by decide) (fun K hK => ?_)
            refine goes_ Try.func60 (by kernel_rfl) rfl #[.agg #[.int .i64 ((rd_T58 l0 x10_1).f0.f0), .int .i64 ((rd_T58 l0 x10_1).f0.f1), .int .i64 ((rd_T58 l0 x10_1).f0.f2), .int .i64 ((rd_T58 l0 x10_1).f0.f3), .int .i64 ((rd_T58 l0 x10_1).f0.f4), .int .i64 ((rd_T58 l0 x10_1).f1), .int .i64 ((rd_T58 l0 x10_1).f2), .int .i64 ((rd_T58 l0 x10_1).f3)]] (by rfl) rfl rfl (by (try simp only [List.map_toArray, List.map_cons, List.map_nil]); first | done | rfl | (simp only [List.length_drop, List.length_take]; rfl)) ?_
            with_reducible refine (impl_IsFind.calls ((rd_T58 l0 x10_1).f0.f0) ((rd_T58 l0 x10_1).f0.f1) ((rd_T58 l0 x10_1).f0.f2) ((rd_T58 l0 x10_1).f0.f3) ((rd_T58 l0 x10_1).f0.f4) ((rd_T58 l0 x10_1).f1) ((rd_T58 l0 x10_1).f2) ((rd_T58 l0 x10_1).f3) true _ A6.out).mono ?_
            rintro e w17 ⟨rfl, hb⟩
            refine ⟨_, rfl, ?_⟩
            have n0_ := Aside0.mk (blk_below (g := gb197) (o := .cells #[.int .i64 ((rd_T58 l0 x10_1).f0.f0), .int .i64 ((rd_T58 l0 x10_1).f0.f1), .int .i64 ((rd_T58 l0 x10_1).f0.f2), .int .i64 ((rd_T58 l0 x10_1).f0.f3), .int .i64 ((rd_T58 l0 x10_1).f0.f4), .int .i64 ((rd_T58 l0 x10_1).f1), .int .i64 ((rd_T58 l0 x10_1).f2), .int .i64 ((rd_T58 l0 x10_1).f3)] 58 (0, 0)) (by (with_reducible repeat (first | refine blk_drewN ?_ _ | refine blk_drew ?_ | refine blk_alloc ?_ _)); exact BK197.out) hb)
            have n1_ := Aside0.mk (below_step (by repeat (first | (with_reducible first | exact HB.out | apply below_alloc | apply pw_below_drewN | apply below_drew1 | refine below_set ?_ GE197.out) | exact HB.out)) hb)
            clear BK197
            clear HB
            have BK197 := n0_
            have HB := n1_
            clear n0_ n1_
            (try clear hb)
            (try clear hb2)
            (try clear hk)
            (try clear hi)
            refine hK.out _ _ ⟨(blk_cell BK197.out 0).trans rfl, (blk_cell BK197.out 1).trans rfl, (blk_cell BK197.out 2).trans rfl, (blk_cell BK197.out 3).trans rfl, (blk_cell BK197.out 4).trans rfl, (blk_cell BK197.out 5).trans rfl, (blk_cell BK197.out 6).trans rfl, (blk_cell BK197.out 7).trans rfl, ((HB.out.cell (World.block_lt_of_cell? w _ hw199_0)).trans hw199_0), ((HB.out.cell (World.block_lt_of_cell? w _ hw199_1)).trans hw199_1), ((HB.out.cell (World.block_lt_of_cell? w _ hw199_2)).trans hw199_2), ((HB.out.cell (World.block_lt_of_cell? w _ hw199_3)).trans hw199_3), ((HB.out.cell (World.block_lt_of_cell? w _ hw199_4)).trans hw199_4), ((HB.out.cell (World.block_lt_of_cell? w _ hw199_5)).trans hw199_5), ((HB.out.cell (World.block_lt_of_cell? w _ hw199_6)).trans hw199_6), ((HB.out.cell (World.block_lt_of_cell? w _ hw199_7)).trans hw199_7)⟩ (fun hHeld => ?_)
            clear hK K
            refine norm_ (a' := ?_) ?_ ?_
            rotate_left
            ·
             show Act.put _ (some 16) _ = _
             simp only [Act.put, P3_1, P3_2, P3_3, i64_w, i32_w]
             rfl
            refine pure_ (i := 2) (N := some 17) (v := ?_) (a' := ?_) M3_3 rfl rfl (any_of HT_.out (by kernel_rfl)) (fun _ _ _ h => h) (Or.inl ⟨by rfl, ?_⟩) ?_ ?_
            rotate_left; · intro w'; go_simp; with_reducible rfl
            rotate_left; · simp only [Act.put, P3_1, P3_2, P3_3, i64_w, i32_w]; rfl
            refine pure_ (i := 3) (N := some 18) (v := ?_) (a' := ?_) M3_4 rfl rfl (any_of HT_.out (by kernel_rfl)) (fun _ _ _ h => h) (Or.inl ⟨by rfl, ?_⟩) ?_ ?_
            rotate_left; · intro w'; go_simp; with_reducible rfl
            rotate_left; · simp only [Act.put, P3_1, P3_2, P3_3, i64_w, i32_w]; rfl
            refine pure_ (i := 4) (N := some 19) (v := ?_) (a' := ?_) M3_5 rfl rfl (any_of HT_.out (by kernel_rfl)) (fun _ _ _ h => h) (Or.inl ⟨by rfl, ?_⟩) ?_ ?_
            rotate_left; · intro w'; go_simp; with_reducible rfl
            rotate_left; · simp only [Act.put, P3_1, P3_2, P3_3, i64_w, i32_w]; rfl
            refine pure_ (i := 5) (N := some 20) (v := ?_) (a' := ?_) M3_6 rfl rfl (any_of HT_.out (by kernel_rfl)) (fun _ _ _ h => h) (Or.inl ⟨by rfl, ?_⟩) ?_ ?_
            rotate_left; · intro w'; go_simp; with_reducible rfl
            rotate_left; · simp only [Act.put, P3_1, P3_2, P3_3, i64_w, i32_w]; rfl
            refine pure_ (i := 6) (N := some 21) (v := ?_) (a' := ?_) M3_7 rfl rfl (any_of HT_.out (by kernel_rfl)) (fun _ _ _ h => h) (Or.inl ⟨by rfl, ?_⟩) ?_ ?_
            rotate_left; · intro w'; go_simp; with_reducible rfl
            rotate_left; · simp only [Act.put, P3_1, P3_2, P3_3, i64_w, i32_w]; rfl
            refine pure_ (i := 7) (N := some 22) (v := ?_) (a' := ?_) M3_8 rfl rfl (any_of HT_.out (by kernel_rfl)) (fun _ _ _ h => h) (Or.inl ⟨by rfl, ?_⟩) ?_ ?_
            rotate_left; · intro w'; go_simp; with_reducible rfl
            rotate_left; · simp only [Act.put, P3_1, P3_2, P3_3, i64_w, i32_w]; rfl
            refine pure_ (i := 8) (N := some 23) (v := ?_) (a' := ?_) M3_9 rfl rfl (any_of HT_.out (by kernel_rfl)) (fun _ _ _ h => h) (Or.inl ⟨by rfl, ?_⟩) ?_ ?_
            rotate_left; · intro w'; go_simp; with_reducible rfl
            rotate_left; · simp only [Act.put, P3_1, P3_2, P3_3, i64_w, i32_w]; rfl
            refine pure_ (i := 10) (N := some 25) (v := ?_) (a' := ?_) M3_10 rfl rfl (any_of HT_.out (by kernel_rfl)) (fun _ _ _ h => h) (Or.inl ⟨by rfl, ?_⟩) ?_ ?_
            rotate_left; · intro w'; go_simp; with_reducible rfl
            rotate_left; · simp only [Act.put, P3_1, P3_2, P3_3, i64_w, i32_w]; rfl
            refine pure_ (i := 11) (N := some 26) (v := ?_) (a' := ?_) M3_11 rfl rfl (any_of HT_.out (by kernel_rfl)) (fun _ _ _ h => h) (Or.inl ⟨by rfl, ?_⟩) ?_ ?_
            rotate_left; · intro w'; go_simp; with_reducible rfl
            rotate_left; · simp only [Act.put, P3_1, P3_2, P3_3, i64_w, i32_w]; rfl
            refine pure_ (i := 12) (N := some 27) (v := ?_) (a' := ?_) M3_12 rfl rfl (any_of HT_.out (by kernel_rfl)) (fun _ _ _ h => h) (Or.inl ⟨by rfl, ?_⟩) ?_ ?_
            rotate_left; · intro w'; go_simp; with_reducible rfl
            rotate_left; · simp only [Act.put, P3_1, P3_2, P3_3, i64_w, i32_w]; rfl
            refine pure_ (i := 13) (N := some 28) (v := ?_) (a' := ?_) M3_13 rfl rfl (any_of HT_.out (by kernel_rfl)) (fun _ _ _ h => h) (Or.inl ⟨by rfl, ?_⟩) ?_ ?_
            rotate_left; · intro w'; go_simp; with_reducible rfl
            rotate_left; · simp only [Act.put, P3_1, P3_2, P3_3, i64_w, i32_w]; rfl
            refine pure_ (i := 14) (N := some 29) (v := ?_) (a' := ?_) M3_14 rfl rfl (any_of HT_.out (by kernel_rfl)) (fun _ _ _ h => h) (Or.inl ⟨by rfl, ?_⟩) ?_ ?_
            rotate_left; · intro w'; go_simp; with_reducible rfl
            rotate_left; · simp only [Act.put, P3_1, P3_2, P3_3, i64_w, i32_w]; rfl
            refine pure_ (i := 15) (N := some 30) (v := ?_) (a' := ?_) M3_15 rfl rfl (any_of HT_.out (by kernel_rfl)) (fun _ _ _ h => h) (Or.inl ⟨by rfl, ?_⟩) ?_ ?_
            rotate_left; · intro w'; go_simp; with_reducible rfl
            rotate_left; · simp only [Act.put, P3_1, P3_2, P3_3, i64_w, i32_w]; rfl
            refine take_ (i := 9) (N := some 24) (v := ?_) (a' := ?_) M3_16 rfl rfl (take_ofW HT_.out HW_.out (by kernel_rfl)) (fun _ _ _ h => h) (Or.inl ⟨by rfl, ?_⟩) hHeld ?_ ?_
            rotate_left; · rintro w' ⟨s0, s1, s2, s3, s4, s5, s6, s7, s8, s9, s10, s11, s12, s13, s14, s15⟩; go_simp; with_reducible rfl
            rotate_left; · simp only [Act.put, P3_1, P3_2, P3_3, i64_w, i32_w]; rfl
            refine take_ (i := 16) (N := some 31) (v := ?_) (a' := ?_) M3_17 rfl rfl (take_ofW HT_.out HW_.out (by kernel_rfl)) (fun _ _ _ h => h) (Or.inl ⟨by rfl, ?_⟩) hHeld ?_ ?_
            rotate_left; · rintro w' ⟨s0, s1, s2, s3, s4, s5, s6, s7, s8, s9, s10, s11, s12, s13, s14, s15⟩; go_simp; with_reducible rfl
            rotate_left; · simp only [Act.put, P3_1, P3_2, P3_3, i64_w, i32_w]; rfl
            refine pure_ (i := 17) (N := some 32) (v := ?_) (a' := ?_) M3_18 rfl rfl (any_of HT_.out (by kernel_rfl)) (fun _ _ _ h => h) (Or.inl ⟨by rfl, ?_⟩) ?_ ?_
            rotate_left; · intro w'; go_simp; with_reducible rfl
            rotate_left; · simp only [Act.put, P3_1, P3_2, P3_3, i64_w, i32_w]; rfl
            refine pure_ (i := 18) (N := some 33) (v := ?_) (a' := ?_) M3_19 rfl rfl (any_of HT_.out (by kernel_rfl)) (fun _ _ _ h => h) (Or.inl ⟨by rfl, ?_⟩) ?_ ?_
            rotate_left; · intro w'; go_simp; with_reducible rfl
            rotate_left; · simp only [Act.put, P3_1, P3_2, P3_3, i64_w, i32_w]; rfl
            refine pure_ (i := 19) (N := some 34) (v := ?_) (a' := ?_) M3_20 rfl rfl (any_of HT_.out (by kernel_rfl)) (fun _ _ _ h => h) (Or.inl ⟨by rfl, ?_⟩) ?_ ?_
            rotate_left; · intro w'; go_simp; with_reducible rfl
            rotate_left; · simp only [Act.put, P3_1, P3_2, P3_3, i64_w, i32_w]; rfl
            refine done_ (done_of HT_.out (by kernel_rfl)) ?_
            try go_wp2
            go_ret
            exact ⟨by first | rfl | (simp [errW_none, errW_some] <;> rfl) | (simp only [← hji9]; first | rfl | (simp [errW_none, errW_some] <;> rfl)) | (simp [*, errW_none, errW_some] <;> rfl), by repeat (first | (with_reducible first | exact HB.out | apply below_alloc | apply pw_below_drewN | apply below_drew1 | refine below_set ?_ GE197.out) | exact HB.out)⟩
           ·
            rw [if_neg c12] at H
            have c12b0 : decide (((rd_T58 l0 x10_1).f0.f0) ≤ ((rd_T58 l0 (ji9)).f0.f0)) = false := decide_eq_false c12
            clear c12
            have H' := Aside0.mk H
            clear H
            have p196 : 0 ≤ (x10_1 : Int) := of_decide_eq_true (by first | (with_reducible assumption) | assumption)
            have q196 : x10_1 < (l0.length : Int) := of_decide_eq_true (by first | (with_reducible assumption) | assumption)
            obtain ⟨ad196, e196, hx196_0, hx196_1, hx196_2, hx196_3, hx196_4, hx196_5, hx196_6, hx196_7⟩ := at_T58 HR0.out x10_1 p196 q196
            cases e196
            replace hx196_0 := (HB.out.cell (World.block_lt_of_cell? w _ hx196_0)).trans hx196_0
            replace hx196_1 := (HB.out.cell (World.block_lt_of_cell? w _ hx196_1)).trans hx196_1
            replace hx196_2 := (HB.out.cell (World.block_lt_of_cell? w _ hx196_2)).trans hx196_2
            replace hx196_3 := (HB.out.cell (World.block_lt_of_cell? w _ hx196_3)).trans hx196_3
            replace hx196_4 := (HB.out.cell (World.block_lt_of_cell? w _ hx196_4)).trans hx196_4
            replace hx196_5 := (HB.out.cell (World.block_lt_of_cell? w _ hx196_5)).trans hx196_5
            replace hx196_6 := (HB.out.cell (World.block_lt_of_cell? w _ hx196_6)).trans hx196_6
            replace hx196_7 := (HB.out.cell (World.block_lt_of_cell? w _ hx196_7)).trans hx196_7
            replace p196 := eq_true p196
            replace q196 := eq_true q196
            try go_wp2_with (first | ((with_reducible refine gate_dst (N := 4) rfl ?_); refine box_event ?hg (N := 4) ?hd (cs := #[.int .i64 0, .int .i64 0, .int .i64 0, .int .i64 0, .int .i64 0, .int .i64 0, .int .i64 0, .int .i64 0]) (t := 58) ?hr ?_; (case hd => rfl); (case hg => rfl); (case hr => first | (go_simp; done) | (go_simp; rfl)); intro gb197 hg w18 hbox hb; have n0_ := Aside0.mk (below_step (by repeat (first | (with_reducible first | exact HB.out | apply below_alloc | apply pw_below_drewN | apply below_drew1) | exact HB.out)) hb); have n1_ := Aside0.mk (hbox); have n2_ := Aside0.mk ((by rw [hg]; exact (below_size (by repeat (first | (with_reducible first | exact HB.out | apply below_alloc | apply pw_below_drewN | apply below_drew1) | exact HB.out))) : w.heap.size ≤ gb197)); have n3_ := Aside0.mk ((by rw [hg]; exact (below_size (by repeat (first | (with_reducible first | exact HB.out | apply below_alloc | apply pw_below_drewN | apply below_drew1) | exact HB.out))) : w.heap.size ≤ gb197)); clear HB; have HB := n0_; have BK197 := n1_; have GW197 := n2_; have GE197 := n3_; clear n0_ n1_ n2_ n3_; clear hb hbox hg; have hcz19_0 : w18.cell? ⟨gb197, 0, none⟩ = some (.int .i64 0) := (blk_cell BK197.out 0).trans rfl; have hcz19_1 : w18.cell? ⟨gb197, 1, none⟩ = some (.int .i64 0) := (blk_cell BK197.out 1).trans rfl; have hcz19_2 : w18.cell? ⟨gb197, 2, none⟩ = some (.int .i64 0) := (blk_cell BK197.out 2).trans rfl; have hcz19_3 : w18.cell? ⟨gb197, 3, none⟩ = some (.int .i64 0) := (blk_cell BK197.out 3).trans rfl; have hcz19_4 : w18.cell? ⟨gb197, 4, none⟩ = some (.int .i64 0) := (blk_cell BK197.out 4).trans rfl; have hcz19_5 : w18.cell? ⟨gb197, 5, none⟩ = some (.int .i64 0) := (blk_cell BK197.out 5).trans rfl; have hcz19_6 : w18.cell? ⟨gb197, 6, none⟩ = some (.int .i64 0) := (blk_cell BK197.out 6).trans rfl; have hcz19_7 : w18.cell? ⟨gb197, 7, none⟩ = some (.int .i64 0) := (blk_cell BK197.out 7).trans rfl; have hfz19_0 := blk_frozen BK197.out 0; have hfz19_1 := blk_frozen BK197.out 1; have hfz19_2 := blk_frozen BK197.out 2; have hfz19_3 := blk_frozen BK197.out 3; have hfz19_4 := blk_frozen BK197.out 4; have hfz19_5 := blk_frozen BK197.out 5; have hfz19_6 := blk_frozen BK197.out 6; have hfz19_7 := blk_frozen BK197.out 7))
            have n0_ : Aside0 (((((((((w18.setCell ⟨gb197, 0, none⟩ (.int .i64 ((rd_T58 l0 x10_1).f0.f0))).setCell ⟨gb197, 1, none⟩ (.int .i64 ((rd_T58 l0 x10_1).f0.f1))).setCell ⟨gb197, 2, none⟩ (.int .i64 ((rd_T58 l0 x10_1).f0.f2))).setCell ⟨gb197, 3, none⟩ (.int .i64 ((rd_T58 l0 x10_1).f0.f3))).setCell ⟨gb197, 4, none⟩ (.int .i64 ((rd_T58 l0 x10_1).f0.f4))).setCell ⟨gb197, 5, none⟩ (.int .i64 ((rd_T58 l0 x10_1).f1))).setCell ⟨gb197, 6, none⟩ (.int .i64 ((rd_T58 l0 x10_1).f2))).setCell ⟨gb197, 7, none⟩ (.int .i64 ((rd_T58 l0 x10_1).f3))).heap[gb197]? = some (.cells #[.int .i64 ((rd_T58 l0 x10_1).f0.f0), .int .i64 ((rd_T58 l0 x10_1).f0.f1), .int .i64 ((rd_T58 l0 x10_1).f0.f2), .int .i64 ((rd_T58 l0 x10_1).f0.f3), .int .i64 ((rd_T58 l0 x10_1).f0.f4), .int .i64 ((rd_T58 l0 x10_1).f1), .int .i64 ((rd_T58 l0 x10_1).f2), .int .i64 ((rd_T58 l0 x10_1).f3)] 58 (0, 0))) := ⟨by (with_reducible repeat (first | refine blk_drewN ?_ _ | refine blk_drew ?_ | refine blk_alloc ?_ _)); refine blk_put (cs := #[.int .i64 ((rd_T58 l0 x10_1).f0.f0), .int .i64 ((rd_T58 l0 x10_1).f0.f1), .int .i64 ((rd_T58 l0 x10_1).f0.f2), .int .i64 ((rd_T58 l0 x10_1).f0.f3), .int .i64 ((rd_T58 l0 x10_1).f0.f4), .int .i64 ((rd_T58 l0 x10_1).f1), .int .i64 ((rd_T58 l0 x10_1).f2), .int .i64 0]) ?_ 7 _ rfl; (with_reducible repeat (first | refine blk_drewN ?_ _ | refine blk_drew ?_ | refine blk_alloc ?_ _)); refine blk_put (cs := #[.int .i64 ((rd_T58 l0 x10_1).f0.f0), .int .i64 ((rd_T58 l0 x10_1).f0.f1), .int .i64 ((rd_T58 l0 x10_1).f0.f2), .int .i64 ((rd_T58 l0 x10_1).f0.f3), .int .i64 ((rd_T58 l0 x10_1).f0.f4), .int .i64 ((rd_T58 l0 x10_1).f1), .int .i64 0, .int .i64 0]) ?_ 6 _ rfl; (with_reducible repeat (first | refine blk_drewN ?_ _ | refine blk_drew ?_ | refine blk_alloc ?_ _)); refine blk_put (cs := #[.int .i64 ((rd_T58 l0 x10_1).f0.f0), .int .i64 ((rd_T58 l0 x10_1).f0.f1), .int .i64 ((rd_T58 l0 x10_1).f0.f2), .int .i64 ((rd_T58 l0 x10_1).f0.f3), .int .i64 ((rd_T58 l0 x10_1).f0.f4), .int .i64 0, .int .i64 0, .int .i64 0]) ?_ 5 _ rfl; (with_reducible repeat (first | refine blk_drewN ?_ _ | refine blk_drew ?_ | refine blk_alloc ?_ _)); refine blk_put (cs := #[.int .i64 ((rd_T58 l0 x10_1).f0.f0), .int .i64 ((rd_T58 l0 x10_1).f0.f1), .int .i64 ((rd_T58 l0 x10_1).f0.f2), .int .i64 ((rd_T58 l0 x10_1).f0.f3), .int .i64 0, .int .i64 0, .int .i64 0, .int .i64 0]) ?_ 4 _ rfl; (with_reducible repeat (first | refine blk_drewN ?_ _ | refine blk_drew ?_ | refine blk_alloc ?_ _)); refine blk_put (cs := #[.int .i64 ((rd_T58 l0 x10_1).f0.f0), .int .i64 ((rd_T58 l0 x10_1).f0.f1), .int .i64 ((rd_T58 l0 x10_1).f0.f2), .int .i64 0, .int .i64 0, .int .i64 0, .int .i64 0, .int .i64 0]) ?_ 3 _ rfl; (with_reducible repeat (first | refine blk_drewN ?_ _ | refine blk_drew ?_ | refine blk_alloc ?_ _)); refine blk_put (cs := #[.int .i64 ((rd_T58 l0 x10_1).f0.f0), .int .i64 ((rd_T58 l0 x10_1).f0.f1), .int .i64 0, .int .i64 0, .int .i64 0, .int .i64 0, .int .i64 0, .int .i64 0]) ?_ 2 _ rfl; (with_reducible repeat (first | refine blk_drewN ?_ _ | refine blk_drew ?_ | refine blk_alloc ?_ _)); refine blk_put (cs := #[.int .i64 ((rd_T58 l0 x10_1).f0.f0), .int .i64 0, .int .i64 0, .int .i64 0, .int .i64 0, .int .i64 0, .int .i64 0, .int .i64 0]) ?_ 1 _ rfl; (with_reducible repeat (first | refine blk_drewN ?_ _ | refine blk_drew ?_ | refine blk_alloc ?_ _)); refine blk_put (cs := #[.int .i64 0, .int .i64 0, .int .i64 0, .int .i64 0, .int .i64 0, .int .i64 0, .int .i64 0, .int .i64 0]) ?_ 0 _ rfl; (with_reducible repeat (first | refine blk_drewN ?_ _ | refine blk_drew ?_ | refine blk_alloc ?_ _)); exact BK197.out⟩
            have n1_ : Aside0 (Below w.heap.size w ((((((((w18.setCell ⟨gb197, 0, none⟩ (.int .i64 ((rd_T58 l0 x10_1).f0.f0))).setCell ⟨gb197, 1, none⟩ (.int .i64 ((rd_T58 l0 x10_1).f0.f1))).setCell ⟨gb197, 2, none⟩ (.int .i64 ((rd_T58 l0 x10_1).f0.f2))).setCell ⟨gb197, 3, none⟩ (.int .i64 ((rd_T58 l0 x10_1).f0.f3))).setCell ⟨gb197, 4, none⟩ (.int .i64 ((rd_T58 l0 x10_1).f0.f4))).setCell ⟨gb197, 5, none⟩ (.int .i64 ((rd_T58 l0 x10_1).f1))).setCell ⟨gb197, 6, none⟩ (.int .i64 ((rd_T58 l0 x10_1).f2))).setCell ⟨gb197, 7, none⟩ (.int .i64 ((rd_T58 l0 x10_1).f3)))) := ⟨by repeat (first | (with_reducible first | exact HB.out | apply below_alloc | apply pw_below_drewN | apply below_drew1 | refine below_set ?_ GE197.out) | exact HB.out)⟩
            (try clear BK197)
            (try clear HB)
            generalize ((((((((w18.setCell ⟨gb197, 0, none⟩ (.int .i64 ((rd_T58 l0 x10_1).f0.f0))).setCell ⟨gb197, 1, none⟩ (.int .i64 ((rd_T58 l0 x10_1).f0.f1))).setCell ⟨gb197, 2, none⟩ (.int .i64 ((rd_T58 l0 x10_1).f0.f2))).setCell ⟨gb197, 3, none⟩ (.int .i64 ((rd_T58 l0 x10_1).f0.f3))).setCell ⟨gb197, 4, none⟩ (.int .i64 ((rd_T58 l0 x10_1).f0.f4))).setCell ⟨gb197, 5, none⟩ (.int .i64 ((rd_T58 l0 x10_1).f1))).setCell ⟨gb197, 6, none⟩ (.int .i64 ((rd_T58 l0 x10_1).f2))).setCell ⟨gb197, 7, none⟩ (.int .i64 ((rd_T58 l0 x10_1).f3))) = w20 at n0_ n1_ ⊢
            have BK197 := n0_
            have HB := n1_
            clear n0_ n1_
            have n0_ := Aside0.mk (blk_drew BK197.out)
            have n1_ := Aside0.mk (below_drew1 HB.out)
            clear BK197
            clear HB
            have BK197 := n0_
            have HB := n1_
            clear n0_ n1_
            have p199 : 0 ≤ ((ji9) : Int) := of_decide_eq_true (by first | (with_reducible assumption) | assumption)
            have q199 : (ji9) < (l0.length : Int) := of_decide_eq_true (by first | (with_reducible assumption) | assumption)
            obtain ⟨ad199, e199, hx199_0, hx199_1, hx199_2, hx199_3, hx199_4, hx199_5, hx199_6, hx199_7⟩ := at_T58 HR0.out (ji9) p199 q199
            have hw199_7 := hx199_7
            have hw199_6 := hx199_6
            have hw199_5 := hx199_5
            have hw199_4 := hx199_4
            have hw199_3 := hx199_3
            have hw199_2 := hx199_2
            have hw199_1 := hx199_1
            have hw199_0 := hx199_0
            obtain rfl : ad196 = ad199 := (by injection e199)
            replace hx199_0 := (HB.out.cell (World.block_lt_of_cell? w _ hx199_0)).trans hx199_0
            replace hx199_1 := (HB.out.cell (World.block_lt_of_cell? w _ hx199_1)).trans hx199_1
            replace hx199_2 := (HB.out.cell (World.block_lt_of_cell? w _ hx199_2)).trans hx199_2
            replace hx199_3 := (HB.out.cell (World.block_lt_of_cell? w _ hx199_3)).trans hx199_3
            replace hx199_4 := (HB.out.cell (World.block_lt_of_cell? w _ hx199_4)).trans hx199_4
            replace hx199_5 := (HB.out.cell (World.block_lt_of_cell? w _ hx199_5)).trans hx199_5
            replace hx199_6 := (HB.out.cell (World.block_lt_of_cell? w _ hx199_6)).trans hx199_6
            replace hx199_7 := (HB.out.cell (World.block_lt_of_cell? w _ hx199_7)).trans hx199_7
            replace p199 := eq_true p199
            replace q199 := eq_true q199
            refine start_ (n := 20) (S := fun w' => w'.cell? ⟨gb197, 0, none⟩ = some (.int .i64 ((rd_T58 l0 x10_1).f0.f0)) ∧ w'.cell? ⟨gb197, 1, none⟩ = some (.int .i64 ((rd_T58 l0 x10_1).f0.f1)) ∧ w'.cell? ⟨gb197, 2, none⟩ = some (.int .i64 ((rd_T58 l0 x10_1).f0.f2)) ∧ w'.cell? ⟨gb197, 3, none⟩ = some (.int .i64 ((rd_T58 l0 x10_1).f0.f3)) ∧ w'.cell? ⟨gb197, 4, none⟩ = some (.int .i64 ((rd_T58 l0 x10_1).f0.f4)) ∧ w'.cell? ⟨gb197, 5, none⟩ = some (.int .i64 ((rd_T58 l0 x10_1).f1)) ∧ w'.cell? ⟨gb197, 6, none⟩ = some (.int .i64 ((rd_T58 l0 x10_1).f2)) ∧ w'.cell? ⟨gb197, 7, none⟩ = some (.int .i64 ((rd_T58 l0 x10_1).f3)) ∧ w'.cell? (ad196.add (((ji9)).toNat * 8)) = some (.int .i64 ((rd_T58 l0 (ji9)).f0.f0)) ∧ w'.cell? ⟨(ad196.add (((ji9)).toNat * 8)).block, (ad196.add (((ji9)).toNat * 8)).off + 1, none⟩ = some (.int .i64 ((rd_T58 l0 (ji9)).f0.f1)) ∧ w'.cell? ⟨(ad196.add (((ji9)).toNat * 8)).block, (ad196.add (((ji9)).toNat * 8)).off + 2, none⟩ = some (.int .i64 ((rd_T58 l0 (ji9)).f0.f2)) ∧ w'.cell? ⟨(ad196.add (((ji9)).toNat * 8)).block, (ad196.add (((ji9)).toNat * 8)).off + 3, none⟩ = some (.int .i64 ((rd_T58 l0 (ji9)).f0.f3)) ∧ w'.cell? ⟨(ad196.add (((ji9)).toNat * 8)).block, (ad196.add (((ji9)).toNat * 8)).off + 4, none⟩ = some (.int .i64 ((rd_T58 l0 (ji9)).f0.f4)) ∧ w'.cell? ⟨(ad196.add (((ji9)).toNat * 8)).block, (ad196.add (((ji9)).toNat * 8)).off + 5, none⟩ = some (.int .i64 ((rd_T58 l0 (ji9)).f1)) ∧ w'.cell? ⟨(ad196.add (((ji9)).toNat * 8)).block, (ad196.add (((ji9)).toNat * 8)).off + 6, none⟩ = some (.int .i64 ((rd_T58 l0 (ji9)).f2)) ∧ w'.cell? ⟨(ad196.add (((ji9)).toNat * 8)).block, (ad196.add (((ji9)).toNat * 8)).off + 7, none⟩ = some (.int .i64 ((rd_T58 l0 (ji9)).f3))) (ds := []) M3_0 (by kernel_rfl) rfl rfl ⟨(blk_cell BK197.out 0).trans rfl, (blk_cell BK197.out 1).trans rfl, (blk_cell BK197.out 2).trans rfl, (blk_cell BK197.out 3).trans rfl, (blk_cell BK197.out 4).trans rfl, (blk_cell BK197.out 5).trans rfl, (blk_cell BK197.out 6).trans rfl, (blk_cell BK197.out 7).trans rfl, ((HB.out.cell (World.block_lt_of_cell? w _ hw199_0)).trans hw199_0), ((HB.out.cell (World.block_lt_of_cell? w _ hw199_1)).trans hw199_1), ((HB.out.cell (World.block_lt_of_cell? w _ hw199_2)).trans hw199_2), ((HB.out.cell (World.block_lt_of_cell? w _ hw199_3)).trans hw199_3), ((HB.out.cell (World.block_lt_of_cell? w _ hw199_4)).trans hw199_4), ((HB.out.cell (World.block_lt_of_cell? w _ hw199_5)).trans hw199_5), ((HB.out.cell (World.block_lt_of_cell? w _ hw199_6)).trans hw199_6), ((HB.out.cell (World.block_lt_of_cell? w _ hw199_7)).trans hw199_7)⟩ (fun hHeld => ?_); refine with_tabW impl_AreFinds.tab6 impl_AreFinds.bits6 (fun HT_ HW_ => ?_)
            generalize w20.drew = w21 at BK197 HB hx199_0 hx199_1 hx199_2 hx199_3 hx199_4 hx199_5 hx199_6 hx199_7 hHeld ⊢
            refine take_ (i := 0) (N := some 15) (v := ?_) (a' := ?_) M3_1 rfl rfl (take_ofW HT_.out HW_.out (by kernel_rfl)) (fun _ _ _ h => h) (Or.inl ⟨by rfl, ?_⟩) hHeld ?_ ?_
            rotate_left; · rintro w' ⟨s0, s1, s2, s3, s4, s5, s6, s7, s8, s9, s10, s11, s12, s13, s14, s15⟩; go_simp; with_reducible rfl
            rotate_left; · simp only [Act.put, P3_1, P3_2, P3_3, i64_w, i32_w]; rfl
            refine one_ (i := 1) (N := some 16) M3_2 rfl rfl (one_of HT_.out (by kernel_rfl)) (by decide) (fun K hK => ?_)
            refine goes_ Try.func60 (by kernel_rfl) rfl #[.agg #[.int .i64 ((rd_T58 l0 x10_1).f0.f0), .int .i64 ((rd_T58 l0 x10_1).f0.f1), .int .i64 ((rd_T58 l0 x10_1).f0.f2), .int .i64 ((rd_T58 l0 x10_1).f0.f3), .int .i64 ((rd_T58 l0 x10_1).f0.f4), .int .i64 ((rd_T58 l0 x10_1).f1), .int .i64 ((rd_T58 l0 x10_1).f2), .int .i64 ((rd_T58 l0 x10_1).f3)]] (by rfl) rfl rfl (by (try simp only [List.map_toArray, List.map_cons, List.map_nil]); first | done | rfl | (simp only [List.length_drop, List.length_take]; rfl)) ?_
            with_reducible refine (impl_IsFind.calls ((rd_T58 l0 x10_1).f0.f0) ((rd_T58 l0 x10_1).f0.f1) ((rd_T58 l0 x10_1).f0.f2) ((rd_T58 l0 x10_1).f0.f3) ((rd_T58 l0 x10_1).f0.f4) ((rd_T58 l0 x10_1).f1) ((rd_T58 l0 x10_1).f2) ((rd_T58 l0 x10_1).f3) true _ A6.out).mono ?_
            rintro e w22 ⟨rfl, hb⟩
            refine ⟨_, rfl, ?_⟩
            have n0_ := Aside0.mk (blk_below (g := gb197) (o := .cells #[.int .i64 ((rd_T58 l0 x10_1).f0.f0), .int .i64 ((rd_T58 l0 x10_1).f0.f1), .int .i64 ((rd_T58 l0 x10_1).f0.f2), .int .i64 ((rd_T58 l0 x10_1).f0.f3), .int .i64 ((rd_T58 l0 x10_1).f0.f4), .int .i64 ((rd_T58 l0 x10_1).f1), .int .i64 ((rd_T58 l0 x10_1).f2), .int .i64 ((rd_T58 l0 x10_1).f3)] 58 (0, 0)) (by (with_reducible repeat (first | refine blk_drewN ?_ _ | refine blk_drew ?_ | refine blk_alloc ?_ _)); exact BK197.out) hb)
            have n1_ := Aside0.mk (below_step (by repeat (first | (with_reducible first | exact HB.out | apply below_alloc | apply pw_below_drewN | apply below_drew1 | refine below_set ?_ GE197.out) | exact HB.out)) hb)
            clear BK197
            clear HB
            have BK197 := n0_
            have HB := n1_
            clear n0_ n1_
            (try clear hb)
            (try clear hb2)
            (try clear hk)
            (try clear hi)
            refine hK.out _ _ ⟨(blk_cell BK197.out 0).trans rfl, (blk_cell BK197.out 1).trans rfl, (blk_cell BK197.out 2).trans rfl, (blk_cell BK197.out 3).trans rfl, (blk_cell BK197.out 4).trans rfl, (blk_cell BK197.out 5).trans rfl, (blk_cell BK197.out 6).trans rfl, (blk_cell BK197.out 7).trans rfl, ((HB.out.cell (World.block_lt_of_cell? w _ hw199_0)).trans hw199_0), ((HB.out.cell (World.block_lt_of_cell? w _ hw199_1)).trans hw199_1), ((HB.out.cell (World.block_lt_of_cell? w _ hw199_2)).trans hw199_2), ((HB.out.cell (World.block_lt_of_cell? w _ hw199_3)).trans hw199_3), ((HB.out.cell (World.block_lt_of_cell? w _ hw199_4)).trans hw199_4), ((HB.out.cell (World.block_lt_of_cell? w _ hw199_5)).trans hw199_5), ((HB.out.cell (World.block_lt_of_cell? w _ hw199_6)).trans hw199_6), ((HB.out.cell (World.block_lt_of_cell? w _ hw199_7)).trans hw199_7)⟩ (fun hHeld => ?_)
            clear hK K
            refine norm_ (a' := ?_) ?_ ?_
            rotate_left
            ·
             show Act.put _ (some 16) _ = _
             simp only [Act.put, P3_1, P3_2, P3_3, i64_w, i32_w]
             rfl
            refine pure_ (i := 2) (N := some 17) (v := ?_) (a' := ?_) M3_3 rfl rfl (any_of HT_.out (by kernel_rfl)) (fun _ _ _ h => h) (Or.inl ⟨by rfl, ?_⟩) ?_ ?_
            rotate_left; · intro w'; go_simp; with_reducible rfl
            rotate_left; · simp only [Act.put, P3_1, P3_2, P3_3, i64_w, i32_w]; rfl
            refine pure_ (i := 3) (N := some 18) (v := ?_) (a' := ?_) M3_4 rfl rfl (any_of HT_.out (by kernel_rfl)) (fun _ _ _ h => h) (Or.inl ⟨by rfl, ?_⟩) ?_ ?_
            rotate_left; · intro w'; go_simp; with_reducible rfl
            rotate_left; · simp only [Act.put, P3_1, P3_2, P3_3, i64_w, i32_w]; rfl
            refine pure_ (i := 4) (N := some 19) (v := ?_) (a' := ?_) M3_5 rfl rfl (any_of HT_.out (by kernel_rfl)) (fun _ _ _ h => h) (Or.inl ⟨by rfl, ?_⟩) ?_ ?_
            rotate_left; · intro w'; go_simp; with_reducible rfl
            rotate_left; · simp only [Act.put, P3_1, P3_2, P3_3, i64_w, i32_w]; rfl
            refine pure_ (i := 5) (N := some 20) (v := ?_) (a' := ?_) M3_6 rfl rfl (any_of HT_.out (by kernel_rfl)) (fun _ _ _ h => h) (Or.inl ⟨by rfl, ?_⟩) ?_ ?_
            rotate_left; · intro w'; go_simp; with_reducible rfl
            rotate_left; · simp only [Act.put, P3_1, P3_2, P3_3, i64_w, i32_w]; rfl
            refine pure_ (i := 6) (N := some 21) (v := ?_) (a' := ?_) M3_7 rfl rfl (any_of HT_.out (by kernel_rfl)) (fun _ _ _ h => h) (Or.inl ⟨by rfl, ?_⟩) ?_ ?_
            rotate_left; · intro w'; go_simp; with_reducible rfl
            rotate_left; · simp only [Act.put, P3_1, P3_2, P3_3, i64_w, i32_w]; rfl
            refine pure_ (i := 7) (N := some 22) (v := ?_) (a' := ?_) M3_8 rfl rfl (any_of HT_.out (by kernel_rfl)) (fun _ _ _ h => h) (Or.inl ⟨by rfl, ?_⟩) ?_ ?_
            rotate_left; · intro w'; go_simp; with_reducible rfl
            rotate_left; · simp only [Act.put, P3_1, P3_2, P3_3, i64_w, i32_w]; rfl
            refine pure_ (i := 8) (N := some 23) (v := ?_) (a' := ?_) M3_9 rfl rfl (any_of HT_.out (by kernel_rfl)) (fun _ _ _ h => h) (Or.inl ⟨by rfl, ?_⟩) ?_ ?_
            rotate_left; · intro w'; go_simp; with_reducible rfl
            rotate_left; · simp only [Act.put, P3_1, P3_2, P3_3, i64_w, i32_w]; rfl
            refine pure_ (i := 10) (N := some 25) (v := ?_) (a' := ?_) M3_10 rfl rfl (any_of HT_.out (by kernel_rfl)) (fun _ _ _ h => h) (Or.inl ⟨by rfl, ?_⟩) ?_ ?_
            rotate_left; · intro w'; go_simp; with_reducible rfl
            rotate_left; · simp only [Act.put, P3_1, P3_2, P3_3, i64_w, i32_w]; rfl
            refine pure_ (i := 11) (N := some 26) (v := ?_) (a' := ?_) M3_11 rfl rfl (any_of HT_.out (by kernel_rfl)) (fun _ _ _ h => h) (Or.inl ⟨by rfl, ?_⟩) ?_ ?_
            rotate_left; · intro w'; go_simp; with_reducible rfl
            rotate_left; · simp only [Act.put, P3_1, P3_2, P3_3, i64_w, i32_w]; rfl
            refine pure_ (i := 12) (N := some 27) (v := ?_) (a' := ?_) M3_12 rfl rfl (any_of HT_.out (by kernel_rfl)) (fun _ _ _ h => h) (Or.inl ⟨by rfl, ?_⟩) ?_ ?_
            rotate_left; · intro w'; go_simp; with_reducible rfl
            rotate_left; · simp only [Act.put, P3_1, P3_2, P3_3, i64_w, i32_w]; rfl
            refine pure_ (i := 13) (N := some 28) (v := ?_) (a' := ?_) M3_13 rfl rfl (any_of HT_.out (by kernel_rfl)) (fun _ _ _ h => h) (Or.inl ⟨by rfl, ?_⟩) ?_ ?_
            rotate_left; · intro w'; go_simp; with_reducible rfl
            rotate_left; · simp only [Act.put, P3_1, P3_2, P3_3, i64_w, i32_w]; rfl
            refine pure_ (i := 14) (N := some 29) (v := ?_) (a' := ?_) M3_14 rfl rfl (any_of HT_.out (by kernel_rfl)) (fun _ _ _ h => h) (Or.inl ⟨by rfl, ?_⟩) ?_ ?_
            rotate_left; · intro w'; go_simp; with_reducible rfl
            rotate_left; · simp only [Act.put, P3_1, P3_2, P3_3, i64_w, i32_w]; rfl
            refine pure_ (i := 15) (N := some 30) (v := ?_) (a' := ?_) M3_15 rfl rfl (any_of HT_.out (by kernel_rfl)) (fun _ _ _ h => h) (Or.inl ⟨by rfl, ?_⟩) ?_ ?_
            rotate_left; · intro w'; go_simp; with_reducible rfl
            rotate_left; · simp only [Act.put, P3_1, P3_2, P3_3, i64_w, i32_w]; rfl
            refine take_ (i := 9) (N := some 24) (v := ?_) (a' := ?_) M3_16 rfl rfl (take_ofW HT_.out HW_.out (by kernel_rfl)) (fun _ _ _ h => h) (Or.inl ⟨by rfl, ?_⟩) hHeld ?_ ?_
            rotate_left; · rintro w' ⟨s0, s1, s2, s3, s4, s5, s6, s7, s8, s9, s10, s11, s12, s13, s14, s15⟩; go_simp; with_reducible rfl
            rotate_left; · simp only [Act.put, P3_1, P3_2, P3_3, i64_w, i32_w]; rfl
            refine take_ (i := 16) (N := some 31) (v := ?_) (a' := ?_) M3_17 rfl rfl (take_ofW HT_.out HW_.out (by kernel_rfl)) (fun _ _ _ h => h) (Or.inl ⟨by rfl, ?_⟩) hHeld ?_ ?_
            rotate_left; · rintro w' ⟨s0, s1, s2, s3, s4, s5, s6, s7, s8, s9, s10, s11, s12, s13, s14, s15⟩; go_simp; with_reducible rfl
            rotate_left; · simp only [Act.put, P3_1, P3_2, P3_3, i64_w, i32_w]; rfl
            refine pure_ (i := 17) (N := some 32) (v := ?_) (a' := ?_) M3_18 rfl rfl (any_of HT_.out (by kernel_rfl)) (fun _ _ _ h => h) (Or.inl ⟨by rfl, ?_⟩) ?_ ?_
            rotate_left; · intro w'; go_simp; with_reducible rfl
            rotate_left; · simp only [Act.put, P3_1, P3_2, P3_3, i64_w, i32_w]; rfl
            refine pure_ (i := 18) (N := some 33) (v := ?_) (a' := ?_) M3_19 rfl rfl (any_of HT_.out (by kernel_rfl)) (fun _ _ _ h => h) (Or.inl ⟨by rfl, ?_⟩) ?_ ?_
            rotate_left; · intro w'; go_simp; with_reducible rfl
            rotate_left; · simp only [Act.put, P3_1, P3_2, P3_3, i64_w, i32_w]; rfl
            refine pure_ (i := 19) (N := some 34) (v := ?_) (a' := ?_) M3_20 rfl rfl (any_of HT_.out (by kernel_rfl)) (fun _ _ _ h => h) (Or.inl ⟨by rfl, ?_⟩) ?_ ?_
            rotate_left; · intro w'; go_simp; with_reducible rfl
            rotate_left; · simp only [Act.put, P3_1, P3_2, P3_3, i64_w, i32_w]; rfl
            refine done_ (done_of HT_.out (by kernel_rfl)) ?_
            try go_wp2
            go_roundg k1
            case measure => have := HK1.out; omega
            case rel => exact ⟨(wrap64 (x10_1 + 1)), (by first | rfl | (simp; done) | (simp [*]; done)), H', ⟨by have := HK1.out; omega⟩, ⟨by repeat (first | (with_reducible first | exact HB.out | apply below_alloc | apply pw_below_drewN | apply below_drew1 | refine below_set ?_ GE197.out) | exact HB.out)⟩⟩
          ·
           rw [if_neg c11] at H
           exact absurd H (by simp)
         ·
          rw [if_neg c10] at H
          exact absurd H (by simp)
        ·
         rw [if_neg c8] at H
         have c8b0 : decide (0 < x10_1) = false := decide_eq_false c8
         clear c8
         have H' := Aside0.mk H
         clear H
         have p196 : 0 ≤ (x10_1 : Int) := of_decide_eq_true (by first | (with_reducible assumption) | assumption)
         have q196 : x10_1 < (l0.length : Int) := of_decide_eq_true (by first | (with_reducible assumption) | assumption)
         obtain ⟨ad196, e196, hx196_0, hx196_1, hx196_2, hx196_3, hx196_4, hx196_5, hx196_6, hx196_7⟩ := at_T58 HR0.out x10_1 p196 q196
         cases e196
         replace hx196_0 := (HB.out.cell (World.block_lt_of_cell? w _ hx196_0)).trans hx196_0
         replace hx196_1 := (HB.out.cell (World.block_lt_of_cell? w _ hx196_1)).trans hx196_1
         replace hx196_2 := (HB.out.cell (World.block_lt_of_cell? w _ hx196_2)).trans hx196_2
         replace hx196_3 := (HB.out.cell (World.block_lt_of_cell? w _ hx196_3)).trans hx196_3
         replace hx196_4 := (HB.out.cell (World.block_lt_of_cell? w _ hx196_4)).trans hx196_4
         replace hx196_5 := (HB.out.cell (World.block_lt_of_cell? w _ hx196_5)).trans hx196_5
         replace hx196_6 := (HB.out.cell (World.block_lt_of_cell? w _ hx196_6)).trans hx196_6
         replace hx196_7 := (HB.out.cell (World.block_lt_of_cell? w _ hx196_7)).trans hx196_7
         replace p196 := eq_true p196
         replace q196 := eq_true q196
         try go_wp2_with (first | ((with_reducible refine gate_dst (N := 4) rfl ?_); refine box_event ?hg (N := 4) ?hd (cs := #[.int .i64 0, .int .i64 0, .int .i64 0, .int .i64 0, .int .i64 0, .int .i64 0, .int .i64 0, .int .i64 0]) (t := 58) ?hr ?_; (case hd => rfl); (case hg => rfl); (case hr => first | (go_simp; done) | (go_simp; rfl)); intro gb197 hg w23 hbox hb; have n0_ := Aside0.mk (below_step (by repeat (first | (with_reducible first | exact HB.out | apply below_alloc | apply pw_below_drewN | apply below_drew1) | exact HB.out)) hb); have n1_ := Aside0.mk (hbox); have n2_ := Aside0.mk ((by rw [hg]; exact (below_size (by repeat (first | (with_reducible first | exact HB.out | apply below_alloc | apply pw_below_drewN | apply below_drew1) | exact HB.out))) : w.heap.size ≤ gb197)); have n3_ := Aside0.mk ((by rw [hg]; exact (below_size (by repeat (first | (with_reducible first | exact HB.out | apply below_alloc | apply pw_below_drewN | apply below_drew1) | exact HB.out))) : w.heap.size ≤ gb197)); clear HB; have HB := n0_; have BK197 := n1_; have GW197 := n2_; have GE197 := n3_; clear n0_ n1_ n2_ n3_; clear hb hbox hg; have hcz24_0 : w23.cell? ⟨gb197, 0, none⟩ = some (.int .i64 0) := (blk_cell BK197.out 0).trans rfl; have hcz24_1 : w23.cell? ⟨gb197, 1, none⟩ = some (.int .i64 0) := (blk_cell BK197.out 1).trans rfl; have hcz24_2 : w23.cell? ⟨gb197, 2, none⟩ = some (.int .i64 0) := (blk_cell BK197.out 2).trans rfl; have hcz24_3 : w23.cell? ⟨gb197, 3, none⟩ = some (.int .i64 0) := (blk_cell BK197.out 3).trans rfl; have hcz24_4 : w23.cell? ⟨gb197, 4, none⟩ = some (.int .i64 0) := (blk_cell BK197.out 4).trans rfl; have hcz24_5 : w23.cell? ⟨gb197, 5, none⟩ = some (.int .i64 0) := (blk_cell BK197.out 5).trans rfl; have hcz24_6 : w23.cell? ⟨gb197, 6, none⟩ = some (.int .i64 0) := (blk_cell BK197.out 6).trans rfl; have hcz24_7 : w23.cell? ⟨gb197, 7, none⟩ = some (.int .i64 0) := (blk_cell BK197.out 7).trans rfl; have hfz24_0 := blk_frozen BK197.out 0; have hfz24_1 := blk_frozen BK197.out 1; have hfz24_2 := blk_frozen BK197.out 2; have hfz24_3 := blk_frozen BK197.out 3; have hfz24_4 := blk_frozen BK197.out 4; have hfz24_5 := blk_frozen BK197.out 5; have hfz24_6 := blk_frozen BK197.out 6; have hfz24_7 := blk_frozen BK197.out 7))
         have n0_ : Aside0 (((((((((w23.setCell ⟨gb197, 0, none⟩ (.int .i64 ((rd_T58 l0 x10_1).f0.f0))).setCell ⟨gb197, 1, none⟩ (.int .i64 ((rd_T58 l0 x10_1).f0.f1))).setCell ⟨gb197, 2, none⟩ (.int .i64 ((rd_T58 l0 x10_1).f0.f2))).setCell ⟨gb197, 3, none⟩ (.int .i64 ((rd_T58 l0 x10_1).f0.f3))).setCell ⟨gb197, 4, none⟩ (.int .i64 ((rd_T58 l0 x10_1).f0.f4))).setCell ⟨gb197, 5, none⟩ (.int .i64 ((rd_T58 l0 x10_1).f1))).setCell ⟨gb197, 6, none⟩ (.int .i64 ((rd_T58 l0 x10_1).f2))).setCell ⟨gb197, 7, none⟩ (.int .i64 ((rd_T58 l0 x10_1).f3))).heap[gb197]? = some (.cells #[.int .i64 ((rd_T58 l0 x10_1).f0.f0), .int .i64 ((rd_T58 l0 x10_1).f0.f1), .int .i64 ((rd_T58 l0 x10_1).f0.f2), .int .i64 ((rd_T58 l0 x10_1).f0.f3), .int .i64 ((rd_T58 l0 x10_1).f0.f4), .int .i64 ((rd_T58 l0 x10_1).f1), .int .i64 ((rd_T58 l0 x10_1).f2), .int .i64 ((rd_T58 l0 x10_1).f3)] 58 (0, 0))) := ⟨by (with_reducible repeat (first | refine blk_drewN ?_ _ | refine blk_drew ?_ | refine blk_alloc ?_ _)); refine blk_put (cs := #[.int .i64 ((rd_T58 l0 x10_1).f0.f0), .int .i64 ((rd_T58 l0 x10_1).f0.f1), .int .i64 ((rd_T58 l0 x10_1).f0.f2), .int .i64 ((rd_T58 l0 x10_1).f0.f3), .int .i64 ((rd_T58 l0 x10_1).f0.f4), .int .i64 ((rd_T58 l0 x10_1).f1), .int .i64 ((rd_T58 l0 x10_1).f2), .int .i64 0]) ?_ 7 _ rfl; (with_reducible repeat (first | refine blk_drewN ?_ _ | refine blk_drew ?_ | refine blk_alloc ?_ _)); refine blk_put (cs := #[.int .i64 ((rd_T58 l0 x10_1).f0.f0), .int .i64 ((rd_T58 l0 x10_1).f0.f1), .int .i64 ((rd_T58 l0 x10_1).f0.f2), .int .i64 ((rd_T58 l0 x10_1).f0.f3), .int .i64 ((rd_T58 l0 x10_1).f0.f4), .int .i64 ((rd_T58 l0 x10_1).f1), .int .i64 0, .int .i64 0]) ?_ 6 _ rfl; (with_reducible repeat (first | refine blk_drewN ?_ _ | refine blk_drew ?_ | refine blk_alloc ?_ _)); refine blk_put (cs := #[.int .i64 ((rd_T58 l0 x10_1).f0.f0), .int .i64 ((rd_T58 l0 x10_1).f0.f1), .int .i64 ((rd_T58 l0 x10_1).f0.f2), .int .i64 ((rd_T58 l0 x10_1).f0.f3), .int .i64 ((rd_T58 l0 x10_1).f0.f4), .int .i64 0, .int .i64 0, .int .i64 0]) ?_ 5 _ rfl; (with_reducible repeat (first | refine blk_drewN ?_ _ | refine blk_drew ?_ | refine blk_alloc ?_ _)); refine blk_put (cs := #[.int .i64 ((rd_T58 l0 x10_1).f0.f0), .int .i64 ((rd_T58 l0 x10_1).f0.f1), .int .i64 ((rd_T58 l0 x10_1).f0.f2), .int .i64 ((rd_T58 l0 x10_1).f0.f3), .int .i64 0, .int .i64 0, .int .i64 0, .int .i64 0]) ?_ 4 _ rfl; (with_reducible repeat (first | refine blk_drewN ?_ _ | refine blk_drew ?_ | refine blk_alloc ?_ _)); refine blk_put (cs := #[.int .i64 ((rd_T58 l0 x10_1).f0.f0), .int .i64 ((rd_T58 l0 x10_1).f0.f1), .int .i64 ((rd_T58 l0 x10_1).f0.f2), .int .i64 0, .int .i64 0, .int .i64 0, .int .i64 0, .int .i64 0]) ?_ 3 _ rfl; (with_reducible repeat (first | refine blk_drewN ?_ _ | refine blk_drew ?_ | refine blk_alloc ?_ _)); refine blk_put (cs := #[.int .i64 ((rd_T58 l0 x10_1).f0.f0), .int .i64 ((rd_T58 l0 x10_1).f0.f1), .int .i64 0, .int .i64 0, .int .i64 0, .int .i64 0, .int .i64 0, .int .i64 0]) ?_ 2 _ rfl; (with_reducible repeat (first | refine blk_drewN ?_ _ | refine blk_drew ?_ | refine blk_alloc ?_ _)); refine blk_put (cs := #[.int .i64 ((rd_T58 l0 x10_1).f0.f0), .int .i64 0, .int .i64 0, .int .i64 0, .int .i64 0, .int .i64 0, .int .i64 0, .int .i64 0]) ?_ 1 _ rfl; (with_reducible repeat (first | refine blk_drewN ?_ _ | refine blk_drew ?_ | refine blk_alloc ?_ _)); refine blk_put (cs := #[.int .i64 0, .int .i64 0, .int .i64 0, .int .i64 0, .int .i64 0, .int .i64 0, .int .i64 0, .int .i64 0]) ?_ 0 _ rfl; (with_reducible repeat (first | refine blk_drewN ?_ _ | refine blk_drew ?_ | refine blk_alloc ?_ _)); exact BK197.out⟩
         have n1_ : Aside0 (Below w.heap.size w ((((((((w23.setCell ⟨gb197, 0, none⟩ (.int .i64 ((rd_T58 l0 x10_1).f0.f0))).setCell ⟨gb197, 1, none⟩ (.int .i64 ((rd_T58 l0 x10_1).f0.f1))).setCell ⟨gb197, 2, none⟩ (.int .i64 ((rd_T58 l0 x10_1).f0.f2))).setCell ⟨gb197, 3, none⟩ (.int .i64 ((rd_T58 l0 x10_1).f0.f3))).setCell ⟨gb197, 4, none⟩ (.int .i64 ((rd_T58 l0 x10_1).f0.f4))).setCell ⟨gb197, 5, none⟩ (.int .i64 ((rd_T58 l0 x10_1).f1))).setCell ⟨gb197, 6, none⟩ (.int .i64 ((rd_T58 l0 x10_1).f2))).setCell ⟨gb197, 7, none⟩ (.int .i64 ((rd_T58 l0 x10_1).f3)))) := ⟨by repeat (first | (with_reducible first | exact HB.out | apply below_alloc | apply pw_below_drewN | apply below_drew1 | refine below_set ?_ GE197.out) | exact HB.out)⟩
         (try clear BK197)
         (try clear HB)
         generalize ((((((((w23.setCell ⟨gb197, 0, none⟩ (.int .i64 ((rd_T58 l0 x10_1).f0.f0))).setCell ⟨gb197, 1, none⟩ (.int .i64 ((rd_T58 l0 x10_1).f0.f1))).setCell ⟨gb197, 2, none⟩ (.int .i64 ((rd_T58 l0 x10_1).f0.f2))).setCell ⟨gb197, 3, none⟩ (.int .i64 ((rd_T58 l0 x10_1).f0.f3))).setCell ⟨gb197, 4, none⟩ (.int .i64 ((rd_T58 l0 x10_1).f0.f4))).setCell ⟨gb197, 5, none⟩ (.int .i64 ((rd_T58 l0 x10_1).f1))).setCell ⟨gb197, 6, none⟩ (.int .i64 ((rd_T58 l0 x10_1).f2))).setCell ⟨gb197, 7, none⟩ (.int .i64 ((rd_T58 l0 x10_1).f3))) = w25 at n0_ n1_ ⊢
         have BK197 := n0_
         have HB := n1_
         clear n0_ n1_
         have n0_ := Aside0.mk (blk_drew BK197.out)
         have n1_ := Aside0.mk (below_drew1 HB.out)
         clear BK197
         clear HB
         have BK197 := n0_
         have HB := n1_
         clear n0_ n1_
         refine start_ (n := 20) (S := fun w' => w'.cell? ⟨gb197, 0, none⟩ = some (.int .i64 ((rd_T58 l0 x10_1).f0.f0)) ∧ w'.cell? ⟨gb197, 1, none⟩ = some (.int .i64 ((rd_T58 l0 x10_1).f0.f1)) ∧ w'.cell? ⟨gb197, 2, none⟩ = some (.int .i64 ((rd_T58 l0 x10_1).f0.f2)) ∧ w'.cell? ⟨gb197, 3, none⟩ = some (.int .i64 ((rd_T58 l0 x10_1).f0.f3)) ∧ w'.cell? ⟨gb197, 4, none⟩ = some (.int .i64 ((rd_T58 l0 x10_1).f0.f4)) ∧ w'.cell? ⟨gb197, 5, none⟩ = some (.int .i64 ((rd_T58 l0 x10_1).f1)) ∧ w'.cell? ⟨gb197, 6, none⟩ = some (.int .i64 ((rd_T58 l0 x10_1).f2)) ∧ w'.cell? ⟨gb197, 7, none⟩ = some (.int .i64 ((rd_T58 l0 x10_1).f3))) (ds := []) M3_0 (by kernel_rfl) rfl rfl ⟨(blk_cell BK197.out 0).trans rfl, (blk_cell BK197.out 1).trans rfl, (blk_cell BK197.out 2).trans rfl, (blk_cell BK197.out 3).trans rfl, (blk_cell BK197.out 4).trans rfl, (blk_cell BK197.out 5).trans rfl, (blk_cell BK197.out 6).trans rfl, (blk_cell BK197.out 7).trans rfl⟩ (fun hHeld => ?_); refine with_tabW impl_AreFinds.tab6 impl_AreFinds.bits6 (fun HT_ HW_ => ?_)
         generalize w25.drew = w26 at BK197 HB hHeld ⊢
         refine take_ (i := 0) (N := some 15) (v := ?_) (a' := ?_) M3_1 rfl rfl (take_ofW HT_.out HW_.out (by kernel_rfl)) (fun _ _ _ h => h) (Or.inl ⟨by rfl, ?_⟩) hHeld ?_ ?_
         rotate_left; · rintro w' ⟨s0, s1, s2, s3, s4, s5, s6, s7⟩; go_simp; with_reducible rfl
         rotate_left; · simp only [Act.put, P3_1, P3_2, P3_3, i64_w, i32_w]; rfl
         refine one_ (i := 1) (N := some 16) M3_2 rfl rfl (one_of HT_.out (by kernel_rfl)) (by decide) (fun K hK => ?_)
         refine goes_ Try.func60 (by kernel_rfl) rfl #[.agg #[.int .i64 ((rd_T58 l0 x10_1).f0.f0), .int .i64 ((rd_T58 l0 x10_1).f0.f1), .int .i64 ((rd_T58 l0 x10_1).f0.f2), .int .i64 ((rd_T58 l0 x10_1).f0.f3), .int .i64 ((rd_T58 l0 x10_1).f0.f4), .int .i64 ((rd_T58 l0 x10_1).f1), .int .i64 ((rd_T58 l0 x10_1).f2), .int .i64 ((rd_T58 l0 x10_1).f3)]] (by rfl) rfl rfl (by (try simp only [List.map_toArray, List.map_cons, List.map_nil]); first | done | rfl | (simp only [List.length_drop, List.length_take]; rfl)) ?_
         with_reducible refine (impl_IsFind.calls ((rd_T58 l0 x10_1).f0.f0) ((rd_T58 l0 x10_1).f0.f1) ((rd_T58 l0 x10_1).f0.f2) ((rd_T58 l0 x10_1).f0.f3) ((rd_T58 l0 x10_1).f0.f4) ((rd_T58 l0 x10_1).f1) ((rd_T58 l0 x10_1).f2) ((rd_T58 l0 x10_1).f3) true _ A6.out).mono ?_
         rintro e w27 ⟨rfl, hb⟩
         refine ⟨_, rfl, ?_⟩
         have n0_ := Aside0.mk (blk_below (g := gb197) (o := .cells #[.int .i64 ((rd_T58 l0 x10_1).f0.f0), .int .i64 ((rd_T58 l0 x10_1).f0.f1), .int .i64 ((rd_T58 l0 x10_1).f0.f2), .int .i64 ((rd_T58 l0 x10_1).f0.f3), .int .i64 ((rd_T58 l0 x10_1).f0.f4), .int .i64 ((rd_T58 l0 x10_1).f1), .int .i64 ((rd_T58 l0 x10_1).f2), .int .i64 ((rd_T58 l0 x10_1).f3)] 58 (0, 0)) (by (with_reducible repeat (first | refine blk_drewN ?_ _ | refine blk_drew ?_ | refine blk_alloc ?_ _)); exact BK197.out) hb)
         have n1_ := Aside0.mk (below_step (by repeat (first | (with_reducible first | exact HB.out | apply below_alloc | apply pw_below_drewN | apply below_drew1 | refine below_set ?_ GE197.out) | exact HB.out)) hb)
         clear BK197
         clear HB
         have BK197 := n0_
         have HB := n1_
         clear n0_ n1_
         (try clear hb)
         (try clear hb2)
         (try clear hk)
         (try clear hi)
         refine hK.out _ _ ⟨(blk_cell BK197.out 0).trans rfl, (blk_cell BK197.out 1).trans rfl, (blk_cell BK197.out 2).trans rfl, (blk_cell BK197.out 3).trans rfl, (blk_cell BK197.out 4).trans rfl, (blk_cell BK197.out 5).trans rfl, (blk_cell BK197.out 6).trans rfl, (blk_cell BK197.out 7).trans rfl⟩ (fun hHeld => ?_)
         clear hK K
         refine norm_ (a' := ?_) ?_ ?_
         rotate_left
         ·
          show Act.put _ (some 16) _ = _
          simp only [Act.put, P3_1, P3_2, P3_3, i64_w, i32_w]
          rfl
         refine pure_ (i := 2) (N := some 17) (v := ?_) (a' := ?_) M3_3 rfl rfl (any_of HT_.out (by kernel_rfl)) (fun _ _ _ h => h) (Or.inl ⟨by rfl, ?_⟩) ?_ ?_
         rotate_left; · intro w'; go_simp; with_reducible rfl
         rotate_left; · simp only [Act.put, P3_1, P3_2, P3_3, i64_w, i32_w]; rfl
         refine pure_ (i := 3) (N := some 18) (v := ?_) (a' := ?_) M3_4 rfl rfl (any_of HT_.out (by kernel_rfl)) (fun _ _ _ h => h) (Or.inl ⟨by rfl, ?_⟩) ?_ ?_
         rotate_left; · intro w'; go_simp; with_reducible rfl
         rotate_left; · simp only [Act.put, P3_1, P3_2, P3_3, i64_w, i32_w]; rfl
         refine pure_ (i := 4) (N := some 19) (v := ?_) (a' := ?_) M3_5 rfl rfl (any_of HT_.out (by kernel_rfl)) (fun _ _ _ h => h) (Or.inl ⟨by rfl, ?_⟩) ?_ ?_
         rotate_left; · intro w'; go_simp; with_reducible rfl
         rotate_left; · simp only [Act.put, P3_1, P3_2, P3_3, i64_w, i32_w]; rfl
         refine pure_ (i := 5) (N := some 20) (v := ?_) (a' := ?_) M3_6 rfl rfl (any_of HT_.out (by kernel_rfl)) (fun _ _ _ h => h) (Or.inl ⟨by rfl, ?_⟩) ?_ ?_
         rotate_left; · intro w'; go_simp; with_reducible rfl
         rotate_left; · simp only [Act.put, P3_1, P3_2, P3_3, i64_w, i32_w]; rfl
         refine pure_ (i := 6) (N := some 21) (v := ?_) (a' := ?_) M3_7 rfl rfl (any_of HT_.out (by kernel_rfl)) (fun _ _ _ h => h) (Or.inl ⟨by rfl, ?_⟩) ?_ ?_
         rotate_left; · intro w'; go_simp; with_reducible rfl
         rotate_left; · simp only [Act.put, P3_1, P3_2, P3_3, i64_w, i32_w]; rfl
         refine pure_ (i := 7) (N := some 22) (v := undef) (a' := ?_) M3_8 rfl rfl (any_of HT_.out (by kernel_rfl)) (fun _ _ _ h => h) (Or.inr ⟨by rfl, rfl⟩) ?_ ?_
         rotate_left; · simp only [Act.put, P3_1, P3_2, P3_3, i64_w, i32_w]; rfl
         refine pure_ (i := 8) (N := some 23) (v := undef) (a' := ?_) M3_9 rfl rfl (any_of HT_.out (by kernel_rfl)) (fun _ _ _ h => h) (Or.inr ⟨by rfl, rfl⟩) ?_ ?_
         rotate_left; · simp only [Act.put, P3_1, P3_2, P3_3, i64_w, i32_w]; rfl
         refine pure_ (i := 9) (N := some 24) (v := undef) (a' := ?_) M3_21 rfl rfl (any_of HT_.out (by kernel_rfl)) (fun _ _ _ h => h) (Or.inr ⟨by rfl, rfl⟩) ?_ ?_
         rotate_left; · simp only [Act.put, P3_1, P3_2, P3_3, i64_w, i32_w]; rfl
         refine pure_ (i := 10) (N := some 25) (v := undef) (a' := ?_) M3_22 rfl rfl (any_of HT_.out (by kernel_rfl)) (fun _ _ _ h => h) (Or.inr ⟨by rfl, rfl⟩) ?_ ?_
         rotate_left; · simp only [Act.put, P3_1, P3_2, P3_3, i64_w, i32_w]; rfl
         refine pure_ (i := 11) (N := some 26) (v := undef) (a' := ?_) M3_23 rfl rfl (any_of HT_.out (by kernel_rfl)) (fun _ _ _ h => h) (Or.inr ⟨by rfl, rfl⟩) ?_ ?_
         rotate_left; · simp only [Act.put, P3_1, P3_2, P3_3, i64_w, i32_w]; rfl
         refine pure_ (i := 12) (N := some 27) (v := undef) (a' := ?_) M3_24 rfl rfl (any_of HT_.out (by kernel_rfl)) (fun _ _ _ h => h) (Or.inr ⟨by rfl, rfl⟩) ?_ ?_
         rotate_left; · simp only [Act.put, P3_1, P3_2, P3_3, i64_w, i32_w]; rfl
         refine pure_ (i := 13) (N := some 28) (v := undef) (a' := ?_) M3_25 rfl rfl (any_of HT_.out (by kernel_rfl)) (fun _ _ _ h => h) (Or.inr ⟨by rfl, rfl⟩) ?_ ?_
         rotate_left; · simp only [Act.put, P3_1, P3_2, P3_3, i64_w, i32_w]; rfl
         refine pure_ (i := 14) (N := some 29) (v := undef) (a' := ?_) M3_26 rfl rfl (any_of HT_.out (by kernel_rfl)) (fun _ _ _ h => h) (Or.inr ⟨by rfl, rfl⟩) ?_ ?_
         rotate_left; · simp only [Act.put, P3_1, P3_2, P3_3, i64_w, i32_w]; rfl
         refine pure_ (i := 15) (N := some 30) (v := undef) (a' := ?_) M3_16 rfl rfl (any_of HT_.out (by kernel_rfl)) (fun _ _ _ h => h) (Or.inr ⟨by rfl, rfl⟩) ?_ ?_
         rotate_left; · simp only [Act.put, P3_1, P3_2, P3_3, i64_w, i32_w]; rfl
         refine pure_ (i := 16) (N := some 31) (v := undef) (a' := ?_) M3_17 rfl rfl (any_of HT_.out (by kernel_rfl)) (fun _ _ _ h => h) (Or.inr ⟨by rfl, rfl⟩) ?_ ?_
         rotate_left; · simp only [Act.put, P3_1, P3_2, P3_3, i64_w, i32_w]; rfl
         refine pure_ (i := 17) (N := some 32) (v := undef) (a' := ?_) M3_18 rfl rfl (any_of HT_.out (by kernel_rfl)) (fun _ _ _ h => h) (Or.inr ⟨by rfl, rfl⟩) ?_ ?_
         rotate_left; · simp only [Act.put, P3_1, P3_2, P3_3, i64_w, i32_w]; rfl
         refine pure_ (i := 18) (N := some 33) (v := ?_) (a' := ?_) M3_19 rfl rfl (any_of HT_.out (by kernel_rfl)) (fun _ _ _ h => h) (Or.inl ⟨by rfl, ?_⟩) ?_ ?_
         rotate_left; · intro w'; go_simp; with_reducible rfl
         rotate_left; · simp only [Act.put, P3_1, P3_2, P3_3, i64_w, i32_w]; rfl
         refine pure_ (i := 19) (N := some 34) (v := ?_) (a' := ?_) M3_20 rfl rfl (any_of HT_.out (by kernel_rfl)) (fun _ _ _ h => h) (Or.inl ⟨by rfl, ?_⟩) ?_ ?_
         rotate_left; · intro w'; go_simp; with_reducible rfl
         rotate_left; · simp only [Act.put, P3_1, P3_2, P3_3, i64_w, i32_w]; rfl
         refine done_ (done_of HT_.out (by kernel_rfl)) ?_
         try go_wp2
         go_roundg k1
         case measure => have := HK1.out; omega
         case rel => exact ⟨(wrap64 (x10_1 + 1)), (by first | rfl | (simp; done) | (simp [*]; done)), H', ⟨by have := HK1.out; omega⟩, ⟨by repeat (first | (with_reducible first | exact HB.out | apply below_alloc | apply pw_below_drewN | apply below_drew1 | refine below_set ?_ GE197.out) | exact HB.out)⟩⟩
       ·
        replace c7 := Bool.eq_false_iff.mpr c7
        subst c7
        have H1 : (some false) = some r := by rw [if_neg (show ¬ (false = true) by decide)] at H; exact H
        clear H
        have H := H1
        clear H1
        obtain rfl := Option.some.inj H
        have p196 : 0 ≤ (x10_1 : Int) := of_decide_eq_true (by first | (with_reducible assumption) | assumption)
        have q196 : x10_1 < (l0.length : Int) := of_decide_eq_true (by first | (with_reducible assumption) | assumption)
        obtain ⟨ad196, e196, hx196_0, hx196_1, hx196_2, hx196_3, hx196_4, hx196_5, hx196_6, hx196_7⟩ := at_T58 HR0.out x10_1 p196 q196
        cases e196
        replace hx196_0 := (HB.out.cell (World.block_lt_of_cell? w _ hx196_0)).trans hx196_0
        replace hx196_1 := (HB.out.cell (World.block_lt_of_cell? w _ hx196_1)).trans hx196_1
        replace hx196_2 := (HB.out.cell (World.block_lt_of_cell? w _ hx196_2)).trans hx196_2
        replace hx196_3 := (HB.out.cell (World.block_lt_of_cell? w _ hx196_3)).trans hx196_3
        replace hx196_4 := (HB.out.cell (World.block_lt_of_cell? w _ hx196_4)).trans hx196_4
        replace hx196_5 := (HB.out.cell (World.block_lt_of_cell? w _ hx196_5)).trans hx196_5
        replace hx196_6 := (HB.out.cell (World.block_lt_of_cell? w _ hx196_6)).trans hx196_6
        replace hx196_7 := (HB.out.cell (World.block_lt_of_cell? w _ hx196_7)).trans hx196_7
        replace p196 := eq_true p196
        replace q196 := eq_true q196
        try go_wp2_with (first | ((with_reducible refine gate_dst (N := 4) rfl ?_); refine box_event ?hg (N := 4) ?hd (cs := #[.int .i64 0, .int .i64 0, .int .i64 0, .int .i64 0, .int .i64 0, .int .i64 0, .int .i64 0, .int .i64 0]) (t := 58) ?hr ?_; (case hd => rfl); (case hg => rfl); (case hr => first | (go_simp; done) | (go_simp; rfl)); intro gb197 hg w28 hbox hb; have n0_ := Aside0.mk (below_step (by repeat (first | (with_reducible first | exact HB.out | apply below_alloc | apply pw_below_drewN | apply below_drew1) | exact HB.out)) hb); have n1_ := Aside0.mk (hbox); have n2_ := Aside0.mk ((by rw [hg]; exact (below_size (by repeat (first | (with_reducible first | exact HB.out | apply below_alloc | apply pw_below_drewN | apply below_drew1) | exact HB.out))) : w.heap.size ≤ gb197)); have n3_ := Aside0.mk ((by rw [hg]; exact (below_size (by repeat (first | (with_reducible first | exact HB.out | apply below_alloc | apply pw_below_drewN | apply below_drew1) | exact HB.out))) : w.heap.size ≤ gb197)); clear HB; have HB := n0_; have BK197 := n1_; have GW197 := n2_; have GE197 := n3_; clear n0_ n1_ n2_ n3_; clear hb hbox hg; have hcz29_0 : w28.cell? ⟨gb197, 0, none⟩ = some (.int .i64 0) := (blk_cell BK197.out 0).trans rfl; have hcz29_1 : w28.cell? ⟨gb197, 1, none⟩ = some (.int .i64 0) := (blk_cell BK197.out 1).trans rfl; have hcz29_2 : w28.cell? ⟨gb197, 2, none⟩ = some (.int .i64 0) := (blk_cell BK197.out 2).trans rfl; have hcz29_3 : w28.cell? ⟨gb197, 3, none⟩ = some (.int .i64 0) := (blk_cell BK197.out 3).trans rfl; have hcz29_4 : w28.cell? ⟨gb197, 4, none⟩ = some (.int .i64 0) := (blk_cell BK197.out 4).trans rfl; have hcz29_5 : w28.cell? ⟨gb197, 5, none⟩ = some (.int .i64 0) := (blk_cell BK197.out 5).trans rfl; have hcz29_6 : w28.cell? ⟨gb197, 6, none⟩ = some (.int .i64 0) := (blk_cell BK197.out 6).trans rfl; have hcz29_7 : w28.cell? ⟨gb197, 7, none⟩ = some (.int .i64 0) := (blk_cell BK197.out 7).trans rfl; have hfz29_0 := blk_frozen BK197.out 0; have hfz29_1 := blk_frozen BK197.out 1; have hfz29_2 := blk_frozen BK197.out 2; have hfz29_3 := blk_frozen BK197.out 3; have hfz29_4 := blk_frozen BK197.out 4; have hfz29_5 := blk_frozen BK197.out 5; have hfz29_6 := blk_frozen BK197.out 6; have hfz29_7 := blk_frozen BK197.out 7))
        have n0_ : Aside0 (((((((((w28.setCell ⟨gb197, 0, none⟩ (.int .i64 ((rd_T58 l0 x10_1).f0.f0))).setCell ⟨gb197, 1, none⟩ (.int .i64 ((rd_T58 l0 x10_1).f0.f1))).setCell ⟨gb197, 2, none⟩ (.int .i64 ((rd_T58 l0 x10_1).f0.f2))).setCell ⟨gb197, 3, none⟩ (.int .i64 ((rd_T58 l0 x10_1).f0.f3))).setCell ⟨gb197, 4, none⟩ (.int .i64 ((rd_T58 l0 x10_1).f0.f4))).setCell ⟨gb197, 5, none⟩ (.int .i64 ((rd_T58 l0 x10_1).f1))).setCell ⟨gb197, 6, none⟩ (.int .i64 ((rd_T58 l0 x10_1).f2))).setCell ⟨gb197, 7, none⟩ (.int .i64 ((rd_T58 l0 x10_1).f3))).heap[gb197]? = some (.cells #[.int .i64 ((rd_T58 l0 x10_1).f0.f0), .int .i64 ((rd_T58 l0 x10_1).f0.f1), .int .i64 ((rd_T58 l0 x10_1).f0.f2), .int .i64 ((rd_T58 l0 x10_1).f0.f3), .int .i64 ((rd_T58 l0 x10_1).f0.f4), .int .i64 ((rd_T58 l0 x10_1).f1), .int .i64 ((rd_T58 l0 x10_1).f2), .int .i64 ((rd_T58 l0 x10_1).f3)] 58 (0, 0))) := ⟨by (with_reducible repeat (first | refine blk_drewN ?_ _ | refine blk_drew ?_ | refine blk_alloc ?_ _)); refine blk_put (cs := #[.int .i64 ((rd_T58 l0 x10_1).f0.f0), .int .i64 ((rd_T58 l0 x10_1).f0.f1), .int .i64 ((rd_T58 l0 x10_1).f0.f2), .int .i64 ((rd_T58 l0 x10_1).f0.f3), .int .i64 ((rd_T58 l0 x10_1).f0.f4), .int .i64 ((rd_T58 l0 x10_1).f1), .int .i64 ((rd_T58 l0 x10_1).f2), .int .i64 0]) ?_ 7 _ rfl; (with_reducible repeat (first | refine blk_drewN ?_ _ | refine blk_drew ?_ | refine blk_alloc ?_ _)); refine blk_put (cs := #[.int .i64 ((rd_T58 l0 x10_1).f0.f0), .int .i64 ((rd_T58 l0 x10_1).f0.f1), .int .i64 ((rd_T58 l0 x10_1).f0.f2), .int .i64 ((rd_T58 l0 x10_1).f0.f3), .int .i64 ((rd_T58 l0 x10_1).f0.f4), .int .i64 ((rd_T58 l0 x10_1).f1), .int .i64 0, .int .i64 0]) ?_ 6 _ rfl; (with_reducible repeat (first | refine blk_drewN ?_ _ | refine blk_drew ?_ | refine blk_alloc ?_ _)); refine blk_put (cs := #[.int .i64 ((rd_T58 l0 x10_1).f0.f0), .int .i64 ((rd_T58 l0 x10_1).f0.f1), .int .i64 ((rd_T58 l0 x10_1).f0.f2), .int .i64 ((rd_T58 l0 x10_1).f0.f3), .int .i64 ((rd_T58 l0 x10_1).f0.f4), .int .i64 0, .int .i64 0, .int .i64 0]) ?_ 5 _ rfl; (with_reducible repeat (first | refine blk_drewN ?_ _ | refine blk_drew ?_ | refine blk_alloc ?_ _)); refine blk_put (cs := #[.int .i64 ((rd_T58 l0 x10_1).f0.f0), .int .i64 ((rd_T58 l0 x10_1).f0.f1), .int .i64 ((rd_T58 l0 x10_1).f0.f2), .int .i64 ((rd_T58 l0 x10_1).f0.f3), .int .i64 0, .int .i64 0, .int .i64 0, .int .i64 0]) ?_ 4 _ rfl; (with_reducible repeat (first | refine blk_drewN ?_ _ | refine blk_drew ?_ | refine blk_alloc ?_ _)); refine blk_put (cs := #[.int .i64 ((rd_T58 l0 x10_1).f0.f0), .int .i64 ((rd_T58 l0 x10_1).f0.f1), .int .i64 ((rd_T58 l0 x10_1).f0.f2), .int .i64 0, .int .i64 0, .int .i64 0, .int .i64 0, .int .i64 0]) ?_ 3 _ rfl; (with_reducible repeat (first | refine blk_drewN ?_ _ | refine blk_drew ?_ | refine blk_alloc ?_ _)); refine blk_put (cs := #[.int .i64 ((rd_T58 l0 x10_1).f0.f0), .int .i64 ((rd_T58 l0 x10_1).f0.f1), .int .i64 0, .int .i64 0, .int .i64 0, .int .i64 0, .int .i64 0, .int .i64 0]) ?_ 2 _ rfl; (with_reducible repeat (first | refine blk_drewN ?_ _ | refine blk_drew ?_ | refine blk_alloc ?_ _)); refine blk_put (cs := #[.int .i64 ((rd_T58 l0 x10_1).f0.f0), .int .i64 0, .int .i64 0, .int .i64 0, .int .i64 0, .int .i64 0, .int .i64 0, .int .i64 0]) ?_ 1 _ rfl; (with_reducible repeat (first | refine blk_drewN ?_ _ | refine blk_drew ?_ | refine blk_alloc ?_ _)); refine blk_put (cs := #[.int .i64 0, .int .i64 0, .int .i64 0, .int .i64 0, .int .i64 0, .int .i64 0, .int .i64 0, .int .i64 0]) ?_ 0 _ rfl; (with_reducible repeat (first | refine blk_drewN ?_ _ | refine blk_drew ?_ | refine blk_alloc ?_ _)); exact BK197.out⟩
        have n1_ : Aside0 (Below w.heap.size w ((((((((w28.setCell ⟨gb197, 0, none⟩ (.int .i64 ((rd_T58 l0 x10_1).f0.f0))).setCell ⟨gb197, 1, none⟩ (.int .i64 ((rd_T58 l0 x10_1).f0.f1))).setCell ⟨gb197, 2, none⟩ (.int .i64 ((rd_T58 l0 x10_1).f0.f2))).setCell ⟨gb197, 3, none⟩ (.int .i64 ((rd_T58 l0 x10_1).f0.f3))).setCell ⟨gb197, 4, none⟩ (.int .i64 ((rd_T58 l0 x10_1).f0.f4))).setCell ⟨gb197, 5, none⟩ (.int .i64 ((rd_T58 l0 x10_1).f1))).setCell ⟨gb197, 6, none⟩ (.int .i64 ((rd_T58 l0 x10_1).f2))).setCell ⟨gb197, 7, none⟩ (.int .i64 ((rd_T58 l0 x10_1).f3)))) := ⟨by repeat (first | (with_reducible first | exact HB.out | apply below_alloc | apply pw_below_drewN | apply below_drew1 | refine below_set ?_ GE197.out) | exact HB.out)⟩
        (try clear BK197)
        (try clear HB)
        generalize ((((((((w28.setCell ⟨gb197, 0, none⟩ (.int .i64 ((rd_T58 l0 x10_1).f0.f0))).setCell ⟨gb197, 1, none⟩ (.int .i64 ((rd_T58 l0 x10_1).f0.f1))).setCell ⟨gb197, 2, none⟩ (.int .i64 ((rd_T58 l0 x10_1).f0.f2))).setCell ⟨gb197, 3, none⟩ (.int .i64 ((rd_T58 l0 x10_1).f0.f3))).setCell ⟨gb197, 4, none⟩ (.int .i64 ((rd_T58 l0 x10_1).f0.f4))).setCell ⟨gb197, 5, none⟩ (.int .i64 ((rd_T58 l0 x10_1).f1))).setCell ⟨gb197, 6, none⟩ (.int .i64 ((rd_T58 l0 x10_1).f2))).setCell ⟨gb197, 7, none⟩ (.int .i64 ((rd_T58 l0 x10_1).f3))) = w30 at n0_ n1_ ⊢
        have BK197 := n0_
        have HB := n1_
        clear n0_ n1_
        have n0_ := Aside0.mk (blk_drew BK197.out)
        have n1_ := Aside0.mk (below_drew1 HB.out)
        clear BK197
        clear HB
        have BK197 := n0_
        have HB := n1_
        clear n0_ n1_
        refine start_ (n := 20) (S := fun w' => w'.cell? ⟨gb197, 0, none⟩ = some (.int .i64 ((rd_T58 l0 x10_1).f0.f0)) ∧ w'.cell? ⟨gb197, 1, none⟩ = some (.int .i64 ((rd_T58 l0 x10_1).f0.f1)) ∧ w'.cell? ⟨gb197, 2, none⟩ = some (.int .i64 ((rd_T58 l0 x10_1).f0.f2)) ∧ w'.cell? ⟨gb197, 3, none⟩ = some (.int .i64 ((rd_T58 l0 x10_1).f0.f3)) ∧ w'.cell? ⟨gb197, 4, none⟩ = some (.int .i64 ((rd_T58 l0 x10_1).f0.f4)) ∧ w'.cell? ⟨gb197, 5, none⟩ = some (.int .i64 ((rd_T58 l0 x10_1).f1)) ∧ w'.cell? ⟨gb197, 6, none⟩ = some (.int .i64 ((rd_T58 l0 x10_1).f2)) ∧ w'.cell? ⟨gb197, 7, none⟩ = some (.int .i64 ((rd_T58 l0 x10_1).f3))) (ds := []) M3_0 (by kernel_rfl) rfl rfl ⟨(blk_cell BK197.out 0).trans rfl, (blk_cell BK197.out 1).trans rfl, (blk_cell BK197.out 2).trans rfl, (blk_cell BK197.out 3).trans rfl, (blk_cell BK197.out 4).trans rfl, (blk_cell BK197.out 5).trans rfl, (blk_cell BK197.out 6).trans rfl, (blk_cell BK197.out 7).trans rfl⟩ (fun hHeld => ?_); refine with_tabW impl_AreFinds.tab6 impl_AreFinds.bits6 (fun HT_ HW_ => ?_)
        generalize w30.drew = w31 at BK197 HB hHeld ⊢
        refine take_ (i := 0) (N := some 15) (v := ?_) (a' := ?_) M3_1 rfl rfl (take_ofW HT_.out HW_.out (by kernel_rfl)) (fun _ _ _ h => h) (Or.inl ⟨by rfl, ?_⟩) hHeld ?_ ?_
        rotate_left; · rintro w' ⟨s0, s1, s2, s3, s4, s5, s6, s7⟩; go_simp; with_reducible rfl
        rotate_left; · simp only [Act.put, P3_1, P3_2, P3_3, i64_w, i32_w]; rfl
        refine one_ (i := 1) (N := some 16) M3_2 rfl rfl (one_of HT_.out (by kernel_rfl)) (by decide) (fun K hK => ?_)
        refine goes_ Try.func60 (by kernel_rfl) rfl #[.agg #[.int .i64 ((rd_T58 l0 x10_1).f0.f0), .int .i64 ((rd_T58 l0 x10_1).f0.f1), .int .i64 ((rd_T58 l0 x10_1).f0.f2), .int .i64 ((rd_T58 l0 x10_1).f0.f3), .int .i64 ((rd_T58 l0 x10_1).f0.f4), .int .i64 ((rd_T58 l0 x10_1).f1), .int .i64 ((rd_T58 l0 x10_1).f2), .int .i64 ((rd_T58 l0 x10_1).f3)]] (by rfl) rfl rfl (by (try simp only [List.map_toArray, List.map_cons, List.map_nil]); first | done | rfl | (simp only [List.length_drop, List.length_take]; rfl)) ?_
        with_reducible refine (impl_IsFind.calls ((rd_T58 l0 x10_1).f0.f0) ((rd_T58 l0 x10_1).f0.f1) ((rd_T58 l0 x10_1).f0.f2) ((rd_T58 l0 x10_1).f0.f3) ((rd_T58 l0 x10_1).f0.f4) ((rd_T58 l0 x10_1).f1) ((rd_T58 l0 x10_1).f2) ((rd_T58 l0 x10_1).f3) false _ A6.out).mono ?_
        rintro e w32 ⟨rfl, hb⟩
        refine ⟨_, rfl, ?_⟩
        have n0_ := Aside0.mk (blk_below (g := gb197) (o := .cells #[.int .i64 ((rd_T58 l0 x10_1).f0.f0), .int .i64 ((rd_T58 l0 x10_1).f0.f1), .int .i64 ((rd_T58 l0 x10_1).f0.f2), .int .i64 ((rd_T58 l0 x10_1).f0.f3), .int .i64 ((rd_T58 l0 x10_1).f0.f4), .int .i64 ((rd_T58 l0 x10_1).f1), .int .i64 ((rd_T58 l0 x10_1).f2), .int .i64 ((rd_T58 l0 x10_1).f3)] 58 (0, 0)) (by (with_reducible repeat (first | refine blk_drewN ?_ _ | refine blk_drew ?_ | refine blk_alloc ?_ _)); exact BK197.out) hb)
        have n1_ := Aside0.mk (below_step (by repeat (first | (with_reducible first | exact HB.out | apply below_alloc | apply pw_below_drewN | apply below_drew1 | refine below_set ?_ GE197.out) | exact HB.out)) hb)
        clear BK197
        clear HB
        have BK197 := n0_
        have HB := n1_
        clear n0_ n1_
        (try clear hb)
        (try clear hb2)
        (try clear hk)
        (try clear hi)
        refine hK.out _ _ ⟨(blk_cell BK197.out 0).trans rfl, (blk_cell BK197.out 1).trans rfl, (blk_cell BK197.out 2).trans rfl, (blk_cell BK197.out 3).trans rfl, (blk_cell BK197.out 4).trans rfl, (blk_cell BK197.out 5).trans rfl, (blk_cell BK197.out 6).trans rfl, (blk_cell BK197.out 7).trans rfl⟩ (fun hHeld => ?_)
        clear hK K
        refine norm_ (a' := ?_) ?_ ?_
        rotate_left
        ·
         show Act.put _ (some 16) _ = _
         simp only [Act.put, P3_1, P3_2, P3_3, i64_w, i32_w]
         rfl
        refine pure_ (i := 2) (N := some 17) (v := ?_) (a' := ?_) M3_3 rfl rfl (any_of HT_.out (by kernel_rfl)) (fun _ _ _ h => h) (Or.inl ⟨by rfl, ?_⟩) ?_ ?_
        rotate_left; · intro w'; go_simp; with_reducible rfl
        rotate_left; · simp only [Act.put, P3_1, P3_2, P3_3, i64_w, i32_w]; rfl
        refine pure_ (i := 3) (N := some 18) (v := ?_) (a' := ?_) M3_4 rfl rfl (any_of HT_.out (by kernel_rfl)) (fun _ _ _ h => h) (Or.inl ⟨by rfl, ?_⟩) ?_ ?_
        rotate_left; · intro w'; go_simp; with_reducible rfl
        rotate_left; · simp only [Act.put, P3_1, P3_2, P3_3, i64_w, i32_w]; rfl
        refine pure_ (i := 4) (N := some 19) (v := undef) (a' := ?_) M3_5 rfl rfl (any_of HT_.out (by kernel_rfl)) (fun _ _ _ h => h) (Or.inr ⟨by rfl, rfl⟩) ?_ ?_
        rotate_left; · simp only [Act.put, P3_1, P3_2, P3_3, i64_w, i32_w]; rfl
        refine pure_ (i := 5) (N := some 20) (v := undef) (a' := ?_) M3_6 rfl rfl (any_of HT_.out (by kernel_rfl)) (fun _ _ _ h => h) (Or.inr ⟨by rfl, rfl⟩) ?_ ?_
        rotate_left; · simp only [Act.put, P3_1, P3_2, P3_3, i64_w, i32_w]; rfl
        refine pure_ (i := 6) (N := some 21) (v := undef) (a' := ?_) M3_7 rfl rfl (any_of HT_.out (by kernel_rfl)) (fun _ _ _ h => h) (Or.inr ⟨by rfl, rfl⟩) ?_ ?_
        rotate_left; · simp only [Act.put, P3_1, P3_2, P3_3, i64_w, i32_w]; rfl
        refine pure_ (i := 7) (N := some 22) (v := undef) (a' := ?_) M3_8 rfl rfl (any_of HT_.out (by kernel_rfl)) (fun _ _ _ h => h) (Or.inr ⟨by rfl, rfl⟩) ?_ ?_
        rotate_left; · simp only [Act.put, P3_1, P3_2, P3_3, i64_w, i32_w]; rfl
        refine pure_ (i := 8) (N := some 23) (v := undef) (a' := ?_) M3_9 rfl rfl (any_of HT_.out (by kernel_rfl)) (fun _ _ _ h => h) (Or.inr ⟨by rfl, rfl⟩) ?_ ?_
        rotate_left; · simp only [Act.put, P3_1, P3_2, P3_3, i64_w, i32_w]; rfl
        refine pure_ (i := 9) (N := some 24) (v := undef) (a' := ?_) M3_21 rfl rfl (any_of HT_.out (by kernel_rfl)) (fun _ _ _ h => h) (Or.inr ⟨by rfl, rfl⟩) ?_ ?_
        rotate_left; · simp only [Act.put, P3_1, P3_2, P3_3, i64_w, i32_w]; rfl
        refine pure_ (i := 10) (N := some 25) (v := undef) (a' := ?_) M3_22 rfl rfl (any_of HT_.out (by kernel_rfl)) (fun _ _ _ h => h) (Or.inr ⟨by rfl, rfl⟩) ?_ ?_
        rotate_left; · simp only [Act.put, P3_1, P3_2, P3_3, i64_w, i32_w]; rfl
        refine pure_ (i := 11) (N := some 26) (v := undef) (a' := ?_) M3_23 rfl rfl (any_of HT_.out (by kernel_rfl)) (fun _ _ _ h => h) (Or.inr ⟨by rfl, rfl⟩) ?_ ?_
        rotate_left; · simp only [Act.put, P3_1, P3_2, P3_3, i64_w, i32_w]; rfl
        refine pure_ (i := 12) (N := some 27) (v := undef) (a' := ?_) M3_24 rfl rfl (any_of HT_.out (by kernel_rfl)) (fun _ _ _ h => h) (Or.inr ⟨by rfl, rfl⟩) ?_ ?_
        rotate_left; · simp only [Act.put, P3_1, P3_2, P3_3, i64_w, i32_w]; rfl
        refine pure_ (i := 13) (N := some 28) (v := undef) (a' := ?_) M3_25 rfl rfl (any_of HT_.out (by kernel_rfl)) (fun _ _ _ h => h) (Or.inr ⟨by rfl, rfl⟩) ?_ ?_
        rotate_left; · simp only [Act.put, P3_1, P3_2, P3_3, i64_w, i32_w]; rfl
        refine pure_ (i := 14) (N := some 29) (v := undef) (a' := ?_) M3_26 rfl rfl (any_of HT_.out (by kernel_rfl)) (fun _ _ _ h => h) (Or.inr ⟨by rfl, rfl⟩) ?_ ?_
        rotate_left; · simp only [Act.put, P3_1, P3_2, P3_3, i64_w, i32_w]; rfl
        refine pure_ (i := 15) (N := some 30) (v := undef) (a' := ?_) M3_16 rfl rfl (any_of HT_.out (by kernel_rfl)) (fun _ _ _ h => h) (Or.inr ⟨by rfl, rfl⟩) ?_ ?_
        rotate_left; · simp only [Act.put, P3_1, P3_2, P3_3, i64_w, i32_w]; rfl
        refine pure_ (i := 16) (N := some 31) (v := undef) (a' := ?_) M3_17 rfl rfl (any_of HT_.out (by kernel_rfl)) (fun _ _ _ h => h) (Or.inr ⟨by rfl, rfl⟩) ?_ ?_
        rotate_left; · simp only [Act.put, P3_1, P3_2, P3_3, i64_w, i32_w]; rfl
        refine pure_ (i := 17) (N := some 32) (v := undef) (a' := ?_) M3_18 rfl rfl (any_of HT_.out (by kernel_rfl)) (fun _ _ _ h => h) (Or.inr ⟨by rfl, rfl⟩) ?_ ?_
        rotate_left; · simp only [Act.put, P3_1, P3_2, P3_3, i64_w, i32_w]; rfl
        refine pure_ (i := 18) (N := some 33) (v := undef) (a' := ?_) M3_19 rfl rfl (any_of HT_.out (by kernel_rfl)) (fun _ _ _ h => h) (Or.inr ⟨by rfl, rfl⟩) ?_ ?_
        rotate_left; · simp only [Act.put, P3_1, P3_2, P3_3, i64_w, i32_w]; rfl
        refine pure_ (i := 19) (N := some 34) (v := ?_) (a' := ?_) M3_20 rfl rfl (any_of HT_.out (by kernel_rfl)) (fun _ _ _ h => h) (Or.inl ⟨by rfl, ?_⟩) ?_ ?_
        rotate_left; · intro w'; go_simp; with_reducible rfl
        rotate_left; · simp only [Act.put, P3_1, P3_2, P3_3, i64_w, i32_w]; rfl
        refine done_ (done_of HT_.out (by kernel_rfl)) ?_
        try go_wp2
        go_ret
        exact ⟨by first | rfl | (simp [errW_none, errW_some] <;> rfl) | (simp [*, errW_none, errW_some] <;> rfl), by repeat (first | (with_reducible first | exact HB.out | apply below_alloc | apply pw_below_drewN | apply below_drew1 | refine below_set ?_ GE197.out) | exact HB.out)⟩
      ·
       rw [if_neg c5] at H
       exact absurd H (by simp)
     ·
      rw [if_neg c4] at H
      exact absurd H (by simp)
    ·
     rw [if_neg c3] at H
     have c3b0 : decide (x10_1 < (l0.length : Int)) = false := decide_eq_false c3
     clear c3
     obtain rfl := Option.some.inj H
     go_wp2
     go_ret
     exact ⟨by first | rfl | (simp [errW_none, errW_some] <;> rfl) | (simp [*, errW_none, errW_some] <;> rfl), by repeat (first | (with_reducible first | exact HB.out | apply below_alloc | apply pw_below_drewN | apply below_drew1) | exact HB.out)⟩

/-! ### impl_Find_73: function 73 -/
set_option maxHeartbeats 8000000 in
set_option maxRecDepth 100000 in
theorem impl_Find_73.calls (p : S58 → Bool) (g : Nat) (lb : Array Value) (eg : ∀ args w, (callFunc g args).run Try.prog w = .ok (.enter g args) w) (A0 : Option Addr) (c0 : Nat) (l0 : List S58) (w : World) (hr0 : Kd.C k58 w A0 l0.length l0)
    (hp : ∀ (x : S58) (W : World), Below w.heap.size w W → Calls Try.prog g (#[.agg #[.int .i64 x.f0.f0, .int .i64 x.f0.f1, .int .i64 x.f0.f2, .int .i64 x.f0.f3, .int .i64 x.f0.f4, .int .i64 x.f1, .int .i64 x.f2, .int .i64 x.f3]] ++ lb) W fun e W' => e = .returned (.bool (p x)) ∧ Below W.heap.size W W') :
    Calls Try.prog 73 #[.slice A0 l0.length c0, .func (.func g) #[] lb] w fun e w' => e = .returned (.int .i64 (EvLib.idxB p l0 0)) ∧ Below w.heap.size w w' := by
  have hu58 := Try.underlying58
  have hu56 := Try.underlying56
  have HR0 := Aside0.mk hr0
  have HP := Aside0.mk hp
  have hmax := Kd.C_max hr0
  clear hr0 hp
  go_enter Try.func73, Try.ntmps73
  go_wp2
  go_loopg [5, 8] l0.length (fun gg _ v8 wr => ∃ z : Int, v8 = .int .i64 z ∧ Aside0 (0 ≤ z) ∧ Aside0 (z ≤ (l0.length : Int)) ∧ Aside0 ((l0.length : Int) - z ≤ gg) ∧ Aside0 (Below w.heap.size w wr) ∧ Aside0 (EvLib.idxB p (l0.drop z.toNat) z.toNat = EvLib.idxB p l0 0))
  case atStart => exact ⟨0, rfl, ⟨by omega⟩, ⟨by omega⟩, ⟨by omega⟩, ⟨Below.refl _ _⟩, ⟨rfl⟩⟩
  case round =>
    obtain ⟨z, rfl, Z0, Z1, ZG, HB, HI⟩ := hrel
    by_cases hlt : z < (l0.length : Int)
    · have p1 : 0 ≤ z := Z0.out
      obtain ⟨ad, e, hx0, hx1, hx2, hx3, hx4, hx5, hx6, hx7⟩ := at_T58 HR0.out z p1 hlt
      cases e
      replace hx0 := pw_cell_below HB.out hx0
      replace hx1 := pw_cell_below HB.out hx1
      replace hx2 := pw_cell_below HB.out hx2
      replace hx3 := pw_cell_below HB.out hx3
      replace hx4 := pw_cell_below HB.out hx4
      replace hx5 := pw_cell_below HB.out hx5
      replace hx6 := pw_cell_below HB.out hx6
      replace hx7 := pw_cell_below HB.out hx7
      have hcall := HP.out (rd_T58 l0 z) wr HB.out
      have hat := Aside0.mk (EvLib.idxB_at p z58 l0 z.toNat (by omega))
      cases hq : p (rd_T58 l0 z) with
      | true =>
        rw [hq] at hcall
        have HQ := Aside0.mk hq
        clear hq
        have hltb : decide (z < (l0.length : Int)) = true := decide_eq_true hlt
        replace p1 := eq_true p1
        replace hlt := eq_true hlt
        go_wp2_with (go_at_fn g; refine hcall.mono ?_; rintro e w' ⟨rfl, hb⟩; have n1_ := Aside0.mk (below_step HB.out hb); clear HB; have HB := n1_; clear n1_ hb)
        go_ret
        have hz : EvLib.idxB p l0 0 = z := by rw [← HI.out, hat.out, if_pos (show p (l0.getD z.toNat z58) = true from HQ.out), Int.toNat_of_nonneg Z0.out]
        exact ⟨by rw [hz]; rfl, HB.out⟩
      | false =>
        rw [hq] at hcall
        have HQ := Aside0.mk hq
        clear hq
        have HL := Aside0.mk hlt
        have hltb : decide (z < (l0.length : Int)) = true := decide_eq_true hlt
        replace p1 := eq_true p1
        replace hlt := eq_true hlt
        have hwr : wrap64 (z + 1) = z + 1 := by have := Z0.out; have := HL.out; unfold wrap64; omega
        go_wp2_with (go_at_fn g; refine hcall.mono ?_; rintro e w' ⟨rfl, hb⟩; have n1_ := Aside0.mk (below_step HB.out hb); clear HB; have HB := n1_; clear n1_ hb)
        go_roundg ((l0.length : Int) - (z + 1)).toNat
        case measure => have := Z0.out; have := HL.out; have := ZG.out; omega
        case rel =>
          refine ⟨z + 1, by first | rfl | (simp; done) | (simp [*]; done), ⟨by have := Z0.out; omega⟩, ⟨by have := HL.out; omega⟩, ⟨by have := HL.out; omega⟩, ⟨HB.out⟩, ⟨?_⟩⟩
          rw [← HI.out, hat.out, if_neg (by rw [show p (l0.getD z.toNat z58) = false from HQ.out]; simp)]
          have e1 : (z + 1).toNat = z.toNat + 1 := by have := Z0.out; omega
          rw [e1]
    · have hltb : decide (z < (l0.length : Int)) = false := decide_eq_false hlt
      have HE := Aside0.mk (EvLib.idxB_end p l0 z.toNat (by have := Z1.out; omega))
      clear hlt
      go_wp2
      go_ret
      have hz : EvLib.idxB p l0 0 = -1 := by rw [← HI.out, HE.out]
      exact ⟨by rw [hz]; rfl, HB.out⟩


end Go.Proofs.Ytglpmjcknhcjcaa.PFnExactDropTwins
