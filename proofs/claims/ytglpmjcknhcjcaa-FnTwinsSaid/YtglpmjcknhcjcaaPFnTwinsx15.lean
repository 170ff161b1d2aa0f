-- Written for this claim by a program (a printer turned to this claim); Lean checks it.
import Derived.Test.YtglpmjcknhcjcaaPFnTwinsx0
import Derived.Test.YtglpmjcknhcjcaaPFnTwinsx12
import Derived.Test.YtglpmjcknhcjcaaPFnTwinsx13
import Derived.Test.YtglpmjcknhcjcaaPFnTwinsx14
namespace Go.Proofs.Ytglpmjcknhcjcaa.PFnTwins
open Go.RowKit Go.Proofs.YtglpmjcknhcjcaaW.PrintWords Go.Proofs.YtglpmjcknhcjcaaW.PrintLast Go.Proofs.YtglpmjcknhcjcaaW.PrintMore
attribute [local go_sem] max2_int min2_int max_two min_two max_three min_three max_four min_four   -- for this text's walks alone
set_option linter.unusedVariables false
set_option linter.unusedSimpArgs false

/-! ### spec_DrawAreTwins: function 32 -/
def spec_DrawAreTwins.f (k : Nat) (l0 : List Int) : Option (Int × Int × Int × Int × Int × Int × Int × Int × Int × Int × Int × Int × Int × Int × Int × Int) := (spec_l1New.f k l0).bind fun bt469 => ((spec_l24Pair.f k bt469.1 bt469.2.1 bt469.2.2).bind fun bt473 => (some (bt473.1, bt473.2.1, bt473.2.2.1, bt473.2.2.2.1, bt473.2.2.2.2.1, bt473.2.2.2.2.2.1, bt473.2.2.2.2.2.2.1, bt473.2.2.2.2.2.2.2.1, bt473.2.2.2.2.2.2.2.2.1, bt473.2.2.2.2.2.2.2.2.2.1, bt473.2.2.2.2.2.2.2.2.2.2.1, bt473.2.2.2.2.2.2.2.2.2.2.2.1, bt473.2.2.2.2.2.2.2.2.2.2.2.2.1, bt473.2.2.2.2.2.2.2.2.2.2.2.2.2.1, bt473.2.2.2.2.2.2.2.2.2.2.2.2.2.2.1, bt473.2.2.2.2.2.2.2.2.2.2.2.2.2.2.2.1)))
theorem spec_DrawAreTwins.mono : ∀ a0 k, LeO (spec_DrawAreTwins.f k a0) (spec_DrawAreTwins.f (k + 1) a0) := by
  intro a0 k
  unfold spec_DrawAreTwins.f
  have jh0 := @spec_l1New.mono
  have jh1 := @spec_l24Pair.mono
  exact mo_
set_option maxHeartbeats 8000000 in
set_option maxRecDepth 100000 in
theorem spec_DrawAreTwins.calls (k : Nat) (A0 : Option Addr) (c0 : Nat) (l0 : List Int) (r1 : Int) (r2 : Int) (r3 : Int) (r4 : Int) (r5 : Int) (r6 : Int) (r7 : Int) (r8 : Int) (r9 : Int) (r10 : Int) (r11 : Int) (r12 : Int) (r13 : Int) (r14 : Int) (r15 : Int) (r16 : Int) (w : World) (hr0 : Kd.C (Kd.int .u8) w A0 l0.length l0) (hc0 : l0.length ≤ c0) (h : spec_DrawAreTwins.f k l0 = some (r1, r2, r3, r4, r5, r6, r7, r8, r9, r10, r11, r12, r13, r14, r15, r16)) :
    Calls Try.prog 32 #[.slice A0 l0.length c0] w fun e w' => e = .returned (.tuple #[.agg #[.int .i64 r1, .int .i64 r2, .int .i64 r3, .int .i64 r4, .int .i64 r5, .int .i64 r6, .int .i64 r7, .int .i64 r8], .agg #[.int .i64 r9, .int .i64 r10, .int .i64 r11, .int .i64 r12, .int .i64 r13, .int .i64 r14, .int .i64 r15, .int .i64 r16]]) ∧ Below w.heap.size w w' := by
  have hu58 := Try.underlying58
  have HR0 := o_ hr0
  have HC0 := o_ hc0
  clear hr0 hc0
  have HB := o_ (Below.refl w.heap.size w)
  have H := h
  unfold spec_DrawAreTwins.f at H
  clear h
  obtain ⟨⟨t469, t470, t471⟩, A2, H⟩ := ob_ H
  try dsimp only at H
  obtain ⟨⟨t473, t474, t475, t476, t477, t478, t479, t480, t481, t482, t483, t484, t485, t486, t487, t488, t489, t490⟩, A3, H⟩ := ob_ H
  try dsimp only at H
  simp only [Option.some.injEq, Prod.mk.injEq] at H
  obtain ⟨rfl, rfl, rfl, rfl, rfl, rfl, rfl, rfl, rfl, rfl, rfl, rfl, rfl, rfl, rfl, rfl⟩ := H
  go_enter Try.func32, Try.ntmps32
  go_wp2_with (first | ((with_reducible refine gate_dst (N := 2) rfl ?_); refine bx_ 2 #[.int .i64 0, .int .i64 0, .int .i64 0, .int .i64 0, .int .i64 0, .int .i64 0, .int .i64 0, .int .i64 0] 58 ?_; intro gb467 hg w4 hbox hb; have BK467 := o_ (hbox); have GW467 := o_ ((by rw [hg]; exact (below_size (hd_ HB.1)) : w.heap.size ≤ gb467)); replace HB := o_ (below_step (hd_ HB.1) hb); have GE467 := GW467; clear hb hbox hg) | ((with_reducible refine gate_dst (N := 3) rfl ?_); refine bx_ 3 #[.int .i64 0, .int .i64 0, .int .i64 0, .int .i64 0, .int .i64 0, .int .i64 0, .int .i64 0, .int .i64 0] 58 ?_; intro gb468 hg w5 hbox hb; have BK468 := o_ (hbox); have GW468 := o_ ((by rw [hg]; exact (below_size wB_) : w.heap.size ≤ gb468)); replace HB := o_ (below_step wB_ hb); have GE468 := GW468; have NB467_468 := o_ ((by rw [hg]; exact Nat.ne_of_lt (blk_lt (bd_ BK467.1)) : gb467 ≠ gb468)); have NB468_467 := o_ ((by rw [hg]; exact Nat.ne_of_gt (blk_lt (bd_ BK467.1)) : gb468 ≠ gb467)); replace BK467 := o_ (blk_below (bd_ BK467.1) hb); clear hb hbox hg) | ((with_reducible refine g_ 58 ?_); refine gl_ (some 6) Try.func58 #[.slice A0 l0.length c0] ?_; (with_reducible refine (spec_l1New.calls k _ _ l0 t469 t470 t471 w _ wB_ HR0.1 HC0.1 A2.1).mono ?_); rintro e w6 ⟨g472, rfl, hi, hb, hb2⟩; refine ⟨_, rfl, ?_⟩; replace HB := o_ (hb); replace HI472 := o_ (hi); have NB472_467 := o_ (IsS102.ne_blk hi (blk_below (bd_ BK467.1) hb2) (by decide)); have NB467_472 := o_ (Ne.symm (IsS102.ne_blk hi (blk_below (bd_ BK467.1) hb2) (by decide))); replace BK467 := o_ (blk_below (bd_ BK467.1) hb2); have NB472_468 := o_ (IsS102.ne_blk hi (blk_below (bd_ BK468.1) hb2) (by decide)); have NB468_472 := o_ (Ne.symm (IsS102.ne_blk hi (blk_below (bd_ BK468.1) hb2) (by decide))); replace BK468 := o_ (blk_below (bd_ BK468.1) hb2); (try clear hb hb2 hi)) | ((with_reducible refine g_ 59 ?_); refine gl_ (some 8) Try.func59 #[.pointer (some ⟨g472, 0, none⟩)] ?_; (with_reducible refine (spec_l24Pair.calls k g472 t469 t470 t471 t473 t474 t475 t476 t477 t478 t479 t480 t481 t482 t483 t484 t485 t486 t487 t488 t489 t490 w _ (wJ_ HI472.1) wB_ A3.1).mono ?_); rintro e w7 ⟨rfl, hi, hb, hk⟩; refine ⟨_, rfl, ?_⟩; replace BK467 := o_ (KeepBut.blk hk (g' := gb467) (o := c8_ 0 0 0 0 0 0 0 0) (bd_ BK467.1) NB467_472.1 (by simp)); replace BK468 := o_ (KeepBut.blk hk (g' := gb468) (o := c8_ 0 0 0 0 0 0 0 0) (bd_ BK468.1) NB468_472.1 (by simp)); replace HB := o_ (hb); replace HI472 := o_ (hi); (try clear hb hk hi); have hnb8 := NB467_468.1; have hnc8 := NB468_467.1; have hnb9 := NB467_472.1; have hnc9 := NB472_467.1; obtain ⟨_, _, _, _, _, _, _, _⟩ := e4_ BK467.1; obtain ⟨_, _, _, _, _, _, _, _⟩ := z5_ BK467.1; have hnb11 := NB468_472.1; have hnc11 := NB472_468.1; obtain ⟨_, _, _, _, _, _, _, _⟩ := e4_ BK468.1; obtain ⟨_, _, _, _, _, _, _, _⟩ := z5_ BK468.1))
  refine bodyPost_ret (results_cc rfl _ _ gb467 gb468 58 58 #[.int .i64 t473, .int .i64 t474, .int .i64 t475, .int .i64 t476, .int .i64 t477, .int .i64 t478, .int .i64 t479, .int .i64 t480] #[.int .i64 t481, .int .i64 t482, .int .i64 t483, .int .i64 t484, .int .i64 t485, .int .i64 t486, .int .i64 t487, .int .i64 t488] (0, 0) (0, 0) _ _ rfl (bk_ BK467.1) Try.underlying58 rfl (by kernel_rfl) rfl (bk_ BK468.1) Try.underlying58 rfl (by kernel_rfl)) rfl ?_
  exact ⟨rt_, wB_⟩

/-! ### spec_l1Once: function 66 -/
def spec_l1Once.f (s0_0 : List Int) (s0_1 : Int) (s0_2 : Int) (a1 : Int) : Option (Bool × Int × Int) := (spec_l1Below.f s0_0 s0_1 s0_2 a1).bind fun bt491 => (some ((bt491.1 == 0), bt491.2.1, bt491.2.2))
set_option maxHeartbeats 8000000 in
set_option maxRecDepth 100000 in
theorem spec_l1Once.calls (g : Nat) (s0_0 : List Int) (s0_1 : Int) (s0_2 : Int) (a1 : Int) (r1 : Bool) (r2 : Int) (r3 : Int) (w0 w : World) (hI : IsS102 w0 w g s0_0 s0_1 s0_2) (hB : Below w0.heap.size w0 w) (h : spec_l1Once.f s0_0 s0_1 s0_2 a1 = some (r1, r2, r3)) :
    Calls Try.prog 66 #[.pointer (some ⟨g, 0, none⟩), .int .i64 a1] w fun e w' => e = .returned (.bool r1) ∧ IsS102 w0 w' g s0_0 r2 r3 ∧ Below w0.heap.size w0 w' ∧ KeepBut w w' g none := by
  have HI0 := o_ hI
  have HK := o_ (KeepBut.refl w g none)
  have HL := o_ hB.size
  clear hI
  have HW0 := o_ hB.size
  have HB := o_ hB
  clear hB
  have H : ((spec_l1Below.f s0_0 s0_1 s0_2 a1).bind fun bt491 => (some ((bt491.1 == 0), bt491.2.1, bt491.2.2))) = some (r1, r2, r3) := h
  clear h
  obtain ⟨⟨t491, t492, t493⟩, A3, H⟩ := ob_ H
  try dsimp only at H
  simp only [Option.some.injEq, Prod.mk.injEq] at H
  obtain ⟨rfl, rfl, rfl⟩ := H
  go_enter Try.func66, Try.ntmps66
  go_wp2_with (first | ((with_reducible refine g_ 84 ?_); refine gl_ (some 7) Try.func84 #[.pointer (some ⟨g, 0, none⟩), .int .i64 a1] ?_; (with_reducible refine (spec_l1Below.calls g s0_0 s0_1 s0_2 a1 t491 t492 t493 w0 _ wI_ wB_ A3.1).mono ?_); rintro e w4 ⟨rfl, hi, hb, hk⟩; refine ⟨_, rfl, ?_⟩; replace HK := o_ (KeepBut.trans wK_ hk (.inl rfl)); replace HB := o_ (hb); replace HI0 := o_ (hi); (try clear hb hk hi)))
  go_ret
  exact ⟨rt_, wI_, wB_, wK_⟩

/-! ### spec_l24List: function 62 -/
def spec_l24List.l0 : Nat → List (S58) → Int → List Int → Int → Int → Option ((List (S58)) × Int × Int)
 | 0, _, _, _, _, _ => none
 | k + 1, x3, x4, x1000, x1001, x1002 => if x4 < (x3.length : Int) then ((spec_l1Once.f x1000 x1001 x1002 3).bind fun bt499 => (if bt499.1 = true then (if 0 ≤ (wrap64 (x4 - 1)) then (if (wrap64 (x4 - 1)) < (x3.length : Int) then (if 0 ≤ x4 then ((spec_Min.f 99000 ((rd_T58 x3 (wrap64 (x4 - 1))).f2)).bind fun t505 => ((spec_l1Int.f x1000 bt499.2.1 bt499.2.2 (([0, 20, 30] : List Int))).bind fun bt509 => ((spec_Max.f 0 (wrap64 (t505 + bt509.1))).bind fun t512 => (spec_l24List.l0 k (x3.set (x4 : Int).toNat (⟨(⟨(rd_T58 x3 x4).f0.f0, (rd_T58 x3 (wrap64 (x4 - 1))).f0.f1, (rd_T58 x3 (wrap64 (x4 - 1))).f0.f2, (rd_T58 x3 (wrap64 (x4 - 1))).f0.f3, (rd_T58 x3 (wrap64 (x4 - 1))).f0.f4⟩ : S56), (rd_T58 x3 (wrap64 (x4 - 1))).f1, t512, (rd_T58 x3 (wrap64 (x4 - 1))).f3⟩ : S58)) (wrap64 (x4 + 1)) x1000 bt509.2.1 bt509.2.2)))) else (none)) else (none)) else (none)) else (spec_l24List.l0 k x3 (wrap64 (x4 + 1)) x1000 bt499.2.1 bt499.2.2))) else (some (x3, x1001, x1002))
def spec_l24List.f (k : Nat) (s0_0 : List Int) (s0_1 : Int) (s0_2 : Int) : Option ((List (S58)) × Int × Int) := (spec_l6Any.f k s0_0 s0_1 s0_2).bind fun bt494 => (spec_l24List.l0 k bt494.1 1 s0_0 bt494.2.1 bt494.2.2)
theorem spec_l24List.mono_l : ∀ k, (∀ y0 y1 y2 y3 y4, LeO (spec_l24List.l0 k y0 y1 y2 y3 y4) (spec_l24List.l0 (k + 1) y0 y1 y2 y3 y4))
 | 0 => fun _ _ _ _ _ r h => by simp [spec_l24List.l0] at h
 | k + 1 => by
  have ih0 := spec_l24List.mono_l k
  ·
   intro y0 y1 y2 y3 y4
   unfold spec_l24List.l0
   have jh0 := @spec_l6Any.mono
   exact mo_
theorem spec_l24List.mono : ∀ a0 a1 a2 k, LeO (spec_l24List.f k a0 a1 a2) (spec_l24List.f (k + 1) a0 a1 a2) := by
 intro a0 a1 a2 k
 have ih0 := spec_l24List.mono_l k
 unfold spec_l24List.f
 have jh0 := @spec_l6Any.mono
 exact mo_
set_option maxHeartbeats 8000000 in
set_option maxRecDepth 100000 in
theorem spec_l24List.calls (k : Nat) (g : Nat) (s0_0 : List Int) (s0_1 : Int) (s0_2 : Int) (r1 : List (S58)) (r2 : Int) (r3 : Int) (w0 w : World) (hI : IsS102 w0 w g s0_0 s0_1 s0_2) (hB : Below w0.heap.size w0 w) (h : spec_l24List.f k s0_0 s0_1 s0_2 = some (r1, r2, r3)) :
  Calls Try.prog 62 #[.pointer (some ⟨g, 0, none⟩)] w fun e w' => ∃ v0_ : Value, e = .returned (v0_) ∧ Kd.R k58 58 w' w.heap.size (fun _ => True) v0_ r1 ∧ IsS102 w0 w' g s0_0 r2 r3 ∧ Below w0.heap.size w0 w' ∧ KeepBut w w' g none := by
 have hu58 := Try.underlying58
 have HI0 := o_ hI
 have HK := o_ (KeepBut.refl w g none)
 have HL := o_ hB.size
 clear hI
 have HW0 := o_ hB.size
 have HB := o_ hB
 clear hB
 have H : ((spec_l6Any.f k s0_0 s0_1 s0_2).bind fun bt494 => (spec_l24List.l0 k bt494.1 1 s0_0 bt494.2.1 bt494.2.2)) = some (r1, r2, r3) := h
 clear h
 obtain ⟨⟨t494, t497, t498⟩, A2, H⟩ := ob_ H
 try dsimp only at H
 have H' := o_ H
 clear H
 go_enter Try.func62, Try.ntmps62
 go_wp2_with (first | ((with_reducible refine g_ 87 ?_); refine gl_ (some 7) Try.func87 #[.pointer (some ⟨g, 0, none⟩)] ?_; (with_reducible refine (spec_l6Any.calls k g s0_0 s0_1 s0_2 t494 t497 t498 w0 _ wI_ wB_ A2.1).mono ?_); rintro e w3 ⟨v495, rfl, ho0, hi, hb, hk⟩; refine ⟨_, rfl, ?_⟩; have HO496 := o_ (Kd.R_lower ho0 (keep_size (w := w) (g := g) (row := none) wK_)); replace HK := o_ (KeepBut.trans wK_ hk (.inl rfl)); replace HB := o_ (hb); replace HI0 := o_ (hi); (try clear hb hk hi ho0)))
 go_loopg [4] k (fun kq v4 w' => ∃ (x3_1 : List (S58)) (x4_1 : Int) (x1001_1 : Int) (x1002_1 : Int), v4 = .int .i64 x4_1 ∧ Aside0 (spec_l24List.l0 kq x3_1 x4_1 s0_0 x1001_1 x1002_1 = some (r1, r2, r3)) ∧ Aside0 (kq ≤ k) ∧ Aside0 (Kd.R k58 58 w' w.heap.size (fun _ => True) v495 x3_1) ∧ Aside0 (IsS102 w0 w' g s0_0 x1001_1 x1002_1) ∧ Aside0 (KeepBut w w' g none) ∧ Aside0 (Below w0.heap.size w0 w'))
 case atStart => exact ⟨(t494), (1), (t497), (t498), rs_, H', ⟨Nat.le_refl _⟩, ⟨rd_ HO496.1⟩, ⟨wI_⟩, ⟨wK_⟩, ⟨wB_⟩⟩
 case round =>
  clear H'
  try clear p2
  obtain ⟨x3_1, x4_1, x1001_1, x1002_1, rfl, HA, HK1, HO_3, HI0, HK, HB⟩ := hrel
  cases gk with
  | zero => exact absurd HA.1 (by simp [spec_l24List.l0])
  | succ k1 =>
   have H := HA.1
   clear HA
   simp only [spec_l24List.l0] at H
   by_cases c4 : x4_1 < (x3_1.length : Int)
   ·
    rw [if_pos c4] at H
    have c4b0 := decide_eq_true c4
    clear c4
    obtain ⟨⟨t499, t500, t501⟩, A5, H⟩ := ob_ H
    try dsimp only at H
    by_cases c6 : t499 = true
    ·
     subst c6
     have H1 := H
     rw [if_pos rfl] at H1
     clear H
     have H := H1
     clear H1
     obtain ⟨ji7, hji7⟩ : ∃ j_ : Int, (wrap64 (x4_1 - 1)) = j_ := ⟨_, rfl⟩
     replace H : (if 0 ≤ (ji7) then (if (ji7) < (x3_1.length : Int) then (if 0 ≤ x4_1 then ((spec_Min.f 99000 ((rd_T58 x3_1 (ji7)).f2)).bind fun t505 => ((spec_l1Int.f s0_0 t500 t501 (([0, 20, 30] : List Int))).bind fun bt509 => ((spec_Max.f 0 (wrap64 (t505 + bt509.1))).bind fun t512 => (spec_l24List.l0 k1 (x3_1.set (x4_1 : Int).toNat (⟨(⟨(rd_T58 x3_1 x4_1).f0.f0, (rd_T58 x3_1 (ji7)).f0.f1, (rd_T58 x3_1 (ji7)).f0.f2, (rd_T58 x3_1 (ji7)).f0.f3, (rd_T58 x3_1 (ji7)).f0.f4⟩ : S56), (rd_T58 x3_1 (ji7)).f1, t512, (rd_T58 x3_1 (ji7)).f3⟩ : S58)) (wrap64 (x4_1 + 1)) s0_0 bt509.2.1 bt509.2.2)))) else (none)) else (none)) else (none)) = some (r1, r2, r3) := by first | (rw [hji7] at H; exact H) | (simp only [hji7] at H ⊢; exact H)
     (try rw [hji7] at A5)
     have hji7w : (IntKind.i64.wrap (x4_1 - 1)) = ji7 := (i64_w _).trans hji7
     by_cases c8 : 0 ≤ (ji7)
     ·
      rw [if_pos c8] at H
      have c8b0 := decide_eq_true c8
      clear c8
      by_cases c9 : (ji7) < (x3_1.length : Int)
      ·
       rw [if_pos c9] at H
       have c9b0 := decide_eq_true c9
       clear c9
       by_cases c10 : 0 ≤ x4_1
       ·
        rw [if_pos c10] at H
        have c10b0 := decide_eq_true c10
        clear c10
        obtain ⟨t505, A11, H⟩ := ob_ H
        try dsimp only at H
        obtain ⟨y506, hy506⟩ : ∃ y_ : List Int, y_ = (([0, 20, 30] : List Int)) := ⟨_, rfl⟩
        replace H : ((spec_l1Int.f s0_0 t500 t501 y506).bind fun bt509 => ((spec_Max.f 0 (wrap64 (t505 + bt509.1))).bind fun t512 => (spec_l24List.l0 k1 (x3_1.set (x4_1 : Int).toNat (⟨(⟨(rd_T58 x3_1 x4_1).f0.f0, (rd_T58 x3_1 (ji7)).f0.f1, (rd_T58 x3_1 (ji7)).f0.f2, (rd_T58 x3_1 (ji7)).f0.f3, (rd_T58 x3_1 (ji7)).f0.f4⟩ : S56), (rd_T58 x3_1 (ji7)).f1, t512, (rd_T58 x3_1 (ji7)).f3⟩ : S58)) (wrap64 (x4_1 + 1)) s0_0 bt509.2.1 bt509.2.2))) = some (r1, r2, r3) := hy_ H hy506
        have Ny506 := o_ hy506
        clear hy506
        obtain ⟨⟨t509, t510, t511⟩, A12, H⟩ := ob_ H
        try dsimp only at H
        obtain ⟨t512, A13, H⟩ := ob_ H
        try dsimp only at H
        obtain ⟨y513, hy513⟩ : ∃ y_ : List (S58), y_ = (x3_1.set (x4_1 : Int).toNat (⟨(⟨(rd_T58 x3_1 x4_1).f0.f0, (rd_T58 x3_1 (ji7)).f0.f1, (rd_T58 x3_1 (ji7)).f0.f2, (rd_T58 x3_1 (ji7)).f0.f3, (rd_T58 x3_1 (ji7)).f0.f4⟩ : S56), (rd_T58 x3_1 (ji7)).f1, t512, (rd_T58 x3_1 (ji7)).f3⟩ : S58)) := ⟨_, rfl⟩
        replace H : (spec_l24List.l0 k1 y513 (wrap64 (x4_1 + 1)) s0_0 t510 t511) = some (r1, r2, r3) := hy_ H hy513
        have Ny513 := o_ hy513
        clear hy513
        have H' := o_ H
        clear H
        obtain ⟨Ao15, co15, eo15⟩ := Kd.R_slice HO_3.1
        subst eo15
        go_wp2_with (first | ((with_reducible refine g_ 66 ?_); refine gl_ (some 15) Try.func66 #[.pointer (some ⟨g, 0, none⟩), .int .i64 3] ?_; (with_reducible refine (spec_l1Once.calls g s0_0 x1001_1 x1002_1 3 true t500 t501 w0 _ wI_ wB_ A5.1).mono ?_); rintro e w16 ⟨rfl, hi, hb, hk⟩; refine ⟨_, rfl, ?_⟩; replace HO_3 := o_ (kp_ (show IsS102 w0 _ g s0_0 x1001_1 x1002_1 from wI_) (rd_ HO_3.1) hk); replace HK := o_ (KeepBut.trans wK_ hk (.inl rfl)); replace HB := o_ (hb); replace HI0 := o_ (hi); (try clear hb hk hi); have p502 : 0 ≤ ((ji7) : Int) := of_decide_eq_true as_; have q502 : (ji7) < (x3_1.length : Int) := of_decide_eq_true as_; obtain ⟨ad502, e502, hx502_0, hx502_1, hx502_2, hx502_3, hx502_4, hx502_5, hx502_6, hx502_7⟩ := at_T58 (Kd.R_reads' HO_3.1).2.2 (ji7) p502 q502; cases e502; replace p502 := eq_true p502; replace q502 := eq_true q502) | ((with_reducible refine gate_dst (N := 5) rfl ?_); refine bx_ 5 #[.int .i64 0, .int .i64 0, .int .i64 0, .int .i64 0, .int .i64 0, .int .i64 0, .int .i64 0, .int .i64 0] 58 ?_; intro gb503 hg w17 hbox hb; replace HO_3 := o_ (Kd.R_below (Kd.R_elderB (rd_ HO_3.1) gb503 (Nat.le_of_eq hg.symm)) hb); replace HB := o_ (below_step (wB_) hb); have BK503 := o_ (hbox); have GW503 := o_ ((by rw [hg]; exact (keep_size (w := w) (g := g) (row := none) wK_) : w.heap.size ≤ gb503)); have GE503 := o_ ((Nat.le_trans HW0.1 (by rw [hg]; exact (keep_size (w := w) (g := g) (row := none) wK_) : w.heap.size ≤ gb503) : w0.heap.size ≤ gb503)); replace HK := o_ (KeepBut.trans wK_ (KeepBut.of_below hb g none) (.inl rfl)); have NB0_503 := o_ ((by rw [hg]; exact Nat.ne_of_lt (IsS102.lt (show IsS102 w0 _ g s0_0 t500 t501 from wI_)) : g ≠ gb503)); have NB503_0 := o_ ((by rw [hg]; exact Nat.ne_of_gt (IsS102.lt (show IsS102 w0 _ g s0_0 t500 t501 from wI_)) : gb503 ≠ g)); replace HI0 := o_ (IsS102.below (wI_) hb); clear hb hbox hg; have hnb18 := NB503_0.1; have hnc18 := NB0_503.1; obtain ⟨_, _, _, _, _, _, _, _⟩ := e4_ BK503.1; obtain ⟨_, _, _, _, _, _, _, _⟩ := z5_ BK503.1; have p504 : 0 ≤ (x4_1 : Int) := of_decide_eq_true as_; have q504 : x4_1 < (x3_1.length : Int) := of_decide_eq_true as_; obtain ⟨ad504, e504, hx504_0, hx504_1, hx504_2, hx504_3, hx504_4, hx504_5, hx504_6, hx504_7⟩ := at_T58 (Kd.R_reads' HO_3.1).2.2 x4_1 p504 q504; obtain rfl : ad502 = ad504 := (by injection e504); have hn504_0 : ad502.block ≠ gb503 := Kd.own_blk (Kd.R_away HO_3.1 (fun _ hk => hk.2)); have hn504_1 : ad502.block ≠ gb503 := Kd.own_blk (Kd.R_away HO_3.1 (fun _ hk => hk.2)); have hn504_2 : ad502.block ≠ gb503 := Kd.own_blk (Kd.R_away HO_3.1 (fun _ hk => hk.2)); have hn504_3 : ad502.block ≠ gb503 := Kd.own_blk (Kd.R_away HO_3.1 (fun _ hk => hk.2)); have hn504_4 : ad502.block ≠ gb503 := Kd.own_blk (Kd.R_away HO_3.1 (fun _ hk => hk.2)); have hn504_5 : ad502.block ≠ gb503 := Kd.own_blk (Kd.R_away HO_3.1 (fun _ hk => hk.2)); have hn504_6 : ad502.block ≠ gb503 := Kd.own_blk (Kd.R_away HO_3.1 (fun _ hk => hk.2)); have hn504_7 : ad502.block ≠ gb503 := Kd.own_blk (Kd.R_away HO_3.1 (fun _ hk => hk.2)); replace hx504_0 := (cell_far (p := ⟨gb503, 0, none⟩) y326_ (.int .i64 ((rd_T58 x3_1 (ji7)).f0.f0))).trans hx504_0; replace hx504_1 := (cell_far (p := ⟨gb503, 0, none⟩) y326_ (.int .i64 ((rd_T58 x3_1 (ji7)).f0.f0))).trans hx504_1; replace hx504_2 := (cell_far (p := ⟨gb503, 0, none⟩) y326_ (.int .i64 ((rd_T58 x3_1 (ji7)).f0.f0))).trans hx504_2; replace hx504_3 := (cell_far (p := ⟨gb503, 0, none⟩) y326_ (.int .i64 ((rd_T58 x3_1 (ji7)).f0.f0))).trans hx504_3; replace hx504_4 := (cell_far (p := ⟨gb503, 0, none⟩) y326_ (.int .i64 ((rd_T58 x3_1 (ji7)).f0.f0))).trans hx504_4; replace hx504_5 := (cell_far (p := ⟨gb503, 0, none⟩) y326_ (.int .i64 ((rd_T58 x3_1 (ji7)).f0.f0))).trans hx504_5; replace hx504_6 := (cell_far (p := ⟨gb503, 0, none⟩) y326_ (.int .i64 ((rd_T58 x3_1 (ji7)).f0.f0))).trans hx504_6; replace hx504_7 := (cell_far (p := ⟨gb503, 0, none⟩) y326_ (.int .i64 ((rd_T58 x3_1 (ji7)).f0.f0))).trans hx504_7; replace hx504_0 := (cell_far (p := ⟨gb503, 1, none⟩) y327_ (.int .i64 ((rd_T58 x3_1 (ji7)).f0.f1))).trans hx504_0; replace hx504_1 := (cell_far (p := ⟨gb503, 1, none⟩) y327_ (.int .i64 ((rd_T58 x3_1 (ji7)).f0.f1))).trans hx504_1; replace hx504_2 := (cell_far (p := ⟨gb503, 1, none⟩) y327_ (.int .i64 ((rd_T58 x3_1 (ji7)).f0.f1))).trans hx504_2; replace hx504_3 := (cell_far (p := ⟨gb503, 1, none⟩) y327_ (.int .i64 ((rd_T58 x3_1 (ji7)).f0.f1))).trans hx504_3; replace hx504_4 := (cell_far (p := ⟨gb503, 1, none⟩) y327_ (.int .i64 ((rd_T58 x3_1 (ji7)).f0.f1))).trans hx504_4; replace hx504_5 := (cell_far (p := ⟨gb503, 1, none⟩) y327_ (.int .i64 ((rd_T58 x3_1 (ji7)).f0.f1))).trans hx504_5; replace hx504_6 := (cell_far (p := ⟨gb503, 1, none⟩) y327_ (.int .i64 ((rd_T58 x3_1 (ji7)).f0.f1))).trans hx504_6; replace hx504_7 := (cell_far (p := ⟨gb503, 1, none⟩) y327_ (.int .i64 ((rd_T58 x3_1 (ji7)).f0.f1))).trans hx504_7; replace hx504_0 := (cell_far (p := ⟨gb503, 2, none⟩) y328_ (.int .i64 ((rd_T58 x3_1 (ji7)).f0.f2))).trans hx504_0; replace hx504_1 := (cell_far (p := ⟨gb503, 2, none⟩) y328_ (.int .i64 ((rd_T58 x3_1 (ji7)).f0.f2))).trans hx504_1; replace hx504_2 := (cell_far (p := ⟨gb503, 2, none⟩) y328_ (.int .i64 ((rd_T58 x3_1 (ji7)).f0.f2))).trans hx504_2; replace hx504_3 := (cell_far (p := ⟨gb503, 2, none⟩) y328_ (.int .i64 ((rd_T58 x3_1 (ji7)).f0.f2))).trans hx504_3; replace hx504_4 := (cell_far (p := ⟨gb503, 2, none⟩) y328_ (.int .i64 ((rd_T58 x3_1 (ji7)).f0.f2))).trans hx504_4; replace hx504_5 := (cell_far (p := ⟨gb503, 2, none⟩) y328_ (.int .i64 ((rd_T58 x3_1 (ji7)).f0.f2))).trans hx504_5; replace hx504_6 := (cell_far (p := ⟨gb503, 2, none⟩) y328_ (.int .i64 ((rd_T58 x3_1 (ji7)).f0.f2))).trans hx504_6; replace hx504_7 := (cell_far (p := ⟨gb503, 2, none⟩) y328_ (.int .i64 ((rd_T58 x3_1 (ji7)).f0.f2))).trans hx504_7; replace hx504_0 := (cell_far (p := ⟨gb503, 3, none⟩) y329_ (.int .i64 ((rd_T58 x3_1 (ji7)).f0.f3))).trans hx504_0; replace hx504_1 := (cell_far (p := ⟨gb503, 3, none⟩) y329_ (.int .i64 ((rd_T58 x3_1 (ji7)).f0.f3))).trans hx504_1; replace hx504_2 := (cell_far (p := ⟨gb503, 3, none⟩) y329_ (.int .i64 ((rd_T58 x3_1 (ji7)).f0.f3))).trans hx504_2; replace hx504_3 := (cell_far (p := ⟨gb503, 3, none⟩) y329_ (.int .i64 ((rd_T58 x3_1 (ji7)).f0.f3))).trans hx504_3; replace hx504_4 := (cell_far (p := ⟨gb503, 3, none⟩) y329_ (.int .i64 ((rd_T58 x3_1 (ji7)).f0.f3))).trans hx504_4; replace hx504_5 := (cell_far (p := ⟨gb503, 3, none⟩) y329_ (.int .i64 ((rd_T58 x3_1 (ji7)).f0.f3))).trans hx504_5; replace hx504_6 := (cell_far (p := ⟨gb503, 3, none⟩) y329_ (.int .i64 ((rd_T58 x3_1 (ji7)).f0.f3))).trans hx504_6; replace hx504_7 := (cell_far (p := ⟨gb503, 3, none⟩) y329_ (.int .i64 ((rd_T58 x3_1 (ji7)).f0.f3))).trans hx504_7; replace hx504_0 := (cell_far (p := ⟨gb503, 4, none⟩) y330_ (.int .i64 ((rd_T58 x3_1 (ji7)).f0.f4))).trans hx504_0; replace hx504_1 := (cell_far (p := ⟨gb503, 4, none⟩) y330_ (.int .i64 ((rd_T58 x3_1 (ji7)).f0.f4))).trans hx504_1; replace hx504_2 := (cell_far (p := ⟨gb503, 4, none⟩) y330_ (.int .i64 ((rd_T58 x3_1 (ji7)).f0.f4))).trans hx504_2; replace hx504_3 := (cell_far (p := ⟨gb503, 4, none⟩) y330_ (.int .i64 ((rd_T58 x3_1 (ji7)).f0.f4))).trans hx504_3; replace hx504_4 := (cell_far (p := ⟨gb503, 4, none⟩) y330_ (.int .i64 ((rd_T58 x3_1 (ji7)).f0.f4))).trans hx504_4; replace hx504_5 := (cell_far (p := ⟨gb503, 4, none⟩) y330_ (.int .i64 ((rd_T58 x3_1 (ji7)).f0.f4))).trans hx504_5; replace hx504_6 := (cell_far (p := ⟨gb503, 4, none⟩) y330_ (.int .i64 ((rd_T58 x3_1 (ji7)).f0.f4))).trans hx504_6; replace hx504_7 := (cell_far (p := ⟨gb503, 4, none⟩) y330_ (.int .i64 ((rd_T58 x3_1 (ji7)).f0.f4))).trans hx504_7; replace hx504_0 := (cell_far (p := ⟨gb503, 5, none⟩) y331_ (.int .i64 ((rd_T58 x3_1 (ji7)).f1))).trans hx504_0; replace hx504_1 := (cell_far (p := ⟨gb503, 5, none⟩) y331_ (.int .i64 ((rd_T58 x3_1 (ji7)).f1))).trans hx504_1; replace hx504_2 := (cell_far (p := ⟨gb503, 5, none⟩) y331_ (.int .i64 ((rd_T58 x3_1 (ji7)).f1))).trans hx504_2; replace hx504_3 := (cell_far (p := ⟨gb503, 5, none⟩) y331_ (.int .i64 ((rd_T58 x3_1 (ji7)).f1))).trans hx504_3; replace hx504_4 := (cell_far (p := ⟨gb503, 5, none⟩) y331_ (.int .i64 ((rd_T58 x3_1 (ji7)).f1))).trans hx504_4; replace hx504_5 := (cell_far (p := ⟨gb503, 5, none⟩) y331_ (.int .i64 ((rd_T58 x3_1 (ji7)).f1))).trans hx504_5; replace hx504_6 := (cell_far (p := ⟨gb503, 5, none⟩) y331_ (.int .i64 ((rd_T58 x3_1 (ji7)).f1))).trans hx504_6; replace hx504_7 := (cell_far (p := ⟨gb503, 5, none⟩) y331_ (.int .i64 ((rd_T58 x3_1 (ji7)).f1))).trans hx504_7; replace hx504_0 := (cell_far (p := ⟨gb503, 6, none⟩) y332_ (.int .i64 ((rd_T58 x3_1 (ji7)).f2))).trans hx504_0; replace hx504_1 := (cell_far (p := ⟨gb503, 6, none⟩) y332_ (.int .i64 ((rd_T58 x3_1 (ji7)).f2))).trans hx504_1; replace hx504_2 := (cell_far (p := ⟨gb503, 6, none⟩) y332_ (.int .i64 ((rd_T58 x3_1 (ji7)).f2))).trans hx504_2; replace hx504_3 := (cell_far (p := ⟨gb503, 6, none⟩) y332_ (.int .i64 ((rd_T58 x3_1 (ji7)).f2))).trans hx504_3; replace hx504_4 := (cell_far (p := ⟨gb503, 6, none⟩) y332_ (.int .i64 ((rd_T58 x3_1 (ji7)).f2))).trans hx504_4; replace hx504_5 := (cell_far (p := ⟨gb503, 6, none⟩) y332_ (.int .i64 ((rd_T58 x3_1 (ji7)).f2))).trans hx504_5; replace hx504_6 := (cell_far (p := ⟨gb503, 6, none⟩) y332_ (.int .i64 ((rd_T58 x3_1 (ji7)).f2))).trans hx504_6; replace hx504_7 := (cell_far (p := ⟨gb503, 6, none⟩) y332_ (.int .i64 ((rd_T58 x3_1 (ji7)).f2))).trans hx504_7; replace hx504_0 := (cell_far (p := ⟨gb503, 7, none⟩) y333_ (.int .i64 ((rd_T58 x3_1 (ji7)).f3))).trans hx504_0; replace hx504_1 := (cell_far (p := ⟨gb503, 7, none⟩) y333_ (.int .i64 ((rd_T58 x3_1 (ji7)).f3))).trans hx504_1; replace hx504_2 := (cell_far (p := ⟨gb503, 7, none⟩) y333_ (.int .i64 ((rd_T58 x3_1 (ji7)).f3))).trans hx504_2; replace hx504_3 := (cell_far (p := ⟨gb503, 7, none⟩) y333_ (.int .i64 ((rd_T58 x3_1 (ji7)).f3))).trans hx504_3; replace hx504_4 := (cell_far (p := ⟨gb503, 7, none⟩) y333_ (.int .i64 ((rd_T58 x3_1 (ji7)).f3))).trans hx504_4; replace hx504_5 := (cell_far (p := ⟨gb503, 7, none⟩) y333_ (.int .i64 ((rd_T58 x3_1 (ji7)).f3))).trans hx504_5; replace hx504_6 := (cell_far (p := ⟨gb503, 7, none⟩) y333_ (.int .i64 ((rd_T58 x3_1 (ji7)).f3))).trans hx504_6; replace hx504_7 := (cell_far (p := ⟨gb503, 7, none⟩) y333_ (.int .i64 ((rd_T58 x3_1 (ji7)).f3))).trans hx504_7; clear hn504_0 hn504_1 hn504_2 hn504_3 hn504_4 hn504_5 hn504_6 hn504_7; replace p504 := eq_true p504; replace q504 := eq_true q504) | ((with_reducible refine gate_callee (f := 78) rfl ?_); refine goesL_ (some 31) rfl rfl Try.func78 (by kernel_rfl) rfl #[.int .i64 99000, .int .i64 ((rd_T58 x3_1 (ji7)).f2)] rfl (by (try simp only [List.map_toArray, List.map_cons, List.map_nil]); first | done | (simp only [hji7]; rfl) | rfl | (simp only [List.length_drop, List.length_take]; rfl)) ?_; (with_reducible refine (spec_Min.calls 99000 ((rd_T58 x3_1 (ji7)).f2) t505 _ A11.1).mono ?_); rintro e w' ⟨rfl, ⟨nd, rfl⟩⟩; refine ⟨_, rfl, ?_⟩) | ((with_reducible refine gate_dst (N := 33) rfl ?_); refine Kd.R_lit (Kd.int .i64) _ 3 ?hg (N := 33) ?hd (xs := ([0, 20, 30] : List Int)) (inner := [.int .i64 0, .int .i64 20, .int .i64 30]) (ok := fun _ => True) (okp := fun _ => True) ?hr ?hp (fun _ hk => hk) trivial (Below.refl _ _) (Nat.le_refl _) (by simp) ?_; (case hd => rfl); (case hg => rfl); (case hr => first | (go_simp; done) | (go_simp; rfl)); (case hp => exact (Reps.one (show Kd.M (Kd.int .i64) _ _ _ 0 [.int .i64 0] from rfl) (Reps.one (show Kd.M (Kd.int .i64) _ _ _ 20 [.int .i64 20] from rfl) (Reps.one (show Kd.M (Kd.int .i64) _ _ _ 30 [.int .i64 30] from rfl) (Reps.none _ _))))); intro v507 w20 ho21 hb hg_ hnew_; clear hg_ hnew_; (first | rw [← Ny506.1] at ho21 | (simp only [Int.reduceToNat] at ho21; rw [← Ny506.1] at ho21)); replace HO_3 := o_ (Kd.R_below (by exact rf_ (Kd.R_mono HO_3.1 (fun k_ hk => (⟨hk, hk.2⟩ : _ ∧ k_ ≠ gb503))) (fun _ h_ => h_.1)) hb); have HO508 := o_ (Kd.R_lower ho21 (keep_size (w := w) (g := g) (row := none) wK_)); replace BK503 := o_ (blk_below (g := gb503) (o := c8_ ((rd_T58 x3_1 x4_1).f0.f0) ((rd_T58 x3_1 (ji7)).f0.f1) ((rd_T58 x3_1 (ji7)).f0.f2) ((rd_T58 x3_1 (ji7)).f0.f3) ((rd_T58 x3_1 (ji7)).f0.f4) ((rd_T58 x3_1 (ji7)).f1) ((rd_T58 x3_1 (ji7)).f2) ((rd_T58 x3_1 (ji7)).f3)) (bk_ BK503.1) hb); replace HK := o_ (KeepBut.trans wK_ (KeepBut.of_below hb g none) (.inl rfl)); replace HB := o_ (below_step wB_ hb); replace HI0 := o_ (IsS102.below (show IsS102 w0 _ g s0_0 t500 t501 from wI_) hb); clear hb ho21; obtain ⟨Ao22, co22, eo22⟩ := Kd.R_slice HO508.1; subst eo22) | ((with_reducible refine g_ 85 ?_); refine gl_ (some 34) Try.func85 #[.pointer (some ⟨g, 0, none⟩), .slice Ao22 y506.length co22] ?_; (with_reducible refine (spec_l1Int.calls g s0_0 t500 t501 _ _ y506 t509 t510 t511 w0 _ wI_ wB_ (cd_ (Kd.R_reads' HO508.1).2.2) ((Kd.R_reads' HO508.1).2.1) ?side5 A12.1).mono ?_); (case side5 => exact far_slice (IsS102.own_ne HI0.1 HO508.1 (by decide))); rintro e w23 ⟨rfl, hi, hb, hk⟩; refine ⟨_, rfl, ?_⟩; replace HO_3 := o_ (kp_ (show IsS102 w0 _ g s0_0 t500 t501 from wI_) (rd_ HO_3.1) hk); replace BK503 := o_ (KeepBut.blk hk (g' := gb503) (o := c8_ ((rd_T58 x3_1 x4_1).f0.f0) ((rd_T58 x3_1 (ji7)).f0.f1) ((rd_T58 x3_1 (ji7)).f0.f2) ((rd_T58 x3_1 (ji7)).f0.f3) ((rd_T58 x3_1 (ji7)).f0.f4) ((rd_T58 x3_1 (ji7)).f1) ((rd_T58 x3_1 (ji7)).f2) ((rd_T58 x3_1 (ji7)).f3)) (bd_ BK503.1) NB503_0.1 (by simp)); replace HO508 := o_ (kp_ (show IsS102 w0 _ g s0_0 t500 t501 from wI_) (rd_ HO508.1) hk); replace HK := o_ (KeepBut.trans wK_ hk (.inl rfl)); replace HB := o_ (hb); replace HI0 := o_ (hi); (try clear hb hk hi)) | ((with_reducible refine g_ 77 ?_); refine gl_ (some 36) Try.func77 #[.int .i64 0, .int .i64 (wrap64 (t505 + t509))] ?_; (with_reducible refine (spec_Max.calls 0 (wrap64 (t505 + t509)) t512 _ A13.1).mono ?_); rintro e w' ⟨rfl, ⟨nd, rfl⟩⟩; refine ⟨_, rfl, ?_⟩; (try (rw [drewN_self w23]; generalize hq_ : World.drewN w23 _ = w23; replace HO508 : Aside0 (Kd.R (Kd.int .i64) 3 w23 w.heap.size (fun _ => True) (.slice Ao22 y506.length co22) y506) := ⟨by rw [← hq_]; exact rd_ HO508.1⟩; replace HO_3 : Aside0 (Kd.R k58 58 w23 w.heap.size (fun k_ => k_ ≠ gb503) (.slice (some ad502) x3_1.length co15) x3_1) := ⟨by rw [← hq_]; exact (by (with_reducible repeat (first | apply Kd.R_alloc | apply Kd.R_drewN | apply Kd.R_drew)); exact Kd.R_mono HO_3.1 (fun _ hk => hk.2))⟩; replace BK503 : Aside0 (w23.heap[gb503]? = some (c8_ ((rd_T58 x3_1 x4_1).f0.f0) ((rd_T58 x3_1 (ji7)).f0.f1) ((rd_T58 x3_1 (ji7)).f0.f2) ((rd_T58 x3_1 (ji7)).f0.f3) ((rd_T58 x3_1 (ji7)).f0.f4) ((rd_T58 x3_1 (ji7)).f1) ((rd_T58 x3_1 (ji7)).f2) ((rd_T58 x3_1 (ji7)).f3))) := ⟨by rw [← hq_]; exact bd_ BK503.1⟩; replace HK : Aside0 (KeepBut w w23 g none) := ⟨by rw [← hq_]; exact wK_⟩; replace HB : Aside0 (Below w0.heap.size w0 w23) := ⟨by rw [← hq_]; exact wB_⟩; replace HI0 : Aside0 (IsS102 w0 w23 g s0_0 t510 t511) := ⟨by rw [← hq_]; exact wI_⟩; clear hq_)); have hcz24_0 : w23.cell? ⟨gb503, 0, none⟩ = some (.int .i64 ((rd_T58 x3_1 x4_1).f0.f0)) := (blk_cell BK503.1 0).trans rfl; have hcz24_1 : w23.cell? ⟨gb503, 1, none⟩ = some (.int .i64 ((rd_T58 x3_1 (ji7)).f0.f1)) := (blk_cell BK503.1 1).trans rfl; have hcz24_2 : w23.cell? ⟨gb503, 2, none⟩ = some (.int .i64 ((rd_T58 x3_1 (ji7)).f0.f2)) := (blk_cell BK503.1 2).trans rfl; have hcz24_3 : w23.cell? ⟨gb503, 3, none⟩ = some (.int .i64 ((rd_T58 x3_1 (ji7)).f0.f3)) := (blk_cell BK503.1 3).trans rfl; have hcz24_4 : w23.cell? ⟨gb503, 4, none⟩ = some (.int .i64 ((rd_T58 x3_1 (ji7)).f0.f4)) := (blk_cell BK503.1 4).trans rfl; have hcz24_5 : w23.cell? ⟨gb503, 5, none⟩ = some (.int .i64 ((rd_T58 x3_1 (ji7)).f1)) := (blk_cell BK503.1 5).trans rfl; have hcz24_6 : w23.cell? ⟨gb503, 6, none⟩ = some (.int .i64 ((rd_T58 x3_1 (ji7)).f2)) := (blk_cell BK503.1 6).trans rfl; have hcz24_7 : w23.cell? ⟨gb503, 7, none⟩ = some (.int .i64 ((rd_T58 x3_1 (ji7)).f3)) := (blk_cell BK503.1 7).trans rfl; obtain ⟨hfz24_0, hfz24_1, hfz24_2, hfz24_3, hfz24_4, hfz24_5, hfz24_6, hfz24_7⟩ := z5_ BK503.1) | ((with_reducible refine gate_store (t := 3) (p := 37) rfl ?_); refine store_event (t := 3) (p := 37) (v := ?vo_w25) (w1 := (w23.setCell ⟨gb503, 6, none⟩ (.int .i64 t512))) ?hg ?ho ?hn ?hr ?_; (case ho => rfl); (case hg => rfl); (case hn => rfl); (case hr => first | (go_simp; done) | (go_simp; rfl)); intro w25 hw; replace HO_3 : Aside0 (Kd.R k58 58 w25 w.heap.size (fun k_ => k_ ≠ gb503) (.slice (some ad502) x3_1.length co15) x3_1) := ⟨(by rw [hw]; exact (rf_ (Kd.R_mono HO_3.1 (fun k_ hk => (⟨hk, hk⟩ : _ ∧ k_ ≠ gb503))) (fun _ hk => hk.1)))⟩; replace HO508 : Aside0 (Kd.R (Kd.int .i64) 3 w25 w.heap.size (fun _ => True) (.slice Ao22 y506.length co22) y506) := ⟨(by rw [hw]; exact (rf_ (R2_ HO508.1 BK503.1) (fun _ hk => trivial)))⟩; replace BK503 : Aside0 (w25.heap[gb503]? = some (c8_ ((rd_T58 x3_1 x4_1).f0.f0) ((rd_T58 x3_1 (ji7)).f0.f1) ((rd_T58 x3_1 (ji7)).f0.f2) ((rd_T58 x3_1 (ji7)).f0.f3) ((rd_T58 x3_1 (ji7)).f0.f4) ((rd_T58 x3_1 (ji7)).f1) t512 ((rd_T58 x3_1 (ji7)).f3))) := ⟨(by rw [hw]; exact (bk_ BK503.1))⟩; replace HK : Aside0 (KeepBut w w25 g none) := ⟨(by rw [hw]; exact wK_)⟩; replace HB : Aside0 (Below w0.heap.size w0 w25) := ⟨(by rw [hw]; exact wB_)⟩; replace HI0 : Aside0 (IsS102 w0 w25 g s0_0 t510 t511) := ⟨(by rw [hw]; exact wI_)⟩; clear hw; have hcz26_0 : w25.cell? ⟨gb503, 0, none⟩ = some (.int .i64 ((rd_T58 x3_1 x4_1).f0.f0)) := (blk_cell BK503.1 0).trans rfl; have hcz26_1 : w25.cell? ⟨gb503, 1, none⟩ = some (.int .i64 ((rd_T58 x3_1 (ji7)).f0.f1)) := (blk_cell BK503.1 1).trans rfl; have hcz26_2 : w25.cell? ⟨gb503, 2, none⟩ = some (.int .i64 ((rd_T58 x3_1 (ji7)).f0.f2)) := (blk_cell BK503.1 2).trans rfl; have hcz26_3 : w25.cell? ⟨gb503, 3, none⟩ = some (.int .i64 ((rd_T58 x3_1 (ji7)).f0.f3)) := (blk_cell BK503.1 3).trans rfl; have hcz26_4 : w25.cell? ⟨gb503, 4, none⟩ = some (.int .i64 ((rd_T58 x3_1 (ji7)).f0.f4)) := (blk_cell BK503.1 4).trans rfl; have hcz26_5 : w25.cell? ⟨gb503, 5, none⟩ = some (.int .i64 ((rd_T58 x3_1 (ji7)).f1)) := (blk_cell BK503.1 5).trans rfl; have hcz26_6 : w25.cell? ⟨gb503, 6, none⟩ = some (.int .i64 t512) := (blk_cell BK503.1 6).trans rfl; have hcz26_7 : w25.cell? ⟨gb503, 7, none⟩ = some (.int .i64 ((rd_T58 x3_1 (ji7)).f3)) := (blk_cell BK503.1 7).trans rfl; obtain ⟨_, _, _, _, _, _, _, _⟩ := z5_ BK503.1; have p14 : 0 ≤ (x4_1 : Int) := of_decide_eq_true as_; have q14 : (x4_1 : Int) < ((x3_1.length : Int) : Int) := of_decide_eq_true as_; obtain ⟨go14, co14, eo14, gb14, gl14, cl14, HG14⟩ := Kd.R_form HO_3.1 (by omega); (first | cases eo14 | (injection eo14 with ea_ en_ ec_; (first | subst ea_ | (injection ea_ with ea_; subst ea_)); subst ec_; clear en_)); have GB14 := o_ gb14; have GG14 := o_ HG14; clear gb14 gl14 HG14; (first | simp only [add_plain] at hx502_0 | skip); (first | simp only [add_plain] at hx502_1 | skip); (first | simp only [add_plain] at hx502_2 | skip); (first | simp only [add_plain] at hx502_3 | skip); (first | simp only [add_plain] at hx502_4 | skip); (first | simp only [add_plain] at hx502_5 | skip); (first | simp only [add_plain] at hx502_6 | skip); (first | simp only [add_plain] at hx502_7 | skip); (first | simp only [add_plain] at hx504_0 | skip); (first | simp only [add_plain] at hx504_1 | skip); (first | simp only [add_plain] at hx504_2 | skip); (first | simp only [add_plain] at hx504_3 | skip); (first | simp only [add_plain] at hx504_4 | skip); (first | simp only [add_plain] at hx504_5 | skip); (first | simp only [add_plain] at hx504_6 | skip); (first | simp only [add_plain] at hx504_7 | skip); obtain ⟨ce14, hcl14, hM14, hcc14, hfr14⟩ := Kd.R_elem HO_3.1 z58 (x4_1 : Int) p14 q14; obtain rfl := k58_openM hM14; have hx14_0 : w25.cell? ⟨go14, (x4_1 : Int).toNat * 8, none⟩ = some (.int .i64 ((rd_T58 x3_1 x4_1).f0.f0)) := hcc14 0 _ rfl; have hx14_1 : w25.cell? ⟨go14, (x4_1 : Int).toNat * 8 + 1, none⟩ = some (.int .i64 ((rd_T58 x3_1 x4_1).f0.f1)) := hcc14 1 _ rfl; have hx14_2 : w25.cell? ⟨go14, (x4_1 : Int).toNat * 8 + 2, none⟩ = some (.int .i64 ((rd_T58 x3_1 x4_1).f0.f2)) := hcc14 2 _ rfl; have hx14_3 : w25.cell? ⟨go14, (x4_1 : Int).toNat * 8 + 3, none⟩ = some (.int .i64 ((rd_T58 x3_1 x4_1).f0.f3)) := hcc14 3 _ rfl; have hx14_4 : w25.cell? ⟨go14, (x4_1 : Int).toNat * 8 + 4, none⟩ = some (.int .i64 ((rd_T58 x3_1 x4_1).f0.f4)) := hcc14 4 _ rfl; have hx14_5 : w25.cell? ⟨go14, (x4_1 : Int).toNat * 8 + 5, none⟩ = some (.int .i64 ((rd_T58 x3_1 x4_1).f1)) := hcc14 5 _ rfl; have hx14_6 : w25.cell? ⟨go14, (x4_1 : Int).toNat * 8 + 6, none⟩ = some (.int .i64 ((rd_T58 x3_1 x4_1).f2)) := hcc14 6 _ rfl; have hx14_7 : w25.cell? ⟨go14, (x4_1 : Int).toNat * 8 + 7, none⟩ = some (.int .i64 ((rd_T58 x3_1 x4_1).f3)) := hcc14 7 _ rfl; have hf14_0 : w25.frozen? ⟨go14, (x4_1 : Int).toNat * 8, none⟩ = false := hfr14 0; have hf14_1 : w25.frozen? ⟨go14, (x4_1 : Int).toNat * 8 + 1, none⟩ = false := hfr14 1; have hf14_2 : w25.frozen? ⟨go14, (x4_1 : Int).toNat * 8 + 2, none⟩ = false := hfr14 2; have hf14_3 : w25.frozen? ⟨go14, (x4_1 : Int).toNat * 8 + 3, none⟩ = false := hfr14 3; have hf14_4 : w25.frozen? ⟨go14, (x4_1 : Int).toNat * 8 + 4, none⟩ = false := hfr14 4; have hf14_5 : w25.frozen? ⟨go14, (x4_1 : Int).toNat * 8 + 5, none⟩ = false := hfr14 5; have hf14_6 : w25.frozen? ⟨go14, (x4_1 : Int).toNat * 8 + 6, none⟩ = false := hfr14 6; have hf14_7 : w25.frozen? ⟨go14, (x4_1 : Int).toNat * 8 + 7, none⟩ = false := hfr14 7; clear hcl14 hcc14 hfr14 hM14; replace p14 := eq_true p14; replace q14 := eq_true q14; have HX27 := o_ (show Kd.R k58 58 w25 w.heap.size (fun k_ => k_ ≠ gb503) (.slice (some ⟨go14, 0, none⟩) x3_1.length co15) x3_1 from (rd_ HO_3.1)); obtain ⟨ce27, hcl27, hM27, hcc27, hfr27⟩ := Kd.R_elem HX27.1 z58 (x4_1 : Int) (of_decide_eq_true as_) (by have h_ : (x4_1 : Int) < ((x3_1.length : Int) : Int) := of_decide_eq_true as_; first | exact h_ | (have e_ := (Kd.R_reads' HO_3.1).1; omega) | simpa using h_); obtain rfl := k58_openM hM27; have HP27 := Kd.R_seg HX27.1 (x4_1 : Int) (of_decide_eq_true as_) (by have h_ : (x4_1 : Int) < ((x3_1.length : Int) : Int) := of_decide_eq_true as_; first | exact h_ | (have e_ := (Kd.R_reads' HO_3.1).1; omega) | simpa using h_) (seg := [.int .i64 ((rd_T58 x3_1 x4_1).f0.f0), .int .i64 ((rd_T58 x3_1 (ji7)).f0.f1), .int .i64 ((rd_T58 x3_1 (ji7)).f0.f2), .int .i64 ((rd_T58 x3_1 (ji7)).f0.f3), .int .i64 ((rd_T58 x3_1 (ji7)).f0.f4), .int .i64 ((rd_T58 x3_1 (ji7)).f1), .int .i64 t512, .int .i64 ((rd_T58 x3_1 (ji7)).f3)]) (j := 0) hcl27 hcc27 (show 8 ≤ 8 from by decide) (x' := (⟨(⟨(rd_T58 x3_1 x4_1).f0.f0, (rd_T58 x3_1 (ji7)).f0.f1, (rd_T58 x3_1 (ji7)).f0.f2, (rd_T58 x3_1 (ji7)).f0.f3, (rd_T58 x3_1 (ji7)).f0.f4⟩ : S56), (rd_T58 x3_1 (ji7)).f1, t512, (rd_T58 x3_1 (ji7)).f3⟩ : S58)) (k58_mkM _ _ _ (⟨(⟨(rd_T58 x3_1 x4_1).f0.f0, (rd_T58 x3_1 (ji7)).f0.f1, (rd_T58 x3_1 (ji7)).f0.f2, (rd_T58 x3_1 (ji7)).f0.f3, (rd_T58 x3_1 (ji7)).f0.f4⟩ : S56), (rd_T58 x3_1 (ji7)).f1, t512, (rd_T58 x3_1 (ji7)).f3⟩ : S58) ) (fun _ hk => hk); have hx27_0 := hcc27 0 _ rfl; (try simp only [show (k58).sz = 8 from rfl, Nat.mul_one, Nat.add_zero] at hx27_0); have hf27_0 := hfr27 0; (try simp only [show (k58).sz = 8 from rfl, Nat.mul_one, Nat.add_zero] at hf27_0); have hx27_1 := hcc27 1 _ rfl; (try simp only [show (k58).sz = 8 from rfl, Nat.mul_one, Nat.add_zero] at hx27_1); have hf27_1 := hfr27 1; (try simp only [show (k58).sz = 8 from rfl, Nat.mul_one, Nat.add_zero] at hf27_1); have hx27_2 := hcc27 2 _ rfl; (try simp only [show (k58).sz = 8 from rfl, Nat.mul_one, Nat.add_zero] at hx27_2); have hf27_2 := hfr27 2; (try simp only [show (k58).sz = 8 from rfl, Nat.mul_one, Nat.add_zero] at hf27_2); have hx27_3 := hcc27 3 _ rfl; (try simp only [show (k58).sz = 8 from rfl, Nat.mul_one, Nat.add_zero] at hx27_3); have hf27_3 := hfr27 3; (try simp only [show (k58).sz = 8 from rfl, Nat.mul_one, Nat.add_zero] at hf27_3); have hx27_4 := hcc27 4 _ rfl; (try simp only [show (k58).sz = 8 from rfl, Nat.mul_one, Nat.add_zero] at hx27_4); have hf27_4 := hfr27 4; (try simp only [show (k58).sz = 8 from rfl, Nat.mul_one, Nat.add_zero] at hf27_4); have hx27_5 := hcc27 5 _ rfl; (try simp only [show (k58).sz = 8 from rfl, Nat.mul_one, Nat.add_zero] at hx27_5); have hf27_5 := hfr27 5; (try simp only [show (k58).sz = 8 from rfl, Nat.mul_one, Nat.add_zero] at hf27_5); have hx27_6 := hcc27 6 _ rfl; (try simp only [show (k58).sz = 8 from rfl, Nat.mul_one, Nat.add_zero] at hx27_6); have hf27_6 := hfr27 6; (try simp only [show (k58).sz = 8 from rfl, Nat.mul_one, Nat.add_zero] at hf27_6); have hx27_7 := hcc27 7 _ rfl; (try simp only [show (k58).sz = 8 from rfl, Nat.mul_one, Nat.add_zero] at hx27_7); have hf27_7 := hfr27 7; (try simp only [show (k58).sz = 8 from rfl, Nat.mul_one, Nat.add_zero] at hf27_7); clear hcl27 hcc27 hfr27 hM27) | ((with_reducible refine gate_store (t := 58) (p := 41) rfl ?_); refine store_event (t := 58) (p := 41) (v := ?vo_w28) (w1 := ((((((((w25.setCell ⟨go14, (x4_1 : Int).toNat * 8, none⟩ (.int .i64 ((rd_T58 x3_1 x4_1).f0.f0))).setCell ⟨go14, (x4_1 : Int).toNat * 8 + 1, none⟩ (.int .i64 ((rd_T58 x3_1 (ji7)).f0.f1))).setCell ⟨go14, (x4_1 : Int).toNat * 8 + 2, none⟩ (.int .i64 ((rd_T58 x3_1 (ji7)).f0.f2))).setCell ⟨go14, (x4_1 : Int).toNat * 8 + 3, none⟩ (.int .i64 ((rd_T58 x3_1 (ji7)).f0.f3))).setCell ⟨go14, (x4_1 : Int).toNat * 8 + 4, none⟩ (.int .i64 ((rd_T58 x3_1 (ji7)).f0.f4))).setCell ⟨go14, (x4_1 : Int).toNat * 8 + 5, none⟩ (.int .i64 ((rd_T58 x3_1 (ji7)).f1))).setCell ⟨go14, (x4_1 : Int).toNat * 8 + 6, none⟩ (.int .i64 t512)).setCell ⟨go14, (x4_1 : Int).toNat * 8 + 7, none⟩ (.int .i64 ((rd_T58 x3_1 (ji7)).f3)))) ?hg ?ho ?hn ?hr ?_; (case ho => rfl); (case hg => rfl); (case hn => rfl); (case hr => first | (go_simp; done) | (go_simp; rfl)); intro w28 hw; have hg : w25.grownBy w28 (some go14) := (by rw [hw]; exact HP27.2); have hp_ : Kd.R k58 58 w28 w.heap.size (fun k_ => k_ ≠ gb503) (.slice (some ⟨go14, 0, none⟩) x3_1.length co15) y513 := (by rw [hw, Ny513.1]; exact HP27.1); clear HP27; replace HI0 := o_ (IsS102.grown wI_ hg (IsS102.own_ne HI0.1 HO_3.1 (by decide))); replace BK503 := o_ (blk_grown (g := gb503) (o := c8_ ((rd_T58 x3_1 x4_1).f0.f0) ((rd_T58 x3_1 (ji7)).f0.f1) ((rd_T58 x3_1 (ji7)).f0.f2) ((rd_T58 x3_1 (ji7)).f0.f3) ((rd_T58 x3_1 (ji7)).f0.f4) ((rd_T58 x3_1 (ji7)).f1) t512 ((rd_T58 x3_1 (ji7)).f3)) (bd_ BK503.1) hg (Kd.R_away HO_3.1 (fun _ hk => hk))); replace HO508 := o_ (Kd.R_over' (v := (.slice (some ⟨go14, 0, none⟩) x3_1.length co15)) (rd_ HO508.1) (Kd.R_typed HO_3.1) (by decide) hg); replace HB := o_ ((by rw [hw]; exact below_set (below_set (below_set (below_set (below_set (below_set (below_set (below_set (HB.1) (Nat.le_trans HL.1 GB14.1)) (Nat.le_trans HL.1 GB14.1)) (Nat.le_trans HL.1 GB14.1)) (Nat.le_trans HL.1 GB14.1)) (Nat.le_trans HL.1 GB14.1)) (Nat.le_trans HL.1 GB14.1)) (Nat.le_trans HL.1 GB14.1)) (Nat.le_trans HL.1 GB14.1) : Below w0.heap.size w0 w28)); replace HK := o_ (KeepBut.trans wK_ (KeepBut.of_grown hg g) (Kd.R_base2 HO_3.1)); replace HO_3 := o_ (hp_); clear hg hw hp_))
        go_roundg k1
        case measure => have := HK1.1; omega
        case rel => exact ⟨(y513), (wrap64 (x4_1 + 1)), (t510), (t511), rs_, H', ⟨by have := HK1.1; omega⟩, ⟨by (with_reducible repeat (first | apply Kd.R_alloc | apply Kd.R_drewN | apply Kd.R_drew)); exact Kd.R_mono HO_3.1 (fun _ hk => trivial)⟩, ⟨wI_⟩, ⟨wK_⟩, ⟨wB_⟩⟩
       ·
        rw [if_neg c10] at H
        exact absurd H (by simp)
      ·
       rw [if_neg c9] at H
       exact absurd H (by simp)
     ·
      rw [if_neg c8] at H
      exact absurd H (by simp)
    ·
     replace c6 := Bool.eq_false_iff.mpr c6
     subst c6
     have H1 := H
     rw [if_neg nt_] at H1
     clear H
     have H := H1
     clear H1
     have H' := o_ H
     clear H
     obtain ⟨Ao29, co29, eo29⟩ := Kd.R_slice HO_3.1
     subst eo29
     go_wp2_with (first | ((with_reducible refine g_ 66 ?_); refine gl_ (some 15) Try.func66 #[.pointer (some ⟨g, 0, none⟩), .int .i64 3] ?_; (with_reducible refine (spec_l1Once.calls g s0_0 x1001_1 x1002_1 3 false t500 t501 w0 _ wI_ wB_ A5.1).mono ?_); rintro e w30 ⟨rfl, hi, hb, hk⟩; refine ⟨_, rfl, ?_⟩; replace HO_3 := o_ (kp_ (show IsS102 w0 _ g s0_0 x1001_1 x1002_1 from wI_) (rd_ HO_3.1) hk); replace HK := o_ (KeepBut.trans wK_ hk (.inl rfl)); replace HB := o_ (hb); replace HI0 := o_ (hi); (try clear hb hk hi)))
     go_roundg k1
     case measure => have := HK1.1; omega
     case rel => exact ⟨(x3_1), (wrap64 (x4_1 + 1)), (t500), (t501), rs_, H', ⟨by have := HK1.1; omega⟩, ⟨rd_ HO_3.1⟩, ⟨wI_⟩, ⟨wK_⟩, ⟨wB_⟩⟩
   ·
    rw [if_neg c4] at H
    have c4b0 := decide_eq_false c4
    clear c4
    simp only [Option.some.injEq, Prod.mk.injEq] at H
    obtain ⟨rfl, rfl, rfl⟩ := H
    obtain ⟨Ao31, co31, eo31⟩ := Kd.R_slice HO_3.1
    subst eo31
    go_wp2
    go_ret
    exact ⟨_, rt_, rd_ HO_3.1, wI_, wB_, wK_⟩

/-! ### spec_DrawTwinsOf: function 34 -/
def spec_DrawTwinsOf.f (k : Nat) (l0 : List Int) : Option ((List (S58))) := (spec_l1New.f k l0).bind fun bt514 => ((spec_l24List.f k bt514.1 bt514.2.1 bt514.2.2).bind fun bt518 => (some bt518.1))
theorem spec_DrawTwinsOf.mono : ∀ a0 k, LeO (spec_DrawTwinsOf.f k a0) (spec_DrawTwinsOf.f (k + 1) a0) := by
  intro a0 k
  unfold spec_DrawTwinsOf.f
  have jh0 := @spec_l1New.mono
  have jh1 := @spec_l24List.mono
  exact mo_
set_option maxHeartbeats 8000000 in
set_option maxRecDepth 100000 in
theorem spec_DrawTwinsOf.calls (k : Nat) (A0 : Option Addr) (c0 : Nat) (l0 : List Int) (r : List (S58)) (w : World) (hr0 : Kd.C (Kd.int .u8) w A0 l0.length l0) (hc0 : l0.length ≤ c0) (h : spec_DrawTwinsOf.f k l0 = some r) :
    Calls Try.prog 34 #[.slice A0 l0.length c0] w fun e w' => ∃ v0_ : Value, e = .returned (v0_) ∧ Kd.R k58 58 w' w.heap.size (fun _ => True) v0_ r ∧ Below w.heap.size w w' := by
  have HR0 := o_ hr0
  have HC0 := o_ hc0
  clear hr0 hc0
  have HB := o_ (Below.refl w.heap.size w)
  have H : ((spec_l1New.f k l0).bind fun bt514 => ((spec_l24List.f k bt514.1 bt514.2.1 bt514.2.2).bind fun bt518 => (some bt518.1))) = some r := h
  clear h
  obtain ⟨⟨t514, t515, t516⟩, A2, H⟩ := ob_ H
  try dsimp only at H
  obtain ⟨⟨t518, t521, t522⟩, A3, H⟩ := ob_ H
  try dsimp only at H
  obtain rfl := Option.some.inj H
  go_enter Try.func34, Try.ntmps34
  go_wp2_with (first | ((with_reducible refine g_ 58 ?_); refine gl_ (some 5) Try.func58 #[.slice A0 l0.length c0] ?_; (with_reducible refine (spec_l1New.calls k _ _ l0 t514 t515 t516 w _ wB_ HR0.1 HC0.1 A2.1).mono ?_); rintro e w4 ⟨g517, rfl, hi, hb, hb2⟩; refine ⟨_, rfl, ?_⟩; replace HB := o_ (hb); replace HI517 := o_ (hi); (try clear hb hb2 hi)) | ((with_reducible refine g_ 62 ?_); refine gl_ (some 7) Try.func62 #[.pointer (some ⟨g517, 0, none⟩)] ?_; (with_reducible refine (spec_l24List.calls k g517 t514 t515 t516 t518 t521 t522 w _ (wJ_ HI517.1) wB_ A3.1).mono ?_); rintro e w5 ⟨v519, rfl, ho0, hi, hb, hk⟩; refine ⟨_, rfl, ?_⟩; have HO520 := o_ (Kd.R_lower ho0 (below_size wB_)); replace HB := o_ (hb); replace HI517 := o_ (hi); (try clear hb hk hi ho0)))
  go_ret
  exact ⟨_, rt_, rd_ HO520.1, wB_⟩

/-! ### laws_ascends: function 35 -/
def laws_ascends.l0 : Nat → List Int → Int → Option (Bool)
  | 0, _, _ => none
  | k + 1, x0, x3 => if x3 < (x0.length : Int) then (if 0 ≤ (wrap64 (x3 - 1)) then (if (wrap64 (x3 - 1)) < (x0.length : Int) then (if 0 ≤ x3 then (if (rd x0 (wrap64 (x3 - 1))) ≥ (rd x0 x3) then (some false) else (laws_ascends.l0 k x0 (wrap64 (x3 + 1)))) else (none)) else (none)) else (none)) else (some true)
def laws_ascends.f (k : Nat) (l0 : List Int) : Option (Bool) := laws_ascends.l0 k l0 1
theorem laws_ascends.mono_l : ∀ k, (∀ y0 y1, LeO (laws_ascends.l0 k y0 y1) (laws_ascends.l0 (k + 1) y0 y1))
  | 0 => fun _ _ r h => by simp [laws_ascends.l0] at h
  | k + 1 => by
    have ih0 := laws_ascends.mono_l k
    · intro y0 y1
      unfold laws_ascends.l0
      exact mo_
theorem laws_ascends.mono : ∀ a0 k, LeO (laws_ascends.f k a0) (laws_ascends.f (k + 1) a0) := by
  intro a0 k
  have ih0 := laws_ascends.mono_l k
  unfold laws_ascends.f
  exact mo_
set_option maxHeartbeats 8000000 in
set_option maxRecDepth 100000 in
theorem laws_ascends.calls (k : Nat) (A0 : Option Addr) (c0 : Nat) (l0 : List Int) (r : Bool) (w : World) (hr0 : Kd.C (Kd.int .i64) w A0 l0.length l0) (hc0 : l0.length ≤ c0) (h : laws_ascends.f k l0 = some r) :
    Calls Try.prog 35 #[.slice A0 l0.length c0] w fun e w' => e = .returned (.bool r) ∧ Drawn0 w w' := by
  have HR0 := o_ hr0
  have HC0 := o_ hc0
  clear hr0 hc0
  have H : (laws_ascends.l0 k l0 1) = some r := h
  clear h
  have H' := o_ H
  clear H
  go_enter Try.func35, Try.ntmps35
  go_wp2
  repeat (go_quiet (fail); try go_wp2)
  go_loopg [3] k (fun kq v3 w' => ∃ (x3_1 : Int), v3 = .int .i64 x3_1 ∧ Aside0 (laws_ascends.l0 kq l0 x3_1 = some r) ∧ Aside0 (kq ≤ k) ∧ Drawn0 w w')
  case atStart => exact ⟨(1), rs_, H', ⟨Nat.le_refl _⟩, by repeat (first | exact Drawn0.refl _ | apply Drawn0.step)⟩
  case round =>
    clear H'
    obtain ⟨x3_1, rfl, HA, HK1, ⟨m1, rfl⟩⟩ := hrel
    cases gk with
    | zero => exact absurd HA.1 (by simp [laws_ascends.l0])
    | succ k1 =>
      have H := HA.1
      clear HA
      simp only [laws_ascends.l0] at H
      by_cases c2 : x3_1 < (l0.length : Int)
      · rw [if_pos c2] at H
        have c2b0 := decide_eq_true c2
        clear c2
        obtain ⟨ji3, hji3⟩ : ∃ j_ : Int, (wrap64 (x3_1 - 1)) = j_ := ⟨_, rfl⟩
        replace H : (if 0 ≤ (ji3) then (if (ji3) < (l0.length : Int) then (if 0 ≤ x3_1 then (if (rd l0 (ji3)) ≥ (rd l0 x3_1) then (some false) else (laws_ascends.l0 k1 l0 (wrap64 (x3_1 + 1)))) else (none)) else (none)) else (none)) = some r := by first | (rw [hji3] at H; exact H) | (simp only [hji3] at H ⊢; exact H)
        have hji3w : (IntKind.i64.wrap (x3_1 - 1)) = ji3 := (i64_w _).trans hji3
        by_cases c4 : 0 ≤ (ji3)
        · rw [if_pos c4] at H
          have c4b0 := decide_eq_true c4
          clear c4
          by_cases c5 : (ji3) < (l0.length : Int)
          · rw [if_pos c5] at H
            have c5b0 := decide_eq_true c5
            clear c5
            by_cases c6 : 0 ≤ x3_1
            · rw [if_pos c6] at H
              have c6b0 := decide_eq_true c6
              clear c6
              by_cases c7 : (rd l0 (ji3)) ≥ (rd l0 x3_1)
              · rw [if_pos c7] at H
                have c7b0 := decide_eq_true c7
                clear c7
                obtain rfl := Option.some.inj H
                have p523 : 0 ≤ ((ji3) : Int) := of_decide_eq_true as_
                have q523 : (ji3) < (l0.length : Int) := of_decide_eq_true as_
                obtain ⟨ad523, e523, hx523_0⟩ := Kd.at_int HR0.1 (ji3) p523 q523
                cases e523
                replace p523 := eq_true p523
                replace q523 := eq_true q523
                have p524 : 0 ≤ (x3_1 : Int) := of_decide_eq_true as_
                have q524 : x3_1 < (l0.length : Int) := of_decide_eq_true as_
                obtain ⟨ad524, e524, hx524_0⟩ := Kd.at_int HR0.1 x3_1 p524 q524
                obtain rfl : ad523 = ad524 := (by injection e524)
                replace p524 := eq_true p524
                replace q524 := eq_true q524
                go_wp2
                repeat (go_quiet (fail); try go_wp2)
                go_ret
                exact ⟨by first | rfl | (simp; done) | (simp only [← hji3] <;> (first | rfl | simp)) | (simp [*]; done), by repeat (first | exact Drawn0.refl _ | apply Drawn0.step)⟩
              · rw [if_neg c7] at H
                have c7b0 := decide_eq_false c7
                clear c7
                have H' := o_ H
                clear H
                have p523 : 0 ≤ ((ji3) : Int) := of_decide_eq_true as_
                have q523 : (ji3) < (l0.length : Int) := of_decide_eq_true as_
                obtain ⟨ad523, e523, hx523_0⟩ := Kd.at_int HR0.1 (ji3) p523 q523
                cases e523
                replace p523 := eq_true p523
                replace q523 := eq_true q523
                have p524 : 0 ≤ (x3_1 : Int) := of_decide_eq_true as_
                have q524 : x3_1 < (l0.length : Int) := of_decide_eq_true as_
                obtain ⟨ad524, e524, hx524_0⟩ := Kd.at_int HR0.1 x3_1 p524 q524
                obtain rfl : ad523 = ad524 := (by injection e524)
                replace p524 := eq_true p524
                replace q524 := eq_true q524
                go_wp2
                repeat (go_quiet (fail); try go_wp2)
                go_roundg k1
                case measure => have := HK1.1; omega
                case rel => exact ⟨(wrap64 (x3_1 + 1)), rs_, H', ⟨by have := HK1.1; omega⟩, by repeat (first | exact Drawn0.refl _ | apply Drawn0.step)⟩
            · rw [if_neg c6] at H
              exact absurd H (by simp)
          · rw [if_neg c5] at H
            exact absurd H (by simp)
        · rw [if_neg c4] at H
          exact absurd H (by simp)
      · rw [if_neg c2] at H
        have c2b0 := decide_eq_false c2
        clear c2
        obtain rfl := Option.some.inj H
        go_wp2
        repeat (go_quiet (fail); try go_wp2)
        go_ret
        exact ⟨rs_, by repeat (first | exact Drawn0.refl _ | apply Drawn0.step)⟩

/-! ### spec_l7Some: function 101 -/
def spec_l7Some.l0 : Nat → Int → Int → List Int → Int → List Int → Int → Int → Option (List Int × Int × Int)
  | 0, _, _, _, _, _, _, _ => none
  | k + 1, x2, x3, x9, x10, x1000, x1001, x1002 => if x10 ≤ x2 then ((spec_l1Once.f x1000 x1001 x1002 x3).bind fun bt528 => (if bt528.1 = true then (if x9.length < 17592186044416 then (spec_l7Some.l0 k x2 x3 (x9 ++ [x10]) (wrap64 (x10 + 1)) x1000 bt528.2.1 bt528.2.2) else (none)) else (spec_l7Some.l0 k x2 x3 x9 (wrap64 (x10 + 1)) x1000 bt528.2.1 bt528.2.2))) else (some (x9, x1001, x1002))
def spec_l7Some.f (k : Nat) (s0_0 : List Int) (s0_1 : Int) (s0_2 : Int) (a1 : Int) (a2 : Int) (a3 : Int) : Option (List Int × Int × Int) := spec_l7Some.l0 k a2 a3 (([] : List Int)) a1 s0_0 s0_1 s0_2
theorem spec_l7Some.mono_l : ∀ k, (∀ y0 y1 y2 y3 y4 y5 y6, LeO (spec_l7Some.l0 k y0 y1 y2 y3 y4 y5 y6) (spec_l7Some.l0 (k + 1) y0 y1 y2 y3 y4 y5 y6))
  | 0 => fun _ _ _ _ _ _ _ r h => by simp [spec_l7Some.l0] at h
  | k + 1 => by
    have ih0 := spec_l7Some.mono_l k
    · intro y0 y1 y2 y3 y4 y5 y6
      unfold spec_l7Some.l0
      exact mo_
theorem spec_l7Some.mono : ∀ a0 a1 a2 a3 a4 a5 k, LeO (spec_l7Some.f k a0 a1 a2 a3 a4 a5) (spec_l7Some.f (k + 1) a0 a1 a2 a3 a4 a5) := by
  intro a0 a1 a2 a3 a4 a5 k
  have ih0 := spec_l7Some.mono_l k
  unfold spec_l7Some.f
  exact mo_
set_option maxHeartbeats 8000000 in
set_option maxRecDepth 100000 in
theorem spec_l7Some.calls (k : Nat) (g : Nat) (s0_0 : List Int) (s0_1 : Int) (s0_2 : Int) (a1 : Int) (a2 : Int) (a3 : Int) (r1 : List Int) (r2 : Int) (r3 : Int) (w0 w : World) (hI : IsS102 w0 w g s0_0 s0_1 s0_2) (hB : Below w0.heap.size w0 w) (h : spec_l7Some.f k s0_0 s0_1 s0_2 a1 a2 a3 = some (r1, r2, r3)) :
    Calls Try.prog 101 #[.pointer (some ⟨g, 0, none⟩), .int .i64 a1, .int .i64 a2, .int .i64 a3] w fun e w' => ∃ v0_ : Value, e = .returned (v0_) ∧ Kd.R (Kd.int .i64) 3 w' w.heap.size (fun _ => True) v0_ r1 ∧ IsS102 w0 w' g s0_0 r2 r3 ∧ Below w0.heap.size w0 w' ∧ KeepBut w w' g none := by
  have HI0 := o_ hI
  have HK := o_ (KeepBut.refl w g none)
  have HL := o_ hB.size
  clear hI
  have HW0 := o_ hB.size
  have HB := o_ hB
  clear hB
  have H : (spec_l7Some.l0 k a2 a3 (([] : List Int)) a1 s0_0 s0_1 s0_2) = some (r1, r2, r3) := h
  clear h
  obtain ⟨y525, hy525⟩ : ∃ y_ : List Int, y_ = (([] : List Int)) := ⟨_, rfl⟩
  replace H : (spec_l7Some.l0 k a2 a3 y525 a1 s0_0 s0_1 s0_2) = some (r1, r2, r3) := hy_ H hy525
  have Ny525 := o_ hy525
  clear hy525
  have H' := o_ H
  clear H
  go_enter Try.func101, Try.ntmps101
  go_wp2_with (first | ((with_reducible refine gate_dst (N := 11) rfl ?_); refine Kd.R_lit (Kd.int .i64) _ 3 ?hg (N := 11) ?hd (xs := ([] : List Int)) (inner := []) (ok := fun _ => True) (okp := fun _ => True) ?hr ?hp (fun _ hk => hk) trivial (Below.refl _ _) (Nat.le_refl _) (by simp) ?_; (case hd => rfl); (case hg => rfl); (case hr => first | (go_simp; done) | (go_simp; rfl)); (case hp => exact (Reps.none _ _)); intro v526 w5 ho6 hb hg_ hnew_; clear hg_ hnew_; (first | rw [← Ny525.1] at ho6 | (simp only [Int.reduceToNat] at ho6; rw [← Ny525.1] at ho6)); have HO527 := o_ (Kd.R_lower ho6 (keep_size (w := w) (g := g) (row := none) wK_)); replace HK := o_ (KeepBut.trans wK_ (KeepBut.of_below hb g none) (.inl rfl)); replace HB := o_ (below_step (wB_) hb); replace HI0 := o_ (IsS102.below (wI_) hb); clear hb ho6))
  go_loopg [9, 10] k (fun kq v9 v10 w' => ∃ (x9_1 : List Int) (x10_1 : Int) (x1001_1 : Int) (x1002_1 : Int), v10 = .int .i64 x10_1 ∧ Aside0 (spec_l7Some.l0 kq a2 a3 x9_1 x10_1 s0_0 x1001_1 x1002_1 = some (r1, r2, r3)) ∧ Aside0 (kq ≤ k) ∧ Aside0 (Kd.R (Kd.int .i64) 3 w' w.heap.size (fun _ => True) v9 x9_1) ∧ Aside0 (IsS102 w0 w' g s0_0 x1001_1 x1002_1) ∧ Aside0 (KeepBut w w' g none) ∧ Aside0 (Below w0.heap.size w0 w'))
  case atStart => exact ⟨(y525), (a1), (s0_1), (s0_2), rs_, H', ⟨Nat.le_refl _⟩, ⟨rd_ HO527.1⟩, ⟨wI_⟩, ⟨wK_⟩, ⟨wB_⟩⟩
  case round =>
    clear H'
    try clear c1
    try clear p2
    obtain ⟨x9_1, x10_1, x1001_1, x1002_1, rfl, HA, HK1, HO_9, HI0, HK, HB⟩ := hrel
    cases gk with
    | zero => exact absurd HA.1 (by simp [spec_l7Some.l0])
    | succ k1 =>
      have H := HA.1
      clear HA
      simp only [spec_l7Some.l0] at H
      by_cases c7 : x10_1 ≤ a2
      · rw [if_pos c7] at H
        have c7b0 := decide_eq_true c7
        clear c7
        obtain ⟨⟨t528, t529, t530⟩, A8, H⟩ := ob_ H
        try dsimp only at H
        by_cases c9 : t528 = true
        · subst c9
          have H1 := H
          rw [if_pos rfl] at H1
          clear H
          have H := H1
          clear H1
          by_cases c10 : x9_1.length < 17592186044416
          · rw [if_pos c10] at H
            have LMc10 := o_ c10
            clear c10
            obtain ⟨y531, hy531⟩ : ∃ y_ : List Int, y_ = (x9_1 ++ [x10_1]) := ⟨_, rfl⟩
            replace H : (spec_l7Some.l0 k1 a2 a3 y531 (wrap64 (x10_1 + 1)) s0_0 t529 t530) = some (r1, r2, r3) := hy_ H hy531
            have Ny531 := o_ hy531
            clear hy531
            have H' := o_ H
            clear H
            go_wp2_with (first | ((with_reducible refine g_ 66 ?_); refine gl_ (some 20) Try.func66 #[.pointer (some ⟨g, 0, none⟩), .int .i64 a3] ?_; (with_reducible refine (spec_l1Once.calls g s0_0 x1001_1 x1002_1 a3 true t529 t530 w0 _ wI_ wB_ A8.1).mono ?_); rintro e w11 ⟨rfl, hi, hb, hk⟩; refine ⟨_, rfl, ?_⟩; replace HO_9 := o_ (kp_ (show IsS102 w0 _ g s0_0 x1001_1 x1002_1 from wI_) (rd_ HO_9.1) hk); replace HK := o_ (KeepBut.trans wK_ hk (.inl rfl)); replace HB := o_ (hb); replace HI0 := o_ (hi); (try clear hb hk hi)) | ((with_reducible refine gate_builtin (b := .append) (xs := #[.tmp 21, .tmp 23]) rfl ?_); at_builtin; refine Kd.R_append (Kd.int .i64) w.heap.size rfl (.tmp 21) (.tmp 23) 24 3 (.int .i64 0) 8 rfl Try.underlying24 info3 rfl (by decide) (by omega) u9 x9_1 x10_1 [.int .i64 x10_1] (fun _ => True) (fun _ => False) rfl rfl ?aP (fun _ hk => hk.elim) ?aF ?aO (Below.refl _ _) ?aS ?aL ?_; (case aP => exact rfl); (case aF => exact (fun _ _ => trivial)); (case aO => exact rd_ HO_9.1); (case aS => exact (keep_size (w := w) (g := g) (row := none) wK_)); (case aL => have := LMc10.1; omega); intro v532 w12 ho hb hg hat; rw [← Ny531.1] at ho; replace HB := o_ (below_weaken (wB_) HL.1 hb); replace HI0 := o_ (IsS102.grown (wI_) hg (IsS102.own_ne HI0.1 HO_9.1 (by decide))); replace HK := o_ (KeepBut.trans wK_ (KeepBut.of_grown hg g) (Kd.R_base2 HO_9.1)); have HO533 := o_ (ho); clear HO_9 ho hb hg hat))
            go_roundg k1
            case measure => have := HK1.1; omega
            case rel => exact ⟨(y531), (wrap64 (x10_1 + 1)), (t529), (t530), rs_, H', ⟨by have := HK1.1; omega⟩, ⟨rd_ HO533.1⟩, ⟨wI_⟩, ⟨wK_⟩, ⟨wB_⟩⟩
          · rw [if_neg c10] at H
            exact absurd H (by simp)
        · replace c9 := Bool.eq_false_iff.mpr c9
          subst c9
          have H1 := H
          rw [if_neg nt_] at H1
          clear H
          have H := H1
          clear H1
          have H' := o_ H
          clear H
          go_wp2_with (first | ((with_reducible refine g_ 66 ?_); refine gl_ (some 20) Try.func66 #[.pointer (some ⟨g, 0, none⟩), .int .i64 a3] ?_; (with_reducible refine (spec_l1Once.calls g s0_0 x1001_1 x1002_1 a3 false t529 t530 w0 _ wI_ wB_ A8.1).mono ?_); rintro e w13 ⟨rfl, hi, hb, hk⟩; refine ⟨_, rfl, ?_⟩; replace HO_9 := o_ (kp_ (show IsS102 w0 _ g s0_0 x1001_1 x1002_1 from wI_) (rd_ HO_9.1) hk); replace HK := o_ (KeepBut.trans wK_ hk (.inl rfl)); replace HB := o_ (hb); replace HI0 := o_ (hi); (try clear hb hk hi)))
          go_roundg k1
          case measure => have := HK1.1; omega
          case rel => exact ⟨(x9_1), (wrap64 (x10_1 + 1)), (t529), (t530), rs_, H', ⟨by have := HK1.1; omega⟩, ⟨rd_ HO_9.1⟩, ⟨wI_⟩, ⟨wK_⟩, ⟨wB_⟩⟩
      · rw [if_neg c7] at H
        have c7b0 := decide_eq_false c7
        clear c7
        simp only [Option.some.injEq, Prod.mk.injEq] at H
        obtain ⟨rfl, rfl, rfl⟩ := H
        go_wp2
        go_ret
        exact ⟨_, rt_, rd_ HO_9.1, wI_, wB_, wK_⟩

/-! ### spec_l5Draw: function 102 -/
def spec_l5Draw.f (s0_0 : List Int) (s0_1 : Int) (s0_2 : Int) : Option (Int × Int × Int × Int) := (spec_l1Below.f s0_0 s0_1 s0_2 60).bind fun bt535 => ((spec_l1Below.f s0_0 bt535.2.1 bt535.2.2 30).bind fun bt538 => (some (bt535.1, wrap64 (bt535.1 + bt538.1), bt538.2.1, bt538.2.2)))
set_option maxHeartbeats 8000000 in
set_option maxRecDepth 100000 in
theorem spec_l5Draw.calls (g : Nat) (s0_0 : List Int) (s0_1 : Int) (s0_2 : Int) (r1 : Int) (r2 : Int) (r3 : Int) (r4 : Int) (w0 w : World) (hI : IsS102 w0 w g s0_0 s0_1 s0_2) (hB : Below w0.heap.size w0 w) (h : spec_l5Draw.f s0_0 s0_1 s0_2 = some (r1, r2, r3, r4)) :
    Calls Try.prog 102 #[.pointer (some ⟨g, 0, none⟩)] w fun e w' => e = .returned (.agg #[.int .i64 r1, .int .i64 r2]) ∧ IsS102 w0 w' g s0_0 r3 r4 ∧ Below w0.heap.size w0 w' ∧ KeepBut w w' g none := by
  have hu39 := Try.underlying39
  have HI0 := o_ hI
  have HK := o_ (KeepBut.refl w g none)
  have HL := o_ hB.size
  clear hI
  have HW0 := o_ hB.size
  have HB := o_ hB
  clear hB
  have H := h
  unfold spec_l5Draw.f at H
  clear h
  obtain ⟨⟨t535, t536, t537⟩, A2, H⟩ := ob_ H
  try dsimp only at H
  obtain ⟨⟨t538, t539, t540⟩, A3, H⟩ := ob_ H
  try dsimp only at H
  simp only [Option.some.injEq, Prod.mk.injEq] at H
  obtain ⟨rfl, rfl, rfl, rfl⟩ := H
  go_enter Try.func102, Try.ntmps102
  go_wp2_with (first | ((with_reducible refine gate_dst (N := 2) rfl ?_); refine bx_ 2 #[.int .i64 0, .int .i64 0] 39 ?_; intro gb534 hg w4 hbox hb; replace HB := o_ (below_step wB_ hb); have BK534 := o_ (hbox); have GW534 := o_ ((by rw [hg]; exact (keep_size (w := w) (g := g) (row := none) wK_) : w.heap.size ≤ gb534)); have GE534 := o_ ((Nat.le_trans HW0.1 (by rw [hg]; exact (keep_size (w := w) (g := g) (row := none) wK_) : w.heap.size ≤ gb534) : w0.heap.size ≤ gb534)); replace HK := o_ (KeepBut.trans wK_ (KeepBut.of_below hb g none) (.inl rfl)); have NB0_534 := o_ ((by rw [hg]; exact Nat.ne_of_lt (IsS102.lt (show IsS102 w0 _ g s0_0 s0_1 s0_2 from wI_)) : g ≠ gb534)); have NB534_0 := o_ ((by rw [hg]; exact Nat.ne_of_gt (IsS102.lt (show IsS102 w0 _ g s0_0 s0_1 s0_2 from wI_)) : gb534 ≠ g)); replace HI0 := o_ (IsS102.below wI_ hb); clear hb hbox hg) | ((with_reducible refine g_ 84 ?_); refine gl_ (some 5) Try.func84 #[.pointer (some ⟨g, 0, none⟩), .int .i64 60] ?_; (with_reducible refine (spec_l1Below.calls g s0_0 s0_1 s0_2 60 t535 t536 t537 w0 _ wI_ wB_ A2.1).mono ?_); rintro e w5 ⟨rfl, hi, hb, hk⟩; refine ⟨_, rfl, ?_⟩; replace BK534 := o_ (KeepBut.blk hk (g' := gb534) (o := .cells #[.int .i64 0, .int .i64 0] 39 (0, 0)) (bd_ BK534.1) NB534_0.1 (by simp)); replace HK := o_ (KeepBut.trans wK_ hk (.inl rfl)); replace HB := o_ (hb); replace HI0 := o_ (hi); (try clear hb hk hi)) | ((with_reducible refine g_ 84 ?_); refine gl_ (some 9) Try.func84 #[.pointer (some ⟨g, 0, none⟩), .int .i64 30] ?_; (with_reducible refine (spec_l1Below.calls g s0_0 t536 t537 30 t538 t539 t540 w0 _ wI_ wB_ A3.1).mono ?_); rintro e w6 ⟨rfl, hi, hb, hk⟩; refine ⟨_, rfl, ?_⟩; replace BK534 := o_ (KeepBut.blk hk (g' := gb534) (o := .cells #[.int .i64 0, .int .i64 0] 39 (0, 0)) (bd_ BK534.1) NB534_0.1 (by simp)); replace HK := o_ (KeepBut.trans wK_ hk (.inl rfl)); replace HB := o_ (hb); replace HI0 := o_ (hi); (try clear hb hk hi); have hnb7 := NB534_0.1; have hnc7 := NB0_534.1; have hcz8_0 : w6.cell? ⟨gb534, 0, none⟩ = some (.int .i64 0) := (blk_cell BK534.1 0).trans rfl; have hcz8_1 : w6.cell? ⟨gb534, 1, none⟩ = some (.int .i64 0) := (blk_cell BK534.1 1).trans rfl; have hfz8_0 := blk_frozen BK534.1 0; have hfz8_1 := blk_frozen BK534.1 1))
  refine bodyPost_ret (results_cell_row rfl _ _ gb534 39 #[.int .i64 t535, .int .i64 (wrap64 (t535 + t538))] (0, 0) _ rfl (bk_ BK534.1) Try.underlying39 rfl (by kernel_rfl)) rfl ?_
  exact ⟨rt_, wI_, wB_, wK_⟩

/-! ### spec_l7Draw: function 90 -/
def spec_l7Draw.f (k : Nat) (s0_0 : List Int) (s0_1 : Int) (s0_2 : Int) (a1 : Int) : Option (Int × Int × List Int × Int × Int × List Int × Int × Int × Int × Int) := (spec_l1Below.f s0_0 s0_1 s0_2 12).bind fun bt542 => ((spec_l1Below.f s0_0 bt542.2.1 bt542.2.2 8).bind fun bt545 => ((spec_l7Some.f k s0_0 bt545.2.1 bt545.2.2 0 7 3).bind fun bt548 => ((spec_l1Below.f s0_0 bt548.2.1 bt548.2.2 15).bind fun bt553 => ((spec_l7Some.f k s0_0 bt553.2.1 bt553.2.2 1 6 2).bind fun bt556 => ((spec_l5Draw.f s0_0 bt556.2.1 bt556.2.2).bind fun bt561 => (some (a1, wrap64 (1 + bt545.1), bt548.1, wrap64 (1 + bt542.1), wrap64 ((wrap64 (1 + bt542.1)) + bt553.1), bt556.1, bt561.1, bt561.2.1, bt561.2.2.1, bt561.2.2.2)))))))
theorem spec_l7Draw.mono : ∀ a0 a1 a2 a3 k, LeO (spec_l7Draw.f k a0 a1 a2 a3) (spec_l7Draw.f (k + 1) a0 a1 a2 a3) := by
  intro a0 a1 a2 a3 k
  unfold spec_l7Draw.f
  have jh0 := @spec_l7Some.mono
  exact mo_
set_option maxHeartbeats 8000000 in
set_option maxRecDepth 100000 in
theorem spec_l7Draw.calls (k : Nat) (g : Nat) (s0_0 : List Int) (s0_1 : Int) (s0_2 : Int) (a1 : Int) (r1 : Int) (r2 : Int) (r3 : List Int) (r4 : Int) (r5 : Int) (r6 : List Int) (r7 : Int) (r8 : Int) (r9 : Int) (r10 : Int) (w0 w : World) (hI : IsS102 w0 w g s0_0 s0_1 s0_2) (hB : Below w0.heap.size w0 w) (h : spec_l7Draw.f k s0_0 s0_1 s0_2 a1 = some (r1, r2, r3, r4, r5, r6, r7, r8, r9, r10)) :
    Calls Try.prog 90 #[.pointer (some ⟨g, 0, none⟩), .int .i64 a1] w fun e w' => ∃ v2_ v5_ : Value, e = .returned (.agg #[.int .i64 r1, .int .i64 r2, v2_, .int .i64 r4, .int .i64 r5, v5_, .int .i64 r7, .int .i64 r8]) ∧ Kd.R (Kd.int .i64) 3 w' w.heap.size (fun k_ => some k_ ≠ (v5_ : Value).ownBlock) v2_ r3 ∧ Kd.R (Kd.int .i64) 3 w' w.heap.size (fun k_ => some k_ ≠ (v2_ : Value).ownBlock) v5_ r6 ∧ IsS102 w0 w' g s0_0 r9 r10 ∧ Below w0.heap.size w0 w' ∧ KeepBut w w' g none := by
  have hu41 := Try.underlying41
  have HI0 := o_ hI
  have HK := o_ (KeepBut.refl w g none)
  have HL := o_ hB.size
  clear hI
  have HW0 := o_ hB.size
  have HB := o_ hB
  clear hB
  have H := h
  unfold spec_l7Draw.f at H
  clear h
  obtain ⟨⟨t542, t543, t544⟩, A3, H⟩ := ob_ H
  try dsimp only at H
  obtain ⟨⟨t545, t546, t547⟩, A4, H⟩ := ob_ H
  try dsimp only at H
  obtain ⟨⟨t548, t551, t552⟩, A5, H⟩ := ob_ H
  try dsimp only at H
  obtain ⟨⟨t553, t554, t555⟩, A6, H⟩ := ob_ H
  try dsimp only at H
  obtain ⟨⟨t556, t559, t560⟩, A7, H⟩ := ob_ H
  try dsimp only at H
  obtain ⟨⟨t561, t562, t563, t564⟩, A8, H⟩ := ob_ H
  try dsimp only at H
  simp only [Option.some.injEq, Prod.mk.injEq] at H
  obtain ⟨rfl, rfl, rfl, rfl, rfl, rfl, rfl, rfl, rfl, rfl⟩ := H
  go_enter Try.func90, Try.ntmps90
  go_wp2_with (first | ((with_reducible refine gate_dst (N := 4) rfl ?_); refine bx_ 4 #[.int .i64 0, .int .i64 0, .slice none 0 0, .int .i64 0, .int .i64 0, .slice none 0 0, .int .i64 0, .int .i64 0] 41 ?_; intro gb541 hg w9 hbox hb; replace HB := o_ (below_step wB_ hb); have BK541 := o_ (hbox); have GW541 := o_ ((by rw [hg]; exact (keep_size (w := w) (g := g) (row := none) wK_) : w.heap.size ≤ gb541)); have GE541 := o_ ((Nat.le_trans HW0.1 (by rw [hg]; exact (keep_size (w := w) (g := g) (row := none) wK_) : w.heap.size ≤ gb541) : w0.heap.size ≤ gb541)); replace HK := o_ (KeepBut.trans wK_ (KeepBut.of_below hb g none) (.inl rfl)); have NB0_541 := o_ ((by rw [hg]; exact Nat.ne_of_lt (IsS102.lt (show IsS102 w0 _ g s0_0 s0_1 s0_2 from wI_)) : g ≠ gb541)); have NB541_0 := o_ ((by rw [hg]; exact Nat.ne_of_gt (IsS102.lt (show IsS102 w0 _ g s0_0 s0_1 s0_2 from wI_)) : gb541 ≠ g)); replace HI0 := o_ (IsS102.below wI_ hb); clear hb hbox hg) | ((with_reducible refine g_ 84 ?_); refine gl_ (some 7) Try.func84 #[.pointer (some ⟨g, 0, none⟩), .int .i64 12] ?_; (with_reducible refine (spec_l1Below.calls g s0_0 s0_1 s0_2 12 t542 t543 t544 w0 _ wI_ wB_ A3.1).mono ?_); rintro e w10 ⟨rfl, hi, hb, hk⟩; refine ⟨_, rfl, ?_⟩; replace BK541 := o_ (KeepBut.blk hk (g' := gb541) (o := c7_ 0 0 none 0 0 0 0 none 0 0 0 0) (bd_ BK541.1) NB541_0.1 (by simp)); replace HK := o_ (KeepBut.trans wK_ hk (.inl rfl)); replace HB := o_ (hb); replace HI0 := o_ (hi); (try clear hb hk hi)) | ((with_reducible refine g_ 84 ?_); refine gl_ (some 11) Try.func84 #[.pointer (some ⟨g, 0, none⟩), .int .i64 8] ?_; (with_reducible refine (spec_l1Below.calls g s0_0 t543 t544 8 t545 t546 t547 w0 _ wI_ wB_ A4.1).mono ?_); rintro e w11 ⟨rfl, hi, hb, hk⟩; refine ⟨_, rfl, ?_⟩; replace BK541 := o_ (KeepBut.blk hk (g' := gb541) (o := c7_ 0 0 none 0 0 0 0 none 0 0 0 0) (bd_ BK541.1) NB541_0.1 (by simp)); replace HK := o_ (KeepBut.trans wK_ hk (.inl rfl)); replace HB := o_ (hb); replace HI0 := o_ (hi); (try clear hb hk hi)) | ((with_reducible refine g_ 101 ?_); refine gl_ (some 14) Try.func101 #[.pointer (some ⟨g, 0, none⟩), .int .i64 0, .int .i64 7, .int .i64 3] ?_; (with_reducible refine (spec_l7Some.calls k g s0_0 t546 t547 0 7 3 t548 t551 t552 w0 _ wI_ wB_ A5.1).mono ?_); rintro e w12 ⟨v549, rfl, ho0, hi, hb, hk⟩; refine ⟨_, rfl, ?_⟩; replace BK541 := o_ (KeepBut.blk hk (g' := gb541) (o := c7_ 0 0 none 0 0 0 0 none 0 0 0 0) (bd_ BK541.1) NB541_0.1 (by simp)); have HO550 := o_ (Kd.R_lower ho0 (keep_size (w := w) (g := g) (row := none) wK_)); replace HK := o_ (KeepBut.trans wK_ hk (.inl rfl)); replace HB := o_ (hb); replace HI0 := o_ (hi); (try clear hb hk hi ho0)) | ((with_reducible refine g_ 84 ?_); refine gl_ (some 18) Try.func84 #[.pointer (some ⟨g, 0, none⟩), .int .i64 15] ?_; (with_reducible refine (spec_l1Below.calls g s0_0 t551 t552 15 t553 t554 t555 w0 _ wI_ wB_ A6.1).mono ?_); rintro e w13 ⟨rfl, hi, hb, hk⟩; refine ⟨_, rfl, ?_⟩; replace BK541 := o_ (KeepBut.blk hk (g' := gb541) (o := c7_ 0 0 none 0 0 0 0 none 0 0 0 0) (bd_ BK541.1) NB541_0.1 (by simp)); replace HO550 := o_ (kp_ (show IsS102 w0 _ g s0_0 t551 t552 from wI_) (rd_ HO550.1) hk); replace HK := o_ (KeepBut.trans wK_ hk (.inl rfl)); replace HB := o_ (hb); replace HI0 := o_ (hi); (try clear hb hk hi)) | ((with_reducible refine g_ 101 ?_); refine gl_ (some 21) Try.func101 #[.pointer (some ⟨g, 0, none⟩), .int .i64 1, .int .i64 6, .int .i64 2] ?_; (with_reducible refine (spec_l7Some.calls k g s0_0 t554 t555 1 6 2 t556 t559 t560 w0 _ wI_ wB_ A7.1).mono ?_); rintro e w14 ⟨v557, rfl, ho0, hi, hb, hk⟩; refine ⟨_, rfl, ?_⟩; replace BK541 := o_ (KeepBut.blk hk (g' := gb541) (o := c7_ 0 0 none 0 0 0 0 none 0 0 0 0) (bd_ BK541.1) NB541_0.1 (by simp)); have HO558 := o_ (Kd.R_lower (Kd.R_new' ho0 (Kd.R_lt (rd_ HO550.1))) (keep_size (w := w) (g := g) (row := none) wK_)); replace HO550 := o_ (Kd.R_mono (Kd.R_told (Kd.R_oldK (IsS102.apart (show IsS102 w0 _ g s0_0 t554 t555 from wI_) (rd_ HO550.1) (by decide)) hk) (Kd.R_base ho0)) (fun _ h_ => h_.1)); replace HK := o_ (KeepBut.trans wK_ hk (.inl rfl)); replace HB := o_ (hb); replace HI0 := o_ (hi); (try clear hb hk hi ho0)) | ((with_reducible refine g_ 102 ?_); refine gl_ (some 23) Try.func102 #[.pointer (some ⟨g, 0, none⟩)] ?_; (with_reducible refine (spec_l5Draw.calls g s0_0 t559 t560 t561 t562 t563 t564 w0 _ wI_ wB_ A8.1).mono ?_); rintro e w15 ⟨rfl, hi, hb, hk⟩; refine ⟨_, rfl, ?_⟩; replace BK541 := o_ (KeepBut.blk hk (g' := gb541) (o := c7_ 0 0 none 0 0 0 0 none 0 0 0 0) (bd_ BK541.1) NB541_0.1 (by simp)); replace HO550 := o_ (kp_ (show IsS102 w0 _ g s0_0 t559 t560 from wI_) (rd_ HO550.1) hk); replace HO558 := o_ (kp_ (show IsS102 w0 _ g s0_0 t559 t560 from wI_) (rd_ HO558.1) hk); replace HK := o_ (KeepBut.trans wK_ hk (.inl rfl)); replace HB := o_ (hb); replace HI0 := o_ (hi); (try clear hb hk hi); obtain ⟨Ao16, co16, eo16⟩ := Kd.R_slice HO558.1; subst eo16; obtain ⟨Ao17, co17, eo17⟩ := Kd.R_slice HO550.1; subst eo17; have hnb18 := NB541_0.1; have hnc18 := NB0_541.1; obtain ⟨_, _, _, _, _, _, _, _⟩ := e6_ BK541.1; obtain ⟨_, _, _, _, _, _, _, _⟩ := z5_ BK541.1))
  refine bodyPost_ret (results_cell_row rfl _ _ gb541 41 #[.int .i64 a1, .int .i64 (wrap64 (1 + t545)), .slice Ao17 t548.length co17, .int .i64 (wrap64 (1 + t542)), .int .i64 (wrap64 ((wrap64 (1 + t542)) + t553)), .slice Ao16 t556.length co16, .int .i64 t561, .int .i64 t562] (0, 0) _ rfl (bk_ BK541.1) Try.underlying41 rfl (by kernel_rfl)) rfl ?_
  exact ⟨_, _, rt_, rf_ (R2_ HO550.1 BK541.1) (fun _ hk => hk.1.2), rf_ (R2_ HO558.1 BK541.1) (fun _ hk => hk.1.2), wI_, wB_, wK_⟩

/-! ### spec_l5Any: function 100 -/
def spec_l5Any.f (s0_0 : List Int) (s0_1 : Int) (s0_2 : Int) : Option (Int × Int × Int × Int) := (spec_l5Draw.f s0_0 s0_1 s0_2).bind fun bt566 => ((spec_l1Below.f s0_0 bt566.2.2.1 bt566.2.2.2 10).bind fun bt571 => (if bt571.1 = 0 then ((spec_l4Raw.f s0_0 bt571.2.1 bt571.2.2).bind fun bt574 => (some (bt574.1, bt566.2.1, bt574.2.1, bt574.2.2))) else (if bt571.1 = 1 then ((spec_l1Int.f s0_0 bt571.2.1 bt571.2.2 (([(-1), 0, 100000, 100001] : List Int))).bind fun bt580 => (some (bt566.1, bt580.1, bt580.2.1, bt580.2.2))) else (some (bt566.1, bt566.2.1, bt571.2.1, bt571.2.2)))))
set_option maxHeartbeats 8000000 in
set_option maxRecDepth 100000 in
theorem spec_l5Any.calls (g : Nat) (s0_0 : List Int) (s0_1 : Int) (s0_2 : Int) (r1 : Int) (r2 : Int) (r3 : Int) (r4 : Int) (w0 w : World) (hI : IsS102 w0 w g s0_0 s0_1 s0_2) (hB : Below w0.heap.size w0 w) (h : spec_l5Any.f s0_0 s0_1 s0_2 = some (r1, r2, r3, r4)) :
    Calls Try.prog 100 #[.pointer (some ⟨g, 0, none⟩)] w fun e w' => e = .returned (.agg #[.int .i64 r1, .int .i64 r2]) ∧ IsS102 w0 w' g s0_0 r3 r4 ∧ Below w0.heap.size w0 w' ∧ KeepBut w w' g none := by
  have hu39 := Try.underlying39
  have HI0 := o_ hI
  have HK := o_ (KeepBut.refl w g none)
  have HL := o_ hB.size
  clear hI
  have HW0 := o_ hB.size
  have HB := o_ hB
  clear hB
  have H := h
  unfold spec_l5Any.f at H
  clear h
  obtain ⟨⟨t566, t567, t568, t569⟩, A2, H⟩ := ob_ H
  try dsimp only at H
  obtain ⟨⟨t571, t572, t573⟩, A3, H⟩ := ob_ H
  try dsimp only at H
  by_cases c4 : t571 = 0
  · rw [if_pos c4] at H
    have c4b0 := beq_iff_eq.mpr c4
    have c4b1 := bne_eq_false_iff_eq.mpr c4
    clear c4
    obtain ⟨⟨t574, t575, t576⟩, A5, H⟩ := ob_ H
    try dsimp only at H
    simp only [Option.some.injEq, Prod.mk.injEq] at H
    obtain ⟨rfl, rfl, rfl, rfl⟩ := H
    go_enter Try.func100, Try.ntmps100
    go_wp2_with (first | ((with_reducible refine gate_dst (N := 2) rfl ?_); refine bx_ 2 #[.int .i64 0, .int .i64 0] 39 ?_; intro gb565 hg w6 hbox hb; replace HB := o_ (below_step wB_ hb); have BK565 := o_ (hbox); have GW565 := o_ ((y232_ : w.heap.size ≤ gb565)); have GE565 := o_ ((Nat.le_trans HW0.1 (y232_ : w.heap.size ≤ gb565) : w0.heap.size ≤ gb565)); replace HK := o_ (KeepBut.trans wK_ (KeepBut.of_below hb g none) (.inl rfl)); have NB0_565 := o_ ((y222_ : g ≠ gb565)); have NB565_0 := o_ ((y223_ : gb565 ≠ g)); replace HI0 := o_ (IsS102.below wI_ hb); clear hb hbox hg) | ((with_reducible refine g_ 102 ?_); refine gl_ (some 5) Try.func102 #[.pointer (some ⟨g, 0, none⟩)] ?_; (with_reducible refine (spec_l5Draw.calls g s0_0 s0_1 s0_2 t566 t567 t568 t569 w0 _ wI_ wB_ A2.1).mono ?_); rintro e w7 ⟨rfl, hi, hb, hk⟩; refine ⟨_, rfl, ?_⟩; replace BK565 := o_ (KeepBut.blk hk (g' := gb565) (o := .cells #[.int .i64 0, .int .i64 0] 39 (0, 0)) (bd_ BK565.1) NB565_0.1 (by simp)); replace HK := o_ (KeepBut.trans wK_ hk (.inl rfl)); replace HB := o_ (hb); replace HI0 := o_ (hi); (try clear hb hk hi)) | ((with_reducible refine gate_dst (N := 3) rfl ?_); refine bx_ 3 #[.int .i64 0, .int .i64 0] 39 ?_; intro gb570 hg w8 hbox hb; replace HB := o_ (below_step wB_ hb); have BK570 := o_ (hbox); have GW570 := o_ ((y232_ : w.heap.size ≤ gb570)); have GE570 := o_ ((Nat.le_trans HW0.1 (y232_ : w.heap.size ≤ gb570) : w0.heap.size ≤ gb570)); replace HK := o_ (KeepBut.trans wK_ (KeepBut.of_below hb g none) (.inl rfl)); have NB565_570 := o_ ((y380_ : gb565 ≠ gb570)); have NB570_565 := o_ ((y381_ : gb570 ≠ gb565)); replace BK565 := o_ (blk_below (bd_ BK565.1) hb); have NB0_570 := o_ ((y366_ : g ≠ gb570)); have NB570_0 := o_ ((y367_ : gb570 ≠ g)); replace HI0 := o_ (IsS102.below wI_ hb); clear hb hbox hg; have hnb9 := NB570_565.1; have hnc9 := NB565_570.1; have hnb10 := NB570_0.1; have hnc10 := NB0_570.1; have hcz11_0 : w8.cell? ⟨gb570, 0, none⟩ = some (.int .i64 0) := (blk_cell BK570.1 0).trans rfl; have hcz11_1 : w8.cell? ⟨gb570, 1, none⟩ = some (.int .i64 0) := (blk_cell BK570.1 1).trans rfl; have hfz11_0 := blk_frozen BK570.1 0; have hfz11_1 := blk_frozen BK570.1 1) | ((with_reducible refine g_ 84 ?_); refine gl_ (some 7) Try.func84 #[.pointer (some ⟨g, 0, none⟩), .int .i64 10] ?_; (with_reducible refine (spec_l1Below.calls g s0_0 t568 t569 10 t571 t572 t573 w0 _ wI_ wB_ A3.1).mono ?_); rintro e w12 ⟨rfl, hi, hb, hk⟩; refine ⟨_, rfl, ?_⟩; replace BK565 := o_ (KeepBut.blk hk (g' := gb565) (o := .cells #[.int .i64 0, .int .i64 0] 39 (0, 0)) (bk_ BK565.1) NB565_0.1 (by simp)); replace BK570 := o_ (KeepBut.blk hk (g' := gb570) (o := .cells #[.int .i64 t566, .int .i64 t567] 39 (0, 0)) (bk_ BK570.1) NB570_0.1 (by simp)); replace HK := o_ (KeepBut.trans wK_ hk (.inl rfl)); replace HB := o_ (hb); replace HI0 := o_ (hi); (try clear hb hk hi)) | ((with_reducible refine g_ 98 ?_); refine gl_ (some 11) Try.func98 #[.pointer (some ⟨g, 0, none⟩)] ?_; (with_reducible refine (spec_l4Raw.calls g s0_0 t572 t573 t574 t575 t576 w0 _ wI_ wB_ A5.1).mono ?_); rintro e w13 ⟨rfl, hi, hb, hk⟩; refine ⟨_, rfl, ?_⟩; replace BK565 := o_ (KeepBut.blk hk (g' := gb565) (o := .cells #[.int .i64 0, .int .i64 0] 39 (0, 0)) (bd_ BK565.1) NB565_0.1 (by simp)); replace BK570 := o_ (KeepBut.blk hk (g' := gb570) (o := .cells #[.int .i64 t566, .int .i64 t567] 39 (0, 0)) (bd_ BK570.1) NB570_0.1 (by simp)); replace HK := o_ (KeepBut.trans wK_ hk (.inl rfl)); replace HB := o_ (hb); replace HI0 := o_ (hi); (try clear hb hk hi); have hcz14_0 : w13.cell? ⟨gb570, 0, none⟩ = some (.int .i64 t566) := (blk_cell BK570.1 0).trans rfl; have hcz14_1 : w13.cell? ⟨gb570, 1, none⟩ = some (.int .i64 t567) := (blk_cell BK570.1 1).trans rfl; have hfz14_0 := blk_frozen BK570.1 0; have hfz14_1 := blk_frozen BK570.1 1; have hnb15 := NB565_0.1; have hnc15 := NB0_565.1; have hcz16_0 : w13.cell? ⟨gb565, 0, none⟩ = some (.int .i64 0) := (blk_cell BK565.1 0).trans rfl; have hcz16_1 : w13.cell? ⟨gb565, 1, none⟩ = some (.int .i64 0) := (blk_cell BK565.1 1).trans rfl; have hfz16_0 := blk_frozen BK565.1 0; have hfz16_1 := blk_frozen BK565.1 1))
    refine bodyPost_ret (results_cell_row rfl _ _ gb565 39 #[.int .i64 t574, .int .i64 t567] (0, 0) _ rfl (bk_ BK565.1) Try.underlying39 rfl (by kernel_rfl)) rfl ?_
    exact ⟨rt_, wI_, wB_, wK_⟩
  · rw [if_neg c4] at H
    have c4b0 := beq_eq_false_iff_ne.mpr c4
    have c4b1 := bne_iff_ne.mpr c4
    by_cases c17 : t571 = 1
    · rw [if_pos c17] at H
      have c17b0 := beq_iff_eq.mpr c17
      have c17b1 := bne_eq_false_iff_eq.mpr c17
      clear c17
      obtain ⟨y577, hy577⟩ : ∃ y_ : List Int, y_ = (([(-1), 0, 100000, 100001] : List Int)) := ⟨_, rfl⟩
      replace H : ((spec_l1Int.f s0_0 t572 t573 y577).bind fun bt580 => (some (t566, bt580.1, bt580.2.1, bt580.2.2))) = some (r1, r2, r3, r4) := hy_ H hy577
      have Ny577 := o_ hy577
      clear hy577
      obtain ⟨⟨t580, t581, t582⟩, A18, H⟩ := ob_ H
      try dsimp only at H
      simp only [Option.some.injEq, Prod.mk.injEq] at H
      obtain ⟨rfl, rfl, rfl, rfl⟩ := H
      go_enter Try.func100, Try.ntmps100
      go_wp2_with (first | ((with_reducible refine gate_dst (N := 2) rfl ?_); refine bx_ 2 #[.int .i64 0, .int .i64 0] 39 ?_; intro gb565 hg w19 hbox hb; replace HB := o_ (below_step wB_ hb); have BK565 := o_ (hbox); have GW565 := o_ ((y232_ : w.heap.size ≤ gb565)); have GE565 := o_ ((Nat.le_trans HW0.1 (y232_ : w.heap.size ≤ gb565) : w0.heap.size ≤ gb565)); replace HK := o_ (KeepBut.trans wK_ (KeepBut.of_below hb g none) (.inl rfl)); have NB0_565 := o_ ((y222_ : g ≠ gb565)); have NB565_0 := o_ ((y223_ : gb565 ≠ g)); replace HI0 := o_ (IsS102.below wI_ hb); clear hb hbox hg) | ((with_reducible refine g_ 102 ?_); refine gl_ (some 5) Try.func102 #[.pointer (some ⟨g, 0, none⟩)] ?_; (with_reducible refine (spec_l5Draw.calls g s0_0 s0_1 s0_2 t566 t567 t568 t569 w0 _ wI_ wB_ A2.1).mono ?_); rintro e w20 ⟨rfl, hi, hb, hk⟩; refine ⟨_, rfl, ?_⟩; replace BK565 := o_ (KeepBut.blk hk (g' := gb565) (o := .cells #[.int .i64 0, .int .i64 0] 39 (0, 0)) (bd_ BK565.1) NB565_0.1 (by simp)); replace HK := o_ (KeepBut.trans wK_ hk (.inl rfl)); replace HB := o_ (hb); replace HI0 := o_ (hi); (try clear hb hk hi)) | ((with_reducible refine gate_dst (N := 3) rfl ?_); refine bx_ 3 #[.int .i64 0, .int .i64 0] 39 ?_; intro gb570 hg w21 hbox hb; replace HB := o_ (below_step wB_ hb); have BK570 := o_ (hbox); have GW570 := o_ ((y232_ : w.heap.size ≤ gb570)); have GE570 := o_ ((Nat.le_trans HW0.1 (y232_ : w.heap.size ≤ gb570) : w0.heap.size ≤ gb570)); replace HK := o_ (KeepBut.trans wK_ (KeepBut.of_below hb g none) (.inl rfl)); have NB565_570 := o_ ((y380_ : gb565 ≠ gb570)); have NB570_565 := o_ ((y381_ : gb570 ≠ gb565)); replace BK565 := o_ (blk_below (bd_ BK565.1) hb); have NB0_570 := o_ ((y366_ : g ≠ gb570)); have NB570_0 := o_ ((y367_ : gb570 ≠ g)); replace HI0 := o_ (IsS102.below wI_ hb); clear hb hbox hg; have hnb22 := NB570_565.1; have hnc22 := NB565_570.1; have hnb23 := NB570_0.1; have hnc23 := NB0_570.1; have hcz24_0 : w21.cell? ⟨gb570, 0, none⟩ = some (.int .i64 0) := (blk_cell BK570.1 0).trans rfl; have hcz24_1 : w21.cell? ⟨gb570, 1, none⟩ = some (.int .i64 0) := (blk_cell BK570.1 1).trans rfl; have hfz24_0 := blk_frozen BK570.1 0; have hfz24_1 := blk_frozen BK570.1 1) | ((with_reducible refine g_ 84 ?_); refine gl_ (some 7) Try.func84 #[.pointer (some ⟨g, 0, none⟩), .int .i64 10] ?_; (with_reducible refine (spec_l1Below.calls g s0_0 t568 t569 10 t571 t572 t573 w0 _ wI_ wB_ A3.1).mono ?_); rintro e w25 ⟨rfl, hi, hb, hk⟩; refine ⟨_, rfl, ?_⟩; replace BK565 := o_ (KeepBut.blk hk (g' := gb565) (o := .cells #[.int .i64 0, .int .i64 0] 39 (0, 0)) (bk_ BK565.1) NB565_0.1 (by simp)); replace BK570 := o_ (KeepBut.blk hk (g' := gb570) (o := .cells #[.int .i64 t566, .int .i64 t567] 39 (0, 0)) (bk_ BK570.1) NB570_0.1 (by simp)); replace HK := o_ (KeepBut.trans wK_ hk (.inl rfl)); replace HB := o_ (hb); replace HI0 := o_ (hi); (try clear hb hk hi)) | ((with_reducible refine gate_dst (N := 16) rfl ?_); refine Kd.R_lit (Kd.int .i64) _ 3 ?hg (N := 16) ?hd (xs := ([(-1), 0, 100000, 100001] : List Int)) (inner := [.int .i64 (-1), .int .i64 0, .int .i64 100000, .int .i64 100001]) (ok := fun _ => True) (okp := fun _ => True) ?hr ?hp (fun _ hk => hk) trivial (Below.refl _ _) (Nat.le_refl _) (by simp) ?_; (case hd => rfl); (case hg => rfl); (case hr => first | (go_simp; done) | (go_simp; rfl)); (case hp => exact (Reps.one (show Kd.M (Kd.int .i64) _ _ _ (-1) [.int .i64 (-1)] from rfl) (Reps.one (show Kd.M (Kd.int .i64) _ _ _ 0 [.int .i64 0] from rfl) (Reps.one (show Kd.M (Kd.int .i64) _ _ _ 100000 [.int .i64 100000] from rfl) (Reps.one (show Kd.M (Kd.int .i64) _ _ _ 100001 [.int .i64 100001] from rfl) (Reps.none _ _)))))); intro v578 w26 ho27 hb hg_ hnew_; clear hg_ hnew_; (first | rw [← Ny577.1] at ho27 | (simp only [Int.reduceToNat] at ho27; rw [← Ny577.1] at ho27)); have HO579 := o_ (Kd.R_lower ho27 (keep_size (w := w) (g := g) (row := none) wK_)); replace BK565 := o_ (blk_below (bd_ BK565.1) hb); replace BK570 := o_ (blk_below (bd_ BK570.1) hb); replace HK := o_ (KeepBut.trans wK_ (KeepBut.of_below hb g none) (.inl rfl)); replace HB := o_ (below_step (wB_) hb); replace HI0 := o_ (IsS102.below (wI_) hb); clear hb ho27; obtain ⟨Ao28, co28, eo28⟩ := Kd.R_slice HO579.1; subst eo28) | ((with_reducible refine g_ 85 ?_); refine gl_ (some 17) Try.func85 #[.pointer (some ⟨g, 0, none⟩), .slice Ao28 y577.length co28] ?_; (with_reducible refine (spec_l1Int.calls g s0_0 t572 t573 _ _ y577 t580 t581 t582 w0 _ wI_ wB_ (cd_ (Kd.R_reads' HO579.1).2.2) ((Kd.R_reads' HO579.1).2.1) ?side5 A18.1).mono ?_); (case side5 => exact far_slice (IsS102.own_ne HI0.1 HO579.1 (by decide))); rintro e w29 ⟨rfl, hi, hb, hk⟩; refine ⟨_, rfl, ?_⟩; replace BK565 := o_ (KeepBut.blk hk (g' := gb565) (o := .cells #[.int .i64 0, .int .i64 0] 39 (0, 0)) (bd_ BK565.1) NB565_0.1 (by simp)); replace BK570 := o_ (KeepBut.blk hk (g' := gb570) (o := .cells #[.int .i64 t566, .int .i64 t567] 39 (0, 0)) (bd_ BK570.1) NB570_0.1 (by simp)); replace HO579 := o_ (kp_ (show IsS102 w0 _ g s0_0 t572 t573 from wI_) (rd_ HO579.1) hk); replace HK := o_ (KeepBut.trans wK_ hk (.inl rfl)); replace HB := o_ (hb); replace HI0 := o_ (hi); (try clear hb hk hi); have hcz30_0 : w29.cell? ⟨gb570, 0, none⟩ = some (.int .i64 t566) := (blk_cell BK570.1 0).trans rfl; have hcz30_1 : w29.cell? ⟨gb570, 1, none⟩ = some (.int .i64 t567) := (blk_cell BK570.1 1).trans rfl; have hfz30_0 := blk_frozen BK570.1 0; have hfz30_1 := blk_frozen BK570.1 1; have hnb31 := NB565_0.1; have hnc31 := NB0_565.1; have hcz32_0 : w29.cell? ⟨gb565, 0, none⟩ = some (.int .i64 0) := (blk_cell BK565.1 0).trans rfl; have hcz32_1 : w29.cell? ⟨gb565, 1, none⟩ = some (.int .i64 0) := (blk_cell BK565.1 1).trans rfl; have hfz32_0 := blk_frozen BK565.1 0; have hfz32_1 := blk_frozen BK565.1 1))
      refine bodyPost_ret (results_cell_row rfl _ _ gb565 39 #[.int .i64 t566, .int .i64 t580] (0, 0) _ rfl (bk_ BK565.1) Try.underlying39 rfl (by kernel_rfl)) rfl ?_
      exact ⟨rt_, wI_, wB_, wK_⟩
    · rw [if_neg c17] at H
      have c17b0 := beq_eq_false_iff_ne.mpr c17
      have c17b1 := bne_iff_ne.mpr c17
      simp only [Option.some.injEq, Prod.mk.injEq] at H
      obtain ⟨rfl, rfl, rfl, rfl⟩ := H
      go_enter Try.func100, Try.ntmps100
      go_wp2_with (first | ((with_reducible refine gate_dst (N := 2) rfl ?_); refine bx_ 2 #[.int .i64 0, .int .i64 0] 39 ?_; intro gb565 hg w33 hbox hb; replace HB := o_ (below_step wB_ hb); have BK565 := o_ (hbox); have GW565 := o_ ((y232_ : w.heap.size ≤ gb565)); have GE565 := o_ ((Nat.le_trans HW0.1 (y232_ : w.heap.size ≤ gb565) : w0.heap.size ≤ gb565)); replace HK := o_ (KeepBut.trans wK_ (KeepBut.of_below hb g none) (.inl rfl)); have NB0_565 := o_ ((y222_ : g ≠ gb565)); have NB565_0 := o_ ((y223_ : gb565 ≠ g)); replace HI0 := o_ (IsS102.below wI_ hb); clear hb hbox hg) | ((with_reducible refine g_ 102 ?_); refine gl_ (some 5) Try.func102 #[.pointer (some ⟨g, 0, none⟩)] ?_; (with_reducible refine (spec_l5Draw.calls g s0_0 s0_1 s0_2 t566 t567 t568 t569 w0 _ wI_ wB_ A2.1).mono ?_); rintro e w34 ⟨rfl, hi, hb, hk⟩; refine ⟨_, rfl, ?_⟩; replace BK565 := o_ (KeepBut.blk hk (g' := gb565) (o := .cells #[.int .i64 0, .int .i64 0] 39 (0, 0)) (bd_ BK565.1) NB565_0.1 (by simp)); replace HK := o_ (KeepBut.trans wK_ hk (.inl rfl)); replace HB := o_ (hb); replace HI0 := o_ (hi); (try clear hb hk hi)) | ((with_reducible refine gate_dst (N := 3) rfl ?_); refine bx_ 3 #[.int .i64 0, .int .i64 0] 39 ?_; intro gb570 hg w35 hbox hb; replace HB := o_ (below_step wB_ hb); have BK570 := o_ (hbox); have GW570 := o_ ((y232_ : w.heap.size ≤ gb570)); have GE570 := o_ ((Nat.le_trans HW0.1 (y232_ : w.heap.size ≤ gb570) : w0.heap.size ≤ gb570)); replace HK := o_ (KeepBut.trans wK_ (KeepBut.of_below hb g none) (.inl rfl)); have NB565_570 := o_ ((y380_ : gb565 ≠ gb570)); have NB570_565 := o_ ((y381_ : gb570 ≠ gb565)); replace BK565 := o_ (blk_below (bd_ BK565.1) hb); have NB0_570 := o_ ((y366_ : g ≠ gb570)); have NB570_0 := o_ ((y367_ : gb570 ≠ g)); replace HI0 := o_ (IsS102.below wI_ hb); clear hb hbox hg; have hnb36 := NB570_565.1; have hnc36 := NB565_570.1; have hnb37 := NB570_0.1; have hnc37 := NB0_570.1; have hcz38_0 : w35.cell? ⟨gb570, 0, none⟩ = some (.int .i64 0) := (blk_cell BK570.1 0).trans rfl; have hcz38_1 : w35.cell? ⟨gb570, 1, none⟩ = some (.int .i64 0) := (blk_cell BK570.1 1).trans rfl; have hfz38_0 := blk_frozen BK570.1 0; have hfz38_1 := blk_frozen BK570.1 1) | ((with_reducible refine g_ 84 ?_); refine gl_ (some 7) Try.func84 #[.pointer (some ⟨g, 0, none⟩), .int .i64 10] ?_; (with_reducible refine (spec_l1Below.calls g s0_0 t568 t569 10 t571 t572 t573 w0 _ wI_ wB_ A3.1).mono ?_); rintro e w39 ⟨rfl, hi, hb, hk⟩; refine ⟨_, rfl, ?_⟩; replace BK565 := o_ (KeepBut.blk hk (g' := gb565) (o := .cells #[.int .i64 0, .int .i64 0] 39 (0, 0)) (bk_ BK565.1) NB565_0.1 (by simp)); replace BK570 := o_ (KeepBut.blk hk (g' := gb570) (o := .cells #[.int .i64 t566, .int .i64 t567] 39 (0, 0)) (bk_ BK570.1) NB570_0.1 (by simp)); replace HK := o_ (KeepBut.trans wK_ hk (.inl rfl)); replace HB := o_ (hb); replace HI0 := o_ (hi); (try clear hb hk hi); have hcz40_0 : w39.cell? ⟨gb570, 0, none⟩ = some (.int .i64 t566) := (blk_cell BK570.1 0).trans rfl; have hcz40_1 : w39.cell? ⟨gb570, 1, none⟩ = some (.int .i64 t567) := (blk_cell BK570.1 1).trans rfl; have hfz40_0 := blk_frozen BK570.1 0; have hfz40_1 := blk_frozen BK570.1 1; have hnb41 := NB565_0.1; have hnc41 := NB0_565.1; have hcz42_0 : w39.cell? ⟨gb565, 0, none⟩ = some (.int .i64 0) := (blk_cell BK565.1 0).trans rfl; have hcz42_1 : w39.cell? ⟨gb565, 1, none⟩ = some (.int .i64 0) := (blk_cell BK565.1 1).trans rfl; have hfz42_0 := blk_frozen BK565.1 0; have hfz42_1 := blk_frozen BK565.1 1))
      refine bodyPost_ret (results_cell_row rfl _ _ gb565 39 #[.int .i64 t566, .int .i64 t567] (0, 0) _ rfl (bk_ BK565.1) Try.underlying39 rfl (by kernel_rfl)) rfl ?_
      exact ⟨rt_, wI_, wB_, wK_⟩

end Go.Proofs.Ytglpmjcknhcjcaa.PFnTwins
