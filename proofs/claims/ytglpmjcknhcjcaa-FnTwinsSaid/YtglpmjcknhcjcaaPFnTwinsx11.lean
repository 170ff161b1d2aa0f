-- Written for this claim by a program (a printer turned to this claim); Lean checks it.
import Derived.Test.YtglpmjcknhcjcaaPFnTwinsx0
import Derived.Test.YtglpmjcknhcjcaaPFnTwinsx6
import Derived.Test.YtglpmjcknhcjcaaPFnTwinsx10
namespace Go.Proofs.Ytglpmjcknhcjcaa.PFnTwins
open Go.RowKit Go.Proofs.YtglpmjcknhcjcaaW.PrintWords Go.Proofs.YtglpmjcknhcjcaaW.PrintLast Go.Proofs.YtglpmjcknhcjcaaW.PrintMore
attribute [local go_sem] max2_int min2_int max_two min_two max_three min_three max_four min_four   -- for this text's walks alone
set_option linter.unusedVariables false
set_option linter.unusedSimpArgs false

/-! ### impl_GroupReports: function 28 -/
mutual
def impl_GroupReports.l0 : Nat → List (S41) → List Int → List (S41) → Int → Int → Option (List Int)
 | 0, _, _, _, _, _ => none
 | k + 1, x0, x3, x13, x14, x15 => if x15 < x14 then (if 0 ≤ x15 then (if x15 < (x13.length : Int) then (impl_GroupReports.l1 k x0 x3 ((rd_T41 x13 x15).f0) x13 x14 x15 x15 0 ((rd_T41 x13 x15).f0) ((rd_T41 x13 x15).f1) ((rd_T41 x13 x15).f2) ((rd_T41 x13 x15).f3) ((rd_T41 x13 x15).f4) ((rd_T41 x13 x15).f5) ((rd_T41 x13 x15).f6.f0) ((rd_T41 x13 x15).f6.f1)) else (none)) else (none)) else (some x3)
def impl_GroupReports.l1 : Nat → List (S41) → List Int → Int → List (S41) → Int → Int → Int → Int → Int → Int → List Int → Int → Int → List Int → Int → Int → Option (List Int)
 | 0, _, _, _, _, _, _, _, _, _, _, _, _, _, _, _, _ => none
 | k + 1, x0, x3, x6, x13, x14, x15, x22, x23, x251000, x251001, x251002, x251003, x251004, x251005, x251006, x251007 => if x23 < x22 then (if 0 ≤ x23 then (if x23 < (x3.length : Int) then (if x23 < (x0.length : Int) then (if (rd x3 x23) = ((rd_T41 x0 x23).f0) then ((impl_SameOwner.f k ((rd_T41 x0 x23).f0) ((rd_T41 x0 x23).f1) ((rd_T41 x0 x23).f2) ((rd_T41 x0 x23).f3) ((rd_T41 x0 x23).f4) ((rd_T41 x0 x23).f5) ((rd_T41 x0 x23).f6.f0) ((rd_T41 x0 x23).f6.f1) x251000 x251001 x251002 x251003 x251004 x251005 x251006 x251007).bind fun t254 => (if t254 = true then (if x3.length < 17592186044416 then (impl_GroupReports.l0 k x0 (x3 ++ [(rd_T41 x0 x23).f0]) x13 x14 (wrap64 (x15 + 1))) else (none)) else (impl_GroupReports.l1 k x0 x3 x6 x13 x14 x15 x22 (wrap64 (x23 + 1)) x251000 x251001 x251002 x251003 x251004 x251005 x251006 x251007))) else (impl_GroupReports.l1 k x0 x3 x6 x13 x14 x15 x22 (wrap64 (x23 + 1)) x251000 x251001 x251002 x251003 x251004 x251005 x251006 x251007)) else (none)) else (none)) else (none)) else (if x3.length < 17592186044416 then (impl_GroupReports.l0 k x0 (x3 ++ [x6]) x13 x14 (wrap64 (x15 + 1))) else (none))
end
def impl_GroupReports.f (k : Nat) (l0 : List (S41)) : Option (List Int) := (some (([] : List Int) : List Int)).bind fun y245 => ((impl_AreReports.f k l0).bind fun t248 => (if t248 = true then (impl_GroupReports.l0 k l0 y245 l0 (l0.length : Int) 0) else (some y245)))
theorem impl_GroupReports.mono_l : ∀ k, (∀ y0 y1 y2 y3 y4, LeO (impl_GroupReports.l0 k y0 y1 y2 y3 y4) (impl_GroupReports.l0 (k + 1) y0 y1 y2 y3 y4)) ∧ (∀ y0 y1 y2 y3 y4 y5 y6 y7 y8 y9 y10 y11 y12 y13 y14 y15, LeO (impl_GroupReports.l1 k y0 y1 y2 y3 y4 y5 y6 y7 y8 y9 y10 y11 y12 y13 y14 y15) (impl_GroupReports.l1 (k + 1) y0 y1 y2 y3 y4 y5 y6 y7 y8 y9 y10 y11 y12 y13 y14 y15))
 | 0 => ⟨fun _ _ _ _ _ r h => by simp [impl_GroupReports.l0] at h, fun _ _ _ _ _ _ _ _ _ _ _ _ _ _ _ _ r h => by simp [impl_GroupReports.l1] at h⟩
 | k + 1 => by
  obtain ⟨ih0, ih1⟩ := impl_GroupReports.mono_l k
  refine ⟨?_, ?_⟩
  ·
   intro y0 y1 y2 y3 y4
   unfold impl_GroupReports.l0
   have jh0 := @impl_AreReports.mono
   have jh1 := @impl_SameOwner.mono
   exact mo_
  ·
   intro y0 y1 y2 y3 y4 y5 y6 y7 y8 y9 y10 y11 y12 y13 y14 y15
   unfold impl_GroupReports.l1
   have jh0 := @impl_AreReports.mono
   have jh1 := @impl_SameOwner.mono
   exact mo_
theorem impl_GroupReports.mono : ∀ a0 k, LeO (impl_GroupReports.f k a0) (impl_GroupReports.f (k + 1) a0) := by
 intro a0 k
 obtain ⟨ih0, ih1⟩ := impl_GroupReports.mono_l k
 unfold impl_GroupReports.f
 have jh0 := @impl_AreReports.mono
 have jh1 := @impl_SameOwner.mono
 exact mo_
def impl_GroupReports.T11 : Bool × List (List Nat × List Nat) := (true, [([], []), ([], []), ([0, 1], [0, 1]), ([2], [2]), ([], []), ([], []), ([4, 5], [4, 5]), ([6], [6]), ([7], [7]), ([3, 8], [3, 8]), ([9], [9]), ([10], [10]), ([10], [10]), ([11, 12, 10], [10, 11, 12]), ([13, 10], [10, 13]), ([10], [10]), ([14, 15, 10, 10], [10, 14, 15]), ([10, 16], [10, 16])])
def impl_GroupReports.B11 : List Nat := [0, 0, 3, 7, 0, 0, 48, 112, 240, 511, 1023, 2047, 2047, 8191, 16383, 2047, 65535, 131071]
theorem impl_GroupReports.tab11 : rtab .any (opsOf Try.f28 11) = impl_GroupReports.T11 := by kernel_rfl
theorem impl_GroupReports.bits11 : waitsOk impl_GroupReports.T11.2 impl_GroupReports.B11 = true := by kernel_rfl
abbrev M5_0 := bm_ 18 0
abbrev M5_1 := bm_ 18 1
abbrev M5_2 := bm_ 18 3
abbrev M5_3 := bm_ 18 7
abbrev M5_4 := bm_ 18 23
abbrev M5_5 := bm_ 18 55
abbrev M5_6 := bm_ 18 119
abbrev M5_7 := bm_ 18 247
abbrev M5_8 := bm_ 18 255
abbrev M5_9 := bm_ 18 511
abbrev M5_10 := bm_ 18 1023
abbrev M5_11 := bm_ 18 2047
abbrev M5_12 := bm_ 18 4095
abbrev M5_13 := bm_ 18 8191
abbrev M5_14 := bm_ 18 16383
abbrev M5_15 := bm_ 18 32767
abbrev M5_16 := bm_ 18 65535
abbrev M5_17 := bm_ 18 131071
abbrev M5_18 := bm_ 18 262143
theorem P5_1 {α : Type} (l : List α) (i : Nat) (a : α) : l.toArray.setIfInBounds i a = (l.set i a).toArray := List.setIfInBounds_toArray l i a
theorem P5_2 {α : Type} (x : α) (l : List α) (a : α) : (x :: l).set 0 a = a :: l := List.set_cons_zero
theorem P5_3 {α : Type} (x : α) (l : List α) (n : Nat) (a : α) : (x :: l).set (n + 1) a = x :: l.set n a := List.set_cons_succ
set_option maxHeartbeats 8000000 in
set_option maxRecDepth 100000 in
theorem impl_GroupReports.calls (k : Nat) (A0 : Option Addr) (c0 : Nat) (l0 : List (S41)) (r : List Int) (w : World) (hr0 : Kd.C k41 w A0 l0.length l0) (hc0 : l0.length ≤ c0) (h : impl_GroupReports.f k l0 = some r) :
  Calls Try.prog 28 #[.slice A0 l0.length c0] w fun e w' => ∃ v0_ : Value, e = .returned (v0_) ∧ Kd.R (Kd.int .i64) 3 w' w.heap.size (fun _ => True) v0_ r ∧ Below w.heap.size w w' := by
 have hu41 := Try.underlying41
 have HR0 := o_ hr0
 have HC0 := o_ hc0
 clear hr0 hc0
 have HB := o_ (Below.refl w.heap.size w)
 have H := h
 unfold impl_GroupReports.f at H
 clear h
 obtain ⟨y245, hy245⟩ : ∃ y_ : List Int, y_ = (([] : List Int)) := ⟨_, rfl⟩
 replace H : ((impl_AreReports.f k l0).bind fun t248 => (if t248 = true then (impl_GroupReports.l0 k l0 y245 l0 (l0.length : Int) 0) else (some y245))) = some r := hy_ H hy245
 have Ny245 := o_ hy245
 clear hy245
 obtain ⟨t248, A2, H⟩ := ob_ H
 try dsimp only at H
 have HH_ := o_ H
 clear H
 go_enter Try.func28, Try.ntmps28
 go_upto_region 2 with (first | ((with_reducible refine gate_dst (N := 8) rfl ?_); refine Kd.R_lit (Kd.int .i64) _ 3 ?hg (N := 8) ?hd (xs := ([] : List Int)) (inner := []) (ok := fun _ => True) (okp := fun _ => True) ?hr ?hp (fun _ hk => hk) trivial (Below.refl _ _) (Nat.le_refl _) (by simp) ?_; (case hd => rfl); (case hg => rfl); (case hr => first | (go_simp; done) | (go_simp; rfl)); (case hp => exact (Reps.none _ _)); intro v246 w4 ho5 hb hg_ hnew_; clear hg_ hnew_; (first | rw [← Ny245.1] at ho5 | (simp only [Int.reduceToNat] at ho5; rw [← Ny245.1] at ho5)); have HO247 := o_ (Kd.R_lower ho5 (below_size (hd_ HB.1))); replace HB := o_ (below_step (hd_ HB.1) hb); clear hb ho5))
 have H := HH_.1
 clear HH_
 by_cases c3 : t248 = true
 ·
  subst c3
  have H1 := H
  rw [if_pos rfl] at H1
  clear H
  have H := H1
  clear H1
  have H' := o_ H
  clear H
  go_wp2_with (first | ((with_reducible refine g_ 57 ?_); refine gl_ (some 10) Try.func57 #[.slice A0 l0.length c0] ?_; (with_reducible refine (impl_AreReports.calls k _ _ l0 true _ (cd_ (Kd.C_below HR0.1 HB.1)) HC0.1 A2.1).mono ?_); rintro e w6 ⟨rfl, hb⟩; refine ⟨_, rfl, ?_⟩; replace HO247 := o_ (Kd.R_below (rd_ HO247.1) hb); replace HB := o_ (below_step (hd_ HB.1) hb); (try clear hb)))
  go_loopg [3, 15] k (fun kq v3 v15 w' => ∃ (x3_1 : List Int) (x15_1 : Int), v15 = .int .i64 x15_1 ∧ Aside0 (impl_GroupReports.l0 kq l0 x3_1 l0 (l0.length : Int) x15_1 = some r) ∧ Aside0 (kq ≤ k) ∧ Aside0 (Kd.R (Kd.int .i64) 3 w' w.heap.size (fun _ => True) v3 x3_1) ∧ Aside0 (Below w.heap.size w w'))
  case atStart => exact ⟨(y245), (0), y152_, H', ⟨Nat.le_refl _⟩, ⟨rd_ HO247.1⟩, ⟨hd_ HB.1⟩⟩
  case round =>
   clear H'
   try clear c2
   try clear p2
   try clear c3
   try clear c5
   obtain ⟨x3_1, x15_1, rfl, HA, HK1, HO_3, HB⟩ := hrel
   cases gk with
   | zero => exact absurd HA.1 (by simp [impl_GroupReports.l0])
   | succ k1 =>
    have H := HA.1
    clear HA
    simp only [impl_GroupReports.l0] at H
    by_cases c7 : x15_1 < (l0.length : Int)
    ·
     rw [if_pos c7] at H
     have c7b0 := decide_eq_true c7
     clear c7
     by_cases c8 : 0 ≤ x15_1
     ·
      rw [if_pos c8] at H
      have c8b0 := decide_eq_true c8
      clear c8
      by_cases c9 : x15_1 < (l0.length : Int)
      ·
       rw [if_pos c9] at H
       have c9b0 := decide_eq_true c9
       clear c9
       have H' := o_ H
       clear H
       have p249 : 0 ≤ (x15_1 : Int) := of_decide_eq_true as_
       have q249 : x15_1 < (l0.length : Int) := of_decide_eq_true as_
       obtain ⟨ad249, A249_2, c249_2, A249_5, c249_5, e249, hx249_0, hx249_1, hx249_2, hx249_3, hx249_4, hx249_5, hx249_6, hx249_7, hl249_2, hi249_2, hl249_5, hi249_5⟩ := at_T41 HR0.1 x15_1 p249 q249
       cases e249
       replace hx249_0 := cb_ HB.1 hx249_0
       replace hx249_1 := cb_ HB.1 hx249_1
       replace hx249_2 := cb_ HB.1 hx249_2
       replace hx249_3 := cb_ HB.1 hx249_3
       replace hx249_4 := cb_ HB.1 hx249_4
       replace hx249_5 := cb_ HB.1 hx249_5
       replace hx249_6 := cb_ HB.1 hx249_6
       replace hx249_7 := cb_ HB.1 hx249_7
       have HR249_2 := o_ hi249_2
       have HC249_2 := o_ hl249_2
       clear hi249_2 hl249_2
       have HR249_5 := o_ hi249_5
       have HC249_5 := o_ hl249_5
       clear hi249_5 hl249_5
       replace p249 := eq_true p249
       replace q249 := eq_true q249
       go_wp2_with (first | ((with_reducible refine gate_dst (N := 5) rfl ?_); refine bx_ 5 #[.int .i64 0, .int .i64 0, .slice none 0 0, .int .i64 0, .int .i64 0, .slice none 0 0, .int .i64 0, .int .i64 0] 41 ?_; intro gb250 hg w10 hbox hb; replace HO_3 := o_ (Kd.R_below (rd_ HO_3.1) hb); have BK250 := o_ (hbox); have GW250 := o_ ((by rw [hg]; exact (below_size (hd_ HB.1)) : w.heap.size ≤ gb250)); replace HB := o_ (below_step (hd_ HB.1) hb); have GE250 := GW250; clear hb hbox hg; obtain ⟨_, _, _, _, _, _, _, _⟩ := e6_ BK250.1; obtain ⟨_, _, _, _, _, _, _, _⟩ := z5_ BK250.1))
       go_loopg [6, 23] k1 (fun kq v6 v23 w' => ∃ (x6_2 : Int) (x23_2 : Int), v6 = .int .i64 x6_2 ∧ v23 = .int .i64 x23_2 ∧ Aside0 (impl_GroupReports.l1 kq l0 x3_1 x6_2 l0 (l0.length : Int) x15_1 x15_1 x23_2 ((rd_T41 l0 x15_1).f0) ((rd_T41 l0 x15_1).f1) ((rd_T41 l0 x15_1).f2) ((rd_T41 l0 x15_1).f3) ((rd_T41 l0 x15_1).f4) ((rd_T41 l0 x15_1).f5) ((rd_T41 l0 x15_1).f6.f0) ((rd_T41 l0 x15_1).f6.f1) = some r) ∧ Aside0 (kq ≤ k1) ∧ Aside0 (Kd.R (Kd.int .i64) 3 w' w.heap.size (fun _ => True) u3 x3_1) ∧ Aside0 (w'.heap[gb250]? = some (.cells #[.int .i64 ((rd_T41 l0 x15_1).f0), .int .i64 ((rd_T41 l0 x15_1).f1), (.slice A249_2 ((rd_T41 l0 x15_1).f2).length c249_2), .int .i64 ((rd_T41 l0 x15_1).f3), .int .i64 ((rd_T41 l0 x15_1).f4), (.slice A249_5 ((rd_T41 l0 x15_1).f5).length c249_5), .int .i64 ((rd_T41 l0 x15_1).f6.f0), .int .i64 ((rd_T41 l0 x15_1).f6.f1)] 41 (0, 0))) ∧ Aside0 (Below w.heap.size w w'))
       case atStart => exact ⟨((rd_T41 l0 x15_1).f0), (0), y152_, y152_, H', ⟨Nat.le_refl _⟩, ⟨rf_ (R2_ HO_3.1 BK250.1) (fun _ hk => trivial)⟩, ⟨bk_ BK250.1⟩, ⟨wb_⟩⟩
       case round =>
        clear H'
        try clear c2
        try clear p2
        try clear q2
        try clear hx2
        try clear c3
        try clear c5
        try clear c7
        try clear c7b0
        try clear c8
        try clear c8b0
        try clear c9
        try clear c9b0
        try clear hx249_0
        try clear hx249_1
        try clear hx249_2
        try clear hx249_3
        try clear hx249_4
        try clear hx249_5
        try clear hx249_6
        try clear hx249_7
        try clear p2
        try clear p249
        try clear q249
        obtain ⟨x6_2, x23_2, rfl, rfl, HA, HK2, HO_3, BK250, HB⟩ := hrel
        cases gk with
        | zero => exact absurd HA.1 (by simp [impl_GroupReports.l1])
        | succ k2 =>
         have H := HA.1
         clear HA
         simp only [impl_GroupReports.l1] at H
         by_cases c12 : x23_2 < x15_1
         ·
          rw [if_pos c12] at H
          have c12b0 := decide_eq_true c12
          clear c12
          by_cases c13 : 0 ≤ x23_2
          ·
           rw [if_pos c13] at H
           have c13b0 := decide_eq_true c13
           clear c13
           by_cases c14 : x23_2 < (x3_1.length : Int)
           ·
            rw [if_pos c14] at H
            have c14b0 := decide_eq_true c14
            clear c14
            by_cases c15 : x23_2 < (l0.length : Int)
            ·
             rw [if_pos c15] at H
             have c15b0 := decide_eq_true c15
             clear c15
             by_cases c16 : (rd x3_1 x23_2) = ((rd_T41 l0 x23_2).f0)
             ·
              rw [if_pos c16] at H
              have c16b0 := beq_iff_eq.mpr c16
              have c16b1 := bne_eq_false_iff_eq.mpr c16
              clear c16
              obtain ⟨t254, A17, H⟩ := ob_ H
              try dsimp only at H
              by_cases c18 : t254 = true
              ·
               subst c18
               have H1 := H
               rw [if_pos rfl] at H1
               clear H
               have H := H1
               clear H1
               by_cases c19 : x3_1.length < 17592186044416
               ·
                rw [if_pos c19] at H
                have LMc19 := o_ c19
                clear c19
                obtain ⟨y256, hy256⟩ : ∃ y_ : List Int, y_ = (x3_1 ++ [(rd_T41 l0 x23_2).f0]) := ⟨_, rfl⟩
                replace H : (impl_GroupReports.l0 k2 l0 y256 l0 (l0.length : Int) (wrap64 (x15_1 + 1))) = some r := hy_ H hy256
                have Ny256 := o_ hy256
                clear hy256
                have H' := o_ H
                clear H
                try go_wp2
                replace HO_3 := o_ (Kd.R_drew HO_3.1)
                replace BK250 := o_ (blk_drew BK250.1)
                replace HB := o_ (below_drew1 HB.1)
                obtain ⟨Ao21, co21, eo21⟩ := Kd.R_slice HO_3.1
                (first | subst eo21 | (injection eo21 with f1_ f2_ f3_; have f4_ := f1_.symm; have f5_ := f3_.symm; clear f1_ f2_ f3_; subst f4_; subst f5_))
                have p251 : 0 ≤ (x23_2 : Int) := of_decide_eq_true as_
                have q251 : x23_2 < (x3_1.length : Int) := of_decide_eq_true as_
                obtain ⟨ad251, e251, hx251_0⟩ := Kd.at_int (Kd.R_reads' HO_3.1).2.2 x23_2 p251 q251
                cases e251
                replace p251 := eq_true p251
                replace q251 := eq_true q251
                have p252 : 0 ≤ (x23_2 : Int) := of_decide_eq_true as_
                have q252 : x23_2 < (l0.length : Int) := of_decide_eq_true as_
                obtain ⟨ad252, A252_2, c252_2, A252_5, c252_5, e252, hx252_0, hx252_1, hx252_2, hx252_3, hx252_4, hx252_5, hx252_6, hx252_7, hl252_2, hi252_2, hl252_5, hi252_5⟩ := at_T41 HR0.1 x23_2 p252 q252
                have hw252_7 := hx252_7
                have hw252_6 := hx252_6
                have hw252_5 := hx252_5
                have hw252_4 := hx252_4
                have hw252_3 := hx252_3
                have hw252_2 := hx252_2
                have hw252_1 := hx252_1
                have hw252_0 := hx252_0
                obtain rfl : ad249 = ad252 := (by injection e252)
                replace hx252_0 := cb_ HB.1 hx252_0
                replace hx252_1 := cb_ HB.1 hx252_1
                replace hx252_2 := cb_ HB.1 hx252_2
                replace hx252_3 := cb_ HB.1 hx252_3
                replace hx252_4 := cb_ HB.1 hx252_4
                replace hx252_5 := cb_ HB.1 hx252_5
                replace hx252_6 := cb_ HB.1 hx252_6
                replace hx252_7 := cb_ HB.1 hx252_7
                have HR252_2 := o_ hi252_2
                have HC252_2 := o_ hl252_2
                clear hi252_2 hl252_2
                have HR252_5 := o_ hi252_5
                have HC252_5 := o_ hl252_5
                clear hi252_5 hl252_5
                replace p252 := eq_true p252
                replace q252 := eq_true q252
                have p253 : 0 ≤ (x23_2 : Int) := of_decide_eq_true as_
                have q253 : x23_2 < (l0.length : Int) := of_decide_eq_true as_
                obtain ⟨ad253, A253_2, c253_2, A253_5, c253_5, e253, hx253_0, hx253_1, hx253_2, hx253_3, hx253_4, hx253_5, hx253_6, hx253_7, hl253_2, hi253_2, hl253_5, hi253_5⟩ := at_T41 HR0.1 x23_2 p253 q253
                have hw253_7 := hx253_7
                have hw253_6 := hx253_6
                have hw253_5 := hx253_5
                have hw253_4 := hx253_4
                have hw253_3 := hx253_3
                have hw253_2 := hx253_2
                have hw253_1 := hx253_1
                have hw253_0 := hx253_0
                obtain rfl : ad249 = ad253 := (by injection e253)
                replace hx253_0 := cb_ HB.1 hx253_0
                replace hx253_1 := cb_ HB.1 hx253_1
                replace hx253_2 := cb_ HB.1 hx253_2
                replace hx253_3 := cb_ HB.1 hx253_3
                replace hx253_4 := cb_ HB.1 hx253_4
                replace hx253_5 := cb_ HB.1 hx253_5
                replace hx253_6 := cb_ HB.1 hx253_6
                replace hx253_7 := cb_ HB.1 hx253_7
                have HR253_2 := o_ hi253_2
                have HC253_2 := o_ hl253_2
                clear hi253_2 hl253_2
                have HR253_5 := o_ hi253_5
                have HC253_5 := o_ hl253_5
                clear hi253_5 hl253_5
                replace p253 := eq_true p253
                replace q253 := eq_true q253
                have ea_ := Option.some.inj (hx252_2.symm.trans hx253_2)
                injection ea_ with ea_ en_ ec_
                subst ea_
                subst ec_
                clear en_
                have ea_ := Option.some.inj (hx252_5.symm.trans hx253_5)
                injection ea_ with ea_ en_ ec_
                subst ea_
                subst ec_
                clear en_
                refine start_ (n := 18) (S := fun w' => q1_ w' gb250 ((rd_T41 l0 x15_1).f0) ((rd_T41 l0 x15_1).f1) A249_2 ((rd_T41 l0 x15_1).f2).length c249_2 ((rd_T41 l0 x15_1).f3) ((rd_T41 l0 x15_1).f4) A249_5 ((rd_T41 l0 x15_1).f5).length c249_5 ((rd_T41 l0 x15_1).f6.f0) ((rd_T41 l0 x15_1).f6.f1) (w'.cell? (ad251.add (x23_2).toNat) = some (.int .i64 (rd x3_1 x23_2)) ∧ q2_ w' (ad249.add ((x23_2).toNat * 8)) ((rd_T41 l0 x23_2).f0) ((rd_T41 l0 x23_2).f1) A252_2 ((rd_T41 l0 x23_2).f2).length c252_2 ((rd_T41 l0 x23_2).f3) ((rd_T41 l0 x23_2).f4) A252_5 ((rd_T41 l0 x23_2).f5).length c252_5 ((rd_T41 l0 x23_2).f6.f0) ((rd_T41 l0 x23_2).f6.f1) (q2e_ w' (ad249.add ((x23_2).toNat * 8)) ((rd_T41 l0 x23_2).f0) ((rd_T41 l0 x23_2).f1) A252_2 ((rd_T41 l0 x23_2).f2).length c252_2 ((rd_T41 l0 x23_2).f3) ((rd_T41 l0 x23_2).f4) A252_5 ((rd_T41 l0 x23_2).f5).length c252_5 ((rd_T41 l0 x23_2).f6.f0) ((rd_T41 l0 x23_2).f6.f1)))) (ds := []) M5_0 (by kernel_rfl) rfl rfl ⟨(blk_cell BK250.1 0).trans rfl, (blk_cell BK250.1 1).trans rfl, (blk_cell BK250.1 2).trans rfl, (blk_cell BK250.1 3).trans rfl, (blk_cell BK250.1 4).trans rfl, (blk_cell BK250.1 5).trans rfl, (blk_cell BK250.1 6).trans rfl, (blk_cell BK250.1 7).trans rfl, hx251_0, (cb_ HB.1 hw252_0), (cb_ HB.1 hw252_1), (cb_ HB.1 hw252_2), (cb_ HB.1 hw252_3), (cb_ HB.1 hw252_4), (cb_ HB.1 hw252_5), (cb_ HB.1 hw252_6), (cb_ HB.1 hw252_7), (cb_ HB.1 hw253_0), (cb_ HB.1 hw253_1), (cb_ HB.1 hw253_2), (cb_ HB.1 hw253_3), (cb_ HB.1 hw253_4), (cb_ HB.1 hw253_5), (cb_ HB.1 hw253_6), (cb_ HB.1 hw253_7)⟩ (fun hHeld => ?_); refine with_tabW impl_GroupReports.tab11 impl_GroupReports.bits11 (fun HT_ HW_ => ?_)
                generalize wr.drew = w20 at HO_3 BK250 HB HR252_2 HR252_5 HR253_2 HR253_5 hx251_0 hx252_0 hx252_1 hx252_2 hx252_3 hx252_4 hx252_5 hx252_6 hx252_7 hx253_0 hx253_1 hx253_2 hx253_3 hx253_4 hx253_5 hx253_6 hx253_7 hHeld ⊢
                refine pu_ 0 (some 26) M5_1 HT_ ?_
                refine pu_ 1 (some 27) M5_2 HT_ ?_
                refine pu_ 2 (some 28) M5_3 HT_ ?_
                refine pu_ 4 (some 30) M5_4 HT_ ?_
                refine pu_ 5 (some 31) M5_5 HT_ ?_
                refine pu_ 6 (some 32) M5_6 HT_ ?_
                refine pu_ 7 (some 33) M5_7 HT_ ?_
                refine tk_ 3 (some 29) M5_8 HT_ HW_ hHeld ?_
                refine tk_ 8 (some 34) M5_9 HT_ HW_ hHeld ?_
                refine pu_ 9 (some 35) M5_10 HT_ ?_
                refine pu_ 10 (some 36) M5_11 HT_ ?_
                refine pu_ 11 (some 37) M5_12 HT_ ?_
                refine pu_ 12 (some 38) M5_13 HT_ ?_
                refine pu_ 13 (some 39) M5_14 HT_ ?_
                refine tk_ 14 (some 40) M5_15 HT_ HW_ hHeld ?_
                refine tk_ 15 (some 41) M5_16 HT_ HW_ hHeld ?_
                refine one_ (i := 16) (N := some 42) M5_17 rfl rfl (one_of HT_.1 (by kernel_rfl)) (by decide) (fun K hK => ?_)
                refine goes_ Try.func20 (by kernel_rfl) rfl #[.agg #[.int .i64 ((rd_T41 l0 x23_2).f0), .int .i64 ((rd_T41 l0 x23_2).f1), .slice A252_2 ((rd_T41 l0 x23_2).f2).length c252_2, .int .i64 ((rd_T41 l0 x23_2).f3), .int .i64 ((rd_T41 l0 x23_2).f4), .slice A252_5 ((rd_T41 l0 x23_2).f5).length c252_5, .int .i64 ((rd_T41 l0 x23_2).f6.f0), .int .i64 ((rd_T41 l0 x23_2).f6.f1)], .agg #[.int .i64 ((rd_T41 l0 x15_1).f0), .int .i64 ((rd_T41 l0 x15_1).f1), .slice A249_2 ((rd_T41 l0 x15_1).f2).length c249_2, .int .i64 ((rd_T41 l0 x15_1).f3), .int .i64 ((rd_T41 l0 x15_1).f4), .slice A249_5 ((rd_T41 l0 x15_1).f5).length c249_5, .int .i64 ((rd_T41 l0 x15_1).f6.f0), .int .i64 ((rd_T41 l0 x15_1).f6.f1)]] (by rfl) rfl rfl ma_ ?_
                with_reducible refine (impl_SameOwner.calls k2 ((rd_T41 l0 x23_2).f0) ((rd_T41 l0 x23_2).f1) _ _ ((rd_T41 l0 x23_2).f2) ((rd_T41 l0 x23_2).f3) ((rd_T41 l0 x23_2).f4) _ _ ((rd_T41 l0 x23_2).f5) ((rd_T41 l0 x23_2).f6.f0) ((rd_T41 l0 x23_2).f6.f1) ((rd_T41 l0 x15_1).f0) ((rd_T41 l0 x15_1).f1) _ _ ((rd_T41 l0 x15_1).f2) ((rd_T41 l0 x15_1).f3) ((rd_T41 l0 x15_1).f4) _ _ ((rd_T41 l0 x15_1).f5) ((rd_T41 l0 x15_1).f6.f0) ((rd_T41 l0 x15_1).f6.f1) true _ ?side1 ?side2 ?side3 ?side4 ?side5 ?side6 ?side7 ?side8 A17.1).mono ?_
                (case side1 => exact cd_ (Kd.C_below HR253_2.1 HB.1))
                (case side2 => exact HC253_2.1)
                (case side3 => exact cd_ (Kd.C_below HR253_5.1 HB.1))
                (case side4 => exact HC253_5.1)
                (case side5 => exact cd_ (Kd.C_below HR249_2.1 HB.1))
                (case side6 => exact HC249_2.1)
                (case side7 => exact cd_ (Kd.C_below HR249_5.1 HB.1))
                (case side8 => exact HC249_5.1)
                rintro e w22 ⟨rfl, hb⟩
                have HS8_ := (hb.cell (World.block_lt_of_cell? _ _ (hHeld.2.2.2.2.2.2.2.2.1))).trans (hHeld.2.2.2.2.2.2.2.2.1)
                refine ⟨_, rfl, ?_⟩
                replace HO_3 := o_ (Kd.R_below (rd_ HO_3.1) hb)
                replace BK250 := o_ (blk_below (bd_ BK250.1) hb)
                replace HB := o_ (below_step wb_ hb)
                (try clear hb)
                (try clear hb2)
                (try clear hk)
                (try clear hi)
                refine hK.out _ _ ⟨(blk_cell BK250.1 0).trans rfl, (blk_cell BK250.1 1).trans rfl, (blk_cell BK250.1 2).trans rfl, (blk_cell BK250.1 3).trans rfl, (blk_cell BK250.1 4).trans rfl, (blk_cell BK250.1 5).trans rfl, (blk_cell BK250.1 6).trans rfl, (blk_cell BK250.1 7).trans rfl, HS8_, (cb_ HB.1 hw252_0), (cb_ HB.1 hw252_1), (cb_ HB.1 hw252_2), (cb_ HB.1 hw252_3), (cb_ HB.1 hw252_4), (cb_ HB.1 hw252_5), (cb_ HB.1 hw252_6), (cb_ HB.1 hw252_7), (cb_ HB.1 hw253_0), (cb_ HB.1 hw253_1), (cb_ HB.1 hw253_2), (cb_ HB.1 hw253_3), (cb_ HB.1 hw253_4), (cb_ HB.1 hw253_5), (cb_ HB.1 hw253_6), (cb_ HB.1 hw253_7)⟩ (fun hHeld => ?_)
                clear hK K
                refine norm_ (a' := ?_) ?_ ?_
                rotate_left
                ·
                 show Act.put _ (some 42) _ = _
                 simp only [Act.put, P5_1, P5_2, P5_3, i64_w, i32_w]
                 rfl
                refine pu_ 17 (some 43) M5_18 HT_ ?_
                refine done_ (done_of HT_.1 (by kernel_rfl)) ?_
                have p255 : 0 ≤ (x23_2 : Int) := of_decide_eq_true as_
                have q255 : x23_2 < (l0.length : Int) := of_decide_eq_true as_
                obtain ⟨ad255, A255_2, c255_2, A255_5, c255_5, e255, hx255_0, hx255_1, hx255_2, hx255_3, hx255_4, hx255_5, hx255_6, hx255_7, hl255_2, hi255_2, hl255_5, hi255_5⟩ := at_T41 HR0.1 x23_2 p255 q255
                obtain rfl : ad249 = ad255 := (by injection e255)
                replace hx255_0 := cb_ HB.1 hx255_0
                replace hx255_1 := cb_ HB.1 hx255_1
                replace hx255_2 := cb_ HB.1 hx255_2
                replace hx255_3 := cb_ HB.1 hx255_3
                replace hx255_4 := cb_ HB.1 hx255_4
                replace hx255_5 := cb_ HB.1 hx255_5
                replace hx255_6 := cb_ HB.1 hx255_6
                replace hx255_7 := cb_ HB.1 hx255_7
                have HR255_2 := o_ hi255_2
                have HC255_2 := o_ hl255_2
                clear hi255_2 hl255_2
                have HR255_5 := o_ hi255_5
                have HC255_5 := o_ hl255_5
                clear hi255_5 hl255_5
                replace p255 := eq_true p255
                replace q255 := eq_true q255
                try go_wp2_with (first | ((with_reducible refine gate_builtin (b := .append) (xs := #[.tmp 50, .tmp 52]) rfl ?_); at_builtin; refine Kd.R_append (Kd.int .i64) (w0 := w) w.heap.size rfl (.tmp 50) (.tmp 52) 24 3 (.int .i64 0) 8 rfl Try.underlying24 info3 rfl (by decide) (by omega) (.slice (some ad251) x3_1.length co21) x3_1 ((rd_T41 l0 x23_2).f0) [.int .i64 ((rd_T41 l0 x23_2).f0)] (fun _ => True) (fun _ => False) rfl rfl ?aP (fun _ hk => hk.elim) ?aF ?aO ?aB ?aS ?aL ?_; (case aP => exact rfl); (case aB => exact wb_); (case aF => exact (fun _ _ => trivial)); (case aO => exact rd_ HO_3.1); (case aS => exact (below_size wb_)); (case aL => have := LMc19.1; omega); intro v257 w23 ho hb hg hat; rw [← Ny256.1] at ho; replace BK250 := o_ (blk_grown (g := gb250) (o := c7_ ((rd_T41 l0 x15_1).f0) ((rd_T41 l0 x15_1).f1) A249_2 ((rd_T41 l0 x15_1).f2).length c249_2 ((rd_T41 l0 x15_1).f3) ((rd_T41 l0 x15_1).f4) A249_5 ((rd_T41 l0 x15_1).f5).length c249_5 ((rd_T41 l0 x15_1).f6.f0) ((rd_T41 l0 x15_1).f6.f1)) (bd_ BK250.1) hg (Kd.R_ne HO_3.1 BK250.1 (by decide))); replace HB := o_ (hb); have HO258 := o_ (ho); clear HO_3 ho hb hg hat))
                go_roundg k2
                case measure => have := HK1.1; have := HK2.1; omega
                case rel => exact ⟨(y256), (wrap64 (x15_1 + 1)), y152_, H', ⟨by have := HK1.1; have := HK2.1; omega⟩, ⟨rd_ HO258.1⟩, ⟨wb_⟩⟩
               ·
                rw [if_neg c19] at H
                exact absurd H (by simp)
              ·
               replace c18 := Bool.eq_false_iff.mpr c18
               subst c18
               have H1 := H
               rw [if_neg nt_] at H1
               clear H
               have H := H1
               clear H1
               have H' := o_ H
               clear H
               try go_wp2
               replace HO_3 := o_ (Kd.R_drew HO_3.1)
               replace BK250 := o_ (blk_drew BK250.1)
               replace HB := o_ (below_drew1 HB.1)
               obtain ⟨Ao25, co25, eo25⟩ := Kd.R_slice HO_3.1
               (first | subst eo25 | (injection eo25 with f1_ f2_ f3_; have f4_ := f1_.symm; have f5_ := f3_.symm; clear f1_ f2_ f3_; subst f4_; subst f5_))
               have p251 : 0 ≤ (x23_2 : Int) := of_decide_eq_true as_
               have q251 : x23_2 < (x3_1.length : Int) := of_decide_eq_true as_
               obtain ⟨ad251, e251, hx251_0⟩ := Kd.at_int (Kd.R_reads' HO_3.1).2.2 x23_2 p251 q251
               cases e251
               replace p251 := eq_true p251
               replace q251 := eq_true q251
               have p252 : 0 ≤ (x23_2 : Int) := of_decide_eq_true as_
               have q252 : x23_2 < (l0.length : Int) := of_decide_eq_true as_
               obtain ⟨ad252, A252_2, c252_2, A252_5, c252_5, e252, hx252_0, hx252_1, hx252_2, hx252_3, hx252_4, hx252_5, hx252_6, hx252_7, hl252_2, hi252_2, hl252_5, hi252_5⟩ := at_T41 HR0.1 x23_2 p252 q252
               have hw252_7 := hx252_7
               have hw252_6 := hx252_6
               have hw252_5 := hx252_5
               have hw252_4 := hx252_4
               have hw252_3 := hx252_3
               have hw252_2 := hx252_2
               have hw252_1 := hx252_1
               have hw252_0 := hx252_0
               obtain rfl : ad249 = ad252 := (by injection e252)
               replace hx252_0 := cb_ HB.1 hx252_0
               replace hx252_1 := cb_ HB.1 hx252_1
               replace hx252_2 := cb_ HB.1 hx252_2
               replace hx252_3 := cb_ HB.1 hx252_3
               replace hx252_4 := cb_ HB.1 hx252_4
               replace hx252_5 := cb_ HB.1 hx252_5
               replace hx252_6 := cb_ HB.1 hx252_6
               replace hx252_7 := cb_ HB.1 hx252_7
               have HR252_2 := o_ hi252_2
               have HC252_2 := o_ hl252_2
               clear hi252_2 hl252_2
               have HR252_5 := o_ hi252_5
               have HC252_5 := o_ hl252_5
               clear hi252_5 hl252_5
               replace p252 := eq_true p252
               replace q252 := eq_true q252
               have p253 : 0 ≤ (x23_2 : Int) := of_decide_eq_true as_
               have q253 : x23_2 < (l0.length : Int) := of_decide_eq_true as_
               obtain ⟨ad253, A253_2, c253_2, A253_5, c253_5, e253, hx253_0, hx253_1, hx253_2, hx253_3, hx253_4, hx253_5, hx253_6, hx253_7, hl253_2, hi253_2, hl253_5, hi253_5⟩ := at_T41 HR0.1 x23_2 p253 q253
               have hw253_7 := hx253_7
               have hw253_6 := hx253_6
               have hw253_5 := hx253_5
               have hw253_4 := hx253_4
               have hw253_3 := hx253_3
               have hw253_2 := hx253_2
               have hw253_1 := hx253_1
               have hw253_0 := hx253_0
               obtain rfl : ad249 = ad253 := (by injection e253)
               replace hx253_0 := cb_ HB.1 hx253_0
               replace hx253_1 := cb_ HB.1 hx253_1
               replace hx253_2 := cb_ HB.1 hx253_2
               replace hx253_3 := cb_ HB.1 hx253_3
               replace hx253_4 := cb_ HB.1 hx253_4
               replace hx253_5 := cb_ HB.1 hx253_5
               replace hx253_6 := cb_ HB.1 hx253_6
               replace hx253_7 := cb_ HB.1 hx253_7
               have HR253_2 := o_ hi253_2
               have HC253_2 := o_ hl253_2
               clear hi253_2 hl253_2
               have HR253_5 := o_ hi253_5
               have HC253_5 := o_ hl253_5
               clear hi253_5 hl253_5
               replace p253 := eq_true p253
               replace q253 := eq_true q253
               have ea_ := Option.some.inj (hx252_2.symm.trans hx253_2)
               injection ea_ with ea_ en_ ec_
               subst ea_
               subst ec_
               clear en_
               have ea_ := Option.some.inj (hx252_5.symm.trans hx253_5)
               injection ea_ with ea_ en_ ec_
               subst ea_
               subst ec_
               clear en_
               refine start_ (n := 18) (S := fun w' => q1_ w' gb250 ((rd_T41 l0 x15_1).f0) ((rd_T41 l0 x15_1).f1) A249_2 ((rd_T41 l0 x15_1).f2).length c249_2 ((rd_T41 l0 x15_1).f3) ((rd_T41 l0 x15_1).f4) A249_5 ((rd_T41 l0 x15_1).f5).length c249_5 ((rd_T41 l0 x15_1).f6.f0) ((rd_T41 l0 x15_1).f6.f1) (w'.cell? (ad251.add (x23_2).toNat) = some (.int .i64 (rd x3_1 x23_2)) ∧ q2_ w' (ad249.add ((x23_2).toNat * 8)) ((rd_T41 l0 x23_2).f0) ((rd_T41 l0 x23_2).f1) A252_2 ((rd_T41 l0 x23_2).f2).length c252_2 ((rd_T41 l0 x23_2).f3) ((rd_T41 l0 x23_2).f4) A252_5 ((rd_T41 l0 x23_2).f5).length c252_5 ((rd_T41 l0 x23_2).f6.f0) ((rd_T41 l0 x23_2).f6.f1) (q2e_ w' (ad249.add ((x23_2).toNat * 8)) ((rd_T41 l0 x23_2).f0) ((rd_T41 l0 x23_2).f1) A252_2 ((rd_T41 l0 x23_2).f2).length c252_2 ((rd_T41 l0 x23_2).f3) ((rd_T41 l0 x23_2).f4) A252_5 ((rd_T41 l0 x23_2).f5).length c252_5 ((rd_T41 l0 x23_2).f6.f0) ((rd_T41 l0 x23_2).f6.f1)))) (ds := []) M5_0 (by kernel_rfl) rfl rfl ⟨(blk_cell BK250.1 0).trans rfl, (blk_cell BK250.1 1).trans rfl, (blk_cell BK250.1 2).trans rfl, (blk_cell BK250.1 3).trans rfl, (blk_cell BK250.1 4).trans rfl, (blk_cell BK250.1 5).trans rfl, (blk_cell BK250.1 6).trans rfl, (blk_cell BK250.1 7).trans rfl, hx251_0, (cb_ HB.1 hw252_0), (cb_ HB.1 hw252_1), (cb_ HB.1 hw252_2), (cb_ HB.1 hw252_3), (cb_ HB.1 hw252_4), (cb_ HB.1 hw252_5), (cb_ HB.1 hw252_6), (cb_ HB.1 hw252_7), (cb_ HB.1 hw253_0), (cb_ HB.1 hw253_1), (cb_ HB.1 hw253_2), (cb_ HB.1 hw253_3), (cb_ HB.1 hw253_4), (cb_ HB.1 hw253_5), (cb_ HB.1 hw253_6), (cb_ HB.1 hw253_7)⟩ (fun hHeld => ?_); refine with_tabW impl_GroupReports.tab11 impl_GroupReports.bits11 (fun HT_ HW_ => ?_)
               generalize wr.drew = w24 at HO_3 BK250 HB HR252_2 HR252_5 HR253_2 HR253_5 hx251_0 hx252_0 hx252_1 hx252_2 hx252_3 hx252_4 hx252_5 hx252_6 hx252_7 hx253_0 hx253_1 hx253_2 hx253_3 hx253_4 hx253_5 hx253_6 hx253_7 hHeld ⊢
               refine pu_ 0 (some 26) M5_1 HT_ ?_
               refine pu_ 1 (some 27) M5_2 HT_ ?_
               refine pu_ 2 (some 28) M5_3 HT_ ?_
               refine pu_ 4 (some 30) M5_4 HT_ ?_
               refine pu_ 5 (some 31) M5_5 HT_ ?_
               refine pu_ 6 (some 32) M5_6 HT_ ?_
               refine pu_ 7 (some 33) M5_7 HT_ ?_
               refine tk_ 3 (some 29) M5_8 HT_ HW_ hHeld ?_
               refine tk_ 8 (some 34) M5_9 HT_ HW_ hHeld ?_
               refine pu_ 9 (some 35) M5_10 HT_ ?_
               refine pu_ 10 (some 36) M5_11 HT_ ?_
               refine pu_ 11 (some 37) M5_12 HT_ ?_
               refine pu_ 12 (some 38) M5_13 HT_ ?_
               refine pu_ 13 (some 39) M5_14 HT_ ?_
               refine tk_ 14 (some 40) M5_15 HT_ HW_ hHeld ?_
               refine tk_ 15 (some 41) M5_16 HT_ HW_ hHeld ?_
               refine one_ (i := 16) (N := some 42) M5_17 rfl rfl (one_of HT_.1 (by kernel_rfl)) (by decide) (fun K hK => ?_)
               refine goes_ Try.func20 (by kernel_rfl) rfl #[.agg #[.int .i64 ((rd_T41 l0 x23_2).f0), .int .i64 ((rd_T41 l0 x23_2).f1), .slice A252_2 ((rd_T41 l0 x23_2).f2).length c252_2, .int .i64 ((rd_T41 l0 x23_2).f3), .int .i64 ((rd_T41 l0 x23_2).f4), .slice A252_5 ((rd_T41 l0 x23_2).f5).length c252_5, .int .i64 ((rd_T41 l0 x23_2).f6.f0), .int .i64 ((rd_T41 l0 x23_2).f6.f1)], .agg #[.int .i64 ((rd_T41 l0 x15_1).f0), .int .i64 ((rd_T41 l0 x15_1).f1), .slice A249_2 ((rd_T41 l0 x15_1).f2).length c249_2, .int .i64 ((rd_T41 l0 x15_1).f3), .int .i64 ((rd_T41 l0 x15_1).f4), .slice A249_5 ((rd_T41 l0 x15_1).f5).length c249_5, .int .i64 ((rd_T41 l0 x15_1).f6.f0), .int .i64 ((rd_T41 l0 x15_1).f6.f1)]] (by rfl) rfl rfl ma_ ?_
               with_reducible refine (impl_SameOwner.calls k2 ((rd_T41 l0 x23_2).f0) ((rd_T41 l0 x23_2).f1) _ _ ((rd_T41 l0 x23_2).f2) ((rd_T41 l0 x23_2).f3) ((rd_T41 l0 x23_2).f4) _ _ ((rd_T41 l0 x23_2).f5) ((rd_T41 l0 x23_2).f6.f0) ((rd_T41 l0 x23_2).f6.f1) ((rd_T41 l0 x15_1).f0) ((rd_T41 l0 x15_1).f1) _ _ ((rd_T41 l0 x15_1).f2) ((rd_T41 l0 x15_1).f3) ((rd_T41 l0 x15_1).f4) _ _ ((rd_T41 l0 x15_1).f5) ((rd_T41 l0 x15_1).f6.f0) ((rd_T41 l0 x15_1).f6.f1) false _ ?side1 ?side2 ?side3 ?side4 ?side5 ?side6 ?side7 ?side8 A17.1).mono ?_
               (case side1 => exact cd_ (Kd.C_below HR253_2.1 HB.1))
               (case side2 => exact HC253_2.1)
               (case side3 => exact cd_ (Kd.C_below HR253_5.1 HB.1))
               (case side4 => exact HC253_5.1)
               (case side5 => exact cd_ (Kd.C_below HR249_2.1 HB.1))
               (case side6 => exact HC249_2.1)
               (case side7 => exact cd_ (Kd.C_below HR249_5.1 HB.1))
               (case side8 => exact HC249_5.1)
               rintro e w26 ⟨rfl, hb⟩
               have HS8_ := (hb.cell (World.block_lt_of_cell? _ _ (hHeld.2.2.2.2.2.2.2.2.1))).trans (hHeld.2.2.2.2.2.2.2.2.1)
               refine ⟨_, rfl, ?_⟩
               replace HO_3 := o_ (Kd.R_below (rd_ HO_3.1) hb)
               replace BK250 := o_ (blk_below (bd_ BK250.1) hb)
               replace HB := o_ (below_step wb_ hb)
               (try clear hb)
               (try clear hb2)
               (try clear hk)
               (try clear hi)
               refine hK.out _ _ ⟨(blk_cell BK250.1 0).trans rfl, (blk_cell BK250.1 1).trans rfl, (blk_cell BK250.1 2).trans rfl, (blk_cell BK250.1 3).trans rfl, (blk_cell BK250.1 4).trans rfl, (blk_cell BK250.1 5).trans rfl, (blk_cell BK250.1 6).trans rfl, (blk_cell BK250.1 7).trans rfl, HS8_, (cb_ HB.1 hw252_0), (cb_ HB.1 hw252_1), (cb_ HB.1 hw252_2), (cb_ HB.1 hw252_3), (cb_ HB.1 hw252_4), (cb_ HB.1 hw252_5), (cb_ HB.1 hw252_6), (cb_ HB.1 hw252_7), (cb_ HB.1 hw253_0), (cb_ HB.1 hw253_1), (cb_ HB.1 hw253_2), (cb_ HB.1 hw253_3), (cb_ HB.1 hw253_4), (cb_ HB.1 hw253_5), (cb_ HB.1 hw253_6), (cb_ HB.1 hw253_7)⟩ (fun hHeld => ?_)
               clear hK K
               refine norm_ (a' := ?_) ?_ ?_
               rotate_left
               ·
                show Act.put _ (some 42) _ = _
                simp only [Act.put, P5_1, P5_2, P5_3, i64_w, i32_w]
                rfl
               refine pu_ 17 (some 43) M5_18 HT_ ?_
               refine done_ (done_of HT_.1 (by kernel_rfl)) ?_
               try go_wp2
               go_roundg k2
               case measure => have := HK1.1; have := HK2.1; omega
               case rel => exact ⟨(x6_2), (wrap64 (x23_2 + 1)), y152_, y152_, H', ⟨by have := HK1.1; have := HK2.1; omega⟩, ⟨rd_ HO_3.1⟩, ⟨bd_ BK250.1⟩, ⟨wb_⟩⟩
             ·
              rw [if_neg c16] at H
              have c16b0 := beq_eq_false_iff_ne.mpr c16
              have c16b1 := bne_iff_ne.mpr c16
              have H' := o_ H
              clear H
              try go_wp2
              replace HO_3 := o_ (Kd.R_drew HO_3.1)
              replace BK250 := o_ (blk_drew BK250.1)
              replace HB := o_ (below_drew1 HB.1)
              obtain ⟨Ao28, co28, eo28⟩ := Kd.R_slice HO_3.1
              (first | subst eo28 | (injection eo28 with f1_ f2_ f3_; have f4_ := f1_.symm; have f5_ := f3_.symm; clear f1_ f2_ f3_; subst f4_; subst f5_))
              have p251 : 0 ≤ (x23_2 : Int) := of_decide_eq_true as_
              have q251 : x23_2 < (x3_1.length : Int) := of_decide_eq_true as_
              obtain ⟨ad251, e251, hx251_0⟩ := Kd.at_int (Kd.R_reads' HO_3.1).2.2 x23_2 p251 q251
              cases e251
              replace p251 := eq_true p251
              replace q251 := eq_true q251
              have p252 : 0 ≤ (x23_2 : Int) := of_decide_eq_true as_
              have q252 : x23_2 < (l0.length : Int) := of_decide_eq_true as_
              obtain ⟨ad252, A252_2, c252_2, A252_5, c252_5, e252, hx252_0, hx252_1, hx252_2, hx252_3, hx252_4, hx252_5, hx252_6, hx252_7, hl252_2, hi252_2, hl252_5, hi252_5⟩ := at_T41 HR0.1 x23_2 p252 q252
              have hw252_7 := hx252_7
              have hw252_6 := hx252_6
              have hw252_5 := hx252_5
              have hw252_4 := hx252_4
              have hw252_3 := hx252_3
              have hw252_2 := hx252_2
              have hw252_1 := hx252_1
              have hw252_0 := hx252_0
              obtain rfl : ad249 = ad252 := (by injection e252)
              replace hx252_0 := cb_ HB.1 hx252_0
              replace hx252_1 := cb_ HB.1 hx252_1
              replace hx252_2 := cb_ HB.1 hx252_2
              replace hx252_3 := cb_ HB.1 hx252_3
              replace hx252_4 := cb_ HB.1 hx252_4
              replace hx252_5 := cb_ HB.1 hx252_5
              replace hx252_6 := cb_ HB.1 hx252_6
              replace hx252_7 := cb_ HB.1 hx252_7
              have HR252_2 := o_ hi252_2
              have HC252_2 := o_ hl252_2
              clear hi252_2 hl252_2
              have HR252_5 := o_ hi252_5
              have HC252_5 := o_ hl252_5
              clear hi252_5 hl252_5
              replace p252 := eq_true p252
              replace q252 := eq_true q252
              refine start_ (n := 18) (S := fun w' => w'.cell? (ad251.add (x23_2).toNat) = some (.int .i64 (rd x3_1 x23_2)) ∧ q2e_ w' (ad249.add ((x23_2).toNat * 8)) ((rd_T41 l0 x23_2).f0) ((rd_T41 l0 x23_2).f1) A252_2 ((rd_T41 l0 x23_2).f2).length c252_2 ((rd_T41 l0 x23_2).f3) ((rd_T41 l0 x23_2).f4) A252_5 ((rd_T41 l0 x23_2).f5).length c252_5 ((rd_T41 l0 x23_2).f6.f0) ((rd_T41 l0 x23_2).f6.f1)) (ds := []) M5_0 (by kernel_rfl) rfl rfl ⟨hx251_0, (cb_ HB.1 hw252_0), (cb_ HB.1 hw252_1), (cb_ HB.1 hw252_2), (cb_ HB.1 hw252_3), (cb_ HB.1 hw252_4), (cb_ HB.1 hw252_5), (cb_ HB.1 hw252_6), (cb_ HB.1 hw252_7)⟩ (fun hHeld => ?_); refine with_tabW impl_GroupReports.tab11 impl_GroupReports.bits11 (fun HT_ HW_ => ?_)
              generalize wr.drew = w27 at HO_3 BK250 HB HR252_2 HR252_5 hx251_0 hx252_0 hx252_1 hx252_2 hx252_3 hx252_4 hx252_5 hx252_6 hx252_7 hHeld ⊢
              refine pu_ 0 (some 26) M5_1 HT_ ?_
              refine pu_ 1 (some 27) M5_2 HT_ ?_
              refine pu_ 2 (some 28) M5_3 HT_ ?_
              refine pu_ 4 (some 30) M5_4 HT_ ?_
              refine pu_ 5 (some 31) M5_5 HT_ ?_
              refine pu_ 6 (some 32) M5_6 HT_ ?_
              refine pu_ 7 (some 33) M5_7 HT_ ?_
              refine tk_ 3 (some 29) M5_8 HT_ HW_ hHeld ?_
              refine tk_ 8 (some 34) M5_9 HT_ HW_ hHeld ?_
              refine pu_ 9 (some 35) M5_10 HT_ ?_
              refine pu_ 10 (some 36) M5_11 HT_ ?_
              refine pn_ 11 (some 37) M5_12 HT_ ?_
              refine pn_ 12 (some 38) M5_13 HT_ ?_
              refine pn_ 13 (some 39) M5_14 HT_ ?_
              refine pn_ 14 (some 40) M5_15 HT_ ?_
              refine pn_ 15 (some 41) M5_16 HT_ ?_
              refine pn_ 16 (some 42) M5_17 HT_ ?_
              refine pu_ 17 (some 43) M5_18 HT_ ?_
              refine done_ (done_of HT_.1 (by kernel_rfl)) ?_
              try go_wp2
              go_roundg k2
              case measure => have := HK1.1; have := HK2.1; omega
              case rel => exact ⟨(x6_2), (wrap64 (x23_2 + 1)), y152_, y152_, H', ⟨by have := HK1.1; have := HK2.1; omega⟩, ⟨rd_ HO_3.1⟩, ⟨bd_ BK250.1⟩, ⟨wb_⟩⟩
            ·
             rw [if_neg c15] at H
             exact absurd H (by simp)
           ·
            rw [if_neg c14] at H
            exact absurd H (by simp)
          ·
           rw [if_neg c13] at H
           exact absurd H (by simp)
         ·
          rw [if_neg c12] at H
          have c12b0 := decide_eq_false c12
          clear c12
          by_cases c29 : x3_1.length < 17592186044416
          ·
           rw [if_pos c29] at H
           have LMc29 := o_ c29
           clear c29
           obtain ⟨y259, hy259⟩ : ∃ y_ : List Int, y_ = (x3_1 ++ [x6_2]) := ⟨_, rfl⟩
           replace H : (impl_GroupReports.l0 k2 l0 y259 l0 (l0.length : Int) (wrap64 (x15_1 + 1))) = some r := hy_ H hy259
           have Ny259 := o_ hy259
           clear hy259
           have H' := o_ H
           clear H
           go_wp2_with (first | ((with_reducible refine gate_builtin (b := .append) (xs := #[.tmp 50, .tmp 52]) rfl ?_); at_builtin; refine Kd.R_append (Kd.int .i64) (w0 := w) w.heap.size rfl (.tmp 50) (.tmp 52) 24 3 (.int .i64 0) 8 rfl Try.underlying24 info3 rfl (by decide) (by omega) u3 x3_1 x6_2 [.int .i64 x6_2] (fun _ => True) (fun _ => False) rfl rfl ?aP (fun _ hk => hk.elim) ?aF ?aO ?aB ?aS ?aL ?_; (case aP => exact rfl); (case aB => exact wb_); (case aF => exact (fun _ _ => trivial)); (case aO => exact rd_ HO_3.1); (case aS => exact (below_size wb_)); (case aL => have := LMc29.1; omega); intro v260 w30 ho hb hg hat; rw [← Ny259.1] at ho; replace BK250 := o_ (blk_grown (g := gb250) (o := c7_ ((rd_T41 l0 x15_1).f0) ((rd_T41 l0 x15_1).f1) A249_2 ((rd_T41 l0 x15_1).f2).length c249_2 ((rd_T41 l0 x15_1).f3) ((rd_T41 l0 x15_1).f4) A249_5 ((rd_T41 l0 x15_1).f5).length c249_5 ((rd_T41 l0 x15_1).f6.f0) ((rd_T41 l0 x15_1).f6.f1)) (bd_ BK250.1) hg (Kd.R_ne HO_3.1 BK250.1 (by decide))); replace HB := o_ (hb); have HO261 := o_ (ho); clear HO_3 ho hb hg hat))
           go_roundg k2
           case measure => have := HK1.1; have := HK2.1; omega
           case rel => exact ⟨(y259), (wrap64 (x15_1 + 1)), y152_, H', ⟨by have := HK1.1; have := HK2.1; omega⟩, ⟨rd_ HO261.1⟩, ⟨wb_⟩⟩
          ·
           rw [if_neg c29] at H
           exact absurd H (by simp)
      ·
       rw [if_neg c9] at H
       exact absurd H (by simp)
     ·
      rw [if_neg c8] at H
      exact absurd H (by simp)
    ·
     rw [if_neg c7] at H
     have c7b0 := decide_eq_false c7
     clear c7
     obtain rfl := Option.some.inj H
     go_wp2
     go_ret
     exact ⟨_, rt_, rd_ HO_3.1, hd_ HB.1⟩
 ·
  replace c3 := Bool.eq_false_iff.mpr c3
  subst c3
  have H1 := H
  rw [if_neg nt_] at H1
  clear H
  have H := H1
  clear H1
  obtain rfl := Option.some.inj H
  go_wp2_with (first | ((with_reducible refine g_ 57 ?_); refine gl_ (some 10) Try.func57 #[.slice A0 l0.length c0] ?_; (with_reducible refine (impl_AreReports.calls k _ _ l0 false _ (cd_ (Kd.C_below HR0.1 HB.1)) HC0.1 A2.1).mono ?_); rintro e w33 ⟨rfl, hb⟩; refine ⟨_, rfl, ?_⟩; replace HO247 := o_ (Kd.R_below (rd_ HO247.1) hb); replace HB := o_ (below_step (hd_ HB.1) hb); (try clear hb)))
  go_ret
  exact ⟨_, rt_, rd_ HO247.1, hd_ HB.1⟩

/-! ### laws_big: function 31 -/
def laws_big.f (l0 : List Int) : Option (Bool) := some (decide ((l0.length : Int) > 1048576))
set_option maxHeartbeats 8000000 in
set_option maxRecDepth 100000 in
theorem laws_big.calls (A0 : Option Addr) (c0 : Nat) (l0 : List Int) (r : Bool) (w : World) (hr0 : Kd.C (Kd.int .u8) w A0 l0.length l0) (hc0 : l0.length ≤ c0) (h : laws_big.f l0 = some r) :
    Calls Try.prog 31 #[.slice A0 l0.length c0] w fun e w' => e = .returned (.bool r) ∧ Drawn0 w w' := by
  have HR0 := o_ hr0
  have HC0 := o_ hc0
  clear hr0 hc0
  have H : (some (decide ((l0.length : Int) > 1048576))) = some r := h
  clear h
  obtain rfl := Option.some.inj H
  go_enter Try.func31, Try.ntmps31
  go_wp2
  go_ret
  exact ⟨rs_, by repeat (first | exact Drawn0.refl _ | apply Drawn0.step)⟩

end Go.Proofs.Ytglpmjcknhcjcaa.PFnTwins
