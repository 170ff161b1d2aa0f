-- Written for this claim by a program (a printer turned to this claim); Lean checks it.
import Derived.Test.YtglpmjcknhcjcaaPFnExactGroupReportsx0
import Derived.Test.YtglpmjcknhcjcaaPFnExactGroupReportsx1
import Derived.Test.YtglpmjcknhcjcaaPFnExactGroupReportsx12
namespace Go.Proofs.Ytglpmjcknhcjcaa.PFnExactGroupReports
open Go.RowKit Go.Proofs.YtglpmjcknhcjcaaW.PrintWords Go.Proofs.YtglpmjcknhcjcaaW.PrintLast Go.Proofs.YtglpmjcknhcjcaaW.PrintMore
attribute [local go_sem] max2_int min2_int max_two min_two max_three min_three max_four min_four   -- for this text's walks alone
set_option linter.unusedVariables false
set_option linter.unusedSimpArgs false

/-! ### laws_eqReport: function 21 -/
def laws_eqReport.f (k : Nat) (a0_0 : Int) (a0_1 : Int) (l0_2 : List Int) (a0_3 : Int) (a0_4 : Int) (l0_5 : List Int) (a0_6 : Int) (a0_7 : Int) (a1_0 : Int) (a1_1 : Int) (l1_2 : List Int) (a1_3 : Int) (a1_4 : Int) (l1_5 : List Int) (a1_6 : Int) (a1_7 : Int) : Option (Bool) := if a0_0 = a1_0 then (if a0_1 = a1_1 then ((laws_eqIntS.f k l0_2 l1_2).bind fun t343 => (if t343 = true then (if a0_3 = a1_3 then (if a0_4 = a1_4 then ((laws_eqIntS.f k l0_5 l1_5).bind fun t344 => (if t344 = true then ((laws_eqSpan.f a0_6 a0_7 a1_6 a1_7).bind fun t345 => (if t345 = true then (some true) else (some false))) else (some false))) else (some false)) else (some false)) else (some false))) else (some false)) else (some false)
theorem laws_eqReport.mono : ∀ a0 a1 a2 a3 a4 a5 a6 a7 a8 a9 a10 a11 a12 a13 a14 a15 k, LeO (laws_eqReport.f k a0 a1 a2 a3 a4 a5 a6 a7 a8 a9 a10 a11 a12 a13 a14 a15) (laws_eqReport.f (k + 1) a0 a1 a2 a3 a4 a5 a6 a7 a8 a9 a10 a11 a12 a13 a14 a15) := by
 intro a0 a1 a2 a3 a4 a5 a6 a7 a8 a9 a10 a11 a12 a13 a14 a15 k
 unfold laws_eqReport.f
 repeat' first
   | (with_reducible exact laws_eqIntS.mono _ _ _)
   | (with_reducible exact LeO.refl _)
   | (with_reducible exact LeO.none _)
   | (with_reducible refine LeO.ite ?_ ?_)
   | (with_reducible refine LeO.bind ?_ (fun _ => ?_))
   | exact laws_eqIntS.mono _ _ _
   | exact LeO.none _
   | refine LeO.ite ?_ ?_
   | refine LeO.bind ?_ (fun _ => ?_)
abbrev c260_ (i0 : Int) (i1 : Int) (A2 : Option Addr) (n2 c2 : Nat) (i3 : Int) (i4 : Int) (A5 : Option Addr) (n5 c5 : Nat) (i6 : Int) (i7 : Int) : Obj := .cells #[.int .i64 i0, .int .i64 i1, .slice A2 n2 c2, .int .i64 i3, .int .i64 i4, .slice A5 n5 c5, .int .i64 i6, .int .i64 i7] 41 (0, 0)
theorem e261_ {w : World} {g : Nat} {t : TypeId} {i0 : Int} {i1 : Int} {A2 : Option Addr} {n2 c2 : Nat} {i3 : Int} {i4 : Int} {A5 : Option Addr} {n5 c5 : Nat} {i6 : Int} {i7 : Int} (h : w.heap[g]? = some (.cells #[.int .i64 i0, .int .i64 i1, .slice A2 n2 c2, .int .i64 i3, .int .i64 i4, .slice A5 n5 c5, .int .i64 i6, .int .i64 i7] t (0, 0))) : w.cell? ⟨g, 0, none⟩ = some (.int .i64 i0) ∧ w.cell? ⟨g, 1, none⟩ = some (.int .i64 i1) ∧ w.cell? ⟨g, 2, none⟩ = some (.slice A2 n2 c2) ∧ w.cell? ⟨g, 3, none⟩ = some (.int .i64 i3) ∧ w.cell? ⟨g, 4, none⟩ = some (.int .i64 i4) ∧ w.cell? ⟨g, 5, none⟩ = some (.slice A5 n5 c5) ∧ w.cell? ⟨g, 6, none⟩ = some (.int .i64 i6) ∧ w.cell? ⟨g, 7, none⟩ = some (.int .i64 i7) := ⟨(blk_cell h 0).trans rfl, (blk_cell h 1).trans rfl, (blk_cell h 2).trans rfl, (blk_cell h 3).trans rfl, (blk_cell h 4).trans rfl, (blk_cell h 5).trans rfl, (blk_cell h 6).trans rfl, (blk_cell h 7).trans rfl⟩
theorem z262_ {w : World} {g : Nat} {t : TypeId} {cs : Array Value} (h : w.heap[g]? = some (.cells cs t (0, 0))) : w.frozen? ⟨g, 0, none⟩ = false ∧ w.frozen? ⟨g, 1, none⟩ = false ∧ w.frozen? ⟨g, 2, none⟩ = false ∧ w.frozen? ⟨g, 3, none⟩ = false ∧ w.frozen? ⟨g, 4, none⟩ = false ∧ w.frozen? ⟨g, 5, none⟩ = false ∧ w.frozen? ⟨g, 6, none⟩ = false ∧ w.frozen? ⟨g, 7, none⟩ = false := ⟨blk_frozen h 0, blk_frozen h 1, blk_frozen h 2, blk_frozen h 3, blk_frozen h 4, blk_frozen h 5, blk_frozen h 6, blk_frozen h 7⟩
theorem y263_ {P : Prop} (h : P := by repeat (first | (with_reducible first | exact HB.out | apply below_alloc | apply pw_below_drewN | apply below_drew1 | refine below_set ?_ GE341.out) | exact HB.out)) : P := h
theorem y267_ {P : Prop} (h : P := by repeat (first | (with_reducible first | exact HB.out | apply below_alloc | apply pw_below_drewN | apply below_drew1 | refine below_set ?_ GE341.out | refine below_set ?_ GE342.out) | exact HB.out)) : P := h
theorem y268_ {P : Prop} (h : P := by repeat (first | (with_reducible first | exact HB.out | apply below_alloc | apply pw_below_drewN | apply below_drew1 | refine below_set ?_ GE341.out | refine below_set ?_ GE342.out) | exact HB.out)) : P := h
theorem y269_ {P : Prop} (h : P := by rw [hg]; exact Nat.ne_of_lt (blk_lt (bd_ BK341.out))) : P := h
theorem y270_ {P : Prop} (h : P := by rw [hg]; exact Nat.ne_of_gt (blk_lt (bd_ BK341.out))) : P := h
theorem y271_ {P : Prop} (h : P := by rw [hg]; exact (below_size (hd_ HB.out))) : P := h
theorem y272_ {P : Prop} (h : P := by rw [hg]; exact (below_size y263_)) : P := h
set_option maxHeartbeats 8000000 in
set_option maxRecDepth 100000 in
theorem laws_eqReport.calls (k : Nat) (a0_0 : Int) (a0_1 : Int) (A0_2 : Option Addr) (c0_2 : Nat) (l0_2 : List Int) (a0_3 : Int) (a0_4 : Int) (A0_5 : Option Addr) (c0_5 : Nat) (l0_5 : List Int) (a0_6 : Int) (a0_7 : Int) (a1_0 : Int) (a1_1 : Int) (A1_2 : Option Addr) (c1_2 : Nat) (l1_2 : List Int) (a1_3 : Int) (a1_4 : Int) (A1_5 : Option Addr) (c1_5 : Nat) (l1_5 : List Int) (a1_6 : Int) (a1_7 : Int) (r : Bool) (w : World) (hr0_2 : Kd.C (Kd.int .i64) w A0_2 l0_2.length l0_2) (hc0_2 : l0_2.length ≤ c0_2) (hr0_5 : Kd.C (Kd.int .i64) w A0_5 l0_5.length l0_5) (hc0_5 : l0_5.length ≤ c0_5) (hr1_2 : Kd.C (Kd.int .i64) w A1_2 l1_2.length l1_2) (hc1_2 : l1_2.length ≤ c1_2) (hr1_5 : Kd.C (Kd.int .i64) w A1_5 l1_5.length l1_5) (hc1_5 : l1_5.length ≤ c1_5) (h : laws_eqReport.f k a0_0 a0_1 l0_2 a0_3 a0_4 l0_5 a0_6 a0_7 a1_0 a1_1 l1_2 a1_3 a1_4 l1_5 a1_6 a1_7 = some r) :
  Calls Try.prog 21 #[.agg #[.int .i64 a0_0, .int .i64 a0_1, .slice A0_2 l0_2.length c0_2, .int .i64 a0_3, .int .i64 a0_4, .slice A0_5 l0_5.length c0_5, .int .i64 a0_6, .int .i64 a0_7], .agg #[.int .i64 a1_0, .int .i64 a1_1, .slice A1_2 l1_2.length c1_2, .int .i64 a1_3, .int .i64 a1_4, .slice A1_5 l1_5.length c1_5, .int .i64 a1_6, .int .i64 a1_7]] w fun e w' => e = .returned (.bool r) ∧ Below w.heap.size w w' := by
 have hu41 := Try.underlying41
 have hu39 := Try.underlying39
 have HR0_2 := Aside0.mk hr0_2
 have HC0_2 := Aside0.mk hc0_2
 clear hr0_2 hc0_2
 have HR0_5 := Aside0.mk hr0_5
 have HC0_5 := Aside0.mk hc0_5
 clear hr0_5 hc0_5
 have HR1_2 := Aside0.mk hr1_2
 have HC1_2 := Aside0.mk hc1_2
 clear hr1_2 hc1_2
 have HR1_5 := Aside0.mk hr1_5
 have HC1_5 := Aside0.mk hc1_5
 clear hr1_5 hc1_5
 have HB := Aside0.mk (Below.refl w.heap.size w)
 have H : (if a0_0 = a1_0 then (if a0_1 = a1_1 then ((laws_eqIntS.f k l0_2 l1_2).bind fun t343 => (if t343 = true then (if a0_3 = a1_3 then (if a0_4 = a1_4 then ((laws_eqIntS.f k l0_5 l1_5).bind fun t344 => (if t344 = true then ((laws_eqSpan.f a0_6 a0_7 a1_6 a1_7).bind fun t345 => (if t345 = true then (some true) else (some false))) else (some false))) else (some false)) else (some false)) else (some false))) else (some false)) else (some false)) = some r := h
 clear h
 by_cases c3 : a0_0 = a1_0
 ·
  rw [if_pos c3] at H
  have c3b0 : (a0_0 == a1_0) = true := beq_iff_eq.mpr c3
  have c3b1 : (a0_0 != a1_0) = false := bne_eq_false_iff_eq.mpr c3
  clear c3
  by_cases c4 : a0_1 = a1_1
  ·
   rw [if_pos c4] at H
   have c4b0 : (a0_1 == a1_1) = true := beq_iff_eq.mpr c4
   have c4b1 : (a0_1 != a1_1) = false := bne_eq_false_iff_eq.mpr c4
   clear c4
   replace H := Option.bind_eq_some_iff.mp H
   obtain ⟨t343, A50, H⟩ := H
   replace H : (if t343 = true then (if a0_3 = a1_3 then (if a0_4 = a1_4 then ((laws_eqIntS.f k l0_5 l1_5).bind fun t344 => (if t344 = true then ((laws_eqSpan.f a0_6 a0_7 a1_6 a1_7).bind fun t345 => (if t345 = true then (some true) else (some false))) else (some false))) else (some false)) else (some false)) else (some false)) = some r := H
   have A5 := Aside0.mk A50
   clear A50
   by_cases c6 : t343 = true
   ·
    subst c6
    have H1 : (if a0_3 = a1_3 then (if a0_4 = a1_4 then ((laws_eqIntS.f k l0_5 l1_5).bind fun t344 => (if t344 = true then ((laws_eqSpan.f a0_6 a0_7 a1_6 a1_7).bind fun t345 => (if t345 = true then (some true) else (some false))) else (some false))) else (some false)) else (some false)) = some r := by rw [if_pos rfl] at H; exact H
    clear H
    have H := H1
    clear H1
    by_cases c7 : a0_3 = a1_3
    ·
     rw [if_pos c7] at H
     have c7b0 : (a0_3 == a1_3) = true := beq_iff_eq.mpr c7
     have c7b1 : (a0_3 != a1_3) = false := bne_eq_false_iff_eq.mpr c7
     clear c7
     by_cases c8 : a0_4 = a1_4
     ·
      rw [if_pos c8] at H
      have c8b0 : (a0_4 == a1_4) = true := beq_iff_eq.mpr c8
      have c8b1 : (a0_4 != a1_4) = false := bne_eq_false_iff_eq.mpr c8
      clear c8
      replace H := Option.bind_eq_some_iff.mp H
      obtain ⟨t344, A90, H⟩ := H
      replace H : (if t344 = true then ((laws_eqSpan.f a0_6 a0_7 a1_6 a1_7).bind fun t345 => (if t345 = true then (some true) else (some false))) else (some false)) = some r := H
      have A9 := Aside0.mk A90
      clear A90
      by_cases c10 : t344 = true
      ·
       subst c10
       have H1 : ((laws_eqSpan.f a0_6 a0_7 a1_6 a1_7).bind fun t345 => (if t345 = true then (some true) else (some false))) = some r := by rw [if_pos rfl] at H; exact H
       clear H
       have H := H1
       clear H1
       replace H := Option.bind_eq_some_iff.mp H
       obtain ⟨t345, A110, H⟩ := H
       replace H : (if t345 = true then (some true) else (some false)) = some r := H
       have A11 := Aside0.mk A110
       clear A110
       by_cases c12 : t345 = true
       ·
        subst c12
        have H1 : (some true) = some r := by rw [if_pos rfl] at H; exact H
        clear H
        have H := H1
        clear H1
        obtain rfl := Option.some.inj H
        go_enter Try.func21, Try.ntmps21
        go_wp2_with (first | ((with_reducible refine gate_dst (N := 2) rfl ?_); refine box_event ?hg (N := 2) ?hd (cs := #[.int .i64 a0_0, .int .i64 a0_1, .slice A0_2 l0_2.length c0_2, .int .i64 a0_3, .int .i64 a0_4, .slice A0_5 l0_5.length c0_5, .int .i64 a0_6, .int .i64 a0_7]) (t := 41) ?hr ?_; (case hd => rfl); (case hg => rfl); (case hr => first | (go_simp; done) | (go_simp; rfl)); intro gb341 hg w13 hbox hb; have n0_ := Aside0.mk (below_step (hd_ HB.out) hb); have BK341 := Aside0.mk (hbox); have GW341 := Aside0.mk ((y271_ : w.heap.size ≤ gb341)); have GE341 := Aside0.mk ((y271_ : w.heap.size ≤ gb341)); clear HB; have HB := n0_; clear n0_; clear hb hbox hg) | ((with_reducible refine gate_dst (N := 3) rfl ?_); refine box_event ?hg (N := 3) ?hd (cs := #[.int .i64 a1_0, .int .i64 a1_1, .slice A1_2 l1_2.length c1_2, .int .i64 a1_3, .int .i64 a1_4, .slice A1_5 l1_5.length c1_5, .int .i64 a1_6, .int .i64 a1_7]) (t := 41) ?hr ?_; (case hd => rfl); (case hg => rfl); (case hr => first | (go_simp; done) | (go_simp; rfl)); intro gb342 hg w14 hbox hb; have n0_ := Aside0.mk (blk_below (bd_ BK341.out) hb); have n1_ := Aside0.mk (below_step y263_ hb); have BK342 := Aside0.mk (hbox); have GW342 := Aside0.mk ((y272_ : w.heap.size ≤ gb342)); have GE342 := Aside0.mk ((y272_ : w.heap.size ≤ gb342)); have NB341_342 := Aside0.mk ((y269_ : gb341 ≠ gb342)); have NB342_341 := Aside0.mk ((y270_ : gb342 ≠ gb341)); clear BK341; clear HB; have BK341 := n0_; have HB := n1_; clear n0_ n1_; clear hb hbox hg; have hnb15 := NB341_342.out; have hnc15 := NB342_341.out; obtain ⟨hcz16_0, hcz16_1, hcz16_2, hcz16_3, hcz16_4, hcz16_5, hcz16_6, hcz16_7⟩ := e261_ BK341.out; obtain ⟨hfz16_0, hfz16_1, hfz16_2, hfz16_3, hfz16_4, hfz16_5, hfz16_6, hfz16_7⟩ := z262_ BK341.out; obtain ⟨hcz17_0, hcz17_1, hcz17_2, hcz17_3, hcz17_4, hcz17_5, hcz17_6, hcz17_7⟩ := e261_ BK342.out; obtain ⟨hfz17_0, hfz17_1, hfz17_2, hfz17_3, hfz17_4, hfz17_5, hfz17_6, hfz17_7⟩ := z262_ BK342.out) | ((with_reducible refine gate_callee (f := 12) rfl ?_); refine goesL_ (some 19) rfl rfl Try.func12 (by kernel_rfl) rfl #[.slice A0_2 l0_2.length c0_2, .slice A1_2 l1_2.length c1_2] rfl ma_ ?_; (with_reducible refine (laws_eqIntS.calls k _ _ l0_2 _ _ l1_2 true _ ?side1 ?side2 ?side3 ?side4 A5.out).mono ?_); (case side1 => exact cd_ (Kd.C_below HR0_2.out HB.out)); (case side2 => exact HC0_2.out); (case side3 => exact cd_ (Kd.C_below HR1_2.out HB.out)); (case side4 => exact HC1_2.out); rintro e w' ⟨rfl, ⟨nd, rfl⟩⟩; refine ⟨_, rfl, ?_⟩) | ((with_reducible refine gate_callee (f := 12) rfl ?_); refine goesL_ (some 35) rfl rfl Try.func12 (by kernel_rfl) rfl #[.slice A0_5 l0_5.length c0_5, .slice A1_5 l1_5.length c1_5] rfl ma_ ?_; (with_reducible refine (laws_eqIntS.calls k _ _ l0_5 _ _ l1_5 true _ ?side1 ?side2 ?side3 ?side4 A9.out).mono ?_); (case side1 => repeat (first | exact (Kd.C_below HR0_5.out y267_) | (with_reducible refine Kd.C_alloc ?_ _) | (with_reducible refine Kd.C_drewN ?_ _) | (with_reducible refine Kd.C_drew ?_))); (case side2 => exact HC0_5.out); (case side3 => repeat (first | exact (Kd.C_below HR1_5.out y267_) | (with_reducible refine Kd.C_alloc ?_ _) | (with_reducible refine Kd.C_drewN ?_ _) | (with_reducible refine Kd.C_drew ?_))); (case side4 => exact HC1_5.out); rintro e w' ⟨rfl, ⟨nd, rfl⟩⟩; refine ⟨_, rfl, ?_⟩) | ((with_reducible refine gate_callee (f := 53) rfl ?_); refine goesL_ (some 41) rfl rfl Try.func53 (by kernel_rfl) rfl #[.agg #[.int .i64 a0_6, .int .i64 a0_7], .agg #[.int .i64 a1_6, .int .i64 a1_7]] rfl ma_ ?_; (with_reducible refine (laws_eqSpan.calls a0_6 a0_7 a1_6 a1_7 true _ A11.out).mono ?_); rintro e w18 ⟨rfl, hb⟩; refine ⟨_, rfl, ?_⟩; have n0_ := Aside0.mk (blk_below (bd_ BK341.out) hb); have n1_ := Aside0.mk (blk_below (bd_ BK342.out) hb); have n2_ := Aside0.mk (below_step y267_ hb); clear BK341; clear BK342; clear HB; have BK341 := n0_; have BK342 := n1_; have HB := n2_; clear n0_ n1_ n2_; (try clear hb); (try clear hb2); (try clear hk); (try clear hi)))
        go_ret
        exact ⟨by first | rfl | (simp [errW_none, errW_some] <;> rfl) | (simp [*, errW_none, errW_some] <;> rfl), y268_⟩
       ·
        replace c12 := Bool.eq_false_iff.mpr c12
        subst c12
        have H1 : (some false) = some r := by rw [if_neg (show ¬ (false = true) by decide)] at H; exact H
        clear H
        have H := H1
        clear H1
        obtain rfl := Option.some.inj H
        go_enter Try.func21, Try.ntmps21
        go_wp2_with (first | ((with_reducible refine gate_dst (N := 2) rfl ?_); refine box_event ?hg (N := 2) ?hd (cs := #[.int .i64 a0_0, .int .i64 a0_1, .slice A0_2 l0_2.length c0_2, .int .i64 a0_3, .int .i64 a0_4, .slice A0_5 l0_5.length c0_5, .int .i64 a0_6, .int .i64 a0_7]) (t := 41) ?hr ?_; (case hd => rfl); (case hg => rfl); (case hr => first | (go_simp; done) | (go_simp; rfl)); intro gb341 hg w19 hbox hb; have n0_ := Aside0.mk (below_step (hd_ HB.out) hb); have BK341 := Aside0.mk (hbox); have GW341 := Aside0.mk ((y271_ : w.heap.size ≤ gb341)); have GE341 := Aside0.mk ((y271_ : w.heap.size ≤ gb341)); clear HB; have HB := n0_; clear n0_; clear hb hbox hg) | ((with_reducible refine gate_dst (N := 3) rfl ?_); refine box_event ?hg (N := 3) ?hd (cs := #[.int .i64 a1_0, .int .i64 a1_1, .slice A1_2 l1_2.length c1_2, .int .i64 a1_3, .int .i64 a1_4, .slice A1_5 l1_5.length c1_5, .int .i64 a1_6, .int .i64 a1_7]) (t := 41) ?hr ?_; (case hd => rfl); (case hg => rfl); (case hr => first | (go_simp; done) | (go_simp; rfl)); intro gb342 hg w20 hbox hb; have n0_ := Aside0.mk (blk_below (bd_ BK341.out) hb); have n1_ := Aside0.mk (below_step y263_ hb); have BK342 := Aside0.mk (hbox); have GW342 := Aside0.mk ((y272_ : w.heap.size ≤ gb342)); have GE342 := Aside0.mk ((y272_ : w.heap.size ≤ gb342)); have NB341_342 := Aside0.mk ((y269_ : gb341 ≠ gb342)); have NB342_341 := Aside0.mk ((y270_ : gb342 ≠ gb341)); clear BK341; clear HB; have BK341 := n0_; have HB := n1_; clear n0_ n1_; clear hb hbox hg; have hnb21 := NB341_342.out; have hnc21 := NB342_341.out; obtain ⟨hcz22_0, hcz22_1, hcz22_2, hcz22_3, hcz22_4, hcz22_5, hcz22_6, hcz22_7⟩ := e261_ BK341.out; obtain ⟨hfz22_0, hfz22_1, hfz22_2, hfz22_3, hfz22_4, hfz22_5, hfz22_6, hfz22_7⟩ := z262_ BK341.out; obtain ⟨hcz23_0, hcz23_1, hcz23_2, hcz23_3, hcz23_4, hcz23_5, hcz23_6, hcz23_7⟩ := e261_ BK342.out; obtain ⟨hfz23_0, hfz23_1, hfz23_2, hfz23_3, hfz23_4, hfz23_5, hfz23_6, hfz23_7⟩ := z262_ BK342.out) | ((with_reducible refine gate_callee (f := 12) rfl ?_); refine goesL_ (some 19) rfl rfl Try.func12 (by kernel_rfl) rfl #[.slice A0_2 l0_2.length c0_2, .slice A1_2 l1_2.length c1_2] rfl ma_ ?_; (with_reducible refine (laws_eqIntS.calls k _ _ l0_2 _ _ l1_2 true _ ?side1 ?side2 ?side3 ?side4 A5.out).mono ?_); (case side1 => exact cd_ (Kd.C_below HR0_2.out HB.out)); (case side2 => exact HC0_2.out); (case side3 => exact cd_ (Kd.C_below HR1_2.out HB.out)); (case side4 => exact HC1_2.out); rintro e w' ⟨rfl, ⟨nd, rfl⟩⟩; refine ⟨_, rfl, ?_⟩) | ((with_reducible refine gate_callee (f := 12) rfl ?_); refine goesL_ (some 35) rfl rfl Try.func12 (by kernel_rfl) rfl #[.slice A0_5 l0_5.length c0_5, .slice A1_5 l1_5.length c1_5] rfl ma_ ?_; (with_reducible refine (laws_eqIntS.calls k _ _ l0_5 _ _ l1_5 true _ ?side1 ?side2 ?side3 ?side4 A9.out).mono ?_); (case side1 => repeat (first | exact (Kd.C_below HR0_5.out y267_) | (with_reducible refine Kd.C_alloc ?_ _) | (with_reducible refine Kd.C_drewN ?_ _) | (with_reducible refine Kd.C_drew ?_))); (case side2 => exact HC0_5.out); (case side3 => repeat (first | exact (Kd.C_below HR1_5.out y267_) | (with_reducible refine Kd.C_alloc ?_ _) | (with_reducible refine Kd.C_drewN ?_ _) | (with_reducible refine Kd.C_drew ?_))); (case side4 => exact HC1_5.out); rintro e w' ⟨rfl, ⟨nd, rfl⟩⟩; refine ⟨_, rfl, ?_⟩) | ((with_reducible refine gate_callee (f := 53) rfl ?_); refine goesL_ (some 41) rfl rfl Try.func53 (by kernel_rfl) rfl #[.agg #[.int .i64 a0_6, .int .i64 a0_7], .agg #[.int .i64 a1_6, .int .i64 a1_7]] rfl ma_ ?_; (with_reducible refine (laws_eqSpan.calls a0_6 a0_7 a1_6 a1_7 false _ A11.out).mono ?_); rintro e w24 ⟨rfl, hb⟩; refine ⟨_, rfl, ?_⟩; have n0_ := Aside0.mk (blk_below (bd_ BK341.out) hb); have n1_ := Aside0.mk (blk_below (bd_ BK342.out) hb); have n2_ := Aside0.mk (below_step y267_ hb); clear BK341; clear BK342; clear HB; have BK341 := n0_; have BK342 := n1_; have HB := n2_; clear n0_ n1_ n2_; (try clear hb); (try clear hb2); (try clear hk); (try clear hi)))
        go_ret
        exact ⟨by first | rfl | (simp [errW_none, errW_some] <;> rfl) | (simp [*, errW_none, errW_some] <;> rfl), y268_⟩
      ·
       replace c10 := Bool.eq_false_iff.mpr c10
       subst c10
       have H1 : (some false) = some r := by rw [if_neg (show ¬ (false = true) by decide)] at H; exact H
       clear H
       have H := H1
       clear H1
       obtain rfl := Option.some.inj H
       go_enter Try.func21, Try.ntmps21
       go_wp2_with (first | ((with_reducible refine gate_dst (N := 2) rfl ?_); refine box_event ?hg (N := 2) ?hd (cs := #[.int .i64 a0_0, .int .i64 a0_1, .slice A0_2 l0_2.length c0_2, .int .i64 a0_3, .int .i64 a0_4, .slice A0_5 l0_5.length c0_5, .int .i64 a0_6, .int .i64 a0_7]) (t := 41) ?hr ?_; (case hd => rfl); (case hg => rfl); (case hr => first | (go_simp; done) | (go_simp; rfl)); intro gb341 hg w25 hbox hb; have n0_ := Aside0.mk (below_step (hd_ HB.out) hb); have BK341 := Aside0.mk (hbox); have GW341 := Aside0.mk ((y271_ : w.heap.size ≤ gb341)); have GE341 := Aside0.mk ((y271_ : w.heap.size ≤ gb341)); clear HB; have HB := n0_; clear n0_; clear hb hbox hg) | ((with_reducible refine gate_dst (N := 3) rfl ?_); refine box_event ?hg (N := 3) ?hd (cs := #[.int .i64 a1_0, .int .i64 a1_1, .slice A1_2 l1_2.length c1_2, .int .i64 a1_3, .int .i64 a1_4, .slice A1_5 l1_5.length c1_5, .int .i64 a1_6, .int .i64 a1_7]) (t := 41) ?hr ?_; (case hd => rfl); (case hg => rfl); (case hr => first | (go_simp; done) | (go_simp; rfl)); intro gb342 hg w26 hbox hb; have n0_ := Aside0.mk (blk_below (bd_ BK341.out) hb); have n1_ := Aside0.mk (below_step y263_ hb); have BK342 := Aside0.mk (hbox); have GW342 := Aside0.mk ((y272_ : w.heap.size ≤ gb342)); have GE342 := Aside0.mk ((y272_ : w.heap.size ≤ gb342)); have NB341_342 := Aside0.mk ((y269_ : gb341 ≠ gb342)); have NB342_341 := Aside0.mk ((y270_ : gb342 ≠ gb341)); clear BK341; clear HB; have BK341 := n0_; have HB := n1_; clear n0_ n1_; clear hb hbox hg; have hnb27 := NB341_342.out; have hnc27 := NB342_341.out; obtain ⟨hcz28_0, hcz28_1, hcz28_2, hcz28_3, hcz28_4, hcz28_5, hcz28_6, hcz28_7⟩ := e261_ BK341.out; obtain ⟨hfz28_0, hfz28_1, hfz28_2, hfz28_3, hfz28_4, hfz28_5, hfz28_6, hfz28_7⟩ := z262_ BK341.out; obtain ⟨hcz29_0, hcz29_1, hcz29_2, hcz29_3, hcz29_4, hcz29_5, hcz29_6, hcz29_7⟩ := e261_ BK342.out; obtain ⟨hfz29_0, hfz29_1, hfz29_2, hfz29_3, hfz29_4, hfz29_5, hfz29_6, hfz29_7⟩ := z262_ BK342.out) | ((with_reducible refine gate_callee (f := 12) rfl ?_); refine goesL_ (some 19) rfl rfl Try.func12 (by kernel_rfl) rfl #[.slice A0_2 l0_2.length c0_2, .slice A1_2 l1_2.length c1_2] rfl ma_ ?_; (with_reducible refine (laws_eqIntS.calls k _ _ l0_2 _ _ l1_2 true _ ?side1 ?side2 ?side3 ?side4 A5.out).mono ?_); (case side1 => exact cd_ (Kd.C_below HR0_2.out HB.out)); (case side2 => exact HC0_2.out); (case side3 => exact cd_ (Kd.C_below HR1_2.out HB.out)); (case side4 => exact HC1_2.out); rintro e w' ⟨rfl, ⟨nd, rfl⟩⟩; refine ⟨_, rfl, ?_⟩) | ((with_reducible refine gate_callee (f := 12) rfl ?_); refine goesL_ (some 35) rfl rfl Try.func12 (by kernel_rfl) rfl #[.slice A0_5 l0_5.length c0_5, .slice A1_5 l1_5.length c1_5] rfl ma_ ?_; (with_reducible refine (laws_eqIntS.calls k _ _ l0_5 _ _ l1_5 false _ ?side1 ?side2 ?side3 ?side4 A9.out).mono ?_); (case side1 => repeat (first | exact (Kd.C_below HR0_5.out y267_) | (with_reducible refine Kd.C_alloc ?_ _) | (with_reducible refine Kd.C_drewN ?_ _) | (with_reducible refine Kd.C_drew ?_))); (case side2 => exact HC0_5.out); (case side3 => repeat (first | exact (Kd.C_below HR1_5.out y267_) | (with_reducible refine Kd.C_alloc ?_ _) | (with_reducible refine Kd.C_drewN ?_ _) | (with_reducible refine Kd.C_drew ?_))); (case side4 => exact HC1_5.out); rintro e w' ⟨rfl, ⟨nd, rfl⟩⟩; refine ⟨_, rfl, ?_⟩))
       go_ret
       exact ⟨by first | rfl | (simp [errW_none, errW_some] <;> rfl) | (simp [*, errW_none, errW_some] <;> rfl), y268_⟩
     ·
      rw [if_neg c8] at H
      have c8b0 : (a0_4 == a1_4) = false := beq_eq_false_iff_ne.mpr c8
      have c8b1 : (a0_4 != a1_4) = true := bne_iff_ne.mpr c8
      obtain rfl := Option.some.inj H
      go_enter Try.func21, Try.ntmps21
      go_wp2_with (first | ((with_reducible refine gate_dst (N := 2) rfl ?_); refine box_event ?hg (N := 2) ?hd (cs := #[.int .i64 a0_0, .int .i64 a0_1, .slice A0_2 l0_2.length c0_2, .int .i64 a0_3, .int .i64 a0_4, .slice A0_5 l0_5.length c0_5, .int .i64 a0_6, .int .i64 a0_7]) (t := 41) ?hr ?_; (case hd => rfl); (case hg => rfl); (case hr => first | (go_simp; done) | (go_simp; rfl)); intro gb341 hg w30 hbox hb; have n0_ := Aside0.mk (below_step (hd_ HB.out) hb); have BK341 := Aside0.mk (hbox); have GW341 := Aside0.mk ((y271_ : w.heap.size ≤ gb341)); have GE341 := Aside0.mk ((y271_ : w.heap.size ≤ gb341)); clear HB; have HB := n0_; clear n0_; clear hb hbox hg) | ((with_reducible refine gate_dst (N := 3) rfl ?_); refine box_event ?hg (N := 3) ?hd (cs := #[.int .i64 a1_0, .int .i64 a1_1, .slice A1_2 l1_2.length c1_2, .int .i64 a1_3, .int .i64 a1_4, .slice A1_5 l1_5.length c1_5, .int .i64 a1_6, .int .i64 a1_7]) (t := 41) ?hr ?_; (case hd => rfl); (case hg => rfl); (case hr => first | (go_simp; done) | (go_simp; rfl)); intro gb342 hg w31 hbox hb; have n0_ := Aside0.mk (blk_below (bd_ BK341.out) hb); have n1_ := Aside0.mk (below_step y263_ hb); have BK342 := Aside0.mk (hbox); have GW342 := Aside0.mk ((y272_ : w.heap.size ≤ gb342)); have GE342 := Aside0.mk ((y272_ : w.heap.size ≤ gb342)); have NB341_342 := Aside0.mk ((y269_ : gb341 ≠ gb342)); have NB342_341 := Aside0.mk ((y270_ : gb342 ≠ gb341)); clear BK341; clear HB; have BK341 := n0_; have HB := n1_; clear n0_ n1_; clear hb hbox hg; have hnb32 := NB341_342.out; have hnc32 := NB342_341.out; obtain ⟨hcz33_0, hcz33_1, hcz33_2, hcz33_3, hcz33_4, hcz33_5, hcz33_6, hcz33_7⟩ := e261_ BK341.out; obtain ⟨hfz33_0, hfz33_1, hfz33_2, hfz33_3, hfz33_4, hfz33_5, hfz33_6, hfz33_7⟩ := z262_ BK341.out; obtain ⟨hcz34_0, hcz34_1, hcz34_2, hcz34_3, hcz34_4, hcz34_5, hcz34_6, hcz34_7⟩ := e261_ BK342.out; obtain ⟨hfz34_0, hfz34_1, hfz34_2, hfz34_3, hfz34_4, hfz34_5, hfz34_6, hfz34_7⟩ := z262_ BK342.out) | ((with_reducible refine gate_callee (f := 12) rfl ?_); refine goesL_ (some 19) rfl rfl Try.func12 (by kernel_rfl) rfl #[.slice A0_2 l0_2.length c0_2, .slice A1_2 l1_2.length c1_2] rfl ma_ ?_; (with_reducible refine (laws_eqIntS.calls k _ _ l0_2 _ _ l1_2 true _ ?side1 ?side2 ?side3 ?side4 A5.out).mono ?_); (case side1 => exact cd_ (Kd.C_below HR0_2.out HB.out)); (case side2 => exact HC0_2.out); (case side3 => exact cd_ (Kd.C_below HR1_2.out HB.out)); (case side4 => exact HC1_2.out); rintro e w' ⟨rfl, ⟨nd, rfl⟩⟩; refine ⟨_, rfl, ?_⟩))
      go_ret
      exact ⟨by first | rfl | (simp [errW_none, errW_some] <;> rfl) | (simp [*, errW_none, errW_some] <;> rfl), y268_⟩
    ·
     rw [if_neg c7] at H
     have c7b0 : (a0_3 == a1_3) = false := beq_eq_false_iff_ne.mpr c7
     have c7b1 : (a0_3 != a1_3) = true := bne_iff_ne.mpr c7
     obtain rfl := Option.some.inj H
     go_enter Try.func21, Try.ntmps21
     go_wp2_with (first | ((with_reducible refine gate_dst (N := 2) rfl ?_); refine box_event ?hg (N := 2) ?hd (cs := #[.int .i64 a0_0, .int .i64 a0_1, .slice A0_2 l0_2.length c0_2, .int .i64 a0_3, .int .i64 a0_4, .slice A0_5 l0_5.length c0_5, .int .i64 a0_6, .int .i64 a0_7]) (t := 41) ?hr ?_; (case hd => rfl); (case hg => rfl); (case hr => first | (go_simp; done) | (go_simp; rfl)); intro gb341 hg w35 hbox hb; have n0_ := Aside0.mk (below_step (hd_ HB.out) hb); have BK341 := Aside0.mk (hbox); have GW341 := Aside0.mk ((y271_ : w.heap.size ≤ gb341)); have GE341 := Aside0.mk ((y271_ : w.heap.size ≤ gb341)); clear HB; have HB := n0_; clear n0_; clear hb hbox hg) | ((with_reducible refine gate_dst (N := 3) rfl ?_); refine box_event ?hg (N := 3) ?hd (cs := #[.int .i64 a1_0, .int .i64 a1_1, .slice A1_2 l1_2.length c1_2, .int .i64 a1_3, .int .i64 a1_4, .slice A1_5 l1_5.length c1_5, .int .i64 a1_6, .int .i64 a1_7]) (t := 41) ?hr ?_; (case hd => rfl); (case hg => rfl); (case hr => first | (go_simp; done) | (go_simp; rfl)); intro gb342 hg w36 hbox hb; have n0_ := Aside0.mk (blk_below (bd_ BK341.out) hb); have n1_ := Aside0.mk (below_step y263_ hb); have BK342 := Aside0.mk (hbox); have GW342 := Aside0.mk ((y272_ : w.heap.size ≤ gb342)); have GE342 := Aside0.mk ((y272_ : w.heap.size ≤ gb342)); have NB341_342 := Aside0.mk ((y269_ : gb341 ≠ gb342)); have NB342_341 := Aside0.mk ((y270_ : gb342 ≠ gb341)); clear BK341; clear HB; have BK341 := n0_; have HB := n1_; clear n0_ n1_; clear hb hbox hg; have hnb37 := NB341_342.out; have hnc37 := NB342_341.out; obtain ⟨hcz38_0, hcz38_1, hcz38_2, hcz38_3, hcz38_4, hcz38_5, hcz38_6, hcz38_7⟩ := e261_ BK341.out; obtain ⟨hfz38_0, hfz38_1, hfz38_2, hfz38_3, hfz38_4, hfz38_5, hfz38_6, hfz38_7⟩ := z262_ BK341.out; obtain ⟨hcz39_0, hcz39_1, hcz39_2, hcz39_3, hcz39_4, hcz39_5, hcz39_6, hcz39_7⟩ := e261_ BK342.out; obtain ⟨hfz39_0, hfz39_1, hfz39_2, hfz39_3, hfz39_4, hfz39_5, hfz39_6, hfz39_7⟩ := z262_ BK342.out) | ((with_reducible refine gate_callee (f := 12) rfl ?_); refine goesL_ (some 19) rfl rfl Try.func12 (by kernel_rfl) rfl #[.slice A0_2 l0_2.length c0_2, .slice A1_2 l1_2.length c1_2] rfl ma_ ?_; (with_reducible refine (laws_eqIntS.calls k _ _ l0_2 _ _ l1_2 true _ ?side1 ?side2 ?side3 ?side4 A5.out).mono ?_); (case side1 => exact cd_ (Kd.C_below HR0_2.out HB.out)); (case side2 => exact HC0_2.out); (case side3 => exact cd_ (Kd.C_below HR1_2.out HB.out)); (case side4 => exact HC1_2.out); rintro e w' ⟨rfl, ⟨nd, rfl⟩⟩; refine ⟨_, rfl, ?_⟩))
     go_ret
     exact ⟨by first | rfl | (simp [errW_none, errW_some] <;> rfl) | (simp [*, errW_none, errW_some] <;> rfl), y268_⟩
   ·
    replace c6 := Bool.eq_false_iff.mpr c6
    subst c6
    have H1 : (some false) = some r := by rw [if_neg (show ¬ (false = true) by decide)] at H; exact H
    clear H
    have H := H1
    clear H1
    obtain rfl := Option.some.inj H
    go_enter Try.func21, Try.ntmps21
    go_wp2_with (first | ((with_reducible refine gate_dst (N := 2) rfl ?_); refine box_event ?hg (N := 2) ?hd (cs := #[.int .i64 a0_0, .int .i64 a0_1, .slice A0_2 l0_2.length c0_2, .int .i64 a0_3, .int .i64 a0_4, .slice A0_5 l0_5.length c0_5, .int .i64 a0_6, .int .i64 a0_7]) (t := 41) ?hr ?_; (case hd => rfl); (case hg => rfl); (case hr => first | (go_simp; done) | (go_simp; rfl)); intro gb341 hg w40 hbox hb; have n0_ := Aside0.mk (below_step (hd_ HB.out) hb); have BK341 := Aside0.mk (hbox); have GW341 := Aside0.mk ((y271_ : w.heap.size ≤ gb341)); have GE341 := Aside0.mk ((y271_ : w.heap.size ≤ gb341)); clear HB; have HB := n0_; clear n0_; clear hb hbox hg) | ((with_reducible refine gate_dst (N := 3) rfl ?_); refine box_event ?hg (N := 3) ?hd (cs := #[.int .i64 a1_0, .int .i64 a1_1, .slice A1_2 l1_2.length c1_2, .int .i64 a1_3, .int .i64 a1_4, .slice A1_5 l1_5.length c1_5, .int .i64 a1_6, .int .i64 a1_7]) (t := 41) ?hr ?_; (case hd => rfl); (case hg => rfl); (case hr => first | (go_simp; done) | (go_simp; rfl)); intro gb342 hg w41 hbox hb; have n0_ := Aside0.mk (blk_below (bd_ BK341.out) hb); have n1_ := Aside0.mk (below_step y263_ hb); have BK342 := Aside0.mk (hbox); have GW342 := Aside0.mk ((y272_ : w.heap.size ≤ gb342)); have GE342 := Aside0.mk ((y272_ : w.heap.size ≤ gb342)); have NB341_342 := Aside0.mk ((y269_ : gb341 ≠ gb342)); have NB342_341 := Aside0.mk ((y270_ : gb342 ≠ gb341)); clear BK341; clear HB; have BK341 := n0_; have HB := n1_; clear n0_ n1_; clear hb hbox hg; have hnb42 := NB341_342.out; have hnc42 := NB342_341.out; obtain ⟨hcz43_0, hcz43_1, hcz43_2, hcz43_3, hcz43_4, hcz43_5, hcz43_6, hcz43_7⟩ := e261_ BK341.out; obtain ⟨hfz43_0, hfz43_1, hfz43_2, hfz43_3, hfz43_4, hfz43_5, hfz43_6, hfz43_7⟩ := z262_ BK341.out; obtain ⟨hcz44_0, hcz44_1, hcz44_2, hcz44_3, hcz44_4, hcz44_5, hcz44_6, hcz44_7⟩ := e261_ BK342.out; obtain ⟨hfz44_0, hfz44_1, hfz44_2, hfz44_3, hfz44_4, hfz44_5, hfz44_6, hfz44_7⟩ := z262_ BK342.out) | ((with_reducible refine gate_callee (f := 12) rfl ?_); refine goesL_ (some 19) rfl rfl Try.func12 (by kernel_rfl) rfl #[.slice A0_2 l0_2.length c0_2, .slice A1_2 l1_2.length c1_2] rfl ma_ ?_; (with_reducible refine (laws_eqIntS.calls k _ _ l0_2 _ _ l1_2 false _ ?side1 ?side2 ?side3 ?side4 A5.out).mono ?_); (case side1 => exact cd_ (Kd.C_below HR0_2.out HB.out)); (case side2 => exact HC0_2.out); (case side3 => exact cd_ (Kd.C_below HR1_2.out HB.out)); (case side4 => exact HC1_2.out); rintro e w' ⟨rfl, ⟨nd, rfl⟩⟩; refine ⟨_, rfl, ?_⟩))
    go_ret
    exact ⟨by first | rfl | (simp [errW_none, errW_some] <;> rfl) | (simp [*, errW_none, errW_some] <;> rfl), y268_⟩
  ·
   rw [if_neg c4] at H
   have c4b0 : (a0_1 == a1_1) = false := beq_eq_false_iff_ne.mpr c4
   have c4b1 : (a0_1 != a1_1) = true := bne_iff_ne.mpr c4
   obtain rfl := Option.some.inj H
   go_enter Try.func21, Try.ntmps21
   go_wp2_with (first | ((with_reducible refine gate_dst (N := 2) rfl ?_); refine box_event ?hg (N := 2) ?hd (cs := #[.int .i64 a0_0, .int .i64 a0_1, .slice A0_2 l0_2.length c0_2, .int .i64 a0_3, .int .i64 a0_4, .slice A0_5 l0_5.length c0_5, .int .i64 a0_6, .int .i64 a0_7]) (t := 41) ?hr ?_; (case hd => rfl); (case hg => rfl); (case hr => first | (go_simp; done) | (go_simp; rfl)); intro gb341 hg w45 hbox hb; have n0_ := Aside0.mk (below_step (hd_ HB.out) hb); have BK341 := Aside0.mk (hbox); have GW341 := Aside0.mk ((y271_ : w.heap.size ≤ gb341)); have GE341 := Aside0.mk ((y271_ : w.heap.size ≤ gb341)); clear HB; have HB := n0_; clear n0_; clear hb hbox hg) | ((with_reducible refine gate_dst (N := 3) rfl ?_); refine box_event ?hg (N := 3) ?hd (cs := #[.int .i64 a1_0, .int .i64 a1_1, .slice A1_2 l1_2.length c1_2, .int .i64 a1_3, .int .i64 a1_4, .slice A1_5 l1_5.length c1_5, .int .i64 a1_6, .int .i64 a1_7]) (t := 41) ?hr ?_; (case hd => rfl); (case hg => rfl); (case hr => first | (go_simp; done) | (go_simp; rfl)); intro gb342 hg w46 hbox hb; have n0_ := Aside0.mk (blk_below (bd_ BK341.out) hb); have n1_ := Aside0.mk (below_step y263_ hb); have BK342 := Aside0.mk (hbox); have GW342 := Aside0.mk ((y272_ : w.heap.size ≤ gb342)); have GE342 := Aside0.mk ((y272_ : w.heap.size ≤ gb342)); have NB341_342 := Aside0.mk ((y269_ : gb341 ≠ gb342)); have NB342_341 := Aside0.mk ((y270_ : gb342 ≠ gb341)); clear BK341; clear HB; have BK341 := n0_; have HB := n1_; clear n0_ n1_; clear hb hbox hg; have hnb47 := NB341_342.out; have hnc47 := NB342_341.out; obtain ⟨hcz48_0, hcz48_1, hcz48_2, hcz48_3, hcz48_4, hcz48_5, hcz48_6, hcz48_7⟩ := e261_ BK341.out; obtain ⟨hfz48_0, hfz48_1, hfz48_2, hfz48_3, hfz48_4, hfz48_5, hfz48_6, hfz48_7⟩ := z262_ BK341.out; obtain ⟨hcz49_0, hcz49_1, hcz49_2, hcz49_3, hcz49_4, hcz49_5, hcz49_6, hcz49_7⟩ := e261_ BK342.out; obtain ⟨hfz49_0, hfz49_1, hfz49_2, hfz49_3, hfz49_4, hfz49_5, hfz49_6, hfz49_7⟩ := z262_ BK342.out))
   go_ret
   exact ⟨by first | rfl | (simp [errW_none, errW_some] <;> rfl) | (simp [*, errW_none, errW_some] <;> rfl), y268_⟩
 ·
  rw [if_neg c3] at H
  have c3b0 : (a0_0 == a1_0) = false := beq_eq_false_iff_ne.mpr c3
  have c3b1 : (a0_0 != a1_0) = true := bne_iff_ne.mpr c3
  obtain rfl := Option.some.inj H
  go_enter Try.func21, Try.ntmps21
  go_wp2_with (first | ((with_reducible refine gate_dst (N := 2) rfl ?_); refine box_event ?hg (N := 2) ?hd (cs := #[.int .i64 a0_0, .int .i64 a0_1, .slice A0_2 l0_2.length c0_2, .int .i64 a0_3, .int .i64 a0_4, .slice A0_5 l0_5.length c0_5, .int .i64 a0_6, .int .i64 a0_7]) (t := 41) ?hr ?_; (case hd => rfl); (case hg => rfl); (case hr => first | (go_simp; done) | (go_simp; rfl)); intro gb341 hg w50 hbox hb; have n0_ := Aside0.mk (below_step (hd_ HB.out) hb); have BK341 := Aside0.mk (hbox); have GW341 := Aside0.mk ((y271_ : w.heap.size ≤ gb341)); have GE341 := Aside0.mk ((y271_ : w.heap.size ≤ gb341)); clear HB; have HB := n0_; clear n0_; clear hb hbox hg) | ((with_reducible refine gate_dst (N := 3) rfl ?_); refine box_event ?hg (N := 3) ?hd (cs := #[.int .i64 a1_0, .int .i64 a1_1, .slice A1_2 l1_2.length c1_2, .int .i64 a1_3, .int .i64 a1_4, .slice A1_5 l1_5.length c1_5, .int .i64 a1_6, .int .i64 a1_7]) (t := 41) ?hr ?_; (case hd => rfl); (case hg => rfl); (case hr => first | (go_simp; done) | (go_simp; rfl)); intro gb342 hg w51 hbox hb; have n0_ := Aside0.mk (blk_below (bd_ BK341.out) hb); have n1_ := Aside0.mk (below_step y263_ hb); have BK342 := Aside0.mk (hbox); have GW342 := Aside0.mk ((y272_ : w.heap.size ≤ gb342)); have GE342 := Aside0.mk ((y272_ : w.heap.size ≤ gb342)); have NB341_342 := Aside0.mk ((y269_ : gb341 ≠ gb342)); have NB342_341 := Aside0.mk ((y270_ : gb342 ≠ gb341)); clear BK341; clear HB; have BK341 := n0_; have HB := n1_; clear n0_ n1_; clear hb hbox hg; have hnb52 := NB341_342.out; have hnc52 := NB342_341.out; obtain ⟨hcz53_0, hcz53_1, hcz53_2, hcz53_3, hcz53_4, hcz53_5, hcz53_6, hcz53_7⟩ := e261_ BK341.out; obtain ⟨hfz53_0, hfz53_1, hfz53_2, hfz53_3, hfz53_4, hfz53_5, hfz53_6, hfz53_7⟩ := z262_ BK341.out; obtain ⟨hcz54_0, hcz54_1, hcz54_2, hcz54_3, hcz54_4, hcz54_5, hcz54_6, hcz54_7⟩ := e261_ BK342.out; obtain ⟨hfz54_0, hfz54_1, hfz54_2, hfz54_3, hfz54_4, hfz54_5, hfz54_6, hfz54_7⟩ := z262_ BK342.out))
  go_ret
  exact ⟨by first | rfl | (simp [errW_none, errW_some] <;> rfl) | (simp [*, errW_none, errW_some] <;> rfl), y268_⟩

/-! ### laws_eqReportS: function 29 -/
def laws_eqReportS.l0 : Nat → List (S41) → List (S41) → Int → Option (Bool)
  | 0, _, _, _ => none
  | k + 1, x0, x1, x5 => if x5 < (x0.length : Int) then (if 0 ≤ x5 then (if x5 < (x1.length : Int) then ((laws_eqReport.f k ((rd_T41 x0 x5).f0) ((rd_T41 x0 x5).f1) ((rd_T41 x0 x5).f2) ((rd_T41 x0 x5).f3) ((rd_T41 x0 x5).f4) ((rd_T41 x0 x5).f5) ((rd_T41 x0 x5).f6.f0) ((rd_T41 x0 x5).f6.f1) ((rd_T41 x1 x5).f0) ((rd_T41 x1 x5).f1) ((rd_T41 x1 x5).f2) ((rd_T41 x1 x5).f3) ((rd_T41 x1 x5).f4) ((rd_T41 x1 x5).f5) ((rd_T41 x1 x5).f6.f0) ((rd_T41 x1 x5).f6.f1)).bind fun t348 => (if t348 = true then (laws_eqReportS.l0 k x0 x1 (wrap64 (x5 + 1))) else (some false))) else (none)) else (none)) else (some true)
def laws_eqReportS.f (k : Nat) (l0 : List (S41)) (l1 : List (S41)) : Option (Bool) := if (l0.length : Int) = (l1.length : Int) then (laws_eqReportS.l0 k l0 l1 0) else (some false)
theorem laws_eqReportS.mono_l : ∀ k, (∀ y0 y1 y2, LeO (laws_eqReportS.l0 k y0 y1 y2) (laws_eqReportS.l0 (k + 1) y0 y1 y2))
  | 0 => fun _ _ _ r h => by simp [laws_eqReportS.l0] at h
  | k + 1 => by
    have ih0 := laws_eqReportS.mono_l k
    · intro y0 y1 y2
      unfold laws_eqReportS.l0
      repeat' first
      | (with_reducible exact ih0 _ _ _)
      | (with_reducible exact laws_eqReport.mono _ _ _ _ _ _ _ _ _ _ _ _ _ _ _ _ _)
      | (with_reducible exact LeO.refl _)
      | (with_reducible exact LeO.none _)
      | (with_reducible refine LeO.ite ?_ ?_)
      | (with_reducible refine LeO.bind ?_ (fun _ => ?_))
      | exact ih0 _ _ _
      | exact laws_eqReport.mono _ _ _ _ _ _ _ _ _ _ _ _ _ _ _ _ _
      | exact LeO.none _
      | refine LeO.ite ?_ ?_
      | refine LeO.bind ?_ (fun _ => ?_)
theorem laws_eqReportS.mono : ∀ a0 a1 k, LeO (laws_eqReportS.f k a0 a1) (laws_eqReportS.f (k + 1) a0 a1) := by
  intro a0 a1 k
  have ih0 := laws_eqReportS.mono_l k
  unfold laws_eqReportS.f
  repeat' first
      | (with_reducible exact ih0 _ _ _)
      | (with_reducible exact laws_eqReport.mono _ _ _ _ _ _ _ _ _ _ _ _ _ _ _ _ _)
      | (with_reducible exact LeO.refl _)
      | (with_reducible exact LeO.none _)
      | (with_reducible refine LeO.ite ?_ ?_)
      | (with_reducible refine LeO.bind ?_ (fun _ => ?_))
      | exact ih0 _ _ _
      | exact laws_eqReport.mono _ _ _ _ _ _ _ _ _ _ _ _ _ _ _ _ _
      | exact LeO.none _
      | refine LeO.ite ?_ ?_
      | refine LeO.bind ?_ (fun _ => ?_)
def laws_eqReportS.T6 : Bool × List (List Nat × List Nat) := (true, [([], []), ([], []), ([0, 1], [0, 1]), ([2], [2]), ([], []), ([], []), ([4, 5], [4, 5]), ([6], [6]), ([3, 7], [3, 7]), ([8], [8])])
def laws_eqReportS.B6 : List Nat := [0, 0, 3, 7, 0, 0, 48, 112, 255, 511]
theorem laws_eqReportS.tab6 : rtab .any (opsOf Try.f29 6) = laws_eqReportS.T6 := by kernel_rfl
theorem laws_eqReportS.bits6 : waitsOk laws_eqReportS.T6.2 laws_eqReportS.B6 = true := by kernel_rfl
abbrev M7_0 : Array Bool := #[false, false, false, false, false, false, false, false, false, false]
abbrev M7_1 : Array Bool := #[true, false, false, false, false, false, false, false, false, false]
abbrev M7_2 : Array Bool := #[true, true, false, false, false, false, false, false, false, false]
abbrev M7_3 : Array Bool := #[true, true, true, false, false, false, false, false, false, false]
abbrev M7_4 : Array Bool := #[true, true, true, false, true, false, false, false, false, false]
abbrev M7_5 : Array Bool := #[true, true, true, false, true, true, false, false, false, false]
abbrev M7_6 : Array Bool := #[true, true, true, false, true, true, true, false, false, false]
abbrev M7_7 : Array Bool := #[true, true, true, true, true, true, true, false, false, false]
abbrev M7_8 : Array Bool := #[true, true, true, true, true, true, true, true, false, false]
abbrev M7_9 : Array Bool := #[true, true, true, true, true, true, true, true, true, false]
abbrev M7_10 : Array Bool := #[true, true, true, true, true, true, true, true, true, true]
set_option maxHeartbeats 8000000 in
set_option maxRecDepth 100000 in
theorem laws_eqReportS.calls (k : Nat) (A0 : Option Addr) (c0 : Nat) (l0 : List (S41)) (A1 : Option Addr) (c1 : Nat) (l1 : List (S41)) (r : Bool) (w : World) (hr0 : Kd.C k41 w A0 l0.length l0) (hc0 : l0.length ≤ c0) (hr1 : Kd.C k41 w A1 l1.length l1) (hc1 : l1.length ≤ c1) (h : laws_eqReportS.f k l0 l1 = some r) :
    Calls Try.prog 29 #[.slice A0 l0.length c0, .slice A1 l1.length c1] w fun e w' => e = .returned (.bool r) ∧ Below w.heap.size w w' := by
  have hu41 := Try.underlying41
  have HR0 := Aside0.mk hr0
  have HC0 := Aside0.mk hc0
  clear hr0 hc0
  have HR1 := Aside0.mk hr1
  have HC1 := Aside0.mk hc1
  clear hr1 hc1
  have HB := Aside0.mk (Below.refl w.heap.size w)
  have H : (if (l0.length : Int) = (l1.length : Int) then (laws_eqReportS.l0 k l0 l1 0) else (some false)) = some r := h
  clear h
  by_cases c3 : (l0.length : Int) = (l1.length : Int)
  · rw [if_pos c3] at H
    have c3b0 : ((l0.length : Int) == (l1.length : Int)) = true := beq_iff_eq.mpr c3
    have c3b1 : ((l0.length : Int) != (l1.length : Int)) = false := bne_eq_false_iff_eq.mpr c3
    have c3b2 : (l0.length == l1.length) = true := by first | simpa using c3 | (simp at c3 ⊢; omega)
    clear c3
    have H' := Aside0.mk H
    clear H
    go_enter Try.func29, Try.ntmps29
    go_wp2
    go_loopg [5] k (fun kq v5 w' => ∃ (x5_1 : Int), v5 = .int .i64 x5_1 ∧ Aside0 (laws_eqReportS.l0 kq l0 l1 x5_1 = some r) ∧ Aside0 (kq ≤ k) ∧ Aside0 (Below w.heap.size w w'))
    case atStart => exact ⟨(0), (by first | rfl | (simp; done) | (simp [*]; done)), H', ⟨Nat.le_refl _⟩, ⟨hd_ HB.out⟩⟩
    case round =>
      clear H'
      try clear c1
      try clear c2
      try clear p2
      try clear c3
      try clear c3b0
      try clear c3b1
      try clear c3b2
      obtain ⟨x5_1, rfl, HA, HK1, HB⟩ := hrel
      cases gk with
      | zero => exact absurd HA.out (by simp [laws_eqReportS.l0])
      | succ k1 =>
        have H := HA.out
        clear HA
        simp only [laws_eqReportS.l0] at H
        by_cases c4 : x5_1 < (l0.length : Int)
        · rw [if_pos c4] at H
          have c4b0 : decide (x5_1 < (l0.length : Int)) = true := decide_eq_true c4
          clear c4
          by_cases c5 : 0 ≤ x5_1
          · rw [if_pos c5] at H
            have c5b0 : decide (0 ≤ x5_1) = true := decide_eq_true c5
            clear c5
            by_cases c6 : x5_1 < (l1.length : Int)
            · rw [if_pos c6] at H
              have c6b0 : decide (x5_1 < (l1.length : Int)) = true := decide_eq_true c6
              clear c6
              replace H := Option.bind_eq_some_iff.mp H
              obtain ⟨t348, A70, H⟩ := H
              replace H : (if t348 = true then (laws_eqReportS.l0 k1 l0 l1 (wrap64 (x5_1 + 1))) else (some false)) = some r := H
              have A7 := Aside0.mk A70
              clear A70
              by_cases c8 : t348 = true
              · subst c8
                have H1 : (laws_eqReportS.l0 k1 l0 l1 (wrap64 (x5_1 + 1))) = some r := by rw [if_pos rfl] at H; exact H
                clear H
                have H := H1
                clear H1
                have H' := Aside0.mk H
                clear H
                try go_wp2
                have n0_ := Aside0.mk (below_drew1 HB.out)
                clear HB
                have HB := n0_
                clear n0_
                have p346 : 0 ≤ (x5_1 : Int) := of_decide_eq_true as_
                have q346 : x5_1 < (l0.length : Int) := of_decide_eq_true as_
                obtain ⟨ad346, A346_2, c346_2, A346_5, c346_5, e346, hx346_0, hx346_1, hx346_2, hx346_3, hx346_4, hx346_5, hx346_6, hx346_7, hl346_2, hi346_2, hl346_5, hi346_5⟩ := at_T41 HR0.out x5_1 p346 q346
                have hw346_7 := hx346_7
                have hw346_6 := hx346_6
                have hw346_5 := hx346_5
                have hw346_4 := hx346_4
                have hw346_3 := hx346_3
                have hw346_2 := hx346_2
                have hw346_1 := hx346_1
                have hw346_0 := hx346_0
                cases e346
                replace hx346_0 := cb_ HB.out hx346_0
                replace hx346_1 := cb_ HB.out hx346_1
                replace hx346_2 := cb_ HB.out hx346_2
                replace hx346_3 := cb_ HB.out hx346_3
                replace hx346_4 := cb_ HB.out hx346_4
                replace hx346_5 := cb_ HB.out hx346_5
                replace hx346_6 := cb_ HB.out hx346_6
                replace hx346_7 := cb_ HB.out hx346_7
                have HR346_2 := Aside0.mk hi346_2
                have HC346_2 := Aside0.mk hl346_2
                clear hi346_2 hl346_2
                have HR346_5 := Aside0.mk hi346_5
                have HC346_5 := Aside0.mk hl346_5
                clear hi346_5 hl346_5
                replace p346 := eq_true p346
                replace q346 := eq_true q346
                have p347 : 0 ≤ (x5_1 : Int) := of_decide_eq_true as_
                have q347 : x5_1 < (l1.length : Int) := of_decide_eq_true as_
                obtain ⟨ad347, A347_2, c347_2, A347_5, c347_5, e347, hx347_0, hx347_1, hx347_2, hx347_3, hx347_4, hx347_5, hx347_6, hx347_7, hl347_2, hi347_2, hl347_5, hi347_5⟩ := at_T41 HR1.out x5_1 p347 q347
                have hw347_7 := hx347_7
                have hw347_6 := hx347_6
                have hw347_5 := hx347_5
                have hw347_4 := hx347_4
                have hw347_3 := hx347_3
                have hw347_2 := hx347_2
                have hw347_1 := hx347_1
                have hw347_0 := hx347_0
                cases e347
                replace hx347_0 := cb_ HB.out hx347_0
                replace hx347_1 := cb_ HB.out hx347_1
                replace hx347_2 := cb_ HB.out hx347_2
                replace hx347_3 := cb_ HB.out hx347_3
                replace hx347_4 := cb_ HB.out hx347_4
                replace hx347_5 := cb_ HB.out hx347_5
                replace hx347_6 := cb_ HB.out hx347_6
                replace hx347_7 := cb_ HB.out hx347_7
                have HR347_2 := Aside0.mk hi347_2
                have HC347_2 := Aside0.mk hl347_2
                clear hi347_2 hl347_2
                have HR347_5 := Aside0.mk hi347_5
                have HC347_5 := Aside0.mk hl347_5
                clear hi347_5 hl347_5
                replace p347 := eq_true p347
                replace q347 := eq_true q347
                refine start_ (n := 10) (S := fun w' => q2_ w' (ad346.add ((x5_1).toNat * 8)) ((rd_T41 l0 x5_1).f0) ((rd_T41 l0 x5_1).f1) A346_2 ((rd_T41 l0 x5_1).f2).length c346_2 ((rd_T41 l0 x5_1).f3) ((rd_T41 l0 x5_1).f4) A346_5 ((rd_T41 l0 x5_1).f5).length c346_5 ((rd_T41 l0 x5_1).f6.f0) ((rd_T41 l0 x5_1).f6.f1) (q2e_ w' (ad347.add ((x5_1).toNat * 8)) ((rd_T41 l1 x5_1).f0) ((rd_T41 l1 x5_1).f1) A347_2 ((rd_T41 l1 x5_1).f2).length c347_2 ((rd_T41 l1 x5_1).f3) ((rd_T41 l1 x5_1).f4) A347_5 ((rd_T41 l1 x5_1).f5).length c347_5 ((rd_T41 l1 x5_1).f6.f0) ((rd_T41 l1 x5_1).f6.f1))) (ds := []) M7_0 (by kernel_rfl) rfl rfl ⟨(cb_ HB.out hw346_0), (cb_ HB.out hw346_1), (cb_ HB.out hw346_2), (cb_ HB.out hw346_3), (cb_ HB.out hw346_4), (cb_ HB.out hw346_5), (cb_ HB.out hw346_6), (cb_ HB.out hw346_7), (cb_ HB.out hw347_0), (cb_ HB.out hw347_1), (cb_ HB.out hw347_2), (cb_ HB.out hw347_3), (cb_ HB.out hw347_4), (cb_ HB.out hw347_5), (cb_ HB.out hw347_6), (cb_ HB.out hw347_7)⟩ (fun hHeld => ?_); refine with_tabW laws_eqReportS.tab6 laws_eqReportS.bits6 (fun HT_ HW_ => ?_)
                generalize wr.drew = w9 at HB HR346_2 HR346_5 HR347_2 HR347_5 hx346_0 hx346_1 hx346_2 hx346_3 hx346_4 hx346_5 hx346_6 hx346_7 hx347_0 hx347_1 hx347_2 hx347_3 hx347_4 hx347_5 hx347_6 hx347_7 hHeld ⊢
                refine pu_ 0 (some 17) M7_1 HT_ ?_
                refine pu_ 1 (some 18) M7_2 HT_ ?_
                refine pu_ 2 (some 19) M7_3 HT_ ?_
                refine pu_ 4 (some 21) M7_4 HT_ ?_
                refine pu_ 5 (some 22) M7_5 HT_ ?_
                refine pu_ 6 (some 23) M7_6 HT_ ?_
                refine tk_ 3 (some 20) M7_7 HT_ HW_ hHeld ?_
                refine tk_ 7 (some 24) M7_8 HT_ HW_ hHeld ?_
                refine one_ (i := 8) (N := some 25) M7_9 rfl rfl (one_of HT_.out (by kernel_rfl)) (by decide) (fun K hK => ?_)
                refine goes_ Try.func21 (by kernel_rfl) rfl #[.agg #[.int .i64 ((rd_T41 l0 x5_1).f0), .int .i64 ((rd_T41 l0 x5_1).f1), .slice A346_2 ((rd_T41 l0 x5_1).f2).length c346_2, .int .i64 ((rd_T41 l0 x5_1).f3), .int .i64 ((rd_T41 l0 x5_1).f4), .slice A346_5 ((rd_T41 l0 x5_1).f5).length c346_5, .int .i64 ((rd_T41 l0 x5_1).f6.f0), .int .i64 ((rd_T41 l0 x5_1).f6.f1)], .agg #[.int .i64 ((rd_T41 l1 x5_1).f0), .int .i64 ((rd_T41 l1 x5_1).f1), .slice A347_2 ((rd_T41 l1 x5_1).f2).length c347_2, .int .i64 ((rd_T41 l1 x5_1).f3), .int .i64 ((rd_T41 l1 x5_1).f4), .slice A347_5 ((rd_T41 l1 x5_1).f5).length c347_5, .int .i64 ((rd_T41 l1 x5_1).f6.f0), .int .i64 ((rd_T41 l1 x5_1).f6.f1)]] (by rfl) rfl rfl ma_ ?_
                with_reducible refine (laws_eqReport.calls k1 ((rd_T41 l0 x5_1).f0) ((rd_T41 l0 x5_1).f1) _ _ ((rd_T41 l0 x5_1).f2) ((rd_T41 l0 x5_1).f3) ((rd_T41 l0 x5_1).f4) _ _ ((rd_T41 l0 x5_1).f5) ((rd_T41 l0 x5_1).f6.f0) ((rd_T41 l0 x5_1).f6.f1) ((rd_T41 l1 x5_1).f0) ((rd_T41 l1 x5_1).f1) _ _ ((rd_T41 l1 x5_1).f2) ((rd_T41 l1 x5_1).f3) ((rd_T41 l1 x5_1).f4) _ _ ((rd_T41 l1 x5_1).f5) ((rd_T41 l1 x5_1).f6.f0) ((rd_T41 l1 x5_1).f6.f1) true _ ?side1 ?side2 ?side3 ?side4 ?side5 ?side6 ?side7 ?side8 A7.out).mono ?_
                (case side1 => exact cd_ (Kd.C_below HR346_2.out HB.out))
                (case side2 => exact HC346_2.out)
                (case side3 => exact cd_ (Kd.C_below HR346_5.out HB.out))
                (case side4 => exact HC346_5.out)
                (case side5 => exact cd_ (Kd.C_below HR347_2.out HB.out))
                (case side6 => exact HC347_2.out)
                (case side7 => exact cd_ (Kd.C_below HR347_5.out HB.out))
                (case side8 => exact HC347_5.out)
                rintro e w10 ⟨rfl, hb⟩
                refine ⟨_, rfl, ?_⟩
                have n0_ := Aside0.mk (below_step (hd_ HB.out) hb)
                clear HB
                have HB := n0_
                clear n0_
                (try clear hb)
                (try clear hb2)
                (try clear hk)
                (try clear hi)
                refine hK.out _ _ ⟨(cb_ HB.out hw346_0), (cb_ HB.out hw346_1), (cb_ HB.out hw346_2), (cb_ HB.out hw346_3), (cb_ HB.out hw346_4), (cb_ HB.out hw346_5), (cb_ HB.out hw346_6), (cb_ HB.out hw346_7), (cb_ HB.out hw347_0), (cb_ HB.out hw347_1), (cb_ HB.out hw347_2), (cb_ HB.out hw347_3), (cb_ HB.out hw347_4), (cb_ HB.out hw347_5), (cb_ HB.out hw347_6), (cb_ HB.out hw347_7)⟩ (fun hHeld => ?_)
                clear hK K
                refine norm_ (a' := ?_) ?_ ?_
                rotate_left
                · show Act.put _ (some 25) _ = _
                  simp only [Act.put, List.setIfInBounds_toArray, List.set_cons_zero, List.set_cons_succ, i64_w, i32_w]
                  rfl
                refine pu_ 9 (some 26) M7_10 HT_ ?_
                refine done_ (done_of HT_.out (by kernel_rfl)) ?_
                try go_wp2
                go_roundg k1
                case measure => have := HK1.out; omega
                case rel => exact ⟨(wrap64 (x5_1 + 1)), (by first | rfl | (simp; done) | (simp [*]; done)), H', ⟨by have := HK1.out; omega⟩, ⟨hd_ HB.out⟩⟩
              · replace c8 := Bool.eq_false_iff.mpr c8
                subst c8
                have H1 : (some false) = some r := by rw [if_neg (show ¬ (false = true) by decide)] at H; exact H
                clear H
                have H := H1
                clear H1
                obtain rfl := Option.some.inj H
                try go_wp2
                have n0_ := Aside0.mk (below_drew1 HB.out)
                clear HB
                have HB := n0_
                clear n0_
                have p346 : 0 ≤ (x5_1 : Int) := of_decide_eq_true as_
                have q346 : x5_1 < (l0.length : Int) := of_decide_eq_true as_
                obtain ⟨ad346, A346_2, c346_2, A346_5, c346_5, e346, hx346_0, hx346_1, hx346_2, hx346_3, hx346_4, hx346_5, hx346_6, hx346_7, hl346_2, hi346_2, hl346_5, hi346_5⟩ := at_T41 HR0.out x5_1 p346 q346
                have hw346_7 := hx346_7
                have hw346_6 := hx346_6
                have hw346_5 := hx346_5
                have hw346_4 := hx346_4
                have hw346_3 := hx346_3
                have hw346_2 := hx346_2
                have hw346_1 := hx346_1
                have hw346_0 := hx346_0
                cases e346
                replace hx346_0 := cb_ HB.out hx346_0
                replace hx346_1 := cb_ HB.out hx346_1
                replace hx346_2 := cb_ HB.out hx346_2
                replace hx346_3 := cb_ HB.out hx346_3
                replace hx346_4 := cb_ HB.out hx346_4
                replace hx346_5 := cb_ HB.out hx346_5
                replace hx346_6 := cb_ HB.out hx346_6
                replace hx346_7 := cb_ HB.out hx346_7
                have HR346_2 := Aside0.mk hi346_2
                have HC346_2 := Aside0.mk hl346_2
                clear hi346_2 hl346_2
                have HR346_5 := Aside0.mk hi346_5
                have HC346_5 := Aside0.mk hl346_5
                clear hi346_5 hl346_5
                replace p346 := eq_true p346
                replace q346 := eq_true q346
                have p347 : 0 ≤ (x5_1 : Int) := of_decide_eq_true as_
                have q347 : x5_1 < (l1.length : Int) := of_decide_eq_true as_
                obtain ⟨ad347, A347_2, c347_2, A347_5, c347_5, e347, hx347_0, hx347_1, hx347_2, hx347_3, hx347_4, hx347_5, hx347_6, hx347_7, hl347_2, hi347_2, hl347_5, hi347_5⟩ := at_T41 HR1.out x5_1 p347 q347
                have hw347_7 := hx347_7
                have hw347_6 := hx347_6
                have hw347_5 := hx347_5
                have hw347_4 := hx347_4
                have hw347_3 := hx347_3
                have hw347_2 := hx347_2
                have hw347_1 := hx347_1
                have hw347_0 := hx347_0
                cases e347
                replace hx347_0 := cb_ HB.out hx347_0
                replace hx347_1 := cb_ HB.out hx347_1
                replace hx347_2 := cb_ HB.out hx347_2
                replace hx347_3 := cb_ HB.out hx347_3
                replace hx347_4 := cb_ HB.out hx347_4
                replace hx347_5 := cb_ HB.out hx347_5
                replace hx347_6 := cb_ HB.out hx347_6
                replace hx347_7 := cb_ HB.out hx347_7
                have HR347_2 := Aside0.mk hi347_2
                have HC347_2 := Aside0.mk hl347_2
                clear hi347_2 hl347_2
                have HR347_5 := Aside0.mk hi347_5
                have HC347_5 := Aside0.mk hl347_5
                clear hi347_5 hl347_5
                replace p347 := eq_true p347
                replace q347 := eq_true q347
                refine start_ (n := 10) (S := fun w' => q2_ w' (ad346.add ((x5_1).toNat * 8)) ((rd_T41 l0 x5_1).f0) ((rd_T41 l0 x5_1).f1) A346_2 ((rd_T41 l0 x5_1).f2).length c346_2 ((rd_T41 l0 x5_1).f3) ((rd_T41 l0 x5_1).f4) A346_5 ((rd_T41 l0 x5_1).f5).length c346_5 ((rd_T41 l0 x5_1).f6.f0) ((rd_T41 l0 x5_1).f6.f1) (q2e_ w' (ad347.add ((x5_1).toNat * 8)) ((rd_T41 l1 x5_1).f0) ((rd_T41 l1 x5_1).f1) A347_2 ((rd_T41 l1 x5_1).f2).length c347_2 ((rd_T41 l1 x5_1).f3) ((rd_T41 l1 x5_1).f4) A347_5 ((rd_T41 l1 x5_1).f5).length c347_5 ((rd_T41 l1 x5_1).f6.f0) ((rd_T41 l1 x5_1).f6.f1))) (ds := []) M7_0 (by kernel_rfl) rfl rfl ⟨(cb_ HB.out hw346_0), (cb_ HB.out hw346_1), (cb_ HB.out hw346_2), (cb_ HB.out hw346_3), (cb_ HB.out hw346_4), (cb_ HB.out hw346_5), (cb_ HB.out hw346_6), (cb_ HB.out hw346_7), (cb_ HB.out hw347_0), (cb_ HB.out hw347_1), (cb_ HB.out hw347_2), (cb_ HB.out hw347_3), (cb_ HB.out hw347_4), (cb_ HB.out hw347_5), (cb_ HB.out hw347_6), (cb_ HB.out hw347_7)⟩ (fun hHeld => ?_); refine with_tabW laws_eqReportS.tab6 laws_eqReportS.bits6 (fun HT_ HW_ => ?_)
                generalize wr.drew = w11 at HB HR346_2 HR346_5 HR347_2 HR347_5 hx346_0 hx346_1 hx346_2 hx346_3 hx346_4 hx346_5 hx346_6 hx346_7 hx347_0 hx347_1 hx347_2 hx347_3 hx347_4 hx347_5 hx347_6 hx347_7 hHeld ⊢
                refine pu_ 0 (some 17) M7_1 HT_ ?_
                refine pu_ 1 (some 18) M7_2 HT_ ?_
                refine pu_ 2 (some 19) M7_3 HT_ ?_
                refine pu_ 4 (some 21) M7_4 HT_ ?_
                refine pu_ 5 (some 22) M7_5 HT_ ?_
                refine pu_ 6 (some 23) M7_6 HT_ ?_
                refine tk_ 3 (some 20) M7_7 HT_ HW_ hHeld ?_
                refine tk_ 7 (some 24) M7_8 HT_ HW_ hHeld ?_
                refine one_ (i := 8) (N := some 25) M7_9 rfl rfl (one_of HT_.out (by kernel_rfl)) (by decide) (fun K hK => ?_)
                refine goes_ Try.func21 (by kernel_rfl) rfl #[.agg #[.int .i64 ((rd_T41 l0 x5_1).f0), .int .i64 ((rd_T41 l0 x5_1).f1), .slice A346_2 ((rd_T41 l0 x5_1).f2).length c346_2, .int .i64 ((rd_T41 l0 x5_1).f3), .int .i64 ((rd_T41 l0 x5_1).f4), .slice A346_5 ((rd_T41 l0 x5_1).f5).length c346_5, .int .i64 ((rd_T41 l0 x5_1).f6.f0), .int .i64 ((rd_T41 l0 x5_1).f6.f1)], .agg #[.int .i64 ((rd_T41 l1 x5_1).f0), .int .i64 ((rd_T41 l1 x5_1).f1), .slice A347_2 ((rd_T41 l1 x5_1).f2).length c347_2, .int .i64 ((rd_T41 l1 x5_1).f3), .int .i64 ((rd_T41 l1 x5_1).f4), .slice A347_5 ((rd_T41 l1 x5_1).f5).length c347_5, .int .i64 ((rd_T41 l1 x5_1).f6.f0), .int .i64 ((rd_T41 l1 x5_1).f6.f1)]] (by rfl) rfl rfl ma_ ?_
                with_reducible refine (laws_eqReport.calls k1 ((rd_T41 l0 x5_1).f0) ((rd_T41 l0 x5_1).f1) _ _ ((rd_T41 l0 x5_1).f2) ((rd_T41 l0 x5_1).f3) ((rd_T41 l0 x5_1).f4) _ _ ((rd_T41 l0 x5_1).f5) ((rd_T41 l0 x5_1).f6.f0) ((rd_T41 l0 x5_1).f6.f1) ((rd_T41 l1 x5_1).f0) ((rd_T41 l1 x5_1).f1) _ _ ((rd_T41 l1 x5_1).f2) ((rd_T41 l1 x5_1).f3) ((rd_T41 l1 x5_1).f4) _ _ ((rd_T41 l1 x5_1).f5) ((rd_T41 l1 x5_1).f6.f0) ((rd_T41 l1 x5_1).f6.f1) false _ ?side1 ?side2 ?side3 ?side4 ?side5 ?side6 ?side7 ?side8 A7.out).mono ?_
                (case side1 => exact cd_ (Kd.C_below HR346_2.out HB.out))
                (case side2 => exact HC346_2.out)
                (case side3 => exact cd_ (Kd.C_below HR346_5.out HB.out))
                (case side4 => exact HC346_5.out)
                (case side5 => exact cd_ (Kd.C_below HR347_2.out HB.out))
                (case side6 => exact HC347_2.out)
                (case side7 => exact cd_ (Kd.C_below HR347_5.out HB.out))
                (case side8 => exact HC347_5.out)
                rintro e w12 ⟨rfl, hb⟩
                refine ⟨_, rfl, ?_⟩
                have n0_ := Aside0.mk (below_step (hd_ HB.out) hb)
                clear HB
                have HB := n0_
                clear n0_
                (try clear hb)
                (try clear hb2)
                (try clear hk)
                (try clear hi)
                refine hK.out _ _ ⟨(cb_ HB.out hw346_0), (cb_ HB.out hw346_1), (cb_ HB.out hw346_2), (cb_ HB.out hw346_3), (cb_ HB.out hw346_4), (cb_ HB.out hw346_5), (cb_ HB.out hw346_6), (cb_ HB.out hw346_7), (cb_ HB.out hw347_0), (cb_ HB.out hw347_1), (cb_ HB.out hw347_2), (cb_ HB.out hw347_3), (cb_ HB.out hw347_4), (cb_ HB.out hw347_5), (cb_ HB.out hw347_6), (cb_ HB.out hw347_7)⟩ (fun hHeld => ?_)
                clear hK K
                refine norm_ (a' := ?_) ?_ ?_
                rotate_left
                · show Act.put _ (some 25) _ = _
                  simp only [Act.put, List.setIfInBounds_toArray, List.set_cons_zero, List.set_cons_succ, i64_w, i32_w]
                  rfl
                refine pu_ 9 (some 26) M7_10 HT_ ?_
                refine done_ (done_of HT_.out (by kernel_rfl)) ?_
                try go_wp2
                go_ret
                exact ⟨by first | rfl | (simp [errW_none, errW_some] <;> rfl) | (simp [*, errW_none, errW_some] <;> rfl), hd_ HB.out⟩
            · rw [if_neg c6] at H
              exact absurd H (by simp)
          · rw [if_neg c5] at H
            exact absurd H (by simp)
        · rw [if_neg c4] at H
          have c4b0 : decide (x5_1 < (l0.length : Int)) = false := decide_eq_false c4
          clear c4
          obtain rfl := Option.some.inj H
          go_wp2
          go_ret
          exact ⟨by first | rfl | (simp [errW_none, errW_some] <;> rfl) | (simp [*, errW_none, errW_some] <;> rfl), hd_ HB.out⟩
  · rw [if_neg c3] at H
    have c3b0 : ((l0.length : Int) == (l1.length : Int)) = false := beq_eq_false_iff_ne.mpr c3
    have c3b1 : ((l0.length : Int) != (l1.length : Int)) = true := bne_iff_ne.mpr c3
    have c3b2 : (l0.length == l1.length) = false := by first | simpa using c3 | (simp at c3 ⊢; omega)
    obtain rfl := Option.some.inj H
    go_enter Try.func29, Try.ntmps29
    go_wp2
    go_ret
    exact ⟨by first | rfl | (simp [errW_none, errW_some] <;> rfl) | (simp [*, errW_none, errW_some] <;> rfl), hd_ HB.out⟩

/-! ### laws_markReportS: function 30 -/
/-- k, counted up n times. -/
def laws_markReportS.inc : Nat → Int → Int
  | 0, x => x
  | n + 1, x => laws_markReportS.inc n (wrap64 (x + 1))
def laws_markReportS.up : List S41 → Int → Int
  | [], x => x
  | y :: l, x => laws_markReportS.up l (laws_markReportS.inc 2 (laws_markReportS.inc y.f5.length (laws_markReportS.inc 2 (laws_markReportS.inc y.f2.length (laws_markReportS.inc 2 x)))))
def laws_markReportS.f (l0 : List S41) (a1 : Int) : Option Int := some (laws_markReportS.up l0 a1)
theorem laws_markReportS.both {l0 : List S41} {a1 r : Int} (h : laws_markReportS.f l0 a1 = some r) : ∃ _ : Unit, laws_markReportS.f l0 a1 = some r := ⟨(), h⟩
/-- Whole numbers were stored over whole numbers, in blocks of B: rows that share a block are no matter. -/
structure laws_markReportS.Sto (B : Nat → Prop) (w w' : World) : Prop where
  size : w.heap.size ≤ w'.heap.size
  kept : ∀ k, k < w.heap.size → ¬ B k → w'.heap[k]? = w.heap[k]?
  int : ∀ a, (∃ m, w.cell? a = some (.int .i64 m)) → ∃ m, w'.cell? a = some (.int .i64 m)
  other : ∀ a u, w.cell? a = some u → (∀ m, u ≠ .int .i64 m) → w'.cell? a = some u
  frz : ∀ a, w'.frozen? a = w.frozen? a
  bel : ∀ {b : Nat} {W : World}, (∀ k, B k → b ≤ k) → Below b W w → Below b W w'
theorem laws_markReportS.Sto.refl (B : Nat → Prop) (w : World) : laws_markReportS.Sto B w w := ⟨Nat.le_refl _, fun _ _ _ => rfl, fun _ h => h, fun _ _ h _ => h, fun _ => rfl, fun _ h => h⟩
theorem laws_markReportS.Sto.trans {B : Nat → Prop} {w w1 w2 : World} (h : laws_markReportS.Sto B w w1) (k : laws_markReportS.Sto B w1 w2) : laws_markReportS.Sto B w w2 :=
  ⟨Nat.le_trans h.size k.size, fun i hi hn => (k.kept i (Nat.lt_of_lt_of_le hi h.size) hn).trans (h.kept i hi hn), fun a ha => k.int a (h.int a ha), fun a u ha hu => k.other a u (h.other a u ha hu) hu, fun a => (k.frz a).trans (h.frz a), fun hb h1 => k.bel hb (h.bel hb h1)⟩
theorem laws_markReportS.Sto.set {B : Nat → Prop} {w : World} {p : Addr} (h : ∃ m, w.cell? p = some (.int .i64 m)) (hp : B p.block) (x : Int) : laws_markReportS.Sto B w (w.setCell p (.int .i64 x)) := by
  obtain ⟨m0, h0⟩ := h
  refine ⟨by simp [World.setCell], fun k _ hn => Below.heap_setCell _ _ _ _ (fun e => hn (e ▸ hp)), fun a ha => ?_, fun a u ha hu => ?_, fun a => by simp, fun hb h1 => h1.setCell (hb _ hp) _⟩
  · obtain ⟨m, hm⟩ := ha
    by_cases e : p = a
    · subst e
      exact ⟨x, World.cell?_setCell_same _ _ _ hm⟩
    · exact ⟨m, (World.cell?_setCell_other _ _ _ _ e).trans hm⟩
  · have e : p ≠ a := fun e => by subst e; rw [h0] at ha; exact hu m0 (Option.some.inj ha).symm
    exact (World.cell?_setCell_other _ _ _ _ e).trans ha
/-- n whole numbers from A on, in a block of B. -/
def laws_markReportS.Ints (w : World) (B : Nat → Prop) (A : Option Addr) (n : Nat) : Prop := n ≤ 9223372036854775807 ∧ ∀ z : Int, 0 ≤ z → z < n → ∃ g : Nat, A = some ⟨g, 0, none⟩ ∧ B g ∧ (∃ m, w.cell? ⟨g, z.toNat, none⟩ = some (.int .i64 m)) ∧ w.frozen? ⟨g, z.toNat, none⟩ = false
theorem laws_markReportS.Ints.sto {w w1 : World} {B : Nat → Prop} {A : Option Addr} {n : Nat} (h : laws_markReportS.Ints w B A n) (s : laws_markReportS.Sto B w w1) : laws_markReportS.Ints w1 B A n :=
  ⟨h.1, fun z h0 h1 => by
    obtain ⟨g, e, hg, hc, hf⟩ := h.2 z h0 h1
    exact ⟨g, e, hg, s.int _ hc, (s.frz _).trans hf⟩⟩
theorem laws_markReportS.Ints.of {w : World} {base : Nat} {ok B : Nat → Prop} {A : Option Addr} {n c : Nat} {xs : List Int} (h : Kd.R (Kd.int .i64) 3 w base ok (.slice A n c) xs) (hB : ∀ k, ok k → base ≤ k → B k) : laws_markReportS.Ints w B A n := by
  obtain ⟨rfl, _, hC⟩ := Kd.R_reads' h
  refine ⟨Kd.C_max hC, fun z h0 h1 => ?_⟩
  obtain ⟨g, cap, e, hb, _, _⟩ := Kd.R_form h (by omega)
  injection e with ea _ ec
  subst ea
  obtain ⟨hc, hf⟩ := Kd.R_celln 0 h z h0 h1
  exact ⟨g, rfl, hB g (h.1 g rfl) hb, ⟨_, hc⟩, hf⟩
theorem laws_markReportS.inc_at {n : Nat} {z x : Int} (h0 : 0 ≤ z) (h1 : z < n) : laws_markReportS.inc (n - z.toNat) x = laws_markReportS.inc (n - (z + 1).toNat) (wrap64 (x + 1)) := by
  have : n - z.toNat = n - (z + 1).toNat + 1 := by omega
  rw [this]
  rfl
set_option maxHeartbeats 8000000 in
set_option maxRecDepth 100000 in
theorem laws_markReportS.ints (B : Nat → Prop) (A : Option Addr) (n c : Nat) (a1 r : Int) (w : World) (h : laws_markReportS.Ints w B A n) (hr : r = laws_markReportS.inc n a1) :
    Calls Try.prog 15 #[.slice A n c, .int .i64 a1] w fun e w' => e = .returned (.int .i64 r) ∧ laws_markReportS.Sto B w w' := by
  have HI := Aside0.mk h
  have HR := Aside0.mk hr
  clear h hr
  go_enter Try.func15, Try.ntmps15
  go_wp2
  go_loopg [1, 5] n (fun gg v1 v5 wr => ∃ (x z : Int), v1 = .int .i64 x ∧ v5 = .int .i64 z ∧ Aside0 (0 ≤ z) ∧ Aside0 (z ≤ (n : Int)) ∧ Aside0 ((n : Int) - z ≤ gg) ∧ Aside0 (laws_markReportS.Sto B w wr) ∧ Aside0 (laws_markReportS.inc (n - z.toNat) x = laws_markReportS.inc n a1))
  case atStart => exact ⟨a1, 0, rfl, rfl, ⟨by omega⟩, ⟨by omega⟩, ⟨by omega⟩, ⟨laws_markReportS.Sto.refl _ _⟩, ⟨rfl⟩⟩
  case round =>
    obtain ⟨x, z, rfl, rfl, Z0, Z1, ZG, HS, HE⟩ := hrel
    by_cases hlt : z < (n : Int)
    · have p1 : 0 ≤ z := Z0.out
      obtain ⟨g, e, hg, hc, hf⟩ := (HI.out.sto HS.out).2 z p1 hlt
      subst e
      have HC := Aside0.mk hc
      have HG := Aside0.mk hg
      obtain ⟨m, hx⟩ := hc
      have HL := Aside0.mk hlt
      have hltb : decide (z < (n : Int)) = true := decide_eq_true hlt
      have hwr : wrap64 (z + 1) = z + 1 := by have := HI.out.1; unfold wrap64; omega
      have HE2 := Aside0.mk ((laws_markReportS.inc_at (x := x) p1 hlt).symm.trans HE.out)
      clear hg
      replace p1 := eq_true p1
      replace hlt := eq_true hlt
      go_wp2_with (first | ((with_reducible refine gate_store (t := 3) (p := 15) rfl ?_); refine store_event (t := 3) (p := 15) (v := ?vo_w8) (w1 := (wr.setCell ⟨g, z.toNat, none⟩ (.int .i64 x))) ?hg ?ho ?hn ?hr ?_; (case ho => rfl); (case hg => rfl); (case hn => rfl); (case hr => first | (go_simp; done) | (go_simp; rfl)); intro w8 hw; have n0_ := Aside0.mk (show laws_markReportS.Sto B w w8 by rw [hw]; exact HS.out.trans (laws_markReportS.Sto.set HC.out HG.out x)); clear HS HC hx hf hw; have HS := n0_; clear n0_))
      go_roundg ((n : Int) - (z + 1)).toNat
      case measure => have := Z0.out; have := HL.out; have := ZG.out; omega
      case rel =>
        exact ⟨wrap64 (x + 1), z + 1, (by first | rfl | (simp; done) | (simp [*]; done)), (by first | rfl | (simp; done) | (simp [*]; done)), ⟨by have := Z0.out; omega⟩, ⟨by have := HL.out; omega⟩, ⟨by have := HL.out; omega⟩, HS, HE2⟩
    · have hltb : decide (z < (n : Int)) = false := decide_eq_false hlt
      have HX := Aside0.mk (show x = r by have h1 := HE.out; rw [show n - z.toNat = 0 by have := Z1.out; omega] at h1; rw [HR.out]; exact h1)
      clear hlt
      go_wp2
      go_ret
      exact ⟨by rw [← HX.out]; rfl, HS.out⟩
/-- One element's cells. -/
def laws_markReportS.At (W : World) (g k : Nat) (A2 : Option Addr) (n2 c2 : Nat) (A5 : Option Addr) (n5 c5 : Nat) : Prop :=
  (∃ m, W.cell? ⟨g, k, none⟩ = some (.int .i64 m)) ∧ (∃ m, W.cell? ⟨g, k + 1, none⟩ = some (.int .i64 m)) ∧ W.cell? ⟨g, k + 2, none⟩ = some (.slice A2 n2 c2) ∧ (∃ m, W.cell? ⟨g, k + 3, none⟩ = some (.int .i64 m)) ∧ (∃ m, W.cell? ⟨g, k + 4, none⟩ = some (.int .i64 m)) ∧
    W.cell? ⟨g, k + 5, none⟩ = some (.slice A5 n5 c5) ∧ (∃ m, W.cell? ⟨g, k + 6, none⟩ = some (.int .i64 m)) ∧ (∃ m, W.cell? ⟨g, k + 7, none⟩ = some (.int .i64 m)) ∧ ∀ j, W.frozen? ⟨g, k + j, none⟩ = false
theorem laws_markReportS.At.sto {w w1 : World} {B : Nat → Prop} {g k : Nat} {A2 : Option Addr} {n2 c2 : Nat} {A5 : Option Addr} {n5 c5 : Nat} (h : laws_markReportS.At w g k A2 n2 c2 A5 n5 c5) (s : laws_markReportS.Sto B w w1) : laws_markReportS.At w1 g k A2 n2 c2 A5 n5 c5 :=
  ⟨s.int _ h.1, s.int _ h.2.1, s.other _ _ h.2.2.1 (fun _ e => by cases e), s.int _ h.2.2.2.1, s.int _ h.2.2.2.2.1, s.other _ _ h.2.2.2.2.2.1 (fun _ e => by cases e), s.int _ h.2.2.2.2.2.2.1, s.int _ h.2.2.2.2.2.2.2.1, fun j => (s.frz _).trans (h.2.2.2.2.2.2.2.2 j)⟩
theorem laws_markReportS.at_ {w : World} {base : Nat} {ok B : Nat → Prop} {A : Option Addr} {n c : Nat} {l : List S41} (h : Kd.S k41 41 w base ok (.slice A n c) l) (hB : ∀ k, ok k → base ≤ k → B k) (z : Int) (h0 : 0 ≤ z) (h1 : z < l.length) :
    ∃ (g : Nat) (A2 : Option Addr) (c2 : Nat) (A5 : Option Addr) (c5 : Nat), A = some ⟨g, 0, none⟩ ∧ B g ∧ laws_markReportS.At w g (z.toNat * 8) A2 (rd_T41 l z).f2.length c2 A5 (rd_T41 l z).f5.length c5 ∧ laws_markReportS.Ints w B A2 (rd_T41 l z).f2.length ∧ laws_markReportS.Ints w B A5 (rd_T41 l z).f5.length := by
  obtain ⟨g, cap, e, hb, _, _⟩ := Kd.S_form h (by omega)
  injection e with ea en ec
  subst ea
  obtain ⟨cs, _, hM, hc, hf⟩ := Kd.R_elem (Kd.S_R h) z41 z h0 (by omega)
  obtain ⟨v2, v5, rfl, g2, g5⟩ := k41_openM hM
  obtain ⟨A2, c2, e2⟩ := Kd.R_slice g2
  obtain ⟨A5, c5, e5⟩ := Kd.R_slice g5
  subst e2
  subst e5
  exact ⟨g, A2, c2, A5, c5, rfl, hB g ((Kd.S_R h).1 g rfl) hb, ⟨⟨_, hc 0 _ rfl⟩, ⟨_, hc 1 _ rfl⟩, hc 2 _ rfl, ⟨_, hc 3 _ rfl⟩, ⟨_, hc 4 _ rfl⟩, hc 5 _ rfl, ⟨_, hc 6 _ rfl⟩, ⟨_, hc 7 _ rfl⟩, hf⟩, laws_markReportS.Ints.of g2 (fun k hk => hB k hk.1), laws_markReportS.Ints.of g5 (fun k hk => hB k hk.1)⟩
theorem laws_markReportS.up_at {l : List S41} {z x : Int} (h0 : 0 ≤ z) (h1 : z < l.length) : laws_markReportS.up (l.drop z.toNat) x = laws_markReportS.up (l.drop (z + 1).toNat) (laws_markReportS.inc 2 (laws_markReportS.inc (rd_T41 l z).f5.length (laws_markReportS.inc 2 (laws_markReportS.inc (rd_T41 l z).f2.length (laws_markReportS.inc 2 x))))) := by
  have hl : z.toNat < l.length := by omega
  rw [List.drop_eq_getElem_cons hl, show (z + 1).toNat = z.toNat + 1 by omega]
  show laws_markReportS.up _ _ = _
  rw [show rd_T41 l z = l[z.toNat] from by unfold rd_T41; rw [List.getD_eq_getElem?_getD, List.getElem?_eq_getElem hl]; rfl]
  rfl
set_option maxHeartbeats 8000000 in
set_option maxRecDepth 100000 in
theorem laws_markReportS.calls (P0_ : Nat → Prop) (u9000_ : Value) (l0 : List S41) (a1 : Int) (r1 : Int) (_r2 : Unit) (w0 w : World) (hB : Below w0.heap.size w0 w) (ho0 : Kd.S k41 41 w w0.heap.size P0_ u9000_ l0) (h : laws_markReportS.f l0 a1 = some r1) :
    Calls Try.prog 30 #[u9000_, .int .i64 a1] w fun e w' => e = .returned (.int .i64 r1) ∧ True ∧ Below w0.heap.size w0 w' ∧ Kept w w' (fun k_ => P0_ k_) := by
  have hu41 := Try.underlying41
  have hu39 := Try.underlying39
  have HR := Aside0.mk (Option.some.inj h)
  obtain ⟨A, c, ea⟩ := Kd.S_slice ho0
  subst ea
  have HO := Aside0.mk ho0
  have HB := Aside0.mk hB
  have hmax := Kd.C_max (Kd.S_reads' ho0).2.2
  clear h ho0 hB
  go_enter Try.func30, Try.ntmps30
  go_wp2
  go_loopg [1, 5] l0.length (fun gg v1 v5 wr => ∃ (x z : Int), v1 = .int .i64 x ∧ v5 = .int .i64 z ∧ Aside0 (0 ≤ z) ∧ Aside0 (z ≤ (l0.length : Int)) ∧ Aside0 ((l0.length : Int) - z ≤ gg) ∧ Aside0 (laws_markReportS.Sto (fun k => P0_ k ∧ w0.heap.size ≤ k) w wr) ∧ Aside0 (laws_markReportS.up (l0.drop z.toNat) x = laws_markReportS.up l0 a1))
  case atStart => exact ⟨a1, 0, rfl, rfl, ⟨by omega⟩, ⟨by omega⟩, ⟨by omega⟩, ⟨laws_markReportS.Sto.refl _ _⟩, ⟨rfl⟩⟩
  case round =>
    obtain ⟨x, z, rfl, rfl, Z0, Z1, ZG, HS, HE⟩ := hrel
    by_cases hlt : z < (l0.length : Int)
    · have p1 : 0 ≤ z := Z0.out
      obtain ⟨g, A2, c2, A5, c5, e, hg, ha, hi2, hi5⟩ := laws_markReportS.at_ (B := fun k => P0_ k ∧ w0.heap.size ≤ k) HO.out (fun k h1 h2 => ⟨h1, h2⟩) z p1 hlt
      subst e
      have HA := Aside0.mk ha
      have HG := Aside0.mk hg
      have HI2 := Aside0.mk hi2
      have HI5 := Aside0.mk hi5
      have HL := Aside0.mk hlt
      have HE2 := Aside0.mk ((laws_markReportS.up_at (x := x) p1 hlt).symm.trans HE.out)
      obtain ⟨n2, hn2⟩ : ∃ n, n = (rd_T41 l0 z).f2.length := ⟨_, rfl⟩
      obtain ⟨n5, hn5⟩ : ∃ n, n = (rd_T41 l0 z).f5.length := ⟨_, rfl⟩
      rw [← hn2, ← hn5] at HA HE2
      rw [← hn2] at HI2
      rw [← hn5] at HI5
      obtain ⟨m1, hm1⟩ : ∃ m, m = laws_markReportS.inc n2 (wrap64 (wrap64 (x + 1) + 1)) := ⟨_, rfl⟩
      obtain ⟨m2, hm2⟩ : ∃ m, m = laws_markReportS.inc n5 (wrap64 (wrap64 (m1 + 1) + 1)) := ⟨_, rfl⟩
      have HM1 := Aside0.mk hm1
      have HM2 := Aside0.mk hm2
      have HE3 := Aside0.mk (show laws_markReportS.up (l0.drop (z + 1).toNat) (wrap64 (wrap64 (m2 + 1) + 1)) = laws_markReportS.up l0 a1 by rw [hm2, hm1]; exact HE2.out)
      obtain ⟨y, hx⟩ := (HA.out.sto HS.out).1
      have hf := (HA.out.sto HS.out).2.2.2.2.2.2.2.2 0
      rw [Nat.add_zero] at hf
      have hltb : decide (z < (l0.length : Int)) = true := decide_eq_true hlt
      have hwr : wrap64 (z + 1) = z + 1 := by unfold wrap64; omega
      clear ha hg hi2 hi5 hm1 hm2 hn2 hn5 HE2
      replace p1 := eq_true p1
      replace hlt := eq_true hlt
      go_wp2_with (first | ((with_reducible refine gate_store (t := 3) (p := 16) rfl ?_); refine store_event (t := 3) (p := 16) (v := ?vo_w1) (w1 := (wr.setCell ⟨g, z.toNat * 8, none⟩ (.int .i64 x))) ?hg ?ho ?hn ?hr ?_; (case ho => rfl); (case hg => rfl); (case hn => rfl); (case hr => first | (go_simp; done) | (go_simp; rfl)); intro w1 hw; have n0_ := Aside0.mk (show laws_markReportS.Sto (fun k => P0_ k ∧ w0.heap.size ≤ k) w w1 by rw [hw]; exact HS.out.trans (laws_markReportS.Sto.set ⟨_, hx⟩ HG.out x)); clear HS hx hf hw; have HS := n0_; clear n0_; obtain ⟨y, hx⟩ := (HA.out.sto HS.out).2.1; have hf := (HA.out.sto HS.out).2.2.2.2.2.2.2.2 1) | ((with_reducible refine gate_store (t := 3) (p := 23) rfl ?_); refine store_event (t := 3) (p := 23) (v := ?vo_w2) (w1 := (w1.setCell ⟨g, z.toNat * 8 + 1, none⟩ (.int .i64 (wrap64 (x + 1))))) ?hg ?ho ?hn ?hr ?_; (case ho => rfl); (case hg => rfl); (case hn => rfl); (case hr => first | (go_simp; done) | (go_simp; rfl)); intro w2 hw; have n0_ := Aside0.mk (show laws_markReportS.Sto (fun k => P0_ k ∧ w0.heap.size ≤ k) w w2 by rw [hw]; exact HS.out.trans (laws_markReportS.Sto.set ⟨_, hx⟩ HG.out (wrap64 (x + 1)))); clear HS hx hf hw; have HS := n0_; clear n0_; have hx := (HA.out.sto HS.out).2.2.1) | (go_at_call 15; (with_reducible refine (laws_markReportS.ints (fun k => P0_ k ∧ w0.heap.size ≤ k) A2 n2 c2 (wrap64 (wrap64 (x + 1) + 1)) m1 w2 (HI2.out.sto HS.out) HM1.out).mono ?_); rintro e_ w3 ⟨rfl, hs⟩; have n0_ := Aside0.mk (HS.out.trans hs); clear HS hx hs; have HS := n0_; clear n0_; obtain ⟨y, hx⟩ := (HA.out.sto HS.out).2.2.2.1; have hf := (HA.out.sto HS.out).2.2.2.2.2.2.2.2 3) | ((with_reducible refine gate_store (t := 3) (p := 37) rfl ?_); refine store_event (t := 3) (p := 37) (v := ?vo_w4) (w1 := (w3.setCell ⟨g, z.toNat * 8 + 3, none⟩ (.int .i64 m1))) ?hg ?ho ?hn ?hr ?_; (case ho => rfl); (case hg => rfl); (case hn => rfl); (case hr => first | (go_simp; done) | (go_simp; rfl)); intro w4 hw; have n0_ := Aside0.mk (show laws_markReportS.Sto (fun k => P0_ k ∧ w0.heap.size ≤ k) w w4 by rw [hw]; exact HS.out.trans (laws_markReportS.Sto.set ⟨_, hx⟩ HG.out m1)); clear HS hx hf hw; have HS := n0_; clear n0_; obtain ⟨y, hx⟩ := (HA.out.sto HS.out).2.2.2.2.1; have hf := (HA.out.sto HS.out).2.2.2.2.2.2.2.2 4) | ((with_reducible refine gate_store (t := 3) (p := 44) rfl ?_); refine store_event (t := 3) (p := 44) (v := ?vo_w5) (w1 := (w4.setCell ⟨g, z.toNat * 8 + 4, none⟩ (.int .i64 (wrap64 (m1 + 1))))) ?hg ?ho ?hn ?hr ?_; (case ho => rfl); (case hg => rfl); (case hn => rfl); (case hr => first | (go_simp; done) | (go_simp; rfl)); intro w5 hw; have n0_ := Aside0.mk (show laws_markReportS.Sto (fun k => P0_ k ∧ w0.heap.size ≤ k) w w5 by rw [hw]; exact HS.out.trans (laws_markReportS.Sto.set ⟨_, hx⟩ HG.out (wrap64 (m1 + 1)))); clear HS hx hf hw; have HS := n0_; clear n0_; have hx := (HA.out.sto HS.out).2.2.2.2.2.1) | (go_at_call 15; (with_reducible refine (laws_markReportS.ints (fun k => P0_ k ∧ w0.heap.size ≤ k) A5 n5 c5 (wrap64 (wrap64 (m1 + 1) + 1)) m2 w5 (HI5.out.sto HS.out) HM2.out).mono ?_); rintro e_ w6 ⟨rfl, hs⟩; have n0_ := Aside0.mk (HS.out.trans hs); clear HS hx hs; have HS := n0_; clear n0_; obtain ⟨y, hx⟩ := (HA.out.sto HS.out).2.2.2.2.2.2.1; have hf := (HA.out.sto HS.out).2.2.2.2.2.2.2.2 6) | ((with_reducible refine gate_store (t := 3) (p := 59) rfl ?_); refine store_event (t := 3) (p := 59) (v := ?vo_w7) (w1 := (w6.setCell ⟨g, z.toNat * 8 + 6, none⟩ (.int .i64 m2))) ?hg ?ho ?hn ?hr ?_; (case ho => rfl); (case hg => rfl); (case hn => rfl); (case hr => first | (go_simp; done) | (go_simp; rfl)); intro w7 hw; have n0_ := Aside0.mk (show laws_markReportS.Sto (fun k => P0_ k ∧ w0.heap.size ≤ k) w w7 by rw [hw]; exact HS.out.trans (laws_markReportS.Sto.set ⟨_, hx⟩ HG.out m2)); clear HS hx hf hw; have HS := n0_; clear n0_; obtain ⟨y, hx⟩ := (HA.out.sto HS.out).2.2.2.2.2.2.2.1; have hf := (HA.out.sto HS.out).2.2.2.2.2.2.2.2 7) | ((with_reducible refine gate_store (t := 3) (p := 67) rfl ?_); refine store_event (t := 3) (p := 67) (v := ?vo_w8) (w1 := (w7.setCell ⟨g, z.toNat * 8 + 7, none⟩ (.int .i64 (wrap64 (m2 + 1))))) ?hg ?ho ?hn ?hr ?_; (case ho => rfl); (case hg => rfl); (case hn => rfl); (case hr => first | (go_simp; done) | (go_simp; rfl)); intro w8 hw; have n0_ := Aside0.mk (show laws_markReportS.Sto (fun k => P0_ k ∧ w0.heap.size ≤ k) w w8 by rw [hw]; exact HS.out.trans (laws_markReportS.Sto.set ⟨_, hx⟩ HG.out (wrap64 (m2 + 1)))); clear HS hx hf hw; have HS := n0_; clear n0_))
      go_roundg ((l0.length : Int) - (z + 1)).toNat
      case measure => have := Z0.out; have := HL.out; have := ZG.out; omega
      case rel =>
        exact ⟨wrap64 (wrap64 (m2 + 1) + 1), z + 1, (by first | rfl | (simp; done) | (simp [*]; done)), (by first | rfl | (simp; done) | (simp [*]; done)), ⟨by have := Z0.out; omega⟩, ⟨by have := HL.out; omega⟩, ⟨by have := HL.out; omega⟩, HS, HE3⟩
    · have hltb : decide (z < (l0.length : Int)) = false := decide_eq_false hlt
      have HX := Aside0.mk (show x = r1 by have h1 := HE.out; rw [List.drop_eq_nil_of_le (by have := Z1.out; omega)] at h1; exact h1.trans HR.out)
      clear hlt
      go_wp2
      go_ret
      exact ⟨by rw [← HX.out]; rfl, trivial, HS.out.bel (fun _ hk => hk.2) HB.out, HS.out.size, fun i hi hn => HS.out.kept i hi (fun hk => hn hk.1)⟩


end Go.Proofs.Ytglpmjcknhcjcaa.PFnExactGroupReports
