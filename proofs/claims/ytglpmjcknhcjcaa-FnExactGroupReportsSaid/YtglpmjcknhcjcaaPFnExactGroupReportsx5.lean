-- Written for this claim by a program (a printer turned to this claim); Lean checks it.
import Derived.Test.YtglpmjcknhcjcaaPFnExactGroupReportsx0
import Derived.Test.YtglpmjcknhcjcaaPFnExactGroupReportsx2
import Derived.Test.YtglpmjcknhcjcaaPFnExactGroupReportsx3
import Derived.Test.YtglpmjcknhcjcaaPFnExactGroupReportsx4
namespace Go.Proofs.Ytglpmjcknhcjcaa.PFnExactGroupReports
open Go.RowKit Go.Proofs.YtglpmjcknhcjcaaW.PrintWords Go.Proofs.YtglpmjcknhcjcaaW.PrintLast Go.Proofs.YtglpmjcknhcjcaaW.PrintMore
attribute [local go_sem] max2_int min2_int max_two min_two max_three min_three max_four min_four   -- for this text's walks alone
set_option linter.unusedVariables false
set_option linter.unusedSimpArgs false

/-! ### spec_SameOwner: function 18 -/
def spec_SameOwner.f (k : Nat) (a0_0 : Int) (a0_1 : Int) (l0_2 : List Int) (a0_3 : Int) (a0_4 : Int) (l0_5 : List Int) (a0_6 : Int) (a0_7 : Int) (a1_0 : Int) (a1_1 : Int) (l1_2 : List Int) (a1_3 : Int) (a1_4 : Int) (l1_5 : List Int) (a1_6 : Int) (a1_7 : Int) : Option (Bool) := (spec_Sharpen.f k a0_0 a0_1 l0_2 a0_3 a0_4 l0_5 a0_6 a0_7 a1_0 a1_1 l1_2 a1_3 a1_4 l1_5 a1_6 a1_7).bind fun bt176 => ((spec_Meet.f a0_6 a0_7 a1_6 a1_7).bind fun bt190 => (if bt176.2.2.2.2.2.2.2.2 = true then (some bt190.2.2) else (some false)))
theorem spec_SameOwner.mono : ∀ a0 a1 a2 a3 a4 a5 a6 a7 a8 a9 a10 a11 a12 a13 a14 a15 k, LeO (spec_SameOwner.f k a0 a1 a2 a3 a4 a5 a6 a7 a8 a9 a10 a11 a12 a13 a14 a15) (spec_SameOwner.f (k + 1) a0 a1 a2 a3 a4 a5 a6 a7 a8 a9 a10 a11 a12 a13 a14 a15) := by
 intro a0 a1 a2 a3 a4 a5 a6 a7 a8 a9 a10 a11 a12 a13 a14 a15 k
 unfold spec_SameOwner.f
 repeat' first
   | (with_reducible exact spec_Sharpen.mono _ _ _ _ _ _ _ _ _ _ _ _ _ _ _ _ _)
   | (with_reducible exact LeO.refl _)
   | (with_reducible exact LeO.none _)
   | (with_reducible refine LeO.ite ?_ ?_)
   | (with_reducible refine LeO.bind ?_ (fun _ => ?_))
   | exact spec_Sharpen.mono _ _ _ _ _ _ _ _ _ _ _ _ _ _ _ _ _
   | exact LeO.none _
   | refine LeO.ite ?_ ?_
   | refine LeO.bind ?_ (fun _ => ?_)
abbrev c89_ (i0 : Int) (i1 : Int) (A2 : Option Addr) (n2 c2 : Nat) (i3 : Int) (i4 : Int) (A5 : Option Addr) (n5 c5 : Nat) (i6 : Int) (i7 : Int) : Obj := .cells #[.int .i64 i0, .int .i64 i1, .slice A2 n2 c2, .int .i64 i3, .int .i64 i4, .slice A5 n5 c5, .int .i64 i6, .int .i64 i7] 41 (0, 0)
theorem e90_ {w : World} {g : Nat} {t : TypeId} {i0 : Int} {i1 : Int} {A2 : Option Addr} {n2 c2 : Nat} {i3 : Int} {i4 : Int} {A5 : Option Addr} {n5 c5 : Nat} {i6 : Int} {i7 : Int} (h : w.heap[g]? = some (.cells #[.int .i64 i0, .int .i64 i1, .slice A2 n2 c2, .int .i64 i3, .int .i64 i4, .slice A5 n5 c5, .int .i64 i6, .int .i64 i7] t (0, 0))) : w.cell? ⟨g, 0, none⟩ = some (.int .i64 i0) ∧ w.cell? ⟨g, 1, none⟩ = some (.int .i64 i1) ∧ w.cell? ⟨g, 2, none⟩ = some (.slice A2 n2 c2) ∧ w.cell? ⟨g, 3, none⟩ = some (.int .i64 i3) ∧ w.cell? ⟨g, 4, none⟩ = some (.int .i64 i4) ∧ w.cell? ⟨g, 5, none⟩ = some (.slice A5 n5 c5) ∧ w.cell? ⟨g, 6, none⟩ = some (.int .i64 i6) ∧ w.cell? ⟨g, 7, none⟩ = some (.int .i64 i7) := ⟨(blk_cell h 0).trans rfl, (blk_cell h 1).trans rfl, (blk_cell h 2).trans rfl, (blk_cell h 3).trans rfl, (blk_cell h 4).trans rfl, (blk_cell h 5).trans rfl, (blk_cell h 6).trans rfl, (blk_cell h 7).trans rfl⟩
theorem z91_ {w : World} {g : Nat} {t : TypeId} {cs : Array Value} (h : w.heap[g]? = some (.cells cs t (0, 0))) : w.frozen? ⟨g, 0, none⟩ = false ∧ w.frozen? ⟨g, 1, none⟩ = false ∧ w.frozen? ⟨g, 2, none⟩ = false ∧ w.frozen? ⟨g, 3, none⟩ = false ∧ w.frozen? ⟨g, 4, none⟩ = false ∧ w.frozen? ⟨g, 5, none⟩ = false ∧ w.frozen? ⟨g, 6, none⟩ = false ∧ w.frozen? ⟨g, 7, none⟩ = false := ⟨blk_frozen h 0, blk_frozen h 1, blk_frozen h 2, blk_frozen h 3, blk_frozen h 4, blk_frozen h 5, blk_frozen h 6, blk_frozen h 7⟩
theorem y93_ {P : Prop} (h : P := by repeat (first | (with_reducible first | exact HB.out | apply below_alloc | apply pw_below_drewN | apply below_drew1 | refine below_set ?_ GE174.out | refine below_set ?_ GE175.out) | exact HB.out)) : P := h
theorem y94_ {P : Prop} (h : P := by repeat (first | (with_reducible first | exact HB.out | apply below_alloc | apply pw_below_drewN | apply below_drew1 | refine below_set ?_ GE174.out | refine below_set ?_ GE175.out | refine below_set ?_ GE189.out) | exact HB.out)) : P := h
theorem y96_ {P : Prop} (h : P := by (with_reducible repeat (first | refine blk_drewN ?_ _ | refine blk_drew ?_ | refine blk_alloc ?_ _)); refine blk_far ?_ NB174_189.out _; (with_reducible repeat (first | refine blk_drewN ?_ _ | refine blk_drew ?_ | refine blk_alloc ?_ _)); refine blk_far ?_ NB174_189.out _; (with_reducible repeat (first | refine blk_drewN ?_ _ | refine blk_drew ?_ | refine blk_alloc ?_ _)); refine blk_far ?_ NB174_189.out _; (with_reducible repeat (first | refine blk_drewN ?_ _ | refine blk_drew ?_ | refine blk_alloc ?_ _)); refine blk_far ?_ NB174_189.out _; (with_reducible repeat (first | refine blk_drewN ?_ _ | refine blk_drew ?_ | refine blk_alloc ?_ _)); refine blk_far ?_ NB174_189.out _; (with_reducible repeat (first | refine blk_drewN ?_ _ | refine blk_drew ?_ | refine blk_alloc ?_ _)); refine blk_far ?_ NB174_189.out _; (with_reducible repeat (first | refine blk_drewN ?_ _ | refine blk_drew ?_ | refine blk_alloc ?_ _)); refine blk_far ?_ NB174_189.out _; (with_reducible repeat (first | refine blk_drewN ?_ _ | refine blk_drew ?_ | refine blk_alloc ?_ _)); refine blk_far ?_ NB174_189.out _; (with_reducible repeat (first | refine blk_drewN ?_ _ | refine blk_drew ?_ | refine blk_alloc ?_ _)); exact BK174.out) : P := h
theorem y97_ {P : Prop} (h : P := by (with_reducible repeat (first | refine blk_drewN ?_ _ | refine blk_drew ?_ | refine blk_alloc ?_ _)); refine blk_far ?_ NB175_189.out _; (with_reducible repeat (first | refine blk_drewN ?_ _ | refine blk_drew ?_ | refine blk_alloc ?_ _)); refine blk_far ?_ NB175_189.out _; (with_reducible repeat (first | refine blk_drewN ?_ _ | refine blk_drew ?_ | refine blk_alloc ?_ _)); refine blk_far ?_ NB175_189.out _; (with_reducible repeat (first | refine blk_drewN ?_ _ | refine blk_drew ?_ | refine blk_alloc ?_ _)); refine blk_far ?_ NB175_189.out _; (with_reducible repeat (first | refine blk_drewN ?_ _ | refine blk_drew ?_ | refine blk_alloc ?_ _)); refine blk_far ?_ NB175_189.out _; (with_reducible repeat (first | refine blk_drewN ?_ _ | refine blk_drew ?_ | refine blk_alloc ?_ _)); refine blk_far ?_ NB175_189.out _; (with_reducible repeat (first | refine blk_drewN ?_ _ | refine blk_drew ?_ | refine blk_alloc ?_ _)); refine blk_far ?_ NB175_189.out _; (with_reducible repeat (first | refine blk_drewN ?_ _ | refine blk_drew ?_ | refine blk_alloc ?_ _)); refine blk_far ?_ NB175_189.out _; (with_reducible repeat (first | refine blk_drewN ?_ _ | refine blk_drew ?_ | refine blk_alloc ?_ _)); exact BK175.out) : P := h
theorem y98_ {P : Prop} (h : P := by repeat (first | (with_reducible first | exact HB.out | apply below_alloc | apply pw_below_drewN | apply below_drew1 | refine below_set ?_ GE174.out) | exact HB.out)) : P := h
theorem y99_ {P : Prop} (h : P := by rw [hg]; exact Nat.ne_of_lt (blk_lt (bd_ BK174.out))) : P := h
theorem y100_ {P : Prop} (h : P := by rw [hg]; exact Nat.ne_of_gt (blk_lt (bd_ BK174.out))) : P := h
theorem y103_ {P : Prop} (h : P := by rw [hg]; exact Nat.ne_of_lt (blk_lt (bd_ BK175.out))) : P := h
theorem y104_ {P : Prop} (h : P := by rw [hg]; exact Nat.ne_of_gt (blk_lt (bd_ BK175.out))) : P := h
theorem y108_ {P : Prop} (h : P := by repeat (first | (with_reducible first | exact HB.out | apply below_alloc | apply pw_below_drewN | apply below_drew1 | refine below_set ?_ GE174.out | refine below_set ?_ GE175.out | refine below_set ?_ GE189.out | refine below_set ?_ GE193.out) | exact HB.out)) : P := h
set_option maxHeartbeats 8000000 in
set_option maxRecDepth 100000 in
theorem spec_SameOwner.calls (k : Nat) (a0_0 : Int) (a0_1 : Int) (A0_2 : Option Addr) (c0_2 : Nat) (l0_2 : List Int) (a0_3 : Int) (a0_4 : Int) (A0_5 : Option Addr) (c0_5 : Nat) (l0_5 : List Int) (a0_6 : Int) (a0_7 : Int) (a1_0 : Int) (a1_1 : Int) (A1_2 : Option Addr) (c1_2 : Nat) (l1_2 : List Int) (a1_3 : Int) (a1_4 : Int) (A1_5 : Option Addr) (c1_5 : Nat) (l1_5 : List Int) (a1_6 : Int) (a1_7 : Int) (r : Bool) (w : World) (hr0_2 : Kd.C (Kd.int .i64) w A0_2 l0_2.length l0_2) (hc0_2 : l0_2.length ≤ c0_2) (hr0_5 : Kd.C (Kd.int .i64) w A0_5 l0_5.length l0_5) (hc0_5 : l0_5.length ≤ c0_5) (hr1_2 : Kd.C (Kd.int .i64) w A1_2 l1_2.length l1_2) (hc1_2 : l1_2.length ≤ c1_2) (hr1_5 : Kd.C (Kd.int .i64) w A1_5 l1_5.length l1_5) (hc1_5 : l1_5.length ≤ c1_5) (h : spec_SameOwner.f k a0_0 a0_1 l0_2 a0_3 a0_4 l0_5 a0_6 a0_7 a1_0 a1_1 l1_2 a1_3 a1_4 l1_5 a1_6 a1_7 = some r) :
  Calls Try.prog 18 #[.agg #[.int .i64 a0_0, .int .i64 a0_1, .slice A0_2 l0_2.length c0_2, .int .i64 a0_3, .int .i64 a0_4, .slice A0_5 l0_5.length c0_5, .int .i64 a0_6, .int .i64 a0_7], .agg #[.int .i64 a1_0, .int .i64 a1_1, .slice A1_2 l1_2.length c1_2, .int .i64 a1_3, .int .i64 a1_4, .slice A1_5 l1_5.length c1_5, .int .i64 a1_6, .int .i64 a1_7]] w fun e w' => e = .returned (.bool r) ∧ Below w.heap.size w w' := by
 have hu41 := Try.underlying41
 have hu39 := Try.underlying39
 have HR0_2 := Aside0.mk hr0_2
 have HC0_2 := Aside0.mk hc0_2
 clear hr0_2 hc0_2
 have HR0_5 := Aside0.mk hr0_5
 have HC0_5 := Aside0.mk hc0_5
 clear hr0_5 hc0_5
 have HR1_2 := Aside0.mk hr1_2
 have HC1_2 := Aside0.mk hc1_2
 clear hr1_2 hc1_2
 have HR1_5 := Aside0.mk hr1_5
 have HC1_5 := Aside0.mk hc1_5
 clear hr1_5 hc1_5
 have HB := Aside0.mk (Below.refl w.heap.size w)
 have H : ((spec_Sharpen.f k a0_0 a0_1 l0_2 a0_3 a0_4 l0_5 a0_6 a0_7 a1_0 a1_1 l1_2 a1_3 a1_4 l1_5 a1_6 a1_7).bind fun bt176 => ((spec_Meet.f a0_6 a0_7 a1_6 a1_7).bind fun bt190 => (if bt176.2.2.2.2.2.2.2.2 = true then (some bt190.2.2) else (some false)))) = some r := h
 clear h
 replace H := Option.bind_eq_some_iff.mp H
 obtain ⟨⟨t176, t177, t178, t181, t182, t183, t186, t187, t188⟩, A30, H⟩ := H
 replace H : ((spec_Meet.f a0_6 a0_7 a1_6 a1_7).bind fun bt190 => (if t188 = true then (some bt190.2.2) else (some false))) = some r := H
 have A3 := Aside0.mk A30
 clear A30
 replace H := Option.bind_eq_some_iff.mp H
 obtain ⟨⟨t190, t191, t192⟩, A40, H⟩ := H
 replace H : (if t188 = true then (some t192) else (some false)) = some r := H
 have A4 := Aside0.mk A40
 clear A40
 by_cases c5 : t188 = true
 ·
  subst c5
  have H1 : (some t192) = some r := by rw [if_pos rfl] at H; exact H
  clear H
  have H := H1
  clear H1
  obtain rfl := Option.some.inj H
  go_enter Try.func18, Try.ntmps18
  go_wp2_with (first | ((with_reducible refine gate_dst (N := 2) rfl ?_); refine box_event ?hg (N := 2) ?hd (cs := #[.int .i64 a0_0, .int .i64 a0_1, .slice A0_2 l0_2.length c0_2, .int .i64 a0_3, .int .i64 a0_4, .slice A0_5 l0_5.length c0_5, .int .i64 a0_6, .int .i64 a0_7]) (t := 41) ?hr ?_; (case hd => rfl); (case hg => rfl); (case hr => first | (go_simp; done) | (go_simp; rfl)); intro gb174 hg w6 hbox hb; have n0_ := Aside0.mk (below_step (hd_ HB.out) hb); have BK174 := Aside0.mk (hbox); have GW174 := Aside0.mk ((by rw [hg]; exact (below_size (hd_ HB.out)) : w.heap.size ≤ gb174)); have GE174 := Aside0.mk ((by rw [hg]; exact (below_size (hd_ HB.out)) : w.heap.size ≤ gb174)); clear HB; have HB := n0_; clear n0_; clear hb hbox hg) | ((with_reducible refine gate_dst (N := 3) rfl ?_); refine box_event ?hg (N := 3) ?hd (cs := #[.int .i64 a1_0, .int .i64 a1_1, .slice A1_2 l1_2.length c1_2, .int .i64 a1_3, .int .i64 a1_4, .slice A1_5 l1_5.length c1_5, .int .i64 a1_6, .int .i64 a1_7]) (t := 41) ?hr ?_; (case hd => rfl); (case hg => rfl); (case hr => first | (go_simp; done) | (go_simp; rfl)); intro gb175 hg w7 hbox hb; have n0_ := Aside0.mk (blk_below (bd_ BK174.out) hb); have n1_ := Aside0.mk (below_step y98_ hb); have BK175 := Aside0.mk (hbox); have GW175 := Aside0.mk ((by rw [hg]; exact (below_size y98_) : w.heap.size ≤ gb175)); have GE175 := Aside0.mk ((by rw [hg]; exact (below_size y98_) : w.heap.size ≤ gb175)); have NB174_175 := Aside0.mk ((y99_ : gb174 ≠ gb175)); have NB175_174 := Aside0.mk ((y100_ : gb175 ≠ gb174)); clear BK174; clear HB; have BK174 := n0_; have HB := n1_; clear n0_ n1_; clear hb hbox hg; have hnb8 := NB174_175.out; have hnc8 := NB175_174.out; obtain ⟨hcz9_0, hcz9_1, hcz9_2, hcz9_3, hcz9_4, hcz9_5, hcz9_6, hcz9_7⟩ := e90_ BK174.out; obtain ⟨hfz9_0, hfz9_1, hfz9_2, hfz9_3, hfz9_4, hfz9_5, hfz9_6, hfz9_7⟩ := z91_ BK174.out; obtain ⟨hcz10_0, hcz10_1, hcz10_2, hcz10_3, hcz10_4, hcz10_5, hcz10_6, hcz10_7⟩ := e90_ BK175.out; obtain ⟨hfz10_0, hfz10_1, hfz10_2, hfz10_3, hfz10_4, hfz10_5, hfz10_6, hfz10_7⟩ := z91_ BK175.out) | ((with_reducible refine gate_callee (f := 47) rfl ?_); refine goesL_ (some 12) rfl rfl Try.func47 (by kernel_rfl) rfl #[.agg #[.int .i64 a0_0, .int .i64 a0_1, .slice A0_2 l0_2.length c0_2, .int .i64 a0_3, .int .i64 a0_4, .slice A0_5 l0_5.length c0_5, .int .i64 a0_6, .int .i64 a0_7], .agg #[.int .i64 a1_0, .int .i64 a1_1, .slice A1_2 l1_2.length c1_2, .int .i64 a1_3, .int .i64 a1_4, .slice A1_5 l1_5.length c1_5, .int .i64 a1_6, .int .i64 a1_7]] rfl ma_ ?_; (with_reducible refine (spec_Sharpen.calls k a0_0 a0_1 _ _ l0_2 a0_3 a0_4 _ _ l0_5 a0_6 a0_7 a1_0 a1_1 _ _ l1_2 a1_3 a1_4 _ _ l1_5 a1_6 a1_7 t176 t177 t178 t181 t182 t183 t186 t187 true _ ?side1 ?side2 ?side3 ?side4 ?side5 ?side6 ?side7 ?side8 A3.out).mono ?_); (case side1 => exact cd_ (Kd.C_below HR0_2.out HB.out)); (case side2 => exact HC0_2.out); (case side3 => exact cd_ (Kd.C_below HR0_5.out HB.out)); (case side4 => exact HC0_5.out); (case side5 => exact cd_ (Kd.C_below HR1_2.out HB.out)); (case side6 => exact HC1_2.out); (case side7 => exact cd_ (Kd.C_below HR1_5.out HB.out)); (case side8 => exact HC1_5.out); rintro e w11 ⟨v179, v184, rfl, ho0, ho1, hb⟩; refine ⟨_, rfl, ?_⟩; have HO180 := Aside0.mk (Kd.R_lower ho0 (below_size y93_)); have HO185 := Aside0.mk (Kd.R_lower ho1 (below_size y93_)); have n2_ := Aside0.mk (blk_below (bd_ BK174.out) hb); have n3_ := Aside0.mk (blk_below (bd_ BK175.out) hb); have n4_ := Aside0.mk (below_step y93_ hb); clear BK174; clear BK175; clear HB; have BK174 := n2_; have BK175 := n3_; have HB := n4_; clear n2_ n3_ n4_; (try clear hb); (try clear hb2); (try clear hk); (try clear hi); (try clear ho0); (try clear ho1)) | ((with_reducible refine gate_dst (N := 5) rfl ?_); refine box_event ?hg (N := 5) ?hd (cs := #[.int .i64 0, .int .i64 0, .slice none 0 0, .int .i64 0, .int .i64 0, .slice none 0 0, .int .i64 0, .int .i64 0]) (t := 41) ?hr ?_; (case hd => rfl); (case hg => rfl); (case hr => first | (go_simp; done) | (go_simp; rfl)); intro gb189 hg w12 hbox hb; have n0_ := Aside0.mk (Kd.R_below (rd_ HO180.out) hb); have n1_ := Aside0.mk (Kd.R_below (rd_ HO185.out) hb); have n2_ := Aside0.mk (blk_below (bd_ BK174.out) hb); have n3_ := Aside0.mk (blk_below (bd_ BK175.out) hb); have n4_ := Aside0.mk (below_step y93_ hb); have BK189 := Aside0.mk (hbox); have GW189 := Aside0.mk ((by rw [hg]; exact (below_size y93_) : w.heap.size ≤ gb189)); have GE189 := Aside0.mk ((by rw [hg]; exact (below_size y93_) : w.heap.size ≤ gb189)); have NB174_189 := Aside0.mk ((y99_ : gb174 ≠ gb189)); have NB189_174 := Aside0.mk ((y100_ : gb189 ≠ gb174)); have NB175_189 := Aside0.mk ((y103_ : gb175 ≠ gb189)); have NB189_175 := Aside0.mk ((y104_ : gb189 ≠ gb175)); clear HO180; clear HO185; clear BK174; clear BK175; clear HB; have HO180 := n0_; have HO185 := n1_; have BK174 := n2_; have BK175 := n3_; have HB := n4_; clear n0_ n1_ n2_ n3_ n4_; clear hb hbox hg; have hnb13 := NB189_174.out; have hnc13 := NB174_189.out; have hnb14 := NB189_175.out; have hnc14 := NB175_189.out; obtain ⟨hcz15_0, hcz15_1, hcz15_2, hcz15_3, hcz15_4, hcz15_5, hcz15_6, hcz15_7⟩ := e90_ BK189.out; obtain ⟨hfz15_0, hfz15_1, hfz15_2, hfz15_3, hfz15_4, hfz15_5, hfz15_6, hfz15_7⟩ := z91_ BK189.out; obtain ⟨Ao16, co16, eo16⟩ := Kd.R_slice HO180.out; subst eo16; obtain ⟨Ao17, co17, eo17⟩ := Kd.R_slice HO185.out; subst eo17; obtain ⟨hcz18_0, hcz18_1, hcz18_2, hcz18_3, hcz18_4, hcz18_5, hcz18_6, hcz18_7⟩ := e90_ BK174.out; obtain ⟨hfz18_0, hfz18_1, hfz18_2, hfz18_3, hfz18_4, hfz18_5, hfz18_6, hfz18_7⟩ := z91_ BK174.out; obtain ⟨hcz19_0, hcz19_1, hcz19_2, hcz19_3, hcz19_4, hcz19_5, hcz19_6, hcz19_7⟩ := e90_ BK175.out; obtain ⟨hfz19_0, hfz19_1, hfz19_2, hfz19_3, hfz19_4, hfz19_5, hfz19_6, hfz19_7⟩ := z91_ BK175.out) | ((with_reducible refine gate_callee (f := 48) rfl ?_); refine goesL_ (some 20) rfl rfl Try.func48 (by kernel_rfl) rfl #[.agg #[.int .i64 a0_6, .int .i64 a0_7], .agg #[.int .i64 a1_6, .int .i64 a1_7]] rfl ma_ ?_; (with_reducible refine (spec_Meet.calls a0_6 a0_7 a1_6 a1_7 t190 t191 t192 _ A4.out).mono ?_); rintro e w20 ⟨rfl, hb⟩; refine ⟨_, rfl, ?_⟩; have n0_ := Aside0.mk (Kd.R_below (by (with_reducible repeat (first | apply Kd.R_alloc | apply Kd.R_drewN | apply Kd.R_drew)); exact (Kd.R_mono (Kd.R_far (p := ⟨gb189, 7, none⟩) (Kd.R_far (p := ⟨gb189, 6, none⟩) (Kd.R_far (p := ⟨gb189, 5, none⟩) (Kd.R_far (p := ⟨gb189, 4, none⟩) (Kd.R_far (p := ⟨gb189, 3, none⟩) (Kd.R_far (p := ⟨gb189, 2, none⟩) (Kd.R_far (p := ⟨gb189, 1, none⟩) (Kd.R_far (p := ⟨gb189, 0, none⟩) (Kd.R_types HO180.out BK189.out (by decide)) (fun _ hk => hk.2) (.int .i64 t176)) (fun _ hk => hk.2) (.int .i64 t177)) (fun _ hk => hk.2) (.slice Ao16 t178.length co16)) (fun _ hk => hk.2) (.int .i64 t181)) (fun _ hk => hk.2) (.int .i64 t182)) (fun _ hk => hk.2) (.slice Ao17 t183.length co17)) (fun _ hk => hk.2) (.int .i64 t186)) (fun _ hk => hk.2) (.int .i64 t187)) (fun _ h_ => h_.1))) hb); have n1_ := Aside0.mk (Kd.R_below (by (with_reducible repeat (first | apply Kd.R_alloc | apply Kd.R_drewN | apply Kd.R_drew)); exact (Kd.R_mono (Kd.R_far (p := ⟨gb189, 7, none⟩) (Kd.R_far (p := ⟨gb189, 6, none⟩) (Kd.R_far (p := ⟨gb189, 5, none⟩) (Kd.R_far (p := ⟨gb189, 4, none⟩) (Kd.R_far (p := ⟨gb189, 3, none⟩) (Kd.R_far (p := ⟨gb189, 2, none⟩) (Kd.R_far (p := ⟨gb189, 1, none⟩) (Kd.R_far (p := ⟨gb189, 0, none⟩) (Kd.R_types HO185.out BK189.out (by decide)) (fun _ hk => hk.2) (.int .i64 t176)) (fun _ hk => hk.2) (.int .i64 t177)) (fun _ hk => hk.2) (.slice Ao16 t178.length co16)) (fun _ hk => hk.2) (.int .i64 t181)) (fun _ hk => hk.2) (.int .i64 t182)) (fun _ hk => hk.2) (.slice Ao17 t183.length co17)) (fun _ hk => hk.2) (.int .i64 t186)) (fun _ hk => hk.2) (.int .i64 t187)) (fun _ h_ => h_.1))) hb); have n2_ := Aside0.mk (blk_below (g := gb174) (o := c89_ a0_0 a0_1 A0_2 l0_2.length c0_2 a0_3 a0_4 A0_5 l0_5.length c0_5 a0_6 a0_7) y96_ hb); have n3_ := Aside0.mk (blk_below (g := gb175) (o := c89_ a1_0 a1_1 A1_2 l1_2.length c1_2 a1_3 a1_4 A1_5 l1_5.length c1_5 a1_6 a1_7) y97_ hb); have n4_ := Aside0.mk (blk_below (g := gb189) (o := .cells #[.int .i64 t176, .int .i64 t177, .slice Ao16 t178.length co16, .int .i64 t181, .int .i64 t182, .slice Ao17 t183.length co17, .int .i64 t186, .int .i64 t187] 41 (0, 0)) (by (with_reducible repeat (first | refine blk_drewN ?_ _ | refine blk_drew ?_ | refine blk_alloc ?_ _)); refine blk_put (cs := #[.int .i64 t176, .int .i64 t177, .slice Ao16 t178.length co16, .int .i64 t181, .int .i64 t182, .slice Ao17 t183.length co17, .int .i64 t186, .int .i64 0]) ?_ 7 _ rfl; (with_reducible repeat (first | refine blk_drewN ?_ _ | refine blk_drew ?_ | refine blk_alloc ?_ _)); refine blk_put (cs := #[.int .i64 t176, .int .i64 t177, .slice Ao16 t178.length co16, .int .i64 t181, .int .i64 t182, .slice Ao17 t183.length co17, .int .i64 0, .int .i64 0]) ?_ 6 _ rfl; (with_reducible repeat (first | refine blk_drewN ?_ _ | refine blk_drew ?_ | refine blk_alloc ?_ _)); refine blk_put (cs := #[.int .i64 t176, .int .i64 t177, .slice Ao16 t178.length co16, .int .i64 t181, .int .i64 t182, .slice none 0 0, .int .i64 0, .int .i64 0]) ?_ 5 _ rfl; (with_reducible repeat (first | refine blk_drewN ?_ _ | refine blk_drew ?_ | refine blk_alloc ?_ _)); refine blk_put (cs := #[.int .i64 t176, .int .i64 t177, .slice Ao16 t178.length co16, .int .i64 t181, .int .i64 0, .slice none 0 0, .int .i64 0, .int .i64 0]) ?_ 4 _ rfl; (with_reducible repeat (first | refine blk_drewN ?_ _ | refine blk_drew ?_ | refine blk_alloc ?_ _)); refine blk_put (cs := #[.int .i64 t176, .int .i64 t177, .slice Ao16 t178.length co16, .int .i64 0, .int .i64 0, .slice none 0 0, .int .i64 0, .int .i64 0]) ?_ 3 _ rfl; (with_reducible repeat (first | refine blk_drewN ?_ _ | refine blk_drew ?_ | refine blk_alloc ?_ _)); refine blk_put (cs := #[.int .i64 t176, .int .i64 t177, .slice none 0 0, .int .i64 0, .int .i64 0, .slice none 0 0, .int .i64 0, .int .i64 0]) ?_ 2 _ rfl; (with_reducible repeat (first | refine blk_drewN ?_ _ | refine blk_drew ?_ | refine blk_alloc ?_ _)); refine blk_put (cs := #[.int .i64 t176, .int .i64 0, .slice none 0 0, .int .i64 0, .int .i64 0, .slice none 0 0, .int .i64 0, .int .i64 0]) ?_ 1 _ rfl; (with_reducible repeat (first | refine blk_drewN ?_ _ | refine blk_drew ?_ | refine blk_alloc ?_ _)); refine blk_put (cs := #[.int .i64 0, .int .i64 0, .slice none 0 0, .int .i64 0, .int .i64 0, .slice none 0 0, .int .i64 0, .int .i64 0]) ?_ 0 _ rfl; (with_reducible repeat (first | refine blk_drewN ?_ _ | refine blk_drew ?_ | refine blk_alloc ?_ _)); exact BK189.out) hb); have n5_ := Aside0.mk (below_step y94_ hb); clear HO180; clear HO185; clear BK174; clear BK175; clear BK189; clear HB; have HO180 := n0_; have HO185 := n1_; have BK174 := n2_; have BK175 := n3_; have BK189 := n4_; have HB := n5_; clear n0_ n1_ n2_ n3_ n4_ n5_; (try clear hb); (try clear hb2); (try clear hk); (try clear hi)) | ((with_reducible refine gate_dst (N := 7) rfl ?_); refine box_event ?hg (N := 7) ?hd (cs := #[.int .i64 0, .int .i64 0]) (t := 39) ?hr ?_; (case hd => rfl); (case hg => rfl); (case hr => first | (go_simp; done) | (go_simp; rfl)); intro gb193 hg w21 hbox hb; have n0_ := Aside0.mk (Kd.R_below (rd_ HO180.out) hb); have n1_ := Aside0.mk (Kd.R_below (rd_ HO185.out) hb); have n2_ := Aside0.mk (blk_below (bd_ BK174.out) hb); have n3_ := Aside0.mk (blk_below (bd_ BK175.out) hb); have n4_ := Aside0.mk (blk_below (bd_ BK189.out) hb); have n5_ := Aside0.mk (below_step y94_ hb); have BK193 := Aside0.mk (hbox); have GW193 := Aside0.mk ((by rw [hg]; exact (below_size y94_) : w.heap.size ≤ gb193)); have GE193 := Aside0.mk ((by rw [hg]; exact (below_size y94_) : w.heap.size ≤ gb193)); have NB174_193 := Aside0.mk ((y99_ : gb174 ≠ gb193)); have NB193_174 := Aside0.mk ((y100_ : gb193 ≠ gb174)); have NB175_193 := Aside0.mk ((y103_ : gb175 ≠ gb193)); have NB193_175 := Aside0.mk ((y104_ : gb193 ≠ gb175)); have NB189_193 := Aside0.mk ((by rw [hg]; exact Nat.ne_of_lt (blk_lt (bd_ BK189.out)) : gb189 ≠ gb193)); have NB193_189 := Aside0.mk ((by rw [hg]; exact Nat.ne_of_gt (blk_lt (bd_ BK189.out)) : gb193 ≠ gb189)); clear HO180; clear HO185; clear BK174; clear BK175; clear BK189; clear HB; have HO180 := n0_; have HO185 := n1_; have BK174 := n2_; have BK175 := n3_; have BK189 := n4_; have HB := n5_; clear n0_ n1_ n2_ n3_ n4_ n5_; clear hb hbox hg; have hnb22 := NB193_174.out; have hnc22 := NB174_193.out; have hnb23 := NB193_175.out; have hnc23 := NB175_193.out; have hnb24 := NB193_189.out; have hnc24 := NB189_193.out; have hcz25_0 : w21.cell? ⟨gb193, 0, none⟩ = some (.int .i64 0) := (blk_cell BK193.out 0).trans rfl; have hcz25_1 : w21.cell? ⟨gb193, 1, none⟩ = some (.int .i64 0) := (blk_cell BK193.out 1).trans rfl; have hfz25_0 := blk_frozen BK193.out 0; have hfz25_1 := blk_frozen BK193.out 1))
  go_ret
  exact ⟨by first | rfl | (simp [errW_none, errW_some] <;> rfl) | (simp [*, errW_none, errW_some] <;> rfl), y108_⟩
 ·
  replace c5 := Bool.eq_false_iff.mpr c5
  subst c5
  have H1 : (some false) = some r := by rw [if_neg (show ¬ (false = true) by decide)] at H; exact H
  clear H
  have H := H1
  clear H1
  obtain rfl := Option.some.inj H
  go_enter Try.func18, Try.ntmps18
  go_wp2_with (first | ((with_reducible refine gate_dst (N := 2) rfl ?_); refine box_event ?hg (N := 2) ?hd (cs := #[.int .i64 a0_0, .int .i64 a0_1, .slice A0_2 l0_2.length c0_2, .int .i64 a0_3, .int .i64 a0_4, .slice A0_5 l0_5.length c0_5, .int .i64 a0_6, .int .i64 a0_7]) (t := 41) ?hr ?_; (case hd => rfl); (case hg => rfl); (case hr => first | (go_simp; done) | (go_simp; rfl)); intro gb174 hg w26 hbox hb; have n0_ := Aside0.mk (below_step (hd_ HB.out) hb); have BK174 := Aside0.mk (hbox); have GW174 := Aside0.mk ((by rw [hg]; exact (below_size (hd_ HB.out)) : w.heap.size ≤ gb174)); have GE174 := Aside0.mk ((by rw [hg]; exact (below_size (hd_ HB.out)) : w.heap.size ≤ gb174)); clear HB; have HB := n0_; clear n0_; clear hb hbox hg) | ((with_reducible refine gate_dst (N := 3) rfl ?_); refine box_event ?hg (N := 3) ?hd (cs := #[.int .i64 a1_0, .int .i64 a1_1, .slice A1_2 l1_2.length c1_2, .int .i64 a1_3, .int .i64 a1_4, .slice A1_5 l1_5.length c1_5, .int .i64 a1_6, .int .i64 a1_7]) (t := 41) ?hr ?_; (case hd => rfl); (case hg => rfl); (case hr => first | (go_simp; done) | (go_simp; rfl)); intro gb175 hg w27 hbox hb; have n0_ := Aside0.mk (blk_below (bd_ BK174.out) hb); have n1_ := Aside0.mk (below_step y98_ hb); have BK175 := Aside0.mk (hbox); have GW175 := Aside0.mk ((by rw [hg]; exact (below_size y98_) : w.heap.size ≤ gb175)); have GE175 := Aside0.mk ((by rw [hg]; exact (below_size y98_) : w.heap.size ≤ gb175)); have NB174_175 := Aside0.mk ((y99_ : gb174 ≠ gb175)); have NB175_174 := Aside0.mk ((y100_ : gb175 ≠ gb174)); clear BK174; clear HB; have BK174 := n0_; have HB := n1_; clear n0_ n1_; clear hb hbox hg; have hnb28 := NB174_175.out; have hnc28 := NB175_174.out; obtain ⟨hcz29_0, hcz29_1, hcz29_2, hcz29_3, hcz29_4, hcz29_5, hcz29_6, hcz29_7⟩ := e90_ BK174.out; obtain ⟨hfz29_0, hfz29_1, hfz29_2, hfz29_3, hfz29_4, hfz29_5, hfz29_6, hfz29_7⟩ := z91_ BK174.out; obtain ⟨hcz30_0, hcz30_1, hcz30_2, hcz30_3, hcz30_4, hcz30_5, hcz30_6, hcz30_7⟩ := e90_ BK175.out; obtain ⟨hfz30_0, hfz30_1, hfz30_2, hfz30_3, hfz30_4, hfz30_5, hfz30_6, hfz30_7⟩ := z91_ BK175.out) | ((with_reducible refine gate_callee (f := 47) rfl ?_); refine goesL_ (some 12) rfl rfl Try.func47 (by kernel_rfl) rfl #[.agg #[.int .i64 a0_0, .int .i64 a0_1, .slice A0_2 l0_2.length c0_2, .int .i64 a0_3, .int .i64 a0_4, .slice A0_5 l0_5.length c0_5, .int .i64 a0_6, .int .i64 a0_7], .agg #[.int .i64 a1_0, .int .i64 a1_1, .slice A1_2 l1_2.length c1_2, .int .i64 a1_3, .int .i64 a1_4, .slice A1_5 l1_5.length c1_5, .int .i64 a1_6, .int .i64 a1_7]] rfl ma_ ?_; (with_reducible refine (spec_Sharpen.calls k a0_0 a0_1 _ _ l0_2 a0_3 a0_4 _ _ l0_5 a0_6 a0_7 a1_0 a1_1 _ _ l1_2 a1_3 a1_4 _ _ l1_5 a1_6 a1_7 t176 t177 t178 t181 t182 t183 t186 t187 false _ ?side1 ?side2 ?side3 ?side4 ?side5 ?side6 ?side7 ?side8 A3.out).mono ?_); (case side1 => exact cd_ (Kd.C_below HR0_2.out HB.out)); (case side2 => exact HC0_2.out); (case side3 => exact cd_ (Kd.C_below HR0_5.out HB.out)); (case side4 => exact HC0_5.out); (case side5 => exact cd_ (Kd.C_below HR1_2.out HB.out)); (case side6 => exact HC1_2.out); (case side7 => exact cd_ (Kd.C_below HR1_5.out HB.out)); (case side8 => exact HC1_5.out); rintro e w31 ⟨v179, v184, rfl, ho0, ho1, hb⟩; refine ⟨_, rfl, ?_⟩; have HO180 := Aside0.mk (Kd.R_lower ho0 (below_size y93_)); have HO185 := Aside0.mk (Kd.R_lower ho1 (below_size y93_)); have n2_ := Aside0.mk (blk_below (bd_ BK174.out) hb); have n3_ := Aside0.mk (blk_below (bd_ BK175.out) hb); have n4_ := Aside0.mk (below_step y93_ hb); clear BK174; clear BK175; clear HB; have BK174 := n2_; have BK175 := n3_; have HB := n4_; clear n2_ n3_ n4_; (try clear hb); (try clear hb2); (try clear hk); (try clear hi); (try clear ho0); (try clear ho1)) | ((with_reducible refine gate_dst (N := 5) rfl ?_); refine box_event ?hg (N := 5) ?hd (cs := #[.int .i64 0, .int .i64 0, .slice none 0 0, .int .i64 0, .int .i64 0, .slice none 0 0, .int .i64 0, .int .i64 0]) (t := 41) ?hr ?_; (case hd => rfl); (case hg => rfl); (case hr => first | (go_simp; done) | (go_simp; rfl)); intro gb189 hg w32 hbox hb; have n0_ := Aside0.mk (Kd.R_below (rd_ HO180.out) hb); have n1_ := Aside0.mk (Kd.R_below (rd_ HO185.out) hb); have n2_ := Aside0.mk (blk_below (bd_ BK174.out) hb); have n3_ := Aside0.mk (blk_below (bd_ BK175.out) hb); have n4_ := Aside0.mk (below_step y93_ hb); have BK189 := Aside0.mk (hbox); have GW189 := Aside0.mk ((by rw [hg]; exact (below_size y93_) : w.heap.size ≤ gb189)); have GE189 := Aside0.mk ((by rw [hg]; exact (below_size y93_) : w.heap.size ≤ gb189)); have NB174_189 := Aside0.mk ((y99_ : gb174 ≠ gb189)); have NB189_174 := Aside0.mk ((y100_ : gb189 ≠ gb174)); have NB175_189 := Aside0.mk ((y103_ : gb175 ≠ gb189)); have NB189_175 := Aside0.mk ((y104_ : gb189 ≠ gb175)); clear HO180; clear HO185; clear BK174; clear BK175; clear HB; have HO180 := n0_; have HO185 := n1_; have BK174 := n2_; have BK175 := n3_; have HB := n4_; clear n0_ n1_ n2_ n3_ n4_; clear hb hbox hg; have hnb33 := NB189_174.out; have hnc33 := NB174_189.out; have hnb34 := NB189_175.out; have hnc34 := NB175_189.out; obtain ⟨hcz35_0, hcz35_1, hcz35_2, hcz35_3, hcz35_4, hcz35_5, hcz35_6, hcz35_7⟩ := e90_ BK189.out; obtain ⟨hfz35_0, hfz35_1, hfz35_2, hfz35_3, hfz35_4, hfz35_5, hfz35_6, hfz35_7⟩ := z91_ BK189.out; obtain ⟨Ao36, co36, eo36⟩ := Kd.R_slice HO180.out; subst eo36; obtain ⟨Ao37, co37, eo37⟩ := Kd.R_slice HO185.out; subst eo37; obtain ⟨hcz38_0, hcz38_1, hcz38_2, hcz38_3, hcz38_4, hcz38_5, hcz38_6, hcz38_7⟩ := e90_ BK174.out; obtain ⟨hfz38_0, hfz38_1, hfz38_2, hfz38_3, hfz38_4, hfz38_5, hfz38_6, hfz38_7⟩ := z91_ BK174.out; obtain ⟨hcz39_0, hcz39_1, hcz39_2, hcz39_3, hcz39_4, hcz39_5, hcz39_6, hcz39_7⟩ := e90_ BK175.out; obtain ⟨hfz39_0, hfz39_1, hfz39_2, hfz39_3, hfz39_4, hfz39_5, hfz39_6, hfz39_7⟩ := z91_ BK175.out) | ((with_reducible refine gate_callee (f := 48) rfl ?_); refine goesL_ (some 20) rfl rfl Try.func48 (by kernel_rfl) rfl #[.agg #[.int .i64 a0_6, .int .i64 a0_7], .agg #[.int .i64 a1_6, .int .i64 a1_7]] rfl ma_ ?_; (with_reducible refine (spec_Meet.calls a0_6 a0_7 a1_6 a1_7 t190 t191 t192 _ A4.out).mono ?_); rintro e w40 ⟨rfl, hb⟩; refine ⟨_, rfl, ?_⟩; have n0_ := Aside0.mk (Kd.R_below (by (with_reducible repeat (first | apply Kd.R_alloc | apply Kd.R_drewN | apply Kd.R_drew)); exact (Kd.R_mono (Kd.R_far (p := ⟨gb189, 7, none⟩) (Kd.R_far (p := ⟨gb189, 6, none⟩) (Kd.R_far (p := ⟨gb189, 5, none⟩) (Kd.R_far (p := ⟨gb189, 4, none⟩) (Kd.R_far (p := ⟨gb189, 3, none⟩) (Kd.R_far (p := ⟨gb189, 2, none⟩) (Kd.R_far (p := ⟨gb189, 1, none⟩) (Kd.R_far (p := ⟨gb189, 0, none⟩) (Kd.R_types HO180.out BK189.out (by decide)) (fun _ hk => hk.2) (.int .i64 t176)) (fun _ hk => hk.2) (.int .i64 t177)) (fun _ hk => hk.2) (.slice Ao36 t178.length co36)) (fun _ hk => hk.2) (.int .i64 t181)) (fun _ hk => hk.2) (.int .i64 t182)) (fun _ hk => hk.2) (.slice Ao37 t183.length co37)) (fun _ hk => hk.2) (.int .i64 t186)) (fun _ hk => hk.2) (.int .i64 t187)) (fun _ h_ => h_.1))) hb); have n1_ := Aside0.mk (Kd.R_below (by (with_reducible repeat (first | apply Kd.R_alloc | apply Kd.R_drewN | apply Kd.R_drew)); exact (Kd.R_mono (Kd.R_far (p := ⟨gb189, 7, none⟩) (Kd.R_far (p := ⟨gb189, 6, none⟩) (Kd.R_far (p := ⟨gb189, 5, none⟩) (Kd.R_far (p := ⟨gb189, 4, none⟩) (Kd.R_far (p := ⟨gb189, 3, none⟩) (Kd.R_far (p := ⟨gb189, 2, none⟩) (Kd.R_far (p := ⟨gb189, 1, none⟩) (Kd.R_far (p := ⟨gb189, 0, none⟩) (Kd.R_types HO185.out BK189.out (by decide)) (fun _ hk => hk.2) (.int .i64 t176)) (fun _ hk => hk.2) (.int .i64 t177)) (fun _ hk => hk.2) (.slice Ao36 t178.length co36)) (fun _ hk => hk.2) (.int .i64 t181)) (fun _ hk => hk.2) (.int .i64 t182)) (fun _ hk => hk.2) (.slice Ao37 t183.length co37)) (fun _ hk => hk.2) (.int .i64 t186)) (fun _ hk => hk.2) (.int .i64 t187)) (fun _ h_ => h_.1))) hb); have n2_ := Aside0.mk (blk_below (g := gb174) (o := c89_ a0_0 a0_1 A0_2 l0_2.length c0_2 a0_3 a0_4 A0_5 l0_5.length c0_5 a0_6 a0_7) y96_ hb); have n3_ := Aside0.mk (blk_below (g := gb175) (o := c89_ a1_0 a1_1 A1_2 l1_2.length c1_2 a1_3 a1_4 A1_5 l1_5.length c1_5 a1_6 a1_7) y97_ hb); have n4_ := Aside0.mk (blk_below (g := gb189) (o := .cells #[.int .i64 t176, .int .i64 t177, .slice Ao36 t178.length co36, .int .i64 t181, .int .i64 t182, .slice Ao37 t183.length co37, .int .i64 t186, .int .i64 t187] 41 (0, 0)) (by (with_reducible repeat (first | refine blk_drewN ?_ _ | refine blk_drew ?_ | refine blk_alloc ?_ _)); refine blk_put (cs := #[.int .i64 t176, .int .i64 t177, .slice Ao36 t178.length co36, .int .i64 t181, .int .i64 t182, .slice Ao37 t183.length co37, .int .i64 t186, .int .i64 0]) ?_ 7 _ rfl; (with_reducible repeat (first | refine blk_drewN ?_ _ | refine blk_drew ?_ | refine blk_alloc ?_ _)); refine blk_put (cs := #[.int .i64 t176, .int .i64 t177, .slice Ao36 t178.length co36, .int .i64 t181, .int .i64 t182, .slice Ao37 t183.length co37, .int .i64 0, .int .i64 0]) ?_ 6 _ rfl; (with_reducible repeat (first | refine blk_drewN ?_ _ | refine blk_drew ?_ | refine blk_alloc ?_ _)); refine blk_put (cs := #[.int .i64 t176, .int .i64 t177, .slice Ao36 t178.length co36, .int .i64 t181, .int .i64 t182, .slice none 0 0, .int .i64 0, .int .i64 0]) ?_ 5 _ rfl; (with_reducible repeat (first | refine blk_drewN ?_ _ | refine blk_drew ?_ | refine blk_alloc ?_ _)); refine blk_put (cs := #[.int .i64 t176, .int .i64 t177, .slice Ao36 t178.length co36, .int .i64 t181, .int .i64 0, .slice none 0 0, .int .i64 0, .int .i64 0]) ?_ 4 _ rfl; (with_reducible repeat (first | refine blk_drewN ?_ _ | refine blk_drew ?_ | refine blk_alloc ?_ _)); refine blk_put (cs := #[.int .i64 t176, .int .i64 t177, .slice Ao36 t178.length co36, .int .i64 0, .int .i64 0, .slice none 0 0, .int .i64 0, .int .i64 0]) ?_ 3 _ rfl; (with_reducible repeat (first | refine blk_drewN ?_ _ | refine blk_drew ?_ | refine blk_alloc ?_ _)); refine blk_put (cs := #[.int .i64 t176, .int .i64 t177, .slice none 0 0, .int .i64 0, .int .i64 0, .slice none 0 0, .int .i64 0, .int .i64 0]) ?_ 2 _ rfl; (with_reducible repeat (first | refine blk_drewN ?_ _ | refine blk_drew ?_ | refine blk_alloc ?_ _)); refine blk_put (cs := #[.int .i64 t176, .int .i64 0, .slice none 0 0, .int .i64 0, .int .i64 0, .slice none 0 0, .int .i64 0, .int .i64 0]) ?_ 1 _ rfl; (with_reducible repeat (first | refine blk_drewN ?_ _ | refine blk_drew ?_ | refine blk_alloc ?_ _)); refine blk_put (cs := #[.int .i64 0, .int .i64 0, .slice none 0 0, .int .i64 0, .int .i64 0, .slice none 0 0, .int .i64 0, .int .i64 0]) ?_ 0 _ rfl; (with_reducible repeat (first | refine blk_drewN ?_ _ | refine blk_drew ?_ | refine blk_alloc ?_ _)); exact BK189.out) hb); have n5_ := Aside0.mk (below_step y94_ hb); clear HO180; clear HO185; clear BK174; clear BK175; clear BK189; clear HB; have HO180 := n0_; have HO185 := n1_; have BK174 := n2_; have BK175 := n3_; have BK189 := n4_; have HB := n5_; clear n0_ n1_ n2_ n3_ n4_ n5_; (try clear hb); (try clear hb2); (try clear hk); (try clear hi)) | ((with_reducible refine gate_dst (N := 7) rfl ?_); refine box_event ?hg (N := 7) ?hd (cs := #[.int .i64 0, .int .i64 0]) (t := 39) ?hr ?_; (case hd => rfl); (case hg => rfl); (case hr => first | (go_simp; done) | (go_simp; rfl)); intro gb193 hg w41 hbox hb; have n0_ := Aside0.mk (Kd.R_below (rd_ HO180.out) hb); have n1_ := Aside0.mk (Kd.R_below (rd_ HO185.out) hb); have n2_ := Aside0.mk (blk_below (bd_ BK174.out) hb); have n3_ := Aside0.mk (blk_below (bd_ BK175.out) hb); have n4_ := Aside0.mk (blk_below (bd_ BK189.out) hb); have n5_ := Aside0.mk (below_step y94_ hb); have BK193 := Aside0.mk (hbox); have GW193 := Aside0.mk ((by rw [hg]; exact (below_size y94_) : w.heap.size ≤ gb193)); have GE193 := Aside0.mk ((by rw [hg]; exact (below_size y94_) : w.heap.size ≤ gb193)); have NB174_193 := Aside0.mk ((y99_ : gb174 ≠ gb193)); have NB193_174 := Aside0.mk ((y100_ : gb193 ≠ gb174)); have NB175_193 := Aside0.mk ((y103_ : gb175 ≠ gb193)); have NB193_175 := Aside0.mk ((y104_ : gb193 ≠ gb175)); have NB189_193 := Aside0.mk ((by rw [hg]; exact Nat.ne_of_lt (blk_lt (bd_ BK189.out)) : gb189 ≠ gb193)); have NB193_189 := Aside0.mk ((by rw [hg]; exact Nat.ne_of_gt (blk_lt (bd_ BK189.out)) : gb193 ≠ gb189)); clear HO180; clear HO185; clear BK174; clear BK175; clear BK189; clear HB; have HO180 := n0_; have HO185 := n1_; have BK174 := n2_; have BK175 := n3_; have BK189 := n4_; have HB := n5_; clear n0_ n1_ n2_ n3_ n4_ n5_; clear hb hbox hg; have hnb42 := NB193_174.out; have hnc42 := NB174_193.out; have hnb43 := NB193_175.out; have hnc43 := NB175_193.out; have hnb44 := NB193_189.out; have hnc44 := NB189_193.out; have hcz45_0 : w41.cell? ⟨gb193, 0, none⟩ = some (.int .i64 0) := (blk_cell BK193.out 0).trans rfl; have hcz45_1 : w41.cell? ⟨gb193, 1, none⟩ = some (.int .i64 0) := (blk_cell BK193.out 1).trans rfl; have hfz45_0 := blk_frozen BK193.out 0; have hfz45_1 := blk_frozen BK193.out 1))
  go_ret
  exact ⟨by first | rfl | (simp [errW_none, errW_some] <;> rfl) | (simp [*, errW_none, errW_some] <;> rfl), y108_⟩

/-! ### spec_AreReports: function 56 -/
def spec_AreReports.l0 : Nat → List (S41) → Int → Option (Bool)
 | 0, _, _ => none
 | k + 1, x0, x3 => if x3 < (x0.length : Int) then (if 0 ≤ x3 then ((spec_IsReport.f k ((rd_T41 x0 x3).f0) ((rd_T41 x0 x3).f1) ((rd_T41 x0 x3).f2) ((rd_T41 x0 x3).f3) ((rd_T41 x0 x3).f4) ((rd_T41 x0 x3).f5) ((rd_T41 x0 x3).f6.f0) ((rd_T41 x0 x3).f6.f1)).bind fun t195 => (if t195 = true then (if x3 > 0 then (if 0 ≤ (wrap64 (x3 - 1)) then (if (wrap64 (x3 - 1)) < (x0.length : Int) then (if ((rd_T41 x0 (wrap64 (x3 - 1))).f0) ≥ ((rd_T41 x0 x3).f0) then (some false) else (spec_AreReports.l0 k x0 (wrap64 (x3 + 1)))) else (none)) else (none)) else (spec_AreReports.l0 k x0 (wrap64 (x3 + 1)))) else (some false))) else (none)) else (some (decide ((x0.length : Int) ≤ 20)))
def spec_AreReports.f (k : Nat) (l0 : List (S41)) : Option (Bool) := spec_AreReports.l0 k l0 0
theorem spec_AreReports.mono_l : ∀ k, (∀ y0 y1, LeO (spec_AreReports.l0 k y0 y1) (spec_AreReports.l0 (k + 1) y0 y1))
 | 0 => fun _ _ r h => by simp [spec_AreReports.l0] at h
 | k + 1 => by
  have ih0 := spec_AreReports.mono_l k
  ·
   intro y0 y1
   unfold spec_AreReports.l0
   repeat' first
   | (with_reducible exact ih0 _ _)
   | (with_reducible exact spec_IsReport.mono _ _ _ _ _ _ _ _ _)
   | (with_reducible exact LeO.refl _)
   | (with_reducible exact LeO.none _)
   | (with_reducible refine LeO.ite ?_ ?_)
   | (with_reducible refine LeO.bind ?_ (fun _ => ?_))
   | exact ih0 _ _
   | exact spec_IsReport.mono _ _ _ _ _ _ _ _ _
   | exact LeO.none _
   | refine LeO.ite ?_ ?_
   | refine LeO.bind ?_ (fun _ => ?_)
theorem spec_AreReports.mono : ∀ a0 k, LeO (spec_AreReports.f k a0) (spec_AreReports.f (k + 1) a0) := by
 intro a0 k
 have ih0 := spec_AreReports.mono_l k
 unfold spec_AreReports.f
 repeat' first
   | (with_reducible exact ih0 _ _)
   | (with_reducible exact spec_IsReport.mono _ _ _ _ _ _ _ _ _)
   | (with_reducible exact LeO.refl _)
   | (with_reducible exact LeO.none _)
   | (with_reducible refine LeO.ite ?_ ?_)
   | (with_reducible refine LeO.bind ?_ (fun _ => ?_))
   | exact ih0 _ _
   | exact spec_IsReport.mono _ _ _ _ _ _ _ _ _
   | exact LeO.none _
   | refine LeO.ite ?_ ?_
   | refine LeO.bind ?_ (fun _ => ?_)
def spec_AreReports.T4 : Bool × List (List Nat × List Nat) := (true, [([], []), ([], []), ([0, 1], [0, 1]), ([2], [2]), ([3], [3]), ([4], [4]), ([5, 4], [5]), ([6], [6]), ([7, 6], [6, 7]), ([8, 6, 6], [6, 8]), ([9], [9]), ([9], [9]), ([11, 9], [9, 11]), ([10, 12, 9], [9, 10, 12]), ([13, 9], [9, 13]), ([14, 9], [9, 14]), ([9], [9]), ([9], [9]), ([16, 17, 9], [9, 16, 17]), ([18, 9], [9, 18]), ([19, 9], [9, 19]), ([15, 20, 9], [9, 15, 20]), ([9, 21, 6], [6, 9, 21]), ([6, 22], [6, 22])])
def spec_AreReports.B4 : List Nat := [0, 0, 3, 7, 15, 31, 63, 127, 255, 511, 1023, 1023, 3071, 8191, 16383, 32767, 1023, 1023, 197631, 459775, 984063, 2097151, 4194303, 8388607]
theorem spec_AreReports.tab4 : rtab .any (opsOf Try.f56 4) = spec_AreReports.T4 := by kernel_rfl
theorem spec_AreReports.bits4 : waitsOk spec_AreReports.T4.2 spec_AreReports.B4 = true := by kernel_rfl
abbrev M2_0 : Array Bool := #[false, false, false, false, false, false, false, false, false, false, false, false, false, false, false, false, false, false, false, false, false, false, false, false]
abbrev M2_1 : Array Bool := #[true, false, false, false, false, false, false, false, false, false, false, false, false, false, false, false, false, false, false, false, false, false, false, false]
abbrev M2_2 : Array Bool := #[true, true, false, false, false, false, false, false, false, false, false, false, false, false, false, false, false, false, false, false, false, false, false, false]
abbrev M2_3 : Array Bool := #[true, true, true, false, false, false, false, false, false, false, false, false, false, false, false, false, false, false, false, false, false, false, false, false]
abbrev M2_4 : Array Bool := #[true, true, true, true, false, false, false, false, false, false, false, false, false, false, false, false, false, false, false, false, false, false, false, false]
abbrev M2_5 : Array Bool := #[true, true, true, true, true, false, false, false, false, false, false, false, false, false, false, false, false, false, false, false, false, false, false, false]
abbrev M2_6 : Array Bool := #[true, true, true, true, true, true, false, false, false, false, false, false, false, false, false, false, false, false, false, false, false, false, false, false]
abbrev M2_7 : Array Bool := #[true, true, true, true, true, true, true, false, false, false, false, false, false, false, false, false, false, false, false, false, false, false, false, false]
abbrev M2_8 : Array Bool := #[true, true, true, true, true, true, true, true, false, false, false, false, false, false, false, false, false, false, false, false, false, false, false, false]
abbrev M2_9 : Array Bool := #[true, true, true, true, true, true, true, true, true, false, false, false, false, false, false, false, false, false, false, false, false, false, false, false]
abbrev M2_10 : Array Bool := #[true, true, true, true, true, true, true, true, true, true, false, false, false, false, false, false, false, false, false, false, false, false, false, false]
abbrev M2_11 : Array Bool := #[true, true, true, true, true, true, true, true, true, true, true, false, false, false, false, false, false, false, false, false, false, false, false, false]
abbrev M2_12 : Array Bool := #[true, true, true, true, true, true, true, true, true, true, true, true, false, false, false, false, false, false, false, false, false, false, false, false]
abbrev M2_13 : Array Bool := #[true, true, true, true, true, true, true, true, true, true, true, true, true, false, false, false, false, false, false, false, false, false, false, false]
abbrev M2_14 : Array Bool := #[true, true, true, true, true, true, true, true, true, true, true, true, true, true, false, false, false, false, false, false, false, false, false, false]
abbrev M2_15 : Array Bool := #[true, true, true, true, true, true, true, true, true, true, true, true, true, true, true, false, false, false, false, false, false, false, false, false]
abbrev M2_16 : Array Bool := #[true, true, true, true, true, true, true, true, true, true, true, true, true, true, true, false, true, false, false, false, false, false, false, false]
abbrev M2_17 : Array Bool := #[true, true, true, true, true, true, true, true, true, true, true, true, true, true, true, false, true, true, false, false, false, false, false, false]
abbrev M2_18 : Array Bool := #[true, true, true, true, true, true, true, true, true, true, true, true, true, true, true, false, true, true, true, false, false, false, false, false]
abbrev M2_19 : Array Bool := #[true, true, true, true, true, true, true, true, true, true, true, true, true, true, true, false, true, true, true, true, false, false, false, false]
abbrev M2_20 : Array Bool := #[true, true, true, true, true, true, true, true, true, true, true, true, true, true, true, true, true, true, true, true, false, false, false, false]
abbrev M2_21 : Array Bool := #[true, true, true, true, true, true, true, true, true, true, true, true, true, true, true, true, true, true, true, true, true, false, false, false]
abbrev M2_22 : Array Bool := #[true, true, true, true, true, true, true, true, true, true, true, true, true, true, true, true, true, true, true, true, true, true, false, false]
abbrev M2_23 : Array Bool := #[true, true, true, true, true, true, true, true, true, true, true, true, true, true, true, true, true, true, true, true, true, true, true, false]
abbrev M2_24 : Array Bool := #[true, true, true, true, true, true, true, true, true, true, true, true, true, true, true, true, true, true, true, true, true, true, true, true]
abbrev M2_25 : Array Bool := #[true, true, true, true, true, true, true, true, true, true, true, true, true, true, true, true, false, false, false, false, false, false, false, false]
abbrev M2_26 : Array Bool := #[true, true, true, true, true, true, true, true, true, true, true, true, true, true, true, true, true, false, false, false, false, false, false, false]
abbrev M2_27 : Array Bool := #[true, true, true, true, true, true, true, true, true, true, true, true, true, true, true, true, true, true, false, false, false, false, false, false]
abbrev M2_28 : Array Bool := #[true, true, true, true, true, true, true, true, true, true, true, true, true, true, true, true, true, true, true, false, false, false, false, false]
theorem P2_1 {α : Type} (l : List α) (i : Nat) (a : α) : l.toArray.setIfInBounds i a = (l.set i a).toArray := List.setIfInBounds_toArray l i a
theorem P2_2 {α : Type} (x : α) (l : List α) (a : α) : (x :: l).set 0 a = a :: l := List.set_cons_zero
theorem P2_3 {α : Type} (x : α) (l : List α) (n : Nat) (a : α) : (x :: l).set (n + 1) a = x :: l.set n a := List.set_cons_succ
set_option maxHeartbeats 8000000 in
set_option maxRecDepth 100000 in
theorem spec_AreReports.calls (k : Nat) (A0 : Option Addr) (c0 : Nat) (l0 : List (S41)) (r : Bool) (w : World) (hr0 : Kd.C k41 w A0 l0.length l0) (hc0 : l0.length ≤ c0) (h : spec_AreReports.f k l0 = some r) :
  Calls Try.prog 56 #[.slice A0 l0.length c0] w fun e w' => e = .returned (.bool r) ∧ Below w.heap.size w w' := by
 have hu41 := Try.underlying41
 have HR0 := Aside0.mk hr0
 have HC0 := Aside0.mk hc0
 clear hr0 hc0
 have HB := Aside0.mk (Below.refl w.heap.size w)
 have H : (spec_AreReports.l0 k l0 0) = some r := h
 clear h
 have H' := Aside0.mk H
 clear H
 go_enter Try.func56, Try.ntmps56
 go_wp2
 go_loopg [3] k (fun kq v3 w' => ∃ (x3_1 : Int), v3 = .int .i64 x3_1 ∧ Aside0 (spec_AreReports.l0 kq l0 x3_1 = some r) ∧ Aside0 (kq ≤ k) ∧ Aside0 (Below w.heap.size w w'))
 case atStart => exact ⟨(0), (by first | rfl | (simp; done) | (simp [*]; done)), H', ⟨Nat.le_refl _⟩, ⟨hd_ HB.out⟩⟩
 case round =>
  clear H'
  obtain ⟨x3_1, rfl, HA, HK1, HB⟩ := hrel
  cases gk with
  | zero => exact absurd HA.out (by simp [spec_AreReports.l0])
  | succ k1 =>
   have H := HA.out
   clear HA
   simp only [spec_AreReports.l0] at H
   by_cases c2 : x3_1 < (l0.length : Int)
   ·
    rw [if_pos c2] at H
    have c2b0 : decide (x3_1 < (l0.length : Int)) = true := decide_eq_true c2
    clear c2
    by_cases c3 : 0 ≤ x3_1
    ·
     rw [if_pos c3] at H
     have c3b0 : decide (0 ≤ x3_1) = true := decide_eq_true c3
     clear c3
     replace H := Option.bind_eq_some_iff.mp H
     obtain ⟨t195, A40, H⟩ := H
     replace H : (if t195 = true then (if x3_1 > 0 then (if 0 ≤ (wrap64 (x3_1 - 1)) then (if (wrap64 (x3_1 - 1)) < (l0.length : Int) then (if ((rd_T41 l0 (wrap64 (x3_1 - 1))).f0) ≥ ((rd_T41 l0 x3_1).f0) then (some false) else (spec_AreReports.l0 k1 l0 (wrap64 (x3_1 + 1)))) else (none)) else (none)) else (spec_AreReports.l0 k1 l0 (wrap64 (x3_1 + 1)))) else (some false)) = some r := H
     have A4 := Aside0.mk A40
     clear A40
     by_cases c5 : t195 = true
     ·
      subst c5
      have H1 : (if x3_1 > 0 then (if 0 ≤ (wrap64 (x3_1 - 1)) then (if (wrap64 (x3_1 - 1)) < (l0.length : Int) then (if ((rd_T41 l0 (wrap64 (x3_1 - 1))).f0) ≥ ((rd_T41 l0 x3_1).f0) then (some false) else (spec_AreReports.l0 k1 l0 (wrap64 (x3_1 + 1)))) else (none)) else (none)) else (spec_AreReports.l0 k1 l0 (wrap64 (x3_1 + 1)))) = some r := by rw [if_pos rfl] at H; exact H
      clear H
      have H := H1
      clear H1
      by_cases c6 : x3_1 > 0
      ·
       rw [if_pos c6] at H
       have c6b0 : decide (0 < x3_1) = true := decide_eq_true c6
       clear c6
       obtain ⟨ji7, hji7⟩ : ∃ j_ : Int, (wrap64 (x3_1 - 1)) = j_ := ⟨_, rfl⟩
       replace H : (if 0 ≤ (ji7) then (if (ji7) < (l0.length : Int) then (if ((rd_T41 l0 (ji7)).f0) ≥ ((rd_T41 l0 x3_1).f0) then (some false) else (spec_AreReports.l0 k1 l0 (wrap64 (x3_1 + 1)))) else (none)) else (none)) = some r := by first | (rw [hji7] at H; exact H) | (simp only [hji7] at H ⊢; exact H)
       (try rw [hji7] at A4)
       have hji7w : (IntKind.i64.wrap (x3_1 - 1)) = ji7 := (i64_w _).trans hji7
       by_cases c8 : 0 ≤ (ji7)
       ·
        rw [if_pos c8] at H
        have c8b0 : decide (0 ≤ (ji7)) = true := decide_eq_true c8
        clear c8
        by_cases c9 : (ji7) < (l0.length : Int)
        ·
         rw [if_pos c9] at H
         have c9b0 : decide ((ji7) < (l0.length : Int)) = true := decide_eq_true c9
         clear c9
         by_cases c10 : ((rd_T41 l0 (ji7)).f0) ≥ ((rd_T41 l0 x3_1).f0)
         ·
          rw [if_pos c10] at H
          have c10b0 : decide (((rd_T41 l0 x3_1).f0) ≤ ((rd_T41 l0 (ji7)).f0)) = true := decide_eq_true c10
          clear c10
          obtain rfl := Option.some.inj H
          try go_wp2
          have n0_ := Aside0.mk (below_drew1 HB.out)
          clear HB
          have HB := n0_
          clear n0_
          have p194 : 0 ≤ (x3_1 : Int) := of_decide_eq_true as_
          have q194 : x3_1 < (l0.length : Int) := of_decide_eq_true as_
          obtain ⟨ad194, A194_2, c194_2, A194_5, c194_5, e194, hx194_0, hx194_1, hx194_2, hx194_3, hx194_4, hx194_5, hx194_6, hx194_7, hl194_2, hi194_2, hl194_5, hi194_5⟩ := at_T41 HR0.out x3_1 p194 q194
          have hw194_7 := hx194_7
          have hw194_6 := hx194_6
          have hw194_5 := hx194_5
          have hw194_4 := hx194_4
          have hw194_3 := hx194_3
          have hw194_2 := hx194_2
          have hw194_1 := hx194_1
          have hw194_0 := hx194_0
          cases e194
          replace hx194_0 := cb_ HB.out hx194_0
          replace hx194_1 := cb_ HB.out hx194_1
          replace hx194_2 := cb_ HB.out hx194_2
          replace hx194_3 := cb_ HB.out hx194_3
          replace hx194_4 := cb_ HB.out hx194_4
          replace hx194_5 := cb_ HB.out hx194_5
          replace hx194_6 := cb_ HB.out hx194_6
          replace hx194_7 := cb_ HB.out hx194_7
          have HR194_2 := Aside0.mk hi194_2
          have HC194_2 := Aside0.mk hl194_2
          clear hi194_2 hl194_2
          have HR194_5 := Aside0.mk hi194_5
          have HC194_5 := Aside0.mk hl194_5
          clear hi194_5 hl194_5
          replace p194 := eq_true p194
          replace q194 := eq_true q194
          have p196 : 0 ≤ ((ji7) : Int) := of_decide_eq_true as_
          have q196 : (ji7) < (l0.length : Int) := of_decide_eq_true as_
          obtain ⟨ad196, A196_2, c196_2, A196_5, c196_5, e196, hx196_0, hx196_1, hx196_2, hx196_3, hx196_4, hx196_5, hx196_6, hx196_7, hl196_2, hi196_2, hl196_5, hi196_5⟩ := at_T41 HR0.out (ji7) p196 q196
          have hw196_7 := hx196_7
          have hw196_6 := hx196_6
          have hw196_5 := hx196_5
          have hw196_4 := hx196_4
          have hw196_3 := hx196_3
          have hw196_2 := hx196_2
          have hw196_1 := hx196_1
          have hw196_0 := hx196_0
          obtain rfl : ad194 = ad196 := (by injection e196)
          replace hx196_0 := cb_ HB.out hx196_0
          replace hx196_1 := cb_ HB.out hx196_1
          replace hx196_2 := cb_ HB.out hx196_2
          replace hx196_3 := cb_ HB.out hx196_3
          replace hx196_4 := cb_ HB.out hx196_4
          replace hx196_5 := cb_ HB.out hx196_5
          replace hx196_6 := cb_ HB.out hx196_6
          replace hx196_7 := cb_ HB.out hx196_7
          have HR196_2 := Aside0.mk hi196_2
          have HC196_2 := Aside0.mk hl196_2
          clear hi196_2 hl196_2
          have HR196_5 := Aside0.mk hi196_5
          have HC196_5 := Aside0.mk hl196_5
          clear hi196_5 hl196_5
          replace p196 := eq_true p196
          replace q196 := eq_true q196
          have p197 : 0 ≤ (x3_1 : Int) := of_decide_eq_true as_
          have q197 : x3_1 < (l0.length : Int) := of_decide_eq_true as_
          obtain ⟨ad197, A197_2, c197_2, A197_5, c197_5, e197, hx197_0, hx197_1, hx197_2, hx197_3, hx197_4, hx197_5, hx197_6, hx197_7, hl197_2, hi197_2, hl197_5, hi197_5⟩ := at_T41 HR0.out x3_1 p197 q197
          have hw197_7 := hx197_7
          have hw197_6 := hx197_6
          have hw197_5 := hx197_5
          have hw197_4 := hx197_4
          have hw197_3 := hx197_3
          have hw197_2 := hx197_2
          have hw197_1 := hx197_1
          have hw197_0 := hx197_0
          obtain rfl : ad194 = ad197 := (by injection e197)
          replace hx197_0 := cb_ HB.out hx197_0
          replace hx197_1 := cb_ HB.out hx197_1
          replace hx197_2 := cb_ HB.out hx197_2
          replace hx197_3 := cb_ HB.out hx197_3
          replace hx197_4 := cb_ HB.out hx197_4
          replace hx197_5 := cb_ HB.out hx197_5
          replace hx197_6 := cb_ HB.out hx197_6
          replace hx197_7 := cb_ HB.out hx197_7
          have HR197_2 := Aside0.mk hi197_2
          have HC197_2 := Aside0.mk hl197_2
          clear hi197_2 hl197_2
          have HR197_5 := Aside0.mk hi197_5
          have HC197_5 := Aside0.mk hl197_5
          clear hi197_5 hl197_5
          replace p197 := eq_true p197
          replace q197 := eq_true q197
          refine start_ (n := 24) (S := fun w' => q2_ w' (ad194.add ((x3_1).toNat * 8)) ((rd_T41 l0 x3_1).f0) ((rd_T41 l0 x3_1).f1) A194_2 ((rd_T41 l0 x3_1).f2).length c194_2 ((rd_T41 l0 x3_1).f3) ((rd_T41 l0 x3_1).f4) A194_5 ((rd_T41 l0 x3_1).f5).length c194_5 ((rd_T41 l0 x3_1).f6.f0) ((rd_T41 l0 x3_1).f6.f1) (q2_ w' (ad194.add (((ji7)).toNat * 8)) ((rd_T41 l0 (ji7)).f0) ((rd_T41 l0 (ji7)).f1) A196_2 ((rd_T41 l0 (ji7)).f2).length c196_2 ((rd_T41 l0 (ji7)).f3) ((rd_T41 l0 (ji7)).f4) A196_5 ((rd_T41 l0 (ji7)).f5).length c196_5 ((rd_T41 l0 (ji7)).f6.f0) ((rd_T41 l0 (ji7)).f6.f1) (q2e_ w' (ad194.add ((x3_1).toNat * 8)) ((rd_T41 l0 x3_1).f0) ((rd_T41 l0 x3_1).f1) A197_2 ((rd_T41 l0 x3_1).f2).length c197_2 ((rd_T41 l0 x3_1).f3) ((rd_T41 l0 x3_1).f4) A197_5 ((rd_T41 l0 x3_1).f5).length c197_5 ((rd_T41 l0 x3_1).f6.f0) ((rd_T41 l0 x3_1).f6.f1)))) (ds := []) M2_0 (by kernel_rfl) rfl rfl ⟨(cb_ HB.out hw194_0), (cb_ HB.out hw194_1), (cb_ HB.out hw194_2), (cb_ HB.out hw194_3), (cb_ HB.out hw194_4), (cb_ HB.out hw194_5), (cb_ HB.out hw194_6), (cb_ HB.out hw194_7), (cb_ HB.out hw196_0), (cb_ HB.out hw196_1), (cb_ HB.out hw196_2), (cb_ HB.out hw196_3), (cb_ HB.out hw196_4), (cb_ HB.out hw196_5), (cb_ HB.out hw196_6), (cb_ HB.out hw196_7), (cb_ HB.out hw197_0), (cb_ HB.out hw197_1), (cb_ HB.out hw197_2), (cb_ HB.out hw197_3), (cb_ HB.out hw197_4), (cb_ HB.out hw197_5), (cb_ HB.out hw197_6), (cb_ HB.out hw197_7)⟩ (fun hHeld => ?_); refine with_tabW spec_AreReports.tab4 spec_AreReports.bits4 (fun HT_ HW_ => ?_)
          generalize wr.drew = w11 at HB HR194_2 HR194_5 HR196_2 HR196_5 HR197_2 HR197_5 hx194_0 hx194_1 hx194_2 hx194_3 hx194_4 hx194_5 hx194_6 hx194_7 hx196_0 hx196_1 hx196_2 hx196_3 hx196_4 hx196_5 hx196_6 hx196_7 hx197_0 hx197_1 hx197_2 hx197_3 hx197_4 hx197_5 hx197_6 hx197_7 hHeld ⊢
          refine pu_ 0 (some 10) M2_1 HT_ ?_
          refine pu_ 1 (some 11) M2_2 HT_ ?_
          refine pu_ 2 (some 12) M2_3 HT_ ?_
          refine tk_ 3 (some 13) M2_4 HT_ HW_ hHeld ?_
          refine one_ (i := 4) (N := some 14) M2_5 rfl rfl (one_of HT_.out (by kernel_rfl)) (by decide) (fun K hK => ?_)
          refine goes_ Try.func76 (by kernel_rfl) rfl #[.agg #[.int .i64 ((rd_T41 l0 x3_1).f0), .int .i64 ((rd_T41 l0 x3_1).f1), .slice A194_2 ((rd_T41 l0 x3_1).f2).length c194_2, .int .i64 ((rd_T41 l0 x3_1).f3), .int .i64 ((rd_T41 l0 x3_1).f4), .slice A194_5 ((rd_T41 l0 x3_1).f5).length c194_5, .int .i64 ((rd_T41 l0 x3_1).f6.f0), .int .i64 ((rd_T41 l0 x3_1).f6.f1)]] (by rfl) rfl rfl ma_ ?_
          with_reducible refine (spec_IsReport.calls k1 ((rd_T41 l0 x3_1).f0) ((rd_T41 l0 x3_1).f1) _ _ ((rd_T41 l0 x3_1).f2) ((rd_T41 l0 x3_1).f3) ((rd_T41 l0 x3_1).f4) _ _ ((rd_T41 l0 x3_1).f5) ((rd_T41 l0 x3_1).f6.f0) ((rd_T41 l0 x3_1).f6.f1) true _ ?side1 ?side2 ?side3 ?side4 A4.out).mono ?_
          (case side1 => exact cd_ (Kd.C_below HR194_2.out HB.out))
          (case side2 => exact HC194_2.out)
          (case side3 => exact cd_ (Kd.C_below HR194_5.out HB.out))
          (case side4 => exact HC194_5.out)
          rintro e w12 ⟨rfl, hb⟩
          refine ⟨_, rfl, ?_⟩
          have n0_ := Aside0.mk (below_step (hd_ HB.out) hb)
          clear HB
          have HB := n0_
          clear n0_
          (try clear hb)
          (try clear hb2)
          (try clear hk)
          (try clear hi)
          refine hK.out _ _ ⟨(cb_ HB.out hw194_0), (cb_ HB.out hw194_1), (cb_ HB.out hw194_2), (cb_ HB.out hw194_3), (cb_ HB.out hw194_4), (cb_ HB.out hw194_5), (cb_ HB.out hw194_6), (cb_ HB.out hw194_7), (cb_ HB.out hw196_0), (cb_ HB.out hw196_1), (cb_ HB.out hw196_2), (cb_ HB.out hw196_3), (cb_ HB.out hw196_4), (cb_ HB.out hw196_5), (cb_ HB.out hw196_6), (cb_ HB.out hw196_7), (cb_ HB.out hw197_0), (cb_ HB.out hw197_1), (cb_ HB.out hw197_2), (cb_ HB.out hw197_3), (cb_ HB.out hw197_4), (cb_ HB.out hw197_5), (cb_ HB.out hw197_6), (cb_ HB.out hw197_7)⟩ (fun hHeld => ?_)
          clear hK K
          refine norm_ (a' := ?_) ?_ ?_
          rotate_left
          ·
           show Act.put _ (some 14) _ = _
           simp only [Act.put, P2_1, P2_2, P2_3, i64_w, i32_w]
           rfl
          refine pu_ 5 (some 15) M2_6 HT_ ?_
          refine pu_ 6 (some 16) M2_7 HT_ ?_
          refine pu_ 7 (some 17) M2_8 HT_ ?_
          refine pu_ 8 (some 18) M2_9 HT_ ?_
          refine pu_ 9 (some 19) M2_10 HT_ ?_
          refine pu_ 10 (some 20) M2_11 HT_ ?_
          refine pu_ 11 (some 21) M2_12 HT_ ?_
          refine pu_ 12 (some 22) M2_13 HT_ ?_
          refine pu_ 13 (some 23) M2_14 HT_ ?_
          refine pu_ 14 (some 24) M2_15 HT_ ?_
          refine pu_ 16 (some 26) M2_16 HT_ ?_
          refine pu_ 17 (some 27) M2_17 HT_ ?_
          refine pu_ 18 (some 28) M2_18 HT_ ?_
          refine pu_ 19 (some 29) M2_19 HT_ ?_
          refine tk_ 15 (some 25) M2_20 HT_ HW_ hHeld ?_
          refine tk_ 20 (some 30) M2_21 HT_ HW_ hHeld ?_
          refine pu_ 21 (some 31) M2_22 HT_ ?_
          refine pu_ 22 (some 32) M2_23 HT_ ?_
          refine pu_ 23 (some 33) M2_24 HT_ ?_
          refine done_ (done_of HT_.out (by kernel_rfl)) ?_
          try go_wp2
          go_ret
          exact ⟨by first | rfl | (simp [errW_none, errW_some] <;> rfl) | (simp only [← hji7]; first | rfl | (simp [errW_none, errW_some] <;> rfl)) | (simp [*, errW_none, errW_some] <;> rfl), hd_ HB.out⟩
         ·
          rw [if_neg c10] at H
          have c10b0 : decide (((rd_T41 l0 x3_1).f0) ≤ ((rd_T41 l0 (ji7)).f0)) = false := decide_eq_false c10
          clear c10
          have H' := Aside0.mk H
          clear H
          try go_wp2
          have n0_ := Aside0.mk (below_drew1 HB.out)
          clear HB
          have HB := n0_
          clear n0_
          have p194 : 0 ≤ (x3_1 : Int) := of_decide_eq_true as_
          have q194 : x3_1 < (l0.length : Int) := of_decide_eq_true as_
          obtain ⟨ad194, A194_2, c194_2, A194_5, c194_5, e194, hx194_0, hx194_1, hx194_2, hx194_3, hx194_4, hx194_5, hx194_6, hx194_7, hl194_2, hi194_2, hl194_5, hi194_5⟩ := at_T41 HR0.out x3_1 p194 q194
          have hw194_7 := hx194_7
          have hw194_6 := hx194_6
          have hw194_5 := hx194_5
          have hw194_4 := hx194_4
          have hw194_3 := hx194_3
          have hw194_2 := hx194_2
          have hw194_1 := hx194_1
          have hw194_0 := hx194_0
          cases e194
          replace hx194_0 := cb_ HB.out hx194_0
          replace hx194_1 := cb_ HB.out hx194_1
          replace hx194_2 := cb_ HB.out hx194_2
          replace hx194_3 := cb_ HB.out hx194_3
          replace hx194_4 := cb_ HB.out hx194_4
          replace hx194_5 := cb_ HB.out hx194_5
          replace hx194_6 := cb_ HB.out hx194_6
          replace hx194_7 := cb_ HB.out hx194_7
          have HR194_2 := Aside0.mk hi194_2
          have HC194_2 := Aside0.mk hl194_2
          clear hi194_2 hl194_2
          have HR194_5 := Aside0.mk hi194_5
          have HC194_5 := Aside0.mk hl194_5
          clear hi194_5 hl194_5
          replace p194 := eq_true p194
          replace q194 := eq_true q194
          have p196 : 0 ≤ ((ji7) : Int) := of_decide_eq_true as_
          have q196 : (ji7) < (l0.length : Int) := of_decide_eq_true as_
          obtain ⟨ad196, A196_2, c196_2, A196_5, c196_5, e196, hx196_0, hx196_1, hx196_2, hx196_3, hx196_4, hx196_5, hx196_6, hx196_7, hl196_2, hi196_2, hl196_5, hi196_5⟩ := at_T41 HR0.out (ji7) p196 q196
          have hw196_7 := hx196_7
          have hw196_6 := hx196_6
          have hw196_5 := hx196_5
          have hw196_4 := hx196_4
          have hw196_3 := hx196_3
          have hw196_2 := hx196_2
          have hw196_1 := hx196_1
          have hw196_0 := hx196_0
          obtain rfl : ad194 = ad196 := (by injection e196)
          replace hx196_0 := cb_ HB.out hx196_0
          replace hx196_1 := cb_ HB.out hx196_1
          replace hx196_2 := cb_ HB.out hx196_2
          replace hx196_3 := cb_ HB.out hx196_3
          replace hx196_4 := cb_ HB.out hx196_4
          replace hx196_5 := cb_ HB.out hx196_5
          replace hx196_6 := cb_ HB.out hx196_6
          replace hx196_7 := cb_ HB.out hx196_7
          have HR196_2 := Aside0.mk hi196_2
          have HC196_2 := Aside0.mk hl196_2
          clear hi196_2 hl196_2
          have HR196_5 := Aside0.mk hi196_5
          have HC196_5 := Aside0.mk hl196_5
          clear hi196_5 hl196_5
          replace p196 := eq_true p196
          replace q196 := eq_true q196
          have p197 : 0 ≤ (x3_1 : Int) := of_decide_eq_true as_
          have q197 : x3_1 < (l0.length : Int) := of_decide_eq_true as_
          obtain ⟨ad197, A197_2, c197_2, A197_5, c197_5, e197, hx197_0, hx197_1, hx197_2, hx197_3, hx197_4, hx197_5, hx197_6, hx197_7, hl197_2, hi197_2, hl197_5, hi197_5⟩ := at_T41 HR0.out x3_1 p197 q197
          have hw197_7 := hx197_7
          have hw197_6 := hx197_6
          have hw197_5 := hx197_5
          have hw197_4 := hx197_4
          have hw197_3 := hx197_3
          have hw197_2 := hx197_2
          have hw197_1 := hx197_1
          have hw197_0 := hx197_0
          obtain rfl : ad194 = ad197 := (by injection e197)
          replace hx197_0 := cb_ HB.out hx197_0
          replace hx197_1 := cb_ HB.out hx197_1
          replace hx197_2 := cb_ HB.out hx197_2
          replace hx197_3 := cb_ HB.out hx197_3
          replace hx197_4 := cb_ HB.out hx197_4
          replace hx197_5 := cb_ HB.out hx197_5
          replace hx197_6 := cb_ HB.out hx197_6
          replace hx197_7 := cb_ HB.out hx197_7
          have HR197_2 := Aside0.mk hi197_2
          have HC197_2 := Aside0.mk hl197_2
          clear hi197_2 hl197_2
          have HR197_5 := Aside0.mk hi197_5
          have HC197_5 := Aside0.mk hl197_5
          clear hi197_5 hl197_5
          replace p197 := eq_true p197
          replace q197 := eq_true q197
          refine start_ (n := 24) (S := fun w' => q2_ w' (ad194.add ((x3_1).toNat * 8)) ((rd_T41 l0 x3_1).f0) ((rd_T41 l0 x3_1).f1) A194_2 ((rd_T41 l0 x3_1).f2).length c194_2 ((rd_T41 l0 x3_1).f3) ((rd_T41 l0 x3_1).f4) A194_5 ((rd_T41 l0 x3_1).f5).length c194_5 ((rd_T41 l0 x3_1).f6.f0) ((rd_T41 l0 x3_1).f6.f1) (q2_ w' (ad194.add (((ji7)).toNat * 8)) ((rd_T41 l0 (ji7)).f0) ((rd_T41 l0 (ji7)).f1) A196_2 ((rd_T41 l0 (ji7)).f2).length c196_2 ((rd_T41 l0 (ji7)).f3) ((rd_T41 l0 (ji7)).f4) A196_5 ((rd_T41 l0 (ji7)).f5).length c196_5 ((rd_T41 l0 (ji7)).f6.f0) ((rd_T41 l0 (ji7)).f6.f1) (q2e_ w' (ad194.add ((x3_1).toNat * 8)) ((rd_T41 l0 x3_1).f0) ((rd_T41 l0 x3_1).f1) A197_2 ((rd_T41 l0 x3_1).f2).length c197_2 ((rd_T41 l0 x3_1).f3) ((rd_T41 l0 x3_1).f4) A197_5 ((rd_T41 l0 x3_1).f5).length c197_5 ((rd_T41 l0 x3_1).f6.f0) ((rd_T41 l0 x3_1).f6.f1)))) (ds := []) M2_0 (by kernel_rfl) rfl rfl ⟨(cb_ HB.out hw194_0), (cb_ HB.out hw194_1), (cb_ HB.out hw194_2), (cb_ HB.out hw194_3), (cb_ HB.out hw194_4), (cb_ HB.out hw194_5), (cb_ HB.out hw194_6), (cb_ HB.out hw194_7), (cb_ HB.out hw196_0), (cb_ HB.out hw196_1), (cb_ HB.out hw196_2), (cb_ HB.out hw196_3), (cb_ HB.out hw196_4), (cb_ HB.out hw196_5), (cb_ HB.out hw196_6), (cb_ HB.out hw196_7), (cb_ HB.out hw197_0), (cb_ HB.out hw197_1), (cb_ HB.out hw197_2), (cb_ HB.out hw197_3), (cb_ HB.out hw197_4), (cb_ HB.out hw197_5), (cb_ HB.out hw197_6), (cb_ HB.out hw197_7)⟩ (fun hHeld => ?_); refine with_tabW spec_AreReports.tab4 spec_AreReports.bits4 (fun HT_ HW_ => ?_)
          generalize wr.drew = w13 at HB HR194_2 HR194_5 HR196_2 HR196_5 HR197_2 HR197_5 hx194_0 hx194_1 hx194_2 hx194_3 hx194_4 hx194_5 hx194_6 hx194_7 hx196_0 hx196_1 hx196_2 hx196_3 hx196_4 hx196_5 hx196_6 hx196_7 hx197_0 hx197_1 hx197_2 hx197_3 hx197_4 hx197_5 hx197_6 hx197_7 hHeld ⊢
          refine pu_ 0 (some 10) M2_1 HT_ ?_
          refine pu_ 1 (some 11) M2_2 HT_ ?_
          refine pu_ 2 (some 12) M2_3 HT_ ?_
          refine tk_ 3 (some 13) M2_4 HT_ HW_ hHeld ?_
          refine one_ (i := 4) (N := some 14) M2_5 rfl rfl (one_of HT_.out (by kernel_rfl)) (by decide) (fun K hK => ?_)
          refine goes_ Try.func76 (by kernel_rfl) rfl #[.agg #[.int .i64 ((rd_T41 l0 x3_1).f0), .int .i64 ((rd_T41 l0 x3_1).f1), .slice A194_2 ((rd_T41 l0 x3_1).f2).length c194_2, .int .i64 ((rd_T41 l0 x3_1).f3), .int .i64 ((rd_T41 l0 x3_1).f4), .slice A194_5 ((rd_T41 l0 x3_1).f5).length c194_5, .int .i64 ((rd_T41 l0 x3_1).f6.f0), .int .i64 ((rd_T41 l0 x3_1).f6.f1)]] (by rfl) rfl rfl ma_ ?_
          with_reducible refine (spec_IsReport.calls k1 ((rd_T41 l0 x3_1).f0) ((rd_T41 l0 x3_1).f1) _ _ ((rd_T41 l0 x3_1).f2) ((rd_T41 l0 x3_1).f3) ((rd_T41 l0 x3_1).f4) _ _ ((rd_T41 l0 x3_1).f5) ((rd_T41 l0 x3_1).f6.f0) ((rd_T41 l0 x3_1).f6.f1) true _ ?side1 ?side2 ?side3 ?side4 A4.out).mono ?_
          (case side1 => exact cd_ (Kd.C_below HR194_2.out HB.out))
          (case side2 => exact HC194_2.out)
          (case side3 => exact cd_ (Kd.C_below HR194_5.out HB.out))
          (case side4 => exact HC194_5.out)
          rintro e w14 ⟨rfl, hb⟩
          refine ⟨_, rfl, ?_⟩
          have n0_ := Aside0.mk (below_step (hd_ HB.out) hb)
          clear HB
          have HB := n0_
          clear n0_
          (try clear hb)
          (try clear hb2)
          (try clear hk)
          (try clear hi)
          refine hK.out _ _ ⟨(cb_ HB.out hw194_0), (cb_ HB.out hw194_1), (cb_ HB.out hw194_2), (cb_ HB.out hw194_3), (cb_ HB.out hw194_4), (cb_ HB.out hw194_5), (cb_ HB.out hw194_6), (cb_ HB.out hw194_7), (cb_ HB.out hw196_0), (cb_ HB.out hw196_1), (cb_ HB.out hw196_2), (cb_ HB.out hw196_3), (cb_ HB.out hw196_4), (cb_ HB.out hw196_5), (cb_ HB.out hw196_6), (cb_ HB.out hw196_7), (cb_ HB.out hw197_0), (cb_ HB.out hw197_1), (cb_ HB.out hw197_2), (cb_ HB.out hw197_3), (cb_ HB.out hw197_4), (cb_ HB.out hw197_5), (cb_ HB.out hw197_6), (cb_ HB.out hw197_7)⟩ (fun hHeld => ?_)
          clear hK K
          refine norm_ (a' := ?_) ?_ ?_
          rotate_left
          ·
           show Act.put _ (some 14) _ = _
           simp only [Act.put, P2_1, P2_2, P2_3, i64_w, i32_w]
           rfl
          refine pu_ 5 (some 15) M2_6 HT_ ?_
          refine pu_ 6 (some 16) M2_7 HT_ ?_
          refine pu_ 7 (some 17) M2_8 HT_ ?_
          refine pu_ 8 (some 18) M2_9 HT_ ?_
          refine pu_ 9 (some 19) M2_10 HT_ ?_
          refine pu_ 10 (some 20) M2_11 HT_ ?_
          refine pu_ 11 (some 21) M2_12 HT_ ?_
          refine pu_ 12 (some 22) M2_13 HT_ ?_
          refine pu_ 13 (some 23) M2_14 HT_ ?_
          refine pu_ 14 (some 24) M2_15 HT_ ?_
          refine pu_ 16 (some 26) M2_16 HT_ ?_
          refine pu_ 17 (some 27) M2_17 HT_ ?_
          refine pu_ 18 (some 28) M2_18 HT_ ?_
          refine pu_ 19 (some 29) M2_19 HT_ ?_
          refine tk_ 15 (some 25) M2_20 HT_ HW_ hHeld ?_
          refine tk_ 20 (some 30) M2_21 HT_ HW_ hHeld ?_
          refine pu_ 21 (some 31) M2_22 HT_ ?_
          refine pu_ 22 (some 32) M2_23 HT_ ?_
          refine pu_ 23 (some 33) M2_24 HT_ ?_
          refine done_ (done_of HT_.out (by kernel_rfl)) ?_
          try go_wp2
          go_roundg k1
          case measure => have := HK1.out; omega
          case rel => exact ⟨(wrap64 (x3_1 + 1)), (by first | rfl | (simp; done) | (simp [*]; done)), H', ⟨by have := HK1.out; omega⟩, ⟨hd_ HB.out⟩⟩
        ·
         rw [if_neg c9] at H
         exact absurd H (by simp)
       ·
        rw [if_neg c8] at H
        exact absurd H (by simp)
      ·
       rw [if_neg c6] at H
       have c6b0 : decide (0 < x3_1) = false := decide_eq_false c6
       clear c6
       have H' := Aside0.mk H
       clear H
       try go_wp2
       have n0_ := Aside0.mk (below_drew1 HB.out)
       clear HB
       have HB := n0_
       clear n0_
       have p194 : 0 ≤ (x3_1 : Int) := of_decide_eq_true as_
       have q194 : x3_1 < (l0.length : Int) := of_decide_eq_true as_
       obtain ⟨ad194, A194_2, c194_2, A194_5, c194_5, e194, hx194_0, hx194_1, hx194_2, hx194_3, hx194_4, hx194_5, hx194_6, hx194_7, hl194_2, hi194_2, hl194_5, hi194_5⟩ := at_T41 HR0.out x3_1 p194 q194
       have hw194_7 := hx194_7
       have hw194_6 := hx194_6
       have hw194_5 := hx194_5
       have hw194_4 := hx194_4
       have hw194_3 := hx194_3
       have hw194_2 := hx194_2
       have hw194_1 := hx194_1
       have hw194_0 := hx194_0
       cases e194
       replace hx194_0 := cb_ HB.out hx194_0
       replace hx194_1 := cb_ HB.out hx194_1
       replace hx194_2 := cb_ HB.out hx194_2
       replace hx194_3 := cb_ HB.out hx194_3
       replace hx194_4 := cb_ HB.out hx194_4
       replace hx194_5 := cb_ HB.out hx194_5
       replace hx194_6 := cb_ HB.out hx194_6
       replace hx194_7 := cb_ HB.out hx194_7
       have HR194_2 := Aside0.mk hi194_2
       have HC194_2 := Aside0.mk hl194_2
       clear hi194_2 hl194_2
       have HR194_5 := Aside0.mk hi194_5
       have HC194_5 := Aside0.mk hl194_5
       clear hi194_5 hl194_5
       replace p194 := eq_true p194
       replace q194 := eq_true q194
       refine start_ (n := 24) (S := fun w' => q2e_ w' (ad194.add ((x3_1).toNat * 8)) ((rd_T41 l0 x3_1).f0) ((rd_T41 l0 x3_1).f1) A194_2 ((rd_T41 l0 x3_1).f2).length c194_2 ((rd_T41 l0 x3_1).f3) ((rd_T41 l0 x3_1).f4) A194_5 ((rd_T41 l0 x3_1).f5).length c194_5 ((rd_T41 l0 x3_1).f6.f0) ((rd_T41 l0 x3_1).f6.f1)) (ds := []) M2_0 (by kernel_rfl) rfl rfl ⟨(cb_ HB.out hw194_0), (cb_ HB.out hw194_1), (cb_ HB.out hw194_2), (cb_ HB.out hw194_3), (cb_ HB.out hw194_4), (cb_ HB.out hw194_5), (cb_ HB.out hw194_6), (cb_ HB.out hw194_7)⟩ (fun hHeld => ?_); refine with_tabW spec_AreReports.tab4 spec_AreReports.bits4 (fun HT_ HW_ => ?_)
       generalize wr.drew = w15 at HB HR194_2 HR194_5 hx194_0 hx194_1 hx194_2 hx194_3 hx194_4 hx194_5 hx194_6 hx194_7 hHeld ⊢
       refine pu_ 0 (some 10) M2_1 HT_ ?_
       refine pu_ 1 (some 11) M2_2 HT_ ?_
       refine pu_ 2 (some 12) M2_3 HT_ ?_
       refine tk_ 3 (some 13) M2_4 HT_ HW_ hHeld ?_
       refine one_ (i := 4) (N := some 14) M2_5 rfl rfl (one_of HT_.out (by kernel_rfl)) (by decide) (fun K hK => ?_)
       refine goes_ Try.func76 (by kernel_rfl) rfl #[.agg #[.int .i64 ((rd_T41 l0 x3_1).f0), .int .i64 ((rd_T41 l0 x3_1).f1), .slice A194_2 ((rd_T41 l0 x3_1).f2).length c194_2, .int .i64 ((rd_T41 l0 x3_1).f3), .int .i64 ((rd_T41 l0 x3_1).f4), .slice A194_5 ((rd_T41 l0 x3_1).f5).length c194_5, .int .i64 ((rd_T41 l0 x3_1).f6.f0), .int .i64 ((rd_T41 l0 x3_1).f6.f1)]] (by rfl) rfl rfl ma_ ?_
       with_reducible refine (spec_IsReport.calls k1 ((rd_T41 l0 x3_1).f0) ((rd_T41 l0 x3_1).f1) _ _ ((rd_T41 l0 x3_1).f2) ((rd_T41 l0 x3_1).f3) ((rd_T41 l0 x3_1).f4) _ _ ((rd_T41 l0 x3_1).f5) ((rd_T41 l0 x3_1).f6.f0) ((rd_T41 l0 x3_1).f6.f1) true _ ?side1 ?side2 ?side3 ?side4 A4.out).mono ?_
       (case side1 => exact cd_ (Kd.C_below HR194_2.out HB.out))
       (case side2 => exact HC194_2.out)
       (case side3 => exact cd_ (Kd.C_below HR194_5.out HB.out))
       (case side4 => exact HC194_5.out)
       rintro e w16 ⟨rfl, hb⟩
       refine ⟨_, rfl, ?_⟩
       have n0_ := Aside0.mk (below_step (hd_ HB.out) hb)
       clear HB
       have HB := n0_
       clear n0_
       (try clear hb)
       (try clear hb2)
       (try clear hk)
       (try clear hi)
       refine hK.out _ _ ⟨(cb_ HB.out hw194_0), (cb_ HB.out hw194_1), (cb_ HB.out hw194_2), (cb_ HB.out hw194_3), (cb_ HB.out hw194_4), (cb_ HB.out hw194_5), (cb_ HB.out hw194_6), (cb_ HB.out hw194_7)⟩ (fun hHeld => ?_)
       clear hK K
       refine norm_ (a' := ?_) ?_ ?_
       rotate_left
       ·
        show Act.put _ (some 14) _ = _
        simp only [Act.put, P2_1, P2_2, P2_3, i64_w, i32_w]
        rfl
       refine pu_ 5 (some 15) M2_6 HT_ ?_
       refine pu_ 6 (some 16) M2_7 HT_ ?_
       refine pu_ 7 (some 17) M2_8 HT_ ?_
       refine pu_ 8 (some 18) M2_9 HT_ ?_
       refine pu_ 9 (some 19) M2_10 HT_ ?_
       refine pn_ 10 (some 20) M2_11 HT_ ?_
       refine pn_ 11 (some 21) M2_12 HT_ ?_
       refine pn_ 12 (some 22) M2_13 HT_ ?_
       refine pn_ 13 (some 23) M2_14 HT_ ?_
       refine pn_ 14 (some 24) M2_15 HT_ ?_
       refine pn_ 15 (some 25) M2_25 HT_ ?_
       refine pn_ 16 (some 26) M2_26 HT_ ?_
       refine pn_ 17 (some 27) M2_27 HT_ ?_
       refine pn_ 18 (some 28) M2_28 HT_ ?_
       refine pn_ 19 (some 29) M2_20 HT_ ?_
       refine pn_ 20 (some 30) M2_21 HT_ ?_
       refine pn_ 21 (some 31) M2_22 HT_ ?_
       refine pu_ 22 (some 32) M2_23 HT_ ?_
       refine pu_ 23 (some 33) M2_24 HT_ ?_
       refine done_ (done_of HT_.out (by kernel_rfl)) ?_
       try go_wp2
       go_roundg k1
       case measure => have := HK1.out; omega
       case rel => exact ⟨(wrap64 (x3_1 + 1)), (by first | rfl | (simp; done) | (simp [*]; done)), H', ⟨by have := HK1.out; omega⟩, ⟨hd_ HB.out⟩⟩
     ·
      replace c5 := Bool.eq_false_iff.mpr c5
      subst c5
      have H1 : (some false) = some r := by rw [if_neg (show ¬ (false = true) by decide)] at H; exact H
      clear H
      have H := H1
      clear H1
      obtain rfl := Option.some.inj H
      try go_wp2
      have n0_ := Aside0.mk (below_drew1 HB.out)
      clear HB
      have HB := n0_
      clear n0_
      have p194 : 0 ≤ (x3_1 : Int) := of_decide_eq_true as_
      have q194 : x3_1 < (l0.length : Int) := of_decide_eq_true as_
      obtain ⟨ad194, A194_2, c194_2, A194_5, c194_5, e194, hx194_0, hx194_1, hx194_2, hx194_3, hx194_4, hx194_5, hx194_6, hx194_7, hl194_2, hi194_2, hl194_5, hi194_5⟩ := at_T41 HR0.out x3_1 p194 q194
      have hw194_7 := hx194_7
      have hw194_6 := hx194_6
      have hw194_5 := hx194_5
      have hw194_4 := hx194_4
      have hw194_3 := hx194_3
      have hw194_2 := hx194_2
      have hw194_1 := hx194_1
      have hw194_0 := hx194_0
      cases e194
      replace hx194_0 := cb_ HB.out hx194_0
      replace hx194_1 := cb_ HB.out hx194_1
      replace hx194_2 := cb_ HB.out hx194_2
      replace hx194_3 := cb_ HB.out hx194_3
      replace hx194_4 := cb_ HB.out hx194_4
      replace hx194_5 := cb_ HB.out hx194_5
      replace hx194_6 := cb_ HB.out hx194_6
      replace hx194_7 := cb_ HB.out hx194_7
      have HR194_2 := Aside0.mk hi194_2
      have HC194_2 := Aside0.mk hl194_2
      clear hi194_2 hl194_2
      have HR194_5 := Aside0.mk hi194_5
      have HC194_5 := Aside0.mk hl194_5
      clear hi194_5 hl194_5
      replace p194 := eq_true p194
      replace q194 := eq_true q194
      refine start_ (n := 24) (S := fun w' => q2e_ w' (ad194.add ((x3_1).toNat * 8)) ((rd_T41 l0 x3_1).f0) ((rd_T41 l0 x3_1).f1) A194_2 ((rd_T41 l0 x3_1).f2).length c194_2 ((rd_T41 l0 x3_1).f3) ((rd_T41 l0 x3_1).f4) A194_5 ((rd_T41 l0 x3_1).f5).length c194_5 ((rd_T41 l0 x3_1).f6.f0) ((rd_T41 l0 x3_1).f6.f1)) (ds := []) M2_0 (by kernel_rfl) rfl rfl ⟨(cb_ HB.out hw194_0), (cb_ HB.out hw194_1), (cb_ HB.out hw194_2), (cb_ HB.out hw194_3), (cb_ HB.out hw194_4), (cb_ HB.out hw194_5), (cb_ HB.out hw194_6), (cb_ HB.out hw194_7)⟩ (fun hHeld => ?_); refine with_tabW spec_AreReports.tab4 spec_AreReports.bits4 (fun HT_ HW_ => ?_)
      generalize wr.drew = w17 at HB HR194_2 HR194_5 hx194_0 hx194_1 hx194_2 hx194_3 hx194_4 hx194_5 hx194_6 hx194_7 hHeld ⊢
      refine pu_ 0 (some 10) M2_1 HT_ ?_
      refine pu_ 1 (some 11) M2_2 HT_ ?_
      refine pu_ 2 (some 12) M2_3 HT_ ?_
      refine tk_ 3 (some 13) M2_4 HT_ HW_ hHeld ?_
      refine one_ (i := 4) (N := some 14) M2_5 rfl rfl (one_of HT_.out (by kernel_rfl)) (by decide) (fun K hK => ?_)
      refine goes_ Try.func76 (by kernel_rfl) rfl #[.agg #[.int .i64 ((rd_T41 l0 x3_1).f0), .int .i64 ((rd_T41 l0 x3_1).f1), .slice A194_2 ((rd_T41 l0 x3_1).f2).length c194_2, .int .i64 ((rd_T41 l0 x3_1).f3), .int .i64 ((rd_T41 l0 x3_1).f4), .slice A194_5 ((rd_T41 l0 x3_1).f5).length c194_5, .int .i64 ((rd_T41 l0 x3_1).f6.f0), .int .i64 ((rd_T41 l0 x3_1).f6.f1)]] (by rfl) rfl rfl ma_ ?_
      with_reducible refine (spec_IsReport.calls k1 ((rd_T41 l0 x3_1).f0) ((rd_T41 l0 x3_1).f1) _ _ ((rd_T41 l0 x3_1).f2) ((rd_T41 l0 x3_1).f3) ((rd_T41 l0 x3_1).f4) _ _ ((rd_T41 l0 x3_1).f5) ((rd_T41 l0 x3_1).f6.f0) ((rd_T41 l0 x3_1).f6.f1) false _ ?side1 ?side2 ?side3 ?side4 A4.out).mono ?_
      (case side1 => exact cd_ (Kd.C_below HR194_2.out HB.out))
      (case side2 => exact HC194_2.out)
      (case side3 => exact cd_ (Kd.C_below HR194_5.out HB.out))
      (case side4 => exact HC194_5.out)
      rintro e w18 ⟨rfl, hb⟩
      refine ⟨_, rfl, ?_⟩
      have n0_ := Aside0.mk (below_step (hd_ HB.out) hb)
      clear HB
      have HB := n0_
      clear n0_
      (try clear hb)
      (try clear hb2)
      (try clear hk)
      (try clear hi)
      refine hK.out _ _ ⟨(cb_ HB.out hw194_0), (cb_ HB.out hw194_1), (cb_ HB.out hw194_2), (cb_ HB.out hw194_3), (cb_ HB.out hw194_4), (cb_ HB.out hw194_5), (cb_ HB.out hw194_6), (cb_ HB.out hw194_7)⟩ (fun hHeld => ?_)
      clear hK K
      refine norm_ (a' := ?_) ?_ ?_
      rotate_left
      ·
       show Act.put _ (some 14) _ = _
       simp only [Act.put, P2_1, P2_2, P2_3, i64_w, i32_w]
       rfl
      refine pu_ 5 (some 15) M2_6 HT_ ?_
      refine pu_ 6 (some 16) M2_7 HT_ ?_
      refine pn_ 7 (some 17) M2_8 HT_ ?_
      refine pn_ 8 (some 18) M2_9 HT_ ?_
      refine pn_ 9 (some 19) M2_10 HT_ ?_
      refine pn_ 10 (some 20) M2_11 HT_ ?_
      refine pn_ 11 (some 21) M2_12 HT_ ?_
      refine pn_ 12 (some 22) M2_13 HT_ ?_
      refine pn_ 13 (some 23) M2_14 HT_ ?_
      refine pn_ 14 (some 24) M2_15 HT_ ?_
      refine pn_ 15 (some 25) M2_25 HT_ ?_
      refine pn_ 16 (some 26) M2_26 HT_ ?_
      refine pn_ 17 (some 27) M2_27 HT_ ?_
      refine pn_ 18 (some 28) M2_28 HT_ ?_
      refine pn_ 19 (some 29) M2_20 HT_ ?_
      refine pn_ 20 (some 30) M2_21 HT_ ?_
      refine pn_ 21 (some 31) M2_22 HT_ ?_
      refine pn_ 22 (some 32) M2_23 HT_ ?_
      refine pu_ 23 (some 33) M2_24 HT_ ?_
      refine done_ (done_of HT_.out (by kernel_rfl)) ?_
      try go_wp2
      go_ret
      exact ⟨by first | rfl | (simp [errW_none, errW_some] <;> rfl) | (simp [*, errW_none, errW_some] <;> rfl), hd_ HB.out⟩
    ·
     rw [if_neg c3] at H
     exact absurd H (by simp)
   ·
    rw [if_neg c2] at H
    have c2b0 : decide (x3_1 < (l0.length : Int)) = false := decide_eq_false c2
    clear c2
    obtain rfl := Option.some.inj H
    go_wp2
    go_ret
    exact ⟨by first | rfl | (simp [errW_none, errW_some] <;> rfl) | (simp [*, errW_none, errW_some] <;> rfl), hd_ HB.out⟩

end Go.Proofs.Ytglpmjcknhcjcaa.PFnExactGroupReports
