-- Written for this claim by a program (a printer turned to this claim); Lean checks it.
import Derived.Test.YtihnanfekchlhaaDoorPFnFormsx0
import Derived.Test.YtihnanfekchlhaaDoorPFnFormsx2
namespace Go.Proofs.YtihnanfekchlhaaDoor.PFnForms
open Go.RowKit Go.Proofs.YtihnanfekchlhaaDoorW.PrintWords Go.Proofs.YtihnanfekchlhaaDoorW.PrintLast Go.Proofs.YtihnanfekchlhaaDoorW.PrintMore
attribute [local go_sem] max2_int min2_int max_two min_two max_three min_three max_four min_four   -- for this text's walks alone
set_option linter.unusedVariables false
set_option linter.unusedSimpArgs false

/-! ### spec_l7Any: function 54 -/
def spec_l7Any.f (k : Nat) (s0_0 : List Int) (s0_1 : Int) (s0_2 : Int) : Option (Int × Int × List Int × Int × Int × List Int × Int × Int × Int × Int) := (spec_l1Below.f s0_0 s0_1 s0_2 9).bind fun bt189 => ((spec_l7Draw.f k s0_0 bt189.2.1 bt189.2.2 (wrap64 (1 + bt189.1))).bind fun bt192 => ((spec_l1Below.f s0_0 bt192.2.2.2.2.2.2.2.2.1 bt192.2.2.2.2.2.2.2.2.2 14).bind fun bt207 => (if bt207.1 = 0 then ((spec_l1Int.f s0_0 bt207.2.1 bt207.2.2 (([0, 999, 1000] : List Int))).bind fun bt213 => (some (bt213.1, bt192.2.1, bt192.2.2.1, bt192.2.2.2.1, bt192.2.2.2.2.1, bt192.2.2.2.2.2.1, bt192.2.2.2.2.2.2.1, bt192.2.2.2.2.2.2.2.1, bt213.2.1, bt213.2.2))) else (if bt207.1 = 1 then ((spec_l1Int.f s0_0 bt207.2.1 bt207.2.2 (([0, 8, 9] : List Int))).bind fun bt219 => (some (bt192.1, bt219.1, bt192.2.2.1, bt192.2.2.2.1, bt192.2.2.2.2.1, bt192.2.2.2.2.2.1, bt192.2.2.2.2.2.2.1, bt192.2.2.2.2.2.2.2.1, bt219.2.1, bt219.2.2))) else (if bt207.1 = 2 then ((spec_l1Int.f s0_0 bt207.2.1 bt207.2.2 (([(-1), 3, 8] : List Int))).bind fun bt225 => (some (bt192.1, bt192.2.1, (([bt225.1, 3] : List Int)), bt192.2.2.2.1, bt192.2.2.2.2.1, bt192.2.2.2.2.2.1, bt192.2.2.2.2.2.2.1, bt192.2.2.2.2.2.2.2.1, bt225.2.1, bt225.2.2))) else (if bt207.1 = 3 then ((spec_l4Raw.f s0_0 bt207.2.1 bt207.2.2).bind fun bt231 => (some (bt192.1, bt192.2.1, bt192.2.2.1, bt231.1, bt192.2.2.2.2.1, bt192.2.2.2.2.2.1, bt192.2.2.2.2.2.2.1, bt192.2.2.2.2.2.2.2.1, bt231.2.1, bt231.2.2))) else (if bt207.1 = 4 then ((spec_l4Raw.f s0_0 bt207.2.1 bt207.2.2).bind fun bt234 => (some (bt192.1, bt192.2.1, bt192.2.2.1, bt192.2.2.2.1, bt234.1, bt192.2.2.2.2.2.1, bt192.2.2.2.2.2.2.1, bt192.2.2.2.2.2.2.2.1, bt234.2.1, bt234.2.2))) else (if bt207.1 = 5 then ((spec_l1Int.f s0_0 bt207.2.1 bt207.2.2 (([0, 30, 31] : List Int))).bind fun bt240 => (some (bt192.1, bt192.2.1, bt192.2.2.1, bt192.2.2.2.1, bt192.2.2.2.2.1, (([bt240.1] : List Int)), bt192.2.2.2.2.2.2.1, bt192.2.2.2.2.2.2.2.1, bt240.2.1, bt240.2.2))) else (if bt207.1 = 6 then ((spec_l5Any.f s0_0 bt207.2.1 bt207.2.2).bind fun bt246 => (some (bt192.1, bt192.2.1, bt192.2.2.1, bt192.2.2.2.1, bt192.2.2.2.2.1, bt192.2.2.2.2.2.1, bt246.1, bt246.2.1, bt246.2.2.1, bt246.2.2.2))) else (if bt207.1 = 7 then (some (bt192.1, bt192.2.1, ([] : List Int), 1, 50, ([] : List Int), bt192.2.2.2.2.2.2.1, bt192.2.2.2.2.2.2.2.1, bt207.2.1, bt207.2.2)) else (some (bt192.1, bt192.2.1, bt192.2.2.1, bt192.2.2.2.1, bt192.2.2.2.2.1, bt192.2.2.2.2.2.1, bt192.2.2.2.2.2.2.1, bt192.2.2.2.2.2.2.2.1, bt207.2.1, bt207.2.2))))))))))))
theorem spec_l7Any.mono : ∀ a0 a1 a2 k, LeO (spec_l7Any.f k a0 a1 a2) (spec_l7Any.f (k + 1) a0 a1 a2) := by
 intro a0 a1 a2 k
 unfold spec_l7Any.f
 have jh0 := @spec_l7Draw.mono
 exact mo_
abbrev c45_ (i0 : Int) (i1 : Int) (A2 : Option Addr) (n2 c2 : Nat) (i3 : Int) (i4 : Int) (A5 : Option Addr) (n5 c5 : Nat) (i6 : Int) (i7 : Int) : Obj := .cells #[.int .i64 i0, .int .i64 i1, .slice A2 n2 c2, .int .i64 i3, .int .i64 i4, .slice A5 n5 c5, .int .i64 i6, .int .i64 i7] 28 (0, 0)
theorem e46_ {w : World} {g : Nat} {t : TypeId} {i0 : Int} {i1 : Int} {A2 : Option Addr} {n2 c2 : Nat} {i3 : Int} {i4 : Int} {A5 : Option Addr} {n5 c5 : Nat} {i6 : Int} {i7 : Int} (h : w.heap[g]? = some (.cells #[.int .i64 i0, .int .i64 i1, .slice A2 n2 c2, .int .i64 i3, .int .i64 i4, .slice A5 n5 c5, .int .i64 i6, .int .i64 i7] t (0, 0))) : w.cell? ⟨g, 0, none⟩ = some (.int .i64 i0) ∧ w.cell? ⟨g, 1, none⟩ = some (.int .i64 i1) ∧ w.cell? ⟨g, 2, none⟩ = some (.slice A2 n2 c2) ∧ w.cell? ⟨g, 3, none⟩ = some (.int .i64 i3) ∧ w.cell? ⟨g, 4, none⟩ = some (.int .i64 i4) ∧ w.cell? ⟨g, 5, none⟩ = some (.slice A5 n5 c5) ∧ w.cell? ⟨g, 6, none⟩ = some (.int .i64 i6) ∧ w.cell? ⟨g, 7, none⟩ = some (.int .i64 i7) := ⟨(blk_cell h 0).trans rfl, (blk_cell h 1).trans rfl, (blk_cell h 2).trans rfl, (blk_cell h 3).trans rfl, (blk_cell h 4).trans rfl, (blk_cell h 5).trans rfl, (blk_cell h 6).trans rfl, (blk_cell h 7).trans rfl⟩
theorem z47_ {w : World} {g : Nat} {t : TypeId} {cs : Array Value} (h : w.heap[g]? = some (.cells cs t (0, 0))) : w.frozen? ⟨g, 0, none⟩ = false ∧ w.frozen? ⟨g, 1, none⟩ = false ∧ w.frozen? ⟨g, 2, none⟩ = false ∧ w.frozen? ⟨g, 3, none⟩ = false ∧ w.frozen? ⟨g, 4, none⟩ = false ∧ w.frozen? ⟨g, 5, none⟩ = false ∧ w.frozen? ⟨g, 6, none⟩ = false ∧ w.frozen? ⟨g, 7, none⟩ = false := ⟨blk_frozen h 0, blk_frozen h 1, blk_frozen h 2, blk_frozen h 3, blk_frozen h 4, blk_frozen h 5, blk_frozen h 6, blk_frozen h 7⟩
theorem y56_ {P : Prop} (h : P := by rw [hg]; exact Nat.ne_of_lt (IsS103.lt (show IsS103 w0 _ g s0_0 t204 t205 from wI_))) : P := h
theorem y57_ {P : Prop} (h : P := by rw [hg]; exact Nat.ne_of_gt (IsS103.lt (show IsS103 w0 _ g s0_0 t204 t205 from wI_))) : P := h
theorem y58_ {P : Prop} (h : P := by rw [hg]; exact Nat.ne_of_lt (IsS103.lt (show IsS103 w0 _ g s0_0 s0_1 s0_2 from wI_))) : P := h
theorem y59_ {P : Prop} (h : P := by rw [hg]; exact Nat.ne_of_gt (IsS103.lt (show IsS103 w0 _ g s0_0 s0_1 s0_2 from wI_))) : P := h
theorem y68_ {P : Prop} (h : P := by rw [hg]; exact (keep_size (w := w) (g := g) (row := none) wK_)) : P := h
theorem y70_ {P : Prop} (h : P := by rw [hg]; exact Nat.ne_of_lt (blk_lt (bd_ BK188.1))) : P := h
theorem y71_ {P : Prop} (h : P := by rw [hg]; exact Nat.ne_of_gt (blk_lt (bd_ BK188.1))) : P := h
set_option maxHeartbeats 8000000 in
set_option maxRecDepth 100000 in
theorem spec_l7Any.calls (k : Nat) (g : Nat) (s0_0 : List Int) (s0_1 : Int) (s0_2 : Int) (r1 : Int) (r2 : Int) (r3 : List Int) (r4 : Int) (r5 : Int) (r6 : List Int) (r7 : Int) (r8 : Int) (r9 : Int) (r10 : Int) (w0 w : World) (hI : IsS103 w0 w g s0_0 s0_1 s0_2) (hB : Below w0.heap.size w0 w) (h : spec_l7Any.f k s0_0 s0_1 s0_2 = some (r1, r2, r3, r4, r5, r6, r7, r8, r9, r10)) :
  Calls Tryd.prog 54 #[.pointer (some ⟨g, 0, none⟩)] w fun e w' => ∃ v2_ v5_ : Value, e = .returned (.agg #[.int .i64 r1, .int .i64 r2, v2_, .int .i64 r4, .int .i64 r5, v5_, .int .i64 r7, .int .i64 r8]) ∧ Kd.R (Kd.int .i64) 3 w' w.heap.size (fun k_ => some k_ ≠ (v5_ : Value).ownBlock) v2_ r3 ∧ Kd.R (Kd.int .i64) 3 w' w.heap.size (fun k_ => some k_ ≠ (v2_ : Value).ownBlock) v5_ r6 ∧ IsS103 w0 w' g s0_0 r9 r10 ∧ Below w0.heap.size w0 w' ∧ KeepBut w w' g none := by
 have hu28 := Tryd.underlying28
 have hu26 := Tryd.underlying26
 have HI0 := o_ hI
 have HK := o_ (KeepBut.refl w g none)
 have HL := o_ hB.size
 clear hI
 have HW0 := o_ hB.size
 have HB := o_ hB
 clear hB
 have H : ((spec_l1Below.f s0_0 s0_1 s0_2 9).bind fun bt189 => ((spec_l7Draw.f k s0_0 bt189.2.1 bt189.2.2 (wrap64 (1 + bt189.1))).bind fun bt192 => ((spec_l1Below.f s0_0 bt192.2.2.2.2.2.2.2.2.1 bt192.2.2.2.2.2.2.2.2.2 14).bind fun bt207 => (if bt207.1 = 0 then ((spec_l1Int.f s0_0 bt207.2.1 bt207.2.2 (([0, 999, 1000] : List Int))).bind fun bt213 => (some (bt213.1, bt192.2.1, bt192.2.2.1, bt192.2.2.2.1, bt192.2.2.2.2.1, bt192.2.2.2.2.2.1, bt192.2.2.2.2.2.2.1, bt192.2.2.2.2.2.2.2.1, bt213.2.1, bt213.2.2))) else (if bt207.1 = 1 then ((spec_l1Int.f s0_0 bt207.2.1 bt207.2.2 (([0, 8, 9] : List Int))).bind fun bt219 => (some (bt192.1, bt219.1, bt192.2.2.1, bt192.2.2.2.1, bt192.2.2.2.2.1, bt192.2.2.2.2.2.1, bt192.2.2.2.2.2.2.1, bt192.2.2.2.2.2.2.2.1, bt219.2.1, bt219.2.2))) else (if bt207.1 = 2 then ((spec_l1Int.f s0_0 bt207.2.1 bt207.2.2 (([(-1), 3, 8] : List Int))).bind fun bt225 => (some (bt192.1, bt192.2.1, (([bt225.1, 3] : List Int)), bt192.2.2.2.1, bt192.2.2.2.2.1, bt192.2.2.2.2.2.1, bt192.2.2.2.2.2.2.1, bt192.2.2.2.2.2.2.2.1, bt225.2.1, bt225.2.2))) else (if bt207.1 = 3 then ((spec_l4Raw.f s0_0 bt207.2.1 bt207.2.2).bind fun bt231 => (some (bt192.1, bt192.2.1, bt192.2.2.1, bt231.1, bt192.2.2.2.2.1, bt192.2.2.2.2.2.1, bt192.2.2.2.2.2.2.1, bt192.2.2.2.2.2.2.2.1, bt231.2.1, bt231.2.2))) else (if bt207.1 = 4 then ((spec_l4Raw.f s0_0 bt207.2.1 bt207.2.2).bind fun bt234 => (some (bt192.1, bt192.2.1, bt192.2.2.1, bt192.2.2.2.1, bt234.1, bt192.2.2.2.2.2.1, bt192.2.2.2.2.2.2.1, bt192.2.2.2.2.2.2.2.1, bt234.2.1, bt234.2.2))) else (if bt207.1 = 5 then ((spec_l1Int.f s0_0 bt207.2.1 bt207.2.2 (([0, 30, 31] : List Int))).bind fun bt240 => (some (bt192.1, bt192.2.1, bt192.2.2.1, bt192.2.2.2.1, bt192.2.2.2.2.1, (([bt240.1] : List Int)), bt192.2.2.2.2.2.2.1, bt192.2.2.2.2.2.2.2.1, bt240.2.1, bt240.2.2))) else (if bt207.1 = 6 then ((spec_l5Any.f s0_0 bt207.2.1 bt207.2.2).bind fun bt246 => (some (bt192.1, bt192.2.1, bt192.2.2.1, bt192.2.2.2.1, bt192.2.2.2.2.1, bt192.2.2.2.2.2.1, bt246.1, bt246.2.1, bt246.2.2.1, bt246.2.2.2))) else (if bt207.1 = 7 then (some (bt192.1, bt192.2.1, ([] : List Int), 1, 50, ([] : List Int), bt192.2.2.2.2.2.2.1, bt192.2.2.2.2.2.2.2.1, bt207.2.1, bt207.2.2)) else (some (bt192.1, bt192.2.1, bt192.2.2.1, bt192.2.2.2.1, bt192.2.2.2.2.1, bt192.2.2.2.2.2.1, bt192.2.2.2.2.2.2.1, bt192.2.2.2.2.2.2.2.1, bt207.2.1, bt207.2.2))))))))))))) = some (r1, r2, r3, r4, r5, r6, r7, r8, r9, r10) := h
 clear h
 replace H := Option.bind_eq_some_iff.mp H
 obtain ⟨⟨t189, t190, t191⟩, A20, H⟩ := H
 try dsimp only at H
 have A2 := o_ A20
 clear A20
 replace H := Option.bind_eq_some_iff.mp H
 obtain ⟨⟨t192, t193, t194, t197, t198, t199, t202, t203, t204, t205⟩, A30, H⟩ := H
 try dsimp only at H
 have A3 := o_ A30
 clear A30
 replace H := Option.bind_eq_some_iff.mp H
 obtain ⟨⟨t207, t208, t209⟩, A40, H⟩ := H
 try dsimp only at H
 have A4 := o_ A40
 clear A40
 by_cases c5 : t207 = 0
 ·
  rw [if_pos c5] at H
  have c5b0 := beq_iff_eq.mpr c5
  have c5b1 := bne_eq_false_iff_eq.mpr c5
  clear c5
  obtain ⟨y210, hy210⟩ : ∃ y_ : List Int, y_ = (([0, 999, 1000] : List Int)) := ⟨_, rfl⟩
  replace H : ((spec_l1Int.f s0_0 t208 t209 y210).bind fun bt213 => (some (bt213.1, t193, t194, t197, t198, t199, t202, t203, bt213.2.1, bt213.2.2))) = some (r1, r2, r3, r4, r5, r6, r7, r8, r9, r10) := by first | (rw [hy210]; with_reducible exact H) | (have H2_ := (Option.bind_some _ _).symm.trans H; rw [hy210]; with_reducible exact H2_) | (have H2_ := (Option.bind_some _ _).symm.trans H; with_reducible exact H2_) | with_reducible exact H | (rw [hy210]; exact H) | exact H
  have Ny210 := o_ hy210
  clear hy210
  replace H := Option.bind_eq_some_iff.mp H
  obtain ⟨⟨t213, t214, t215⟩, A60, H⟩ := H
  try dsimp only at H
  have A6 := o_ A60
  clear A60
  simp only [Option.some.injEq, Prod.mk.injEq] at H
  obtain ⟨rfl, rfl, rfl, rfl, rfl, rfl, rfl, rfl, rfl, rfl⟩ := H
  go_enter Tryd.func54, Tryd.ntmps54
  go_wp2_with (first | ((with_reducible refine gate_dst (N := 2) rfl ?_); refine bx_ 2 #[.int .i64 0, .int .i64 0, .slice none 0 0, .int .i64 0, .int .i64 0, .slice none 0 0, .int .i64 0, .int .i64 0] 28 ?_; intro gb188 hg w7 hbox hb; replace HB := o_ (below_step wB_ hb); have BK188 := o_ (hbox); have GW188 := o_ ((y68_ : w.heap.size ≤ gb188)); have GE188 := o_ ((Nat.le_trans HW0.1 (y68_ : w.heap.size ≤ gb188) : w0.heap.size ≤ gb188)); replace HK := o_ (KeepBut.trans wK_ (KeepBut.of_below hb g none) (.inl rfl)); have NB0_188 := o_ ((y58_ : g ≠ gb188)); have NB188_0 := o_ ((y59_ : gb188 ≠ g)); replace HI0 := o_ (IsS103.below wI_ hb); clear hb hbox hg) | (refine gl_ (some 6) Tryd.func58 #[.pointer (some ⟨g, 0, none⟩), .int .i64 9] ?_; (with_reducible refine (spec_l1Below.calls g s0_0 s0_1 s0_2 9 t189 t190 t191 w0 _ ?side1 ?side2 A2.1).mono ?_); (case side1 => exact wI_); (case side2 => exact wB_); rintro e w8 ⟨rfl, hi, hb, hk⟩; refine ⟨_, rfl, ?_⟩; replace BK188 := o_ (KeepBut.blk hk (g' := gb188) (o := c45_ 0 0 none 0 0 0 0 none 0 0 0 0) (bd_ BK188.1) NB188_0.1 (by simp)); replace HK := o_ (KeepBut.trans wK_ hk (.inl rfl)); replace HB := o_ (hb); replace HI0 := o_ (hi); (try clear hb hk hi)) | (refine gl_ (some 8) Tryd.func80 #[.pointer (some ⟨g, 0, none⟩), .int .i64 (wrap64 (1 + t189))] ?_; (with_reducible refine (spec_l7Draw.calls k g s0_0 t190 t191 (wrap64 (1 + t189)) t192 t193 t194 t197 t198 t199 t202 t203 t204 t205 w0 _ ?side1 ?side2 A3.1).mono ?_); (case side1 => exact wI_); (case side2 => exact wB_); rintro e w9 ⟨v195, v200, rfl, ho0, ho1, hi, hb, hk⟩; refine ⟨_, rfl, ?_⟩; replace BK188 := o_ (KeepBut.blk hk (g' := gb188) (o := c45_ 0 0 none 0 0 0 0 none 0 0 0 0) (bd_ BK188.1) NB188_0.1 (by simp)); have HO196 := o_ (Kd.R_lower ho0 (keep_size (w := w) (g := g) (row := none) wK_)); have HO201 := o_ (Kd.R_lower ho1 (keep_size (w := w) (g := g) (row := none) wK_)); replace HK := o_ (KeepBut.trans wK_ hk (.inl rfl)); replace HB := o_ (hb); replace HI0 := o_ (hi); (try clear hb hk hi ho0 ho1)) | ((with_reducible refine gate_dst (N := 3) rfl ?_); refine bx_ 3 #[.int .i64 0, .int .i64 0, .slice none 0 0, .int .i64 0, .int .i64 0, .slice none 0 0, .int .i64 0, .int .i64 0] 28 ?_; intro gb206 hg w10 hbox hb; replace HO196 := o_ (Kd.R_below (rd_ HO196.1) hb); replace HO201 := o_ (Kd.R_below (rd_ HO201.1) hb); replace HB := o_ (below_step wB_ hb); have BK206 := o_ (hbox); have GW206 := o_ ((y68_ : w.heap.size ≤ gb206)); have GE206 := o_ ((Nat.le_trans HW0.1 (y68_ : w.heap.size ≤ gb206) : w0.heap.size ≤ gb206)); replace HK := o_ (KeepBut.trans wK_ (KeepBut.of_below hb g none) (.inl rfl)); have NB188_206 := o_ ((y70_ : gb188 ≠ gb206)); have NB206_188 := o_ ((y71_ : gb206 ≠ gb188)); replace BK188 := o_ (blk_below (bd_ BK188.1) hb); have NB0_206 := o_ ((y56_ : g ≠ gb206)); have NB206_0 := o_ ((y57_ : gb206 ≠ g)); replace HI0 := o_ (IsS103.below wI_ hb); clear hb hbox hg; have hnb11 := NB206_188.1; have hnc11 := NB188_206.1; have hnb12 := NB206_0.1; have hnc12 := NB0_206.1; obtain ⟨hcz13_0, hcz13_1, hcz13_2, hcz13_3, hcz13_4, hcz13_5, hcz13_6, hcz13_7⟩ := e46_ BK206.1; obtain ⟨hfz13_0, hfz13_1, hfz13_2, hfz13_3, hfz13_4, hfz13_5, hfz13_6, hfz13_7⟩ := z47_ BK206.1; obtain ⟨Ao14, co14, eo14⟩ := Kd.R_slice HO196.1; subst eo14; obtain ⟨Ao15, co15, eo15⟩ := Kd.R_slice HO201.1; subst eo15) | (refine gl_ (some 10) Tryd.func58 #[.pointer (some ⟨g, 0, none⟩), .int .i64 14] ?_; (with_reducible refine (spec_l1Below.calls g s0_0 t204 t205 14 t207 t208 t209 w0 _ ?side1 ?side2 A4.1).mono ?_); (case side1 => exact wI_); (case side2 => exact wB_); rintro e w16 ⟨rfl, hi, hb, hk⟩; refine ⟨_, rfl, ?_⟩; replace BK188 := o_ (KeepBut.blk hk (g' := gb188) (o := c45_ 0 0 none 0 0 0 0 none 0 0 0 0) (bk_ BK188.1) NB188_0.1 (by simp)); replace HO196 := o_ (Kd.R_mono (Kd.R_keep (IsS103.apart (show IsS103 w0 _ g s0_0 t204 t205 from wI_) (by (with_reducible repeat (first | apply Kd.R_alloc | apply Kd.R_drewN | apply Kd.R_drew)); exact (Kd.R_mono (Kd.R_far (p := ⟨gb206, 7, none⟩) (Kd.R_far (p := ⟨gb206, 6, none⟩) (Kd.R_far (p := ⟨gb206, 5, none⟩) (Kd.R_far (p := ⟨gb206, 4, none⟩) (Kd.R_far (p := ⟨gb206, 3, none⟩) (Kd.R_far (p := ⟨gb206, 2, none⟩) (Kd.R_far (p := ⟨gb206, 1, none⟩) (Kd.R_far (p := ⟨gb206, 0, none⟩) (Kd.R_types HO196.1 BK206.1 (by decide)) (fun _ hk => hk.2) (.int .i64 t192)) (fun _ hk => hk.2) (.int .i64 t193)) (fun _ hk => hk.2) (.slice Ao14 t194.length co14)) (fun _ hk => hk.2) (.int .i64 t197)) (fun _ hk => hk.2) (.int .i64 t198)) (fun _ hk => hk.2) (.slice Ao15 t199.length co15)) (fun _ hk => hk.2) (.int .i64 t202)) (fun _ hk => hk.2) (.int .i64 t203)) (fun _ h_ => h_.1))) (by decide)) hk (fun _ h => h.2)) (fun _ h => h.1)); replace HO201 := o_ (Kd.R_mono (Kd.R_keep (IsS103.apart (show IsS103 w0 _ g s0_0 t204 t205 from wI_) (by (with_reducible repeat (first | apply Kd.R_alloc | apply Kd.R_drewN | apply Kd.R_drew)); exact (Kd.R_mono (Kd.R_far (p := ⟨gb206, 7, none⟩) (Kd.R_far (p := ⟨gb206, 6, none⟩) (Kd.R_far (p := ⟨gb206, 5, none⟩) (Kd.R_far (p := ⟨gb206, 4, none⟩) (Kd.R_far (p := ⟨gb206, 3, none⟩) (Kd.R_far (p := ⟨gb206, 2, none⟩) (Kd.R_far (p := ⟨gb206, 1, none⟩) (Kd.R_far (p := ⟨gb206, 0, none⟩) (Kd.R_types HO201.1 BK206.1 (by decide)) (fun _ hk => hk.2) (.int .i64 t192)) (fun _ hk => hk.2) (.int .i64 t193)) (fun _ hk => hk.2) (.slice Ao14 t194.length co14)) (fun _ hk => hk.2) (.int .i64 t197)) (fun _ hk => hk.2) (.int .i64 t198)) (fun _ hk => hk.2) (.slice Ao15 t199.length co15)) (fun _ hk => hk.2) (.int .i64 t202)) (fun _ hk => hk.2) (.int .i64 t203)) (fun _ h_ => h_.1))) (by decide)) hk (fun _ h => h.2)) (fun _ h => h.1)); replace BK206 := o_ (KeepBut.blk hk (g' := gb206) (o := .cells #[.int .i64 t192, .int .i64 t193, .slice Ao14 t194.length co14, .int .i64 t197, .int .i64 t198, .slice Ao15 t199.length co15, .int .i64 t202, .int .i64 t203] 28 (0, 0)) (bk_ BK206.1) NB206_0.1 (by simp)); replace HK := o_ (KeepBut.trans wK_ hk (.inl rfl)); replace HB := o_ (hb); replace HI0 := o_ (hi); (try clear hb hk hi)) | ((with_reducible refine gate_dst (N := 14) rfl ?_); refine Kd.R_lit (Kd.int .i64) _ 3 ?hg (N := 14) ?hd (xs := ([0, 999, 1000] : List Int)) (inner := [.int .i64 0, .int .i64 999, .int .i64 1000]) (ok := fun _ => True) (okp := fun _ => True) ?hr ?hp (fun _ hk => hk) trivial (Below.refl _ _) (Nat.le_refl _) (by simp) ?_; (case hd => rfl); (case hg => rfl); (case hr => first | (go_simp; done) | (go_simp; rfl)); (case hp => exact (Reps.one (show Kd.M (Kd.int .i64) _ _ _ 0 [.int .i64 0] from rfl) (Reps.one (show Kd.M (Kd.int .i64) _ _ _ 999 [.int .i64 999] from rfl) (Reps.one (show Kd.M (Kd.int .i64) _ _ _ 1000 [.int .i64 1000] from rfl) (Reps.none _ _))))); intro v211 w17 ho18 hb hg_ hnew_; clear hg_ hnew_; (first | rw [← Ny210.1] at ho18 | (simp only [Int.reduceToNat] at ho18; rw [← Ny210.1] at ho18)); have HO212 := o_ (Kd.R_lower (Kd.R_new' (Kd.R_new' ho18 (Kd.R_lt (rd_ HO196.1))) (Kd.R_lt (rd_ HO201.1))) (keep_size (w := w) (g := g) (row := none) wK_)); replace HO196 := o_ (Kd.R_elder' (rd_ HO196.1) (Kd.R_base ho18) hb); replace HO201 := o_ (Kd.R_elder' (rd_ HO201.1) (Kd.R_base ho18) hb); replace BK188 := o_ (blk_below (bd_ BK188.1) hb); replace BK206 := o_ (blk_below (bd_ BK206.1) hb); replace HK := o_ (KeepBut.trans wK_ (KeepBut.of_below hb g none) (.inl rfl)); replace HB := o_ (below_step (wB_) hb); replace HI0 := o_ (IsS103.below (wI_) hb); clear hb ho18; obtain ⟨Ao19, co19, eo19⟩ := Kd.R_slice HO212.1; subst eo19) | (refine gl_ (some 15) Tryd.func81 #[.pointer (some ⟨g, 0, none⟩), .slice Ao19 y210.length co19] ?_; (with_reducible refine (spec_l1Int.calls g s0_0 t208 t209 _ _ y210 t213 t214 t215 w0 _ ?side1 ?side2 ?side3 ?side4 ?side5 A6.1).mono ?_); (case side1 => exact wI_); (case side2 => exact wB_); (case side3 => exact cd_ (Kd.R_reads' HO212.1).2.2); (case side4 => exact (Kd.R_reads' HO212.1).2.1); (case side5 => exact far_slice (IsS103.own_ne HI0.1 HO212.1 (by decide))); rintro e w20 ⟨rfl, hi, hb, hk⟩; refine ⟨_, rfl, ?_⟩; replace BK188 := o_ (KeepBut.blk hk (g' := gb188) (o := c45_ 0 0 none 0 0 0 0 none 0 0 0 0) (bd_ BK188.1) NB188_0.1 (by simp)); replace HO196 := o_ (Kd.R_mono (Kd.R_keep (IsS103.apart (show IsS103 w0 _ g s0_0 t208 t209 from wI_) (rd_ HO196.1) (by decide)) hk (fun _ h => h.2)) (fun _ h => h.1)); replace HO201 := o_ (Kd.R_mono (Kd.R_keep (IsS103.apart (show IsS103 w0 _ g s0_0 t208 t209 from wI_) (rd_ HO201.1) (by decide)) hk (fun _ h => h.2)) (fun _ h => h.1)); replace BK206 := o_ (KeepBut.blk hk (g' := gb206) (o := .cells #[.int .i64 t192, .int .i64 t193, .slice Ao14 t194.length co14, .int .i64 t197, .int .i64 t198, .slice Ao15 t199.length co15, .int .i64 t202, .int .i64 t203] 28 (0, 0)) (bd_ BK206.1) NB206_0.1 (by simp)); replace HO212 := o_ (Kd.R_mono (Kd.R_keep (IsS103.apart (show IsS103 w0 _ g s0_0 t208 t209 from wI_) (rd_ HO212.1) (by decide)) hk (fun _ h => h.2)) (fun _ h => h.1)); replace HK := o_ (KeepBut.trans wK_ hk (.inl rfl)); replace HB := o_ (hb); replace HI0 := o_ (hi); (try clear hb hk hi); obtain ⟨hcz21_0, hcz21_1, hcz21_2, hcz21_3, hcz21_4, hcz21_5, hcz21_6, hcz21_7⟩ := e46_ BK206.1; obtain ⟨hfz21_0, hfz21_1, hfz21_2, hfz21_3, hfz21_4, hfz21_5, hfz21_6, hfz21_7⟩ := z47_ BK206.1; have hnb22 := NB188_0.1; have hnc22 := NB0_188.1; obtain ⟨hcz23_0, hcz23_1, hcz23_2, hcz23_3, hcz23_4, hcz23_5, hcz23_6, hcz23_7⟩ := e46_ BK188.1; obtain ⟨hfz23_0, hfz23_1, hfz23_2, hfz23_3, hfz23_4, hfz23_5, hfz23_6, hfz23_7⟩ := z47_ BK188.1))
  refine bodyPost_ret (results_cell_row rfl _ _ gb188 28 #[.int .i64 t213, .int .i64 t193, .slice Ao14 t194.length co14, .int .i64 t197, .int .i64 t198, .slice Ao15 t199.length co15, .int .i64 t202, .int .i64 t203] (0, 0) _ rfl (bk_ BK188.1) Tryd.underlying28 rfl (by kernel_rfl)) rfl ?_
  exact ⟨_, _, by first | rfl | (simp [errW_none, errW_some] <;> rfl) | (simp [*, errW_none, errW_some] <;> rfl), rf_ (R2_ (R2_ HO196.1 BK206.1) BK188.1) (fun _ hk => hk.1.1.1), rf_ (R2_ (R2_ HO201.1 BK206.1) BK188.1) (fun _ hk => hk.1.1.1), wI_, wB_, wK_⟩
 ·
  rw [if_neg c5] at H
  have c5b0 := beq_eq_false_iff_ne.mpr c5
  have c5b1 := bne_iff_ne.mpr c5
  by_cases c24 : t207 = 1
  ·
   rw [if_pos c24] at H
   have c24b0 := beq_iff_eq.mpr c24
   have c24b1 := bne_eq_false_iff_eq.mpr c24
   clear c24
   obtain ⟨y216, hy216⟩ : ∃ y_ : List Int, y_ = (([0, 8, 9] : List Int)) := ⟨_, rfl⟩
   replace H : ((spec_l1Int.f s0_0 t208 t209 y216).bind fun bt219 => (some (t192, bt219.1, t194, t197, t198, t199, t202, t203, bt219.2.1, bt219.2.2))) = some (r1, r2, r3, r4, r5, r6, r7, r8, r9, r10) := by first | (rw [hy216]; with_reducible exact H) | (have H2_ := (Option.bind_some _ _).symm.trans H; rw [hy216]; with_reducible exact H2_) | (have H2_ := (Option.bind_some _ _).symm.trans H; with_reducible exact H2_) | with_reducible exact H | (rw [hy216]; exact H) | exact H
   have Ny216 := o_ hy216
   clear hy216
   replace H := Option.bind_eq_some_iff.mp H
   obtain ⟨⟨t219, t220, t221⟩, A250, H⟩ := H
   try dsimp only at H
   have A25 := o_ A250
   clear A250
   simp only [Option.some.injEq, Prod.mk.injEq] at H
   obtain ⟨rfl, rfl, rfl, rfl, rfl, rfl, rfl, rfl, rfl, rfl⟩ := H
   go_enter Tryd.func54, Tryd.ntmps54
   go_wp2_with (first | ((with_reducible refine gate_dst (N := 2) rfl ?_); refine bx_ 2 #[.int .i64 0, .int .i64 0, .slice none 0 0, .int .i64 0, .int .i64 0, .slice none 0 0, .int .i64 0, .int .i64 0] 28 ?_; intro gb188 hg w26 hbox hb; replace HB := o_ (below_step wB_ hb); have BK188 := o_ (hbox); have GW188 := o_ ((y68_ : w.heap.size ≤ gb188)); have GE188 := o_ ((Nat.le_trans HW0.1 (y68_ : w.heap.size ≤ gb188) : w0.heap.size ≤ gb188)); replace HK := o_ (KeepBut.trans wK_ (KeepBut.of_below hb g none) (.inl rfl)); have NB0_188 := o_ ((y58_ : g ≠ gb188)); have NB188_0 := o_ ((y59_ : gb188 ≠ g)); replace HI0 := o_ (IsS103.below wI_ hb); clear hb hbox hg) | (refine gl_ (some 6) Tryd.func58 #[.pointer (some ⟨g, 0, none⟩), .int .i64 9] ?_; (with_reducible refine (spec_l1Below.calls g s0_0 s0_1 s0_2 9 t189 t190 t191 w0 _ ?side1 ?side2 A2.1).mono ?_); (case side1 => exact wI_); (case side2 => exact wB_); rintro e w27 ⟨rfl, hi, hb, hk⟩; refine ⟨_, rfl, ?_⟩; replace BK188 := o_ (KeepBut.blk hk (g' := gb188) (o := c45_ 0 0 none 0 0 0 0 none 0 0 0 0) (bd_ BK188.1) NB188_0.1 (by simp)); replace HK := o_ (KeepBut.trans wK_ hk (.inl rfl)); replace HB := o_ (hb); replace HI0 := o_ (hi); (try clear hb hk hi)) | (refine gl_ (some 8) Tryd.func80 #[.pointer (some ⟨g, 0, none⟩), .int .i64 (wrap64 (1 + t189))] ?_; (with_reducible refine (spec_l7Draw.calls k g s0_0 t190 t191 (wrap64 (1 + t189)) t192 t193 t194 t197 t198 t199 t202 t203 t204 t205 w0 _ ?side1 ?side2 A3.1).mono ?_); (case side1 => exact wI_); (case side2 => exact wB_); rintro e w28 ⟨v195, v200, rfl, ho0, ho1, hi, hb, hk⟩; refine ⟨_, rfl, ?_⟩; replace BK188 := o_ (KeepBut.blk hk (g' := gb188) (o := c45_ 0 0 none 0 0 0 0 none 0 0 0 0) (bd_ BK188.1) NB188_0.1 (by simp)); have HO196 := o_ (Kd.R_lower ho0 (keep_size (w := w) (g := g) (row := none) wK_)); have HO201 := o_ (Kd.R_lower ho1 (keep_size (w := w) (g := g) (row := none) wK_)); replace HK := o_ (KeepBut.trans wK_ hk (.inl rfl)); replace HB := o_ (hb); replace HI0 := o_ (hi); (try clear hb hk hi ho0 ho1)) | ((with_reducible refine gate_dst (N := 3) rfl ?_); refine bx_ 3 #[.int .i64 0, .int .i64 0, .slice none 0 0, .int .i64 0, .int .i64 0, .slice none 0 0, .int .i64 0, .int .i64 0] 28 ?_; intro gb206 hg w29 hbox hb; replace HO196 := o_ (Kd.R_below (rd_ HO196.1) hb); replace HO201 := o_ (Kd.R_below (rd_ HO201.1) hb); replace HB := o_ (below_step wB_ hb); have BK206 := o_ (hbox); have GW206 := o_ ((y68_ : w.heap.size ≤ gb206)); have GE206 := o_ ((Nat.le_trans HW0.1 (y68_ : w.heap.size ≤ gb206) : w0.heap.size ≤ gb206)); replace HK := o_ (KeepBut.trans wK_ (KeepBut.of_below hb g none) (.inl rfl)); have NB188_206 := o_ ((y70_ : gb188 ≠ gb206)); have NB206_188 := o_ ((y71_ : gb206 ≠ gb188)); replace BK188 := o_ (blk_below (bd_ BK188.1) hb); have NB0_206 := o_ ((y56_ : g ≠ gb206)); have NB206_0 := o_ ((y57_ : gb206 ≠ g)); replace HI0 := o_ (IsS103.below wI_ hb); clear hb hbox hg; have hnb30 := NB206_188.1; have hnc30 := NB188_206.1; have hnb31 := NB206_0.1; have hnc31 := NB0_206.1; obtain ⟨hcz32_0, hcz32_1, hcz32_2, hcz32_3, hcz32_4, hcz32_5, hcz32_6, hcz32_7⟩ := e46_ BK206.1; obtain ⟨hfz32_0, hfz32_1, hfz32_2, hfz32_3, hfz32_4, hfz32_5, hfz32_6, hfz32_7⟩ := z47_ BK206.1; obtain ⟨Ao33, co33, eo33⟩ := Kd.R_slice HO196.1; subst eo33; obtain ⟨Ao34, co34, eo34⟩ := Kd.R_slice HO201.1; subst eo34) | (refine gl_ (some 10) Tryd.func58 #[.pointer (some ⟨g, 0, none⟩), .int .i64 14] ?_; (with_reducible refine (spec_l1Below.calls g s0_0 t204 t205 14 t207 t208 t209 w0 _ ?side1 ?side2 A4.1).mono ?_); (case side1 => exact wI_); (case side2 => exact wB_); rintro e w35 ⟨rfl, hi, hb, hk⟩; refine ⟨_, rfl, ?_⟩; replace BK188 := o_ (KeepBut.blk hk (g' := gb188) (o := c45_ 0 0 none 0 0 0 0 none 0 0 0 0) (bk_ BK188.1) NB188_0.1 (by simp)); replace HO196 := o_ (Kd.R_mono (Kd.R_keep (IsS103.apart (show IsS103 w0 _ g s0_0 t204 t205 from wI_) (by (with_reducible repeat (first | apply Kd.R_alloc | apply Kd.R_drewN | apply Kd.R_drew)); exact (Kd.R_mono (Kd.R_far (p := ⟨gb206, 7, none⟩) (Kd.R_far (p := ⟨gb206, 6, none⟩) (Kd.R_far (p := ⟨gb206, 5, none⟩) (Kd.R_far (p := ⟨gb206, 4, none⟩) (Kd.R_far (p := ⟨gb206, 3, none⟩) (Kd.R_far (p := ⟨gb206, 2, none⟩) (Kd.R_far (p := ⟨gb206, 1, none⟩) (Kd.R_far (p := ⟨gb206, 0, none⟩) (Kd.R_types HO196.1 BK206.1 (by decide)) (fun _ hk => hk.2) (.int .i64 t192)) (fun _ hk => hk.2) (.int .i64 t193)) (fun _ hk => hk.2) (.slice Ao33 t194.length co33)) (fun _ hk => hk.2) (.int .i64 t197)) (fun _ hk => hk.2) (.int .i64 t198)) (fun _ hk => hk.2) (.slice Ao34 t199.length co34)) (fun _ hk => hk.2) (.int .i64 t202)) (fun _ hk => hk.2) (.int .i64 t203)) (fun _ h_ => h_.1))) (by decide)) hk (fun _ h => h.2)) (fun _ h => h.1)); replace HO201 := o_ (Kd.R_mono (Kd.R_keep (IsS103.apart (show IsS103 w0 _ g s0_0 t204 t205 from wI_) (by (with_reducible repeat (first | apply Kd.R_alloc | apply Kd.R_drewN | apply Kd.R_drew)); exact (Kd.R_mono (Kd.R_far (p := ⟨gb206, 7, none⟩) (Kd.R_far (p := ⟨gb206, 6, none⟩) (Kd.R_far (p := ⟨gb206, 5, none⟩) (Kd.R_far (p := ⟨gb206, 4, none⟩) (Kd.R_far (p := ⟨gb206, 3, none⟩) (Kd.R_far (p := ⟨gb206, 2, none⟩) (Kd.R_far (p := ⟨gb206, 1, none⟩) (Kd.R_far (p := ⟨gb206, 0, none⟩) (Kd.R_types HO201.1 BK206.1 (by decide)) (fun _ hk => hk.2) (.int .i64 t192)) (fun _ hk => hk.2) (.int .i64 t193)) (fun _ hk => hk.2) (.slice Ao33 t194.length co33)) (fun _ hk => hk.2) (.int .i64 t197)) (fun _ hk => hk.2) (.int .i64 t198)) (fun _ hk => hk.2) (.slice Ao34 t199.length co34)) (fun _ hk => hk.2) (.int .i64 t202)) (fun _ hk => hk.2) (.int .i64 t203)) (fun _ h_ => h_.1))) (by decide)) hk (fun _ h => h.2)) (fun _ h => h.1)); replace BK206 := o_ (KeepBut.blk hk (g' := gb206) (o := .cells #[.int .i64 t192, .int .i64 t193, .slice Ao33 t194.length co33, .int .i64 t197, .int .i64 t198, .slice Ao34 t199.length co34, .int .i64 t202, .int .i64 t203] 28 (0, 0)) (bk_ BK206.1) NB206_0.1 (by simp)); replace HK := o_ (KeepBut.trans wK_ hk (.inl rfl)); replace HB := o_ (hb); replace HI0 := o_ (hi); (try clear hb hk hi)) | ((with_reducible refine gate_dst (N := 20) rfl ?_); refine Kd.R_lit (Kd.int .i64) _ 3 ?hg (N := 20) ?hd (xs := ([0, 8, 9] : List Int)) (inner := [.int .i64 0, .int .i64 8, .int .i64 9]) (ok := fun _ => True) (okp := fun _ => True) ?hr ?hp (fun _ hk => hk) trivial (Below.refl _ _) (Nat.le_refl _) (by simp) ?_; (case hd => rfl); (case hg => rfl); (case hr => first | (go_simp; done) | (go_simp; rfl)); (case hp => exact (Reps.one (show Kd.M (Kd.int .i64) _ _ _ 0 [.int .i64 0] from rfl) (Reps.one (show Kd.M (Kd.int .i64) _ _ _ 8 [.int .i64 8] from rfl) (Reps.one (show Kd.M (Kd.int .i64) _ _ _ 9 [.int .i64 9] from rfl) (Reps.none _ _))))); intro v217 w36 ho37 hb hg_ hnew_; clear hg_ hnew_; (first | rw [← Ny216.1] at ho37 | (simp only [Int.reduceToNat] at ho37; rw [← Ny216.1] at ho37)); have HO218 := o_ (Kd.R_lower (Kd.R_new' (Kd.R_new' ho37 (Kd.R_lt (rd_ HO196.1))) (Kd.R_lt (rd_ HO201.1))) (keep_size (w := w) (g := g) (row := none) wK_)); replace HO196 := o_ (Kd.R_elder' (rd_ HO196.1) (Kd.R_base ho37) hb); replace HO201 := o_ (Kd.R_elder' (rd_ HO201.1) (Kd.R_base ho37) hb); replace BK188 := o_ (blk_below (bd_ BK188.1) hb); replace BK206 := o_ (blk_below (bd_ BK206.1) hb); replace HK := o_ (KeepBut.trans wK_ (KeepBut.of_below hb g none) (.inl rfl)); replace HB := o_ (below_step (wB_) hb); replace HI0 := o_ (IsS103.below (wI_) hb); clear hb ho37; obtain ⟨Ao38, co38, eo38⟩ := Kd.R_slice HO218.1; subst eo38) | (refine gl_ (some 21) Tryd.func81 #[.pointer (some ⟨g, 0, none⟩), .slice Ao38 y216.length co38] ?_; (with_reducible refine (spec_l1Int.calls g s0_0 t208 t209 _ _ y216 t219 t220 t221 w0 _ ?side1 ?side2 ?side3 ?side4 ?side5 A25.1).mono ?_); (case side1 => exact wI_); (case side2 => exact wB_); (case side3 => exact cd_ (Kd.R_reads' HO218.1).2.2); (case side4 => exact (Kd.R_reads' HO218.1).2.1); (case side5 => exact far_slice (IsS103.own_ne HI0.1 HO218.1 (by decide))); rintro e w39 ⟨rfl, hi, hb, hk⟩; refine ⟨_, rfl, ?_⟩; replace BK188 := o_ (KeepBut.blk hk (g' := gb188) (o := c45_ 0 0 none 0 0 0 0 none 0 0 0 0) (bd_ BK188.1) NB188_0.1 (by simp)); replace HO196 := o_ (Kd.R_mono (Kd.R_keep (IsS103.apart (show IsS103 w0 _ g s0_0 t208 t209 from wI_) (rd_ HO196.1) (by decide)) hk (fun _ h => h.2)) (fun _ h => h.1)); replace HO201 := o_ (Kd.R_mono (Kd.R_keep (IsS103.apart (show IsS103 w0 _ g s0_0 t208 t209 from wI_) (rd_ HO201.1) (by decide)) hk (fun _ h => h.2)) (fun _ h => h.1)); replace BK206 := o_ (KeepBut.blk hk (g' := gb206) (o := .cells #[.int .i64 t192, .int .i64 t193, .slice Ao33 t194.length co33, .int .i64 t197, .int .i64 t198, .slice Ao34 t199.length co34, .int .i64 t202, .int .i64 t203] 28 (0, 0)) (bd_ BK206.1) NB206_0.1 (by simp)); replace HO218 := o_ (Kd.R_mono (Kd.R_keep (IsS103.apart (show IsS103 w0 _ g s0_0 t208 t209 from wI_) (rd_ HO218.1) (by decide)) hk (fun _ h => h.2)) (fun _ h => h.1)); replace HK := o_ (KeepBut.trans wK_ hk (.inl rfl)); replace HB := o_ (hb); replace HI0 := o_ (hi); (try clear hb hk hi); obtain ⟨hcz40_0, hcz40_1, hcz40_2, hcz40_3, hcz40_4, hcz40_5, hcz40_6, hcz40_7⟩ := e46_ BK206.1; obtain ⟨hfz40_0, hfz40_1, hfz40_2, hfz40_3, hfz40_4, hfz40_5, hfz40_6, hfz40_7⟩ := z47_ BK206.1; have hnb41 := NB188_0.1; have hnc41 := NB0_188.1; obtain ⟨hcz42_0, hcz42_1, hcz42_2, hcz42_3, hcz42_4, hcz42_5, hcz42_6, hcz42_7⟩ := e46_ BK188.1; obtain ⟨hfz42_0, hfz42_1, hfz42_2, hfz42_3, hfz42_4, hfz42_5, hfz42_6, hfz42_7⟩ := z47_ BK188.1))
   refine bodyPost_ret (results_cell_row rfl _ _ gb188 28 #[.int .i64 t192, .int .i64 t219, .slice Ao33 t194.length co33, .int .i64 t197, .int .i64 t198, .slice Ao34 t199.length co34, .int .i64 t202, .int .i64 t203] (0, 0) _ rfl (bk_ BK188.1) Tryd.underlying28 rfl (by kernel_rfl)) rfl ?_
   exact ⟨_, _, by first | rfl | (simp [errW_none, errW_some] <;> rfl) | (simp [*, errW_none, errW_some] <;> rfl), rf_ (R2_ (R2_ HO196.1 BK206.1) BK188.1) (fun _ hk => hk.1.1.1), rf_ (R2_ (R2_ HO201.1 BK206.1) BK188.1) (fun _ hk => hk.1.1.1), wI_, wB_, wK_⟩
  ·
   rw [if_neg c24] at H
   have c24b0 := beq_eq_false_iff_ne.mpr c24
   have c24b1 := bne_iff_ne.mpr c24
   by_cases c43 : t207 = 2
   ·
    rw [if_pos c43] at H
    have c43b0 := beq_iff_eq.mpr c43
    have c43b1 := bne_eq_false_iff_eq.mpr c43
    clear c43
    obtain ⟨y222, hy222⟩ : ∃ y_ : List Int, y_ = (([(-1), 3, 8] : List Int)) := ⟨_, rfl⟩
    replace H : ((spec_l1Int.f s0_0 t208 t209 y222).bind fun bt225 => (some (t192, t193, (([bt225.1, 3] : List Int)), t197, t198, t199, t202, t203, bt225.2.1, bt225.2.2))) = some (r1, r2, r3, r4, r5, r6, r7, r8, r9, r10) := by first | (rw [hy222]; with_reducible exact H) | (have H2_ := (Option.bind_some _ _).symm.trans H; rw [hy222]; with_reducible exact H2_) | (have H2_ := (Option.bind_some _ _).symm.trans H; with_reducible exact H2_) | with_reducible exact H | (rw [hy222]; exact H) | exact H
    have Ny222 := o_ hy222
    clear hy222
    replace H := Option.bind_eq_some_iff.mp H
    obtain ⟨⟨t225, t226, t227⟩, A440, H⟩ := H
    try dsimp only at H
    have A44 := o_ A440
    clear A440
    obtain ⟨y228, hy228⟩ : ∃ y_ : List Int, y_ = (([t225, 3] : List Int)) := ⟨_, rfl⟩
    replace H : (some (t192, t193, y228, t197, t198, t199, t202, t203, t226, t227)) = some (r1, r2, r3, r4, r5, r6, r7, r8, r9, r10) := by first | (rw [hy228]; with_reducible exact H) | (have H2_ := (Option.bind_some _ _).symm.trans H; rw [hy228]; with_reducible exact H2_) | (have H2_ := (Option.bind_some _ _).symm.trans H; with_reducible exact H2_) | with_reducible exact H | (rw [hy228]; exact H) | exact H
    have Ny228 := o_ hy228
    clear hy228
    simp only [Option.some.injEq, Prod.mk.injEq] at H
    obtain ⟨rfl, rfl, rfl, rfl, rfl, rfl, rfl, rfl, rfl, rfl⟩ := H
    go_enter Tryd.func54, Tryd.ntmps54
    go_wp2_with (first | ((with_reducible refine gate_dst (N := 2) rfl ?_); refine bx_ 2 #[.int .i64 0, .int .i64 0, .slice none 0 0, .int .i64 0, .int .i64 0, .slice none 0 0, .int .i64 0, .int .i64 0] 28 ?_; intro gb188 hg w45 hbox hb; replace HB := o_ (below_step wB_ hb); have BK188 := o_ (hbox); have GW188 := o_ ((y68_ : w.heap.size ≤ gb188)); have GE188 := o_ ((Nat.le_trans HW0.1 (y68_ : w.heap.size ≤ gb188) : w0.heap.size ≤ gb188)); replace HK := o_ (KeepBut.trans wK_ (KeepBut.of_below hb g none) (.inl rfl)); have NB0_188 := o_ ((y58_ : g ≠ gb188)); have NB188_0 := o_ ((y59_ : gb188 ≠ g)); replace HI0 := o_ (IsS103.below wI_ hb); clear hb hbox hg) | (refine gl_ (some 6) Tryd.func58 #[.pointer (some ⟨g, 0, none⟩), .int .i64 9] ?_; (with_reducible refine (spec_l1Below.calls g s0_0 s0_1 s0_2 9 t189 t190 t191 w0 _ ?side1 ?side2 A2.1).mono ?_); (case side1 => exact wI_); (case side2 => exact wB_); rintro e w46 ⟨rfl, hi, hb, hk⟩; refine ⟨_, rfl, ?_⟩; replace BK188 := o_ (KeepBut.blk hk (g' := gb188) (o := c45_ 0 0 none 0 0 0 0 none 0 0 0 0) (bd_ BK188.1) NB188_0.1 (by simp)); replace HK := o_ (KeepBut.trans wK_ hk (.inl rfl)); replace HB := o_ (hb); replace HI0 := o_ (hi); (try clear hb hk hi)) | (refine gl_ (some 8) Tryd.func80 #[.pointer (some ⟨g, 0, none⟩), .int .i64 (wrap64 (1 + t189))] ?_; (with_reducible refine (spec_l7Draw.calls k g s0_0 t190 t191 (wrap64 (1 + t189)) t192 t193 t194 t197 t198 t199 t202 t203 t204 t205 w0 _ ?side1 ?side2 A3.1).mono ?_); (case side1 => exact wI_); (case side2 => exact wB_); rintro e w47 ⟨v195, v200, rfl, ho0, ho1, hi, hb, hk⟩; refine ⟨_, rfl, ?_⟩; replace BK188 := o_ (KeepBut.blk hk (g' := gb188) (o := c45_ 0 0 none 0 0 0 0 none 0 0 0 0) (bd_ BK188.1) NB188_0.1 (by simp)); have HO196 := o_ (Kd.R_lower ho0 (keep_size (w := w) (g := g) (row := none) wK_)); have HO201 := o_ (Kd.R_lower ho1 (keep_size (w := w) (g := g) (row := none) wK_)); replace HK := o_ (KeepBut.trans wK_ hk (.inl rfl)); replace HB := o_ (hb); replace HI0 := o_ (hi); (try clear hb hk hi ho0 ho1)) | ((with_reducible refine gate_dst (N := 3) rfl ?_); refine bx_ 3 #[.int .i64 0, .int .i64 0, .slice none 0 0, .int .i64 0, .int .i64 0, .slice none 0 0, .int .i64 0, .int .i64 0] 28 ?_; intro gb206 hg w48 hbox hb; replace HO196 := o_ (Kd.R_below (rd_ HO196.1) hb); replace HO201 := o_ (Kd.R_below (rd_ HO201.1) hb); replace HB := o_ (below_step wB_ hb); have BK206 := o_ (hbox); have GW206 := o_ ((y68_ : w.heap.size ≤ gb206)); have GE206 := o_ ((Nat.le_trans HW0.1 (y68_ : w.heap.size ≤ gb206) : w0.heap.size ≤ gb206)); replace HK := o_ (KeepBut.trans wK_ (KeepBut.of_below hb g none) (.inl rfl)); have NB188_206 := o_ ((y70_ : gb188 ≠ gb206)); have NB206_188 := o_ ((y71_ : gb206 ≠ gb188)); replace BK188 := o_ (blk_below (bd_ BK188.1) hb); have NB0_206 := o_ ((y56_ : g ≠ gb206)); have NB206_0 := o_ ((y57_ : gb206 ≠ g)); replace HI0 := o_ (IsS103.below wI_ hb); clear hb hbox hg; have hnb49 := NB206_188.1; have hnc49 := NB188_206.1; have hnb50 := NB206_0.1; have hnc50 := NB0_206.1; obtain ⟨hcz51_0, hcz51_1, hcz51_2, hcz51_3, hcz51_4, hcz51_5, hcz51_6, hcz51_7⟩ := e46_ BK206.1; obtain ⟨hfz51_0, hfz51_1, hfz51_2, hfz51_3, hfz51_4, hfz51_5, hfz51_6, hfz51_7⟩ := z47_ BK206.1; obtain ⟨Ao52, co52, eo52⟩ := Kd.R_slice HO196.1; subst eo52; obtain ⟨Ao53, co53, eo53⟩ := Kd.R_slice HO201.1; subst eo53) | (refine gl_ (some 10) Tryd.func58 #[.pointer (some ⟨g, 0, none⟩), .int .i64 14] ?_; (with_reducible refine (spec_l1Below.calls g s0_0 t204 t205 14 t207 t208 t209 w0 _ ?side1 ?side2 A4.1).mono ?_); (case side1 => exact wI_); (case side2 => exact wB_); rintro e w54 ⟨rfl, hi, hb, hk⟩; refine ⟨_, rfl, ?_⟩; replace BK188 := o_ (KeepBut.blk hk (g' := gb188) (o := c45_ 0 0 none 0 0 0 0 none 0 0 0 0) (bk_ BK188.1) NB188_0.1 (by simp)); replace HO196 := o_ (Kd.R_mono (Kd.R_keep (IsS103.apart (show IsS103 w0 _ g s0_0 t204 t205 from wI_) (by (with_reducible repeat (first | apply Kd.R_alloc | apply Kd.R_drewN | apply Kd.R_drew)); exact (Kd.R_mono (Kd.R_far (p := ⟨gb206, 7, none⟩) (Kd.R_far (p := ⟨gb206, 6, none⟩) (Kd.R_far (p := ⟨gb206, 5, none⟩) (Kd.R_far (p := ⟨gb206, 4, none⟩) (Kd.R_far (p := ⟨gb206, 3, none⟩) (Kd.R_far (p := ⟨gb206, 2, none⟩) (Kd.R_far (p := ⟨gb206, 1, none⟩) (Kd.R_far (p := ⟨gb206, 0, none⟩) (Kd.R_types HO196.1 BK206.1 (by decide)) (fun _ hk => hk.2) (.int .i64 t192)) (fun _ hk => hk.2) (.int .i64 t193)) (fun _ hk => hk.2) (.slice Ao52 t194.length co52)) (fun _ hk => hk.2) (.int .i64 t197)) (fun _ hk => hk.2) (.int .i64 t198)) (fun _ hk => hk.2) (.slice Ao53 t199.length co53)) (fun _ hk => hk.2) (.int .i64 t202)) (fun _ hk => hk.2) (.int .i64 t203)) (fun _ h_ => h_.1))) (by decide)) hk (fun _ h => h.2)) (fun _ h => h.1)); replace HO201 := o_ (Kd.R_mono (Kd.R_keep (IsS103.apart (show IsS103 w0 _ g s0_0 t204 t205 from wI_) (by (with_reducible repeat (first | apply Kd.R_alloc | apply Kd.R_drewN | apply Kd.R_drew)); exact (Kd.R_mono (Kd.R_far (p := ⟨gb206, 7, none⟩) (Kd.R_far (p := ⟨gb206, 6, none⟩) (Kd.R_far (p := ⟨gb206, 5, none⟩) (Kd.R_far (p := ⟨gb206, 4, none⟩) (Kd.R_far (p := ⟨gb206, 3, none⟩) (Kd.R_far (p := ⟨gb206, 2, none⟩) (Kd.R_far (p := ⟨gb206, 1, none⟩) (Kd.R_far (p := ⟨gb206, 0, none⟩) (Kd.R_types HO201.1 BK206.1 (by decide)) (fun _ hk => hk.2) (.int .i64 t192)) (fun _ hk => hk.2) (.int .i64 t193)) (fun _ hk => hk.2) (.slice Ao52 t194.length co52)) (fun _ hk => hk.2) (.int .i64 t197)) (fun _ hk => hk.2) (.int .i64 t198)) (fun _ hk => hk.2) (.slice Ao53 t199.length co53)) (fun _ hk => hk.2) (.int .i64 t202)) (fun _ hk => hk.2) (.int .i64 t203)) (fun _ h_ => h_.1))) (by decide)) hk (fun _ h => h.2)) (fun _ h => h.1)); replace BK206 := o_ (KeepBut.blk hk (g' := gb206) (o := .cells #[.int .i64 t192, .int .i64 t193, .slice Ao52 t194.length co52, .int .i64 t197, .int .i64 t198, .slice Ao53 t199.length co53, .int .i64 t202, .int .i64 t203] 28 (0, 0)) (bk_ BK206.1) NB206_0.1 (by simp)); replace HK := o_ (KeepBut.trans wK_ hk (.inl rfl)); replace HB := o_ (hb); replace HI0 := o_ (hi); (try clear hb hk hi)) | ((with_reducible refine gate_dst (N := 26) rfl ?_); refine Kd.R_lit (Kd.int .i64) _ 3 ?hg (N := 26) ?hd (xs := ([(-1), 3, 8] : List Int)) (inner := [.int .i64 (-1), .int .i64 3, .int .i64 8]) (ok := fun _ => True) (okp := fun _ => True) ?hr ?hp (fun _ hk => hk) trivial (Below.refl _ _) (Nat.le_refl _) (by simp) ?_; (case hd => rfl); (case hg => rfl); (case hr => first | (go_simp; done) | (go_simp; rfl)); (case hp => exact (Reps.one (show Kd.M (Kd.int .i64) _ _ _ (-1) [.int .i64 (-1)] from rfl) (Reps.one (show Kd.M (Kd.int .i64) _ _ _ 3 [.int .i64 3] from rfl) (Reps.one (show Kd.M (Kd.int .i64) _ _ _ 8 [.int .i64 8] from rfl) (Reps.none _ _))))); intro v223 w55 ho56 hb hg_ hnew_; clear hg_ hnew_; (first | rw [← Ny222.1] at ho56 | (simp only [Int.reduceToNat] at ho56; rw [← Ny222.1] at ho56)); have HO224 := o_ (Kd.R_lower (Kd.R_new' (Kd.R_new' ho56 (Kd.R_lt (rd_ HO196.1))) (Kd.R_lt (rd_ HO201.1))) (keep_size (w := w) (g := g) (row := none) wK_)); replace HO196 := o_ (Kd.R_elder' (rd_ HO196.1) (Kd.R_base ho56) hb); replace HO201 := o_ (Kd.R_elder' (rd_ HO201.1) (Kd.R_base ho56) hb); replace BK188 := o_ (blk_below (bd_ BK188.1) hb); replace BK206 := o_ (blk_below (bd_ BK206.1) hb); replace HK := o_ (KeepBut.trans wK_ (KeepBut.of_below hb g none) (.inl rfl)); replace HB := o_ (below_step (wB_) hb); replace HI0 := o_ (IsS103.below (wI_) hb); clear hb ho56; obtain ⟨Ao57, co57, eo57⟩ := Kd.R_slice HO224.1; subst eo57) | (refine gl_ (some 27) Tryd.func81 #[.pointer (some ⟨g, 0, none⟩), .slice Ao57 y222.length co57] ?_; (with_reducible refine (spec_l1Int.calls g s0_0 t208 t209 _ _ y222 t225 t226 t227 w0 _ ?side1 ?side2 ?side3 ?side4 ?side5 A44.1).mono ?_); (case side1 => exact wI_); (case side2 => exact wB_); (case side3 => exact cd_ (Kd.R_reads' HO224.1).2.2); (case side4 => exact (Kd.R_reads' HO224.1).2.1); (case side5 => exact far_slice (IsS103.own_ne HI0.1 HO224.1 (by decide))); rintro e w58 ⟨rfl, hi, hb, hk⟩; refine ⟨_, rfl, ?_⟩; replace BK188 := o_ (KeepBut.blk hk (g' := gb188) (o := c45_ 0 0 none 0 0 0 0 none 0 0 0 0) (bd_ BK188.1) NB188_0.1 (by simp)); replace HO196 := o_ (Kd.R_mono (Kd.R_keep (IsS103.apart (show IsS103 w0 _ g s0_0 t208 t209 from wI_) (rd_ HO196.1) (by decide)) hk (fun _ h => h.2)) (fun _ h => h.1)); replace HO201 := o_ (Kd.R_mono (Kd.R_keep (IsS103.apart (show IsS103 w0 _ g s0_0 t208 t209 from wI_) (rd_ HO201.1) (by decide)) hk (fun _ h => h.2)) (fun _ h => h.1)); replace BK206 := o_ (KeepBut.blk hk (g' := gb206) (o := .cells #[.int .i64 t192, .int .i64 t193, .slice Ao52 t194.length co52, .int .i64 t197, .int .i64 t198, .slice Ao53 t199.length co53, .int .i64 t202, .int .i64 t203] 28 (0, 0)) (bd_ BK206.1) NB206_0.1 (by simp)); replace HO224 := o_ (Kd.R_mono (Kd.R_keep (IsS103.apart (show IsS103 w0 _ g s0_0 t208 t209 from wI_) (rd_ HO224.1) (by decide)) hk (fun _ h => h.2)) (fun _ h => h.1)); replace HK := o_ (KeepBut.trans wK_ hk (.inl rfl)); replace HB := o_ (hb); replace HI0 := o_ (hi); (try clear hb hk hi)) | ((with_reducible refine gate_dst (N := 28) rfl ?_); refine Kd.R_lit (Kd.int .i64) _ 3 ?hg (N := 28) ?hd (xs := ([t225, 3] : List Int)) (inner := [.int .i64 t225, .int .i64 3]) (ok := fun _ => True) (okp := fun _ => True) ?hr ?hp (fun _ hk => hk) trivial (Below.refl _ _) (Nat.le_refl _) (by simp) ?_; (case hd => rfl); (case hg => rfl); (case hr => first | (go_simp; done) | (go_simp; rfl)); (case hp => exact (Reps.one (show Kd.M (Kd.int .i64) _ _ _ t225 [.int .i64 t225] from rfl) (Reps.one (show Kd.M (Kd.int .i64) _ _ _ 3 [.int .i64 3] from rfl) (Reps.none _ _)))); intro v229 w59 ho60 hb hg_ hnew_; clear hg_ hnew_; (first | rw [← Ny228.1] at ho60 | (simp only [Int.reduceToNat] at ho60; rw [← Ny228.1] at ho60)); have HO230 := o_ (Kd.R_lower (Kd.R_new' (Kd.R_new' (Kd.R_new' ho60 (Kd.R_lt (rd_ HO196.1))) (Kd.R_lt (rd_ HO201.1))) (Kd.R_lt (rd_ HO224.1))) (keep_size (w := w) (g := g) (row := none) wK_)); replace HO196 := o_ (Kd.R_elder' (rd_ HO196.1) (Kd.R_base ho60) hb); replace HO201 := o_ (Kd.R_elder' (rd_ HO201.1) (Kd.R_base ho60) hb); replace HO224 := o_ (Kd.R_elder' (rd_ HO224.1) (Kd.R_base ho60) hb); replace BK188 := o_ (blk_below (bd_ BK188.1) hb); replace BK206 := o_ (blk_below (bd_ BK206.1) hb); replace HK := o_ (KeepBut.trans wK_ (KeepBut.of_below hb g none) (.inl rfl)); replace HB := o_ (below_step (wB_) hb); replace HI0 := o_ (IsS103.below (wI_) hb); clear hb ho60; obtain ⟨Ao61, co61, eo61⟩ := Kd.R_slice HO230.1; subst eo61; obtain ⟨hcz62_0, hcz62_1, hcz62_2, hcz62_3, hcz62_4, hcz62_5, hcz62_6, hcz62_7⟩ := e46_ BK206.1; obtain ⟨hfz62_0, hfz62_1, hfz62_2, hfz62_3, hfz62_4, hfz62_5, hfz62_6, hfz62_7⟩ := z47_ BK206.1; have hnb63 := NB188_0.1; have hnc63 := NB0_188.1; obtain ⟨hcz64_0, hcz64_1, hcz64_2, hcz64_3, hcz64_4, hcz64_5, hcz64_6, hcz64_7⟩ := e46_ BK188.1; obtain ⟨hfz64_0, hfz64_1, hfz64_2, hfz64_3, hfz64_4, hfz64_5, hfz64_6, hfz64_7⟩ := z47_ BK188.1))
    refine bodyPost_ret (results_cell_row rfl _ _ gb188 28 #[.int .i64 t192, .int .i64 t193, .slice Ao61 y228.length co61, .int .i64 t197, .int .i64 t198, .slice Ao53 t199.length co53, .int .i64 t202, .int .i64 t203] (0, 0) _ rfl (bk_ BK188.1) Tryd.underlying28 rfl (by kernel_rfl)) rfl ?_
    exact ⟨_, _, by first | rfl | (simp [errW_none, errW_some] <;> rfl) | (simp [*, errW_none, errW_some] <;> rfl), rf_ (R2_ (R2_ HO230.1 BK206.1) BK188.1) (fun _ hk => hk.1.1.1.2), rf_ (R2_ (R2_ HO201.1 BK206.1) BK188.1) (fun _ hk => hk.1.1.2), wI_, wB_, wK_⟩
   ·
    rw [if_neg c43] at H
    have c43b0 := beq_eq_false_iff_ne.mpr c43
    have c43b1 := bne_iff_ne.mpr c43
    by_cases c65 : t207 = 3
    ·
     rw [if_pos c65] at H
     have c65b0 := beq_iff_eq.mpr c65
     have c65b1 := bne_eq_false_iff_eq.mpr c65
     clear c65
     replace H := Option.bind_eq_some_iff.mp H
     obtain ⟨⟨t231, t232, t233⟩, A660, H⟩ := H
     try dsimp only at H
     have A66 := o_ A660
     clear A660
     simp only [Option.some.injEq, Prod.mk.injEq] at H
     obtain ⟨rfl, rfl, rfl, rfl, rfl, rfl, rfl, rfl, rfl, rfl⟩ := H
     go_enter Tryd.func54, Tryd.ntmps54
     go_wp2_with (first | ((with_reducible refine gate_dst (N := 2) rfl ?_); refine bx_ 2 #[.int .i64 0, .int .i64 0, .slice none 0 0, .int .i64 0, .int .i64 0, .slice none 0 0, .int .i64 0, .int .i64 0] 28 ?_; intro gb188 hg w67 hbox hb; replace HB := o_ (below_step wB_ hb); have BK188 := o_ (hbox); have GW188 := o_ ((y68_ : w.heap.size ≤ gb188)); have GE188 := o_ ((Nat.le_trans HW0.1 (y68_ : w.heap.size ≤ gb188) : w0.heap.size ≤ gb188)); replace HK := o_ (KeepBut.trans wK_ (KeepBut.of_below hb g none) (.inl rfl)); have NB0_188 := o_ ((y58_ : g ≠ gb188)); have NB188_0 := o_ ((y59_ : gb188 ≠ g)); replace HI0 := o_ (IsS103.below wI_ hb); clear hb hbox hg) | (refine gl_ (some 6) Tryd.func58 #[.pointer (some ⟨g, 0, none⟩), .int .i64 9] ?_; (with_reducible refine (spec_l1Below.calls g s0_0 s0_1 s0_2 9 t189 t190 t191 w0 _ ?side1 ?side2 A2.1).mono ?_); (case side1 => exact wI_); (case side2 => exact wB_); rintro e w68 ⟨rfl, hi, hb, hk⟩; refine ⟨_, rfl, ?_⟩; replace BK188 := o_ (KeepBut.blk hk (g' := gb188) (o := c45_ 0 0 none 0 0 0 0 none 0 0 0 0) (bd_ BK188.1) NB188_0.1 (by simp)); replace HK := o_ (KeepBut.trans wK_ hk (.inl rfl)); replace HB := o_ (hb); replace HI0 := o_ (hi); (try clear hb hk hi)) | (refine gl_ (some 8) Tryd.func80 #[.pointer (some ⟨g, 0, none⟩), .int .i64 (wrap64 (1 + t189))] ?_; (with_reducible refine (spec_l7Draw.calls k g s0_0 t190 t191 (wrap64 (1 + t189)) t192 t193 t194 t197 t198 t199 t202 t203 t204 t205 w0 _ ?side1 ?side2 A3.1).mono ?_); (case side1 => exact wI_); (case side2 => exact wB_); rintro e w69 ⟨v195, v200, rfl, ho0, ho1, hi, hb, hk⟩; refine ⟨_, rfl, ?_⟩; replace BK188 := o_ (KeepBut.blk hk (g' := gb188) (o := c45_ 0 0 none 0 0 0 0 none 0 0 0 0) (bd_ BK188.1) NB188_0.1 (by simp)); have HO196 := o_ (Kd.R_lower ho0 (keep_size (w := w) (g := g) (row := none) wK_)); have HO201 := o_ (Kd.R_lower ho1 (keep_size (w := w) (g := g) (row := none) wK_)); replace HK := o_ (KeepBut.trans wK_ hk (.inl rfl)); replace HB := o_ (hb); replace HI0 := o_ (hi); (try clear hb hk hi ho0 ho1)) | ((with_reducible refine gate_dst (N := 3) rfl ?_); refine bx_ 3 #[.int .i64 0, .int .i64 0, .slice none 0 0, .int .i64 0, .int .i64 0, .slice none 0 0, .int .i64 0, .int .i64 0] 28 ?_; intro gb206 hg w70 hbox hb; replace HO196 := o_ (Kd.R_below (rd_ HO196.1) hb); replace HO201 := o_ (Kd.R_below (rd_ HO201.1) hb); replace HB := o_ (below_step wB_ hb); have BK206 := o_ (hbox); have GW206 := o_ ((y68_ : w.heap.size ≤ gb206)); have GE206 := o_ ((Nat.le_trans HW0.1 (y68_ : w.heap.size ≤ gb206) : w0.heap.size ≤ gb206)); replace HK := o_ (KeepBut.trans wK_ (KeepBut.of_below hb g none) (.inl rfl)); have NB188_206 := o_ ((y70_ : gb188 ≠ gb206)); have NB206_188 := o_ ((y71_ : gb206 ≠ gb188)); replace BK188 := o_ (blk_below (bd_ BK188.1) hb); have NB0_206 := o_ ((y56_ : g ≠ gb206)); have NB206_0 := o_ ((y57_ : gb206 ≠ g)); replace HI0 := o_ (IsS103.below wI_ hb); clear hb hbox hg; have hnb71 := NB206_188.1; have hnc71 := NB188_206.1; have hnb72 := NB206_0.1; have hnc72 := NB0_206.1; obtain ⟨hcz73_0, hcz73_1, hcz73_2, hcz73_3, hcz73_4, hcz73_5, hcz73_6, hcz73_7⟩ := e46_ BK206.1; obtain ⟨hfz73_0, hfz73_1, hfz73_2, hfz73_3, hfz73_4, hfz73_5, hfz73_6, hfz73_7⟩ := z47_ BK206.1; obtain ⟨Ao74, co74, eo74⟩ := Kd.R_slice HO196.1; subst eo74; obtain ⟨Ao75, co75, eo75⟩ := Kd.R_slice HO201.1; subst eo75) | (refine gl_ (some 10) Tryd.func58 #[.pointer (some ⟨g, 0, none⟩), .int .i64 14] ?_; (with_reducible refine (spec_l1Below.calls g s0_0 t204 t205 14 t207 t208 t209 w0 _ ?side1 ?side2 A4.1).mono ?_); (case side1 => exact wI_); (case side2 => exact wB_); rintro e w76 ⟨rfl, hi, hb, hk⟩; refine ⟨_, rfl, ?_⟩; replace BK188 := o_ (KeepBut.blk hk (g' := gb188) (o := c45_ 0 0 none 0 0 0 0 none 0 0 0 0) (bk_ BK188.1) NB188_0.1 (by simp)); replace HO196 := o_ (Kd.R_mono (Kd.R_keep (IsS103.apart (show IsS103 w0 _ g s0_0 t204 t205 from wI_) (by (with_reducible repeat (first | apply Kd.R_alloc | apply Kd.R_drewN | apply Kd.R_drew)); exact (Kd.R_mono (Kd.R_far (p := ⟨gb206, 7, none⟩) (Kd.R_far (p := ⟨gb206, 6, none⟩) (Kd.R_far (p := ⟨gb206, 5, none⟩) (Kd.R_far (p := ⟨gb206, 4, none⟩) (Kd.R_far (p := ⟨gb206, 3, none⟩) (Kd.R_far (p := ⟨gb206, 2, none⟩) (Kd.R_far (p := ⟨gb206, 1, none⟩) (Kd.R_far (p := ⟨gb206, 0, none⟩) (Kd.R_types HO196.1 BK206.1 (by decide)) (fun _ hk => hk.2) (.int .i64 t192)) (fun _ hk => hk.2) (.int .i64 t193)) (fun _ hk => hk.2) (.slice Ao74 t194.length co74)) (fun _ hk => hk.2) (.int .i64 t197)) (fun _ hk => hk.2) (.int .i64 t198)) (fun _ hk => hk.2) (.slice Ao75 t199.length co75)) (fun _ hk => hk.2) (.int .i64 t202)) (fun _ hk => hk.2) (.int .i64 t203)) (fun _ h_ => h_.1))) (by decide)) hk (fun _ h => h.2)) (fun _ h => h.1)); replace HO201 := o_ (Kd.R_mono (Kd.R_keep (IsS103.apart (show IsS103 w0 _ g s0_0 t204 t205 from wI_) (by (with_reducible repeat (first | apply Kd.R_alloc | apply Kd.R_drewN | apply Kd.R_drew)); exact (Kd.R_mono (Kd.R_far (p := ⟨gb206, 7, none⟩) (Kd.R_far (p := ⟨gb206, 6, none⟩) (Kd.R_far (p := ⟨gb206, 5, none⟩) (Kd.R_far (p := ⟨gb206, 4, none⟩) (Kd.R_far (p := ⟨gb206, 3, none⟩) (Kd.R_far (p := ⟨gb206, 2, none⟩) (Kd.R_far (p := ⟨gb206, 1, none⟩) (Kd.R_far (p := ⟨gb206, 0, none⟩) (Kd.R_types HO201.1 BK206.1 (by decide)) (fun _ hk => hk.2) (.int .i64 t192)) (fun _ hk => hk.2) (.int .i64 t193)) (fun _ hk => hk.2) (.slice Ao74 t194.length co74)) (fun _ hk => hk.2) (.int .i64 t197)) (fun _ hk => hk.2) (.int .i64 t198)) (fun _ hk => hk.2) (.slice Ao75 t199.length co75)) (fun _ hk => hk.2) (.int .i64 t202)) (fun _ hk => hk.2) (.int .i64 t203)) (fun _ h_ => h_.1))) (by decide)) hk (fun _ h => h.2)) (fun _ h => h.1)); replace BK206 := o_ (KeepBut.blk hk (g' := gb206) (o := .cells #[.int .i64 t192, .int .i64 t193, .slice Ao74 t194.length co74, .int .i64 t197, .int .i64 t198, .slice Ao75 t199.length co75, .int .i64 t202, .int .i64 t203] 28 (0, 0)) (bk_ BK206.1) NB206_0.1 (by simp)); replace HK := o_ (KeepBut.trans wK_ hk (.inl rfl)); replace HB := o_ (hb); replace HI0 := o_ (hi); (try clear hb hk hi)) | (refine gl_ (some 33) Tryd.func82 #[.pointer (some ⟨g, 0, none⟩)] ?_; (with_reducible refine (spec_l4Raw.calls g s0_0 t208 t209 t231 t232 t233 w0 _ ?side1 ?side2 A66.1).mono ?_); (case side1 => exact wI_); (case side2 => exact wB_); rintro e w77 ⟨rfl, hi, hb, hk⟩; refine ⟨_, rfl, ?_⟩; replace BK188 := o_ (KeepBut.blk hk (g' := gb188) (o := c45_ 0 0 none 0 0 0 0 none 0 0 0 0) (bd_ BK188.1) NB188_0.1 (by simp)); replace HO196 := o_ (Kd.R_mono (Kd.R_keep (IsS103.apart (show IsS103 w0 _ g s0_0 t208 t209 from wI_) (rd_ HO196.1) (by decide)) hk (fun _ h => h.2)) (fun _ h => h.1)); replace HO201 := o_ (Kd.R_mono (Kd.R_keep (IsS103.apart (show IsS103 w0 _ g s0_0 t208 t209 from wI_) (rd_ HO201.1) (by decide)) hk (fun _ h => h.2)) (fun _ h => h.1)); replace BK206 := o_ (KeepBut.blk hk (g' := gb206) (o := .cells #[.int .i64 t192, .int .i64 t193, .slice Ao74 t194.length co74, .int .i64 t197, .int .i64 t198, .slice Ao75 t199.length co75, .int .i64 t202, .int .i64 t203] 28 (0, 0)) (bd_ BK206.1) NB206_0.1 (by simp)); replace HK := o_ (KeepBut.trans wK_ hk (.inl rfl)); replace HB := o_ (hb); replace HI0 := o_ (hi); (try clear hb hk hi); obtain ⟨hcz78_0, hcz78_1, hcz78_2, hcz78_3, hcz78_4, hcz78_5, hcz78_6, hcz78_7⟩ := e46_ BK206.1; obtain ⟨hfz78_0, hfz78_1, hfz78_2, hfz78_3, hfz78_4, hfz78_5, hfz78_6, hfz78_7⟩ := z47_ BK206.1; have hnb79 := NB188_0.1; have hnc79 := NB0_188.1; obtain ⟨hcz80_0, hcz80_1, hcz80_2, hcz80_3, hcz80_4, hcz80_5, hcz80_6, hcz80_7⟩ := e46_ BK188.1; obtain ⟨hfz80_0, hfz80_1, hfz80_2, hfz80_3, hfz80_4, hfz80_5, hfz80_6, hfz80_7⟩ := z47_ BK188.1))
     refine bodyPost_ret (results_cell_row rfl _ _ gb188 28 #[.int .i64 t192, .int .i64 t193, .slice Ao74 t194.length co74, .int .i64 t231, .int .i64 t198, .slice Ao75 t199.length co75, .int .i64 t202, .int .i64 t203] (0, 0) _ rfl (bk_ BK188.1) Tryd.underlying28 rfl (by kernel_rfl)) rfl ?_
     exact ⟨_, _, by first | rfl | (simp [errW_none, errW_some] <;> rfl) | (simp [*, errW_none, errW_some] <;> rfl), rf_ (R2_ (R2_ HO196.1 BK206.1) BK188.1) (fun _ hk => hk.1.1), rf_ (R2_ (R2_ HO201.1 BK206.1) BK188.1) (fun _ hk => hk.1.1), wI_, wB_, wK_⟩
    ·
     rw [if_neg c65] at H
     have c65b0 := beq_eq_false_iff_ne.mpr c65
     have c65b1 := bne_iff_ne.mpr c65
     by_cases c81 : t207 = 4
     ·
      rw [if_pos c81] at H
      have c81b0 := beq_iff_eq.mpr c81
      have c81b1 := bne_eq_false_iff_eq.mpr c81
      clear c81
      replace H := Option.bind_eq_some_iff.mp H
      obtain ⟨⟨t234, t235, t236⟩, A820, H⟩ := H
      try dsimp only at H
      have A82 := o_ A820
      clear A820
      simp only [Option.some.injEq, Prod.mk.injEq] at H
      obtain ⟨rfl, rfl, rfl, rfl, rfl, rfl, rfl, rfl, rfl, rfl⟩ := H
      go_enter Tryd.func54, Tryd.ntmps54
      go_wp2_with (first | ((with_reducible refine gate_dst (N := 2) rfl ?_); refine bx_ 2 #[.int .i64 0, .int .i64 0, .slice none 0 0, .int .i64 0, .int .i64 0, .slice none 0 0, .int .i64 0, .int .i64 0] 28 ?_; intro gb188 hg w83 hbox hb; replace HB := o_ (below_step wB_ hb); have BK188 := o_ (hbox); have GW188 := o_ ((y68_ : w.heap.size ≤ gb188)); have GE188 := o_ ((Nat.le_trans HW0.1 (y68_ : w.heap.size ≤ gb188) : w0.heap.size ≤ gb188)); replace HK := o_ (KeepBut.trans wK_ (KeepBut.of_below hb g none) (.inl rfl)); have NB0_188 := o_ ((y58_ : g ≠ gb188)); have NB188_0 := o_ ((y59_ : gb188 ≠ g)); replace HI0 := o_ (IsS103.below wI_ hb); clear hb hbox hg) | (refine gl_ (some 6) Tryd.func58 #[.pointer (some ⟨g, 0, none⟩), .int .i64 9] ?_; (with_reducible refine (spec_l1Below.calls g s0_0 s0_1 s0_2 9 t189 t190 t191 w0 _ ?side1 ?side2 A2.1).mono ?_); (case side1 => exact wI_); (case side2 => exact wB_); rintro e w84 ⟨rfl, hi, hb, hk⟩; refine ⟨_, rfl, ?_⟩; replace BK188 := o_ (KeepBut.blk hk (g' := gb188) (o := c45_ 0 0 none 0 0 0 0 none 0 0 0 0) (bd_ BK188.1) NB188_0.1 (by simp)); replace HK := o_ (KeepBut.trans wK_ hk (.inl rfl)); replace HB := o_ (hb); replace HI0 := o_ (hi); (try clear hb hk hi)) | (refine gl_ (some 8) Tryd.func80 #[.pointer (some ⟨g, 0, none⟩), .int .i64 (wrap64 (1 + t189))] ?_; (with_reducible refine (spec_l7Draw.calls k g s0_0 t190 t191 (wrap64 (1 + t189)) t192 t193 t194 t197 t198 t199 t202 t203 t204 t205 w0 _ ?side1 ?side2 A3.1).mono ?_); (case side1 => exact wI_); (case side2 => exact wB_); rintro e w85 ⟨v195, v200, rfl, ho0, ho1, hi, hb, hk⟩; refine ⟨_, rfl, ?_⟩; replace BK188 := o_ (KeepBut.blk hk (g' := gb188) (o := c45_ 0 0 none 0 0 0 0 none 0 0 0 0) (bd_ BK188.1) NB188_0.1 (by simp)); have HO196 := o_ (Kd.R_lower ho0 (keep_size (w := w) (g := g) (row := none) wK_)); have HO201 := o_ (Kd.R_lower ho1 (keep_size (w := w) (g := g) (row := none) wK_)); replace HK := o_ (KeepBut.trans wK_ hk (.inl rfl)); replace HB := o_ (hb); replace HI0 := o_ (hi); (try clear hb hk hi ho0 ho1)) | ((with_reducible refine gate_dst (N := 3) rfl ?_); refine bx_ 3 #[.int .i64 0, .int .i64 0, .slice none 0 0, .int .i64 0, .int .i64 0, .slice none 0 0, .int .i64 0, .int .i64 0] 28 ?_; intro gb206 hg w86 hbox hb; replace HO196 := o_ (Kd.R_below (rd_ HO196.1) hb); replace HO201 := o_ (Kd.R_below (rd_ HO201.1) hb); replace HB := o_ (below_step wB_ hb); have BK206 := o_ (hbox); have GW206 := o_ ((y68_ : w.heap.size ≤ gb206)); have GE206 := o_ ((Nat.le_trans HW0.1 (y68_ : w.heap.size ≤ gb206) : w0.heap.size ≤ gb206)); replace HK := o_ (KeepBut.trans wK_ (KeepBut.of_below hb g none) (.inl rfl)); have NB188_206 := o_ ((y70_ : gb188 ≠ gb206)); have NB206_188 := o_ ((y71_ : gb206 ≠ gb188)); replace BK188 := o_ (blk_below (bd_ BK188.1) hb); have NB0_206 := o_ ((y56_ : g ≠ gb206)); have NB206_0 := o_ ((y57_ : gb206 ≠ g)); replace HI0 := o_ (IsS103.below wI_ hb); clear hb hbox hg; have hnb87 := NB206_188.1; have hnc87 := NB188_206.1; have hnb88 := NB206_0.1; have hnc88 := NB0_206.1; obtain ⟨hcz89_0, hcz89_1, hcz89_2, hcz89_3, hcz89_4, hcz89_5, hcz89_6, hcz89_7⟩ := e46_ BK206.1; obtain ⟨hfz89_0, hfz89_1, hfz89_2, hfz89_3, hfz89_4, hfz89_5, hfz89_6, hfz89_7⟩ := z47_ BK206.1; obtain ⟨Ao90, co90, eo90⟩ := Kd.R_slice HO196.1; subst eo90; obtain ⟨Ao91, co91, eo91⟩ := Kd.R_slice HO201.1; subst eo91) | (refine gl_ (some 10) Tryd.func58 #[.pointer (some ⟨g, 0, none⟩), .int .i64 14] ?_; (with_reducible refine (spec_l1Below.calls g s0_0 t204 t205 14 t207 t208 t209 w0 _ ?side1 ?side2 A4.1).mono ?_); (case side1 => exact wI_); (case side2 => exact wB_); rintro e w92 ⟨rfl, hi, hb, hk⟩; refine ⟨_, rfl, ?_⟩; replace BK188 := o_ (KeepBut.blk hk (g' := gb188) (o := c45_ 0 0 none 0 0 0 0 none 0 0 0 0) (bk_ BK188.1) NB188_0.1 (by simp)); replace HO196 := o_ (Kd.R_mono (Kd.R_keep (IsS103.apart (show IsS103 w0 _ g s0_0 t204 t205 from wI_) (by (with_reducible repeat (first | apply Kd.R_alloc | apply Kd.R_drewN | apply Kd.R_drew)); exact (Kd.R_mono (Kd.R_far (p := ⟨gb206, 7, none⟩) (Kd.R_far (p := ⟨gb206, 6, none⟩) (Kd.R_far (p := ⟨gb206, 5, none⟩) (Kd.R_far (p := ⟨gb206, 4, none⟩) (Kd.R_far (p := ⟨gb206, 3, none⟩) (Kd.R_far (p := ⟨gb206, 2, none⟩) (Kd.R_far (p := ⟨gb206, 1, none⟩) (Kd.R_far (p := ⟨gb206, 0, none⟩) (Kd.R_types HO196.1 BK206.1 (by decide)) (fun _ hk => hk.2) (.int .i64 t192)) (fun _ hk => hk.2) (.int .i64 t193)) (fun _ hk => hk.2) (.slice Ao90 t194.length co90)) (fun _ hk => hk.2) (.int .i64 t197)) (fun _ hk => hk.2) (.int .i64 t198)) (fun _ hk => hk.2) (.slice Ao91 t199.length co91)) (fun _ hk => hk.2) (.int .i64 t202)) (fun _ hk => hk.2) (.int .i64 t203)) (fun _ h_ => h_.1))) (by decide)) hk (fun _ h => h.2)) (fun _ h => h.1)); replace HO201 := o_ (Kd.R_mono (Kd.R_keep (IsS103.apart (show IsS103 w0 _ g s0_0 t204 t205 from wI_) (by (with_reducible repeat (first | apply Kd.R_alloc | apply Kd.R_drewN | apply Kd.R_drew)); exact (Kd.R_mono (Kd.R_far (p := ⟨gb206, 7, none⟩) (Kd.R_far (p := ⟨gb206, 6, none⟩) (Kd.R_far (p := ⟨gb206, 5, none⟩) (Kd.R_far (p := ⟨gb206, 4, none⟩) (Kd.R_far (p := ⟨gb206, 3, none⟩) (Kd.R_far (p := ⟨gb206, 2, none⟩) (Kd.R_far (p := ⟨gb206, 1, none⟩) (Kd.R_far (p := ⟨gb206, 0, none⟩) (Kd.R_types HO201.1 BK206.1 (by decide)) (fun _ hk => hk.2) (.int .i64 t192)) (fun _ hk => hk.2) (.int .i64 t193)) (fun _ hk => hk.2) (.slice Ao90 t194.length co90)) (fun _ hk => hk.2) (.int .i64 t197)) (fun _ hk => hk.2) (.int .i64 t198)) (fun _ hk => hk.2) (.slice Ao91 t199.length co91)) (fun _ hk => hk.2) (.int .i64 t202)) (fun _ hk => hk.2) (.int .i64 t203)) (fun _ h_ => h_.1))) (by decide)) hk (fun _ h => h.2)) (fun _ h => h.1)); replace BK206 := o_ (KeepBut.blk hk (g' := gb206) (o := .cells #[.int .i64 t192, .int .i64 t193, .slice Ao90 t194.length co90, .int .i64 t197, .int .i64 t198, .slice Ao91 t199.length co91, .int .i64 t202, .int .i64 t203] 28 (0, 0)) (bk_ BK206.1) NB206_0.1 (by simp)); replace HK := o_ (KeepBut.trans wK_ hk (.inl rfl)); replace HB := o_ (hb); replace HI0 := o_ (hi); (try clear hb hk hi)) | (refine gl_ (some 38) Tryd.func82 #[.pointer (some ⟨g, 0, none⟩)] ?_; (with_reducible refine (spec_l4Raw.calls g s0_0 t208 t209 t234 t235 t236 w0 _ ?side1 ?side2 A82.1).mono ?_); (case side1 => exact wI_); (case side2 => exact wB_); rintro e w93 ⟨rfl, hi, hb, hk⟩; refine ⟨_, rfl, ?_⟩; replace BK188 := o_ (KeepBut.blk hk (g' := gb188) (o := c45_ 0 0 none 0 0 0 0 none 0 0 0 0) (bd_ BK188.1) NB188_0.1 (by simp)); replace HO196 := o_ (Kd.R_mono (Kd.R_keep (IsS103.apart (show IsS103 w0 _ g s0_0 t208 t209 from wI_) (rd_ HO196.1) (by decide)) hk (fun _ h => h.2)) (fun _ h => h.1)); replace HO201 := o_ (Kd.R_mono (Kd.R_keep (IsS103.apart (show IsS103 w0 _ g s0_0 t208 t209 from wI_) (rd_ HO201.1) (by decide)) hk (fun _ h => h.2)) (fun _ h => h.1)); replace BK206 := o_ (KeepBut.blk hk (g' := gb206) (o := .cells #[.int .i64 t192, .int .i64 t193, .slice Ao90 t194.length co90, .int .i64 t197, .int .i64 t198, .slice Ao91 t199.length co91, .int .i64 t202, .int .i64 t203] 28 (0, 0)) (bd_ BK206.1) NB206_0.1 (by simp)); replace HK := o_ (KeepBut.trans wK_ hk (.inl rfl)); replace HB := o_ (hb); replace HI0 := o_ (hi); (try clear hb hk hi); obtain ⟨hcz94_0, hcz94_1, hcz94_2, hcz94_3, hcz94_4, hcz94_5, hcz94_6, hcz94_7⟩ := e46_ BK206.1; obtain ⟨hfz94_0, hfz94_1, hfz94_2, hfz94_3, hfz94_4, hfz94_5, hfz94_6, hfz94_7⟩ := z47_ BK206.1; have hnb95 := NB188_0.1; have hnc95 := NB0_188.1; obtain ⟨hcz96_0, hcz96_1, hcz96_2, hcz96_3, hcz96_4, hcz96_5, hcz96_6, hcz96_7⟩ := e46_ BK188.1; obtain ⟨hfz96_0, hfz96_1, hfz96_2, hfz96_3, hfz96_4, hfz96_5, hfz96_6, hfz96_7⟩ := z47_ BK188.1))
      refine bodyPost_ret (results_cell_row rfl _ _ gb188 28 #[.int .i64 t192, .int .i64 t193, .slice Ao90 t194.length co90, .int .i64 t197, .int .i64 t234, .slice Ao91 t199.length co91, .int .i64 t202, .int .i64 t203] (0, 0) _ rfl (bk_ BK188.1) Tryd.underlying28 rfl (by kernel_rfl)) rfl ?_
      exact ⟨_, _, by first | rfl | (simp [errW_none, errW_some] <;> rfl) | (simp [*, errW_none, errW_some] <;> rfl), rf_ (R2_ (R2_ HO196.1 BK206.1) BK188.1) (fun _ hk => hk.1.1), rf_ (R2_ (R2_ HO201.1 BK206.1) BK188.1) (fun _ hk => hk.1.1), wI_, wB_, wK_⟩
     ·
      rw [if_neg c81] at H
      have c81b0 := beq_eq_false_iff_ne.mpr c81
      have c81b1 := bne_iff_ne.mpr c81
      by_cases c97 : t207 = 5
      ·
       rw [if_pos c97] at H
       have c97b0 := beq_iff_eq.mpr c97
       have c97b1 := bne_eq_false_iff_eq.mpr c97
       clear c97
       obtain ⟨y237, hy237⟩ : ∃ y_ : List Int, y_ = (([0, 30, 31] : List Int)) := ⟨_, rfl⟩
       replace H : ((spec_l1Int.f s0_0 t208 t209 y237).bind fun bt240 => (some (t192, t193, t194, t197, t198, (([bt240.1] : List Int)), t202, t203, bt240.2.1, bt240.2.2))) = some (r1, r2, r3, r4, r5, r6, r7, r8, r9, r10) := by first | (rw [hy237]; with_reducible exact H) | (have H2_ := (Option.bind_some _ _).symm.trans H; rw [hy237]; with_reducible exact H2_) | (have H2_ := (Option.bind_some _ _).symm.trans H; with_reducible exact H2_) | with_reducible exact H | (rw [hy237]; exact H) | exact H
       have Ny237 := o_ hy237
       clear hy237
       replace H := Option.bind_eq_some_iff.mp H
       obtain ⟨⟨t240, t241, t242⟩, A980, H⟩ := H
       try dsimp only at H
       have A98 := o_ A980
       clear A980
       obtain ⟨y243, hy243⟩ : ∃ y_ : List Int, y_ = (([t240] : List Int)) := ⟨_, rfl⟩
       replace H : (some (t192, t193, t194, t197, t198, y243, t202, t203, t241, t242)) = some (r1, r2, r3, r4, r5, r6, r7, r8, r9, r10) := by first | (rw [hy243]; with_reducible exact H) | (have H2_ := (Option.bind_some _ _).symm.trans H; rw [hy243]; with_reducible exact H2_) | (have H2_ := (Option.bind_some _ _).symm.trans H; with_reducible exact H2_) | with_reducible exact H | (rw [hy243]; exact H) | exact H
       have Ny243 := o_ hy243
       clear hy243
       simp only [Option.some.injEq, Prod.mk.injEq] at H
       obtain ⟨rfl, rfl, rfl, rfl, rfl, rfl, rfl, rfl, rfl, rfl⟩ := H
       go_enter Tryd.func54, Tryd.ntmps54
       go_wp2_with (first | ((with_reducible refine gate_dst (N := 2) rfl ?_); refine bx_ 2 #[.int .i64 0, .int .i64 0, .slice none 0 0, .int .i64 0, .int .i64 0, .slice none 0 0, .int .i64 0, .int .i64 0] 28 ?_; intro gb188 hg w99 hbox hb; replace HB := o_ (below_step wB_ hb); have BK188 := o_ (hbox); have GW188 := o_ ((y68_ : w.heap.size ≤ gb188)); have GE188 := o_ ((Nat.le_trans HW0.1 (y68_ : w.heap.size ≤ gb188) : w0.heap.size ≤ gb188)); replace HK := o_ (KeepBut.trans wK_ (KeepBut.of_below hb g none) (.inl rfl)); have NB0_188 := o_ ((y58_ : g ≠ gb188)); have NB188_0 := o_ ((y59_ : gb188 ≠ g)); replace HI0 := o_ (IsS103.below wI_ hb); clear hb hbox hg) | (refine gl_ (some 6) Tryd.func58 #[.pointer (some ⟨g, 0, none⟩), .int .i64 9] ?_; (with_reducible refine (spec_l1Below.calls g s0_0 s0_1 s0_2 9 t189 t190 t191 w0 _ ?side1 ?side2 A2.1).mono ?_); (case side1 => exact wI_); (case side2 => exact wB_); rintro e w100 ⟨rfl, hi, hb, hk⟩; refine ⟨_, rfl, ?_⟩; replace BK188 := o_ (KeepBut.blk hk (g' := gb188) (o := c45_ 0 0 none 0 0 0 0 none 0 0 0 0) (bd_ BK188.1) NB188_0.1 (by simp)); replace HK := o_ (KeepBut.trans wK_ hk (.inl rfl)); replace HB := o_ (hb); replace HI0 := o_ (hi); (try clear hb hk hi)) | (refine gl_ (some 8) Tryd.func80 #[.pointer (some ⟨g, 0, none⟩), .int .i64 (wrap64 (1 + t189))] ?_; (with_reducible refine (spec_l7Draw.calls k g s0_0 t190 t191 (wrap64 (1 + t189)) t192 t193 t194 t197 t198 t199 t202 t203 t204 t205 w0 _ ?side1 ?side2 A3.1).mono ?_); (case side1 => exact wI_); (case side2 => exact wB_); rintro e w101 ⟨v195, v200, rfl, ho0, ho1, hi, hb, hk⟩; refine ⟨_, rfl, ?_⟩; replace BK188 := o_ (KeepBut.blk hk (g' := gb188) (o := c45_ 0 0 none 0 0 0 0 none 0 0 0 0) (bd_ BK188.1) NB188_0.1 (by simp)); have HO196 := o_ (Kd.R_lower ho0 (keep_size (w := w) (g := g) (row := none) wK_)); have HO201 := o_ (Kd.R_lower ho1 (keep_size (w := w) (g := g) (row := none) wK_)); replace HK := o_ (KeepBut.trans wK_ hk (.inl rfl)); replace HB := o_ (hb); replace HI0 := o_ (hi); (try clear hb hk hi ho0 ho1)) | ((with_reducible refine gate_dst (N := 3) rfl ?_); refine bx_ 3 #[.int .i64 0, .int .i64 0, .slice none 0 0, .int .i64 0, .int .i64 0, .slice none 0 0, .int .i64 0, .int .i64 0] 28 ?_; intro gb206 hg w102 hbox hb; replace HO196 := o_ (Kd.R_below (rd_ HO196.1) hb); replace HO201 := o_ (Kd.R_below (rd_ HO201.1) hb); replace HB := o_ (below_step wB_ hb); have BK206 := o_ (hbox); have GW206 := o_ ((y68_ : w.heap.size ≤ gb206)); have GE206 := o_ ((Nat.le_trans HW0.1 (y68_ : w.heap.size ≤ gb206) : w0.heap.size ≤ gb206)); replace HK := o_ (KeepBut.trans wK_ (KeepBut.of_below hb g none) (.inl rfl)); have NB188_206 := o_ ((y70_ : gb188 ≠ gb206)); have NB206_188 := o_ ((y71_ : gb206 ≠ gb188)); replace BK188 := o_ (blk_below (bd_ BK188.1) hb); have NB0_206 := o_ ((y56_ : g ≠ gb206)); have NB206_0 := o_ ((y57_ : gb206 ≠ g)); replace HI0 := o_ (IsS103.below wI_ hb); clear hb hbox hg; have hnb103 := NB206_188.1; have hnc103 := NB188_206.1; have hnb104 := NB206_0.1; have hnc104 := NB0_206.1; obtain ⟨hcz105_0, hcz105_1, hcz105_2, hcz105_3, hcz105_4, hcz105_5, hcz105_6, hcz105_7⟩ := e46_ BK206.1; obtain ⟨hfz105_0, hfz105_1, hfz105_2, hfz105_3, hfz105_4, hfz105_5, hfz105_6, hfz105_7⟩ := z47_ BK206.1; obtain ⟨Ao106, co106, eo106⟩ := Kd.R_slice HO196.1; subst eo106; obtain ⟨Ao107, co107, eo107⟩ := Kd.R_slice HO201.1; subst eo107) | (refine gl_ (some 10) Tryd.func58 #[.pointer (some ⟨g, 0, none⟩), .int .i64 14] ?_; (with_reducible refine (spec_l1Below.calls g s0_0 t204 t205 14 t207 t208 t209 w0 _ ?side1 ?side2 A4.1).mono ?_); (case side1 => exact wI_); (case side2 => exact wB_); rintro e w108 ⟨rfl, hi, hb, hk⟩; refine ⟨_, rfl, ?_⟩; replace BK188 := o_ (KeepBut.blk hk (g' := gb188) (o := c45_ 0 0 none 0 0 0 0 none 0 0 0 0) (bk_ BK188.1) NB188_0.1 (by simp)); replace HO196 := o_ (Kd.R_mono (Kd.R_keep (IsS103.apart (show IsS103 w0 _ g s0_0 t204 t205 from wI_) (by (with_reducible repeat (first | apply Kd.R_alloc | apply Kd.R_drewN | apply Kd.R_drew)); exact (Kd.R_mono (Kd.R_far (p := ⟨gb206, 7, none⟩) (Kd.R_far (p := ⟨gb206, 6, none⟩) (Kd.R_far (p := ⟨gb206, 5, none⟩) (Kd.R_far (p := ⟨gb206, 4, none⟩) (Kd.R_far (p := ⟨gb206, 3, none⟩) (Kd.R_far (p := ⟨gb206, 2, none⟩) (Kd.R_far (p := ⟨gb206, 1, none⟩) (Kd.R_far (p := ⟨gb206, 0, none⟩) (Kd.R_types HO196.1 BK206.1 (by decide)) (fun _ hk => hk.2) (.int .i64 t192)) (fun _ hk => hk.2) (.int .i64 t193)) (fun _ hk => hk.2) (.slice Ao106 t194.length co106)) (fun _ hk => hk.2) (.int .i64 t197)) (fun _ hk => hk.2) (.int .i64 t198)) (fun _ hk => hk.2) (.slice Ao107 t199.length co107)) (fun _ hk => hk.2) (.int .i64 t202)) (fun _ hk => hk.2) (.int .i64 t203)) (fun _ h_ => h_.1))) (by decide)) hk (fun _ h => h.2)) (fun _ h => h.1)); replace HO201 := o_ (Kd.R_mono (Kd.R_keep (IsS103.apart (show IsS103 w0 _ g s0_0 t204 t205 from wI_) (by (with_reducible repeat (first | apply Kd.R_alloc | apply Kd.R_drewN | apply Kd.R_drew)); exact (Kd.R_mono (Kd.R_far (p := ⟨gb206, 7, none⟩) (Kd.R_far (p := ⟨gb206, 6, none⟩) (Kd.R_far (p := ⟨gb206, 5, none⟩) (Kd.R_far (p := ⟨gb206, 4, none⟩) (Kd.R_far (p := ⟨gb206, 3, none⟩) (Kd.R_far (p := ⟨gb206, 2, none⟩) (Kd.R_far (p := ⟨gb206, 1, none⟩) (Kd.R_far (p := ⟨gb206, 0, none⟩) (Kd.R_types HO201.1 BK206.1 (by decide)) (fun _ hk => hk.2) (.int .i64 t192)) (fun _ hk => hk.2) (.int .i64 t193)) (fun _ hk => hk.2) (.slice Ao106 t194.length co106)) (fun _ hk => hk.2) (.int .i64 t197)) (fun _ hk => hk.2) (.int .i64 t198)) (fun _ hk => hk.2) (.slice Ao107 t199.length co107)) (fun _ hk => hk.2) (.int .i64 t202)) (fun _ hk => hk.2) (.int .i64 t203)) (fun _ h_ => h_.1))) (by decide)) hk (fun _ h => h.2)) (fun _ h => h.1)); replace BK206 := o_ (KeepBut.blk hk (g' := gb206) (o := .cells #[.int .i64 t192, .int .i64 t193, .slice Ao106 t194.length co106, .int .i64 t197, .int .i64 t198, .slice Ao107 t199.length co107, .int .i64 t202, .int .i64 t203] 28 (0, 0)) (bk_ BK206.1) NB206_0.1 (by simp)); replace HK := o_ (KeepBut.trans wK_ hk (.inl rfl)); replace HB := o_ (hb); replace HI0 := o_ (hi); (try clear hb hk hi)) | ((with_reducible refine gate_dst (N := 43) rfl ?_); refine Kd.R_lit (Kd.int .i64) _ 3 ?hg (N := 43) ?hd (xs := ([0, 30, 31] : List Int)) (inner := [.int .i64 0, .int .i64 30, .int .i64 31]) (ok := fun _ => True) (okp := fun _ => True) ?hr ?hp (fun _ hk => hk) trivial (Below.refl _ _) (Nat.le_refl _) (by simp) ?_; (case hd => rfl); (case hg => rfl); (case hr => first | (go_simp; done) | (go_simp; rfl)); (case hp => exact (Reps.one (show Kd.M (Kd.int .i64) _ _ _ 0 [.int .i64 0] from rfl) (Reps.one (show Kd.M (Kd.int .i64) _ _ _ 30 [.int .i64 30] from rfl) (Reps.one (show Kd.M (Kd.int .i64) _ _ _ 31 [.int .i64 31] from rfl) (Reps.none _ _))))); intro v238 w109 ho110 hb hg_ hnew_; clear hg_ hnew_; (first | rw [← Ny237.1] at ho110 | (simp only [Int.reduceToNat] at ho110; rw [← Ny237.1] at ho110)); have HO239 := o_ (Kd.R_lower (Kd.R_new' (Kd.R_new' ho110 (Kd.R_lt (rd_ HO196.1))) (Kd.R_lt (rd_ HO201.1))) (keep_size (w := w) (g := g) (row := none) wK_)); replace HO196 := o_ (Kd.R_elder' (rd_ HO196.1) (Kd.R_base ho110) hb); replace HO201 := o_ (Kd.R_elder' (rd_ HO201.1) (Kd.R_base ho110) hb); replace BK188 := o_ (blk_below (bd_ BK188.1) hb); replace BK206 := o_ (blk_below (bd_ BK206.1) hb); replace HK := o_ (KeepBut.trans wK_ (KeepBut.of_below hb g none) (.inl rfl)); replace HB := o_ (below_step (wB_) hb); replace HI0 := o_ (IsS103.below (wI_) hb); clear hb ho110; obtain ⟨Ao111, co111, eo111⟩ := Kd.R_slice HO239.1; subst eo111) | (refine gl_ (some 44) Tryd.func81 #[.pointer (some ⟨g, 0, none⟩), .slice Ao111 y237.length co111] ?_; (with_reducible refine (spec_l1Int.calls g s0_0 t208 t209 _ _ y237 t240 t241 t242 w0 _ ?side1 ?side2 ?side3 ?side4 ?side5 A98.1).mono ?_); (case side1 => exact wI_); (case side2 => exact wB_); (case side3 => exact cd_ (Kd.R_reads' HO239.1).2.2); (case side4 => exact (Kd.R_reads' HO239.1).2.1); (case side5 => exact far_slice (IsS103.own_ne HI0.1 HO239.1 (by decide))); rintro e w112 ⟨rfl, hi, hb, hk⟩; refine ⟨_, rfl, ?_⟩; replace BK188 := o_ (KeepBut.blk hk (g' := gb188) (o := c45_ 0 0 none 0 0 0 0 none 0 0 0 0) (bd_ BK188.1) NB188_0.1 (by simp)); replace HO196 := o_ (Kd.R_mono (Kd.R_keep (IsS103.apart (show IsS103 w0 _ g s0_0 t208 t209 from wI_) (rd_ HO196.1) (by decide)) hk (fun _ h => h.2)) (fun _ h => h.1)); replace HO201 := o_ (Kd.R_mono (Kd.R_keep (IsS103.apart (show IsS103 w0 _ g s0_0 t208 t209 from wI_) (rd_ HO201.1) (by decide)) hk (fun _ h => h.2)) (fun _ h => h.1)); replace BK206 := o_ (KeepBut.blk hk (g' := gb206) (o := .cells #[.int .i64 t192, .int .i64 t193, .slice Ao106 t194.length co106, .int .i64 t197, .int .i64 t198, .slice Ao107 t199.length co107, .int .i64 t202, .int .i64 t203] 28 (0, 0)) (bd_ BK206.1) NB206_0.1 (by simp)); replace HO239 := o_ (Kd.R_mono (Kd.R_keep (IsS103.apart (show IsS103 w0 _ g s0_0 t208 t209 from wI_) (rd_ HO239.1) (by decide)) hk (fun _ h => h.2)) (fun _ h => h.1)); replace HK := o_ (KeepBut.trans wK_ hk (.inl rfl)); replace HB := o_ (hb); replace HI0 := o_ (hi); (try clear hb hk hi)) | ((with_reducible refine gate_dst (N := 45) rfl ?_); refine Kd.R_lit (Kd.int .i64) _ 3 ?hg (N := 45) ?hd (xs := ([t240] : List Int)) (inner := [.int .i64 t240]) (ok := fun _ => True) (okp := fun _ => True) ?hr ?hp (fun _ hk => hk) trivial (Below.refl _ _) (Nat.le_refl _) (by simp) ?_; (case hd => rfl); (case hg => rfl); (case hr => first | (go_simp; done) | (go_simp; rfl)); (case hp => exact (Reps.one (show Kd.M (Kd.int .i64) _ _ _ t240 [.int .i64 t240] from rfl) (Reps.none _ _))); intro v244 w113 ho114 hb hg_ hnew_; clear hg_ hnew_; (first | rw [← Ny243.1] at ho114 | (simp only [Int.reduceToNat] at ho114; rw [← Ny243.1] at ho114)); have HO245 := o_ (Kd.R_lower (Kd.R_new' (Kd.R_new' (Kd.R_new' ho114 (Kd.R_lt (rd_ HO196.1))) (Kd.R_lt (rd_ HO201.1))) (Kd.R_lt (rd_ HO239.1))) (keep_size (w := w) (g := g) (row := none) wK_)); replace HO196 := o_ (Kd.R_elder' (rd_ HO196.1) (Kd.R_base ho114) hb); replace HO201 := o_ (Kd.R_elder' (rd_ HO201.1) (Kd.R_base ho114) hb); replace HO239 := o_ (Kd.R_elder' (rd_ HO239.1) (Kd.R_base ho114) hb); replace BK188 := o_ (blk_below (bd_ BK188.1) hb); replace BK206 := o_ (blk_below (bd_ BK206.1) hb); replace HK := o_ (KeepBut.trans wK_ (KeepBut.of_below hb g none) (.inl rfl)); replace HB := o_ (below_step (wB_) hb); replace HI0 := o_ (IsS103.below (wI_) hb); clear hb ho114; obtain ⟨Ao115, co115, eo115⟩ := Kd.R_slice HO245.1; subst eo115; obtain ⟨hcz116_0, hcz116_1, hcz116_2, hcz116_3, hcz116_4, hcz116_5, hcz116_6, hcz116_7⟩ := e46_ BK206.1; obtain ⟨hfz116_0, hfz116_1, hfz116_2, hfz116_3, hfz116_4, hfz116_5, hfz116_6, hfz116_7⟩ := z47_ BK206.1; have hnb117 := NB188_0.1; have hnc117 := NB0_188.1; obtain ⟨hcz118_0, hcz118_1, hcz118_2, hcz118_3, hcz118_4, hcz118_5, hcz118_6, hcz118_7⟩ := e46_ BK188.1; obtain ⟨hfz118_0, hfz118_1, hfz118_2, hfz118_3, hfz118_4, hfz118_5, hfz118_6, hfz118_7⟩ := z47_ BK188.1))
       refine bodyPost_ret (results_cell_row rfl _ _ gb188 28 #[.int .i64 t192, .int .i64 t193, .slice Ao106 t194.length co106, .int .i64 t197, .int .i64 t198, .slice Ao115 y243.length co115, .int .i64 t202, .int .i64 t203] (0, 0) _ rfl (bk_ BK188.1) Tryd.underlying28 rfl (by kernel_rfl)) rfl ?_
       exact ⟨_, _, by first | rfl | (simp [errW_none, errW_some] <;> rfl) | (simp [*, errW_none, errW_some] <;> rfl), rf_ (R2_ (R2_ HO196.1 BK206.1) BK188.1) (fun _ hk => hk.1.1.2), rf_ (R2_ (R2_ HO245.1 BK206.1) BK188.1) (fun _ hk => hk.1.1.1.1.2), wI_, wB_, wK_⟩
      ·
       rw [if_neg c97] at H
       have c97b0 := beq_eq_false_iff_ne.mpr c97
       have c97b1 := bne_iff_ne.mpr c97
       by_cases c119 : t207 = 6
       ·
        rw [if_pos c119] at H
        have c119b0 := beq_iff_eq.mpr c119
        have c119b1 := bne_eq_false_iff_eq.mpr c119
        clear c119
        replace H := Option.bind_eq_some_iff.mp H
        obtain ⟨⟨t246, t247, t248, t249⟩, A1200, H⟩ := H
        try dsimp only at H
        have A120 := o_ A1200
        clear A1200
        simp only [Option.some.injEq, Prod.mk.injEq] at H
        obtain ⟨rfl, rfl, rfl, rfl, rfl, rfl, rfl, rfl, rfl, rfl⟩ := H
        go_enter Tryd.func54, Tryd.ntmps54
        go_wp2_with (first | ((with_reducible refine gate_dst (N := 2) rfl ?_); refine bx_ 2 #[.int .i64 0, .int .i64 0, .slice none 0 0, .int .i64 0, .int .i64 0, .slice none 0 0, .int .i64 0, .int .i64 0] 28 ?_; intro gb188 hg w121 hbox hb; replace HB := o_ (below_step wB_ hb); have BK188 := o_ (hbox); have GW188 := o_ ((y68_ : w.heap.size ≤ gb188)); have GE188 := o_ ((Nat.le_trans HW0.1 (y68_ : w.heap.size ≤ gb188) : w0.heap.size ≤ gb188)); replace HK := o_ (KeepBut.trans wK_ (KeepBut.of_below hb g none) (.inl rfl)); have NB0_188 := o_ ((y58_ : g ≠ gb188)); have NB188_0 := o_ ((y59_ : gb188 ≠ g)); replace HI0 := o_ (IsS103.below wI_ hb); clear hb hbox hg) | (refine gl_ (some 6) Tryd.func58 #[.pointer (some ⟨g, 0, none⟩), .int .i64 9] ?_; (with_reducible refine (spec_l1Below.calls g s0_0 s0_1 s0_2 9 t189 t190 t191 w0 _ ?side1 ?side2 A2.1).mono ?_); (case side1 => exact wI_); (case side2 => exact wB_); rintro e w122 ⟨rfl, hi, hb, hk⟩; refine ⟨_, rfl, ?_⟩; replace BK188 := o_ (KeepBut.blk hk (g' := gb188) (o := c45_ 0 0 none 0 0 0 0 none 0 0 0 0) (bd_ BK188.1) NB188_0.1 (by simp)); replace HK := o_ (KeepBut.trans wK_ hk (.inl rfl)); replace HB := o_ (hb); replace HI0 := o_ (hi); (try clear hb hk hi)) | (refine gl_ (some 8) Tryd.func80 #[.pointer (some ⟨g, 0, none⟩), .int .i64 (wrap64 (1 + t189))] ?_; (with_reducible refine (spec_l7Draw.calls k g s0_0 t190 t191 (wrap64 (1 + t189)) t192 t193 t194 t197 t198 t199 t202 t203 t204 t205 w0 _ ?side1 ?side2 A3.1).mono ?_); (case side1 => exact wI_); (case side2 => exact wB_); rintro e w123 ⟨v195, v200, rfl, ho0, ho1, hi, hb, hk⟩; refine ⟨_, rfl, ?_⟩; replace BK188 := o_ (KeepBut.blk hk (g' := gb188) (o := c45_ 0 0 none 0 0 0 0 none 0 0 0 0) (bd_ BK188.1) NB188_0.1 (by simp)); have HO196 := o_ (Kd.R_lower ho0 (keep_size (w := w) (g := g) (row := none) wK_)); have HO201 := o_ (Kd.R_lower ho1 (keep_size (w := w) (g := g) (row := none) wK_)); replace HK := o_ (KeepBut.trans wK_ hk (.inl rfl)); replace HB := o_ (hb); replace HI0 := o_ (hi); (try clear hb hk hi ho0 ho1)) | ((with_reducible refine gate_dst (N := 3) rfl ?_); refine bx_ 3 #[.int .i64 0, .int .i64 0, .slice none 0 0, .int .i64 0, .int .i64 0, .slice none 0 0, .int .i64 0, .int .i64 0] 28 ?_; intro gb206 hg w124 hbox hb; replace HO196 := o_ (Kd.R_below (rd_ HO196.1) hb); replace HO201 := o_ (Kd.R_below (rd_ HO201.1) hb); replace HB := o_ (below_step wB_ hb); have BK206 := o_ (hbox); have GW206 := o_ ((y68_ : w.heap.size ≤ gb206)); have GE206 := o_ ((Nat.le_trans HW0.1 (y68_ : w.heap.size ≤ gb206) : w0.heap.size ≤ gb206)); replace HK := o_ (KeepBut.trans wK_ (KeepBut.of_below hb g none) (.inl rfl)); have NB188_206 := o_ ((y70_ : gb188 ≠ gb206)); have NB206_188 := o_ ((y71_ : gb206 ≠ gb188)); replace BK188 := o_ (blk_below (bd_ BK188.1) hb); have NB0_206 := o_ ((y56_ : g ≠ gb206)); have NB206_0 := o_ ((y57_ : gb206 ≠ g)); replace HI0 := o_ (IsS103.below wI_ hb); clear hb hbox hg; have hnb125 := NB206_188.1; have hnc125 := NB188_206.1; have hnb126 := NB206_0.1; have hnc126 := NB0_206.1; obtain ⟨hcz127_0, hcz127_1, hcz127_2, hcz127_3, hcz127_4, hcz127_5, hcz127_6, hcz127_7⟩ := e46_ BK206.1; obtain ⟨hfz127_0, hfz127_1, hfz127_2, hfz127_3, hfz127_4, hfz127_5, hfz127_6, hfz127_7⟩ := z47_ BK206.1; obtain ⟨Ao128, co128, eo128⟩ := Kd.R_slice HO196.1; subst eo128; obtain ⟨Ao129, co129, eo129⟩ := Kd.R_slice HO201.1; subst eo129) | (refine gl_ (some 10) Tryd.func58 #[.pointer (some ⟨g, 0, none⟩), .int .i64 14] ?_; (with_reducible refine (spec_l1Below.calls g s0_0 t204 t205 14 t207 t208 t209 w0 _ ?side1 ?side2 A4.1).mono ?_); (case side1 => exact wI_); (case side2 => exact wB_); rintro e w130 ⟨rfl, hi, hb, hk⟩; refine ⟨_, rfl, ?_⟩; replace BK188 := o_ (KeepBut.blk hk (g' := gb188) (o := c45_ 0 0 none 0 0 0 0 none 0 0 0 0) (bk_ BK188.1) NB188_0.1 (by simp)); replace HO196 := o_ (Kd.R_mono (Kd.R_keep (IsS103.apart (show IsS103 w0 _ g s0_0 t204 t205 from wI_) (by (with_reducible repeat (first | apply Kd.R_alloc | apply Kd.R_drewN | apply Kd.R_drew)); exact (Kd.R_mono (Kd.R_far (p := ⟨gb206, 7, none⟩) (Kd.R_far (p := ⟨gb206, 6, none⟩) (Kd.R_far (p := ⟨gb206, 5, none⟩) (Kd.R_far (p := ⟨gb206, 4, none⟩) (Kd.R_far (p := ⟨gb206, 3, none⟩) (Kd.R_far (p := ⟨gb206, 2, none⟩) (Kd.R_far (p := ⟨gb206, 1, none⟩) (Kd.R_far (p := ⟨gb206, 0, none⟩) (Kd.R_types HO196.1 BK206.1 (by decide)) (fun _ hk => hk.2) (.int .i64 t192)) (fun _ hk => hk.2) (.int .i64 t193)) (fun _ hk => hk.2) (.slice Ao128 t194.length co128)) (fun _ hk => hk.2) (.int .i64 t197)) (fun _ hk => hk.2) (.int .i64 t198)) (fun _ hk => hk.2) (.slice Ao129 t199.length co129)) (fun _ hk => hk.2) (.int .i64 t202)) (fun _ hk => hk.2) (.int .i64 t203)) (fun _ h_ => h_.1))) (by decide)) hk (fun _ h => h.2)) (fun _ h => h.1)); replace HO201 := o_ (Kd.R_mono (Kd.R_keep (IsS103.apart (show IsS103 w0 _ g s0_0 t204 t205 from wI_) (by (with_reducible repeat (first | apply Kd.R_alloc | apply Kd.R_drewN | apply Kd.R_drew)); exact (Kd.R_mono (Kd.R_far (p := ⟨gb206, 7, none⟩) (Kd.R_far (p := ⟨gb206, 6, none⟩) (Kd.R_far (p := ⟨gb206, 5, none⟩) (Kd.R_far (p := ⟨gb206, 4, none⟩) (Kd.R_far (p := ⟨gb206, 3, none⟩) (Kd.R_far (p := ⟨gb206, 2, none⟩) (Kd.R_far (p := ⟨gb206, 1, none⟩) (Kd.R_far (p := ⟨gb206, 0, none⟩) (Kd.R_types HO201.1 BK206.1 (by decide)) (fun _ hk => hk.2) (.int .i64 t192)) (fun _ hk => hk.2) (.int .i64 t193)) (fun _ hk => hk.2) (.slice Ao128 t194.length co128)) (fun _ hk => hk.2) (.int .i64 t197)) (fun _ hk => hk.2) (.int .i64 t198)) (fun _ hk => hk.2) (.slice Ao129 t199.length co129)) (fun _ hk => hk.2) (.int .i64 t202)) (fun _ hk => hk.2) (.int .i64 t203)) (fun _ h_ => h_.1))) (by decide)) hk (fun _ h => h.2)) (fun _ h => h.1)); replace BK206 := o_ (KeepBut.blk hk (g' := gb206) (o := .cells #[.int .i64 t192, .int .i64 t193, .slice Ao128 t194.length co128, .int .i64 t197, .int .i64 t198, .slice Ao129 t199.length co129, .int .i64 t202, .int .i64 t203] 28 (0, 0)) (bk_ BK206.1) NB206_0.1 (by simp)); replace HK := o_ (KeepBut.trans wK_ hk (.inl rfl)); replace HB := o_ (hb); replace HI0 := o_ (hi); (try clear hb hk hi)) | (refine gl_ (some 50) Tryd.func83 #[.pointer (some ⟨g, 0, none⟩)] ?_; (with_reducible refine (spec_l5Any.calls g s0_0 t208 t209 t246 t247 t248 t249 w0 _ ?side1 ?side2 A120.1).mono ?_); (case side1 => exact wI_); (case side2 => exact wB_); rintro e w131 ⟨rfl, hi, hb, hk⟩; refine ⟨_, rfl, ?_⟩; replace BK188 := o_ (KeepBut.blk hk (g' := gb188) (o := c45_ 0 0 none 0 0 0 0 none 0 0 0 0) (bd_ BK188.1) NB188_0.1 (by simp)); replace HO196 := o_ (Kd.R_mono (Kd.R_keep (IsS103.apart (show IsS103 w0 _ g s0_0 t208 t209 from wI_) (rd_ HO196.1) (by decide)) hk (fun _ h => h.2)) (fun _ h => h.1)); replace HO201 := o_ (Kd.R_mono (Kd.R_keep (IsS103.apart (show IsS103 w0 _ g s0_0 t208 t209 from wI_) (rd_ HO201.1) (by decide)) hk (fun _ h => h.2)) (fun _ h => h.1)); replace BK206 := o_ (KeepBut.blk hk (g' := gb206) (o := .cells #[.int .i64 t192, .int .i64 t193, .slice Ao128 t194.length co128, .int .i64 t197, .int .i64 t198, .slice Ao129 t199.length co129, .int .i64 t202, .int .i64 t203] 28 (0, 0)) (bd_ BK206.1) NB206_0.1 (by simp)); replace HK := o_ (KeepBut.trans wK_ hk (.inl rfl)); replace HB := o_ (hb); replace HI0 := o_ (hi); (try clear hb hk hi); obtain ⟨hcz132_0, hcz132_1, hcz132_2, hcz132_3, hcz132_4, hcz132_5, hcz132_6, hcz132_7⟩ := e46_ BK206.1; obtain ⟨hfz132_0, hfz132_1, hfz132_2, hfz132_3, hfz132_4, hfz132_5, hfz132_6, hfz132_7⟩ := z47_ BK206.1; have hnb133 := NB188_0.1; have hnc133 := NB0_188.1; obtain ⟨hcz134_0, hcz134_1, hcz134_2, hcz134_3, hcz134_4, hcz134_5, hcz134_6, hcz134_7⟩ := e46_ BK188.1; obtain ⟨hfz134_0, hfz134_1, hfz134_2, hfz134_3, hfz134_4, hfz134_5, hfz134_6, hfz134_7⟩ := z47_ BK188.1))
        refine bodyPost_ret (results_cell_row rfl _ _ gb188 28 #[.int .i64 t192, .int .i64 t193, .slice Ao128 t194.length co128, .int .i64 t197, .int .i64 t198, .slice Ao129 t199.length co129, .int .i64 t246, .int .i64 t247] (0, 0) _ rfl (bk_ BK188.1) Tryd.underlying28 rfl (by kernel_rfl)) rfl ?_
        exact ⟨_, _, by first | rfl | (simp [errW_none, errW_some] <;> rfl) | (simp [*, errW_none, errW_some] <;> rfl), rf_ (R2_ (R2_ HO196.1 BK206.1) BK188.1) (fun _ hk => hk.1.1), rf_ (R2_ (R2_ HO201.1 BK206.1) BK188.1) (fun _ hk => hk.1.1), wI_, wB_, wK_⟩
       ·
        rw [if_neg c119] at H
        have c119b0 := beq_eq_false_iff_ne.mpr c119
        have c119b1 := bne_iff_ne.mpr c119
        by_cases c135 : t207 = 7
        ·
         rw [if_pos c135] at H
         have c135b0 := beq_iff_eq.mpr c135
         have c135b1 := bne_eq_false_iff_eq.mpr c135
         clear c135
         simp only [Option.some.injEq, Prod.mk.injEq] at H
         obtain ⟨rfl, rfl, rfl, rfl, rfl, rfl, rfl, rfl, rfl, rfl⟩ := H
         go_enter Tryd.func54, Tryd.ntmps54
         go_wp2_with (first | ((with_reducible refine gate_dst (N := 2) rfl ?_); refine bx_ 2 #[.int .i64 0, .int .i64 0, .slice none 0 0, .int .i64 0, .int .i64 0, .slice none 0 0, .int .i64 0, .int .i64 0] 28 ?_; intro gb188 hg w136 hbox hb; replace HB := o_ (below_step wB_ hb); have BK188 := o_ (hbox); have GW188 := o_ ((y68_ : w.heap.size ≤ gb188)); have GE188 := o_ ((Nat.le_trans HW0.1 (y68_ : w.heap.size ≤ gb188) : w0.heap.size ≤ gb188)); replace HK := o_ (KeepBut.trans wK_ (KeepBut.of_below hb g none) (.inl rfl)); have NB0_188 := o_ ((y58_ : g ≠ gb188)); have NB188_0 := o_ ((y59_ : gb188 ≠ g)); replace HI0 := o_ (IsS103.below wI_ hb); clear hb hbox hg) | (refine gl_ (some 6) Tryd.func58 #[.pointer (some ⟨g, 0, none⟩), .int .i64 9] ?_; (with_reducible refine (spec_l1Below.calls g s0_0 s0_1 s0_2 9 t189 t190 t191 w0 _ ?side1 ?side2 A2.1).mono ?_); (case side1 => exact wI_); (case side2 => exact wB_); rintro e w137 ⟨rfl, hi, hb, hk⟩; refine ⟨_, rfl, ?_⟩; replace BK188 := o_ (KeepBut.blk hk (g' := gb188) (o := c45_ 0 0 none 0 0 0 0 none 0 0 0 0) (bd_ BK188.1) NB188_0.1 (by simp)); replace HK := o_ (KeepBut.trans wK_ hk (.inl rfl)); replace HB := o_ (hb); replace HI0 := o_ (hi); (try clear hb hk hi)) | (refine gl_ (some 8) Tryd.func80 #[.pointer (some ⟨g, 0, none⟩), .int .i64 (wrap64 (1 + t189))] ?_; (with_reducible refine (spec_l7Draw.calls k g s0_0 t190 t191 (wrap64 (1 + t189)) t192 t193 t194 t197 t198 t199 t202 t203 t204 t205 w0 _ ?side1 ?side2 A3.1).mono ?_); (case side1 => exact wI_); (case side2 => exact wB_); rintro e w138 ⟨v195, v200, rfl, ho0, ho1, hi, hb, hk⟩; refine ⟨_, rfl, ?_⟩; replace BK188 := o_ (KeepBut.blk hk (g' := gb188) (o := c45_ 0 0 none 0 0 0 0 none 0 0 0 0) (bd_ BK188.1) NB188_0.1 (by simp)); have HO196 := o_ (Kd.R_lower ho0 (keep_size (w := w) (g := g) (row := none) wK_)); have HO201 := o_ (Kd.R_lower ho1 (keep_size (w := w) (g := g) (row := none) wK_)); replace HK := o_ (KeepBut.trans wK_ hk (.inl rfl)); replace HB := o_ (hb); replace HI0 := o_ (hi); (try clear hb hk hi ho0 ho1)) | ((with_reducible refine gate_dst (N := 3) rfl ?_); refine bx_ 3 #[.int .i64 0, .int .i64 0, .slice none 0 0, .int .i64 0, .int .i64 0, .slice none 0 0, .int .i64 0, .int .i64 0] 28 ?_; intro gb206 hg w139 hbox hb; replace HO196 := o_ (Kd.R_below (rd_ HO196.1) hb); replace HO201 := o_ (Kd.R_below (rd_ HO201.1) hb); replace HB := o_ (below_step wB_ hb); have BK206 := o_ (hbox); have GW206 := o_ ((y68_ : w.heap.size ≤ gb206)); have GE206 := o_ ((Nat.le_trans HW0.1 (y68_ : w.heap.size ≤ gb206) : w0.heap.size ≤ gb206)); replace HK := o_ (KeepBut.trans wK_ (KeepBut.of_below hb g none) (.inl rfl)); have NB188_206 := o_ ((y70_ : gb188 ≠ gb206)); have NB206_188 := o_ ((y71_ : gb206 ≠ gb188)); replace BK188 := o_ (blk_below (bd_ BK188.1) hb); have NB0_206 := o_ ((y56_ : g ≠ gb206)); have NB206_0 := o_ ((y57_ : gb206 ≠ g)); replace HI0 := o_ (IsS103.below wI_ hb); clear hb hbox hg; have hnb140 := NB206_188.1; have hnc140 := NB188_206.1; have hnb141 := NB206_0.1; have hnc141 := NB0_206.1; obtain ⟨hcz142_0, hcz142_1, hcz142_2, hcz142_3, hcz142_4, hcz142_5, hcz142_6, hcz142_7⟩ := e46_ BK206.1; obtain ⟨hfz142_0, hfz142_1, hfz142_2, hfz142_3, hfz142_4, hfz142_5, hfz142_6, hfz142_7⟩ := z47_ BK206.1; obtain ⟨Ao143, co143, eo143⟩ := Kd.R_slice HO196.1; subst eo143; obtain ⟨Ao144, co144, eo144⟩ := Kd.R_slice HO201.1; subst eo144) | (refine gl_ (some 10) Tryd.func58 #[.pointer (some ⟨g, 0, none⟩), .int .i64 14] ?_; (with_reducible refine (spec_l1Below.calls g s0_0 t204 t205 14 t207 t208 t209 w0 _ ?side1 ?side2 A4.1).mono ?_); (case side1 => exact wI_); (case side2 => exact wB_); rintro e w145 ⟨rfl, hi, hb, hk⟩; refine ⟨_, rfl, ?_⟩; replace BK188 := o_ (KeepBut.blk hk (g' := gb188) (o := c45_ 0 0 none 0 0 0 0 none 0 0 0 0) (bk_ BK188.1) NB188_0.1 (by simp)); replace HO196 := o_ (Kd.R_mono (Kd.R_keep (IsS103.apart (show IsS103 w0 _ g s0_0 t204 t205 from wI_) (by (with_reducible repeat (first | apply Kd.R_alloc | apply Kd.R_drewN | apply Kd.R_drew)); exact (Kd.R_mono (Kd.R_far (p := ⟨gb206, 7, none⟩) (Kd.R_far (p := ⟨gb206, 6, none⟩) (Kd.R_far (p := ⟨gb206, 5, none⟩) (Kd.R_far (p := ⟨gb206, 4, none⟩) (Kd.R_far (p := ⟨gb206, 3, none⟩) (Kd.R_far (p := ⟨gb206, 2, none⟩) (Kd.R_far (p := ⟨gb206, 1, none⟩) (Kd.R_far (p := ⟨gb206, 0, none⟩) (Kd.R_types HO196.1 BK206.1 (by decide)) (fun _ hk => hk.2) (.int .i64 t192)) (fun _ hk => hk.2) (.int .i64 t193)) (fun _ hk => hk.2) (.slice Ao143 t194.length co143)) (fun _ hk => hk.2) (.int .i64 t197)) (fun _ hk => hk.2) (.int .i64 t198)) (fun _ hk => hk.2) (.slice Ao144 t199.length co144)) (fun _ hk => hk.2) (.int .i64 t202)) (fun _ hk => hk.2) (.int .i64 t203)) (fun _ h_ => h_.1))) (by decide)) hk (fun _ h => h.2)) (fun _ h => h.1)); replace HO201 := o_ (Kd.R_mono (Kd.R_keep (IsS103.apart (show IsS103 w0 _ g s0_0 t204 t205 from wI_) (by (with_reducible repeat (first | apply Kd.R_alloc | apply Kd.R_drewN | apply Kd.R_drew)); exact (Kd.R_mono (Kd.R_far (p := ⟨gb206, 7, none⟩) (Kd.R_far (p := ⟨gb206, 6, none⟩) (Kd.R_far (p := ⟨gb206, 5, none⟩) (Kd.R_far (p := ⟨gb206, 4, none⟩) (Kd.R_far (p := ⟨gb206, 3, none⟩) (Kd.R_far (p := ⟨gb206, 2, none⟩) (Kd.R_far (p := ⟨gb206, 1, none⟩) (Kd.R_far (p := ⟨gb206, 0, none⟩) (Kd.R_types HO201.1 BK206.1 (by decide)) (fun _ hk => hk.2) (.int .i64 t192)) (fun _ hk => hk.2) (.int .i64 t193)) (fun _ hk => hk.2) (.slice Ao143 t194.length co143)) (fun _ hk => hk.2) (.int .i64 t197)) (fun _ hk => hk.2) (.int .i64 t198)) (fun _ hk => hk.2) (.slice Ao144 t199.length co144)) (fun _ hk => hk.2) (.int .i64 t202)) (fun _ hk => hk.2) (.int .i64 t203)) (fun _ h_ => h_.1))) (by decide)) hk (fun _ h => h.2)) (fun _ h => h.1)); replace BK206 := o_ (KeepBut.blk hk (g' := gb206) (o := .cells #[.int .i64 t192, .int .i64 t193, .slice Ao143 t194.length co143, .int .i64 t197, .int .i64 t198, .slice Ao144 t199.length co144, .int .i64 t202, .int .i64 t203] 28 (0, 0)) (bk_ BK206.1) NB206_0.1 (by simp)); replace HK := o_ (KeepBut.trans wK_ hk (.inl rfl)); replace HB := o_ (hb); replace HI0 := o_ (hi); (try clear hb hk hi); obtain ⟨hcz146_0, hcz146_1, hcz146_2, hcz146_3, hcz146_4, hcz146_5, hcz146_6, hcz146_7⟩ := e46_ BK206.1; obtain ⟨hfz146_0, hfz146_1, hfz146_2, hfz146_3, hfz146_4, hfz146_5, hfz146_6, hfz146_7⟩ := z47_ BK206.1; have hnb147 := NB188_0.1; have hnc147 := NB0_188.1; obtain ⟨hcz148_0, hcz148_1, hcz148_2, hcz148_3, hcz148_4, hcz148_5, hcz148_6, hcz148_7⟩ := e46_ BK188.1; obtain ⟨hfz148_0, hfz148_1, hfz148_2, hfz148_3, hfz148_4, hfz148_5, hfz148_6, hfz148_7⟩ := z47_ BK188.1))
         refine bodyPost_ret (results_cell_row rfl _ _ gb188 28 #[.int .i64 t192, .int .i64 t193, .slice none 0 0, .int .i64 1, .int .i64 50, .slice none 0 0, .int .i64 t202, .int .i64 t203] (0, 0) _ rfl (bk_ BK188.1) Tryd.underlying28 rfl (by kernel_rfl)) rfl ?_
         exact ⟨_, _, by first | rfl | (simp [errW_none, errW_some] <;> rfl) | (simp [*, errW_none, errW_some] <;> rfl), by first | exact Kd.R_nil _ _ _ _ _ | exact Kd.N_nil _ _ _ _ _ | exact Kd.V_nil _ _ _ _ _ | exact Kd.Q_nil _ _ _ _ _ | exact Kd.S_nil _ _ _ _ _, by first | exact Kd.R_nil _ _ _ _ _ | exact Kd.N_nil _ _ _ _ _ | exact Kd.V_nil _ _ _ _ _ | exact Kd.Q_nil _ _ _ _ _ | exact Kd.S_nil _ _ _ _ _, wI_, wB_, wK_⟩
        ·
         rw [if_neg c135] at H
         have c135b0 := beq_eq_false_iff_ne.mpr c135
         have c135b1 := bne_iff_ne.mpr c135
         simp only [Option.some.injEq, Prod.mk.injEq] at H
         obtain ⟨rfl, rfl, rfl, rfl, rfl, rfl, rfl, rfl, rfl, rfl⟩ := H
         go_enter Tryd.func54, Tryd.ntmps54
         go_wp2_with (first | ((with_reducible refine gate_dst (N := 2) rfl ?_); refine bx_ 2 #[.int .i64 0, .int .i64 0, .slice none 0 0, .int .i64 0, .int .i64 0, .slice none 0 0, .int .i64 0, .int .i64 0] 28 ?_; intro gb188 hg w149 hbox hb; replace HB := o_ (below_step wB_ hb); have BK188 := o_ (hbox); have GW188 := o_ ((y68_ : w.heap.size ≤ gb188)); have GE188 := o_ ((Nat.le_trans HW0.1 (y68_ : w.heap.size ≤ gb188) : w0.heap.size ≤ gb188)); replace HK := o_ (KeepBut.trans wK_ (KeepBut.of_below hb g none) (.inl rfl)); have NB0_188 := o_ ((y58_ : g ≠ gb188)); have NB188_0 := o_ ((y59_ : gb188 ≠ g)); replace HI0 := o_ (IsS103.below wI_ hb); clear hb hbox hg) | (refine gl_ (some 6) Tryd.func58 #[.pointer (some ⟨g, 0, none⟩), .int .i64 9] ?_; (with_reducible refine (spec_l1Below.calls g s0_0 s0_1 s0_2 9 t189 t190 t191 w0 _ ?side1 ?side2 A2.1).mono ?_); (case side1 => exact wI_); (case side2 => exact wB_); rintro e w150 ⟨rfl, hi, hb, hk⟩; refine ⟨_, rfl, ?_⟩; replace BK188 := o_ (KeepBut.blk hk (g' := gb188) (o := c45_ 0 0 none 0 0 0 0 none 0 0 0 0) (bd_ BK188.1) NB188_0.1 (by simp)); replace HK := o_ (KeepBut.trans wK_ hk (.inl rfl)); replace HB := o_ (hb); replace HI0 := o_ (hi); (try clear hb hk hi)) | (refine gl_ (some 8) Tryd.func80 #[.pointer (some ⟨g, 0, none⟩), .int .i64 (wrap64 (1 + t189))] ?_; (with_reducible refine (spec_l7Draw.calls k g s0_0 t190 t191 (wrap64 (1 + t189)) t192 t193 t194 t197 t198 t199 t202 t203 t204 t205 w0 _ ?side1 ?side2 A3.1).mono ?_); (case side1 => exact wI_); (case side2 => exact wB_); rintro e w151 ⟨v195, v200, rfl, ho0, ho1, hi, hb, hk⟩; refine ⟨_, rfl, ?_⟩; replace BK188 := o_ (KeepBut.blk hk (g' := gb188) (o := c45_ 0 0 none 0 0 0 0 none 0 0 0 0) (bd_ BK188.1) NB188_0.1 (by simp)); have HO196 := o_ (Kd.R_lower ho0 (keep_size (w := w) (g := g) (row := none) wK_)); have HO201 := o_ (Kd.R_lower ho1 (keep_size (w := w) (g := g) (row := none) wK_)); replace HK := o_ (KeepBut.trans wK_ hk (.inl rfl)); replace HB := o_ (hb); replace HI0 := o_ (hi); (try clear hb hk hi ho0 ho1)) | ((with_reducible refine gate_dst (N := 3) rfl ?_); refine bx_ 3 #[.int .i64 0, .int .i64 0, .slice none 0 0, .int .i64 0, .int .i64 0, .slice none 0 0, .int .i64 0, .int .i64 0] 28 ?_; intro gb206 hg w152 hbox hb; replace HO196 := o_ (Kd.R_below (rd_ HO196.1) hb); replace HO201 := o_ (Kd.R_below (rd_ HO201.1) hb); replace HB := o_ (below_step wB_ hb); have BK206 := o_ (hbox); have GW206 := o_ ((y68_ : w.heap.size ≤ gb206)); have GE206 := o_ ((Nat.le_trans HW0.1 (y68_ : w.heap.size ≤ gb206) : w0.heap.size ≤ gb206)); replace HK := o_ (KeepBut.trans wK_ (KeepBut.of_below hb g none) (.inl rfl)); have NB188_206 := o_ ((y70_ : gb188 ≠ gb206)); have NB206_188 := o_ ((y71_ : gb206 ≠ gb188)); replace BK188 := o_ (blk_below (bd_ BK188.1) hb); have NB0_206 := o_ ((y56_ : g ≠ gb206)); have NB206_0 := o_ ((y57_ : gb206 ≠ g)); replace HI0 := o_ (IsS103.below wI_ hb); clear hb hbox hg; have hnb153 := NB206_188.1; have hnc153 := NB188_206.1; have hnb154 := NB206_0.1; have hnc154 := NB0_206.1; obtain ⟨hcz155_0, hcz155_1, hcz155_2, hcz155_3, hcz155_4, hcz155_5, hcz155_6, hcz155_7⟩ := e46_ BK206.1; obtain ⟨hfz155_0, hfz155_1, hfz155_2, hfz155_3, hfz155_4, hfz155_5, hfz155_6, hfz155_7⟩ := z47_ BK206.1; obtain ⟨Ao156, co156, eo156⟩ := Kd.R_slice HO196.1; subst eo156; obtain ⟨Ao157, co157, eo157⟩ := Kd.R_slice HO201.1; subst eo157) | (refine gl_ (some 10) Tryd.func58 #[.pointer (some ⟨g, 0, none⟩), .int .i64 14] ?_; (with_reducible refine (spec_l1Below.calls g s0_0 t204 t205 14 t207 t208 t209 w0 _ ?side1 ?side2 A4.1).mono ?_); (case side1 => exact wI_); (case side2 => exact wB_); rintro e w158 ⟨rfl, hi, hb, hk⟩; refine ⟨_, rfl, ?_⟩; replace BK188 := o_ (KeepBut.blk hk (g' := gb188) (o := c45_ 0 0 none 0 0 0 0 none 0 0 0 0) (bk_ BK188.1) NB188_0.1 (by simp)); replace HO196 := o_ (Kd.R_mono (Kd.R_keep (IsS103.apart (show IsS103 w0 _ g s0_0 t204 t205 from wI_) (by (with_reducible repeat (first | apply Kd.R_alloc | apply Kd.R_drewN | apply Kd.R_drew)); exact (Kd.R_mono (Kd.R_far (p := ⟨gb206, 7, none⟩) (Kd.R_far (p := ⟨gb206, 6, none⟩) (Kd.R_far (p := ⟨gb206, 5, none⟩) (Kd.R_far (p := ⟨gb206, 4, none⟩) (Kd.R_far (p := ⟨gb206, 3, none⟩) (Kd.R_far (p := ⟨gb206, 2, none⟩) (Kd.R_far (p := ⟨gb206, 1, none⟩) (Kd.R_far (p := ⟨gb206, 0, none⟩) (Kd.R_types HO196.1 BK206.1 (by decide)) (fun _ hk => hk.2) (.int .i64 t192)) (fun _ hk => hk.2) (.int .i64 t193)) (fun _ hk => hk.2) (.slice Ao156 t194.length co156)) (fun _ hk => hk.2) (.int .i64 t197)) (fun _ hk => hk.2) (.int .i64 t198)) (fun _ hk => hk.2) (.slice Ao157 t199.length co157)) (fun _ hk => hk.2) (.int .i64 t202)) (fun _ hk => hk.2) (.int .i64 t203)) (fun _ h_ => h_.1))) (by decide)) hk (fun _ h => h.2)) (fun _ h => h.1)); replace HO201 := o_ (Kd.R_mono (Kd.R_keep (IsS103.apart (show IsS103 w0 _ g s0_0 t204 t205 from wI_) (by (with_reducible repeat (first | apply Kd.R_alloc | apply Kd.R_drewN | apply Kd.R_drew)); exact (Kd.R_mono (Kd.R_far (p := ⟨gb206, 7, none⟩) (Kd.R_far (p := ⟨gb206, 6, none⟩) (Kd.R_far (p := ⟨gb206, 5, none⟩) (Kd.R_far (p := ⟨gb206, 4, none⟩) (Kd.R_far (p := ⟨gb206, 3, none⟩) (Kd.R_far (p := ⟨gb206, 2, none⟩) (Kd.R_far (p := ⟨gb206, 1, none⟩) (Kd.R_far (p := ⟨gb206, 0, none⟩) (Kd.R_types HO201.1 BK206.1 (by decide)) (fun _ hk => hk.2) (.int .i64 t192)) (fun _ hk => hk.2) (.int .i64 t193)) (fun _ hk => hk.2) (.slice Ao156 t194.length co156)) (fun _ hk => hk.2) (.int .i64 t197)) (fun _ hk => hk.2) (.int .i64 t198)) (fun _ hk => hk.2) (.slice Ao157 t199.length co157)) (fun _ hk => hk.2) (.int .i64 t202)) (fun _ hk => hk.2) (.int .i64 t203)) (fun _ h_ => h_.1))) (by decide)) hk (fun _ h => h.2)) (fun _ h => h.1)); replace BK206 := o_ (KeepBut.blk hk (g' := gb206) (o := .cells #[.int .i64 t192, .int .i64 t193, .slice Ao156 t194.length co156, .int .i64 t197, .int .i64 t198, .slice Ao157 t199.length co157, .int .i64 t202, .int .i64 t203] 28 (0, 0)) (bk_ BK206.1) NB206_0.1 (by simp)); replace HK := o_ (KeepBut.trans wK_ hk (.inl rfl)); replace HB := o_ (hb); replace HI0 := o_ (hi); (try clear hb hk hi); obtain ⟨hcz159_0, hcz159_1, hcz159_2, hcz159_3, hcz159_4, hcz159_5, hcz159_6, hcz159_7⟩ := e46_ BK206.1; obtain ⟨hfz159_0, hfz159_1, hfz159_2, hfz159_3, hfz159_4, hfz159_5, hfz159_6, hfz159_7⟩ := z47_ BK206.1; have hnb160 := NB188_0.1; have hnc160 := NB0_188.1; obtain ⟨hcz161_0, hcz161_1, hcz161_2, hcz161_3, hcz161_4, hcz161_5, hcz161_6, hcz161_7⟩ := e46_ BK188.1; obtain ⟨hfz161_0, hfz161_1, hfz161_2, hfz161_3, hfz161_4, hfz161_5, hfz161_6, hfz161_7⟩ := z47_ BK188.1))
         refine bodyPost_ret (results_cell_row rfl _ _ gb188 28 #[.int .i64 t192, .int .i64 t193, .slice Ao156 t194.length co156, .int .i64 t197, .int .i64 t198, .slice Ao157 t199.length co157, .int .i64 t202, .int .i64 t203] (0, 0) _ rfl (bk_ BK188.1) Tryd.underlying28 rfl (by kernel_rfl)) rfl ?_
         exact ⟨_, _, by first | rfl | (simp [errW_none, errW_some] <;> rfl) | (simp [*, errW_none, errW_some] <;> rfl), rf_ (R2_ HO196.1 BK188.1) (fun _ hk => hk.1), rf_ (R2_ HO201.1 BK188.1) (fun _ hk => hk.1), wI_, wB_, wK_⟩

/-! ### spec_DrawIsReport: function 42 -/
def spec_DrawIsReport.f (k : Nat) (l0 : List Int) : Option (Int × Int × List Int × Int × Int × List Int × Int × Int) := (spec_l1New.f k l0).bind fun bt251 => ((spec_l7Any.f k bt251.1 bt251.2.1 bt251.2.2).bind fun bt255 => (some (bt255.1, bt255.2.1, bt255.2.2.1, bt255.2.2.2.1, bt255.2.2.2.2.1, bt255.2.2.2.2.2.1, bt255.2.2.2.2.2.2.1, bt255.2.2.2.2.2.2.2.1)))
theorem spec_DrawIsReport.mono : ∀ a0 k, LeO (spec_DrawIsReport.f k a0) (spec_DrawIsReport.f (k + 1) a0) := by
  intro a0 k
  unfold spec_DrawIsReport.f
  have jh0 := @spec_l1New.mono
  have jh1 := @spec_l7Any.mono
  exact mo_
theorem e74_ {w : World} {g : Nat} {t : TypeId} {i0 : Int} {i1 : Int} {A2 : Option Addr} {n2 c2 : Nat} {i3 : Int} {i4 : Int} {A5 : Option Addr} {n5 c5 : Nat} {i6 : Int} {i7 : Int} (h : w.heap[g]? = some (.cells #[.int .i64 i0, .int .i64 i1, .slice A2 n2 c2, .int .i64 i3, .int .i64 i4, .slice A5 n5 c5, .int .i64 i6, .int .i64 i7] t (0, 0))) : w.cell? ⟨g, 0, none⟩ = some (.int .i64 i0) ∧ w.cell? ⟨g, 1, none⟩ = some (.int .i64 i1) ∧ w.cell? ⟨g, 2, none⟩ = some (.slice A2 n2 c2) ∧ w.cell? ⟨g, 3, none⟩ = some (.int .i64 i3) ∧ w.cell? ⟨g, 4, none⟩ = some (.int .i64 i4) ∧ w.cell? ⟨g, 5, none⟩ = some (.slice A5 n5 c5) ∧ w.cell? ⟨g, 6, none⟩ = some (.int .i64 i6) ∧ w.cell? ⟨g, 7, none⟩ = some (.int .i64 i7) := ⟨(blk_cell h 0).trans rfl, (blk_cell h 1).trans rfl, (blk_cell h 2).trans rfl, (blk_cell h 3).trans rfl, (blk_cell h 4).trans rfl, (blk_cell h 5).trans rfl, (blk_cell h 6).trans rfl, (blk_cell h 7).trans rfl⟩
theorem z75_ {w : World} {g : Nat} {t : TypeId} {cs : Array Value} (h : w.heap[g]? = some (.cells cs t (0, 0))) : w.frozen? ⟨g, 0, none⟩ = false ∧ w.frozen? ⟨g, 1, none⟩ = false ∧ w.frozen? ⟨g, 2, none⟩ = false ∧ w.frozen? ⟨g, 3, none⟩ = false ∧ w.frozen? ⟨g, 4, none⟩ = false ∧ w.frozen? ⟨g, 5, none⟩ = false ∧ w.frozen? ⟨g, 6, none⟩ = false ∧ w.frozen? ⟨g, 7, none⟩ = false := ⟨blk_frozen h 0, blk_frozen h 1, blk_frozen h 2, blk_frozen h 3, blk_frozen h 4, blk_frozen h 5, blk_frozen h 6, blk_frozen h 7⟩
theorem y78_ {P : Prop} (h : P := by repeat (first | (with_reducible first | exact HB.1 | apply below_alloc | apply pw_below_drewN | apply below_drew1 | refine below_set ?_ (IsS103.ge HI254.1) | refine below_set ?_ GE250.1) | exact HB.1)) : P := h
set_option maxHeartbeats 8000000 in
set_option maxRecDepth 100000 in
theorem spec_DrawIsReport.calls (k : Nat) (A0 : Option Addr) (c0 : Nat) (l0 : List Int) (r1 : Int) (r2 : Int) (r3 : List Int) (r4 : Int) (r5 : Int) (r6 : List Int) (r7 : Int) (r8 : Int) (w : World) (hr0 : Kd.C (Kd.int .u8) w A0 l0.length l0) (hc0 : l0.length ≤ c0) (h : spec_DrawIsReport.f k l0 = some (r1, r2, r3, r4, r5, r6, r7, r8)) :
    Calls Tryd.prog 42 #[.slice A0 l0.length c0] w fun e w' => ∃ v2_ v5_ : Value, e = .returned (.agg #[.int .i64 r1, .int .i64 r2, v2_, .int .i64 r4, .int .i64 r5, v5_, .int .i64 r7, .int .i64 r8]) ∧ Kd.R (Kd.int .i64) 3 w' w.heap.size (fun k_ => some k_ ≠ (v5_ : Value).ownBlock) v2_ r3 ∧ Kd.R (Kd.int .i64) 3 w' w.heap.size (fun k_ => some k_ ≠ (v2_ : Value).ownBlock) v5_ r6 ∧ Below w.heap.size w w' := by
  have hu28 := Tryd.underlying28
  have HR0 := o_ hr0
  have HC0 := o_ hc0
  clear hr0 hc0
  have HB := o_ (Below.refl w.heap.size w)
  have H : ((spec_l1New.f k l0).bind fun bt251 => ((spec_l7Any.f k bt251.1 bt251.2.1 bt251.2.2).bind fun bt255 => (some (bt255.1, bt255.2.1, bt255.2.2.1, bt255.2.2.2.1, bt255.2.2.2.2.1, bt255.2.2.2.2.2.1, bt255.2.2.2.2.2.2.1, bt255.2.2.2.2.2.2.2.1)))) = some (r1, r2, r3, r4, r5, r6, r7, r8) := h
  clear h
  replace H := Option.bind_eq_some_iff.mp H
  obtain ⟨⟨t251, t252, t253⟩, A20, H⟩ := H
  try dsimp only at H
  have A2 := o_ A20
  clear A20
  replace H := Option.bind_eq_some_iff.mp H
  obtain ⟨⟨t255, t256, t257, t260, t261, t262, t265, t266, t267, t268⟩, A30, H⟩ := H
  try dsimp only at H
  have A3 := o_ A30
  clear A30
  simp only [Option.some.injEq, Prod.mk.injEq] at H
  obtain ⟨rfl, rfl, rfl, rfl, rfl, rfl, rfl, rfl⟩ := H
  go_enter Tryd.func42, Tryd.ntmps42
  go_wp2_with (first | ((with_reducible refine gate_dst (N := 2) rfl ?_); refine bx_ 2 #[.int .i64 0, .int .i64 0, .slice none 0 0, .int .i64 0, .int .i64 0, .slice none 0 0, .int .i64 0, .int .i64 0] 28 ?_; intro gb250 hg w4 hbox hb; have BK250 := o_ (hbox); have GW250 := o_ ((by rw [hg]; exact (below_size (hd_ HB.1)) : w.heap.size ≤ gb250)); replace HB := o_ (below_step (hd_ HB.1) hb); have GE250 := GW250; clear hb hbox hg) | (refine gl_ (some 5) Tryd.func53 #[.slice A0 l0.length c0] ?_; (with_reducible refine (spec_l1New.calls k _ _ l0 t251 t252 t253 w _ ?side1 ?side2 ?side3 A2.1).mono ?_); (case side1 => exact wB_); (case side2 => exact HR0.1); (case side3 => exact HC0.1); rintro e w5 ⟨g254, rfl, hi, hb, hb2⟩; refine ⟨_, rfl, ?_⟩; replace HB := o_ (hb); replace HI254 := o_ (hi); have NB254_250 := o_ (IsS103.ne_blk hi (blk_below (bd_ BK250.1) hb2) (by decide)); have NB250_254 := o_ (Ne.symm (IsS103.ne_blk hi (blk_below (bd_ BK250.1) hb2) (by decide))); replace BK250 := o_ (blk_below (bd_ BK250.1) hb2); (try clear hb hb2 hi)) | (refine gl_ (some 7) Tryd.func54 #[.pointer (some ⟨g254, 0, none⟩)] ?_; (with_reducible refine (spec_l7Any.calls k g254 t251 t252 t253 t255 t256 t257 t260 t261 t262 t265 t266 t267 t268 w _ ?side1 ?side2 A3.1).mono ?_); (case side1 => repeat (first | (with_reducible first | exact HI254.1 | apply IsS103.alloc | apply IsS103.drewN | apply IsS103.drew | refine IsS103.far ?_ NB254_250.1 _ | apply IsS103.set_1 | apply IsS103.set_2) | exact HI254.1)); (case side2 => repeat (first | (with_reducible first | exact HB.1 | apply below_alloc | apply pw_below_drewN | apply below_drew1 | refine below_set ?_ (IsS103.ge HI254.1) | refine below_set ?_ GE250.1) | exact HB.1)); rintro e w6 ⟨v258, v263, rfl, ho0, ho1, hi, hb, hk⟩; refine ⟨_, rfl, ?_⟩; replace BK250 := o_ (KeepBut.blk hk (g' := gb250) (o := .cells #[.int .i64 0, .int .i64 0, .slice none 0 0, .int .i64 0, .int .i64 0, .slice none 0 0, .int .i64 0, .int .i64 0] 28 (0, 0)) (bd_ BK250.1) NB250_254.1 (by simp)); have HO259 := o_ (Kd.R_lower ho0 (below_size y78_)); have HO264 := o_ (Kd.R_lower ho1 (below_size y78_)); replace HB := o_ (hb); replace HI254 := o_ (hi); (try clear hb hk hi ho0 ho1); have hnb7 := NB250_254.1; have hnc7 := NB254_250.1; obtain ⟨hcz8_0, hcz8_1, hcz8_2, hcz8_3, hcz8_4, hcz8_5, hcz8_6, hcz8_7⟩ := e74_ BK250.1; obtain ⟨hfz8_0, hfz8_1, hfz8_2, hfz8_3, hfz8_4, hfz8_5, hfz8_6, hfz8_7⟩ := z75_ BK250.1; obtain ⟨Ao9, co9, eo9⟩ := Kd.R_slice HO259.1; subst eo9; obtain ⟨Ao10, co10, eo10⟩ := Kd.R_slice HO264.1; subst eo10))
  refine bodyPost_ret (results_cell_row rfl _ _ gb250 28 #[.int .i64 t255, .int .i64 t256, .slice Ao9 t257.length co9, .int .i64 t260, .int .i64 t261, .slice Ao10 t262.length co10, .int .i64 t265, .int .i64 t266] (0, 0) _ rfl (bk_ BK250.1) Tryd.underlying28 rfl (by kernel_rfl)) rfl ?_
  exact ⟨_, _, by first | rfl | (simp [errW_none, errW_some] <;> rfl) | (simp [*, errW_none, errW_some] <;> rfl), rf_ (R2_ HO259.1 BK250.1) (fun _ hk => hk.1), rf_ (R2_ HO264.1 BK250.1) (fun _ hk => hk.1), by repeat (first | (with_reducible first | exact HB.1 | apply below_alloc | apply pw_below_drewN | apply below_drew1 | refine below_set ?_ (IsS103.ge HI254.1) | refine below_set ?_ GE250.1) | exact HB.1)⟩

/-! ### spec_DrawReportText: function 10 -/
def spec_DrawReportText.f (k : Nat) (l0 : List Int) : Option (Int × Int × List Int × Int × Int × List Int × Int × Int) := (spec_DrawIsReport.f k l0).bind fun bt270 => (some (bt270.1, bt270.2.1, bt270.2.2.1, bt270.2.2.2.1, bt270.2.2.2.2.1, bt270.2.2.2.2.2.1, bt270.2.2.2.2.2.2.1, bt270.2.2.2.2.2.2.2))
theorem spec_DrawReportText.mono : ∀ a0 k, LeO (spec_DrawReportText.f k a0) (spec_DrawReportText.f (k + 1) a0) := by
  intro a0 k
  unfold spec_DrawReportText.f
  have jh0 := @spec_DrawIsReport.mono
  exact mo_
theorem e79_ {w : World} {g : Nat} {t : TypeId} {i0 : Int} {i1 : Int} {A2 : Option Addr} {n2 c2 : Nat} {i3 : Int} {i4 : Int} {A5 : Option Addr} {n5 c5 : Nat} {i6 : Int} {i7 : Int} (h : w.heap[g]? = some (.cells #[.int .i64 i0, .int .i64 i1, .slice A2 n2 c2, .int .i64 i3, .int .i64 i4, .slice A5 n5 c5, .int .i64 i6, .int .i64 i7] t (0, 0))) : w.cell? ⟨g, 0, none⟩ = some (.int .i64 i0) ∧ w.cell? ⟨g, 1, none⟩ = some (.int .i64 i1) ∧ w.cell? ⟨g, 2, none⟩ = some (.slice A2 n2 c2) ∧ w.cell? ⟨g, 3, none⟩ = some (.int .i64 i3) ∧ w.cell? ⟨g, 4, none⟩ = some (.int .i64 i4) ∧ w.cell? ⟨g, 5, none⟩ = some (.slice A5 n5 c5) ∧ w.cell? ⟨g, 6, none⟩ = some (.int .i64 i6) ∧ w.cell? ⟨g, 7, none⟩ = some (.int .i64 i7) := ⟨(blk_cell h 0).trans rfl, (blk_cell h 1).trans rfl, (blk_cell h 2).trans rfl, (blk_cell h 3).trans rfl, (blk_cell h 4).trans rfl, (blk_cell h 5).trans rfl, (blk_cell h 6).trans rfl, (blk_cell h 7).trans rfl⟩
theorem z80_ {w : World} {g : Nat} {t : TypeId} {cs : Array Value} (h : w.heap[g]? = some (.cells cs t (0, 0))) : w.frozen? ⟨g, 0, none⟩ = false ∧ w.frozen? ⟨g, 1, none⟩ = false ∧ w.frozen? ⟨g, 2, none⟩ = false ∧ w.frozen? ⟨g, 3, none⟩ = false ∧ w.frozen? ⟨g, 4, none⟩ = false ∧ w.frozen? ⟨g, 5, none⟩ = false ∧ w.frozen? ⟨g, 6, none⟩ = false ∧ w.frozen? ⟨g, 7, none⟩ = false := ⟨blk_frozen h 0, blk_frozen h 1, blk_frozen h 2, blk_frozen h 3, blk_frozen h 4, blk_frozen h 5, blk_frozen h 6, blk_frozen h 7⟩
set_option maxHeartbeats 8000000 in
set_option maxRecDepth 100000 in
theorem spec_DrawReportText.calls (k : Nat) (A0 : Option Addr) (c0 : Nat) (l0 : List Int) (r1 : Int) (r2 : Int) (r3 : List Int) (r4 : Int) (r5 : Int) (r6 : List Int) (r7 : Int) (r8 : Int) (w : World) (hr0 : Kd.C (Kd.int .u8) w A0 l0.length l0) (hc0 : l0.length ≤ c0) (h : spec_DrawReportText.f k l0 = some (r1, r2, r3, r4, r5, r6, r7, r8)) :
    Calls Tryd.prog 10 #[.slice A0 l0.length c0] w fun e w' => ∃ v2_ v5_ : Value, e = .returned (.agg #[.int .i64 r1, .int .i64 r2, v2_, .int .i64 r4, .int .i64 r5, v5_, .int .i64 r7, .int .i64 r8]) ∧ Kd.R (Kd.int .i64) 3 w' w.heap.size (fun k_ => some k_ ≠ (v5_ : Value).ownBlock) v2_ r3 ∧ Kd.R (Kd.int .i64) 3 w' w.heap.size (fun k_ => some k_ ≠ (v2_ : Value).ownBlock) v5_ r6 ∧ Below w.heap.size w w' := by
  have hu28 := Tryd.underlying28
  have HR0 := o_ hr0
  have HC0 := o_ hc0
  clear hr0 hc0
  have HB := o_ (Below.refl w.heap.size w)
  have H : ((spec_DrawIsReport.f k l0).bind fun bt270 => (some (bt270.1, bt270.2.1, bt270.2.2.1, bt270.2.2.2.1, bt270.2.2.2.2.1, bt270.2.2.2.2.2.1, bt270.2.2.2.2.2.2.1, bt270.2.2.2.2.2.2.2))) = some (r1, r2, r3, r4, r5, r6, r7, r8) := h
  clear h
  replace H := Option.bind_eq_some_iff.mp H
  obtain ⟨⟨t270, t271, t272, t275, t276, t277, t280, t281⟩, A20, H⟩ := H
  try dsimp only at H
  have A2 := o_ A20
  clear A20
  simp only [Option.some.injEq, Prod.mk.injEq] at H
  obtain ⟨rfl, rfl, rfl, rfl, rfl, rfl, rfl, rfl⟩ := H
  go_enter Tryd.func10, Tryd.ntmps10
  go_wp2_with (first | ((with_reducible refine gate_dst (N := 2) rfl ?_); refine bx_ 2 #[.int .i64 0, .int .i64 0, .slice none 0 0, .int .i64 0, .int .i64 0, .slice none 0 0, .int .i64 0, .int .i64 0] 28 ?_; intro gb269 hg w3 hbox hb; have BK269 := o_ (hbox); have GW269 := o_ ((by rw [hg]; exact (below_size (hd_ HB.1)) : w.heap.size ≤ gb269)); replace HB := o_ (below_step (hd_ HB.1) hb); have GE269 := GW269; clear hb hbox hg) | (refine gl_ (some 4) Tryd.func42 #[.slice A0 l0.length c0] ?_; (with_reducible refine (spec_DrawIsReport.calls k _ _ l0 t270 t271 t272 t275 t276 t277 t280 t281 _ ?side1 ?side2 A2.1).mono ?_); (case side1 => exact cd_ (Kd.C_below HR0.1 HB.1)); (case side2 => exact HC0.1); rintro e w4 ⟨v273, v278, rfl, ho0, ho1, hb⟩; refine ⟨_, rfl, ?_⟩; have HO274 := o_ (Kd.R_lower ho0 (below_size wB_)); have HO279 := o_ (Kd.R_lower ho1 (below_size wB_)); replace BK269 := o_ (blk_below (bd_ BK269.1) hb); replace HB := o_ (below_step wB_ hb); (try clear hb ho0 ho1); obtain ⟨hcz5_0, hcz5_1, hcz5_2, hcz5_3, hcz5_4, hcz5_5, hcz5_6, hcz5_7⟩ := e79_ BK269.1; obtain ⟨hfz5_0, hfz5_1, hfz5_2, hfz5_3, hfz5_4, hfz5_5, hfz5_6, hfz5_7⟩ := z80_ BK269.1; obtain ⟨Ao6, co6, eo6⟩ := Kd.R_slice HO274.1; subst eo6; obtain ⟨Ao7, co7, eo7⟩ := Kd.R_slice HO279.1; subst eo7))
  refine bodyPost_ret (results_cell_row rfl _ _ gb269 28 #[.int .i64 t270, .int .i64 t271, .slice Ao6 t272.length co6, .int .i64 t275, .int .i64 t276, .slice Ao7 t277.length co7, .int .i64 t280, .int .i64 t281] (0, 0) _ rfl (bk_ BK269.1) Tryd.underlying28 rfl (by kernel_rfl)) rfl ?_
  exact ⟨_, _, by first | rfl | (simp [errW_none, errW_some] <;> rfl) | (simp [*, errW_none, errW_some] <;> rfl), rf_ (R2_ HO274.1 BK269.1) (fun _ hk => hk.1), rf_ (R2_ HO279.1 BK269.1) (fun _ hk => hk.1), wB_⟩

/-! ### impl_InRange: function 49 -/
def impl_InRange.f (a0 : Int) (a1 : Int) (a2 : Int) : Option (Bool) := if a1 ≤ a0 then (some (decide (a0 ≤ a2))) else (some false)
set_option maxHeartbeats 8000000 in
set_option maxRecDepth 100000 in
theorem impl_InRange.calls (a0 : Int) (a1 : Int) (a2 : Int) (r : Bool) (w : World) (h : impl_InRange.f a0 a1 a2 = some r) :
    Calls Tryd.prog 49 #[.int .i64 a0, .int .i64 a1, .int .i64 a2] w fun e w' => e = .returned (.bool r) ∧ Drawn0 w w' := by
  have H : (if a1 ≤ a0 then (some (decide (a0 ≤ a2))) else (some false)) = some r := h
  clear h
  by_cases c4 : a1 ≤ a0
  · rw [if_pos c4] at H
    have c4b0 := decide_eq_true c4
    clear c4
    obtain rfl := Option.some.inj H
    go_enter Tryd.func49, Tryd.ntmps49
    go_wp2
    go_ret
    exact ⟨rs_, by repeat (first | exact Drawn0.refl _ | apply Drawn0.step)⟩
  · rw [if_neg c4] at H
    have c4b0 := decide_eq_false c4
    clear c4
    obtain rfl := Option.some.inj H
    go_enter Tryd.func49, Tryd.ntmps49
    go_wp2
    go_ret
    exact ⟨rs_, by repeat (first | exact Drawn0.refl _ | apply Drawn0.step)⟩

/-! ### impl_isAscending: function 50 -/
def impl_isAscending.l0 : Nat → List Int → Int → Int → List Int → Int → Int → Option (Bool)
  | 0, _, _, _, _, _, _ => none
  | k + 1, x0, x1, x2, x9, x10, x11 => if x11 < x10 then (if 0 ≤ x11 then (if x11 < (x9.length : Int) then ((impl_InRange.f (rd x9 x11) x1 x2).bind fun t283 => (if t283 = true then (if x11 > 0 then (if 0 ≤ (wrap64 (x11 - 1)) then (if (wrap64 (x11 - 1)) < (x0.length : Int) then (if (rd x9 x11) ≤ (rd x0 (wrap64 (x11 - 1))) then (some false) else (impl_isAscending.l0 k x0 x1 x2 x9 x10 (wrap64 (x11 + 1)))) else (none)) else (none)) else (impl_isAscending.l0 k x0 x1 x2 x9 x10 (wrap64 (x11 + 1)))) else (some false))) else (none)) else (none)) else (some true)
def impl_isAscending.f (k : Nat) (l0 : List Int) (a1 : Int) (a2 : Int) : Option (Bool) := impl_isAscending.l0 k l0 a1 a2 l0 (l0.length : Int) 0
theorem impl_isAscending.mono_l : ∀ k, (∀ y0 y1 y2 y3 y4 y5, LeO (impl_isAscending.l0 k y0 y1 y2 y3 y4 y5) (impl_isAscending.l0 (k + 1) y0 y1 y2 y3 y4 y5))
  | 0 => fun _ _ _ _ _ _ r h => by simp [impl_isAscending.l0] at h
  | k + 1 => by
    have ih0 := impl_isAscending.mono_l k
    · intro y0 y1 y2 y3 y4 y5
      unfold impl_isAscending.l0
      exact mo_
theorem impl_isAscending.mono : ∀ a0 a1 a2 k, LeO (impl_isAscending.f k a0 a1 a2) (impl_isAscending.f (k + 1) a0 a1 a2) := by
  intro a0 a1 a2 k
  have ih0 := impl_isAscending.mono_l k
  unfold impl_isAscending.f
  exact mo_
theorem y85_ {P : Prop} (h : P := by repeat (first | exact Drawn0.refl _ | apply Drawn0.step)) : P := h
set_option maxHeartbeats 8000000 in
set_option maxRecDepth 100000 in
theorem impl_isAscending.calls (k : Nat) (A0 : Option Addr) (c0 : Nat) (l0 : List Int) (a1 : Int) (a2 : Int) (r : Bool) (w : World) (hr0 : Kd.C (Kd.int .i64) w A0 l0.length l0) (hc0 : l0.length ≤ c0) (h : impl_isAscending.f k l0 a1 a2 = some r) :
    Calls Tryd.prog 50 #[.slice A0 l0.length c0, .int .i64 a1, .int .i64 a2] w fun e w' => e = .returned (.bool r) ∧ Drawn0 w w' := by
  have HR0 := o_ hr0
  have HC0 := o_ hc0
  clear hr0 hc0
  have H : (impl_isAscending.l0 k l0 a1 a2 l0 (l0.length : Int) 0) = some r := h
  clear h
  have H' := o_ H
  clear H
  go_enter Tryd.func50, Tryd.ntmps50
  go_wp2
  go_loopg [11] k (fun kq v11 w' => ∃ (x11_1 : Int), v11 = .int .i64 x11_1 ∧ Aside0 (impl_isAscending.l0 kq l0 a1 a2 l0 (l0.length : Int) x11_1 = some r) ∧ Aside0 (kq ≤ k) ∧ Drawn0 w w')
  case atStart => exact ⟨(0), rs_, H', ⟨Nat.le_refl _⟩, y85_⟩
  case round =>
    clear H'
    try clear p2
    obtain ⟨x11_1, rfl, HA, HK1, ⟨m1, rfl⟩⟩ := hrel
    cases gk with
    | zero => exact absurd HA.1 (by simp [impl_isAscending.l0])
    | succ k1 =>
      have H := HA.1
      clear HA
      simp only [impl_isAscending.l0] at H
      by_cases c4 : x11_1 < (l0.length : Int)
      · rw [if_pos c4] at H
        have c4b0 := decide_eq_true c4
        clear c4
        by_cases c5 : 0 ≤ x11_1
        · rw [if_pos c5] at H
          have c5b0 := decide_eq_true c5
          clear c5
          by_cases c6 : x11_1 < (l0.length : Int)
          · rw [if_pos c6] at H
            have c6b0 := decide_eq_true c6
            clear c6
            replace H := Option.bind_eq_some_iff.mp H
            obtain ⟨t283, A70, H⟩ := H
            try dsimp only at H
            have A7 := o_ A70
            clear A70
            by_cases c8 : t283 = true
            · subst c8
              have H1 := H
              rw [if_pos rfl] at H1
              clear H
              have H := H1
              clear H1
              by_cases c9 : x11_1 > 0
              · rw [if_pos c9] at H
                have c9b0 := decide_eq_true c9
                clear c9
                obtain ⟨ji10, hji10⟩ : ∃ j_ : Int, (wrap64 (x11_1 - 1)) = j_ := ⟨_, rfl⟩
                replace H : (if 0 ≤ (ji10) then (if (ji10) < (l0.length : Int) then (if (rd l0 x11_1) ≤ (rd l0 (ji10)) then (some false) else (impl_isAscending.l0 k1 l0 a1 a2 l0 (l0.length : Int) (wrap64 (x11_1 + 1)))) else (none)) else (none)) = some r := by first | (rw [hji10] at H; exact H) | (simp only [hji10] at H ⊢; exact H)
                (try rw [hji10] at A7)
                have hji10w : (IntKind.i64.wrap (x11_1 - 1)) = ji10 := (i64_w _).trans hji10
                by_cases c11 : 0 ≤ (ji10)
                · rw [if_pos c11] at H
                  have c11b0 := decide_eq_true c11
                  clear c11
                  by_cases c12 : (ji10) < (l0.length : Int)
                  · rw [if_pos c12] at H
                    have c12b0 := decide_eq_true c12
                    clear c12
                    by_cases c13 : (rd l0 x11_1) ≤ (rd l0 (ji10))
                    · rw [if_pos c13] at H
                      have c13b0 := decide_eq_true c13
                      clear c13
                      obtain rfl := Option.some.inj H
                      have p282 : 0 ≤ (x11_1 : Int) := of_decide_eq_true as_
                      have q282 : x11_1 < (l0.length : Int) := of_decide_eq_true as_
                      obtain ⟨ad282, e282, hx282_0⟩ := Kd.at_int HR0.1 x11_1 p282 q282
                      cases e282
                      replace p282 := eq_true p282
                      replace q282 := eq_true q282
                      go_wp2_with (first | (refine gl_ (some 19) Tryd.func49 #[.int .i64 (rd l0 x11_1), .int .i64 a1, .int .i64 a2] ?_; (with_reducible refine (impl_InRange.calls (rd l0 x11_1) a1 a2 true _ A7.1).mono ?_); rintro e w' ⟨rfl, ⟨nd, rfl⟩⟩; refine ⟨_, rfl, ?_⟩; have p284 : 0 ≤ ((ji10) : Int) := of_decide_eq_true as_; have q284 : (ji10) < (l0.length : Int) := of_decide_eq_true as_; obtain ⟨ad284, e284, hx284_0⟩ := Kd.at_int HR0.1 (ji10) p284 q284; obtain rfl : ad282 = ad284 := (by injection e284); replace p284 := eq_true p284; replace q284 := eq_true q284))
                      go_ret
                      exact ⟨by first | rfl | (simp; done) | (simp only [← hji10] <;> (first | rfl | simp)) | (simp [*]; done), y85_⟩
                    · rw [if_neg c13] at H
                      have c13b0 := decide_eq_false c13
                      clear c13
                      have H' := o_ H
                      clear H
                      have p282 : 0 ≤ (x11_1 : Int) := of_decide_eq_true as_
                      have q282 : x11_1 < (l0.length : Int) := of_decide_eq_true as_
                      obtain ⟨ad282, e282, hx282_0⟩ := Kd.at_int HR0.1 x11_1 p282 q282
                      cases e282
                      replace p282 := eq_true p282
                      replace q282 := eq_true q282
                      go_wp2_with (first | (refine gl_ (some 19) Tryd.func49 #[.int .i64 (rd l0 x11_1), .int .i64 a1, .int .i64 a2] ?_; (with_reducible refine (impl_InRange.calls (rd l0 x11_1) a1 a2 true _ A7.1).mono ?_); rintro e w' ⟨rfl, ⟨nd, rfl⟩⟩; refine ⟨_, rfl, ?_⟩; have p284 : 0 ≤ ((ji10) : Int) := of_decide_eq_true as_; have q284 : (ji10) < (l0.length : Int) := of_decide_eq_true as_; obtain ⟨ad284, e284, hx284_0⟩ := Kd.at_int HR0.1 (ji10) p284 q284; obtain rfl : ad282 = ad284 := (by injection e284); replace p284 := eq_true p284; replace q284 := eq_true q284))
                      go_roundg k1
                      case measure => have := HK1.1; omega
                      case rel => exact ⟨(wrap64 (x11_1 + 1)), rs_, H', ⟨by have := HK1.1; omega⟩, y85_⟩
                  · rw [if_neg c12] at H
                    exact absurd H (by simp)
                · rw [if_neg c11] at H
                  exact absurd H (by simp)
              · rw [if_neg c9] at H
                have c9b0 := decide_eq_false c9
                clear c9
                have H' := o_ H
                clear H
                have p282 : 0 ≤ (x11_1 : Int) := of_decide_eq_true as_
                have q282 : x11_1 < (l0.length : Int) := of_decide_eq_true as_
                obtain ⟨ad282, e282, hx282_0⟩ := Kd.at_int HR0.1 x11_1 p282 q282
                cases e282
                replace p282 := eq_true p282
                replace q282 := eq_true q282
                go_wp2_with (first | (refine gl_ (some 19) Tryd.func49 #[.int .i64 (rd l0 x11_1), .int .i64 a1, .int .i64 a2] ?_; (with_reducible refine (impl_InRange.calls (rd l0 x11_1) a1 a2 true _ A7.1).mono ?_); rintro e w' ⟨rfl, ⟨nd, rfl⟩⟩; refine ⟨_, rfl, ?_⟩))
                go_roundg k1
                case measure => have := HK1.1; omega
                case rel => exact ⟨(wrap64 (x11_1 + 1)), rs_, H', ⟨by have := HK1.1; omega⟩, y85_⟩
            · replace c8 := Bool.eq_false_iff.mpr c8
              subst c8
              have H1 := H
              rw [if_neg nt_] at H1
              clear H
              have H := H1
              clear H1
              obtain rfl := Option.some.inj H
              have p282 : 0 ≤ (x11_1 : Int) := of_decide_eq_true as_
              have q282 : x11_1 < (l0.length : Int) := of_decide_eq_true as_
              obtain ⟨ad282, e282, hx282_0⟩ := Kd.at_int HR0.1 x11_1 p282 q282
              cases e282
              replace p282 := eq_true p282
              replace q282 := eq_true q282
              go_wp2_with (first | (refine gl_ (some 19) Tryd.func49 #[.int .i64 (rd l0 x11_1), .int .i64 a1, .int .i64 a2] ?_; (with_reducible refine (impl_InRange.calls (rd l0 x11_1) a1 a2 false _ A7.1).mono ?_); rintro e w' ⟨rfl, ⟨nd, rfl⟩⟩; refine ⟨_, rfl, ?_⟩))
              go_ret
              exact ⟨rs_, y85_⟩
          · rw [if_neg c6] at H
            exact absurd H (by simp)
        · rw [if_neg c5] at H
          exact absurd H (by simp)
      · rw [if_neg c4] at H
        have c4b0 := decide_eq_false c4
        clear c4
        obtain rfl := Option.some.inj H
        go_wp2
        go_ret
        exact ⟨rs_, y85_⟩

/-! ### impl_IsSpan: function 51 -/
def impl_IsSpan.f (a0_0 : Int) (a0_1 : Int) : Option (Bool) := (impl_InRange.f a0_0 0 100000).bind fun t286 => (if t286 = true then ((impl_InRange.f a0_1 0 100000).bind fun t287 => (if t287 = true then (some (decide (a0_0 ≤ a0_1))) else (some false))) else (some false))
set_option maxHeartbeats 8000000 in
set_option maxRecDepth 100000 in
theorem impl_IsSpan.calls (a0_0 : Int) (a0_1 : Int) (r : Bool) (w : World) (h : impl_IsSpan.f a0_0 a0_1 = some r) :
    Calls Tryd.prog 51 #[.agg #[.int .i64 a0_0, .int .i64 a0_1]] w fun e w' => e = .returned (.bool r) ∧ Below w.heap.size w w' := by
  have hu26 := Tryd.underlying26
  have HB := o_ (Below.refl w.heap.size w)
  have H : ((impl_InRange.f a0_0 0 100000).bind fun t286 => (if t286 = true then ((impl_InRange.f a0_1 0 100000).bind fun t287 => (if t287 = true then (some (decide (a0_0 ≤ a0_1))) else (some false))) else (some false))) = some r := h
  clear h
  replace H := Option.bind_eq_some_iff.mp H
  obtain ⟨t286, A20, H⟩ := H
  try dsimp only at H
  have A2 := o_ A20
  clear A20
  by_cases c3 : t286 = true
  · subst c3
    have H1 := H
    rw [if_pos rfl] at H1
    clear H
    have H := H1
    clear H1
    replace H := Option.bind_eq_some_iff.mp H
    obtain ⟨t287, A40, H⟩ := H
    try dsimp only at H
    have A4 := o_ A40
    clear A40
    by_cases c5 : t287 = true
    · subst c5
      have H1 := H
      rw [if_pos rfl] at H1
      clear H
      have H := H1
      clear H1
      obtain rfl := Option.some.inj H
      go_enter Tryd.func51, Tryd.ntmps51
      go_wp2_with (first | ((with_reducible refine gate_dst (N := 1) rfl ?_); refine bx_ 1 #[.int .i64 a0_0, .int .i64 a0_1] 26 ?_; intro gb285 hg w6 hbox hb; have BK285 := o_ (hbox); have GW285 := o_ ((by rw [hg]; exact (below_size (hd_ HB.1)) : w.heap.size ≤ gb285)); replace HB := o_ (below_step (hd_ HB.1) hb); have GE285 := GW285; clear hb hbox hg; have hcz7_0 : w6.cell? ⟨gb285, 0, none⟩ = some (.int .i64 a0_0) := (blk_cell BK285.1 0).trans rfl; have hcz7_1 : w6.cell? ⟨gb285, 1, none⟩ = some (.int .i64 a0_1) := (blk_cell BK285.1 1).trans rfl; have hfz7_0 := blk_frozen BK285.1 0; have hfz7_1 := blk_frozen BK285.1 1) | (refine gl_ (some 5) Tryd.func49 #[.int .i64 a0_0, .int .i64 0, .int .i64 100000] ?_; (with_reducible refine (impl_InRange.calls a0_0 0 100000 true _ A2.1).mono ?_); rintro e w' ⟨rfl, ⟨nd, rfl⟩⟩; refine ⟨_, rfl, ?_⟩) | (go_at_call 49; (with_reducible refine (impl_InRange.calls a0_1 0 100000 true _ A4.1).mono ?_); rintro e w' ⟨rfl, ⟨nd, rfl⟩⟩))
      go_ret
      exact ⟨rt_, wB_⟩
    · replace c5 := Bool.eq_false_iff.mpr c5
      subst c5
      have H1 := H
      rw [if_neg nt_] at H1
      clear H
      have H := H1
      clear H1
      obtain rfl := Option.some.inj H
      go_enter Tryd.func51, Tryd.ntmps51
      go_wp2_with (first | ((with_reducible refine gate_dst (N := 1) rfl ?_); refine bx_ 1 #[.int .i64 a0_0, .int .i64 a0_1] 26 ?_; intro gb285 hg w8 hbox hb; have BK285 := o_ (hbox); have GW285 := o_ ((by rw [hg]; exact (below_size (hd_ HB.1)) : w.heap.size ≤ gb285)); replace HB := o_ (below_step (hd_ HB.1) hb); have GE285 := GW285; clear hb hbox hg; have hcz9_0 : w8.cell? ⟨gb285, 0, none⟩ = some (.int .i64 a0_0) := (blk_cell BK285.1 0).trans rfl; have hcz9_1 : w8.cell? ⟨gb285, 1, none⟩ = some (.int .i64 a0_1) := (blk_cell BK285.1 1).trans rfl; have hfz9_0 := blk_frozen BK285.1 0; have hfz9_1 := blk_frozen BK285.1 1) | (refine gl_ (some 5) Tryd.func49 #[.int .i64 a0_0, .int .i64 0, .int .i64 100000] ?_; (with_reducible refine (impl_InRange.calls a0_0 0 100000 true _ A2.1).mono ?_); rintro e w' ⟨rfl, ⟨nd, rfl⟩⟩; refine ⟨_, rfl, ?_⟩) | (go_at_call 49; (with_reducible refine (impl_InRange.calls a0_1 0 100000 false _ A4.1).mono ?_); rintro e w' ⟨rfl, ⟨nd, rfl⟩⟩))
      go_ret
      exact ⟨rt_, wB_⟩
  · replace c3 := Bool.eq_false_iff.mpr c3
    subst c3
    have H1 := H
    rw [if_neg nt_] at H1
    clear H
    have H := H1
    clear H1
    obtain rfl := Option.some.inj H
    go_enter Tryd.func51, Tryd.ntmps51
    go_wp2_with (first | ((with_reducible refine gate_dst (N := 1) rfl ?_); refine bx_ 1 #[.int .i64 a0_0, .int .i64 a0_1] 26 ?_; intro gb285 hg w10 hbox hb; have BK285 := o_ (hbox); have GW285 := o_ ((by rw [hg]; exact (below_size (hd_ HB.1)) : w.heap.size ≤ gb285)); replace HB := o_ (below_step (hd_ HB.1) hb); have GE285 := GW285; clear hb hbox hg; have hcz11_0 : w10.cell? ⟨gb285, 0, none⟩ = some (.int .i64 a0_0) := (blk_cell BK285.1 0).trans rfl; have hcz11_1 : w10.cell? ⟨gb285, 1, none⟩ = some (.int .i64 a0_1) := (blk_cell BK285.1 1).trans rfl; have hfz11_0 := blk_frozen BK285.1 0; have hfz11_1 := blk_frozen BK285.1 1) | (refine gl_ (some 5) Tryd.func49 #[.int .i64 a0_0, .int .i64 0, .int .i64 100000] ?_; (with_reducible refine (impl_InRange.calls a0_0 0 100000 false _ A2.1).mono ?_); rintro e w' ⟨rfl, ⟨nd, rfl⟩⟩; refine ⟨_, rfl, ?_⟩))
    go_ret
    exact ⟨rt_, wB_⟩

/-! ### impl_IsReport: function 13 -/
def impl_IsReport.f (k : Nat) (a0_0 : Int) (a0_1 : Int) (l0_2 : List Int) (a0_3 : Int) (a0_4 : Int) (l0_5 : List Int) (a0_6 : Int) (a0_7 : Int) : Option (Bool) := (impl_InRange.f a0_0 1 999).bind fun t289 => (if t289 = true then ((impl_InRange.f a0_1 1 8).bind fun t290 => (if t290 = true then ((impl_isAscending.f k l0_2 0 7).bind fun t291 => (if t291 = true then (if 1 ≤ a0_3 then (if a0_3 ≤ a0_4 then (if a0_4 ≤ 50 then ((impl_isAscending.f k l0_5 1 30).bind fun t292 => (if t292 = true then (if (l0_5.length : Int) ≤ 10 then ((impl_IsSpan.f a0_6 a0_7).bind fun t293 => (some t293)) else (some false)) else (some false))) else (some false)) else (some false)) else (some false)) else (some false))) else (some false))) else (some false))
theorem impl_IsReport.mono : ∀ a0 a1 a2 a3 a4 a5 a6 a7 k, LeO (impl_IsReport.f k a0 a1 a2 a3 a4 a5 a6 a7) (impl_IsReport.f (k + 1) a0 a1 a2 a3 a4 a5 a6 a7) := by
  intro a0 a1 a2 a3 a4 a5 a6 a7 k
  unfold impl_IsReport.f
  have jh0 := @impl_isAscending.mono
  exact mo_
theorem e89_ {w : World} {g : Nat} {t : TypeId} {i0 : Int} {i1 : Int} {A2 : Option Addr} {n2 c2 : Nat} {i3 : Int} {i4 : Int} {A5 : Option Addr} {n5 c5 : Nat} {i6 : Int} {i7 : Int} (h : w.heap[g]? = some (.cells #[.int .i64 i0, .int .i64 i1, .slice A2 n2 c2, .int .i64 i3, .int .i64 i4, .slice A5 n5 c5, .int .i64 i6, .int .i64 i7] t (0, 0))) : w.cell? ⟨g, 0, none⟩ = some (.int .i64 i0) ∧ w.cell? ⟨g, 1, none⟩ = some (.int .i64 i1) ∧ w.cell? ⟨g, 2, none⟩ = some (.slice A2 n2 c2) ∧ w.cell? ⟨g, 3, none⟩ = some (.int .i64 i3) ∧ w.cell? ⟨g, 4, none⟩ = some (.int .i64 i4) ∧ w.cell? ⟨g, 5, none⟩ = some (.slice A5 n5 c5) ∧ w.cell? ⟨g, 6, none⟩ = some (.int .i64 i6) ∧ w.cell? ⟨g, 7, none⟩ = some (.int .i64 i7) := ⟨(blk_cell h 0).trans rfl, (blk_cell h 1).trans rfl, (blk_cell h 2).trans rfl, (blk_cell h 3).trans rfl, (blk_cell h 4).trans rfl, (blk_cell h 5).trans rfl, (blk_cell h 6).trans rfl, (blk_cell h 7).trans rfl⟩
theorem z90_ {w : World} {g : Nat} {t : TypeId} {cs : Array Value} (h : w.heap[g]? = some (.cells cs t (0, 0))) : w.frozen? ⟨g, 0, none⟩ = false ∧ w.frozen? ⟨g, 1, none⟩ = false ∧ w.frozen? ⟨g, 2, none⟩ = false ∧ w.frozen? ⟨g, 3, none⟩ = false ∧ w.frozen? ⟨g, 4, none⟩ = false ∧ w.frozen? ⟨g, 5, none⟩ = false ∧ w.frozen? ⟨g, 6, none⟩ = false ∧ w.frozen? ⟨g, 7, none⟩ = false := ⟨blk_frozen h 0, blk_frozen h 1, blk_frozen h 2, blk_frozen h 3, blk_frozen h 4, blk_frozen h 5, blk_frozen h 6, blk_frozen h 7⟩
theorem y95_ {P : Prop} (h : P := by rw [hg]; exact (below_size (hd_ HB.1))) : P := h
set_option maxHeartbeats 8000000 in
set_option maxRecDepth 100000 in
theorem impl_IsReport.calls (k : Nat) (a0_0 : Int) (a0_1 : Int) (A0_2 : Option Addr) (c0_2 : Nat) (l0_2 : List Int) (a0_3 : Int) (a0_4 : Int) (A0_5 : Option Addr) (c0_5 : Nat) (l0_5 : List Int) (a0_6 : Int) (a0_7 : Int) (r : Bool) (w : World) (hr0_2 : Kd.C (Kd.int .i64) w A0_2 l0_2.length l0_2) (hc0_2 : l0_2.length ≤ c0_2) (hr0_5 : Kd.C (Kd.int .i64) w A0_5 l0_5.length l0_5) (hc0_5 : l0_5.length ≤ c0_5) (h : impl_IsReport.f k a0_0 a0_1 l0_2 a0_3 a0_4 l0_5 a0_6 a0_7 = some r) :
    Calls Tryd.prog 13 #[.agg #[.int .i64 a0_0, .int .i64 a0_1, .slice A0_2 l0_2.length c0_2, .int .i64 a0_3, .int .i64 a0_4, .slice A0_5 l0_5.length c0_5, .int .i64 a0_6, .int .i64 a0_7]] w fun e w' => e = .returned (.bool r) ∧ Below w.heap.size w w' := by
  have hu28 := Tryd.underlying28
  have hu26 := Tryd.underlying26
  have HR0_2 := o_ hr0_2
  have HC0_2 := o_ hc0_2
  clear hr0_2 hc0_2
  have HR0_5 := o_ hr0_5
  have HC0_5 := o_ hc0_5
  clear hr0_5 hc0_5
  have HB := o_ (Below.refl w.heap.size w)
  have H : ((impl_InRange.f a0_0 1 999).bind fun t289 => (if t289 = true then ((impl_InRange.f a0_1 1 8).bind fun t290 => (if t290 = true then ((impl_isAscending.f k l0_2 0 7).bind fun t291 => (if t291 = true then (if 1 ≤ a0_3 then (if a0_3 ≤ a0_4 then (if a0_4 ≤ 50 then ((impl_isAscending.f k l0_5 1 30).bind fun t292 => (if t292 = true then (if (l0_5.length : Int) ≤ 10 then ((impl_IsSpan.f a0_6 a0_7).bind fun t293 => (some t293)) else (some false)) else (some false))) else (some false)) else (some false)) else (some false)) else (some false))) else (some false))) else (some false))) = some r := h
  clear h
  replace H := Option.bind_eq_some_iff.mp H
  obtain ⟨t289, A20, H⟩ := H
  try dsimp only at H
  have A2 := o_ A20
  clear A20
  by_cases c3 : t289 = true
  · subst c3
    have H1 := H
    rw [if_pos rfl] at H1
    clear H
    have H := H1
    clear H1
    replace H := Option.bind_eq_some_iff.mp H
    obtain ⟨t290, A40, H⟩ := H
    try dsimp only at H
    have A4 := o_ A40
    clear A40
    by_cases c5 : t290 = true
    · subst c5
      have H1 := H
      rw [if_pos rfl] at H1
      clear H
      have H := H1
      clear H1
      replace H := Option.bind_eq_some_iff.mp H
      obtain ⟨t291, A60, H⟩ := H
      try dsimp only at H
      have A6 := o_ A60
      clear A60
      by_cases c7 : t291 = true
      · subst c7
        have H1 := H
        rw [if_pos rfl] at H1
        clear H
        have H := H1
        clear H1
        by_cases c8 : 1 ≤ a0_3
        · rw [if_pos c8] at H
          have c8b0 := decide_eq_true c8
          clear c8
          by_cases c9 : a0_3 ≤ a0_4
          · rw [if_pos c9] at H
            have c9b0 := decide_eq_true c9
            clear c9
            by_cases c10 : a0_4 ≤ 50
            · rw [if_pos c10] at H
              have c10b0 := decide_eq_true c10
              clear c10
              replace H := Option.bind_eq_some_iff.mp H
              obtain ⟨t292, A110, H⟩ := H
              try dsimp only at H
              have A11 := o_ A110
              clear A110
              by_cases c12 : t292 = true
              · subst c12
                have H1 := H
                rw [if_pos rfl] at H1
                clear H
                have H := H1
                clear H1
                by_cases c13 : (l0_5.length : Int) ≤ 10
                · rw [if_pos c13] at H
                  have c13b0 := decide_eq_true c13
                  have c13b1 : decide (l0_5.length ≤ 10) = true := decide_eq_true (by omega)
                  clear c13
                  replace H := Option.bind_eq_some_iff.mp H
                  obtain ⟨t293, A140, H⟩ := H
                  try dsimp only at H
                  have A14 := o_ A140
                  clear A140
                  obtain rfl := Option.some.inj H
                  go_enter Tryd.func13, Tryd.ntmps13
                  go_wp2_with (first | ((with_reducible refine gate_dst (N := 1) rfl ?_); (try (refine gate_guard (by rfl) ?_; dsimp only)); refine box_event ?hg (N := 1) ?hd (cs := #[.int .i64 a0_0, .int .i64 a0_1, .slice A0_2 l0_2.length c0_2, .int .i64 a0_3, .int .i64 a0_4, .slice A0_5 l0_5.length c0_5, .int .i64 a0_6, .int .i64 a0_7]) (t := 28) ?hr ?_; (case hd => rfl); (case hg => rfl); (case hr => first | (go_simp; done) | (go_simp; rfl)); intro gb288 hg w15 hbox hb; have BK288 := o_ (hbox); have GW288 := o_ ((y95_ : w.heap.size ≤ gb288)); replace HB := o_ (below_step (hd_ HB.1) hb); have GE288 := GW288; clear hb hbox hg; obtain ⟨hcz16_0, hcz16_1, hcz16_2, hcz16_3, hcz16_4, hcz16_5, hcz16_6, hcz16_7⟩ := e89_ BK288.1; obtain ⟨hfz16_0, hfz16_1, hfz16_2, hfz16_3, hfz16_4, hfz16_5, hfz16_6, hfz16_7⟩ := z90_ BK288.1) | (refine gl_ (some 5) Tryd.func49 #[.int .i64 a0_0, .int .i64 1, .int .i64 999] ?_; (with_reducible refine (impl_InRange.calls a0_0 1 999 true _ A2.1).mono ?_); rintro e w' ⟨rfl, ⟨nd, rfl⟩⟩; refine ⟨_, rfl, ?_⟩) | (go_at_call 49; (with_reducible refine (impl_InRange.calls a0_1 1 8 true _ A4.1).mono ?_); rintro e w' ⟨rfl, ⟨nd, rfl⟩⟩) | (go_at_call 50; (with_reducible refine (impl_isAscending.calls k _ _ l0_2 0 7 true _ ?side1 ?side2 A6.1).mono ?_); (case side1 => repeat (first | exact (Kd.C_below HR0_2.1 wB_) | (with_reducible refine Kd.C_alloc ?_ _) | (with_reducible refine Kd.C_drewN ?_ _) | (with_reducible refine Kd.C_drew ?_))); (case side2 => exact HC0_2.1); rintro e w' ⟨rfl, ⟨nd, rfl⟩⟩) | (go_at_call 50; (with_reducible refine (impl_isAscending.calls k _ _ l0_5 1 30 true _ ?side1 ?side2 A11.1).mono ?_); (case side1 => repeat (first | exact (Kd.C_below HR0_5.1 wB_) | (with_reducible refine Kd.C_alloc ?_ _) | (with_reducible refine Kd.C_drewN ?_ _) | (with_reducible refine Kd.C_drew ?_))); (case side2 => exact HC0_5.1); rintro e w' ⟨rfl, ⟨nd, rfl⟩⟩) | (go_at_call 51; (with_reducible refine (impl_IsSpan.calls a0_6 a0_7 t293 _ A14.1).mono ?_); rintro e w17 ⟨rfl, hb⟩; replace BK288 := o_ (blk_below (bd_ BK288.1) hb); replace HB := o_ (below_step wB_ hb); (try clear hb)))
                  go_ret
                  exact ⟨rt_, wB_⟩
                · rw [if_neg c13] at H
                  have c13b0 := decide_eq_false c13
                  have c13b1 : decide (l0_5.length ≤ 10) = false := decide_eq_false (by omega)
                  clear c13
                  obtain rfl := Option.some.inj H
                  go_enter Tryd.func13, Tryd.ntmps13
                  go_wp2_with (first | ((with_reducible refine gate_dst (N := 1) rfl ?_); (try (refine gate_guard (by rfl) ?_; dsimp only)); refine box_event ?hg (N := 1) ?hd (cs := #[.int .i64 a0_0, .int .i64 a0_1, .slice A0_2 l0_2.length c0_2, .int .i64 a0_3, .int .i64 a0_4, .slice A0_5 l0_5.length c0_5, .int .i64 a0_6, .int .i64 a0_7]) (t := 28) ?hr ?_; (case hd => rfl); (case hg => rfl); (case hr => first | (go_simp; done) | (go_simp; rfl)); intro gb288 hg w18 hbox hb; have BK288 := o_ (hbox); have GW288 := o_ ((y95_ : w.heap.size ≤ gb288)); replace HB := o_ (below_step (hd_ HB.1) hb); have GE288 := GW288; clear hb hbox hg; obtain ⟨hcz19_0, hcz19_1, hcz19_2, hcz19_3, hcz19_4, hcz19_5, hcz19_6, hcz19_7⟩ := e89_ BK288.1; obtain ⟨hfz19_0, hfz19_1, hfz19_2, hfz19_3, hfz19_4, hfz19_5, hfz19_6, hfz19_7⟩ := z90_ BK288.1) | (refine gl_ (some 5) Tryd.func49 #[.int .i64 a0_0, .int .i64 1, .int .i64 999] ?_; (with_reducible refine (impl_InRange.calls a0_0 1 999 true _ A2.1).mono ?_); rintro e w' ⟨rfl, ⟨nd, rfl⟩⟩; refine ⟨_, rfl, ?_⟩) | (go_at_call 49; (with_reducible refine (impl_InRange.calls a0_1 1 8 true _ A4.1).mono ?_); rintro e w' ⟨rfl, ⟨nd, rfl⟩⟩) | (go_at_call 50; (with_reducible refine (impl_isAscending.calls k _ _ l0_2 0 7 true _ ?side1 ?side2 A6.1).mono ?_); (case side1 => repeat (first | exact (Kd.C_below HR0_2.1 wB_) | (with_reducible refine Kd.C_alloc ?_ _) | (with_reducible refine Kd.C_drewN ?_ _) | (with_reducible refine Kd.C_drew ?_))); (case side2 => exact HC0_2.1); rintro e w' ⟨rfl, ⟨nd, rfl⟩⟩) | (go_at_call 50; (with_reducible refine (impl_isAscending.calls k _ _ l0_5 1 30 true _ ?side1 ?side2 A11.1).mono ?_); (case side1 => repeat (first | exact (Kd.C_below HR0_5.1 wB_) | (with_reducible refine Kd.C_alloc ?_ _) | (with_reducible refine Kd.C_drewN ?_ _) | (with_reducible refine Kd.C_drew ?_))); (case side2 => exact HC0_5.1); rintro e w' ⟨rfl, ⟨nd, rfl⟩⟩))
                  go_ret
                  exact ⟨rt_, wB_⟩
              · replace c12 := Bool.eq_false_iff.mpr c12
                subst c12
                have H1 := H
                rw [if_neg nt_] at H1
                clear H
                have H := H1
                clear H1
                obtain rfl := Option.some.inj H
                go_enter Tryd.func13, Tryd.ntmps13
                go_wp2_with (first | ((with_reducible refine gate_dst (N := 1) rfl ?_); (try (refine gate_guard (by rfl) ?_; dsimp only)); refine box_event ?hg (N := 1) ?hd (cs := #[.int .i64 a0_0, .int .i64 a0_1, .slice A0_2 l0_2.length c0_2, .int .i64 a0_3, .int .i64 a0_4, .slice A0_5 l0_5.length c0_5, .int .i64 a0_6, .int .i64 a0_7]) (t := 28) ?hr ?_; (case hd => rfl); (case hg => rfl); (case hr => first | (go_simp; done) | (go_simp; rfl)); intro gb288 hg w20 hbox hb; have BK288 := o_ (hbox); have GW288 := o_ ((y95_ : w.heap.size ≤ gb288)); replace HB := o_ (below_step (hd_ HB.1) hb); have GE288 := GW288; clear hb hbox hg; obtain ⟨hcz21_0, hcz21_1, hcz21_2, hcz21_3, hcz21_4, hcz21_5, hcz21_6, hcz21_7⟩ := e89_ BK288.1; obtain ⟨hfz21_0, hfz21_1, hfz21_2, hfz21_3, hfz21_4, hfz21_5, hfz21_6, hfz21_7⟩ := z90_ BK288.1) | (refine gl_ (some 5) Tryd.func49 #[.int .i64 a0_0, .int .i64 1, .int .i64 999] ?_; (with_reducible refine (impl_InRange.calls a0_0 1 999 true _ A2.1).mono ?_); rintro e w' ⟨rfl, ⟨nd, rfl⟩⟩; refine ⟨_, rfl, ?_⟩) | (go_at_call 49; (with_reducible refine (impl_InRange.calls a0_1 1 8 true _ A4.1).mono ?_); rintro e w' ⟨rfl, ⟨nd, rfl⟩⟩) | (go_at_call 50; (with_reducible refine (impl_isAscending.calls k _ _ l0_2 0 7 true _ ?side1 ?side2 A6.1).mono ?_); (case side1 => repeat (first | exact (Kd.C_below HR0_2.1 wB_) | (with_reducible refine Kd.C_alloc ?_ _) | (with_reducible refine Kd.C_drewN ?_ _) | (with_reducible refine Kd.C_drew ?_))); (case side2 => exact HC0_2.1); rintro e w' ⟨rfl, ⟨nd, rfl⟩⟩) | (go_at_call 50; (with_reducible refine (impl_isAscending.calls k _ _ l0_5 1 30 false _ ?side1 ?side2 A11.1).mono ?_); (case side1 => repeat (first | exact (Kd.C_below HR0_5.1 wB_) | (with_reducible refine Kd.C_alloc ?_ _) | (with_reducible refine Kd.C_drewN ?_ _) | (with_reducible refine Kd.C_drew ?_))); (case side2 => exact HC0_5.1); rintro e w' ⟨rfl, ⟨nd, rfl⟩⟩))
                go_ret
                exact ⟨rt_, wB_⟩
            · rw [if_neg c10] at H
              have c10b0 := decide_eq_false c10
              clear c10
              obtain rfl := Option.some.inj H
              go_enter Tryd.func13, Tryd.ntmps13
              go_wp2_with (first | ((with_reducible refine gate_dst (N := 1) rfl ?_); (try (refine gate_guard (by rfl) ?_; dsimp only)); refine box_event ?hg (N := 1) ?hd (cs := #[.int .i64 a0_0, .int .i64 a0_1, .slice A0_2 l0_2.length c0_2, .int .i64 a0_3, .int .i64 a0_4, .slice A0_5 l0_5.length c0_5, .int .i64 a0_6, .int .i64 a0_7]) (t := 28) ?hr ?_; (case hd => rfl); (case hg => rfl); (case hr => first | (go_simp; done) | (go_simp; rfl)); intro gb288 hg w22 hbox hb; have BK288 := o_ (hbox); have GW288 := o_ ((y95_ : w.heap.size ≤ gb288)); replace HB := o_ (below_step (hd_ HB.1) hb); have GE288 := GW288; clear hb hbox hg; obtain ⟨hcz23_0, hcz23_1, hcz23_2, hcz23_3, hcz23_4, hcz23_5, hcz23_6, hcz23_7⟩ := e89_ BK288.1; obtain ⟨hfz23_0, hfz23_1, hfz23_2, hfz23_3, hfz23_4, hfz23_5, hfz23_6, hfz23_7⟩ := z90_ BK288.1) | (refine gl_ (some 5) Tryd.func49 #[.int .i64 a0_0, .int .i64 1, .int .i64 999] ?_; (with_reducible refine (impl_InRange.calls a0_0 1 999 true _ A2.1).mono ?_); rintro e w' ⟨rfl, ⟨nd, rfl⟩⟩; refine ⟨_, rfl, ?_⟩) | (go_at_call 49; (with_reducible refine (impl_InRange.calls a0_1 1 8 true _ A4.1).mono ?_); rintro e w' ⟨rfl, ⟨nd, rfl⟩⟩) | (go_at_call 50; (with_reducible refine (impl_isAscending.calls k _ _ l0_2 0 7 true _ ?side1 ?side2 A6.1).mono ?_); (case side1 => repeat (first | exact (Kd.C_below HR0_2.1 wB_) | (with_reducible refine Kd.C_alloc ?_ _) | (with_reducible refine Kd.C_drewN ?_ _) | (with_reducible refine Kd.C_drew ?_))); (case side2 => exact HC0_2.1); rintro e w' ⟨rfl, ⟨nd, rfl⟩⟩))
              go_ret
              exact ⟨rt_, wB_⟩
          · rw [if_neg c9] at H
            have c9b0 := decide_eq_false c9
            clear c9
            obtain rfl := Option.some.inj H
            go_enter Tryd.func13, Tryd.ntmps13
            go_wp2_with (first | ((with_reducible refine gate_dst (N := 1) rfl ?_); (try (refine gate_guard (by rfl) ?_; dsimp only)); refine box_event ?hg (N := 1) ?hd (cs := #[.int .i64 a0_0, .int .i64 a0_1, .slice A0_2 l0_2.length c0_2, .int .i64 a0_3, .int .i64 a0_4, .slice A0_5 l0_5.length c0_5, .int .i64 a0_6, .int .i64 a0_7]) (t := 28) ?hr ?_; (case hd => rfl); (case hg => rfl); (case hr => first | (go_simp; done) | (go_simp; rfl)); intro gb288 hg w24 hbox hb; have BK288 := o_ (hbox); have GW288 := o_ ((y95_ : w.heap.size ≤ gb288)); replace HB := o_ (below_step (hd_ HB.1) hb); have GE288 := GW288; clear hb hbox hg; obtain ⟨hcz25_0, hcz25_1, hcz25_2, hcz25_3, hcz25_4, hcz25_5, hcz25_6, hcz25_7⟩ := e89_ BK288.1; obtain ⟨hfz25_0, hfz25_1, hfz25_2, hfz25_3, hfz25_4, hfz25_5, hfz25_6, hfz25_7⟩ := z90_ BK288.1) | (refine gl_ (some 5) Tryd.func49 #[.int .i64 a0_0, .int .i64 1, .int .i64 999] ?_; (with_reducible refine (impl_InRange.calls a0_0 1 999 true _ A2.1).mono ?_); rintro e w' ⟨rfl, ⟨nd, rfl⟩⟩; refine ⟨_, rfl, ?_⟩) | (go_at_call 49; (with_reducible refine (impl_InRange.calls a0_1 1 8 true _ A4.1).mono ?_); rintro e w' ⟨rfl, ⟨nd, rfl⟩⟩) | (go_at_call 50; (with_reducible refine (impl_isAscending.calls k _ _ l0_2 0 7 true _ ?side1 ?side2 A6.1).mono ?_); (case side1 => repeat (first | exact (Kd.C_below HR0_2.1 wB_) | (with_reducible refine Kd.C_alloc ?_ _) | (with_reducible refine Kd.C_drewN ?_ _) | (with_reducible refine Kd.C_drew ?_))); (case side2 => exact HC0_2.1); rintro e w' ⟨rfl, ⟨nd, rfl⟩⟩))
            go_ret
            exact ⟨rt_, wB_⟩
        · rw [if_neg c8] at H
          have c8b0 := decide_eq_false c8
          clear c8
          obtain rfl := Option.some.inj H
          go_enter Tryd.func13, Tryd.ntmps13
          go_wp2_with (first | ((with_reducible refine gate_dst (N := 1) rfl ?_); (try (refine gate_guard (by rfl) ?_; dsimp only)); refine box_event ?hg (N := 1) ?hd (cs := #[.int .i64 a0_0, .int .i64 a0_1, .slice A0_2 l0_2.length c0_2, .int .i64 a0_3, .int .i64 a0_4, .slice A0_5 l0_5.length c0_5, .int .i64 a0_6, .int .i64 a0_7]) (t := 28) ?hr ?_; (case hd => rfl); (case hg => rfl); (case hr => first | (go_simp; done) | (go_simp; rfl)); intro gb288 hg w26 hbox hb; have BK288 := o_ (hbox); have GW288 := o_ ((y95_ : w.heap.size ≤ gb288)); replace HB := o_ (below_step (hd_ HB.1) hb); have GE288 := GW288; clear hb hbox hg; obtain ⟨hcz27_0, hcz27_1, hcz27_2, hcz27_3, hcz27_4, hcz27_5, hcz27_6, hcz27_7⟩ := e89_ BK288.1; obtain ⟨hfz27_0, hfz27_1, hfz27_2, hfz27_3, hfz27_4, hfz27_5, hfz27_6, hfz27_7⟩ := z90_ BK288.1) | (refine gl_ (some 5) Tryd.func49 #[.int .i64 a0_0, .int .i64 1, .int .i64 999] ?_; (with_reducible refine (impl_InRange.calls a0_0 1 999 true _ A2.1).mono ?_); rintro e w' ⟨rfl, ⟨nd, rfl⟩⟩; refine ⟨_, rfl, ?_⟩) | (go_at_call 49; (with_reducible refine (impl_InRange.calls a0_1 1 8 true _ A4.1).mono ?_); rintro e w' ⟨rfl, ⟨nd, rfl⟩⟩) | (go_at_call 50; (with_reducible refine (impl_isAscending.calls k _ _ l0_2 0 7 true _ ?side1 ?side2 A6.1).mono ?_); (case side1 => repeat (first | exact (Kd.C_below HR0_2.1 wB_) | (with_reducible refine Kd.C_alloc ?_ _) | (with_reducible refine Kd.C_drewN ?_ _) | (with_reducible refine Kd.C_drew ?_))); (case side2 => exact HC0_2.1); rintro e w' ⟨rfl, ⟨nd, rfl⟩⟩))
          go_ret
          exact ⟨rt_, wB_⟩
      · replace c7 := Bool.eq_false_iff.mpr c7
        subst c7
        have H1 := H
        rw [if_neg nt_] at H1
        clear H
        have H := H1
        clear H1
        obtain rfl := Option.some.inj H
        go_enter Tryd.func13, Tryd.ntmps13
        go_wp2_with (first | ((with_reducible refine gate_dst (N := 1) rfl ?_); (try (refine gate_guard (by rfl) ?_; dsimp only)); refine box_event ?hg (N := 1) ?hd (cs := #[.int .i64 a0_0, .int .i64 a0_1, .slice A0_2 l0_2.length c0_2, .int .i64 a0_3, .int .i64 a0_4, .slice A0_5 l0_5.length c0_5, .int .i64 a0_6, .int .i64 a0_7]) (t := 28) ?hr ?_; (case hd => rfl); (case hg => rfl); (case hr => first | (go_simp; done) | (go_simp; rfl)); intro gb288 hg w28 hbox hb; have BK288 := o_ (hbox); have GW288 := o_ ((y95_ : w.heap.size ≤ gb288)); replace HB := o_ (below_step (hd_ HB.1) hb); have GE288 := GW288; clear hb hbox hg; obtain ⟨hcz29_0, hcz29_1, hcz29_2, hcz29_3, hcz29_4, hcz29_5, hcz29_6, hcz29_7⟩ := e89_ BK288.1; obtain ⟨hfz29_0, hfz29_1, hfz29_2, hfz29_3, hfz29_4, hfz29_5, hfz29_6, hfz29_7⟩ := z90_ BK288.1) | (refine gl_ (some 5) Tryd.func49 #[.int .i64 a0_0, .int .i64 1, .int .i64 999] ?_; (with_reducible refine (impl_InRange.calls a0_0 1 999 true _ A2.1).mono ?_); rintro e w' ⟨rfl, ⟨nd, rfl⟩⟩; refine ⟨_, rfl, ?_⟩) | (go_at_call 49; (with_reducible refine (impl_InRange.calls a0_1 1 8 true _ A4.1).mono ?_); rintro e w' ⟨rfl, ⟨nd, rfl⟩⟩) | (go_at_call 50; (with_reducible refine (impl_isAscending.calls k _ _ l0_2 0 7 false _ ?side1 ?side2 A6.1).mono ?_); (case side1 => repeat (first | exact (Kd.C_below HR0_2.1 wB_) | (with_reducible refine Kd.C_alloc ?_ _) | (with_reducible refine Kd.C_drewN ?_ _) | (with_reducible refine Kd.C_drew ?_))); (case side2 => exact HC0_2.1); rintro e w' ⟨rfl, ⟨nd, rfl⟩⟩))
        go_ret
        exact ⟨rt_, wB_⟩
    · replace c5 := Bool.eq_false_iff.mpr c5
      subst c5
      have H1 := H
      rw [if_neg nt_] at H1
      clear H
      have H := H1
      clear H1
      obtain rfl := Option.some.inj H
      go_enter Tryd.func13, Tryd.ntmps13
      go_wp2_with (first | ((with_reducible refine gate_dst (N := 1) rfl ?_); (try (refine gate_guard (by rfl) ?_; dsimp only)); refine box_event ?hg (N := 1) ?hd (cs := #[.int .i64 a0_0, .int .i64 a0_1, .slice A0_2 l0_2.length c0_2, .int .i64 a0_3, .int .i64 a0_4, .slice A0_5 l0_5.length c0_5, .int .i64 a0_6, .int .i64 a0_7]) (t := 28) ?hr ?_; (case hd => rfl); (case hg => rfl); (case hr => first | (go_simp; done) | (go_simp; rfl)); intro gb288 hg w30 hbox hb; have BK288 := o_ (hbox); have GW288 := o_ ((y95_ : w.heap.size ≤ gb288)); replace HB := o_ (below_step (hd_ HB.1) hb); have GE288 := GW288; clear hb hbox hg; obtain ⟨hcz31_0, hcz31_1, hcz31_2, hcz31_3, hcz31_4, hcz31_5, hcz31_6, hcz31_7⟩ := e89_ BK288.1; obtain ⟨hfz31_0, hfz31_1, hfz31_2, hfz31_3, hfz31_4, hfz31_5, hfz31_6, hfz31_7⟩ := z90_ BK288.1) | (refine gl_ (some 5) Tryd.func49 #[.int .i64 a0_0, .int .i64 1, .int .i64 999] ?_; (with_reducible refine (impl_InRange.calls a0_0 1 999 true _ A2.1).mono ?_); rintro e w' ⟨rfl, ⟨nd, rfl⟩⟩; refine ⟨_, rfl, ?_⟩) | (go_at_call 49; (with_reducible refine (impl_InRange.calls a0_1 1 8 false _ A4.1).mono ?_); rintro e w' ⟨rfl, ⟨nd, rfl⟩⟩))
      go_ret
      exact ⟨rt_, wB_⟩
  · replace c3 := Bool.eq_false_iff.mpr c3
    subst c3
    have H1 := H
    rw [if_neg nt_] at H1
    clear H
    have H := H1
    clear H1
    obtain rfl := Option.some.inj H
    go_enter Tryd.func13, Tryd.ntmps13
    go_wp2_with (first | ((with_reducible refine gate_dst (N := 1) rfl ?_); (try (refine gate_guard (by rfl) ?_; dsimp only)); refine box_event ?hg (N := 1) ?hd (cs := #[.int .i64 a0_0, .int .i64 a0_1, .slice A0_2 l0_2.length c0_2, .int .i64 a0_3, .int .i64 a0_4, .slice A0_5 l0_5.length c0_5, .int .i64 a0_6, .int .i64 a0_7]) (t := 28) ?hr ?_; (case hd => rfl); (case hg => rfl); (case hr => first | (go_simp; done) | (go_simp; rfl)); intro gb288 hg w32 hbox hb; have BK288 := o_ (hbox); have GW288 := o_ ((y95_ : w.heap.size ≤ gb288)); replace HB := o_ (below_step (hd_ HB.1) hb); have GE288 := GW288; clear hb hbox hg; obtain ⟨hcz33_0, hcz33_1, hcz33_2, hcz33_3, hcz33_4, hcz33_5, hcz33_6, hcz33_7⟩ := e89_ BK288.1; obtain ⟨hfz33_0, hfz33_1, hfz33_2, hfz33_3, hfz33_4, hfz33_5, hfz33_6, hfz33_7⟩ := z90_ BK288.1) | (refine gl_ (some 5) Tryd.func49 #[.int .i64 a0_0, .int .i64 1, .int .i64 999] ?_; (with_reducible refine (impl_InRange.calls a0_0 1 999 false _ A2.1).mono ?_); rintro e w' ⟨rfl, ⟨nd, rfl⟩⟩; refine ⟨_, rfl, ?_⟩))
    go_ret
    exact ⟨rt_, wB_⟩

/-! ### strings_Join: function 46 -/
def strings_Join.f (l0 : List ByteArray) (a1 : ByteArray) : Option ByteArray := if l0.length ≤ 140737488355328 ∧ (Lib.join (l0.map (·.data.toList)) a1.data.toList).length ≤ 140737488355328 then some ⟨(Lib.join (l0.map (·.data.toList)) a1.data.toList).toArray⟩ else none
theorem strings_Join.calls (A0 : Option Addr) (c0 : Nat) (l0 : List ByteArray) (a1 : ByteArray) (r : ByteArray) (w : World) (hr0 : Kd.C Kd.string w A0 l0.length l0) (hc0 : l0.length ≤ c0) (h : strings_Join.f l0 a1 = some r) :
    Calls Tryd.prog 46 #[.slice A0 l0.length c0, .string a1] w fun e w' => e = .returned (.string r) ∧ Below w.heap.size w w' := by
  unfold strings_Join.f at h
  split at h
  case isFalse => cases h
  rename_i hin
  obtain rfl := Option.some.inj h
  exact Itm.join A0 c0 l0 a1 w hr0 hc0 hin.1 hin.2


/-! ### strconv_Itoa: function 79 -/
def strconv_Itoa.f (a0 : Int) : Option ByteArray := if -9223372036854775808 ≤ a0 ∧ a0 ≤ 9223372036854775807 then some ⟨(Lib.itoa a0).toArray⟩ else none
theorem strconv_Itoa.calls (a0 : Int) (r : ByteArray) (w : World) (h : strconv_Itoa.f a0 = some r) (TB_ : (Itm.Tb true true) w) :
    Calls Tryd.prog 79 #[.int .i64 a0] w fun e w' => e = .returned (.string r) ∧ Below w.heap.size w w' := by
  unfold strconv_Itoa.f at h
  split at h
  case isFalse => cases h
  rename_i hin
  obtain rfl := Option.some.inj h
  exact Itm.itoa a0 hin.1 hin.2 w TB_


/-! ### impl_FormatInt: function 47 -/
def impl_FormatInt.f (a0 : Int) : Option (ByteArray) := (strconv_Itoa.f a0).bind fun t294 => (some t294)
set_option maxHeartbeats 8000000 in
set_option maxRecDepth 100000 in
theorem impl_FormatInt.calls (a0 : Int) (r : ByteArray) (w : World) (h : impl_FormatInt.f a0 = some r) (TB_ : (Itm.Tb true true) w) :
    Calls Tryd.prog 47 #[.int .i64 a0] w fun e w' => e = .returned (.string r) ∧ Below w.heap.size w w' := by
  have HB := o_ (Below.refl w.heap.size w)
  have H : ((strconv_Itoa.f a0).bind fun t294 => (some t294)) = some r := h
  clear h
  replace H := Option.bind_eq_some_iff.mp H
  obtain ⟨t294, A20, H⟩ := H
  try dsimp only at H
  have A2 := o_ A20
  clear A20
  obtain rfl := Option.some.inj H
  go_enter Tryd.func47, Tryd.ntmps47
  go_wp2_with (first | (refine gl_ (some 4) Tryd.func79 #[.int .i64 a0] ?_; (with_reducible refine (strconv_Itoa.calls a0 t294 _ A2.1 (TB_.below (hd_ HB.1))).mono ?_); rintro e w3 ⟨rfl, hb⟩; refine ⟨_, rfl, ?_⟩; replace HB := o_ (below_step (hd_ HB.1) hb); (try clear hb)))
  go_ret
  exact ⟨rt_, hd_ HB.1⟩

end Go.Proofs.YtihnanfekchlhaaDoor.PFnForms
