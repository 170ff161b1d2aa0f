-- Written for this claim by a program (a printer turned to this claim); Lean checks it.
import Derived.Test.YtnlgilmbmoiniaaPFnExactTasksForx0
import Derived.Test.YtnlgilmbmoiniaaPFnExactTasksForx2
namespace Go.Proofs.Ytnlgilmbmoiniaa.PFnExactTasksFor
open Go.RowKit Go.Proofs.YtnlgilmbmoiniaaW.PrintWords Go.Proofs.YtnlgilmbmoiniaaW.PrintLast Go.Proofs.YtnlgilmbmoiniaaW.PrintMore
attribute [local go_sem] max2_int min2_int max_two min_two max_three min_three max_four min_four   -- for this text's walks alone
set_option linter.unusedVariables false
set_option linter.unusedSimpArgs false

/-! ### spec_AreClaims: function 35 -/
def spec_AreClaims.okA (l : List S69) (i : Int) : Bool := decide (1 ≤ (rd_T69 l i).f0 ∧ (rd_T69 l i).f0 ≤ 999) && decide (1 ≤ (rd_T69 l i).f1 ∧ (rd_T69 l i).f1 ≤ 999) && decide (1 ≤ (rd_T69 l i).f2 ∧ (rd_T69 l i).f2 ≤ 999) && decide (0 ≤ (rd_T69 l i).f3 ∧ (rd_T69 l i).f3 ≤ 100000) && decide (0 ≤ (rd_T69 l i).f4 ∧ (rd_T69 l i).f4 ≤ 3) && !(decide (0 < i) && decide ((rd_T69 l i).f0 ≤ (rd_T69 l (i - 1)).f0))
def spec_AreClaims.okB (x y : S69) : Bool := !((x.f4 == 3) && ((y.f4 == 3) && (y.f2 == x.f2)))
def spec_AreClaims.okC (l : List S69) (i : Int) : Bool := spec_AreClaims.okA l i && (l.take i.toNat).all (spec_AreClaims.okB (rd_T69 l i))
def spec_AreClaims.okL (l : List S69) : Bool := decide ((l.length : Int) ≤ 20) && (List.range l.length).all (fun n => spec_AreClaims.okC l (n : Int))
def spec_AreClaims.f (l0 : List S69) : Option Bool := some (spec_AreClaims.okL l0)
theorem spec_AreClaims.bad (l : List S69) (i : Int) (h0 : 0 ≤ i) (h1 : i < (l.length : Int)) (h : spec_AreClaims.okC l i = false) : spec_AreClaims.okL l = false := by
  unfold spec_AreClaims.okL
  have e : (List.range l.length).all (fun n => spec_AreClaims.okC l (n : Int)) = false := by
    rw [List.all_eq_false]; exact ⟨i.toNat, List.mem_range.2 (by omega), by rw [Int.toNat_of_nonneg h0, h]; simp⟩
  rw [e, Bool.and_false]
theorem spec_AreClaims.badA (l : List S69) (i : Int) (h0 : 0 ≤ i) (h1 : i < (l.length : Int)) (h : spec_AreClaims.okA l i = false) : spec_AreClaims.okL l = false :=
  spec_AreClaims.bad l i h0 h1 (by unfold spec_AreClaims.okC; rw [h, Bool.false_and])
theorem spec_AreClaims.step (l : List S69) (i : Int) (h0 : 0 ≤ i) (h : (List.range i.toNat).all (fun n => spec_AreClaims.okC l (n : Int)) = true) (hA : spec_AreClaims.okA l i = true) (hB : (l.take i.toNat).all (spec_AreClaims.okB (rd_T69 l i)) = true) : (List.range (i + 1).toNat).all (fun n => spec_AreClaims.okC l (n : Int)) = true := by
  have e : (i + 1).toNat = i.toNat + 1 := by omega
  have h2 : spec_AreClaims.okC l i = true := by unfold spec_AreClaims.okC; rw [hA, hB]; rfl
  rw [e, List.range_succ, List.all_append, h]; simp [Int.toNat_of_nonneg h0, h2]
theorem spec_AreClaims.rdt (l : List S69) (z : Int) (h0 : 0 ≤ z) (h1 : z < (l.length : Int)) : ∃ h : z.toNat < l.length, rd_T69 l z = l[z.toNat] :=
  ⟨by omega, by unfold rd_T69; simp [List.getD, show z.toNat < l.length by omega]⟩
theorem spec_AreClaims.stepB (l : List S69) (x : S69) (z : Int) (h0 : 0 ≤ z) (h1 : z < (l.length : Int)) (h : (l.take z.toNat).all (spec_AreClaims.okB x) = true) (h2 : spec_AreClaims.okB x (rd_T69 l z) = true) : (l.take (z + 1).toNat).all (spec_AreClaims.okB x) = true := by
  obtain ⟨hz, e2⟩ := spec_AreClaims.rdt l z h0 h1
  have e : (z + 1).toNat = z.toNat + 1 := by omega
  rw [e, List.take_succ_eq_append_getElem hz, List.all_append, h, ← e2]; simp [h2]
theorem spec_AreClaims.badB (l : List S69) (i z : Int) (h0 : 0 ≤ z) (hz : z < i) (h1 : i < (l.length : Int)) (h : spec_AreClaims.okB (rd_T69 l i) (rd_T69 l z) = false) : spec_AreClaims.okL l = false := by
  obtain ⟨hz2, e2⟩ := spec_AreClaims.rdt l z h0 (by omega)
  refine spec_AreClaims.bad l i (by omega) h1 ?_
  have e : (l.take i.toNat).all (spec_AreClaims.okB (rd_T69 l i)) = false := by
    rw [List.all_eq_false]
    exact ⟨rd_T69 l z, by rw [e2, List.mem_take_iff_getElem]; exact ⟨z.toNat, by omega, rfl⟩, by rw [h]; simp⟩
  unfold spec_AreClaims.okC; rw [e, Bool.and_false]
theorem spec_AreClaims.in1 (a b c : Int) : spec_l1In.f a b c = some (decide (b ≤ a ∧ a ≤ c)) := by unfold spec_l1In.f; split <;> simp [*]
theorem spec_AreClaims.two (b : Bool) : b = true ∨ b = false := by cases b <;> simp
theorem spec_AreClaims.ord (i j L : Int) (h0 : 0 ≤ i) (h1 : i < L) (h2 : L ≤ 9223372036854775807) (hj : j = if 0 < i then i - 1 else 0) : (decide (0 < i) = true ∧ IntKind.i64.wrap (i - 1) = j ∧ i - 1 = j) ∨ (decide (0 < i) = false ∧ True ∧ True) := by
  by_cases h : 0 < i
  · rw [if_pos h] at hj
    exact Or.inl ⟨decide_eq_true h, by rw [i64_w, hj]; unfold wrap64; omega, hj.symm⟩
  · exact Or.inr ⟨decide_eq_false h, trivial, trivial⟩
theorem spec_AreClaims.cells {w : World} {g : Nat} {t : TypeId} {i0 i1 i2 i3 i4 : Int} (h : w.heap[g]? = some (.cells #[.int .i64 i0, .int .i64 i1, .int .i64 i2, .int .i64 i3, .int .i64 i4] t (0, 0))) : w.cell? ⟨g, 0, none⟩ = some (.int .i64 i0) ∧ w.cell? ⟨g, 1, none⟩ = some (.int .i64 i1) ∧ w.cell? ⟨g, 2, none⟩ = some (.int .i64 i2) ∧ w.cell? ⟨g, 3, none⟩ = some (.int .i64 i3) ∧ w.cell? ⟨g, 4, none⟩ = some (.int .i64 i4) := ⟨(blk_cell h 0).trans rfl, (blk_cell h 1).trans rfl, (blk_cell h 2).trans rfl, (blk_cell h 3).trans rfl, (blk_cell h 4).trans rfl⟩
theorem spec_AreClaims.froz {w : World} {g : Nat} {t : TypeId} {cs : Array Value} (h : w.heap[g]? = some (.cells cs t (0, 0))) : w.frozen? ⟨g, 0, none⟩ = false ∧ w.frozen? ⟨g, 1, none⟩ = false ∧ w.frozen? ⟨g, 2, none⟩ = false ∧ w.frozen? ⟨g, 3, none⟩ = false ∧ w.frozen? ⟨g, 4, none⟩ = false := ⟨blk_frozen h 0, blk_frozen h 1, blk_frozen h 2, blk_frozen h 3, blk_frozen h 4⟩
abbrev spec_AreClaims.H (w : World) (g : Nat) (x : S69) (a : Addr) (y : S69) : Prop := w.cell? ⟨g, 0, none⟩ = some (.int .i64 x.f0) ∧ w.cell? ⟨g, 1, none⟩ = some (.int .i64 x.f1) ∧ w.cell? ⟨g, 2, none⟩ = some (.int .i64 x.f2) ∧ w.cell? ⟨g, 3, none⟩ = some (.int .i64 x.f3) ∧ w.cell? ⟨g, 4, none⟩ = some (.int .i64 x.f4) ∧ w.cell? a = some (.int .i64 y.f0) ∧ w.cell? ⟨a.block, a.off + 1, none⟩ = some (.int .i64 y.f1) ∧ w.cell? ⟨a.block, a.off + 2, none⟩ = some (.int .i64 y.f2) ∧ w.cell? ⟨a.block, a.off + 3, none⟩ = some (.int .i64 y.f3) ∧ w.cell? ⟨a.block, a.off + 4, none⟩ = some (.int .i64 y.f4)
abbrev spec_AreClaims.B (w : World) (g : Nat) (x : S69) : Prop := w.heap[g]? = some (.cells #[.int .i64 x.f0, .int .i64 x.f1, .int .i64 x.f2, .int .i64 x.f3, .int .i64 x.f4] 69 (0, 0))
theorem spec_AreClaims.held {w w' : World} {g : Nat} {x y : S69} {a : Addr} (h : spec_AreClaims.B w' g x) (hb : Below w.heap.size w w') (hy : w.cell? a = some (.int .i64 y.f0) ∧ w.cell? ⟨a.block, a.off + 1, none⟩ = some (.int .i64 y.f1) ∧ w.cell? ⟨a.block, a.off + 2, none⟩ = some (.int .i64 y.f2) ∧ w.cell? ⟨a.block, a.off + 3, none⟩ = some (.int .i64 y.f3) ∧ w.cell? ⟨a.block, a.off + 4, none⟩ = some (.int .i64 y.f4)) : spec_AreClaims.H w' g x a y :=
  ⟨(blk_cell h 0).trans rfl, (blk_cell h 1).trans rfl, (blk_cell h 2).trans rfl, (blk_cell h 3).trans rfl, (blk_cell h 4).trans rfl, cb_ hb hy.1, cb_ hb hy.2.1, cb_ hb hy.2.2.1, cb_ hb hy.2.2.2.1, cb_ hb hy.2.2.2.2⟩
theorem spec_AreClaims.HB_ {P : Prop} (h : P := by repeat (first | (with_reducible first | exact HB.out | apply below_alloc | apply pw_below_drewN | apply below_drew1 | refine below_set ?_ GE.out) | exact HB.out)) : P := h
theorem spec_AreClaims.put5 {w : World} {g : Nat} {x : S69} (h : w.heap[g]? = some (.cells #[.int .i64 0, .int .i64 0, .int .i64 0, .int .i64 0, .int .i64 0] 69 (0, 0))) : spec_AreClaims.B (((((w.setCell ⟨g, 0, none⟩ (.int .i64 x.f0)).setCell ⟨g, 1, none⟩ (.int .i64 x.f1)).setCell ⟨g, 2, none⟩ (.int .i64 x.f2)).setCell ⟨g, 3, none⟩ (.int .i64 x.f3)).setCell ⟨g, 4, none⟩ (.int .i64 x.f4)) g x := by
  refine blk_put (cs := #[.int .i64 x.f0, .int .i64 x.f1, .int .i64 x.f2, .int .i64 x.f3, .int .i64 0]) ?_ 4 _ rfl
  refine blk_put (cs := #[.int .i64 x.f0, .int .i64 x.f1, .int .i64 x.f2, .int .i64 0, .int .i64 0]) ?_ 3 _ rfl
  refine blk_put (cs := #[.int .i64 x.f0, .int .i64 x.f1, .int .i64 0, .int .i64 0, .int .i64 0]) ?_ 2 _ rfl
  refine blk_put (cs := #[.int .i64 x.f0, .int .i64 0, .int .i64 0, .int .i64 0, .int .i64 0]) ?_ 1 _ rfl
  exact blk_put (cs := #[.int .i64 0, .int .i64 0, .int .i64 0, .int .i64 0, .int .i64 0]) h 0 _ rfl
def spec_AreClaims.T5 : Bool × List (List Nat × List Nat) := (true, [([], []), ([0], [0]), ([1], [1]), ([2], [2]), ([3, 2], [3]), ([4], [4]), ([5, 4], [4, 5]), ([6, 4, 4], [4, 6]), ([7, 4], [4, 7]), ([4, 8], [4, 8]), ([9, 7], [9]), ([10], [10]), ([11, 10], [10, 11]), ([12, 10, 10], [10, 12]), ([13, 10], [10, 13]), ([10, 14], [10, 14]), ([15, 13], [15]), ([16], [16]), ([17, 16], [16, 17]), ([18, 16, 16], [16, 18]), ([19, 16], [16, 19]), ([16, 20], [16, 20]), ([21, 19], [21]), ([22], [22]), ([23, 22], [22, 23]), ([24, 22, 22], [22, 24]), ([25, 22], [22, 25]), ([22, 26], [22, 26]), ([27, 25], [27]), ([28], [28]), ([29, 28], [28, 29]), ([30, 28, 28], [28, 30]), ([31], [31]), ([31], [31]), ([33, 31], [31, 33]), ([32, 34, 31], [31, 32, 34]), ([35, 31], [31, 35]), ([36, 31], [31, 36]), ([31], [31]), ([38, 31], [31, 38]), ([37, 39, 31], [31, 37, 39]), ([31, 40, 28], [28, 31, 40]), ([28, 41], [28, 41])])
def spec_AreClaims.B5 : List Nat := [0, 1, 3, 7, 15, 31, 63, 127, 255, 511, 1023, 2047, 4095, 8191, 16383, 32767, 65535, 131071, 262143, 524287, 1048575, 2097151, 4194303, 8388607, 16777215, 33554431, 67108863, 134217727, 268435455, 536870911, 1073741823, 2147483647, 4294967295, 4294967295, 12884901887, 34359738367, 68719476735, 137438953471, 4294967295, 279172874239, 1099511627775, 2199023255551, 4398046511103]
theorem spec_AreClaims.tab5 : rtab .any (opsOf Try.f35 5) = spec_AreClaims.T5 := by kernel_rfl
theorem spec_AreClaims.bits5 : waitsOk spec_AreClaims.T5.2 spec_AreClaims.B5 = true := by kernel_rfl
def spec_AreClaims.T10 : Bool × List (List Nat × List Nat) := (true, [([], []), ([0], [0]), ([1], [1]), ([2], [2]), ([3], [3]), ([3], [3]), ([4, 5, 3], [3, 4, 5]), ([6, 3], [3, 6]), ([7, 3], [3, 7]), ([8, 3], [3, 8]), ([3, 9], [3, 9]), ([10, 3], [10]), ([11], [11]), ([11], [11]), ([12, 13, 11], [11, 12, 13]), ([14, 11], [11, 14]), ([15, 11], [11, 15]), ([11], [11]), ([17, 11], [11, 17]), ([16, 18, 11], [11, 16, 18]), ([11, 19], [11, 19])])
def spec_AreClaims.B10 : List Nat := [0, 1, 3, 7, 15, 15, 63, 127, 255, 511, 1023, 2047, 4095, 4095, 16383, 32767, 65535, 4095, 135167, 524287, 1048575]
theorem spec_AreClaims.tab10 : rtab .any (opsOf Try.f35 10) = spec_AreClaims.T10 := by kernel_rfl
theorem spec_AreClaims.bits10 : waitsOk spec_AreClaims.T10.2 spec_AreClaims.B10 = true := by kernel_rfl
abbrev spec_AreClaims.M0 := bm_ 43 0
abbrev spec_AreClaims.M1 := bm_ 43 1
abbrev spec_AreClaims.M2 := bm_ 43 3
abbrev spec_AreClaims.M3 := bm_ 43 7
abbrev spec_AreClaims.M4 := bm_ 43 15
abbrev spec_AreClaims.M5 := bm_ 43 31
abbrev spec_AreClaims.M6 := bm_ 43 63
abbrev spec_AreClaims.M7 := bm_ 43 127
abbrev spec_AreClaims.M8 := bm_ 43 255
abbrev spec_AreClaims.M9 := bm_ 43 511
abbrev spec_AreClaims.M10 := bm_ 43 1023
abbrev spec_AreClaims.M11 := bm_ 43 2047
abbrev spec_AreClaims.M12 := bm_ 43 4095
abbrev spec_AreClaims.M13 := bm_ 43 8191
abbrev spec_AreClaims.M14 := bm_ 43 16383
abbrev spec_AreClaims.M15 := bm_ 43 32767
abbrev spec_AreClaims.M16 := bm_ 43 65535
abbrev spec_AreClaims.M17 := bm_ 43 131071
abbrev spec_AreClaims.M18 := bm_ 43 262143
abbrev spec_AreClaims.M19 := bm_ 43 524287
abbrev spec_AreClaims.M20 := bm_ 43 1048575
abbrev spec_AreClaims.M21 := bm_ 43 2097151
abbrev spec_AreClaims.M22 := bm_ 43 4194303
abbrev spec_AreClaims.M23 := bm_ 43 8388607
abbrev spec_AreClaims.M24 := bm_ 43 16777215
abbrev spec_AreClaims.M25 := bm_ 43 33554431
abbrev spec_AreClaims.M26 := bm_ 43 67108863
abbrev spec_AreClaims.M27 := bm_ 43 134217727
abbrev spec_AreClaims.M28 := bm_ 43 268435455
abbrev spec_AreClaims.M29 := bm_ 43 536870911
abbrev spec_AreClaims.M30 := bm_ 43 1073741823
abbrev spec_AreClaims.M31 := bm_ 43 2147483647
abbrev spec_AreClaims.M32 := bm_ 43 4294967295
abbrev spec_AreClaims.M33 := bm_ 43 8589934591
abbrev spec_AreClaims.M34 := bm_ 43 17179869183
abbrev spec_AreClaims.M35 := bm_ 43 34359738367
abbrev spec_AreClaims.M36 := bm_ 43 68719476735
abbrev spec_AreClaims.M37 := bm_ 43 137438953471
abbrev spec_AreClaims.M38 := bm_ 43 412316860415
abbrev spec_AreClaims.M39 := bm_ 43 549755813887
abbrev spec_AreClaims.M40 := bm_ 43 1099511627775
abbrev spec_AreClaims.M41 := bm_ 43 2199023255551
abbrev spec_AreClaims.M42 := bm_ 43 4398046511103
abbrev spec_AreClaims.M43 := bm_ 43 8796093022207
abbrev spec_AreClaims.m0 := bm_ 21 0
abbrev spec_AreClaims.m1 := bm_ 21 1
abbrev spec_AreClaims.m2 := bm_ 21 3
abbrev spec_AreClaims.m3 := bm_ 21 7
abbrev spec_AreClaims.m4 := bm_ 21 15
abbrev spec_AreClaims.m5 := bm_ 21 31
abbrev spec_AreClaims.m6 := bm_ 21 63
abbrev spec_AreClaims.m7 := bm_ 21 127
abbrev spec_AreClaims.m8 := bm_ 21 255
abbrev spec_AreClaims.m9 := bm_ 21 511
abbrev spec_AreClaims.m10 := bm_ 21 1023
abbrev spec_AreClaims.m11 := bm_ 21 2047
abbrev spec_AreClaims.m12 := bm_ 21 4095
abbrev spec_AreClaims.m13 := bm_ 21 8191
abbrev spec_AreClaims.m14 := bm_ 21 16383
abbrev spec_AreClaims.m15 := bm_ 21 32767
abbrev spec_AreClaims.m16 := bm_ 21 65535
abbrev spec_AreClaims.m17 := bm_ 21 196607
abbrev spec_AreClaims.m18 := bm_ 21 262143
abbrev spec_AreClaims.m19 := bm_ 21 524287
abbrev spec_AreClaims.m20 := bm_ 21 1048575
abbrev spec_AreClaims.m21 := bm_ 21 2097151
set_option maxHeartbeats 8000000 in
set_option maxRecDepth 100000 in
theorem spec_AreClaims.calls (A0 : Option Addr) (c0 : Nat) (l0 : List S69) (r : Bool) (w : World) (hr0 : Kd.C k69 w A0 l0.length l0) (hc0 : l0.length ≤ c0) (h : spec_AreClaims.f l0 = some r) : Calls Try.prog 35 #[.slice A0 l0.length c0] w fun e w' => e = .returned (.bool r) ∧ Below w.heap.size w w' := by
  have hu := Try.underlying69
  have HR0 := Aside0.mk hr0
  have HC0 := Aside0.mk hc0
  have HM := Aside0.mk (show (l0.length : Int) ≤ 9223372036854775807 from by have := Kd.C_max hr0; omega)
  clear hr0 hc0
  have HR : Aside0 (spec_AreClaims.okL l0 = r) := ⟨Option.some.inj h⟩
  clear h
  have HB := Aside0.mk (Below.refl w.heap.size w)
  go_enter Try.func35, Try.ntmps35
  go_wp2
  go_loopg [3] l0.length (fun gg v w' => ∃ i : Int, v = .int .i64 i ∧ Aside0 (0 ≤ i) ∧ Aside0 (i ≤ (l0.length : Int)) ∧ Aside0 ((l0.length : Int) - i ≤ gg) ∧ Aside0 ((List.range i.toNat).all (fun n => spec_AreClaims.okC l0 (n : Int)) = true) ∧ Aside0 (Below w.heap.size w w'))
  case atStart => exact ⟨0, rfl, ⟨by omega⟩, ⟨by omega⟩, ⟨by omega⟩, ⟨by simp⟩, ⟨hd_ HB.out⟩⟩
  case round =>
    clear HB
    obtain ⟨i, rfl, I0, I1, IG, HA, HB⟩ := hrel
    by_cases hlt : i < (l0.length : Int)
    · have c2 : decide (i < (l0.length : Int)) = true := decide_eq_true hlt
      have c3 : decide (0 ≤ i) = true := decide_eq_true I0.out
      obtain ⟨j, hj⟩ : ∃ j : Int, j = if 0 < i then i - 1 else 0 := ⟨_, rfl⟩
      have hj0 : 0 ≤ j := by rw [hj]; have := I0.out; split <;> omega
      have hj1 : j < (l0.length : Int) := by rw [hj]; have := I0.out; split <;> omega
      obtain ⟨ad, e0, hx0, hx1, hx2, hx3, hx4⟩ := at_T69 HR0.out i I0.out hlt
      cases e0
      obtain ⟨ad2, e2, hy⟩ := at_T69 HR0.out j hj0 hj1
      obtain rfl : ad = ad2 := by injection e2
      clear e2
      have HY := Aside0.mk hy
      clear hy
      replace hx0 := cb_ HB.out hx0
      replace hx1 := cb_ HB.out hx1
      replace hx2 := cb_ HB.out hx2
      replace hx3 := cb_ HB.out hx3
      replace hx4 := cb_ HB.out hx4
      have C17 := Aside0.mk (spec_AreClaims.ord i j l0.length I0.out hlt HM.out hj)
      have HL := Aside0.mk hlt
      have p1 := eq_true I0.out
      have q1 := eq_true hlt
      have p2 := eq_true hj0
      have q2 := eq_true hj1
      have hwj : wrap64 j = j := by have := HM.out; unfold wrap64; omega
      have HW1 := Aside0.mk (show wrap64 (i + 1) = i + 1 from by have := I0.out; have := HM.out; unfold wrap64; omega)
      clear hlt hj hj0 hj1
      go_upto_region 5 with (first | (refine bx_ 4 #[.int .i64 0, .int .i64 0, .int .i64 0, .int .i64 0, .int .i64 0] 69 ?_; intro gb hg w5 hbox hb; have n0_ := Aside0.mk (below_step (hd_ HB.out) hb); have BK := Aside0.mk (hbox); have GE := Aside0.mk ((by rw [hg]; exact (below_size (hd_ HB.out)) : w.heap.size ≤ gb)); clear HB; have HB := n0_; clear n0_; clear hb hbox hg; obtain ⟨hcz0, hcz1, hcz2, hcz3, hcz4⟩ := spec_AreClaims.cells BK.out; obtain ⟨hfz0, hfz1, hfz2, hfz3, hfz4⟩ := spec_AreClaims.froz BK.out))
      (try simp only [Act.put, List.setIfInBounds_toArray, List.set_cons_zero, List.set_cons_succ])
      go_cut [58] (fun v wc => ∃ b : Bool, v = .bool b ∧ Aside0 (b = !spec_AreClaims.okA l0 i) ∧ Aside0 (spec_AreClaims.B wc gb (rd_T69 l0 i)) ∧ Aside0 (Below w.heap.size w wc))
      case first =>
        obtain ⟨b1, e1⟩ : ∃ b, decide (1 ≤ (rd_T69 l0 i).f0 ∧ (rd_T69 l0 i).f0 ≤ 999) = b := ⟨_, rfl⟩
        have F1 := Aside0.mk e1
        have E1 : Aside0 (spec_l1In.f (rd_T69 l0 i).f0 1 999 = some b1) := ⟨by rw [spec_AreClaims.in1, e1]⟩
        clear e1
        obtain ⟨b2, e2⟩ : ∃ b, decide (1 ≤ (rd_T69 l0 i).f1 ∧ (rd_T69 l0 i).f1 ≤ 999) = b := ⟨_, rfl⟩
        have F2 := Aside0.mk e2
        have E2 : Aside0 (spec_l1In.f (rd_T69 l0 i).f1 1 999 = some b2) := ⟨by rw [spec_AreClaims.in1, e2]⟩
        clear e2
        obtain ⟨b3, e3⟩ : ∃ b, decide (1 ≤ (rd_T69 l0 i).f2 ∧ (rd_T69 l0 i).f2 ≤ 999) = b := ⟨_, rfl⟩
        have F3 := Aside0.mk e3
        have E3 : Aside0 (spec_l1In.f (rd_T69 l0 i).f2 1 999 = some b3) := ⟨by rw [spec_AreClaims.in1, e3]⟩
        clear e3
        obtain ⟨b4, e4⟩ : ∃ b, decide (0 ≤ (rd_T69 l0 i).f3 ∧ (rd_T69 l0 i).f3 ≤ 100000) = b := ⟨_, rfl⟩
        have F4 := Aside0.mk e4
        have E4 : Aside0 (spec_l1In.f (rd_T69 l0 i).f3 0 100000 = some b4) := ⟨by rw [spec_AreClaims.in1, e4]⟩
        clear e4
        obtain ⟨b5, e5⟩ : ∃ b, decide (0 ≤ (rd_T69 l0 i).f4 ∧ (rd_T69 l0 i).f4 ≤ 3) = b := ⟨_, rfl⟩
        have F5 := Aside0.mk e5
        have E5 : Aside0 (spec_l1In.f (rd_T69 l0 i).f4 0 3 = some b5) := ⟨by rw [spec_AreClaims.in1, e5]⟩
        clear e5
        try go_wp2
        have n0_ : Aside0 (spec_AreClaims.B (((((w5.setCell ⟨gb, 0, none⟩ (.int .i64 ((rd_T69 l0 i).f0))).setCell ⟨gb, 1, none⟩ (.int .i64 ((rd_T69 l0 i).f1))).setCell ⟨gb, 2, none⟩ (.int .i64 ((rd_T69 l0 i).f2))).setCell ⟨gb, 3, none⟩ (.int .i64 ((rd_T69 l0 i).f3))).setCell ⟨gb, 4, none⟩ (.int .i64 ((rd_T69 l0 i).f4))) gb (rd_T69 l0 i)) := ⟨spec_AreClaims.put5 (bd_ BK.out)⟩
        have n1_ : Aside0 (Below w.heap.size w (((((w5.setCell ⟨gb, 0, none⟩ (.int .i64 ((rd_T69 l0 i).f0))).setCell ⟨gb, 1, none⟩ (.int .i64 ((rd_T69 l0 i).f1))).setCell ⟨gb, 2, none⟩ (.int .i64 ((rd_T69 l0 i).f2))).setCell ⟨gb, 3, none⟩ (.int .i64 ((rd_T69 l0 i).f3))).setCell ⟨gb, 4, none⟩ (.int .i64 ((rd_T69 l0 i).f4)))) := ⟨spec_AreClaims.HB_⟩
        clear BK HB
        generalize (((((w5.setCell ⟨gb, 0, none⟩ (.int .i64 ((rd_T69 l0 i).f0))).setCell ⟨gb, 1, none⟩ (.int .i64 ((rd_T69 l0 i).f1))).setCell ⟨gb, 2, none⟩ (.int .i64 ((rd_T69 l0 i).f2))).setCell ⟨gb, 3, none⟩ (.int .i64 ((rd_T69 l0 i).f3))).setCell ⟨gb, 4, none⟩ (.int .i64 ((rd_T69 l0 i).f4))) = w21 at n0_ n1_ ⊢
        have BK := Aside0.mk (blk_drew n0_.out)
        have HB := Aside0.mk (below_drew1 n1_.out)
        clear n0_ n1_
        refine start_ (n := 43) (S := fun w' => spec_AreClaims.H w' gb (rd_T69 l0 i) (ad.add ((j).toNat * 5)) (rd_T69 l0 j)) (ds := []) spec_AreClaims.M0 (by kernel_rfl) rfl rfl (spec_AreClaims.held (bd_ BK.out) spec_AreClaims.HB_ HY.out) (fun hHeld => ?_); refine with_tabW spec_AreClaims.tab5 spec_AreClaims.bits5 (fun HT_ HW_ => ?_)
        generalize w21.drew = w22 at BK HB hHeld ⊢
        refine pu_ 0 (some 16) spec_AreClaims.M1 HT_ ?_
        refine tk_ 1 (some 17) spec_AreClaims.M2 HT_ HW_ hHeld ?_
        all_goals first
        | refine pn_ 2 (some 18) spec_AreClaims.M3 HT_ ?_
        | refine one_ (i := 2) (N := some 18) spec_AreClaims.M3 rfl rfl (one_of HT_.out (by kernel_rfl)) (by decide) (fun K hK => ?_)
          refine goes_ Try.func37 (by kernel_rfl) rfl #[.int .i64 (rd_T69 l0 i).f0, .int .i64 1, .int .i64 999] (by rfl) rfl rfl ma_ ?_
          with_reducible refine (spec_l1In.calls (rd_T69 l0 i).f0 1 999 b1 _ E1.out).mono ?_
          rintro e w' ⟨rfl, ⟨nd, rfl⟩⟩
          refine ⟨_, rfl, ?_⟩
          refine hK.out _ _ (spec_AreClaims.held (bd_ BK.out) spec_AreClaims.HB_ HY.out) (fun hHeld => ?_)
          clear hK K
          refine norm_ (a' := ?_) ?_ ?_
          rotate_left
          · show Act.put _ (some 18) _ = _
            simp only [Act.put, List.setIfInBounds_toArray, List.set_cons_zero, List.set_cons_succ, i64_w, i32_w]
            rfl
          cases b1
        all_goals first | refine pn_ 3 (some 19) spec_AreClaims.M4 HT_ ?_ | refine pu_ 3 (some 19) spec_AreClaims.M4 HT_ ?_
        all_goals first | refine pn_ 4 (some 20) spec_AreClaims.M5 HT_ ?_ | refine pu_ 4 (some 20) spec_AreClaims.M5 HT_ ?_
        all_goals first | refine pn_ 5 (some 21) spec_AreClaims.M6 HT_ ?_ | refine pu_ 5 (some 21) spec_AreClaims.M6 HT_ ?_
        all_goals first | refine pn_ 6 (some 22) spec_AreClaims.M7 HT_ ?_ | refine tk_ 6 (some 22) spec_AreClaims.M7 HT_ HW_ hHeld ?_
        all_goals first
        | refine pn_ 7 (some 23) spec_AreClaims.M8 HT_ ?_
        | refine one_ (i := 7) (N := some 23) spec_AreClaims.M8 rfl rfl (one_of HT_.out (by kernel_rfl)) (by decide) (fun K hK => ?_)
          refine goes_ Try.func37 (by kernel_rfl) rfl #[.int .i64 (rd_T69 l0 i).f1, .int .i64 1, .int .i64 999] (by rfl) rfl rfl ma_ ?_
          with_reducible refine (spec_l1In.calls (rd_T69 l0 i).f1 1 999 b2 _ E2.out).mono ?_
          rintro e w' ⟨rfl, ⟨nd, rfl⟩⟩
          refine ⟨_, rfl, ?_⟩
          refine hK.out _ _ (spec_AreClaims.held (bd_ BK.out) spec_AreClaims.HB_ HY.out) (fun hHeld => ?_)
          clear hK K
          refine norm_ (a' := ?_) ?_ ?_
          rotate_left
          · show Act.put _ (some 23) _ = _
            simp only [Act.put, List.setIfInBounds_toArray, List.set_cons_zero, List.set_cons_succ, i64_w, i32_w]
            rfl
          cases b2
        all_goals first | refine pn_ 8 (some 24) spec_AreClaims.M9 HT_ ?_ | refine pu_ 8 (some 24) spec_AreClaims.M9 HT_ ?_
        all_goals first | refine pn_ 9 (some 25) spec_AreClaims.M10 HT_ ?_ | refine pu_ 9 (some 25) spec_AreClaims.M10 HT_ ?_
        all_goals first | refine pn_ 10 (some 26) spec_AreClaims.M11 HT_ ?_ | refine pu_ 10 (some 26) spec_AreClaims.M11 HT_ ?_
        all_goals first | refine pn_ 11 (some 27) spec_AreClaims.M12 HT_ ?_ | refine pu_ 11 (some 27) spec_AreClaims.M12 HT_ ?_
        all_goals first | refine pn_ 12 (some 28) spec_AreClaims.M13 HT_ ?_ | refine tk_ 12 (some 28) spec_AreClaims.M13 HT_ HW_ hHeld ?_
        all_goals first
        | refine pn_ 13 (some 29) spec_AreClaims.M14 HT_ ?_
        | refine one_ (i := 13) (N := some 29) spec_AreClaims.M14 rfl rfl (one_of HT_.out (by kernel_rfl)) (by decide) (fun K hK => ?_)
          refine goes_ Try.func37 (by kernel_rfl) rfl #[.int .i64 (rd_T69 l0 i).f2, .int .i64 1, .int .i64 999] (by rfl) rfl rfl ma_ ?_
          with_reducible refine (spec_l1In.calls (rd_T69 l0 i).f2 1 999 b3 _ E3.out).mono ?_
          rintro e w' ⟨rfl, ⟨nd, rfl⟩⟩
          refine ⟨_, rfl, ?_⟩
          refine hK.out _ _ (spec_AreClaims.held (bd_ BK.out) spec_AreClaims.HB_ HY.out) (fun hHeld => ?_)
          clear hK K
          refine norm_ (a' := ?_) ?_ ?_
          rotate_left
          · show Act.put _ (some 29) _ = _
            simp only [Act.put, List.setIfInBounds_toArray, List.set_cons_zero, List.set_cons_succ, i64_w, i32_w]
            rfl
          cases b3
        all_goals first | refine pn_ 14 (some 30) spec_AreClaims.M15 HT_ ?_ | refine pu_ 14 (some 30) spec_AreClaims.M15 HT_ ?_
        all_goals first | refine pn_ 15 (some 31) spec_AreClaims.M16 HT_ ?_ | refine pu_ 15 (some 31) spec_AreClaims.M16 HT_ ?_
        all_goals first | refine pn_ 16 (some 32) spec_AreClaims.M17 HT_ ?_ | refine pu_ 16 (some 32) spec_AreClaims.M17 HT_ ?_
        all_goals first | refine pn_ 17 (some 33) spec_AreClaims.M18 HT_ ?_ | refine pu_ 17 (some 33) spec_AreClaims.M18 HT_ ?_
        all_goals first | refine pn_ 18 (some 34) spec_AreClaims.M19 HT_ ?_ | refine tk_ 18 (some 34) spec_AreClaims.M19 HT_ HW_ hHeld ?_
        all_goals first
        | refine pn_ 19 (some 35) spec_AreClaims.M20 HT_ ?_
        | refine one_ (i := 19) (N := some 35) spec_AreClaims.M20 rfl rfl (one_of HT_.out (by kernel_rfl)) (by decide) (fun K hK => ?_)
          refine goes_ Try.func37 (by kernel_rfl) rfl #[.int .i64 (rd_T69 l0 i).f3, .int .i64 0, .int .i64 100000] (by rfl) rfl rfl ma_ ?_
          with_reducible refine (spec_l1In.calls (rd_T69 l0 i).f3 0 100000 b4 _ E4.out).mono ?_
          rintro e w' ⟨rfl, ⟨nd, rfl⟩⟩
          refine ⟨_, rfl, ?_⟩
          refine hK.out _ _ (spec_AreClaims.held (bd_ BK.out) spec_AreClaims.HB_ HY.out) (fun hHeld => ?_)
          clear hK K
          refine norm_ (a' := ?_) ?_ ?_
          rotate_left
          · show Act.put _ (some 35) _ = _
            simp only [Act.put, List.setIfInBounds_toArray, List.set_cons_zero, List.set_cons_succ, i64_w, i32_w]
            rfl
          cases b4
        all_goals first | refine pn_ 20 (some 36) spec_AreClaims.M21 HT_ ?_ | refine pu_ 20 (some 36) spec_AreClaims.M21 HT_ ?_
        all_goals first | refine pn_ 21 (some 37) spec_AreClaims.M22 HT_ ?_ | refine pu_ 21 (some 37) spec_AreClaims.M22 HT_ ?_
        all_goals first | refine pn_ 22 (some 38) spec_AreClaims.M23 HT_ ?_ | refine pu_ 22 (some 38) spec_AreClaims.M23 HT_ ?_
        all_goals first | refine pn_ 23 (some 39) spec_AreClaims.M24 HT_ ?_ | refine pu_ 23 (some 39) spec_AreClaims.M24 HT_ ?_
        all_goals first | refine pn_ 24 (some 40) spec_AreClaims.M25 HT_ ?_ | refine tk_ 24 (some 40) spec_AreClaims.M25 HT_ HW_ hHeld ?_
        all_goals first
        | refine pn_ 25 (some 41) spec_AreClaims.M26 HT_ ?_
        | refine one_ (i := 25) (N := some 41) spec_AreClaims.M26 rfl rfl (one_of HT_.out (by kernel_rfl)) (by decide) (fun K hK => ?_)
          refine goes_ Try.func37 (by kernel_rfl) rfl #[.int .i64 (rd_T69 l0 i).f4, .int .i64 0, .int .i64 3] (by rfl) rfl rfl ma_ ?_
          with_reducible refine (spec_l1In.calls (rd_T69 l0 i).f4 0 3 b5 _ E5.out).mono ?_
          rintro e w' ⟨rfl, ⟨nd, rfl⟩⟩
          refine ⟨_, rfl, ?_⟩
          refine hK.out _ _ (spec_AreClaims.held (bd_ BK.out) spec_AreClaims.HB_ HY.out) (fun hHeld => ?_)
          clear hK K
          refine norm_ (a' := ?_) ?_ ?_
          rotate_left
          · show Act.put _ (some 41) _ = _
            simp only [Act.put, List.setIfInBounds_toArray, List.set_cons_zero, List.set_cons_succ, i64_w, i32_w]
            rfl
          cases b5
        all_goals first | refine pn_ 26 (some 42) spec_AreClaims.M27 HT_ ?_ | refine pu_ 26 (some 42) spec_AreClaims.M27 HT_ ?_
        all_goals first | refine pn_ 27 (some 43) spec_AreClaims.M28 HT_ ?_ | refine pu_ 27 (some 43) spec_AreClaims.M28 HT_ ?_
        all_goals first | refine pn_ 28 (some 44) spec_AreClaims.M29 HT_ ?_ | refine pu_ 28 (some 44) spec_AreClaims.M29 HT_ ?_
        all_goals first | refine pn_ 29 (some 45) spec_AreClaims.M30 HT_ ?_ | refine pu_ 29 (some 45) spec_AreClaims.M30 HT_ ?_
        all_goals first
        | refine pn_ 30 (some 46) spec_AreClaims.M31 HT_ ?_
        | rcases C17.out with ⟨c17, hjw, hj1⟩ | ⟨c17, hjw, hj1⟩ <;> refine pu_ 30 (some 46) spec_AreClaims.M31 HT_ ?_
        all_goals first | refine pn_ 31 (some 47) spec_AreClaims.M32 HT_ ?_ | refine pu_ 31 (some 47) spec_AreClaims.M32 HT_ ?_
        all_goals first | refine pn_ 32 (some 48) spec_AreClaims.M33 HT_ ?_ | refine pu_ 32 (some 48) spec_AreClaims.M33 HT_ ?_
        all_goals first | refine pn_ 33 (some 49) spec_AreClaims.M34 HT_ ?_ | refine pu_ 33 (some 49) spec_AreClaims.M34 HT_ ?_
        all_goals first | refine pn_ 34 (some 50) spec_AreClaims.M35 HT_ ?_ | refine pu_ 34 (some 50) spec_AreClaims.M35 HT_ ?_
        all_goals first | refine pn_ 35 (some 51) spec_AreClaims.M36 HT_ ?_ | refine pu_ 35 (some 51) spec_AreClaims.M36 HT_ ?_
        all_goals first | refine pn_ 36 (some 52) spec_AreClaims.M37 HT_ ?_ | refine pu_ 36 (some 52) spec_AreClaims.M37 HT_ ?_
        all_goals first | refine pn_ 38 (some 54) spec_AreClaims.M38 HT_ ?_ | refine pu_ 38 (some 54) spec_AreClaims.M38 HT_ ?_
        all_goals first | refine pn_ 37 (some 53) spec_AreClaims.M39 HT_ ?_ | refine tk_ 37 (some 53) spec_AreClaims.M39 HT_ HW_ hHeld ?_
        all_goals first | refine pn_ 39 (some 55) spec_AreClaims.M40 HT_ ?_ | refine tk_ 39 (some 55) spec_AreClaims.M40 HT_ HW_ hHeld ?_
        all_goals first | refine pn_ 40 (some 56) spec_AreClaims.M41 HT_ ?_ | refine pu_ 40 (some 56) spec_AreClaims.M41 HT_ ?_
        all_goals first | refine pn_ 41 (some 57) spec_AreClaims.M42 HT_ ?_ | refine pu_ 41 (some 57) spec_AreClaims.M42 HT_ ?_
        all_goals first | refine pn_ 42 (some 58) spec_AreClaims.M43 HT_ ?_ | refine pu_ 42 (some 58) spec_AreClaims.M43 HT_ ?_
        all_goals refine done_ (done_of HT_.out (by kernel_rfl)) ?_
        all_goals try go_wp2
        all_goals go_meet
        all_goals exact ⟨_, rfl, ⟨by unfold spec_AreClaims.okA; (try simp only [hj1]); simp only [F1.out, F2.out, F3.out, F4.out, F5.out]; (try simp only [c17]); (try simp only [c20]); first | rfl | simp⟩, ⟨bd_ BK.out⟩, ⟨spec_AreClaims.HB_⟩⟩
      case rest =>
        clear hx0 hx1 hx2 hx3 hx4 HY C17 p2 q2
        obtain ⟨b, rfl, HA2, BK, HB⟩ := hcut
        cases b with
        | true =>
          have hA : spec_AreClaims.okA l0 i = false := by have := HA2.out; revert this; cases spec_AreClaims.okA l0 i <;> simp
          obtain rfl : r = false := HR.out.symm.trans (spec_AreClaims.badA l0 i I0.out HL.out hA)
          go_wp2
          go_ret
          exact ⟨rfl, spec_AreClaims.HB_⟩
        | false =>
          have hA : Aside0 (spec_AreClaims.okA l0 i = true) := ⟨by have := HA2.out; revert this; cases spec_AreClaims.okA l0 i <;> simp⟩
          clear HA2
          go_wp2
          go_loopg [5] i.toNat (fun gg v w' => ∃ z : Int, v = .int .i64 z ∧ Aside0 (0 ≤ z) ∧ Aside0 (z ≤ i) ∧ Aside0 (i - z ≤ gg) ∧ Aside0 ((l0.take z.toNat).all (spec_AreClaims.okB (rd_T69 l0 i)) = true) ∧ Aside0 (spec_AreClaims.B w' gb (rd_T69 l0 i)) ∧ Aside0 (Below w.heap.size w w'))
          case atStart => exact ⟨0, rfl, ⟨by omega⟩, ⟨by have := I0.out; omega⟩, ⟨by have := I0.out; omega⟩, ⟨by simp⟩, ⟨bd_ BK.out⟩, ⟨spec_AreClaims.HB_⟩⟩
          case round =>
            clear BK HB
            obtain ⟨z, rfl, Z0, Z1, ZG, HZ, BK, HB⟩ := hrel
            by_cases hz : z < i
            · have c36 : decide (z < i) = true := decide_eq_true hz
              have hzl : z < (l0.length : Int) := by have := HL.out; omega
              obtain ⟨ad2, e2, hy⟩ := at_T69 HR0.out z Z0.out hzl
              obtain rfl : ad = ad2 := by injection e2
              have HY := Aside0.mk hy
              have p2 := eq_true Z0.out
              have q2 := eq_true hzl
              have c38 : decide (0 ≤ z) = true := decide_eq_true Z0.out
              have c39 : decide (z < (l0.length : Int)) = true := decide_eq_true hzl
              have HZI := Aside0.mk hz
              have HW2 := Aside0.mk (show wrap64 (z + 1) = z + 1 from by have := Z0.out; have := HM.out; unfold wrap64; omega)
              clear hy e2 hz hzl
              try go_wp2
              have n0_ := Aside0.mk (blk_drew BK.out)
              have n1_ := Aside0.mk (below_drew1 HB.out)
              clear BK HB
              have BK := n0_
              have HB := n1_
              clear n0_ n1_
              refine start_ (n := 21) (S := fun w' => spec_AreClaims.H w' gb (rd_T69 l0 i) (ad.add ((z).toNat * 5)) (rd_T69 l0 z)) (ds := []) spec_AreClaims.m0 (by kernel_rfl) rfl rfl (spec_AreClaims.held (bd_ BK.out) spec_AreClaims.HB_ HY.out) (fun hHeld => ?_); refine with_tabW spec_AreClaims.tab10 spec_AreClaims.bits10 (fun HT_ HW_ => ?_)
              generalize wr.drew = w42 at BK HB hHeld ⊢
              refine pu_ 0 (some 64) spec_AreClaims.m1 HT_ ?_
              refine tk_ 1 (some 65) spec_AreClaims.m2 HT_ HW_ hHeld ?_
              all_goals first
              | refine pn_ 2 (some 66) spec_AreClaims.m3 HT_ ?_
              | rcases spec_AreClaims.two ((rd_T69 l0 i).f4 == 3) with c37 | c37 <;> refine pu_ 2 (some 66) spec_AreClaims.m3 HT_ ?_
              all_goals first | refine pn_ 3 (some 67) spec_AreClaims.m4 HT_ ?_ | refine pu_ 3 (some 67) spec_AreClaims.m4 HT_ ?_
              all_goals first | refine pn_ 4 (some 68) spec_AreClaims.m5 HT_ ?_ | refine pu_ 4 (some 68) spec_AreClaims.m5 HT_ ?_
              all_goals first | refine pn_ 5 (some 69) spec_AreClaims.m6 HT_ ?_ | refine pu_ 5 (some 69) spec_AreClaims.m6 HT_ ?_
              all_goals first | refine pn_ 6 (some 70) spec_AreClaims.m7 HT_ ?_ | refine pu_ 6 (some 70) spec_AreClaims.m7 HT_ ?_
              all_goals first | refine pn_ 7 (some 71) spec_AreClaims.m8 HT_ ?_ | refine pu_ 7 (some 71) spec_AreClaims.m8 HT_ ?_
              all_goals first | refine pn_ 8 (some 72) spec_AreClaims.m9 HT_ ?_ | refine tk_ 8 (some 72) spec_AreClaims.m9 HT_ HW_ hHeld ?_
              all_goals first
              | refine pn_ 9 (some 73) spec_AreClaims.m10 HT_ ?_
              | rcases spec_AreClaims.two ((rd_T69 l0 z).f4 == 3) with c40 | c40 <;> refine pu_ 9 (some 73) spec_AreClaims.m10 HT_ ?_
              all_goals first | refine pn_ 10 (some 74) spec_AreClaims.m11 HT_ ?_ | refine pu_ 10 (some 74) spec_AreClaims.m11 HT_ ?_
              all_goals first | refine pn_ 11 (some 75) spec_AreClaims.m12 HT_ ?_ | refine pu_ 11 (some 75) spec_AreClaims.m12 HT_ ?_
              all_goals first | refine pn_ 12 (some 76) spec_AreClaims.m13 HT_ ?_ | refine pu_ 12 (some 76) spec_AreClaims.m13 HT_ ?_
              all_goals first | refine pn_ 13 (some 77) spec_AreClaims.m14 HT_ ?_ | refine pu_ 13 (some 77) spec_AreClaims.m14 HT_ ?_
              all_goals first | refine pn_ 14 (some 78) spec_AreClaims.m15 HT_ ?_ | refine pu_ 14 (some 78) spec_AreClaims.m15 HT_ ?_
              all_goals first | refine pn_ 15 (some 79) spec_AreClaims.m16 HT_ ?_ | refine pu_ 15 (some 79) spec_AreClaims.m16 HT_ ?_
              all_goals first | refine pn_ 17 (some 81) spec_AreClaims.m17 HT_ ?_ | refine pu_ 17 (some 81) spec_AreClaims.m17 HT_ ?_
              all_goals first | refine pn_ 16 (some 80) spec_AreClaims.m18 HT_ ?_ | refine tk_ 16 (some 80) spec_AreClaims.m18 HT_ HW_ hHeld ?_
              all_goals first | refine pn_ 18 (some 82) spec_AreClaims.m19 HT_ ?_ | refine tk_ 18 (some 82) spec_AreClaims.m19 HT_ HW_ hHeld ?_
              all_goals first
              | refine pn_ 19 (some 83) spec_AreClaims.m20 HT_ ?_
              | rcases spec_AreClaims.two ((rd_T69 l0 z).f2 == (rd_T69 l0 i).f2) with c41 | c41 <;> refine pu_ 19 (some 83) spec_AreClaims.m20 HT_ ?_
              all_goals first | refine pn_ 20 (some 84) spec_AreClaims.m21 HT_ ?_ | refine pu_ 20 (some 84) spec_AreClaims.m21 HT_ ?_
              all_goals refine done_ (done_of HT_.out (by kernel_rfl)) ?_
              all_goals try go_wp2
              all_goals first
              | (obtain rfl : r = false := HR.out.symm.trans (spec_AreClaims.badB l0 i z Z0.out HZI.out HL.out (by unfold spec_AreClaims.okB; rw [c37, c40, c41]; rfl)))
                go_ret
                exact ⟨rfl, spec_AreClaims.HB_⟩
              | go_roundg (i - (z + 1)).toNat
                case measure => have := Z0.out; have := HZI.out; have := ZG.out; omega
                case rel => exact ⟨z + 1, (by first | rw [HW2.out] | rw [i64_w, HW2.out]), ⟨by have := Z0.out; omega⟩, ⟨by have := HZI.out; omega⟩, ⟨by have := HZI.out; omega⟩, ⟨spec_AreClaims.stepB l0 _ z Z0.out (by have := HZI.out; have := HL.out; omega) HZ.out (by unfold spec_AreClaims.okB; (try rw [c37]); (try rw [c40]); (try rw [c41]); first | rfl | simp)⟩, ⟨bd_ BK.out⟩, ⟨spec_AreClaims.HB_⟩⟩
            · have c36 : decide (z < i) = false := decide_eq_false hz
              go_wp2
              go_roundg ((l0.length : Int) - (i + 1)).toNat
              case measure => have := I0.out; have := HL.out; have := IG.out; omega
              case rel =>
                refine ⟨i + 1, (by first | rw [HW1.out] | rw [i64_w, HW1.out]), ⟨by have := I0.out; omega⟩, ⟨by have := HL.out; omega⟩, ⟨by have := HL.out; omega⟩, ⟨?_⟩, ⟨spec_AreClaims.HB_⟩⟩
                have hzi : z = i := by have := Z1.out; omega
                exact spec_AreClaims.step l0 i I0.out HA.out hA.out (hzi ▸ HZ.out)
    · have c2 : decide (i < (l0.length : Int)) = false := decide_eq_false hlt
      obtain rfl : r = decide ((l0.length : Int) ≤ 20) := by
        have hi : i.toNat = l0.length := by have := I1.out; omega
        have := HA.out
        rw [hi] at this
        have e := HR.out
        unfold spec_AreClaims.okL at e
        rw [this, Bool.and_true] at e
        exact e.symm
      go_wp2
      go_ret
      exact ⟨by first | rfl | simp, hd_ HB.out⟩


/-! ### spec_l30Before: function 38 -/
def spec_l30Before.f (a0_0 : Int) (a0_1 : Int) (a0_2 : Int) (a1_0 : Int) (a1_1 : Int) (a1_2 : Int) : Option (Bool) := if a0_2 = a1_2 then (if a0_1 < a1_1 then (some true) else (if a0_1 = a1_1 then (some (decide (a0_0 < a1_0))) else (some false))) else (some (decide (a0_2 < a1_2)))
theorem e86_ {w : World} {g : Nat} {t : TypeId} {i0 : Int} {i1 : Int} {i2 : Int} (h : w.heap[g]? = some (.cells #[.int .i64 i0, .int .i64 i1, .int .i64 i2] t (0, 0))) : w.cell? ⟨g, 0, none⟩ = some (.int .i64 i0) ∧ w.cell? ⟨g, 1, none⟩ = some (.int .i64 i1) ∧ w.cell? ⟨g, 2, none⟩ = some (.int .i64 i2) := ⟨(blk_cell h 0).trans rfl, (blk_cell h 1).trans rfl, (blk_cell h 2).trans rfl⟩
theorem z87_ {w : World} {g : Nat} {t : TypeId} {cs : Array Value} (h : w.heap[g]? = some (.cells cs t (0, 0))) : w.frozen? ⟨g, 0, none⟩ = false ∧ w.frozen? ⟨g, 1, none⟩ = false ∧ w.frozen? ⟨g, 2, none⟩ = false := ⟨blk_frozen h 0, blk_frozen h 1, blk_frozen h 2⟩
theorem y88_ {P : Prop} (h : P := by repeat (first | (with_reducible first | exact HB.out | apply below_alloc | apply pw_below_drewN | apply below_drew1 | refine below_set ?_ GE155.out) | exact HB.out)) : P := h
theorem y91_ {P : Prop} (h : P := by repeat (first | (with_reducible first | exact HB.out | apply below_alloc | apply pw_below_drewN | apply below_drew1 | refine below_set ?_ GE155.out | refine below_set ?_ GE156.out) | exact HB.out)) : P := h
theorem y92_ {P : Prop} (h : P := by rw [hg]; exact Nat.ne_of_lt (blk_lt (bd_ BK155.out))) : P := h
theorem y93_ {P : Prop} (h : P := by rw [hg]; exact Nat.ne_of_gt (blk_lt (bd_ BK155.out))) : P := h
theorem y94_ {P : Prop} (h : P := by rw [hg]; exact (below_size (hd_ HB.out))) : P := h
theorem y95_ {P : Prop} (h : P := by rw [hg]; exact (below_size y88_)) : P := h
set_option maxHeartbeats 8000000 in
set_option maxRecDepth 100000 in
theorem spec_l30Before.calls (a0_0 : Int) (a0_1 : Int) (a0_2 : Int) (a1_0 : Int) (a1_1 : Int) (a1_2 : Int) (r : Bool) (w : World) (h : spec_l30Before.f a0_0 a0_1 a0_2 a1_0 a1_1 a1_2 = some r) :
    Calls Try.prog 38 #[.agg #[.int .i64 a0_0, .int .i64 a0_1, .int .i64 a0_2], .agg #[.int .i64 a1_0, .int .i64 a1_1, .int .i64 a1_2]] w fun e w' => e = .returned (.bool r) ∧ Below w.heap.size w w' := by
  have hu54 := Try.underlying54
  have HB := Aside0.mk (Below.refl w.heap.size w)
  have H : (if a0_2 = a1_2 then (if a0_1 < a1_1 then (some true) else (if a0_1 = a1_1 then (some (decide (a0_0 < a1_0))) else (some false))) else (some (decide (a0_2 < a1_2)))) = some r := h
  clear h
  by_cases c3 : a0_2 = a1_2
  · rw [if_pos c3] at H
    have c3b0 : (a0_2 == a1_2) = true := beq_iff_eq.mpr c3
    have c3b1 : (a0_2 != a1_2) = false := bne_eq_false_iff_eq.mpr c3
    clear c3
    by_cases c4 : a0_1 < a1_1
    · rw [if_pos c4] at H
      have c4b0 : decide (a0_1 < a1_1) = true := decide_eq_true c4
      clear c4
      obtain rfl := Option.some.inj H
      go_enter Try.func38, Try.ntmps38
      go_wp2_with (first | ((with_reducible refine gate_dst (N := 2) rfl ?_); refine bx_ 2 #[.int .i64 a0_0, .int .i64 a0_1, .int .i64 a0_2] 54 ?_; intro gb155 hg w5 hbox hb; have n0_ := Aside0.mk (below_step (hd_ HB.out) hb); have BK155 := Aside0.mk (hbox); have GW155 := Aside0.mk ((y94_ : w.heap.size ≤ gb155)); have GE155 := GW155; clear HB; have HB := n0_; clear n0_; clear hb hbox hg) | ((with_reducible refine gate_dst (N := 3) rfl ?_); refine bx_ 3 #[.int .i64 a1_0, .int .i64 a1_1, .int .i64 a1_2] 54 ?_; intro gb156 hg w6 hbox hb; have n0_ := Aside0.mk (blk_below (bd_ BK155.out) hb); have n1_ := Aside0.mk (below_step y88_ hb); have BK156 := Aside0.mk (hbox); have GW156 := Aside0.mk ((y95_ : w.heap.size ≤ gb156)); have GE156 := GW156; have NB155_156 := Aside0.mk ((y92_ : gb155 ≠ gb156)); have NB156_155 := Aside0.mk ((y93_ : gb156 ≠ gb155)); clear BK155; clear HB; have BK155 := n0_; have HB := n1_; clear n0_ n1_; clear hb hbox hg; have hnb7 := NB155_156.out; have hnc7 := NB156_155.out; obtain ⟨hcz8_0, hcz8_1, hcz8_2⟩ := e86_ BK155.out; obtain ⟨hfz8_0, hfz8_1, hfz8_2⟩ := z87_ BK155.out; obtain ⟨hcz9_0, hcz9_1, hcz9_2⟩ := e86_ BK156.out; obtain ⟨hfz9_0, hfz9_1, hfz9_2⟩ := z87_ BK156.out))
      go_ret
      exact ⟨rt_, y91_⟩
    · rw [if_neg c4] at H
      have c4b0 : decide (a0_1 < a1_1) = false := decide_eq_false c4
      clear c4
      by_cases c10 : a0_1 = a1_1
      · rw [if_pos c10] at H
        have c10b0 : (a0_1 == a1_1) = true := beq_iff_eq.mpr c10
        have c10b1 : (a0_1 != a1_1) = false := bne_eq_false_iff_eq.mpr c10
        clear c10
        obtain rfl := Option.some.inj H
        go_enter Try.func38, Try.ntmps38
        go_wp2_with (first | ((with_reducible refine gate_dst (N := 2) rfl ?_); refine bx_ 2 #[.int .i64 a0_0, .int .i64 a0_1, .int .i64 a0_2] 54 ?_; intro gb155 hg w11 hbox hb; have n0_ := Aside0.mk (below_step (hd_ HB.out) hb); have BK155 := Aside0.mk (hbox); have GW155 := Aside0.mk ((y94_ : w.heap.size ≤ gb155)); have GE155 := GW155; clear HB; have HB := n0_; clear n0_; clear hb hbox hg) | ((with_reducible refine gate_dst (N := 3) rfl ?_); refine bx_ 3 #[.int .i64 a1_0, .int .i64 a1_1, .int .i64 a1_2] 54 ?_; intro gb156 hg w12 hbox hb; have n0_ := Aside0.mk (blk_below (bd_ BK155.out) hb); have n1_ := Aside0.mk (below_step y88_ hb); have BK156 := Aside0.mk (hbox); have GW156 := Aside0.mk ((y95_ : w.heap.size ≤ gb156)); have GE156 := GW156; have NB155_156 := Aside0.mk ((y92_ : gb155 ≠ gb156)); have NB156_155 := Aside0.mk ((y93_ : gb156 ≠ gb155)); clear BK155; clear HB; have BK155 := n0_; have HB := n1_; clear n0_ n1_; clear hb hbox hg; have hnb13 := NB155_156.out; have hnc13 := NB156_155.out; obtain ⟨hcz14_0, hcz14_1, hcz14_2⟩ := e86_ BK155.out; obtain ⟨hfz14_0, hfz14_1, hfz14_2⟩ := z87_ BK155.out; obtain ⟨hcz15_0, hcz15_1, hcz15_2⟩ := e86_ BK156.out; obtain ⟨hfz15_0, hfz15_1, hfz15_2⟩ := z87_ BK156.out))
        go_ret
        exact ⟨rt_, y91_⟩
      · rw [if_neg c10] at H
        have c10b0 : (a0_1 == a1_1) = false := beq_eq_false_iff_ne.mpr c10
        have c10b1 : (a0_1 != a1_1) = true := bne_iff_ne.mpr c10
        obtain rfl := Option.some.inj H
        go_enter Try.func38, Try.ntmps38
        go_wp2_with (first | ((with_reducible refine gate_dst (N := 2) rfl ?_); refine bx_ 2 #[.int .i64 a0_0, .int .i64 a0_1, .int .i64 a0_2] 54 ?_; intro gb155 hg w16 hbox hb; have n0_ := Aside0.mk (below_step (hd_ HB.out) hb); have BK155 := Aside0.mk (hbox); have GW155 := Aside0.mk ((y94_ : w.heap.size ≤ gb155)); have GE155 := GW155; clear HB; have HB := n0_; clear n0_; clear hb hbox hg) | ((with_reducible refine gate_dst (N := 3) rfl ?_); refine bx_ 3 #[.int .i64 a1_0, .int .i64 a1_1, .int .i64 a1_2] 54 ?_; intro gb156 hg w17 hbox hb; have n0_ := Aside0.mk (blk_below (bd_ BK155.out) hb); have n1_ := Aside0.mk (below_step y88_ hb); have BK156 := Aside0.mk (hbox); have GW156 := Aside0.mk ((y95_ : w.heap.size ≤ gb156)); have GE156 := GW156; have NB155_156 := Aside0.mk ((y92_ : gb155 ≠ gb156)); have NB156_155 := Aside0.mk ((y93_ : gb156 ≠ gb155)); clear BK155; clear HB; have BK155 := n0_; have HB := n1_; clear n0_ n1_; clear hb hbox hg; have hnb18 := NB155_156.out; have hnc18 := NB156_155.out; obtain ⟨hcz19_0, hcz19_1, hcz19_2⟩ := e86_ BK155.out; obtain ⟨hfz19_0, hfz19_1, hfz19_2⟩ := z87_ BK155.out; obtain ⟨hcz20_0, hcz20_1, hcz20_2⟩ := e86_ BK156.out; obtain ⟨hfz20_0, hfz20_1, hfz20_2⟩ := z87_ BK156.out))
        go_ret
        exact ⟨rt_, y91_⟩
  · rw [if_neg c3] at H
    have c3b0 : (a0_2 == a1_2) = false := beq_eq_false_iff_ne.mpr c3
    have c3b1 : (a0_2 != a1_2) = true := bne_iff_ne.mpr c3
    obtain rfl := Option.some.inj H
    go_enter Try.func38, Try.ntmps38
    go_wp2_with (first | ((with_reducible refine gate_dst (N := 2) rfl ?_); refine bx_ 2 #[.int .i64 a0_0, .int .i64 a0_1, .int .i64 a0_2] 54 ?_; intro gb155 hg w21 hbox hb; have n0_ := Aside0.mk (below_step (hd_ HB.out) hb); have BK155 := Aside0.mk (hbox); have GW155 := Aside0.mk ((y94_ : w.heap.size ≤ gb155)); have GE155 := GW155; clear HB; have HB := n0_; clear n0_; clear hb hbox hg) | ((with_reducible refine gate_dst (N := 3) rfl ?_); refine bx_ 3 #[.int .i64 a1_0, .int .i64 a1_1, .int .i64 a1_2] 54 ?_; intro gb156 hg w22 hbox hb; have n0_ := Aside0.mk (blk_below (bd_ BK155.out) hb); have n1_ := Aside0.mk (below_step y88_ hb); have BK156 := Aside0.mk (hbox); have GW156 := Aside0.mk ((y95_ : w.heap.size ≤ gb156)); have GE156 := GW156; have NB155_156 := Aside0.mk ((y92_ : gb155 ≠ gb156)); have NB156_155 := Aside0.mk ((y93_ : gb156 ≠ gb155)); clear BK155; clear HB; have BK155 := n0_; have HB := n1_; clear n0_ n1_; clear hb hbox hg; have hnb23 := NB155_156.out; have hnc23 := NB156_155.out; obtain ⟨hcz24_0, hcz24_1, hcz24_2⟩ := e86_ BK155.out; obtain ⟨hfz24_0, hfz24_1, hfz24_2⟩ := z87_ BK155.out; obtain ⟨hcz25_0, hcz25_1, hcz25_2⟩ := e86_ BK156.out; obtain ⟨hfz25_0, hfz25_1, hfz25_2⟩ := z87_ BK156.out))
    go_ret
    exact ⟨rt_, y91_⟩

end Go.Proofs.Ytnlgilmbmoiniaa.PFnExactTasksFor
