-- Written for this claim by a program (a printer turned to this claim); Lean checks it.
import Derived.Test.YtnlgilmbmoiniaaDoorPFnTasksx0
import Derived.Test.YtnlgilmbmoiniaaDoorPFnTasksx1
import Derived.Test.YtnlgilmbmoiniaaDoorPFnTasksx7
import Derived.Test.YtnlgilmbmoiniaaDoorPFnTasksx10
import Derived.Test.YtnlgilmbmoiniaaDoorPFnTasksx11
namespace Go.Proofs.YtnlgilmbmoiniaaDoor.PFnTasks
open Go.RowKit Go.Proofs.YtnlgilmbmoiniaaDoorW.PrintWords Go.Proofs.YtnlgilmbmoiniaaDoorW.PrintLast Go.Proofs.YtnlgilmbmoiniaaDoorW.PrintMore
attribute [local go_sem] max2_int min2_int max_two min_two max_three min_three max_four min_four   -- for this text's walks alone
set_option linter.unusedVariables false
set_option linter.unusedSimpArgs false

attribute [local go_sem high] eqA33
/-! ### impl_AreClaims: function 20 -/
def impl_AreClaims.okA (l : List S73) (i : Int) : Bool := decide (1 ≤ (rd_T73 l i).f0 ∧ (rd_T73 l i).f0 ≤ 999) && decide (1 ≤ (rd_T73 l i).f1 ∧ (rd_T73 l i).f1 ≤ 999) && decide (1 ≤ (rd_T73 l i).f2 ∧ (rd_T73 l i).f2 ≤ 999) && decide (0 ≤ (rd_T73 l i).f3 ∧ (rd_T73 l i).f3 ≤ 100000) && decide (0 ≤ (rd_T73 l i).f4 ∧ (rd_T73 l i).f4 ≤ 3) && !(decide (0 < i) && decide ((rd_T73 l i).f0 ≤ (rd_T73 l (i - 1)).f0))
def impl_AreClaims.okB (x y : S73) : Bool := !((x.f4 == 3) && ((y.f4 == 3) && (y.f2 == x.f2)))
def impl_AreClaims.okC (l : List S73) (i : Int) : Bool := impl_AreClaims.okA l i && (l.take i.toNat).all (impl_AreClaims.okB (rd_T73 l i))
def impl_AreClaims.okL (l : List S73) : Bool := decide ((l.length : Int) ≤ 20) && (List.range l.length).all (fun n => impl_AreClaims.okC l (n : Int))
def impl_AreClaims.f (l0 : List S73) : Option Bool := some (impl_AreClaims.okL l0)
theorem impl_AreClaims.bad (l : List S73) (i : Int) (h0 : 0 ≤ i) (h1 : i < (l.length : Int)) (h : impl_AreClaims.okC l i = false) : impl_AreClaims.okL l = false := by
  unfold impl_AreClaims.okL
  have e : (List.range l.length).all (fun n => impl_AreClaims.okC l (n : Int)) = false := by
    rw [List.all_eq_false]; exact ⟨i.toNat, List.mem_range.2 (by omega), by rw [Int.toNat_of_nonneg h0, h]; simp⟩
  rw [e, Bool.and_false]
theorem impl_AreClaims.badA (l : List S73) (i : Int) (h0 : 0 ≤ i) (h1 : i < (l.length : Int)) (h : impl_AreClaims.okA l i = false) : impl_AreClaims.okL l = false :=
  impl_AreClaims.bad l i h0 h1 (by unfold impl_AreClaims.okC; rw [h, Bool.false_and])
theorem impl_AreClaims.step (l : List S73) (i : Int) (h0 : 0 ≤ i) (h : (List.range i.toNat).all (fun n => impl_AreClaims.okC l (n : Int)) = true) (hA : impl_AreClaims.okA l i = true) (hB : (l.take i.toNat).all (impl_AreClaims.okB (rd_T73 l i)) = true) : (List.range (i + 1).toNat).all (fun n => impl_AreClaims.okC l (n : Int)) = true := by
  have e : (i + 1).toNat = i.toNat + 1 := by omega
  have h2 : impl_AreClaims.okC l i = true := by unfold impl_AreClaims.okC; rw [hA, hB]; rfl
  rw [e, List.range_succ, List.all_append, h]; simp [Int.toNat_of_nonneg h0, h2]
theorem impl_AreClaims.rdt (l : List S73) (z : Int) (h0 : 0 ≤ z) (h1 : z < (l.length : Int)) : ∃ h : z.toNat < l.length, rd_T73 l z = l[z.toNat] :=
  ⟨by omega, by unfold rd_T73; simp [List.getD, show z.toNat < l.length by omega]⟩
theorem impl_AreClaims.stepB (l : List S73) (x : S73) (z : Int) (h0 : 0 ≤ z) (h1 : z < (l.length : Int)) (h : (l.take z.toNat).all (impl_AreClaims.okB x) = true) (h2 : impl_AreClaims.okB x (rd_T73 l z) = true) : (l.take (z + 1).toNat).all (impl_AreClaims.okB x) = true := by
  obtain ⟨hz, e2⟩ := impl_AreClaims.rdt l z h0 h1
  have e : (z + 1).toNat = z.toNat + 1 := by omega
  rw [e, List.take_succ_eq_append_getElem hz, List.all_append, h, ← e2]; simp [h2]
theorem impl_AreClaims.badB (l : List S73) (i z : Int) (h0 : 0 ≤ z) (hz : z < i) (h1 : i < (l.length : Int)) (h : impl_AreClaims.okB (rd_T73 l i) (rd_T73 l z) = false) : impl_AreClaims.okL l = false := by
  obtain ⟨hz2, e2⟩ := impl_AreClaims.rdt l z h0 (by omega)
  refine impl_AreClaims.bad l i (by omega) h1 ?_
  have e : (l.take i.toNat).all (impl_AreClaims.okB (rd_T73 l i)) = false := by
    rw [List.all_eq_false]
    exact ⟨rd_T73 l z, by rw [e2, List.mem_take_iff_getElem]; exact ⟨z.toNat, by omega, rfl⟩, by rw [h]; simp⟩
  unfold impl_AreClaims.okC; rw [e, Bool.and_false]
theorem impl_AreClaims.in1 (a b c : Int) : impl_InRange.f a b c = some (decide (b ≤ a ∧ a ≤ c)) := by unfold impl_InRange.f; split <;> simp [*]
theorem impl_AreClaims.two (b : Bool) : b = true ∨ b = false := by cases b <;> simp
theorem impl_AreClaims.ord (i j L : Int) (h0 : 0 ≤ i) (h1 : i < L) (h2 : L ≤ 9223372036854775807) (hj : j = if 0 < i then i - 1 else 0) : (decide (0 < i) = true ∧ IntKind.i64.wrap (i - 1) = j ∧ i - 1 = j) ∨ (decide (0 < i) = false ∧ True ∧ True) := by
  by_cases h : 0 < i
  · rw [if_pos h] at hj
    exact Or.inl ⟨decide_eq_true h, by rw [i64_w, hj]; unfold wrap64; omega, hj.symm⟩
  · exact Or.inr ⟨decide_eq_false h, trivial, trivial⟩
theorem impl_AreClaims.cells {w : World} {g : Nat} {t : TypeId} {i0 i1 i2 i3 i4 : Int} (h : w.heap[g]? = some (.cells #[.int .i64 i0, .int .i64 i1, .int .i64 i2, .int .i64 i3, .int .i64 i4] t (0, 0))) : w.cell? ⟨g, 0, none⟩ = some (.int .i64 i0) ∧ w.cell? ⟨g, 1, none⟩ = some (.int .i64 i1) ∧ w.cell? ⟨g, 2, none⟩ = some (.int .i64 i2) ∧ w.cell? ⟨g, 3, none⟩ = some (.int .i64 i3) ∧ w.cell? ⟨g, 4, none⟩ = some (.int .i64 i4) := ⟨(blk_cell h 0).trans rfl, (blk_cell h 1).trans rfl, (blk_cell h 2).trans rfl, (blk_cell h 3).trans rfl, (blk_cell h 4).trans rfl⟩
theorem impl_AreClaims.froz {w : World} {g : Nat} {t : TypeId} {cs : Array Value} (h : w.heap[g]? = some (.cells cs t (0, 0))) : w.frozen? ⟨g, 0, none⟩ = false ∧ w.frozen? ⟨g, 1, none⟩ = false ∧ w.frozen? ⟨g, 2, none⟩ = false ∧ w.frozen? ⟨g, 3, none⟩ = false ∧ w.frozen? ⟨g, 4, none⟩ = false := ⟨blk_frozen h 0, blk_frozen h 1, blk_frozen h 2, blk_frozen h 3, blk_frozen h 4⟩
abbrev impl_AreClaims.H (w : World) (g : Nat) (x : S73) (a : Addr) (y : S73) : Prop := w.cell? ⟨g, 0, none⟩ = some (.int .i64 x.f0) ∧ w.cell? ⟨g, 1, none⟩ = some (.int .i64 x.f1) ∧ w.cell? ⟨g, 2, none⟩ = some (.int .i64 x.f2) ∧ w.cell? ⟨g, 3, none⟩ = some (.int .i64 x.f3) ∧ w.cell? ⟨g, 4, none⟩ = some (.int .i64 x.f4) ∧ w.cell? a = some (.int .i64 y.f0) ∧ w.cell? ⟨a.block, a.off + 1, none⟩ = some (.int .i64 y.f1) ∧ w.cell? ⟨a.block, a.off + 2, none⟩ = some (.int .i64 y.f2) ∧ w.cell? ⟨a.block, a.off + 3, none⟩ = some (.int .i64 y.f3) ∧ w.cell? ⟨a.block, a.off + 4, none⟩ = some (.int .i64 y.f4)
abbrev impl_AreClaims.B (w : World) (g : Nat) (x : S73) : Prop := w.heap[g]? = some (.cells #[.int .i64 x.f0, .int .i64 x.f1, .int .i64 x.f2, .int .i64 x.f3, .int .i64 x.f4] 73 (0, 0))
theorem impl_AreClaims.held {w w' : World} {g : Nat} {x y : S73} {a : Addr} (h : impl_AreClaims.B w' g x) (hb : Below w.heap.size w w') (hy : w.cell? a = some (.int .i64 y.f0) ∧ w.cell? ⟨a.block, a.off + 1, none⟩ = some (.int .i64 y.f1) ∧ w.cell? ⟨a.block, a.off + 2, none⟩ = some (.int .i64 y.f2) ∧ w.cell? ⟨a.block, a.off + 3, none⟩ = some (.int .i64 y.f3) ∧ w.cell? ⟨a.block, a.off + 4, none⟩ = some (.int .i64 y.f4)) : impl_AreClaims.H w' g x a y :=
  ⟨(blk_cell h 0).trans rfl, (blk_cell h 1).trans rfl, (blk_cell h 2).trans rfl, (blk_cell h 3).trans rfl, (blk_cell h 4).trans rfl, cb_ hb hy.1, cb_ hb hy.2.1, cb_ hb hy.2.2.1, cb_ hb hy.2.2.2.1, cb_ hb hy.2.2.2.2⟩
theorem impl_AreClaims.HB_ {P : Prop} (h : P := by repeat (first | (with_reducible first | exact HB.out | apply below_alloc | apply pw_below_drewN | apply below_drew1 | refine below_set ?_ GE.out) | exact HB.out)) : P := h
theorem impl_AreClaims.put5 {w : World} {g : Nat} {x : S73} (h : w.heap[g]? = some (.cells #[.int .i64 0, .int .i64 0, .int .i64 0, .int .i64 0, .int .i64 0] 73 (0, 0))) : impl_AreClaims.B (((((w.setCell ⟨g, 0, none⟩ (.int .i64 x.f0)).setCell ⟨g, 1, none⟩ (.int .i64 x.f1)).setCell ⟨g, 2, none⟩ (.int .i64 x.f2)).setCell ⟨g, 3, none⟩ (.int .i64 x.f3)).setCell ⟨g, 4, none⟩ (.int .i64 x.f4)) g x := by
  refine blk_put (cs := #[.int .i64 x.f0, .int .i64 x.f1, .int .i64 x.f2, .int .i64 x.f3, .int .i64 0]) ?_ 4 _ rfl
  refine blk_put (cs := #[.int .i64 x.f0, .int .i64 x.f1, .int .i64 x.f2, .int .i64 0, .int .i64 0]) ?_ 3 _ rfl
  refine blk_put (cs := #[.int .i64 x.f0, .int .i64 x.f1, .int .i64 0, .int .i64 0, .int .i64 0]) ?_ 2 _ rfl
  refine blk_put (cs := #[.int .i64 x.f0, .int .i64 0, .int .i64 0, .int .i64 0, .int .i64 0]) ?_ 1 _ rfl
  exact blk_put (cs := #[.int .i64 0, .int .i64 0, .int .i64 0, .int .i64 0, .int .i64 0]) h 0 _ rfl
theorem impl_AreClaims.rdk (l : List S73) (i z : Int) (h0 : 0 ≤ z) (h1 : z < i) : rd_T73 (l.take i.toNat) z = rd_T73 l z := by
  unfold rd_T73; rw [List.getD_eq_getElem?_getD, List.getD_eq_getElem?_getD, List.getElem?_take, if_pos (by omega)]
theorem impl_AreClaims.far5 {w : World} {g g2 : Nat} {x y : S73} (h : impl_AreClaims.B w g x) (n : g ≠ g2) : impl_AreClaims.B (((((w.setCell ⟨g2, 0, none⟩ (.int .i64 y.f0)).setCell ⟨g2, 1, none⟩ (.int .i64 y.f1)).setCell ⟨g2, 2, none⟩ (.int .i64 y.f2)).setCell ⟨g2, 3, none⟩ (.int .i64 y.f3)).setCell ⟨g2, 4, none⟩ (.int .i64 y.f4)) g x :=
  blk_far (blk_far (blk_far (blk_far (blk_far h n _) n _) n _) n _) n _
theorem impl_AreClaims.HB2_ {P : Prop} (h : P := by repeat (first | (with_reducible first | exact HB.out | apply below_alloc | apply pw_below_drewN | apply below_drew1 | refine below_set ?_ GE2.out) | exact HB.out)) : P := h
theorem impl_AreClaims.sw {a b : Int} : (a == b) = (b == a) := by rw [Bool.eq_iff_iff]; simp only [beq_iff_eq]; exact eq_comm
theorem impl_AreClaims.four (b x z : Bool) : (b = true ∧ x = true ∧ z = true) ∨ (b = true ∧ x = true ∧ z = false) ∨ (b = true ∧ x = false ∧ True) ∨ (b = false ∧ True ∧ True) := by cases b <;> cases x <;> cases z <;> simp
def impl_AreClaims.T6 : Bool × List (List Nat × List Nat) := (true, [([], []), ([0], [0]), ([1], [1]), ([2], [2]), ([3, 2], [3]), ([4], [4]), ([5, 4], [4, 5]), ([6, 4, 4], [4, 6]), ([7], [7]), ([8, 7], [7, 8]), ([7], [7]), ([7], [7]), ([11, 7], [7, 11]), ([10, 12, 7], [7, 10, 12]), ([13, 7], [7, 13]), ([14, 7], [7, 14]), ([9, 15, 7], [7, 9, 15]), ([7, 16, 4], [4, 7, 16]), ([4, 17], [4, 17]), ([18, 7], [18]), ([19], [19]), ([20, 19], [19, 20]), ([21, 19, 19], [19, 21]), ([22, 19], [19, 22]), ([19, 23], [19, 23]), ([24, 22], [24]), ([25], [25]), ([26, 25], [25, 26]), ([27, 25, 25], [25, 27]), ([28, 25], [25, 28]), ([25, 29], [25, 29]), ([30, 28], [30]), ([31], [31]), ([32, 31], [31, 32]), ([33, 31, 31], [31, 33]), ([34, 31], [31, 34]), ([31, 35], [31, 35]), ([36, 34], [36]), ([37], [37]), ([38, 37], [37, 38]), ([39, 37, 37], [37, 39]), ([40, 37], [37, 40]), ([37, 41], [37, 41])])
def impl_AreClaims.B6 : List Nat := [0, 1, 3, 7, 15, 31, 63, 127, 255, 511, 255, 255, 2303, 7423, 15615, 31999, 65535, 131071, 262143, 524287, 1048575, 2097151, 4194303, 8388607, 16777215, 33554431, 67108863, 134217727, 268435455, 536870911, 1073741823, 2147483647, 4294967295, 8589934591, 17179869183, 34359738367, 68719476735, 137438953471, 274877906943, 549755813887, 1099511627775, 2199023255551, 4398046511103]
theorem impl_AreClaims.tab6 : rtab .any (opsOf Tryd.f20 6) = impl_AreClaims.T6 := by kernel_rfl
theorem impl_AreClaims.bits6 : waitsOk impl_AreClaims.T6.2 impl_AreClaims.B6 = true := by kernel_rfl
abbrev impl_AreClaims.M0 := bm_ 43 0
abbrev impl_AreClaims.M1 := bm_ 43 1
abbrev impl_AreClaims.M2 := bm_ 43 3
abbrev impl_AreClaims.M3 := bm_ 43 7
abbrev impl_AreClaims.M4 := bm_ 43 15
abbrev impl_AreClaims.M5 := bm_ 43 31
abbrev impl_AreClaims.M6 := bm_ 43 63
abbrev impl_AreClaims.M7 := bm_ 43 127
abbrev impl_AreClaims.M8 := bm_ 43 255
abbrev impl_AreClaims.M9 := bm_ 43 511
abbrev impl_AreClaims.M10 := bm_ 43 1535
abbrev impl_AreClaims.M11 := bm_ 43 3583
abbrev impl_AreClaims.M12 := bm_ 43 7679
abbrev impl_AreClaims.M13 := bm_ 43 15871
abbrev impl_AreClaims.M14 := bm_ 43 32255
abbrev impl_AreClaims.M15 := bm_ 43 32767
abbrev impl_AreClaims.M16 := bm_ 43 65535
abbrev impl_AreClaims.M17 := bm_ 43 131071
abbrev impl_AreClaims.M18 := bm_ 43 262143
abbrev impl_AreClaims.M19 := bm_ 43 524287
abbrev impl_AreClaims.M20 := bm_ 43 1048575
abbrev impl_AreClaims.M21 := bm_ 43 2097151
abbrev impl_AreClaims.M22 := bm_ 43 4194303
abbrev impl_AreClaims.M23 := bm_ 43 8388607
abbrev impl_AreClaims.M24 := bm_ 43 16777215
abbrev impl_AreClaims.M25 := bm_ 43 33554431
abbrev impl_AreClaims.M26 := bm_ 43 67108863
abbrev impl_AreClaims.M27 := bm_ 43 134217727
abbrev impl_AreClaims.M28 := bm_ 43 268435455
abbrev impl_AreClaims.M29 := bm_ 43 536870911
abbrev impl_AreClaims.M30 := bm_ 43 1073741823
abbrev impl_AreClaims.M31 := bm_ 43 2147483647
abbrev impl_AreClaims.M32 := bm_ 43 4294967295
abbrev impl_AreClaims.M33 := bm_ 43 8589934591
abbrev impl_AreClaims.M34 := bm_ 43 17179869183
abbrev impl_AreClaims.M35 := bm_ 43 34359738367
abbrev impl_AreClaims.M36 := bm_ 43 68719476735
abbrev impl_AreClaims.M37 := bm_ 43 137438953471
abbrev impl_AreClaims.M38 := bm_ 43 274877906943
abbrev impl_AreClaims.M39 := bm_ 43 549755813887
abbrev impl_AreClaims.M40 := bm_ 43 1099511627775
abbrev impl_AreClaims.M41 := bm_ 43 2199023255551
abbrev impl_AreClaims.M42 := bm_ 43 4398046511103
abbrev impl_AreClaims.M43 := bm_ 43 8796093022207
set_option maxHeartbeats 8000000 in
set_option maxRecDepth 100000 in
theorem impl_AreClaims.calls (A0 : Option Addr) (c0 : Nat) (l0 : List S73) (r : Bool) (w : World) (hr0 : Kd.C k73 w A0 l0.length l0) (hc0 : l0.length ≤ c0) (h : impl_AreClaims.f l0 = some r) : Calls Tryd.prog 20 #[.slice A0 l0.length c0] w fun e w' => e = .returned (.bool r) ∧ Below w.heap.size w w' := by
  have hu := Tryd.underlying73
  have HR0 := Aside0.mk hr0
  have HC0 := Aside0.mk hc0
  have HM := Aside0.mk (show (l0.length : Int) ≤ 9223372036854775807 from by have := Kd.C_max hr0; omega)
  clear hr0 hc0
  have HR : Aside0 (impl_AreClaims.okL l0 = r) := ⟨Option.some.inj h⟩
  clear h
  have HB := Aside0.mk (Below.refl w.heap.size w)
  by_cases c2 : (l0.length : Int) > 20
  · obtain rfl : r = false := by
      rw [← HR.out]; unfold impl_AreClaims.okL; rw [decide_eq_false (by omega), Bool.false_and]
    have c2b0 : decide (20 < (l0.length : Int)) = true := decide_eq_true c2
    have c2b1 : decide (20 < l0.length) = true := decide_eq_true (by omega)
    clear c2
    go_enter Tryd.func20, Tryd.ntmps20
    go_wp2
    go_ret
    exact ⟨rfl, hd_ HB.out⟩
  have c2b0 : decide (20 < (l0.length : Int)) = false := decide_eq_false c2
  have c2b1 : decide (20 < l0.length) = false := decide_eq_false (by omega)
  have H20 := Aside0.mk c2
  clear c2
  go_enter Tryd.func20, Tryd.ntmps20
  go_wp2
  go_loopg [12] l0.length (fun gg v w' => ∃ i : Int, v = .int .i64 i ∧ Aside0 (0 ≤ i) ∧ Aside0 (i ≤ (l0.length : Int)) ∧ Aside0 ((l0.length : Int) - i ≤ gg) ∧ Aside0 ((List.range i.toNat).all (fun n => impl_AreClaims.okC l0 (n : Int)) = true) ∧ Aside0 (Below w.heap.size w w'))
  case atStart => exact ⟨0, rfl, ⟨by omega⟩, ⟨by omega⟩, ⟨by omega⟩, ⟨by simp⟩, ⟨hd_ HB.out⟩⟩
  case round =>
    clear HB c2b0 c2b1
    obtain ⟨i, rfl, I0, I1, IG, HA, HB⟩ := hrel
    by_cases hlt : i < (l0.length : Int)
    · have c2 : decide (i < (l0.length : Int)) = true := decide_eq_true hlt
      have c3 : decide (0 ≤ i) = true := decide_eq_true I0.out
      obtain ⟨j, hj⟩ : ∃ j : Int, j = if 0 < i then i - 1 else 0 := ⟨_, rfl⟩
      have hj0 : 0 ≤ j := by rw [hj]; have := I0.out; split <;> omega
      have hj1 : j < (l0.length : Int) := by rw [hj]; have := I0.out; split <;> omega
      obtain ⟨ad, e0, hx0, hx1, hx2, hx3, hx4⟩ := at_T73 HR0.out i I0.out hlt
      cases e0
      obtain ⟨ad2, e2, hy⟩ := at_T73 HR0.out j hj0 hj1
      obtain rfl : ad = ad2 := by injection e2
      clear e2
      have HY := Aside0.mk hy
      clear hy
      replace hx0 := cb_ HB.out hx0
      replace hx1 := cb_ HB.out hx1
      replace hx2 := cb_ HB.out hx2
      replace hx3 := cb_ HB.out hx3
      replace hx4 := cb_ HB.out hx4
      have C17 := Aside0.mk (impl_AreClaims.ord i j l0.length I0.out hlt HM.out hj)
      have HL := Aside0.mk hlt
      have p1 := eq_true I0.out
      have q1 := eq_true hlt
      have p2 := eq_true hj0
      have q2 := eq_true hj1
      have hwj : wrap64 j = j := by have := HM.out; unfold wrap64; omega
      have HW1 := Aside0.mk (show wrap64 (i + 1) = i + 1 from by have := I0.out; have := HM.out; unfold wrap64; omega)
      clear hlt hj hj0 hj1
      go_upto_region 6 with (first | ((with_reducible refine gate_dst (N := 4) rfl ?_); refine bx_ 4 #[.int .i64 0, .int .i64 0, .int .i64 0, .int .i64 0, .int .i64 0] 73 ?_; intro gb hg w5 hbox hb; have n0_ := Aside0.mk (below_step (hd_ HB.out) hb); have BK := Aside0.mk (hbox); have GE := Aside0.mk ((by rw [hg]; exact (below_size (hd_ HB.out)) : w.heap.size ≤ gb)); clear HB; have HB := n0_; clear n0_; clear hb hbox hg; obtain ⟨hcz0, hcz1, hcz2, hcz3, hcz4⟩ := impl_AreClaims.cells BK.out; obtain ⟨hfz0, hfz1, hfz2, hfz3, hfz4⟩ := impl_AreClaims.froz BK.out))
      (try simp only [Act.put, List.setIfInBounds_toArray, List.set_cons_zero, List.set_cons_succ])
      go_cut [59] (fun v wc => ∃ b : Bool, v = .bool b ∧ Aside0 (b = !impl_AreClaims.okA l0 i) ∧ Aside0 (impl_AreClaims.B wc gb (rd_T73 l0 i)) ∧ Aside0 (Below w.heap.size w wc))
      case first =>
        obtain ⟨b1, e1⟩ : ∃ b, decide (1 ≤ (rd_T73 l0 i).f0 ∧ (rd_T73 l0 i).f0 ≤ 999) = b := ⟨_, rfl⟩
        have F1 := Aside0.mk e1
        have E1 : Aside0 (impl_InRange.f (rd_T73 l0 i).f0 1 999 = some b1) := ⟨by rw [impl_AreClaims.in1, e1]⟩
        clear e1
        obtain ⟨b2, e2⟩ : ∃ b, decide (1 ≤ (rd_T73 l0 i).f1 ∧ (rd_T73 l0 i).f1 ≤ 999) = b := ⟨_, rfl⟩
        have F2 := Aside0.mk e2
        have E2 : Aside0 (impl_InRange.f (rd_T73 l0 i).f1 1 999 = some b2) := ⟨by rw [impl_AreClaims.in1, e2]⟩
        clear e2
        obtain ⟨b3, e3⟩ : ∃ b, decide (1 ≤ (rd_T73 l0 i).f2 ∧ (rd_T73 l0 i).f2 ≤ 999) = b := ⟨_, rfl⟩
        have F3 := Aside0.mk e3
        have E3 : Aside0 (impl_InRange.f (rd_T73 l0 i).f2 1 999 = some b3) := ⟨by rw [impl_AreClaims.in1, e3]⟩
        clear e3
        obtain ⟨b4, e4⟩ : ∃ b, decide (0 ≤ (rd_T73 l0 i).f3 ∧ (rd_T73 l0 i).f3 ≤ 100000) = b := ⟨_, rfl⟩
        have F4 := Aside0.mk e4
        have E4 : Aside0 (impl_InRange.f (rd_T73 l0 i).f3 0 100000 = some b4) := ⟨by rw [impl_AreClaims.in1, e4]⟩
        clear e4
        obtain ⟨b5, e5⟩ : ∃ b, decide (0 ≤ (rd_T73 l0 i).f4 ∧ (rd_T73 l0 i).f4 ≤ 3) = b := ⟨_, rfl⟩
        have F5 := Aside0.mk e5
        have E5 : Aside0 (impl_InRange.f (rd_T73 l0 i).f4 0 3 = some b5) := ⟨by rw [impl_AreClaims.in1, e5]⟩
        clear e5
        try go_wp2
        have n0_ : Aside0 (impl_AreClaims.B (((((w5.setCell ⟨gb, 0, none⟩ (.int .i64 ((rd_T73 l0 i).f0))).setCell ⟨gb, 1, none⟩ (.int .i64 ((rd_T73 l0 i).f1))).setCell ⟨gb, 2, none⟩ (.int .i64 ((rd_T73 l0 i).f2))).setCell ⟨gb, 3, none⟩ (.int .i64 ((rd_T73 l0 i).f3))).setCell ⟨gb, 4, none⟩ (.int .i64 ((rd_T73 l0 i).f4))) gb (rd_T73 l0 i)) := ⟨impl_AreClaims.put5 (bd_ BK.out)⟩
        have n1_ : Aside0 (Below w.heap.size w (((((w5.setCell ⟨gb, 0, none⟩ (.int .i64 ((rd_T73 l0 i).f0))).setCell ⟨gb, 1, none⟩ (.int .i64 ((rd_T73 l0 i).f1))).setCell ⟨gb, 2, none⟩ (.int .i64 ((rd_T73 l0 i).f2))).setCell ⟨gb, 3, none⟩ (.int .i64 ((rd_T73 l0 i).f3))).setCell ⟨gb, 4, none⟩ (.int .i64 ((rd_T73 l0 i).f4)))) := ⟨impl_AreClaims.HB_⟩
        clear BK HB
        generalize (((((w5.setCell ⟨gb, 0, none⟩ (.int .i64 ((rd_T73 l0 i).f0))).setCell ⟨gb, 1, none⟩ (.int .i64 ((rd_T73 l0 i).f1))).setCell ⟨gb, 2, none⟩ (.int .i64 ((rd_T73 l0 i).f2))).setCell ⟨gb, 3, none⟩ (.int .i64 ((rd_T73 l0 i).f3))).setCell ⟨gb, 4, none⟩ (.int .i64 ((rd_T73 l0 i).f4))) = w21 at n0_ n1_ ⊢
        have BK := Aside0.mk (blk_drew n0_.out)
        have HB := Aside0.mk (below_drew1 n1_.out)
        clear n0_ n1_
        refine start_ (n := 43) (S := fun w' => impl_AreClaims.H w' gb (rd_T73 l0 i) (ad.add ((j).toNat * 5)) (rd_T73 l0 j)) (ds := []) impl_AreClaims.M0 (by kernel_rfl) rfl rfl (impl_AreClaims.held (bd_ BK.out) impl_AreClaims.HB_ HY.out) (fun hHeld => ?_); refine with_tabW impl_AreClaims.tab6 impl_AreClaims.bits6 (fun HT_ HW_ => ?_)
        generalize w21.drew = w22 at BK HB hHeld ⊢
        refine pu_ 0 (some 17) impl_AreClaims.M1 HT_ ?_
        refine tk_ 1 (some 18) impl_AreClaims.M2 HT_ HW_ hHeld ?_
        all_goals first
        | refine pn_ 2 (some 19) impl_AreClaims.M3 HT_ ?_
        | refine one_ (i := 2) (N := some 19) impl_AreClaims.M3 rfl rfl (one_of HT_.out (by kernel_rfl)) (by decide) (fun K hK => ?_)
          refine goes_ Tryd.func29 (by kernel_rfl) rfl #[.int .i64 (rd_T73 l0 i).f0, .int .i64 1, .int .i64 999] (by rfl) rfl rfl ma_ ?_
          with_reducible refine (impl_InRange.calls (rd_T73 l0 i).f0 1 999 b1 _ E1.out).mono ?_
          rintro e w' ⟨rfl, ⟨nd, rfl⟩⟩
          refine ⟨_, rfl, ?_⟩
          refine hK.out _ _ (impl_AreClaims.held (bd_ BK.out) impl_AreClaims.HB_ HY.out) (fun hHeld => ?_)
          clear hK K
          refine norm_ (a' := ?_) ?_ ?_
          rotate_left
          · show Act.put _ (some 19) _ = _
            simp only [Act.put, List.setIfInBounds_toArray, List.set_cons_zero, List.set_cons_succ, i64_w, i32_w]
            rfl
          cases b1
        all_goals first | refine pn_ 3 (some 20) impl_AreClaims.M4 HT_ ?_ | refine pu_ 3 (some 20) impl_AreClaims.M4 HT_ ?_
        all_goals first | refine pn_ 4 (some 21) impl_AreClaims.M5 HT_ ?_ | refine pu_ 4 (some 21) impl_AreClaims.M5 HT_ ?_
        all_goals first | refine pn_ 5 (some 22) impl_AreClaims.M6 HT_ ?_ | refine pu_ 5 (some 22) impl_AreClaims.M6 HT_ ?_
        all_goals first
        | refine pn_ 6 (some 23) impl_AreClaims.M7 HT_ ?_
        | rcases C17.out with ⟨c17, hjw, hj1⟩ | ⟨c17, hjw, hj1⟩ <;> refine pu_ 6 (some 23) impl_AreClaims.M7 HT_ ?_
        all_goals first | refine pn_ 7 (some 24) impl_AreClaims.M8 HT_ ?_ | refine pu_ 7 (some 24) impl_AreClaims.M8 HT_ ?_
        all_goals first | refine pn_ 8 (some 25) impl_AreClaims.M9 HT_ ?_ | refine pu_ 8 (some 25) impl_AreClaims.M9 HT_ ?_
        all_goals first | refine pn_ 10 (some 27) impl_AreClaims.M10 HT_ ?_ | refine pu_ 10 (some 27) impl_AreClaims.M10 HT_ ?_
        all_goals first | refine pn_ 11 (some 28) impl_AreClaims.M11 HT_ ?_ | refine pu_ 11 (some 28) impl_AreClaims.M11 HT_ ?_
        all_goals first | refine pn_ 12 (some 29) impl_AreClaims.M12 HT_ ?_ | refine pu_ 12 (some 29) impl_AreClaims.M12 HT_ ?_
        all_goals first | refine pn_ 13 (some 30) impl_AreClaims.M13 HT_ ?_ | refine pu_ 13 (some 30) impl_AreClaims.M13 HT_ ?_
        all_goals first | refine pn_ 14 (some 31) impl_AreClaims.M14 HT_ ?_ | refine pu_ 14 (some 31) impl_AreClaims.M14 HT_ ?_
        all_goals first | refine pn_ 9 (some 26) impl_AreClaims.M15 HT_ ?_ | refine tk_ 9 (some 26) impl_AreClaims.M15 HT_ HW_ hHeld ?_
        all_goals first | refine pn_ 15 (some 32) impl_AreClaims.M16 HT_ ?_ | refine tk_ 15 (some 32) impl_AreClaims.M16 HT_ HW_ hHeld ?_
        all_goals first
        | refine pn_ 16 (some 33) impl_AreClaims.M17 HT_ ?_
        | rcases impl_AreClaims.two (decide ((rd_T73 l0 i).f0 ≤ (rd_T73 l0 j).f0)) with c20 | c20 <;> refine pu_ 16 (some 33) impl_AreClaims.M17 HT_ ?_
        all_goals first | refine pn_ 17 (some 34) impl_AreClaims.M18 HT_ ?_ | refine pu_ 17 (some 34) impl_AreClaims.M18 HT_ ?_
        all_goals first | refine pn_ 18 (some 35) impl_AreClaims.M19 HT_ ?_ | refine pu_ 18 (some 35) impl_AreClaims.M19 HT_ ?_
        all_goals first | refine pn_ 19 (some 36) impl_AreClaims.M20 HT_ ?_ | refine pu_ 19 (some 36) impl_AreClaims.M20 HT_ ?_
        all_goals first | refine pn_ 20 (some 37) impl_AreClaims.M21 HT_ ?_ | refine pu_ 20 (some 37) impl_AreClaims.M21 HT_ ?_
        all_goals first | refine pn_ 21 (some 38) impl_AreClaims.M22 HT_ ?_ | refine tk_ 21 (some 38) impl_AreClaims.M22 HT_ HW_ hHeld ?_
        all_goals first
        | refine pn_ 22 (some 39) impl_AreClaims.M23 HT_ ?_
        | refine one_ (i := 22) (N := some 39) impl_AreClaims.M23 rfl rfl (one_of HT_.out (by kernel_rfl)) (by decide) (fun K hK => ?_)
          refine goes_ Tryd.func29 (by kernel_rfl) rfl #[.int .i64 (rd_T73 l0 i).f1, .int .i64 1, .int .i64 999] (by rfl) rfl rfl ma_ ?_
          with_reducible refine (impl_InRange.calls (rd_T73 l0 i).f1 1 999 b2 _ E2.out).mono ?_
          rintro e w' ⟨rfl, ⟨nd, rfl⟩⟩
          refine ⟨_, rfl, ?_⟩
          refine hK.out _ _ (impl_AreClaims.held (bd_ BK.out) impl_AreClaims.HB_ HY.out) (fun hHeld => ?_)
          clear hK K
          refine norm_ (a' := ?_) ?_ ?_
          rotate_left
          · show Act.put _ (some 39) _ = _
            simp only [Act.put, List.setIfInBounds_toArray, List.set_cons_zero, List.set_cons_succ, i64_w, i32_w]
            rfl
          cases b2
        all_goals first | refine pn_ 23 (some 40) impl_AreClaims.M24 HT_ ?_ | refine pu_ 23 (some 40) impl_AreClaims.M24 HT_ ?_
        all_goals first | refine pn_ 24 (some 41) impl_AreClaims.M25 HT_ ?_ | refine pu_ 24 (some 41) impl_AreClaims.M25 HT_ ?_
        all_goals first | refine pn_ 25 (some 42) impl_AreClaims.M26 HT_ ?_ | refine pu_ 25 (some 42) impl_AreClaims.M26 HT_ ?_
        all_goals first | refine pn_ 26 (some 43) impl_AreClaims.M27 HT_ ?_ | refine pu_ 26 (some 43) impl_AreClaims.M27 HT_ ?_
        all_goals first | refine pn_ 27 (some 44) impl_AreClaims.M28 HT_ ?_ | refine tk_ 27 (some 44) impl_AreClaims.M28 HT_ HW_ hHeld ?_
        all_goals first
        | refine pn_ 28 (some 45) impl_AreClaims.M29 HT_ ?_
        | refine one_ (i := 28) (N := some 45) impl_AreClaims.M29 rfl rfl (one_of HT_.out (by kernel_rfl)) (by decide) (fun K hK => ?_)
          refine goes_ Tryd.func29 (by kernel_rfl) rfl #[.int .i64 (rd_T73 l0 i).f2, .int .i64 1, .int .i64 999] (by rfl) rfl rfl ma_ ?_
          with_reducible refine (impl_InRange.calls (rd_T73 l0 i).f2 1 999 b3 _ E3.out).mono ?_
          rintro e w' ⟨rfl, ⟨nd, rfl⟩⟩
          refine ⟨_, rfl, ?_⟩
          refine hK.out _ _ (impl_AreClaims.held (bd_ BK.out) impl_AreClaims.HB_ HY.out) (fun hHeld => ?_)
          clear hK K
          refine norm_ (a' := ?_) ?_ ?_
          rotate_left
          · show Act.put _ (some 45) _ = _
            simp only [Act.put, List.setIfInBounds_toArray, List.set_cons_zero, List.set_cons_succ, i64_w, i32_w]
            rfl
          cases b3
        all_goals first | refine pn_ 29 (some 46) impl_AreClaims.M30 HT_ ?_ | refine pu_ 29 (some 46) impl_AreClaims.M30 HT_ ?_
        all_goals first | refine pn_ 30 (some 47) impl_AreClaims.M31 HT_ ?_ | refine pu_ 30 (some 47) impl_AreClaims.M31 HT_ ?_
        all_goals first | refine pn_ 31 (some 48) impl_AreClaims.M32 HT_ ?_ | refine pu_ 31 (some 48) impl_AreClaims.M32 HT_ ?_
        all_goals first | refine pn_ 32 (some 49) impl_AreClaims.M33 HT_ ?_ | refine pu_ 32 (some 49) impl_AreClaims.M33 HT_ ?_
        all_goals first | refine pn_ 33 (some 50) impl_AreClaims.M34 HT_ ?_ | refine tk_ 33 (some 50) impl_AreClaims.M34 HT_ HW_ hHeld ?_
        all_goals first
        | refine pn_ 34 (some 51) impl_AreClaims.M35 HT_ ?_
        | refine one_ (i := 34) (N := some 51) impl_AreClaims.M35 rfl rfl (one_of HT_.out (by kernel_rfl)) (by decide) (fun K hK => ?_)
          refine goes_ Tryd.func29 (by kernel_rfl) rfl #[.int .i64 (rd_T73 l0 i).f3, .int .i64 0, .int .i64 100000] (by rfl) rfl rfl ma_ ?_
          with_reducible refine (impl_InRange.calls (rd_T73 l0 i).f3 0 100000 b4 _ E4.out).mono ?_
          rintro e w' ⟨rfl, ⟨nd, rfl⟩⟩
          refine ⟨_, rfl, ?_⟩
          refine hK.out _ _ (impl_AreClaims.held (bd_ BK.out) impl_AreClaims.HB_ HY.out) (fun hHeld => ?_)
          clear hK K
          refine norm_ (a' := ?_) ?_ ?_
          rotate_left
          · show Act.put _ (some 51) _ = _
            simp only [Act.put, List.setIfInBounds_toArray, List.set_cons_zero, List.set_cons_succ, i64_w, i32_w]
            rfl
          cases b4
        all_goals first | refine pn_ 35 (some 52) impl_AreClaims.M36 HT_ ?_ | refine pu_ 35 (some 52) impl_AreClaims.M36 HT_ ?_
        all_goals first | refine pn_ 36 (some 53) impl_AreClaims.M37 HT_ ?_ | refine pu_ 36 (some 53) impl_AreClaims.M37 HT_ ?_
        all_goals first | refine pn_ 37 (some 54) impl_AreClaims.M38 HT_ ?_ | refine pu_ 37 (some 54) impl_AreClaims.M38 HT_ ?_
        all_goals first | refine pn_ 38 (some 55) impl_AreClaims.M39 HT_ ?_ | refine pu_ 38 (some 55) impl_AreClaims.M39 HT_ ?_
        all_goals first | refine pn_ 39 (some 56) impl_AreClaims.M40 HT_ ?_ | refine tk_ 39 (some 56) impl_AreClaims.M40 HT_ HW_ hHeld ?_
        all_goals first
        | refine pn_ 40 (some 57) impl_AreClaims.M41 HT_ ?_
        | refine one_ (i := 40) (N := some 57) impl_AreClaims.M41 rfl rfl (one_of HT_.out (by kernel_rfl)) (by decide) (fun K hK => ?_)
          refine goes_ Tryd.func29 (by kernel_rfl) rfl #[.int .i64 (rd_T73 l0 i).f4, .int .i64 0, .int .i64 3] (by rfl) rfl rfl ma_ ?_
          with_reducible refine (impl_InRange.calls (rd_T73 l0 i).f4 0 3 b5 _ E5.out).mono ?_
          rintro e w' ⟨rfl, ⟨nd, rfl⟩⟩
          refine ⟨_, rfl, ?_⟩
          refine hK.out _ _ (impl_AreClaims.held (bd_ BK.out) impl_AreClaims.HB_ HY.out) (fun hHeld => ?_)
          clear hK K
          refine norm_ (a' := ?_) ?_ ?_
          rotate_left
          · show Act.put _ (some 57) _ = _
            simp only [Act.put, List.setIfInBounds_toArray, List.set_cons_zero, List.set_cons_succ, i64_w, i32_w]
            rfl
          cases b5
        all_goals first | refine pn_ 41 (some 58) impl_AreClaims.M42 HT_ ?_ | refine pu_ 41 (some 58) impl_AreClaims.M42 HT_ ?_
        all_goals first | refine pn_ 42 (some 59) impl_AreClaims.M43 HT_ ?_ | refine pu_ 42 (some 59) impl_AreClaims.M43 HT_ ?_
        all_goals refine done_ (done_of HT_.out (by kernel_rfl)) ?_
        all_goals try go_wp2
        all_goals go_meet
        all_goals exact ⟨_, rfl, ⟨by unfold impl_AreClaims.okA; (try simp only [hj1]); simp only [F1.out, F2.out, F3.out, F4.out, F5.out]; (try simp only [c17]); (try simp only [c20]); first | rfl | simp⟩, ⟨bd_ BK.out⟩, ⟨impl_AreClaims.HB_⟩⟩
      case rest =>
        clear hx0 hx1 hx2 hx3 hx4 HY C17 p2 q2
        obtain ⟨b, rfl, HA2, BK, HB⟩ := hcut
        cases b with
        | true =>
          have hA : impl_AreClaims.okA l0 i = false := by have := HA2.out; revert this; cases impl_AreClaims.okA l0 i <;> simp
          obtain rfl : r = false := HR.out.symm.trans (impl_AreClaims.badA l0 i I0.out HL.out hA)
          go_wp2
          go_ret
          exact ⟨rfl, impl_AreClaims.HB_⟩
        | false =>
          have hA : Aside0 (impl_AreClaims.okA l0 i = true) := ⟨by have := HA2.out; revert this; cases impl_AreClaims.okA l0 i <;> simp⟩
          clear HA2
          have c51 := eq_true I0.out
          have c51b : decide (0 ≤ i) = true := decide_eq_true I0.out
          have hil : i ≤ (l0.length : Int) := by have := HL.out; omega
          have c52b : decide (i ≤ (l0.length : Int)) = true := decide_eq_true hil
          obtain ⟨y, hy⟩ : ∃ y_ : List S73, y_ = l0.take i.toNat := ⟨_, rfl⟩
          have NY := Aside0.mk hy
          obtain ⟨i053, hi053, _, hsz53, _⟩ := info_parts info73
          have hC := HR0.out
          have hcut := cut_to (P := Tryd.prog) 25 73 .i64 Tryd.underlying25 hi053 (some ad) l0.length c0 i I0.out hil HC0.out
          have hr := Kd.C_take (m := i.toNat) hC (by omega)
          have hyl : y.length = i.toNat := by rw [hy, List.length_take]; have := I0.out; omega
          have hyi : (y.length : Int) = i := by rw [hyl]; have := I0.out; omega
          rw [← hy] at hr
          rw [← hyl] at hcut
          have HRY := Aside0.mk hr
          have HYI := Aside0.mk hyi
          have c52 := eq_true hil
          clear hr hC hi053 hsz53 hyl hyi hil hy
          go_wp2
          go_loopg [64] i.toNat (fun gg v w' => ∃ z : Int, v = .int .i64 z ∧ Aside0 (0 ≤ z) ∧ Aside0 (z ≤ i) ∧ Aside0 (i - z ≤ gg) ∧ Aside0 ((l0.take z.toNat).all (impl_AreClaims.okB (rd_T73 l0 i)) = true) ∧ Aside0 (impl_AreClaims.B w' gb (rd_T73 l0 i)) ∧ Aside0 (Below w.heap.size w w'))
          case atStart => exact ⟨0, rfl, ⟨by omega⟩, ⟨by have := I0.out; omega⟩, ⟨by have := I0.out; omega⟩, ⟨by simp⟩, ⟨bd_ BK.out⟩, ⟨impl_AreClaims.HB_⟩⟩
          case round =>
            clear BK HB c51 c51b c52 c52b hcut
            obtain ⟨z, rfl, Z0, Z1, ZG, HZ, BK, HB⟩ := hrel
            by_cases hz : z < i
            · have hzy : z < (y.length : Int) := by have := HYI.out; omega
              have c36 : decide (z < (y.length : Int)) = true := decide_eq_true hzy
              have hrdk := impl_AreClaims.rdk l0 i z Z0.out hz
              rw [← NY.out] at hrdk
              obtain ⟨ad2, e2, hy0, hy1, hy2, hy3, hy4⟩ := at_T73 HRY.out z Z0.out hzy
              obtain rfl : ad = ad2 := by injection e2
              rw [hrdk] at hy0 hy1 hy2 hy3 hy4
              replace hy0 := cb_ HB.out hy0
              replace hy1 := cb_ HB.out hy1
              replace hy2 := cb_ HB.out hy2
              replace hy3 := cb_ HB.out hy3
              replace hy4 := cb_ HB.out hy4
              have p2 := eq_true Z0.out
              have q2 := eq_true hzy
              have c38 : decide (0 ≤ z) = true := decide_eq_true Z0.out
              have HZI := Aside0.mk hz
              have HW2 := Aside0.mk (show wrap64 (z + 1) = z + 1 from by have := Z0.out; have := HM.out; have := HL.out; unfold wrap64; omega)
              clear e2 hz hzy hrdk
              rcases impl_AreClaims.four ((rd_T73 l0 i).f4 == 3) ((rd_T73 l0 z).f4 == 3) ((rd_T73 l0 i).f2 == (rd_T73 l0 z).f2) with ⟨c37, c40, c41⟩ | ⟨c37, c40, c41⟩ | ⟨c37, c40, c41⟩ | ⟨c37, c40, c41⟩
              all_goals go_wp2_with (first | ((with_reducible refine gate_dst (N := 6) rfl ?_); refine bx_ 6 #[.int .i64 0, .int .i64 0, .int .i64 0, .int .i64 0, .int .i64 0] 73 ?_; intro gb2 hg w60 hbox hb; have n0_ := Aside0.mk (blk_below (bd_ BK.out) hb); have n1_ := Aside0.mk (below_step (impl_AreClaims.HB_) hb); have BK2 := Aside0.mk (hbox); have GE2 := Aside0.mk ((by rw [hg]; exact (below_size (impl_AreClaims.HB_)) : w.heap.size ≤ gb2)); have NB := Aside0.mk ((by rw [hg]; exact Nat.ne_of_lt (blk_lt (bd_ BK.out)) : gb ≠ gb2)); clear BK HB; have BK := n0_; have HB := n1_; clear n0_ n1_; clear hb hbox hg; have hnc := NB.out; have hnb := hnc.symm; obtain ⟨hcz0, hcz1, hcz2, hcz3, hcz4⟩ := impl_AreClaims.cells BK2.out; obtain ⟨hfz0, hfz1, hfz2, hfz3, hfz4⟩ := impl_AreClaims.froz BK2.out; obtain ⟨hcy0, hcy1, hcy2, hcy3, hcy4⟩ := impl_AreClaims.cells BK.out; obtain ⟨hfy0, hfy1, hfy2, hfy3, hfy4⟩ := impl_AreClaims.froz BK.out))
              all_goals first
              | (obtain rfl : r = false := HR.out.symm.trans (impl_AreClaims.badB l0 i z Z0.out HZI.out HL.out (by unfold impl_AreClaims.okB; rw [c37, c40, impl_AreClaims.sw, c41]; rfl)))
                go_ret
                exact ⟨rfl, impl_AreClaims.HB2_⟩
              | go_roundg (i - (z + 1)).toNat
                case measure => have := Z0.out; have := HZI.out; have := ZG.out; omega
                case rel => exact ⟨z + 1, (by first | rw [HW2.out] | rw [i64_w, HW2.out]), ⟨by have := Z0.out; omega⟩, ⟨by have := HZI.out; omega⟩, ⟨by have := HZI.out; omega⟩, ⟨impl_AreClaims.stepB l0 _ z Z0.out (by have := HZI.out; have := HL.out; omega) HZ.out (by unfold impl_AreClaims.okB; (try rw [c37]); (try rw [c40]); (try rw [impl_AreClaims.sw, c41]); first | rfl | simp)⟩, ⟨by (with_reducible repeat (first | refine blk_drewN ?_ _ | refine blk_drew ?_ | refine blk_alloc ?_ _)); refine impl_AreClaims.far5 ?_ NB.out; exact bd_ BK.out⟩, ⟨impl_AreClaims.HB2_⟩⟩
            · have c36 : decide (z < (y.length : Int)) = false := decide_eq_false (by have := HYI.out; omega)
              go_wp2
              go_roundg ((l0.length : Int) - (i + 1)).toNat
              case measure => have := I0.out; have := HL.out; have := IG.out; omega
              case rel =>
                refine ⟨i + 1, (by first | rw [HW1.out] | rw [i64_w, HW1.out]), ⟨by have := I0.out; omega⟩, ⟨by have := HL.out; omega⟩, ⟨by have := HL.out; omega⟩, ⟨?_⟩, ⟨impl_AreClaims.HB_⟩⟩
                have hzi : z = i := by have := Z1.out; omega
                exact impl_AreClaims.step l0 i I0.out HA.out hA.out (hzi ▸ HZ.out)
    · have c2 : decide (i < (l0.length : Int)) = false := decide_eq_false hlt
      obtain rfl : r = true := by
        have hi : i.toNat = l0.length := by have := I1.out; omega
        have := HA.out
        rw [hi] at this
        have e := HR.out
        unfold impl_AreClaims.okL at e
        rw [this, Bool.and_true, decide_eq_true (by have := H20.out; omega)] at e
        exact e.symm
      go_wp2
      go_ret
      exact ⟨rfl, hd_ HB.out⟩


/-! ### impl_Task: function 21 -/
/-! ### impl_Task: function 21 -/
section SortTasks_
open Go.Sort Go.Proofs Go.Proofs.YtnlgilmbmoiniaaDoor.Srt Go.Shelf
abbrev impl_Task.enc (x : S33) : List Value := [.int .i64 x.f0, .int .i64 x.f1, .int .i64 x.f2]
instance impl_Task.inh : Inhabited S33 := ⟨z33⟩
abbrev impl_Task.cf (x y : S33) : Int := cf3 (x.f0, x.f1, x.f2) (y.f0, y.f1, y.f2)
/-- x stands ahead of y. -/
def impl_Task.lt (x y : S33) : Bool := decide (x.f2 < y.f2 ∨ (x.f2 = y.f2 ∧ (x.f1 < y.f1 ∨ (x.f1 = y.f1 ∧ x.f0 < y.f0))))
def impl_Task.le (x y : S33) : Bool := !impl_Task.lt y x
theorem impl_Task.lt_eq (x y : S33) : ltOf impl_Task.cf x y = impl_Task.lt x y := by
  unfold ltOf impl_Task.cf cf3 impl_Task.lt
  rw [decide_eq_decide]
  unfold or3 Lib.compareInt
  simp only
  repeat' split
  all_goals omega
theorem impl_Task.swo : SWO (ltOf impl_Task.cf) where
  irrefl x := by rw [impl_Task.lt_eq]; simp [impl_Task.lt]
  trans x y z h1 h2 := by rw [impl_Task.lt_eq] at *; simp only [impl_Task.lt, decide_eq_true_eq] at *; omega
  ntrans x y z h1 h2 := by rw [impl_Task.lt_eq] at *; simp only [impl_Task.lt, decide_eq_false_iff_not] at *; omega
theorem impl_Task.tot (x y : S33) (h1 : ltOf impl_Task.cf x y = false) (h2 : ltOf impl_Task.cf y x = false) : x = y := by
  rw [impl_Task.lt_eq] at h1 h2
  simp only [impl_Task.lt, decide_eq_false_iff_not] at h1 h2
  obtain ⟨a, b, c⟩ := x
  obtain ⟨p, q, r⟩ := y
  simp only at h1 h2
  have e1 : c = r := by omega
  have e2 : b = q := by omega
  have e3 : a = p := by omega
  rw [e1, e2, e3]
theorem impl_Task.le_eq : (fun x y => !(ltOf impl_Task.cf) y x) = impl_Task.le := by
  funext x y
  rw [impl_Task.lt_eq]; rfl
theorem impl_Task.reps_enc {w : World} {base : Nat} {ok : Nat → Prop} : ∀ {l : List S33} {cs : List Value}, Reps (k33.M w base ok) 3 l cs → cs = l.flatMap impl_Task.enc
  | [], cs, h => by
    have := h.1
    rw [List.length_nil, Nat.zero_mul] at this
    exact List.eq_nil_of_length_eq_zero this
  | x :: l, cs, h => by
    have h0 := k33_openM (h.2 0 x rfl)
    rw [Nat.zero_mul, List.drop_zero] at h0
    have ht : Reps (k33.M w base ok) 3 l (cs.drop 3) := by
      refine ⟨by rw [List.length_drop, h.1, List.length_cons]; omega, fun j p hj => ?_⟩
      have := h.2 (j + 1) p hj
      rw [List.drop_drop, show 3 + j * 3 = (j + 1) * 3 by omega]
      exact this
    rw [List.flatMap_cons, ← impl_Task.reps_enc ht, show impl_Task.enc x = cs.take 3 from h0.symm, List.take_append_drop]
theorem impl_Task.enc_reps (w : World) (base : Nat) (ok : Nat → Prop) : ∀ (l : List S33), Reps (k33.M w base ok) 3 l (l.flatMap impl_Task.enc)
  | [] => Reps.none _ _
  | x :: l => by
    have h := impl_Task.enc_reps w base ok l
    rw [List.flatMap_cons]
    refine ⟨by rw [List.length_append, h.1]; show 3 + l.length * 3 = (l.length + 1) * 3; omega, fun j p hj => ?_⟩
    cases j with
    | zero =>
      obtain rfl : x = p := by simpa using hj
      exact k33_mkM w base ok x
    | succ j =>
      have := h.2 j p hj
      rw [show (j + 1) * 3 = 3 + j * 3 by omega, ← List.drop_drop]
      exact this
theorem impl_Task.R_own {e : Nat} {w : World} {base : Nat} {ok : Nat → Prop} {v : Value} {l : List S33} (h : Kd.R k33 e w base ok v l) : w.ownsRow base e 3 v l.length (l.flatMap impl_Task.enc) := by
  obtain ⟨_, inner, ho, hr⟩ := h
  rw [← impl_Task.reps_enc hr]
  exact ho
theorem impl_Task.own_R {e : Nat} {w : World} {base : Nat} {ok : Nat → Prop} {v : Value} {l : List S33} (h : w.ownsRow base e 3 v l.length (l.flatMap impl_Task.enc)) (hok : ∀ k, v.ownBlock = some k → ok k) : Kd.R k33 e w base ok v l := ⟨hok, _, h, impl_Task.enc_reps _ _ _ _⟩
theorem impl_Task.calls_ (P0_ : Nat → Prop) (u0 : Value) (l0 : List S33) (e : Nat) (w0 w : World) (hB : Below w0.heap.size w0 w) (ho0 : Kd.R k33 e w w0.heap.size P0_ u0 l0) (hlt : l0.length < 4611686018427387904) :
    Calls Tryd.prog 21 #[u0, .func (.func 22) #[] #[]] w fun r w' => r = .returned (.tuple #[]) ∧ Kd.R k33 e w' w0.heap.size (fun k_ => (P0_ k_ ∨ w.heap.size ≤ k_)) u0 (l0.mergeSort impl_Task.le) ∧ Below w0.heap.size w0 w' ∧ Kept w w' (fun k_ => P0_ k_) := by
  have hown := impl_Task.R_own ho0
  have hok := ho0.1
  have hlen : (l0.mergeSort impl_Task.le).length = l0.length := List.length_mergeSort l0
  rcases hown.2 with ⟨hv, h0⟩ | ⟨g, cap, cur, hv, hb, hh, hlc, hcm, hcs, htake⟩
  · subst hv
    have hl0 : l0 = [] := List.eq_nil_of_length_eq_zero h0
    subst hl0
    refine (Srt.sort_none w).mono ?_
    rintro r w' ⟨rfl, rfl⟩
    have e0 : ([] : List S33).mergeSort impl_Task.le = [] := List.eq_nil_of_length_eq_zero (by rw [List.length_mergeSort]; rfl)
    rw [e0]
    exact ⟨rfl, Kd.R_nil _ _ _ _ _, hB, Kept.refl _ _⟩
  · subst hv
    have hg : g < w.heap.size := blk_lt hh
    have hk : ∀ x : S33, (impl_Task.enc x).length = 3 := fun _ => rfl
    have hH : HoldsK impl_Task.enc 3 w g 0 l0.toArray := holds_flat hh (by rw [flatK_list impl_Task.enc hk, size_flatK, List.size_toArray]; exact htake)
    have hC := Srt.sort impl_Task.enc (fun x => (x.f0, x.f1, x.f2)) (fun _ => rfl) impl_Task.swo impl_Task.tot g cap l0.toArray w hH hg (by rw [List.size_toArray]; exact hlt)
    rw [show (fun x y => !(ltOf fun x y => cf3 (x.f0, x.f1, x.f2) (y.f0, y.f1, y.f2)) y x) = impl_Task.le from impl_Task.le_eq] at hC
    rw [List.size_toArray] at hC
    refine hC.mono ?_
    rintro r w' ⟨rfl, n, os, rfl⟩
    show _ ∧ Kd.R k33 e (grow (putRow id (Sort.ahead w n) g 0 (flatK impl_Task.enc 3 (l0.mergeSort impl_Task.le).toArray)) os) _ _ _ _ ∧ Below _ _ (grow (putRow id (Sort.ahead w n) g 0 (flatK impl_Task.enc 3 (l0.mergeSort impl_Task.le).toArray)) os) ∧ Kept _ (grow (putRow id (Sort.ahead w n) g 0 (flatK impl_Task.enc 3 (l0.mergeSort impl_Task.le).toArray)) os) _
    have hgr := grownBy_flat (w := w) (g := g) (n := n) (os := os) (flatK impl_Task.enc 3 (l0.mergeSort impl_Task.le).toArray)
    have ho := ownsRow_flat (w := w) (base := w0.heap.size) (n := n) (e := e) (os := os) (len := l0.length) (k := 3) (d := flatK impl_Task.enc 3 (l0.mergeSort impl_Task.le).toArray) (by rw [size_flatK, List.size_toArray, hlen]) hb hh hlc hcm hcs
    rw [flatK_list impl_Task.enc hk] at ho
    refine ⟨rfl, impl_Task.own_R ?_ (fun k hk => .inl (hok k hk)), pw_below_grown hB (some g) hB.size hgr (by rintro k ⟨⟩; exact hb), Kept.of_grown hgr (Kept.refl _ _) (by rintro k ⟨⟩; exact .inl (hok g (by simp [Value.ownBlock])))⟩
    rw [hlen]
    exact ho
end SortTasks_
def impl_Task.f (l0 : List S33) : Option (List S33) := if l0.length < 4611686018427387904 then some (l0.mergeSort impl_Task.le) else none
theorem impl_Task.calls (P0_ : Nat → Prop) (u9000_ : Value) (l0 : List S33) (r1 : List S33) (w0 w : World) (hB : Below w0.heap.size w0 w) (ho0 : Kd.R k33 33 w w0.heap.size P0_ u9000_ l0) (h : impl_Task.f l0 = some r1) :
    Calls Tryd.prog 21 #[u9000_, .func (.func 22) #[] #[]] w fun e w' => e = .returned (.tuple #[]) ∧ Kd.R k33 33 w' w0.heap.size (fun k_ => (P0_ k_ ∨ w.heap.size ≤ k_)) u9000_ r1 ∧ Below w0.heap.size w0 w' ∧ Kept w w' (fun k_ => P0_ k_) := by
  unfold impl_Task.f at h
  split at h
  case isFalse => cases h
  rename_i hlt
  obtain rfl := Option.some.inj h
  exact impl_Task.calls_ P0_ u9000_ l0 33 w0 w hB ho0 hlt


/-! ### impl_TasksFor: function 7 -/
mutual
def impl_TasksFor.j0 : Nat → List (S38) → List (S73) → List Bool → Int → List (S33) → Bool → Option ((List (S33)))
  | 0, _, _, _, _, _, _ => none
  | k + 1, x0, x1, x2, x3, x9, x21 => if x21 = true then (some x9) else (impl_TasksFor.l0 k x1 x2 x3 x9 x0 (x0.length : Int) 0)
def impl_TasksFor.l0 : Nat → List (S73) → List Bool → Int → List (S33) → List (S38) → Int → Int → Option ((List (S33)))
  | 0, _, _, _, _, _, _, _ => none
  | k + 1, x1, x2, x3, x9, x23, x24, x25 => if x25 < x24 then (if 0 ≤ x25 then (if x25 < (x23.length : Int) then ((impl_TaskOf.f k ((rd_T38 x23 x25).f0.f0) ((rd_T38 x23 x25).f0.f1) ((rd_T38 x23 x25).f0.f2) ((rd_T38 x23 x25).f0.f3) ((rd_T38 x23 x25).f0.f4) ((rd_T38 x23 x25).f1) ((rd_T38 x23 x25).f2) ((rd_T38 x23 x25).f3) x1 x2 x3).bind fun bt540 => (if (bt540.1 == 0 && (bt540.2.1 == 0 && (bt540.2.2 == 0))) = true then (some (([] : List (S33)))) else (if x9.length < 5864062014805 then (impl_TasksFor.l0 k x1 x2 x3 (x9 ++ [(⟨bt540.1, bt540.2.1, bt540.2.2⟩ : S33)]) x23 x24 (wrap64 (x25 + 1))) else (none)))) else (none)) else (none)) else ((impl_Task.f x9).bind fun t550 => (some t550))
end
def impl_TasksFor.f (k : Nat) (l0 : List (S38)) (l1 : List (S73)) (l2 : List Bool) (a3 : Int) : Option ((List (S33))) := (some (([] : List (S33)) : List (S33))).bind fun y533 => ((impl_AreFinds.f k l0).bind fun t536 => (if t536 = true then ((impl_AreClaims.f l1).bind fun t537 => (impl_TasksFor.j0 k l0 l1 l2 a3 y533 (!t537))) else (impl_TasksFor.j0 k l0 l1 l2 a3 y533 true)))
theorem impl_TasksFor.mono_l : ∀ k, (∀ y0 y1 y2 y3 y4 y5, LeO (impl_TasksFor.j0 k y0 y1 y2 y3 y4 y5) (impl_TasksFor.j0 (k + 1) y0 y1 y2 y3 y4 y5)) ∧ (∀ y0 y1 y2 y3 y4 y5 y6, LeO (impl_TasksFor.l0 k y0 y1 y2 y3 y4 y5 y6) (impl_TasksFor.l0 (k + 1) y0 y1 y2 y3 y4 y5 y6))
  | 0 => ⟨fun _ _ _ _ _ _ r h => by simp [impl_TasksFor.j0] at h, fun _ _ _ _ _ _ _ r h => by simp [impl_TasksFor.l0] at h⟩
  | k + 1 => by
    obtain ⟨ih0, ih1⟩ := impl_TasksFor.mono_l k
    refine ⟨?_, ?_⟩
    · intro y0 y1 y2 y3 y4 y5
      unfold impl_TasksFor.j0
      have jh0 := @impl_AreFinds.mono
      have jh1 := @impl_TaskOf.mono
      exact mo_
    · intro y0 y1 y2 y3 y4 y5 y6
      unfold impl_TasksFor.l0
      have jh0 := @impl_AreFinds.mono
      have jh1 := @impl_TaskOf.mono
      exact mo_
theorem impl_TasksFor.mono : ∀ a0 a1 a2 a3 k, LeO (impl_TasksFor.f k a0 a1 a2 a3) (impl_TasksFor.f (k + 1) a0 a1 a2 a3) := by
  intro a0 a1 a2 a3 k
  obtain ⟨ih0, ih1⟩ := impl_TasksFor.mono_l k
  unfold impl_TasksFor.f
  have jh0 := @impl_AreFinds.mono
  have jh1 := @impl_TaskOf.mono
  exact mo_
theorem e190_ {w : World} {g : Nat} {t : TypeId} {i0 : Int} {i1 : Int} {i2 : Int} {i3 : Int} {i4 : Int} {i5 : Int} {i6 : Int} {i7 : Int} (h : w.heap[g]? = some (.cells #[.int .i64 i0, .int .i64 i1, .int .i64 i2, .int .i64 i3, .int .i64 i4, .int .i64 i5, .int .i64 i6, .int .i64 i7] t (0, 0))) : w.cell? ⟨g, 0, none⟩ = some (.int .i64 i0) ∧ w.cell? ⟨g, 1, none⟩ = some (.int .i64 i1) ∧ w.cell? ⟨g, 2, none⟩ = some (.int .i64 i2) ∧ w.cell? ⟨g, 3, none⟩ = some (.int .i64 i3) ∧ w.cell? ⟨g, 4, none⟩ = some (.int .i64 i4) ∧ w.cell? ⟨g, 5, none⟩ = some (.int .i64 i5) ∧ w.cell? ⟨g, 6, none⟩ = some (.int .i64 i6) ∧ w.cell? ⟨g, 7, none⟩ = some (.int .i64 i7) := ⟨(blk_cell h 0).trans rfl, (blk_cell h 1).trans rfl, (blk_cell h 2).trans rfl, (blk_cell h 3).trans rfl, (blk_cell h 4).trans rfl, (blk_cell h 5).trans rfl, (blk_cell h 6).trans rfl, (blk_cell h 7).trans rfl⟩
theorem e191_ {w : World} {g : Nat} {t : TypeId} {i0 : Int} {i1 : Int} {i2 : Int} (h : w.heap[g]? = some (.cells #[.int .i64 i0, .int .i64 i1, .int .i64 i2] t (0, 0))) : w.cell? ⟨g, 0, none⟩ = some (.int .i64 i0) ∧ w.cell? ⟨g, 1, none⟩ = some (.int .i64 i1) ∧ w.cell? ⟨g, 2, none⟩ = some (.int .i64 i2) := ⟨(blk_cell h 0).trans rfl, (blk_cell h 1).trans rfl, (blk_cell h 2).trans rfl⟩
theorem z192_ {w : World} {g : Nat} {t : TypeId} {cs : Array Value} (h : w.heap[g]? = some (.cells cs t (0, 0))) : w.frozen? ⟨g, 0, none⟩ = false ∧ w.frozen? ⟨g, 1, none⟩ = false ∧ w.frozen? ⟨g, 2, none⟩ = false ∧ w.frozen? ⟨g, 3, none⟩ = false ∧ w.frozen? ⟨g, 4, none⟩ = false ∧ w.frozen? ⟨g, 5, none⟩ = false ∧ w.frozen? ⟨g, 6, none⟩ = false ∧ w.frozen? ⟨g, 7, none⟩ = false := ⟨blk_frozen h 0, blk_frozen h 1, blk_frozen h 2, blk_frozen h 3, blk_frozen h 4, blk_frozen h 5, blk_frozen h 6, blk_frozen h 7⟩
theorem z193_ {w : World} {g : Nat} {t : TypeId} {cs : Array Value} (h : w.heap[g]? = some (.cells cs t (0, 0))) : w.frozen? ⟨g, 0, none⟩ = false ∧ w.frozen? ⟨g, 1, none⟩ = false ∧ w.frozen? ⟨g, 2, none⟩ = false := ⟨blk_frozen h 0, blk_frozen h 1, blk_frozen h 2⟩
theorem y194_ {P : Prop} (h : P := by (with_reducible repeat (first | refine blk_drewN ?_ _ | refine blk_drew ?_ | refine blk_alloc ?_ _)); refine blk_put (cs := #[.int .i64 ((rd_T38 l0 x25_2).f0.f0), .int .i64 ((rd_T38 l0 x25_2).f0.f1), .int .i64 ((rd_T38 l0 x25_2).f0.f2), .int .i64 ((rd_T38 l0 x25_2).f0.f3), .int .i64 ((rd_T38 l0 x25_2).f0.f4), .int .i64 ((rd_T38 l0 x25_2).f1), .int .i64 ((rd_T38 l0 x25_2).f2), .int .i64 0]) ?_ 7 _ rfl; (with_reducible repeat (first | refine blk_drewN ?_ _ | refine blk_drew ?_ | refine blk_alloc ?_ _)); refine blk_put (cs := #[.int .i64 ((rd_T38 l0 x25_2).f0.f0), .int .i64 ((rd_T38 l0 x25_2).f0.f1), .int .i64 ((rd_T38 l0 x25_2).f0.f2), .int .i64 ((rd_T38 l0 x25_2).f0.f3), .int .i64 ((rd_T38 l0 x25_2).f0.f4), .int .i64 ((rd_T38 l0 x25_2).f1), .int .i64 0, .int .i64 0]) ?_ 6 _ rfl; (with_reducible repeat (first | refine blk_drewN ?_ _ | refine blk_drew ?_ | refine blk_alloc ?_ _)); refine blk_put (cs := #[.int .i64 ((rd_T38 l0 x25_2).f0.f0), .int .i64 ((rd_T38 l0 x25_2).f0.f1), .int .i64 ((rd_T38 l0 x25_2).f0.f2), .int .i64 ((rd_T38 l0 x25_2).f0.f3), .int .i64 ((rd_T38 l0 x25_2).f0.f4), .int .i64 0, .int .i64 0, .int .i64 0]) ?_ 5 _ rfl; (with_reducible repeat (first | refine blk_drewN ?_ _ | refine blk_drew ?_ | refine blk_alloc ?_ _)); refine blk_put (cs := #[.int .i64 ((rd_T38 l0 x25_2).f0.f0), .int .i64 ((rd_T38 l0 x25_2).f0.f1), .int .i64 ((rd_T38 l0 x25_2).f0.f2), .int .i64 ((rd_T38 l0 x25_2).f0.f3), .int .i64 0, .int .i64 0, .int .i64 0, .int .i64 0]) ?_ 4 _ rfl; (with_reducible repeat (first | refine blk_drewN ?_ _ | refine blk_drew ?_ | refine blk_alloc ?_ _)); refine blk_put (cs := #[.int .i64 ((rd_T38 l0 x25_2).f0.f0), .int .i64 ((rd_T38 l0 x25_2).f0.f1), .int .i64 ((rd_T38 l0 x25_2).f0.f2), .int .i64 0, .int .i64 0, .int .i64 0, .int .i64 0, .int .i64 0]) ?_ 3 _ rfl; (with_reducible repeat (first | refine blk_drewN ?_ _ | refine blk_drew ?_ | refine blk_alloc ?_ _)); refine blk_put (cs := #[.int .i64 ((rd_T38 l0 x25_2).f0.f0), .int .i64 ((rd_T38 l0 x25_2).f0.f1), .int .i64 0, .int .i64 0, .int .i64 0, .int .i64 0, .int .i64 0, .int .i64 0]) ?_ 2 _ rfl; (with_reducible repeat (first | refine blk_drewN ?_ _ | refine blk_drew ?_ | refine blk_alloc ?_ _)); refine blk_put (cs := #[.int .i64 ((rd_T38 l0 x25_2).f0.f0), .int .i64 0, .int .i64 0, .int .i64 0, .int .i64 0, .int .i64 0, .int .i64 0, .int .i64 0]) ?_ 1 _ rfl; (with_reducible repeat (first | refine blk_drewN ?_ _ | refine blk_drew ?_ | refine blk_alloc ?_ _)); refine blk_put (cs := #[.int .i64 0, .int .i64 0, .int .i64 0, .int .i64 0, .int .i64 0, .int .i64 0, .int .i64 0, .int .i64 0]) ?_ 0 _ rfl; (with_reducible repeat (first | refine blk_drewN ?_ _ | refine blk_drew ?_ | refine blk_alloc ?_ _)); exact BK539.out) : P := h
theorem y195_ {P : Prop} (h : P := by (with_reducible repeat (first | refine blk_drewN ?_ _ | refine blk_drew ?_ | refine blk_alloc ?_ _)); refine blk_put (cs := #[.int .i64 t540, .int .i64 t541, .int .i64 0]) ?_ 2 _ rfl; (with_reducible repeat (first | refine blk_drewN ?_ _ | refine blk_drew ?_ | refine blk_alloc ?_ _)); refine blk_put (cs := #[.int .i64 t540, .int .i64 0, .int .i64 0]) ?_ 1 _ rfl; (with_reducible repeat (first | refine blk_drewN ?_ _ | refine blk_drew ?_ | refine blk_alloc ?_ _)); refine blk_put (cs := #[.int .i64 0, .int .i64 0, .int .i64 0]) ?_ 0 _ rfl; (with_reducible repeat (first | refine blk_drewN ?_ _ | refine blk_drew ?_ | refine blk_alloc ?_ _)); exact BK543.out) : P := h
theorem y196_ {P : Prop} (h : P := by repeat (first | (with_reducible first | exact HB.out | apply below_alloc | apply pw_below_drewN | apply below_drew1 | refine below_set ?_ GE539.out) | exact HB.out)) : P := h
theorem y198_ {P : Prop} (h : P := by (with_reducible repeat (first | apply Kd.R_alloc | apply Kd.R_drewN | apply Kd.R_drew)); exact (Kd.R_mono (Kd.R_far (p := ⟨gb539, 7, none⟩) (Kd.R_far (p := ⟨gb539, 6, none⟩) (Kd.R_far (p := ⟨gb539, 5, none⟩) (Kd.R_far (p := ⟨gb539, 4, none⟩) (Kd.R_far (p := ⟨gb539, 3, none⟩) (Kd.R_far (p := ⟨gb539, 2, none⟩) (Kd.R_far (p := ⟨gb539, 1, none⟩) (Kd.R_far (p := ⟨gb539, 0, none⟩) (Kd.R_types HO_9.out BK539.out (by decide)) (fun _ hk => hk.2) (.int .i64 ((rd_T38 l0 x25_2).f0.f0))) (fun _ hk => hk.2) (.int .i64 ((rd_T38 l0 x25_2).f0.f1))) (fun _ hk => hk.2) (.int .i64 ((rd_T38 l0 x25_2).f0.f2))) (fun _ hk => hk.2) (.int .i64 ((rd_T38 l0 x25_2).f0.f3))) (fun _ hk => hk.2) (.int .i64 ((rd_T38 l0 x25_2).f0.f4))) (fun _ hk => hk.2) (.int .i64 ((rd_T38 l0 x25_2).f1))) (fun _ hk => hk.2) (.int .i64 ((rd_T38 l0 x25_2).f2))) (fun _ hk => hk.2) (.int .i64 ((rd_T38 l0 x25_2).f3))) (fun _ h_ => h_.1))) : P := h
theorem y199_ {P : Prop} (h : P := by repeat (first | (with_reducible first | exact HB.out | apply below_alloc | apply pw_below_drewN | apply below_drew1 | refine below_set ?_ GE539.out | refine below_set ?_ GE543.out) | exact HB.out)) : P := h
theorem y202_ {P : Prop} (h : P := by (with_reducible repeat (first | refine blk_drewN ?_ _ | refine blk_drew ?_ | refine blk_alloc ?_ _)); refine blk_far ?_ NB539_543.out _; (with_reducible repeat (first | refine blk_drewN ?_ _ | refine blk_drew ?_ | refine blk_alloc ?_ _)); refine blk_far ?_ NB539_543.out _; (with_reducible repeat (first | refine blk_drewN ?_ _ | refine blk_drew ?_ | refine blk_alloc ?_ _)); refine blk_far ?_ NB539_543.out _; (with_reducible repeat (first | refine blk_drewN ?_ _ | refine blk_drew ?_ | refine blk_alloc ?_ _)); exact BK539.out) : P := h
theorem y204_ {P : Prop} (h : P := by (with_reducible repeat (first | apply Kd.R_alloc | apply Kd.R_drewN | apply Kd.R_drew)); exact (Kd.R_mono (Kd.R_far (p := ⟨gb543, 2, none⟩) (Kd.R_far (p := ⟨gb543, 1, none⟩) (Kd.R_far (p := ⟨gb543, 0, none⟩) (Kd.R_mono HO_9.out (fun k_ hk => (⟨hk, hk.2⟩ : _ ∧ k_ ≠ gb543))) (fun _ hk => hk.2) (.int .i64 t540)) (fun _ hk => hk.2) (.int .i64 t541)) (fun _ hk => hk.2) (.int .i64 t542)) (fun _ h_ => h_.1))) : P := h
theorem y205_ {P : Prop} (h : P := by rw [hg]; exact Nat.ne_of_lt (blk_lt (bd_ BK539.out))) : P := h
theorem y206_ {P : Prop} (h : P := by rw [hg]; exact Nat.ne_of_gt (blk_lt (bd_ BK539.out))) : P := h
set_option maxHeartbeats 8000000 in
set_option maxRecDepth 100000 in
theorem impl_TasksFor.calls (k : Nat) (A0 : Option Addr) (c0 : Nat) (l0 : List (S38)) (A1 : Option Addr) (c1 : Nat) (l1 : List (S73)) (A2 : Option Addr) (c2 : Nat) (l2 : List Bool) (a3 : Int) (r : List (S33)) (w : World) (hr0 : Kd.C k38 w A0 l0.length l0) (hc0 : l0.length ≤ c0) (hr1 : Kd.C k73 w A1 l1.length l1) (hc1 : l1.length ≤ c1) (hr2 : Kd.C Kd.bool w A2 l2.length l2) (hc2 : l2.length ≤ c2) (h : impl_TasksFor.f k l0 l1 l2 a3 = some r) :
    Calls Tryd.prog 7 #[.slice A0 l0.length c0, .slice A1 l1.length c1, .slice A2 l2.length c2, .int .i64 a3] w fun e w' => ∃ v0_ : Value, e = .returned (v0_) ∧ Kd.R k33 33 w' w.heap.size (fun _ => True) v0_ r ∧ Below w.heap.size w w' := by
  have hu38 := Tryd.underlying38
  have hu33 := Tryd.underlying33
  have HR0 := Aside0.mk hr0
  have HC0 := Aside0.mk hc0
  clear hr0 hc0
  have HR1 := Aside0.mk hr1
  have HC1 := Aside0.mk hc1
  clear hr1 hc1
  have HR2 := Aside0.mk hr2
  have HC2 := Aside0.mk hc2
  clear hr2 hc2
  have HB := Aside0.mk (Below.refl w.heap.size w)
  have H : ((some (([] : List (S33)) : List (S33))).bind fun y533 => ((impl_AreFinds.f k l0).bind fun t536 => (if t536 = true then ((impl_AreClaims.f l1).bind fun t537 => (impl_TasksFor.j0 k l0 l1 l2 a3 y533 (!t537))) else (impl_TasksFor.j0 k l0 l1 l2 a3 y533 true)))) = some r := h
  clear h
  obtain ⟨y533, hy533⟩ : ∃ y_ : List (S33), y_ = (([] : List (S33))) := ⟨_, rfl⟩
  replace H : ((impl_AreFinds.f k l0).bind fun t536 => (if t536 = true then ((impl_AreClaims.f l1).bind fun t537 => (impl_TasksFor.j0 k l0 l1 l2 a3 y533 (!t537))) else (impl_TasksFor.j0 k l0 l1 l2 a3 y533 true))) = some r := by first | (rw [hy533]; with_reducible exact H) | (have H2_ := (Option.bind_some _ _).symm.trans H; rw [hy533]; with_reducible exact H2_) | (have H2_ := (Option.bind_some _ _).symm.trans H; with_reducible exact H2_) | with_reducible exact H | (rw [hy533]; exact H) | exact H
  have Ny533 := Aside0.mk hy533
  clear hy533
  have HC5 := Aside0.mk H
  clear H
  go_enter Tryd.func7, Tryd.ntmps7
  go_upto_region 2 with (first | ((with_reducible refine gate_dst (N := 13) rfl ?_); refine Kd.R_lit k33 _ 33 ?hg (N := 13) ?hd (xs := ([] : List (S33))) (inner := []) (ok := fun _ => True) (okp := fun _ => True) ?hr ?hp (fun _ hk => hk) trivial (Below.refl _ _) (Nat.le_refl _) (by simp) ?_; (case hd => rfl); (case hg => rfl); (case hr => first | (go_simp; done) | (go_simp; rfl)); (case hp => exact (Reps.none _ _)); intro v534 w6 ho7 hb hg_ hnew_; clear hg_ hnew_; (first | rw [← Ny533.out] at ho7 | (simp only [Int.reduceToNat] at ho7; rw [← Ny533.out] at ho7)); have HO535 := Aside0.mk (Kd.R_lower ho7 (below_size (hd_ HB.out))); have n1_ := Aside0.mk (below_step (hd_ HB.out) hb); clear HB; have HB := n1_; clear n1_; clear hb ho7))
  (try simp only [Act.put, List.setIfInBounds_toArray, List.set_cons_zero, List.set_cons_succ])
  go_cut [21] (fun v21 wc => ∃ (kq : Nat) (x21_4 : Bool), v21 = .bool x21_4 ∧ Aside0 (impl_TasksFor.j0 kq l0 l1 l2 a3 y533 x21_4 = some r) ∧ Aside0 (kq ≤ k) ∧ Aside0 (Kd.R k33 33 wc w.heap.size (fun _ => True) v534 y533) ∧ Aside0 (Below w.heap.size w wc))
  case first =>
    have H := HC5.out
    clear HC5
    replace H := Option.bind_eq_some_iff.mp H
    obtain ⟨t536, A80, H⟩ := H
    replace H : (if t536 = true then ((impl_AreClaims.f l1).bind fun t537 => (impl_TasksFor.j0 k l0 l1 l2 a3 y533 (!t537))) else (impl_TasksFor.j0 k l0 l1 l2 a3 y533 true)) = some r := H
    have A8 := Aside0.mk A80
    clear A80
    by_cases c9 : t536 = true
    · subst c9
      have H1 : ((impl_AreClaims.f l1).bind fun t537 => (impl_TasksFor.j0 k l0 l1 l2 a3 y533 (!t537))) = some r := by rw [if_pos rfl] at H; exact H
      clear H
      have H := H1
      clear H1
      replace H := Option.bind_eq_some_iff.mp H
      obtain ⟨t537, A100, H⟩ := H
      replace H : (impl_TasksFor.j0 k l0 l1 l2 a3 y533 (!t537)) = some r := H
      have A10 := Aside0.mk A100
      clear A100
      have H' := Aside0.mk H
      clear H
      go_wp2_with (first | ((with_reducible refine gate_callee (f := 19) rfl ?_); refine goesL_ (some 15) rfl rfl Tryd.func19 (by kernel_rfl) rfl #[.slice A0 l0.length c0] rfl ma_ ?_; (with_reducible refine (impl_AreFinds.calls k _ _ l0 true _ ?side1 ?side2 A8.out).mono ?_); (case side1 => exact cd_ (Kd.C_below HR0.out HB.out)); (case side2 => exact HC0.out); rintro e w11 ⟨rfl, hb⟩; refine ⟨_, rfl, ?_⟩; have n0_ := Aside0.mk (Kd.R_below (rd_ HO535.out) hb); have n1_ := Aside0.mk (below_step (hd_ HB.out) hb); clear HO535; clear HB; have HO535 := n0_; have HB := n1_; clear n0_ n1_; (try clear hb)) | (go_at_call 20; (with_reducible refine (impl_AreClaims.calls _ _ l1 t537 _ ?side1 ?side2 A10.out).mono ?_); (case side1 => exact cd_ (Kd.C_below HR1.out HB.out)); (case side2 => exact HC1.out); rintro e w12 ⟨rfl, hb⟩; have n0_ := Aside0.mk (Kd.R_below (rd_ HO535.out) hb); have n1_ := Aside0.mk (below_step (hd_ HB.out) hb); clear HO535; clear HB; have HO535 := n0_; have HB := n1_; clear n0_ n1_; (try clear hb)))
      go_meet
      case rel => exact ⟨_, (!t537), rs_, H', ⟨by first | omega | exact Nat.le_refl _⟩, ⟨rd_ HO535.out⟩, ⟨hd_ HB.out⟩⟩
    · replace c9 := Bool.eq_false_iff.mpr c9
      subst c9
      have H1 : (impl_TasksFor.j0 k l0 l1 l2 a3 y533 true) = some r := by rw [if_neg (show ¬ (false = true) by decide)] at H; exact H
      clear H
      have H := H1
      clear H1
      have H' := Aside0.mk H
      clear H
      go_wp2_with (first | ((with_reducible refine gate_callee (f := 19) rfl ?_); refine goesL_ (some 15) rfl rfl Tryd.func19 (by kernel_rfl) rfl #[.slice A0 l0.length c0] rfl ma_ ?_; (with_reducible refine (impl_AreFinds.calls k _ _ l0 false _ ?side1 ?side2 A8.out).mono ?_); (case side1 => exact cd_ (Kd.C_below HR0.out HB.out)); (case side2 => exact HC0.out); rintro e w13 ⟨rfl, hb⟩; refine ⟨_, rfl, ?_⟩; have n0_ := Aside0.mk (Kd.R_below (rd_ HO535.out) hb); have n1_ := Aside0.mk (below_step (hd_ HB.out) hb); clear HO535; clear HB; have HO535 := n0_; have HB := n1_; clear n0_ n1_; (try clear hb)))
      go_meet
      case rel => exact ⟨_, (true), rs_, H', ⟨by first | omega | exact Nat.le_refl _⟩, ⟨rd_ HO535.out⟩, ⟨hd_ HB.out⟩⟩
  case rest =>
    clear HC5
    try clear c1
    try clear c2
    try clear p2
    try clear c7
    try clear c9
    obtain ⟨kq, x21_4, rfl, HA, HJ4, HO_9, HB⟩ := hcut
    cases kq with
    | zero => exact absurd HA.out (by simp [impl_TasksFor.j0])
    | succ kj4 =>
      have H := HA.out
      clear HA
      simp only [impl_TasksFor.j0] at H
      by_cases c14 : x21_4 = true
      · subst c14
        have H1 : (some y533) = some r := by rw [if_pos rfl] at H; exact H
        clear H
        have H := H1
        clear H1
        obtain rfl := Option.some.inj H
        go_wp2
        go_ret
        exact ⟨_, by first | rfl | (simp [errW_none, errW_some] <;> rfl) | (simp [*, errW_none, errW_some] <;> rfl), rd_ HO_9.out, hd_ HB.out⟩
      · replace c14 := Bool.eq_false_iff.mpr c14
        subst c14
        have H1 : (impl_TasksFor.l0 kj4 l1 l2 a3 y533 l0 (l0.length : Int) 0) = some r := by rw [if_neg (show ¬ (false = true) by decide)] at H; exact H
        clear H
        have H := H1
        clear H1
        have H' := Aside0.mk H
        clear H
        go_wp2
        go_loopg [9, 25] kj4 (fun kq v9 v25 w' => ∃ (x9_2 : List (S33)) (x25_2 : Int), v25 = .int .i64 x25_2 ∧ Aside0 (impl_TasksFor.l0 kq l1 l2 a3 x9_2 l0 (l0.length : Int) x25_2 = some r) ∧ Aside0 (kq ≤ kj4) ∧ Aside0 (Kd.R k33 33 w' w.heap.size (fun _ => True) v9 x9_2) ∧ Aside0 (Below w.heap.size w w'))
        case atStart => exact ⟨(y533), (0), rs_, H', ⟨Nat.le_refl _⟩, ⟨rd_ HO_9.out⟩, ⟨hd_ HB.out⟩⟩
        case round =>
          clear H'
          try clear c1
          try clear c2
          try clear p2
          try clear c7
          try clear c9
          try clear c14
          try clear p2
          obtain ⟨x9_2, x25_2, rfl, HA, HK2, HO_9, HB⟩ := hrel
          cases gk with
          | zero => exact absurd HA.out (by simp [impl_TasksFor.l0])
          | succ k2 =>
            have H := HA.out
            clear HA
            simp only [impl_TasksFor.l0] at H
            by_cases c15 : x25_2 < (l0.length : Int)
            · rw [if_pos c15] at H
              have c15b0 : decide (x25_2 < (l0.length : Int)) = true := decide_eq_true c15
              clear c15
              by_cases c16 : 0 ≤ x25_2
              · rw [if_pos c16] at H
                have c16b0 : decide (0 ≤ x25_2) = true := decide_eq_true c16
                clear c16
                by_cases c17 : x25_2 < (l0.length : Int)
                · rw [if_pos c17] at H
                  have c17b0 : decide (x25_2 < (l0.length : Int)) = true := decide_eq_true c17
                  clear c17
                  replace H := Option.bind_eq_some_iff.mp H
                  obtain ⟨⟨t540, t541, t542⟩, A180, H⟩ := H
                  replace H : (if (t540 == 0 && (t541 == 0 && (t542 == 0))) = true then (some (([] : List (S33)))) else (if x9_2.length < 5864062014805 then (impl_TasksFor.l0 k2 l1 l2 a3 (x9_2 ++ [(⟨t540, t541, t542⟩ : S33)]) l0 (l0.length : Int) (wrap64 (x25_2 + 1))) else (none))) = some r := H
                  have A18 := Aside0.mk A180
                  clear A180
                  by_cases c19 : (t540 == 0 && (t541 == 0 && (t542 == 0))) = true
                  · rw [if_pos c19] at H
                    have c19b0 : (t540 == 0 && (t541 == 0 && (t542 == 0))) = true := c19
                    (try (have c19b1 : decide (t540 = 0 && (t541 == 0 && (t542 == 0))) = true := by simpa using c19))
                    (try (have c19b2 : (t540 == 0 && (t541 == 0 && (t542 == 0))) = true := by simpa using c19))
                    clear c19
                    obtain ⟨y544, hy544⟩ : ∃ y_ : List (S33), y_ = (([] : List (S33))) := ⟨_, rfl⟩
                    replace H : (some y544) = some r := by first | (rw [hy544]; with_reducible exact H) | (have H2_ := (Option.bind_some _ _).symm.trans H; rw [hy544]; with_reducible exact H2_) | (have H2_ := (Option.bind_some _ _).symm.trans H; with_reducible exact H2_) | with_reducible exact H | (rw [hy544]; exact H) | exact H
                    have Ny544 := Aside0.mk hy544
                    clear hy544
                    obtain rfl := Option.some.inj H
                    have p538 : 0 ≤ (x25_2 : Int) := of_decide_eq_true as_
                    have q538 : x25_2 < (l0.length : Int) := of_decide_eq_true as_
                    obtain ⟨ad538, e538, hx538_0, hx538_1, hx538_2, hx538_3, hx538_4, hx538_5, hx538_6, hx538_7⟩ := at_T38 HR0.out x25_2 p538 q538
                    cases e538
                    replace hx538_0 := cb_ HB.out hx538_0
                    replace hx538_1 := cb_ HB.out hx538_1
                    replace hx538_2 := cb_ HB.out hx538_2
                    replace hx538_3 := cb_ HB.out hx538_3
                    replace hx538_4 := cb_ HB.out hx538_4
                    replace hx538_5 := cb_ HB.out hx538_5
                    replace hx538_6 := cb_ HB.out hx538_6
                    replace hx538_7 := cb_ HB.out hx538_7
                    replace p538 := eq_true p538
                    replace q538 := eq_true q538
                    go_wp2_with (first | ((with_reducible refine gate_dst (N := 11) rfl ?_); refine bx_ 11 #[.int .i64 0, .int .i64 0, .int .i64 0, .int .i64 0, .int .i64 0, .int .i64 0, .int .i64 0, .int .i64 0] 38 ?_; intro gb539 hg w20 hbox hb; have n0_ := Aside0.mk (Kd.R_below (rd_ HO_9.out) hb); have n1_ := Aside0.mk (below_step (hd_ HB.out) hb); have BK539 := Aside0.mk (hbox); have GW539 := Aside0.mk ((by rw [hg]; exact (below_size (hd_ HB.out)) : w.heap.size ≤ gb539)); have GE539 := GW539; clear HO_9; clear HB; have HO_9 := n0_; have HB := n1_; clear n0_ n1_; clear hb hbox hg; obtain ⟨hcz21_0, hcz21_1, hcz21_2, hcz21_3, hcz21_4, hcz21_5, hcz21_6, hcz21_7⟩ := e190_ BK539.out; obtain ⟨hfz21_0, hfz21_1, hfz21_2, hfz21_3, hfz21_4, hfz21_5, hfz21_6, hfz21_7⟩ := z192_ BK539.out) | ((with_reducible refine gate_callee (f := 9) rfl ?_); refine goesL_ (some 33) rfl rfl Tryd.func9 (by kernel_rfl) rfl #[.agg #[.int .i64 ((rd_T38 l0 x25_2).f0.f0), .int .i64 ((rd_T38 l0 x25_2).f0.f1), .int .i64 ((rd_T38 l0 x25_2).f0.f2), .int .i64 ((rd_T38 l0 x25_2).f0.f3), .int .i64 ((rd_T38 l0 x25_2).f0.f4), .int .i64 ((rd_T38 l0 x25_2).f1), .int .i64 ((rd_T38 l0 x25_2).f2), .int .i64 ((rd_T38 l0 x25_2).f3)], .slice A1 l1.length c1, .slice A2 l2.length c2, .int .i64 a3] rfl ma_ ?_; (with_reducible refine (impl_TaskOf.calls k2 ((rd_T38 l0 x25_2).f0.f0) ((rd_T38 l0 x25_2).f0.f1) ((rd_T38 l0 x25_2).f0.f2) ((rd_T38 l0 x25_2).f0.f3) ((rd_T38 l0 x25_2).f0.f4) ((rd_T38 l0 x25_2).f1) ((rd_T38 l0 x25_2).f2) ((rd_T38 l0 x25_2).f3) _ _ l1 _ _ l2 a3 t540 t541 t542 _ ?side1 ?side2 ?side3 ?side4 A18.out).mono ?_); (case side1 => exact Kd.C_below HR1.out y196_); (case side2 => exact HC1.out); (case side3 => exact Kd.C_below HR2.out y196_); (case side4 => exact HC2.out); rintro e w22 ⟨rfl, hb⟩; refine ⟨_, rfl, ?_⟩; have n0_ := Aside0.mk (Kd.R_below y198_ hb); have n1_ := Aside0.mk (blk_below (g := gb539) (o := .cells #[.int .i64 ((rd_T38 l0 x25_2).f0.f0), .int .i64 ((rd_T38 l0 x25_2).f0.f1), .int .i64 ((rd_T38 l0 x25_2).f0.f2), .int .i64 ((rd_T38 l0 x25_2).f0.f3), .int .i64 ((rd_T38 l0 x25_2).f0.f4), .int .i64 ((rd_T38 l0 x25_2).f1), .int .i64 ((rd_T38 l0 x25_2).f2), .int .i64 ((rd_T38 l0 x25_2).f3)] 38 (0, 0)) y194_ hb); have n2_ := Aside0.mk (below_step y196_ hb); clear HO_9; clear BK539; clear HB; have HO_9 := n0_; have BK539 := n1_; have HB := n2_; clear n0_ n1_ n2_; (try clear hb)) | ((with_reducible refine gate_dst (N := 12) rfl ?_); refine bx_ 12 #[.int .i64 0, .int .i64 0, .int .i64 0] 33 ?_; intro gb543 hg w23 hbox hb; have n0_ := Aside0.mk (Kd.R_below (Kd.R_elderB (rd_ HO_9.out) gb543 (Nat.le_of_eq hg.symm)) hb); have n1_ := Aside0.mk (blk_below (bd_ BK539.out) hb); have n2_ := Aside0.mk (below_step y196_ hb); have BK543 := Aside0.mk (hbox); have GW543 := Aside0.mk ((by rw [hg]; exact (below_size y196_) : w.heap.size ≤ gb543)); have GE543 := GW543; have NB539_543 := Aside0.mk ((y205_ : gb539 ≠ gb543)); have NB543_539 := Aside0.mk ((y206_ : gb543 ≠ gb539)); clear HO_9; clear BK539; clear HB; have HO_9 := n0_; have BK539 := n1_; have HB := n2_; clear n0_ n1_ n2_; clear hb hbox hg; have hnb24 := NB543_539.out; have hnc24 := NB539_543.out; obtain ⟨hcz25_0, hcz25_1, hcz25_2⟩ := e191_ BK543.out; obtain ⟨hfz25_0, hfz25_1, hfz25_2⟩ := z193_ BK543.out) | ((with_reducible refine gate_dst (N := 37) rfl ?_); refine Kd.R_lit k33 _ 33 ?hg (N := 37) ?hd (xs := ([] : List (S33))) (inner := []) (ok := fun _ => True) (okp := fun _ => True) ?hr ?hp (fun _ hk => hk) trivial (Below.refl _ _) (Nat.le_refl _) (by simp) ?_; (case hd => rfl); (case hg => rfl); (case hr => first | (go_simp; done) | (go_simp; rfl)); (case hp => exact (Reps.none _ _)); intro v545 w26 ho27 hb hg_ hnew_; clear hg_ hnew_; (first | rw [← Ny544.out] at ho27 | (simp only [Int.reduceToNat] at ho27; rw [← Ny544.out] at ho27)); have n0_ := Aside0.mk (Kd.R_elder' y204_ (Kd.R_base ho27) hb); have HO546 := Aside0.mk (Kd.R_lower (Kd.R_newB (Kd.R_new' ho27 (Kd.R_lt y204_)) (g := gb543) (o := .cells #[.int .i64 t540, .int .i64 t541, .int .i64 t542] 33 (0, 0)) y195_) (below_size y199_)); have n2_ := Aside0.mk (blk_below (g := gb539) (o := .cells #[.int .i64 ((rd_T38 l0 x25_2).f0.f0), .int .i64 ((rd_T38 l0 x25_2).f0.f1), .int .i64 ((rd_T38 l0 x25_2).f0.f2), .int .i64 ((rd_T38 l0 x25_2).f0.f3), .int .i64 ((rd_T38 l0 x25_2).f0.f4), .int .i64 ((rd_T38 l0 x25_2).f1), .int .i64 ((rd_T38 l0 x25_2).f2), .int .i64 ((rd_T38 l0 x25_2).f3)] 38 (0, 0)) y202_ hb); have n3_ := Aside0.mk (blk_below (g := gb543) (o := .cells #[.int .i64 t540, .int .i64 t541, .int .i64 t542] 33 (0, 0)) y195_ hb); have n4_ := Aside0.mk (below_step y199_ hb); clear HO_9; clear BK539; clear BK543; clear HB; have HO_9 := n0_; have BK539 := n2_; have BK543 := n3_; have HB := n4_; clear n0_ n2_ n3_ n4_; clear hb ho27))
                    go_ret
                    exact ⟨_, by first | rfl | (simp [errW_none, errW_some] <;> rfl) | (simp [*, errW_none, errW_some] <;> rfl), by (with_reducible repeat (first | apply Kd.R_alloc | apply Kd.R_drewN | apply Kd.R_drew)); exact Kd.R_mono HO546.out (fun _ hk => trivial), by repeat (first | (with_reducible first | exact HB.out | apply below_alloc | apply pw_below_drewN | apply below_drew1 | refine below_set ?_ GE539.out | refine below_set ?_ GE543.out) | exact HB.out)⟩
                  · rw [if_neg c19] at H
                    have c19b0 : (t540 == 0 && (t541 == 0 && (t542 == 0))) = false := by simpa using c19
                    (try (have c19b1 : decide (t540 = 0 && (t541 == 0 && (t542 == 0))) = false := by simpa using c19))
                    (try (have c19b2 : (t540 == 0 && (t541 == 0 && (t542 == 0))) = false := by simpa using c19))
                    (try (have c19b3 : ¬ (t540 = 0 && (t541 == 0 && (t542 == 0))) := by simpa using c19))
                    clear c19
                    by_cases c28 : x9_2.length < 5864062014805
                    · rw [if_pos c28] at H
                      have LMc28 := Aside0.mk c28
                      clear c28
                      obtain ⟨y547, hy547⟩ : ∃ y_ : List (S33), y_ = (x9_2 ++ [(⟨t540, t541, t542⟩ : S33)]) := ⟨_, rfl⟩
                      replace H : (impl_TasksFor.l0 k2 l1 l2 a3 y547 l0 (l0.length : Int) (wrap64 (x25_2 + 1))) = some r := by first | (rw [hy547]; with_reducible exact H) | (have H2_ := (Option.bind_some _ _).symm.trans H; rw [hy547]; with_reducible exact H2_) | (have H2_ := (Option.bind_some _ _).symm.trans H; with_reducible exact H2_) | with_reducible exact H | (rw [hy547]; exact H) | exact H
                      have Ny547 := Aside0.mk hy547
                      clear hy547
                      have H' := Aside0.mk H
                      clear H
                      have p538 : 0 ≤ (x25_2 : Int) := of_decide_eq_true as_
                      have q538 : x25_2 < (l0.length : Int) := of_decide_eq_true as_
                      obtain ⟨ad538, e538, hx538_0, hx538_1, hx538_2, hx538_3, hx538_4, hx538_5, hx538_6, hx538_7⟩ := at_T38 HR0.out x25_2 p538 q538
                      cases e538
                      replace hx538_0 := cb_ HB.out hx538_0
                      replace hx538_1 := cb_ HB.out hx538_1
                      replace hx538_2 := cb_ HB.out hx538_2
                      replace hx538_3 := cb_ HB.out hx538_3
                      replace hx538_4 := cb_ HB.out hx538_4
                      replace hx538_5 := cb_ HB.out hx538_5
                      replace hx538_6 := cb_ HB.out hx538_6
                      replace hx538_7 := cb_ HB.out hx538_7
                      replace p538 := eq_true p538
                      replace q538 := eq_true q538
                      go_wp2_with (first | ((with_reducible refine gate_dst (N := 11) rfl ?_); refine bx_ 11 #[.int .i64 0, .int .i64 0, .int .i64 0, .int .i64 0, .int .i64 0, .int .i64 0, .int .i64 0, .int .i64 0] 38 ?_; intro gb539 hg w29 hbox hb; have n0_ := Aside0.mk (Kd.R_below (rd_ HO_9.out) hb); have n1_ := Aside0.mk (below_step (hd_ HB.out) hb); have BK539 := Aside0.mk (hbox); have GW539 := Aside0.mk ((by rw [hg]; exact (below_size (hd_ HB.out)) : w.heap.size ≤ gb539)); have GE539 := GW539; clear HO_9; clear HB; have HO_9 := n0_; have HB := n1_; clear n0_ n1_; clear hb hbox hg; obtain ⟨hcz30_0, hcz30_1, hcz30_2, hcz30_3, hcz30_4, hcz30_5, hcz30_6, hcz30_7⟩ := e190_ BK539.out; obtain ⟨hfz30_0, hfz30_1, hfz30_2, hfz30_3, hfz30_4, hfz30_5, hfz30_6, hfz30_7⟩ := z192_ BK539.out) | ((with_reducible refine gate_callee (f := 9) rfl ?_); refine goesL_ (some 33) rfl rfl Tryd.func9 (by kernel_rfl) rfl #[.agg #[.int .i64 ((rd_T38 l0 x25_2).f0.f0), .int .i64 ((rd_T38 l0 x25_2).f0.f1), .int .i64 ((rd_T38 l0 x25_2).f0.f2), .int .i64 ((rd_T38 l0 x25_2).f0.f3), .int .i64 ((rd_T38 l0 x25_2).f0.f4), .int .i64 ((rd_T38 l0 x25_2).f1), .int .i64 ((rd_T38 l0 x25_2).f2), .int .i64 ((rd_T38 l0 x25_2).f3)], .slice A1 l1.length c1, .slice A2 l2.length c2, .int .i64 a3] rfl ma_ ?_; (with_reducible refine (impl_TaskOf.calls k2 ((rd_T38 l0 x25_2).f0.f0) ((rd_T38 l0 x25_2).f0.f1) ((rd_T38 l0 x25_2).f0.f2) ((rd_T38 l0 x25_2).f0.f3) ((rd_T38 l0 x25_2).f0.f4) ((rd_T38 l0 x25_2).f1) ((rd_T38 l0 x25_2).f2) ((rd_T38 l0 x25_2).f3) _ _ l1 _ _ l2 a3 t540 t541 t542 _ ?side1 ?side2 ?side3 ?side4 A18.out).mono ?_); (case side1 => exact Kd.C_below HR1.out y196_); (case side2 => exact HC1.out); (case side3 => exact Kd.C_below HR2.out y196_); (case side4 => exact HC2.out); rintro e w31 ⟨rfl, hb⟩; refine ⟨_, rfl, ?_⟩; have n0_ := Aside0.mk (Kd.R_below y198_ hb); have n1_ := Aside0.mk (blk_below (g := gb539) (o := .cells #[.int .i64 ((rd_T38 l0 x25_2).f0.f0), .int .i64 ((rd_T38 l0 x25_2).f0.f1), .int .i64 ((rd_T38 l0 x25_2).f0.f2), .int .i64 ((rd_T38 l0 x25_2).f0.f3), .int .i64 ((rd_T38 l0 x25_2).f0.f4), .int .i64 ((rd_T38 l0 x25_2).f1), .int .i64 ((rd_T38 l0 x25_2).f2), .int .i64 ((rd_T38 l0 x25_2).f3)] 38 (0, 0)) y194_ hb); have n2_ := Aside0.mk (below_step y196_ hb); clear HO_9; clear BK539; clear HB; have HO_9 := n0_; have BK539 := n1_; have HB := n2_; clear n0_ n1_ n2_; (try clear hb)) | ((with_reducible refine gate_dst (N := 12) rfl ?_); refine bx_ 12 #[.int .i64 0, .int .i64 0, .int .i64 0] 33 ?_; intro gb543 hg w32 hbox hb; have n0_ := Aside0.mk (Kd.R_below (Kd.R_elderB (rd_ HO_9.out) gb543 (Nat.le_of_eq hg.symm)) hb); have n1_ := Aside0.mk (blk_below (bd_ BK539.out) hb); have n2_ := Aside0.mk (below_step y196_ hb); have BK543 := Aside0.mk (hbox); have GW543 := Aside0.mk ((by rw [hg]; exact (below_size y196_) : w.heap.size ≤ gb543)); have GE543 := GW543; have NB539_543 := Aside0.mk ((y205_ : gb539 ≠ gb543)); have NB543_539 := Aside0.mk ((y206_ : gb543 ≠ gb539)); clear HO_9; clear BK539; clear HB; have HO_9 := n0_; have BK539 := n1_; have HB := n2_; clear n0_ n1_ n2_; clear hb hbox hg; have hnb33 := NB543_539.out; have hnc33 := NB539_543.out; obtain ⟨hcz34_0, hcz34_1, hcz34_2⟩ := e191_ BK543.out; obtain ⟨hfz34_0, hfz34_1, hfz34_2⟩ := z193_ BK543.out) | ((with_reducible refine gate_builtin (b := .append) (xs := #[.tmp 38, .tmp 40]) rfl ?_); at_builtin; refine Kd.R_append k33 (w0 := w) w.heap.size rfl (.tmp 38) (.tmp 40) 29 33 (.agg #[(.int .i64 0), (.int .i64 0), (.int .i64 0)]) 24 rfl Tryd.underlying29 info33 rfl (by decide) (by omega) u9 x9_2 (⟨t540, t541, t542⟩ : S33) [.int .i64 t540, .int .i64 t541, .int .i64 t542] (fun k_ => k_ ≠ gb543) (fun _ => False) rfl (by first | (go_simp; done) | (go_simp; rfl)) ?aP (fun _ hk => hk.elim) ?aF ?aO ?aB ?aS ?aL ?_; (case aP => exact k33_mkM _ _ _ (⟨t540, t541, t542⟩ : S33)); (case aB => exact y199_); (case aF => exact (fun k_ hk => Kd.freshB (g := gb543) (o := .cells #[.int .i64 t540, .int .i64 t541, .int .i64 t542] 33 (0, 0)) y195_ k_ hk)); (case aO => exact (by (with_reducible repeat (first | apply Kd.R_alloc | apply Kd.R_drewN | apply Kd.R_drew)); exact Kd.R_mono (Kd.R_far (p := ⟨gb543, 2, none⟩) (Kd.R_far (p := ⟨gb543, 1, none⟩) (Kd.R_far (p := ⟨gb543, 0, none⟩) (Kd.R_mono HO_9.out (fun k_ hk => (⟨hk, hk.2⟩ : _ ∧ k_ ≠ gb543))) (fun _ hk => hk.2) (.int .i64 t540)) (fun _ hk => hk.2) (.int .i64 t541)) (fun _ hk => hk.2) (.int .i64 t542)) (fun _ hk => hk.1.2))); (case aS => exact (below_size y199_)); (case aL => have := LMc28.out; omega); intro v548 w35 ho hb hg hat; rw [← Ny547.out] at ho; have n0_ := Aside0.mk (blk_grown (g := gb539) (o := .cells #[.int .i64 ((rd_T38 l0 x25_2).f0.f0), .int .i64 ((rd_T38 l0 x25_2).f0.f1), .int .i64 ((rd_T38 l0 x25_2).f0.f2), .int .i64 ((rd_T38 l0 x25_2).f0.f3), .int .i64 ((rd_T38 l0 x25_2).f0.f4), .int .i64 ((rd_T38 l0 x25_2).f1), .int .i64 ((rd_T38 l0 x25_2).f2), .int .i64 ((rd_T38 l0 x25_2).f3)] 38 (0, 0)) y202_ hg (Kd.R_ne HO_9.out BK539.out (by decide))); have n1_ := Aside0.mk (blk_grown (g := gb543) (o := .cells #[.int .i64 t540, .int .i64 t541, .int .i64 t542] 33 (0, 0)) y195_ hg (Kd.R_away HO_9.out (fun _ hk => hk.2))); have n2_ := Aside0.mk (hb); have HO549 := Aside0.mk (ho); clear BK539; clear BK543; clear HB; clear HO_9; have BK539 := n0_; have BK543 := n1_; have HB := n2_; clear n0_ n1_ n2_; clear ho hb hg hat))
                      go_roundg k2
                      case measure => have := HJ4.out; have := HK2.out; omega
                      case rel => exact ⟨(y547), (wrap64 (x25_2 + 1)), rs_, H', ⟨by have := HJ4.out; have := HK2.out; omega⟩, ⟨by (with_reducible repeat (first | apply Kd.R_alloc | apply Kd.R_drewN | apply Kd.R_drew)); exact Kd.R_mono HO549.out (fun _ hk => trivial)⟩, ⟨by repeat (first | (with_reducible first | exact HB.out | apply below_alloc | apply pw_below_drewN | apply below_drew1 | refine below_set ?_ GE539.out | refine below_set ?_ GE543.out) | exact HB.out)⟩⟩
                    · rw [if_neg c28] at H
                      exact absurd H (by simp)
                · rw [if_neg c17] at H
                  exact absurd H (by simp)
              · rw [if_neg c16] at H
                exact absurd H (by simp)
            · rw [if_neg c15] at H
              have c15b0 : decide (x25_2 < (l0.length : Int)) = false := decide_eq_false c15
              clear c15
              replace H := Option.bind_eq_some_iff.mp H
              obtain ⟨t550, A360, H⟩ := H
              replace H : (some t550) = some r := H
              have A36 := Aside0.mk A360
              clear A360
              obtain rfl := Option.some.inj H
              obtain ⟨Ao37, co37, eo37⟩ := Kd.R_slice HO_9.out
              subst eo37
              go_wp2_with (first | ((with_reducible refine gate_callee (f := 21) rfl ?_); refine goesL_ (some 44) rfl rfl Tryd.func21 (by kernel_rfl) rfl #[.slice Ao37 x9_2.length co37, .func (.func 22) #[] #[]] rfl ma_ ?_; (with_reducible refine (impl_Task.calls (fun k_ => some k_ = (.slice Ao37 x9_2.length co37 : Value).ownBlock) (.slice Ao37 x9_2.length co37) x9_2 t550 w _ ?side1 ?side2 A36.out).mono ?_); (case side1 => repeat (first | (with_reducible first | exact HB.out | apply below_alloc | apply pw_below_drewN | apply below_drew1) | exact HB.out)); (case side2 => exact Kd.R_tight rfl HO_9.out); rintro e w38 ⟨rfl, hy0, hb, hkp⟩; refine ⟨_, rfl, ?_⟩; have n0_ := Aside0.mk (Kd.R_reok rfl hy0 (fun k_ e_ => HO_9.out.1 k_ e_)); have n1_ := Aside0.mk (hb); clear HO_9; clear HB; have HO_9 := n0_; have HB := n1_; clear n0_ n1_; (try clear hb); (try clear hkp); (try clear hy0)))
              go_ret
              exact ⟨_, by first | rfl | (simp [errW_none, errW_some] <;> rfl) | (simp [*, errW_none, errW_some] <;> rfl), rd_ HO_9.out, hd_ HB.out⟩

/-! ### impl_Find: function 25 -/
set_option maxHeartbeats 8000000 in
set_option maxRecDepth 100000 in
theorem impl_Find.calls (p : S38 → Bool) (g : Nat) (lb : Array Value) (eg : ∀ args w, (callFunc g args).run Tryd.prog w = .ok (.enter g args) w) (A0 : Option Addr) (c0 : Nat) (l0 : List S38) (w : World) (hr0 : Kd.C k38 w A0 l0.length l0)
    (hp : ∀ (x : S38) (W : World), Below w.heap.size w W → Calls Tryd.prog g (#[.agg #[.int .i64 x.f0.f0, .int .i64 x.f0.f1, .int .i64 x.f0.f2, .int .i64 x.f0.f3, .int .i64 x.f0.f4, .int .i64 x.f1, .int .i64 x.f2, .int .i64 x.f3]] ++ lb) W fun e W' => e = .returned (.bool (p x)) ∧ Below W.heap.size W W') :
    Calls Tryd.prog 25 #[.slice A0 l0.length c0, .func (.func g) #[] lb] w fun e w' => e = .returned (.int .i64 (EvLib.idxB p l0 0)) ∧ Below w.heap.size w w' := by
  have hu38 := Tryd.underlying38
  have hu36 := Tryd.underlying36
  have HR0 := Aside0.mk hr0
  have HP := Aside0.mk hp
  have hmax := Kd.C_max hr0
  clear hr0 hp
  go_enter Tryd.func25, Tryd.ntmps25
  go_wp2
  go_loopg [5, 8] l0.length (fun gg _ v8 wr => ∃ z : Int, v8 = .int .i64 z ∧ Aside0 (0 ≤ z) ∧ Aside0 (z ≤ (l0.length : Int)) ∧ Aside0 ((l0.length : Int) - z ≤ gg) ∧ Aside0 (Below w.heap.size w wr) ∧ Aside0 (EvLib.idxB p (l0.drop z.toNat) z.toNat = EvLib.idxB p l0 0))
  case atStart => exact ⟨0, rfl, ⟨by omega⟩, ⟨by omega⟩, ⟨by omega⟩, ⟨Below.refl _ _⟩, ⟨rfl⟩⟩
  case round =>
    obtain ⟨z, rfl, Z0, Z1, ZG, HB, HI⟩ := hrel
    by_cases hlt : z < (l0.length : Int)
    · have p1 : 0 ≤ z := Z0.out
      obtain ⟨ad, e, hx0, hx1, hx2, hx3, hx4, hx5, hx6, hx7⟩ := at_T38 HR0.out z p1 hlt
      cases e
      replace hx0 := pw_cell_below HB.out hx0
      replace hx1 := pw_cell_below HB.out hx1
      replace hx2 := pw_cell_below HB.out hx2
      replace hx3 := pw_cell_below HB.out hx3
      replace hx4 := pw_cell_below HB.out hx4
      replace hx5 := pw_cell_below HB.out hx5
      replace hx6 := pw_cell_below HB.out hx6
      replace hx7 := pw_cell_below HB.out hx7
      have hcall := HP.out (rd_T38 l0 z) wr HB.out
      have hat := Aside0.mk (EvLib.idxB_at p z38 l0 z.toNat (by omega))
      cases hq : p (rd_T38 l0 z) with
      | true =>
        rw [hq] at hcall
        have HQ := Aside0.mk hq
        clear hq
        have hltb : decide (z < (l0.length : Int)) = true := decide_eq_true hlt
        replace p1 := eq_true p1
        replace hlt := eq_true hlt
        go_wp2_with (go_at_fn g; refine hcall.mono ?_; rintro e w' ⟨rfl, hb⟩; have n1_ := Aside0.mk (below_step HB.out hb); clear HB; have HB := n1_; clear n1_ hb)
        go_ret
        have hz : EvLib.idxB p l0 0 = z := by rw [← HI.out, hat.out, if_pos (show p (l0.getD z.toNat z38) = true from HQ.out), Int.toNat_of_nonneg Z0.out]
        exact ⟨by rw [hz]; rfl, HB.out⟩
      | false =>
        rw [hq] at hcall
        have HQ := Aside0.mk hq
        clear hq
        have HL := Aside0.mk hlt
        have hltb : decide (z < (l0.length : Int)) = true := decide_eq_true hlt
        replace p1 := eq_true p1
        replace hlt := eq_true hlt
        have hwr : wrap64 (z + 1) = z + 1 := by have := Z0.out; have := HL.out; unfold wrap64; omega
        go_wp2_with (go_at_fn g; refine hcall.mono ?_; rintro e w' ⟨rfl, hb⟩; have n1_ := Aside0.mk (below_step HB.out hb); clear HB; have HB := n1_; clear n1_ hb)
        go_roundg ((l0.length : Int) - (z + 1)).toNat
        case measure => have := Z0.out; have := HL.out; have := ZG.out; omega
        case rel =>
          refine ⟨z + 1, by first | rfl | (simp; done) | (simp [*]; done), ⟨by have := Z0.out; omega⟩, ⟨by have := HL.out; omega⟩, ⟨by have := HL.out; omega⟩, ⟨HB.out⟩, ⟨?_⟩⟩
          rw [← HI.out, hat.out, if_neg (by rw [show p (l0.getD z.toNat z38) = false from HQ.out]; simp)]
          have e1 : (z + 1).toNat = z.toNat + 1 := by have := Z0.out; omega
          rw [e1]
    · have hltb : decide (z < (l0.length : Int)) = false := decide_eq_false hlt
      have HE := Aside0.mk (EvLib.idxB_end p l0 z.toNat (by have := Z1.out; omega))
      clear hlt
      go_wp2
      go_ret
      have hz : EvLib.idxB p l0 0 = -1 := by rw [← HI.out, HE.out]
      exact ⟨by rw [hz]; rfl, HB.out⟩


end Go.Proofs.YtnlgilmbmoiniaaDoor.PFnTasks
