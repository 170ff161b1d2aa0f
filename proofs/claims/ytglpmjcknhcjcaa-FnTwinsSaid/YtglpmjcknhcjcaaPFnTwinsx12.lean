-- Written for this claim by a program (a printer turned to this claim); Lean checks it.
import Derived.Test.YtglpmjcknhcjcaaPFnTwinsx0
namespace Go.Proofs.Ytglpmjcknhcjcaa.PFnTwins
open Go.RowKit Go.Proofs.YtglpmjcknhcjcaaW.PrintWords Go.Proofs.YtglpmjcknhcjcaaW.PrintLast Go.Proofs.YtglpmjcknhcjcaaW.PrintMore
attribute [local go_sem] max2_int min2_int max_two min_two max_three min_three max_four min_four   -- for this text's walks alone
set_option linter.unusedVariables false
set_option linter.unusedSimpArgs false

/-- A state of type 102 at block g of W; what its slices lead to came in by w0. -/
def IsS102 (w0 W : World) (g : Nat) (f0 : List Int) (f1 : Int) (f2 : Int) : Prop := ∃ A0 c0, W.heap[g]? = some (.cells #[.slice A0 f0.length c0, .int .i64 f1, .int .i64 f2] 102 (0, 0)) ∧ w0.heap.size ≤ g ∧ Kd.C (Kd.int .u8) w0 A0 f0.length f0
theorem IsS102.grown {w0 W : World} {g : Nat} {f0 : List Int} {f1 : Int} {f2 : Int} {W1 : World} {row : Option Nat} (h : IsS102 w0 W g f0 f1 f2) (hw : W.grownBy W1 row) (hne : some g ≠ row) : IsS102 w0 W1 g f0 f1 f2 := by
  obtain ⟨A0, c0, hb, hg, hr0⟩ := h
  exact ⟨A0, c0, blk_grown hb hw hne, hg, hr0⟩
theorem IsS102.own_neN {w0 W : World} {g : Nat} {f0 : List Int} {f1 : Int} {f2 : Int} {α : Type} {d : Kd α} {e : Nat} {base : Nat} {ok : Nat → Prop} {v : Value} {xs : List α} (h : IsS102 w0 W g f0 f1 f2) (ho : Kd.N d e W base ok v xs) (ht : e ≠ 102) : some g ≠ v.ownBlock := by
  obtain ⟨A0, c0, hb, hg, hr0⟩ := h
  exact Kd.N_ne ho hb ht
theorem IsS102.fresh {w0 W : World} {g : Nat} {f0 : List Int} {f1 : Int} {f2 : Int} (h : IsS102 w0 W g f0 f1 f2) : ∀ k, W.heap.size ≤ k → k ≠ g := by
  obtain ⟨A0, c0, hb, hg, hr0⟩ := h
  exact Kd.freshB hb
theorem IsS102.kept {w0 W : World} {g : Nat} {f0 : List Int} {f1 : Int} {f2 : Int} {W1 : World} {S : Nat → Prop} (h : IsS102 w0 W g f0 f1 f2) (hk : Kept W W1 S) (hne : ¬ S g) : IsS102 w0 W1 g f0 f1 f2 := by
  obtain ⟨A0, c0, hb, hg, hr0⟩ := h
  exact ⟨A0, c0, blk_kept hb hk hne, hg, hr0⟩
theorem IsS102.below {w0 W : World} {g : Nat} {f0 : List Int} {f1 : Int} {f2 : Int} {W1 : World} (h : IsS102 w0 W g f0 f1 f2) (hw : Below W.heap.size W W1) : IsS102 w0 W1 g f0 f1 f2 := h.grown (grown_of_below hw none) (by simp)
theorem IsS102.alloc {w0 W : World} {g : Nat} {f0 : List Int} {f1 : Int} {f2 : Int} (h : IsS102 w0 W g f0 f1 f2) (o : Obj) : IsS102 w0 (W.alloc o) g f0 f1 f2 := h.below (below_alloc (Below.refl _ _) o)
theorem IsS102.drewN {w0 W : World} {g : Nat} {f0 : List Int} {f1 : Int} {f2 : Int} (h : IsS102 w0 W g f0 f1 f2) (m : Nat) : IsS102 w0 (W.drewN m) g f0 f1 f2 := h
theorem IsS102.drew {w0 W : World} {g : Nat} {f0 : List Int} {f1 : Int} {f2 : Int} (h : IsS102 w0 W g f0 f1 f2) : IsS102 w0 W.drew g f0 f1 f2 := h
theorem IsS102.at_ {w0 W : World} {g : Nat} {f0 : List Int} {f1 : Int} {f2 : Int} {w' : World} {m : Nat} (hq : W.drewN m = w') (h : IsS102 w0 W g f0 f1 f2) : IsS102 w0 w' g f0 f1 f2 := by subst hq; exact IsS102.drewN h m
theorem IsS102.apart {w0 W : World} {g : Nat} {f0 : List Int} {f1 : Int} {f2 : Int} {α : Type} {d : Kd α} {e : Nat} {base : Nat} {ok : Nat → Prop} {v : Value} {xs : List α} (h : IsS102 w0 W g f0 f1 f2) (ho : d.R e W base ok v xs) (ht : ∀ q, q ∈ e :: d.E → q ≠ 102) : d.R e W base (fun k => ok k ∧ k ≠ g) v xs := by
  obtain ⟨A0, c0, hb, hg, hr0⟩ := h
  exact Kd.R_types ho hb ht
theorem IsS102.own_ne {w0 W : World} {g : Nat} {f0 : List Int} {f1 : Int} {f2 : Int} {α : Type} {d : Kd α} {e : Nat} {base : Nat} {ok : Nat → Prop} {v : Value} {xs : List α} (h : IsS102 w0 W g f0 f1 f2) (ho : d.R e W base ok v xs) (ht : e ≠ 102) : some g ≠ v.ownBlock := by
  obtain ⟨A0, c0, hb, hg, hr0⟩ := h
  exact Kd.R_ne ho hb ht
theorem IsS102.apartQ {w0 W : World} {g : Nat} {f0 : List Int} {f1 : Int} {f2 : Int} {α : Type} {d : Kd α} {e : Nat} {base : Nat} {ok : Nat → Prop} {v : Value} {xs : List α} (h : IsS102 w0 W g f0 f1 f2) (ho : d.Q e W base ok v xs) (ht : ∀ q, q ∈ e :: d.E → q ≠ 102) : d.Q e W base (fun k => ok k ∧ k ≠ g) v xs := by
  obtain ⟨A0, c0, hb, hg, hr0⟩ := h
  exact Kd.Q_types ho hb ht
theorem IsS102.own_neQ {w0 W : World} {g : Nat} {f0 : List Int} {f1 : Int} {f2 : Int} {α : Type} {d : Kd α} {e : Nat} {base : Nat} {ok : Nat → Prop} {v : Value} {xs : List α} (h : IsS102 w0 W g f0 f1 f2) (ho : d.Q e W base ok v xs) (ht : e ≠ 102) : some g ≠ v.ownBlock := by
  obtain ⟨A0, c0, hb, hg, hr0⟩ := h
  exact Kd.Q_ne ho hb ht
theorem IsS102.apartS {w0 W : World} {g : Nat} {f0 : List Int} {f1 : Int} {f2 : Int} {α : Type} {d : Kd α} {e : Nat} {base : Nat} {ok : Nat → Prop} {v : Value} {xs : List α} (h : IsS102 w0 W g f0 f1 f2) (ho : d.S e W base ok v xs) (ht : ∀ q, q ∈ e :: d.E → q ≠ 102) : d.S e W base (fun k => ok k ∧ k ≠ g) v xs := by
  obtain ⟨A0, c0, hb, hg, hr0⟩ := h
  exact Kd.S_types ho hb ht
theorem IsS102.own_neS {w0 W : World} {g : Nat} {f0 : List Int} {f1 : Int} {f2 : Int} {α : Type} {d : Kd α} {e : Nat} {base : Nat} {ok : Nat → Prop} {v : Value} {xs : List α} (h : IsS102 w0 W g f0 f1 f2) (ho : d.S e W base ok v xs) (ht : e ≠ 102) : some g ≠ v.ownBlock := by
  obtain ⟨A0, c0, hb, hg, hr0⟩ := h
  exact Kd.S_ne ho hb ht
theorem IsS102.lt {w0 W : World} {g : Nat} {f0 : List Int} {f1 : Int} {f2 : Int} (h : IsS102 w0 W g f0 f1 f2) : g < W.heap.size := by
  obtain ⟨A0, c0, hb, hg, hr0⟩ := h
  exact blk_lt hb
theorem IsS102.ge {w0 W : World} {g : Nat} {f0 : List Int} {f1 : Int} {f2 : Int} (h : IsS102 w0 W g f0 f1 f2) : w0.heap.size ≤ g := by
  obtain ⟨A0, c0, hb, hg, hr0⟩ := h
  exact hg
theorem IsS102.ne_blk {w0 W : World} {g : Nat} {f0 : List Int} {f1 : Int} {f2 : Int} {a : Nat} {cs : Array Value} {t : TypeId} {fr : Nat × Nat} (h : IsS102 w0 W g f0 f1 f2) (hb2 : W.heap[a]? = some (.cells cs t fr)) (ht : t ≠ 102) : g ≠ a := by
  obtain ⟨A0, c0, hb, hg, hr0⟩ := h
  rintro rfl
  rw [hb] at hb2
  injection hb2 with hb2
  injection hb2 with _ ht2
  exact ht ht2.symm
theorem IsS102.far {w0 W : World} {g : Nat} {f0 : List Int} {f1 : Int} {f2 : Int} {p : Addr} (h : IsS102 w0 W g f0 f1 f2) (hne : g ≠ p.block) (u : Value) : IsS102 w0 (W.setCell p u) g f0 f1 f2 := by
  obtain ⟨A0, c0, hb, hg, hr0⟩ := h
  exact ⟨A0, c0, blk_far hb hne u, hg, hr0⟩
theorem cellS102_0 {W : World} {g : Nat} {A0 : Option Addr} {c0 : Nat} {f0 : List Int} {f1 : Int} {f2 : Int} (h : W.heap[g]? = some (.cells #[.slice A0 f0.length c0, .int .i64 f1, .int .i64 f2] 102 (0, 0))) : W.cell? ⟨g, 0, none⟩ = some (.slice A0 f0.length c0) := (blk_cell h 0).trans rfl
theorem cellS102_1 {W : World} {g : Nat} {A0 : Option Addr} {c0 : Nat} {f0 : List Int} {f1 : Int} {f2 : Int} (h : W.heap[g]? = some (.cells #[.slice A0 f0.length c0, .int .i64 f1, .int .i64 f2] 102 (0, 0))) : W.cell? ⟨g, 1, none⟩ = some (.int .i64 f1) := (blk_cell h 1).trans rfl
theorem IsS102.set_1 {w0 W : World} {g : Nat} {f0 : List Int} {f1 : Int} {f2 : Int} (h : IsS102 w0 W g f0 f1 f2) (x : Int) : IsS102 w0 (W.setCell ⟨g, 1, none⟩ (.int .i64 x)) g f0 x f2 := by
  obtain ⟨A0, c0, hb, hg, hr0⟩ := h
  exact ⟨A0, c0, by simpa using blk_set hb 1 (.int .i64 x), hg, hr0⟩
theorem cellS102_2 {W : World} {g : Nat} {A0 : Option Addr} {c0 : Nat} {f0 : List Int} {f1 : Int} {f2 : Int} (h : W.heap[g]? = some (.cells #[.slice A0 f0.length c0, .int .i64 f1, .int .i64 f2] 102 (0, 0))) : W.cell? ⟨g, 2, none⟩ = some (.int .i64 f2) := (blk_cell h 2).trans rfl
theorem IsS102.set_2 {w0 W : World} {g : Nat} {f0 : List Int} {f1 : Int} {f2 : Int} (h : IsS102 w0 W g f0 f1 f2) (x : Int) : IsS102 w0 (W.setCell ⟨g, 2, none⟩ (.int .i64 x)) g f0 f1 x := by
  obtain ⟨A0, c0, hb, hg, hr0⟩ := h
  exact ⟨A0, c0, by simpa using blk_set hb 2 (.int .i64 x), hg, hr0⟩
theorem IsS102.new (w0 W : World) (A0 : Option Addr) (c0 : Nat) (f0 : List Int) (f1 : Int) (f2 : Int) (hB : Below w0.heap.size w0 W) (hr0 : Kd.C (Kd.int .u8) w0 A0 f0.length f0) : IsS102 w0 (W.alloc (.cells #[.slice A0 f0.length c0, .int .i64 f1, .int .i64 f2] 102)) W.heap.size f0 f1 f2 := ⟨A0, c0, by simpa using heap_alloc_new W _, hB.size, hr0⟩

theorem wB_ {P : Prop} (h : P := by repeat (first | (with_reducible first | exact HB.1 | apply below_alloc | apply pw_below_drewN | apply below_drew1 | refine below_set ?_ (IsS102.ge HI0.1) | refine below_set ?_ (IsS102.ge (Aside0.out (by assumption))) | refine below_set (w := w0) ?_ (Aside0.out (by assumption)) | refine below_set ?_ (Aside0.out (by assumption))) | exact HB.1)) : P := h
theorem kp_ {w0 W w1 : World} {g : Nat} {f0 : List Int} {f1 f2 : Int} {α : Type} {d : Kd α} {e base : Nat} {ok : Nat → Prop} {v : Value} {xs : List α} (hI : IsS102 w0 W g f0 f1 f2) (h : d.R e W base ok v xs) (hk : KeepBut W w1 g none) (ht : ∀ q, q ∈ e :: d.E → q ≠ 102 := by decide) : d.R e w1 base ok v xs := Kd.R_mono (Kd.R_keep (IsS102.apart hI h ht) hk (fun _ h => h.2)) (fun _ h => h.1)
theorem wJ_ {Q P : Prop} (e : Q) (h : Q → P := by intro h_; repeat (first | (with_reducible first | exact h_ | apply IsS102.alloc | apply IsS102.drewN | apply IsS102.drew | refine IsS102.far ?_ (Aside0.out (by assumption)) _ | apply IsS102.set_1 | apply IsS102.set_2) | exact h_)) : P := h e
theorem wK_ {P : Prop} (h : P := by repeat (first | (with_reducible first | exact HK.1 | apply KeepBut.set_ | apply keep_drewN | apply keep_drew | apply keep_alloc | refine keep_far (w := w) ?_ (Aside0.out (by assumption)) _) | exact HK.1)) : P := h
theorem wI_ {P : Prop} (h : P := by repeat (first | (with_reducible first | exact HI0.1 | apply IsS102.alloc | apply IsS102.drewN | apply IsS102.drew | refine IsS102.far ?_ (Aside0.out (by assumption)) _ | apply IsS102.set_1 | apply IsS102.set_2) | exact HI0.1)) : P := h
/-! ### spec_l1New: function 58 -/
def spec_l1New.l0 : Nat → List Int → Int → Int → Option (List Int × Int × Int)
  | 0, _, _, _ => none
  | k + 1, x0, x3, x4 => if x4 < (x0.length : Int) then (if x4 < 4000 then (if 0 ≤ x4 then (spec_l1New.l0 k x0 (Go.bits .and .i64 (wrap64 ((wrap64 ((wrap64 (x3 * 137)) + (wrap64 (rd x0 x4)))) + 11)) 1073741823) (wrap64 (x4 + 1))) else (none)) else (some (x0, 0, x3))) else (some (x0, 0, x3))
def spec_l1New.f (k : Nat) (l0 : List Int) : Option (List Int × Int × Int) := spec_l1New.l0 k l0 (wrap64 (193017 + (l0.length : Int))) 0
theorem spec_l1New.mono_l : ∀ k, (∀ y0 y1 y2, LeO (spec_l1New.l0 k y0 y1 y2) (spec_l1New.l0 (k + 1) y0 y1 y2))
  | 0 => fun _ _ _ r h => by simp [spec_l1New.l0] at h
  | k + 1 => by
    have ih0 := spec_l1New.mono_l k
    · intro y0 y1 y2
      unfold spec_l1New.l0
      exact mo_
theorem spec_l1New.mono : ∀ a0 k, LeO (spec_l1New.f k a0) (spec_l1New.f (k + 1) a0) := by
  intro a0 k
  have ih0 := spec_l1New.mono_l k
  unfold spec_l1New.f
  exact mo_
set_option maxHeartbeats 8000000 in
set_option maxRecDepth 100000 in
theorem spec_l1New.calls (k : Nat) (A0 : Option Addr) (c0 : Nat) (l0 : List Int) (r1 : List Int) (r2 : Int) (r3 : Int) (w0 w : World) (hB : Below w0.heap.size w0 w) (hr0 : Kd.C (Kd.int .u8) w0 A0 l0.length l0) (hc0 : l0.length ≤ c0) (h : spec_l1New.f k l0 = some (r1, r2, r3)) :
    Calls Try.prog 58 #[.slice A0 l0.length c0] w fun e w' => ∃ g_ : Nat, e = .returned (.pointer (some ⟨g_, 0, none⟩)) ∧ IsS102 w0 w' g_ r1 r2 r3 ∧ Below w0.heap.size w0 w' ∧ Below w.heap.size w w' := by
  have hu102 := Try.underlying102
  have HR0 := o_ hr0
  have HC0 := o_ hc0
  clear hr0 hc0
  have HBW := o_ (Below.refl w.heap.size w)
  have HW0 := o_ hB.size
  have HB := o_ hB
  clear hB
  have H : (spec_l1New.l0 k l0 (wrap64 (193017 + (l0.length : Int))) 0) = some (r1, r2, r3) := h
  clear h
  have H' := o_ H
  clear H
  go_enter Try.func58, Try.ntmps58
  go_wp2
  go_loopg [3, 4] k (fun kq v3 v4 w' => ∃ (x3_1 : Int) (x4_1 : Int), v3 = .int .i64 x3_1 ∧ v4 = .int .i64 x4_1 ∧ Aside0 (spec_l1New.l0 kq l0 x3_1 x4_1 = some (r1, r2, r3)) ∧ Aside0 (kq ≤ k) ∧ Aside0 (Below w0.heap.size w0 w') ∧ Aside0 (Below w.heap.size w w'))
  case atStart => exact ⟨(wrap64 (193017 + (l0.length : Int))), (0), rs_, rs_, H', ⟨Nat.le_refl _⟩, ⟨hd_ HB.1⟩, HBW⟩
  case round =>
    clear H'
    obtain ⟨x3_1, x4_1, rfl, rfl, HA, HK1, HB, HBW⟩ := hrel
    cases gk with
    | zero => exact absurd HA.1 (by simp [spec_l1New.l0])
    | succ k1 =>
      have H := HA.1
      clear HA
      simp only [spec_l1New.l0] at H
      by_cases c2 : x4_1 < (l0.length : Int)
      · rw [if_pos c2] at H
        have c2b0 := decide_eq_true c2
        clear c2
        by_cases c3 : x4_1 < 4000
        · rw [if_pos c3] at H
          have c3b0 := decide_eq_true c3
          clear c3
          by_cases c4 : 0 ≤ x4_1
          · rw [if_pos c4] at H
            have c4b0 := decide_eq_true c4
            clear c4
            have H' := o_ H
            clear H
            have p262 : 0 ≤ (x4_1 : Int) := of_decide_eq_true as_
            have q262 : x4_1 < (l0.length : Int) := of_decide_eq_true as_
            obtain ⟨ad262, e262, hx262_0⟩ := Kd.at_int HR0.1 x4_1 p262 q262
            cases e262
            replace hx262_0 := pw_cell_below HB.1 hx262_0
            replace p262 := eq_true p262
            replace q262 := eq_true q262
            go_wp2
            go_roundg k1
            case measure => have := HK1.1; omega
            case rel => exact ⟨(Go.bits .and .i64 (wrap64 ((wrap64 ((wrap64 (x3_1 * 137)) + (wrap64 (rd l0 x4_1)))) + 11)) 1073741823), (wrap64 (x4_1 + 1)), rs_, rs_, H', ⟨by have := HK1.1; omega⟩, ⟨hd_ HB.1⟩, ⟨hd_ HBW.1⟩⟩
          · rw [if_neg c4] at H
            exact absurd H (by simp)
        · rw [if_neg c3] at H
          have c3b0 := decide_eq_false c3
          clear c3
          simp only [Option.some.injEq, Prod.mk.injEq] at H
          obtain ⟨rfl, rfl, rfl⟩ := H
          go_wp2_with (first | ((with_reducible refine gate_dst (N := 31) rfl ?_); refine bx_ 31 #[.slice A0 l0.length c0, .int .i64 0, .int .i64 x3_1] 102 ?_; intro gb263 hg w5 hbox hb; replace HB := o_ (below_step (hd_ HB.1) hb); have BK263 := o_ (hbox); have GW263 := o_ ((y185_ : w.heap.size ≤ gb263)); have GE263 := o_ ((Nat.le_trans HW0.1 (y185_ : w.heap.size ≤ gb263) : w0.heap.size ≤ gb263)); replace HBW := o_ (below_step HBW.1 hb); clear hb hbox hg))
          go_ret
          exact ⟨_, rfl, (show IsS102 w0 _ gb263 l0 0 x3_1 from ⟨_, _, bd_ BK263.1, GE263.1, HR0.1⟩), wB_, by repeat (first | (with_reducible first | exact HBW.1 | apply below_alloc | apply pw_below_drewN | apply below_drew1 | refine below_set ?_ GW263.1) | exact HBW.1)⟩
      · rw [if_neg c2] at H
        have c2b0 := decide_eq_false c2
        clear c2
        simp only [Option.some.injEq, Prod.mk.injEq] at H
        obtain ⟨rfl, rfl, rfl⟩ := H
        go_wp2_with (first | ((with_reducible refine gate_dst (N := 31) rfl ?_); refine bx_ 31 #[.slice A0 l0.length c0, .int .i64 0, .int .i64 x3_1] 102 ?_; intro gb264 hg w6 hbox hb; replace HB := o_ (below_step (hd_ HB.1) hb); have BK264 := o_ (hbox); have GW264 := o_ ((y185_ : w.heap.size ≤ gb264)); have GE264 := o_ ((Nat.le_trans HW0.1 (y185_ : w.heap.size ≤ gb264) : w0.heap.size ≤ gb264)); replace HBW := o_ (below_step HBW.1 hb); clear hb hbox hg))
        go_ret
        exact ⟨_, rfl, (show IsS102 w0 _ gb264 l0 0 x3_1 from ⟨_, _, bd_ BK264.1, GE264.1, HR0.1⟩), wB_, by repeat (first | (with_reducible first | exact HBW.1 | apply below_alloc | apply pw_below_drewN | apply below_drew1 | refine below_set ?_ GW264.1) | exact HBW.1)⟩

/-! ### spec_l1Byte: function 95 -/
def spec_l1Byte.f (s0_0 : List Int) (s0_1 : Int) (s0_2 : Int) : Option (Int × Int × Int) := if s0_1 < (s0_0.length : Int) then (if 0 ≤ s0_1 then (some (Go.bits .and .i64 (wrap64 ((Go.bits .and .i64 (Go.bits .xor .i64 ((wrap64 ((wrap64 (s0_2 * 6364136223846793005)) + 1442695040888963407)) / 8589934592) ((wrap64 ((wrap64 (s0_2 * 6364136223846793005)) + 1442695040888963407)) / 140737488355328)) 255) + (wrap64 (rd s0_0 s0_1)))) 255, wrap64 (s0_1 + 1), wrap64 ((wrap64 (s0_2 * 6364136223846793005)) + 1442695040888963407))) else (none)) else (some (Go.bits .and .i64 (Go.bits .xor .i64 ((wrap64 ((wrap64 (s0_2 * 6364136223846793005)) + 1442695040888963407)) / 8589934592) ((wrap64 ((wrap64 (s0_2 * 6364136223846793005)) + 1442695040888963407)) / 140737488355328)) 255, s0_1, wrap64 ((wrap64 (s0_2 * 6364136223846793005)) + 1442695040888963407)))
set_option maxHeartbeats 8000000 in
set_option maxRecDepth 100000 in
theorem spec_l1Byte.calls (g : Nat) (s0_0 : List Int) (s0_1 : Int) (s0_2 : Int) (r1 : Int) (r2 : Int) (r3 : Int) (w0 w : World) (hI : IsS102 w0 w g s0_0 s0_1 s0_2) (hB : Below w0.heap.size w0 w) (h : spec_l1Byte.f s0_0 s0_1 s0_2 = some (r1, r2, r3)) :
    Calls Try.prog 95 #[.pointer (some ⟨g, 0, none⟩)] w fun e w' => e = .returned (.int .i64 r1) ∧ IsS102 w0 w' g s0_0 r2 r3 ∧ Below w0.heap.size w0 w' ∧ KeepBut w w' g none := by
  have HI0 := o_ hI
  have HK := o_ (KeepBut.refl w g none)
  have HL := o_ hB.size
  clear hI
  have HW0 := o_ hB.size
  have HB := o_ hB
  clear hB
  have H := h
  unfold spec_l1Byte.f at H
  clear h
  by_cases c2 : s0_1 < (s0_0.length : Int)
  · rw [if_pos c2] at H
    have c2b0 := decide_eq_true c2
    clear c2
    by_cases c3 : 0 ≤ s0_1
    · rw [if_pos c3] at H
      have c3b0 := decide_eq_true c3
      clear c3
      simp only [Option.some.injEq, Prod.mk.injEq] at H
      obtain ⟨rfl, rfl, rfl⟩ := H
      obtain ⟨ASz4_0, cSz4_0, HGz4, hgz4, HSz4_0⟩ := HI0.1
      have hcz4_0 := cellS102_0 HGz4
      have hcz4_1 := cellS102_1 HGz4
      have hcz4_2 := cellS102_2 HGz4
      have hfz4_1 := blk_frozen HGz4 1
      have hfz4_2 := blk_frozen HGz4 2
      clear HGz4 hgz4
      have p265 : 0 ≤ (s0_1 : Int) := of_decide_eq_true as_
      have q265 : s0_1 < (s0_0.length : Int) := of_decide_eq_true as_
      obtain ⟨ad265, e265, hx265_0⟩ := Kd.at_int HSz4_0 s0_1 p265 q265
      cases e265
      have hn265_0 : ad265.block ≠ g := Nat.ne_of_lt (Nat.lt_of_lt_of_le (by have := World.block_lt_of_cell? _ _ hx265_0; first | rwa [add_block] at this | exact this) (IsS102.ge HI0.1))
      replace hx265_0 := pw_cell_below HB.1 hx265_0
      replace hx265_0 := (cell_far (p := ⟨g, 2, none⟩) (by first | (rw [add_block]; exact hn265_0) | (show (Addr.add _ _).block ≠ _; rw [add_block]; exact hn265_0) | exact hn265_0) (.int .i64 (wrap64 ((wrap64 (s0_2 * 6364136223846793005)) + 1442695040888963407)))).trans hx265_0
      (try have hy265_0 := fun (n_ : Nat) => (show (((w.drewN n_).setCell ⟨g, 2, none⟩ (.int .i64 (wrap64 ((wrap64 (s0_2 * 6364136223846793005)) + 1442695040888963407))))).cell? _ = some _ from hx265_0))
      clear hn265_0
      replace p265 := eq_true p265
      replace q265 := eq_true q265
      go_enter Try.func95, Try.ntmps95
      go_wp2
      repeat (go_quiet (fail); try go_wp2)
      go_ret
      exact ⟨rt_, wI_, wB_, wK_⟩
    · rw [if_neg c3] at H
      exact absurd H (by simp)
  · rw [if_neg c2] at H
    have c2b0 := decide_eq_false c2
    clear c2
    simp only [Option.some.injEq, Prod.mk.injEq] at H
    obtain ⟨rfl, rfl, rfl⟩ := H
    obtain ⟨ASz5_0, cSz5_0, HGz5, hgz5, HSz5_0⟩ := HI0.1
    have hcz5_0 := cellS102_0 HGz5
    have hcz5_1 := cellS102_1 HGz5
    have hcz5_2 := cellS102_2 HGz5
    have hfz5_1 := blk_frozen HGz5 1
    have hfz5_2 := blk_frozen HGz5 2
    clear HGz5 hgz5
    go_enter Try.func95, Try.ntmps95
    go_wp2
    repeat (go_quiet (fail); try go_wp2)
    go_ret
    exact ⟨rt_, wI_, wB_, wK_⟩

/-! ### spec_l1Below: function 84 -/
def spec_l1Below.f (s0_0 : List Int) (s0_1 : Int) (s0_2 : Int) (a1 : Int) : Option (Int × Int × Int) := if a1 ≤ 0 then (some (0, s0_1, s0_2)) else (if a1 ≤ 256 then ((spec_l1Byte.f s0_0 s0_1 s0_2).bind fun bt266 => (if a1 = 0 then (none) else (some (Int.tmod bt266.1 a1, bt266.2.1, bt266.2.2)))) else ((spec_l1Byte.f s0_0 s0_1 s0_2).bind fun bt269 => ((spec_l1Byte.f s0_0 bt269.2.1 bt269.2.2).bind fun bt272 => ((spec_l1Byte.f s0_0 bt272.2.1 bt272.2.2).bind fun bt275 => (if a1 = 0 then (none) else (some (Int.tmod (wrap64 ((wrap64 ((wrap64 (bt269.1 * 65536)) + (wrap64 (bt272.1 * 256)))) + bt275.1)) a1, bt275.2.1, bt275.2.2)))))))
set_option maxHeartbeats 8000000 in
set_option maxRecDepth 100000 in
theorem spec_l1Below.calls (g : Nat) (s0_0 : List Int) (s0_1 : Int) (s0_2 : Int) (a1 : Int) (r1 : Int) (r2 : Int) (r3 : Int) (w0 w : World) (hI : IsS102 w0 w g s0_0 s0_1 s0_2) (hB : Below w0.heap.size w0 w) (h : spec_l1Below.f s0_0 s0_1 s0_2 a1 = some (r1, r2, r3)) :
    Calls Try.prog 84 #[.pointer (some ⟨g, 0, none⟩), .int .i64 a1] w fun e w' => e = .returned (.int .i64 r1) ∧ IsS102 w0 w' g s0_0 r2 r3 ∧ Below w0.heap.size w0 w' ∧ KeepBut w w' g none := by
  have HI0 := o_ hI
  have HK := o_ (KeepBut.refl w g none)
  have HL := o_ hB.size
  clear hI
  have HW0 := o_ hB.size
  have HB := o_ hB
  clear hB
  have H := h
  unfold spec_l1Below.f at H
  clear h
  by_cases c3 : a1 ≤ 0
  · rw [if_pos c3] at H
    have c3b0 := decide_eq_true c3
    clear c3
    simp only [Option.some.injEq, Prod.mk.injEq] at H
    obtain ⟨rfl, rfl, rfl⟩ := H
    go_enter Try.func84, Try.ntmps84
    go_wp2
    go_ret
    exact ⟨rt_, wI_, wB_, wK_⟩
  · rw [if_neg c3] at H
    have c3b0 := decide_eq_false c3
    clear c3
    by_cases c4 : a1 ≤ 256
    · rw [if_pos c4] at H
      have c4b0 := decide_eq_true c4
      clear c4
      obtain ⟨⟨t266, t267, t268⟩, A5, H⟩ := ob_ H
      try dsimp only at H
      by_cases c6 : a1 = 0
      · rw [if_pos c6] at H
        exact absurd H (by simp)
      · rw [if_neg c6] at H
        have c6b0 := beq_eq_false_iff_ne.mpr c6
        have c6b1 := bne_iff_ne.mpr c6
        simp only [Option.some.injEq, Prod.mk.injEq] at H
        obtain ⟨rfl, rfl, rfl⟩ := H
        go_enter Try.func84, Try.ntmps84
        go_wp2_with (first | ((with_reducible refine g_ 95 ?_); refine gl_ (some 13) Try.func95 #[.pointer (some ⟨g, 0, none⟩)] ?_; (with_reducible refine (spec_l1Byte.calls g s0_0 s0_1 s0_2 t266 t267 t268 w0 _ wI_ wB_ A5.1).mono ?_); rintro e w7 ⟨rfl, hi, hb, hk⟩; refine ⟨_, rfl, ?_⟩; replace HK := o_ (KeepBut.trans wK_ hk (.inl rfl)); replace HB := o_ (hb); replace HI0 := o_ (hi); (try clear hb hk hi)))
        go_ret
        exact ⟨rt_, wI_, wB_, wK_⟩
    · rw [if_neg c4] at H
      have c4b0 := decide_eq_false c4
      clear c4
      obtain ⟨⟨t269, t270, t271⟩, A8, H⟩ := ob_ H
      try dsimp only at H
      obtain ⟨⟨t272, t273, t274⟩, A9, H⟩ := ob_ H
      try dsimp only at H
      obtain ⟨⟨t275, t276, t277⟩, A10, H⟩ := ob_ H
      try dsimp only at H
      by_cases c11 : a1 = 0
      · rw [if_pos c11] at H
        exact absurd H (by simp)
      · rw [if_neg c11] at H
        have c11b0 := beq_eq_false_iff_ne.mpr c11
        have c11b1 := bne_iff_ne.mpr c11
        simp only [Option.some.injEq, Prod.mk.injEq] at H
        obtain ⟨rfl, rfl, rfl⟩ := H
        go_enter Try.func84, Try.ntmps84
        go_wp2_with (first | ((with_reducible refine g_ 95 ?_); refine gl_ (some 17) Try.func95 #[.pointer (some ⟨g, 0, none⟩)] ?_; (with_reducible refine (spec_l1Byte.calls g s0_0 s0_1 s0_2 t269 t270 t271 w0 _ wI_ wB_ A8.1).mono ?_); rintro e w12 ⟨rfl, hi, hb, hk⟩; refine ⟨_, rfl, ?_⟩; replace HK := o_ (KeepBut.trans wK_ hk (.inl rfl)); replace HB := o_ (hb); replace HI0 := o_ (hi); (try clear hb hk hi)) | ((with_reducible refine g_ 95 ?_); refine gl_ (some 19) Try.func95 #[.pointer (some ⟨g, 0, none⟩)] ?_; (with_reducible refine (spec_l1Byte.calls g s0_0 t270 t271 t272 t273 t274 w0 _ wI_ wB_ A9.1).mono ?_); rintro e w13 ⟨rfl, hi, hb, hk⟩; refine ⟨_, rfl, ?_⟩; replace HK := o_ (KeepBut.trans wK_ hk (.inl rfl)); replace HB := o_ (hb); replace HI0 := o_ (hi); (try clear hb hk hi)) | ((with_reducible refine g_ 95 ?_); refine gl_ (some 21) Try.func95 #[.pointer (some ⟨g, 0, none⟩)] ?_; (with_reducible refine (spec_l1Byte.calls g s0_0 t273 t274 t275 t276 t277 w0 _ wI_ wB_ A10.1).mono ?_); rintro e w14 ⟨rfl, hi, hb, hk⟩; refine ⟨_, rfl, ?_⟩; replace HK := o_ (KeepBut.trans wK_ hk (.inl rfl)); replace HB := o_ (hb); replace HI0 := o_ (hi); (try clear hb hk hi)))
        go_ret
        exact ⟨rt_, wI_, wB_, wK_⟩

/-! ### spec_l1Int: function 85 -/
def spec_l1Int.f (s0_0 : List Int) (s0_1 : Int) (s0_2 : Int) (l1 : List Int) : Option (Int × Int × Int) := (spec_l1Below.f s0_0 s0_1 s0_2 (l1.length : Int)).bind fun bt278 => (if 0 ≤ bt278.1 then (if bt278.1 < (l1.length : Int) then (some (rd l1 bt278.1, bt278.2.1, bt278.2.2)) else (none)) else (none))
set_option maxHeartbeats 8000000 in
set_option maxRecDepth 100000 in
theorem spec_l1Int.calls (g : Nat) (s0_0 : List Int) (s0_1 : Int) (s0_2 : Int) (A1 : Option Addr) (c1 : Nat) (l1 : List Int) (r1 : Int) (r2 : Int) (r3 : Int) (w0 w : World) (hI : IsS102 w0 w g s0_0 s0_1 s0_2) (hB : Below w0.heap.size w0 w) (hr1 : Kd.C (Kd.int .i64) w A1 l1.length l1) (hc1 : l1.length ≤ c1) (hf1 : ∀ ad, A1 = some ad → 0 < l1.length → ad.block ≠ g) (h : spec_l1Int.f s0_0 s0_1 s0_2 l1 = some (r1, r2, r3)) :
    Calls Try.prog 85 #[.pointer (some ⟨g, 0, none⟩), .slice A1 l1.length c1] w fun e w' => e = .returned (.int .i64 r1) ∧ IsS102 w0 w' g s0_0 r2 r3 ∧ Below w0.heap.size w0 w' ∧ KeepBut w w' g none := by
  have HR1 := o_ hr1
  have HC1 := o_ hc1
  clear hr1 hc1
  have HI0 := o_ hI
  have HK := o_ (KeepBut.refl w g none)
  have HL := o_ hB.size
  clear hI
  have HW0 := o_ hB.size
  have HB := o_ hB
  clear hB
  have H := h
  unfold spec_l1Int.f at H
  clear h
  obtain ⟨⟨t278, t279, t280⟩, A3, H⟩ := ob_ H
  try dsimp only at H
  by_cases c4 : 0 ≤ t278
  · rw [if_pos c4] at H
    have c4b0 := decide_eq_true c4
    clear c4
    by_cases c5 : t278 < (l1.length : Int)
    · rw [if_pos c5] at H
      have c5b0 := decide_eq_true c5
      clear c5
      simp only [Option.some.injEq, Prod.mk.injEq] at H
      obtain ⟨rfl, rfl, rfl⟩ := H
      go_enter Try.func85, Try.ntmps85
      go_wp2_with (first | ((with_reducible refine g_ 84 ?_); refine gl_ (some 9) Try.func84 #[.pointer (some ⟨g, 0, none⟩), .int .i64 (l1.length : Int)] ?_; (with_reducible refine (spec_l1Below.calls g s0_0 s0_1 s0_2 (l1.length : Int) t278 t279 t280 w0 _ wI_ wB_ A3.1).mono ?_); rintro e w6 ⟨rfl, hi, hb, hk⟩; refine ⟨_, rfl, ?_⟩; replace HK := o_ (KeepBut.trans wK_ hk (.inl rfl)); replace HB := o_ (hb); replace HI0 := o_ (hi); (try clear hb hk hi); have p281 : 0 ≤ (t278 : Int) := of_decide_eq_true as_; have q281 : t278 < (l1.length : Int) := of_decide_eq_true as_; obtain ⟨ad281, e281, hx281_0⟩ := Kd.at_int HR1.1 t278 p281 q281; cases e281; replace hx281_0 := keep_cell HK.1 hx281_0 (by first | (rw [add_block]; exact hf1 _ rfl (by omega)) | exact hf1 _ rfl (by omega) | exact hf1 ad281 rfl (by omega)); replace p281 := eq_true p281; replace q281 := eq_true q281))
      go_ret
      exact ⟨rt_, wI_, wB_, wK_⟩
    · rw [if_neg c5] at H
      exact absurd H (by simp)
  · rw [if_neg c4] at H
    exact absurd H (by simp)

/-! ### spec_l4Draw: function 104 -/
def spec_l4Draw.f (s0_0 : List Int) (s0_1 : Int) (s0_2 : Int) (a1 : Int) : Option (Int × Int × Int × Int × Int × Int × Int) := (spec_l1Below.f s0_0 s0_1 s0_2 8).bind fun bt283 => ((spec_l1Below.f s0_0 bt283.2.1 bt283.2.2 8).bind fun bt286 => ((spec_l1Below.f s0_0 bt286.2.1 bt286.2.2 20).bind fun bt289 => ((spec_l1Below.f s0_0 bt289.2.1 bt289.2.2 500).bind fun bt292 => (some (a1, wrap64 (1 + bt283.1), bt286.1, wrap64 (1 + bt289.1), wrap64 (10 * bt292.1), bt292.2.1, bt292.2.2)))))
set_option maxHeartbeats 8000000 in
set_option maxRecDepth 100000 in
theorem spec_l4Draw.calls (g : Nat) (s0_0 : List Int) (s0_1 : Int) (s0_2 : Int) (a1 : Int) (r1 : Int) (r2 : Int) (r3 : Int) (r4 : Int) (r5 : Int) (r6 : Int) (r7 : Int) (w0 w : World) (hI : IsS102 w0 w g s0_0 s0_1 s0_2) (hB : Below w0.heap.size w0 w) (h : spec_l4Draw.f s0_0 s0_1 s0_2 a1 = some (r1, r2, r3, r4, r5, r6, r7)) :
    Calls Try.prog 104 #[.pointer (some ⟨g, 0, none⟩), .int .i64 a1] w fun e w' => e = .returned (.agg #[.int .i64 r1, .int .i64 r2, .int .i64 r3, .int .i64 r4, .int .i64 r5]) ∧ IsS102 w0 w' g s0_0 r6 r7 ∧ Below w0.heap.size w0 w' ∧ KeepBut w w' g none := by
  have hu56 := Try.underlying56
  have HI0 := o_ hI
  have HK := o_ (KeepBut.refl w g none)
  have HL := o_ hB.size
  clear hI
  have HW0 := o_ hB.size
  have HB := o_ hB
  clear hB
  have H := h
  unfold spec_l4Draw.f at H
  clear h
  obtain ⟨⟨t283, t284, t285⟩, A3, H⟩ := ob_ H
  try dsimp only at H
  obtain ⟨⟨t286, t287, t288⟩, A4, H⟩ := ob_ H
  try dsimp only at H
  obtain ⟨⟨t289, t290, t291⟩, A5, H⟩ := ob_ H
  try dsimp only at H
  obtain ⟨⟨t292, t293, t294⟩, A6, H⟩ := ob_ H
  try dsimp only at H
  simp only [Option.some.injEq, Prod.mk.injEq] at H
  obtain ⟨rfl, rfl, rfl, rfl, rfl, rfl, rfl⟩ := H
  go_enter Try.func104, Try.ntmps104
  go_wp2_with (first | ((with_reducible refine gate_dst (N := 4) rfl ?_); refine bx_ 4 #[.int .i64 0, .int .i64 0, .int .i64 0, .int .i64 0, .int .i64 0] 56 ?_; intro gb282 hg w7 hbox hb; replace HB := o_ (below_step wB_ hb); have BK282 := o_ (hbox); have GW282 := o_ ((by rw [hg]; exact (keep_size (w := w) (g := g) (row := none) wK_) : w.heap.size ≤ gb282)); have GE282 := o_ ((Nat.le_trans HW0.1 (by rw [hg]; exact (keep_size (w := w) (g := g) (row := none) wK_) : w.heap.size ≤ gb282) : w0.heap.size ≤ gb282)); replace HK := o_ (KeepBut.trans wK_ (KeepBut.of_below hb g none) (.inl rfl)); have NB0_282 := o_ ((by rw [hg]; exact Nat.ne_of_lt (IsS102.lt (show IsS102 w0 _ g s0_0 s0_1 s0_2 from wI_)) : g ≠ gb282)); have NB282_0 := o_ ((by rw [hg]; exact Nat.ne_of_gt (IsS102.lt (show IsS102 w0 _ g s0_0 s0_1 s0_2 from wI_)) : gb282 ≠ g)); replace HI0 := o_ (IsS102.below wI_ hb); clear hb hbox hg) | ((with_reducible refine g_ 84 ?_); refine gl_ (some 7) Try.func84 #[.pointer (some ⟨g, 0, none⟩), .int .i64 8] ?_; (with_reducible refine (spec_l1Below.calls g s0_0 s0_1 s0_2 8 t283 t284 t285 w0 _ wI_ wB_ A3.1).mono ?_); rintro e w8 ⟨rfl, hi, hb, hk⟩; refine ⟨_, rfl, ?_⟩; replace BK282 := o_ (KeepBut.blk hk (g' := gb282) (o := c9_ 0 0 0 0 0) (bd_ BK282.1) NB282_0.1 (by simp)); replace HK := o_ (KeepBut.trans wK_ hk (.inl rfl)); replace HB := o_ (hb); replace HI0 := o_ (hi); (try clear hb hk hi)) | ((with_reducible refine g_ 84 ?_); refine gl_ (some 10) Try.func84 #[.pointer (some ⟨g, 0, none⟩), .int .i64 8] ?_; (with_reducible refine (spec_l1Below.calls g s0_0 t284 t285 8 t286 t287 t288 w0 _ wI_ wB_ A4.1).mono ?_); rintro e w9 ⟨rfl, hi, hb, hk⟩; refine ⟨_, rfl, ?_⟩; replace BK282 := o_ (KeepBut.blk hk (g' := gb282) (o := c9_ 0 0 0 0 0) (bd_ BK282.1) NB282_0.1 (by simp)); replace HK := o_ (KeepBut.trans wK_ hk (.inl rfl)); replace HB := o_ (hb); replace HI0 := o_ (hi); (try clear hb hk hi)) | ((with_reducible refine g_ 84 ?_); refine gl_ (some 12) Try.func84 #[.pointer (some ⟨g, 0, none⟩), .int .i64 20] ?_; (with_reducible refine (spec_l1Below.calls g s0_0 t287 t288 20 t289 t290 t291 w0 _ wI_ wB_ A5.1).mono ?_); rintro e w10 ⟨rfl, hi, hb, hk⟩; refine ⟨_, rfl, ?_⟩; replace BK282 := o_ (KeepBut.blk hk (g' := gb282) (o := c9_ 0 0 0 0 0) (bd_ BK282.1) NB282_0.1 (by simp)); replace HK := o_ (KeepBut.trans wK_ hk (.inl rfl)); replace HB := o_ (hb); replace HI0 := o_ (hi); (try clear hb hk hi)) | ((with_reducible refine g_ 84 ?_); refine gl_ (some 15) Try.func84 #[.pointer (some ⟨g, 0, none⟩), .int .i64 500] ?_; (with_reducible refine (spec_l1Below.calls g s0_0 t290 t291 500 t292 t293 t294 w0 _ wI_ wB_ A6.1).mono ?_); rintro e w11 ⟨rfl, hi, hb, hk⟩; refine ⟨_, rfl, ?_⟩; replace BK282 := o_ (KeepBut.blk hk (g' := gb282) (o := c9_ 0 0 0 0 0) (bd_ BK282.1) NB282_0.1 (by simp)); replace HK := o_ (KeepBut.trans wK_ hk (.inl rfl)); replace HB := o_ (hb); replace HI0 := o_ (hi); (try clear hb hk hi); have hnb12 := NB282_0.1; have hnc12 := NB0_282.1; obtain ⟨_, _, _, _, _⟩ := e2_ BK282.1; obtain ⟨_, _, _, _, _⟩ := z3_ BK282.1))
  refine bodyPost_ret (results_cell_row rfl _ _ gb282 56 #[.int .i64 a1, .int .i64 (wrap64 (1 + t283)), .int .i64 t286, .int .i64 (wrap64 (1 + t289)), .int .i64 (wrap64 (10 * t292))] (0, 0) _ rfl (bk_ BK282.1) Try.underlying56 rfl (by kernel_rfl)) rfl ?_
  exact ⟨rt_, wI_, wB_, wK_⟩

/-! ### spec_l6Draw: function 103 -/
def spec_l6Draw.f (s0_0 : List Int) (s0_1 : Int) (s0_2 : Int) (a1 : Int) : Option (Int × Int × Int × Int × Int × Int × Int × Int × Int × Int) := (spec_l4Draw.f s0_0 s0_1 s0_2 a1).bind fun bt296 => ((spec_l1Below.f s0_0 bt296.2.2.2.2.2.1 bt296.2.2.2.2.2.2 6).bind fun bt303 => ((spec_l1Below.f s0_0 bt303.2.1 bt303.2.2 80).bind fun bt306 => ((spec_l1Below.f s0_0 bt306.2.1 bt306.2.2 5).bind fun bt309 => (some (bt296.1, bt296.2.1, bt296.2.2.1, bt296.2.2.2.1, bt296.2.2.2.2.1, wrap64 (1 + bt303.1), bt306.1, bt309.1, bt309.2.1, bt309.2.2)))))
set_option maxHeartbeats 8000000 in
set_option maxRecDepth 100000 in
theorem spec_l6Draw.calls (g : Nat) (s0_0 : List Int) (s0_1 : Int) (s0_2 : Int) (a1 : Int) (r1 : Int) (r2 : Int) (r3 : Int) (r4 : Int) (r5 : Int) (r6 : Int) (r7 : Int) (r8 : Int) (r9 : Int) (r10 : Int) (w0 w : World) (hI : IsS102 w0 w g s0_0 s0_1 s0_2) (hB : Below w0.heap.size w0 w) (h : spec_l6Draw.f s0_0 s0_1 s0_2 a1 = some (r1, r2, r3, r4, r5, r6, r7, r8, r9, r10)) :
    Calls Try.prog 103 #[.pointer (some ⟨g, 0, none⟩), .int .i64 a1] w fun e w' => e = .returned (.agg #[.int .i64 r1, .int .i64 r2, .int .i64 r3, .int .i64 r4, .int .i64 r5, .int .i64 r6, .int .i64 r7, .int .i64 r8]) ∧ IsS102 w0 w' g s0_0 r9 r10 ∧ Below w0.heap.size w0 w' ∧ KeepBut w w' g none := by
  have hu58 := Try.underlying58
  have HI0 := o_ hI
  have HK := o_ (KeepBut.refl w g none)
  have HL := o_ hB.size
  clear hI
  have HW0 := o_ hB.size
  have HB := o_ hB
  clear hB
  have H := h
  unfold spec_l6Draw.f at H
  clear h
  obtain ⟨⟨t296, t297, t298, t299, t300, t301, t302⟩, A3, H⟩ := ob_ H
  try dsimp only at H
  obtain ⟨⟨t303, t304, t305⟩, A4, H⟩ := ob_ H
  try dsimp only at H
  obtain ⟨⟨t306, t307, t308⟩, A5, H⟩ := ob_ H
  try dsimp only at H
  obtain ⟨⟨t309, t310, t311⟩, A6, H⟩ := ob_ H
  try dsimp only at H
  simp only [Option.some.injEq, Prod.mk.injEq] at H
  obtain ⟨rfl, rfl, rfl, rfl, rfl, rfl, rfl, rfl, rfl, rfl⟩ := H
  go_enter Try.func103, Try.ntmps103
  go_wp2_with (first | ((with_reducible refine gate_dst (N := 4) rfl ?_); refine bx_ 4 #[.int .i64 0, .int .i64 0, .int .i64 0, .int .i64 0, .int .i64 0, .int .i64 0, .int .i64 0, .int .i64 0] 58 ?_; intro gb295 hg w7 hbox hb; replace HB := o_ (below_step wB_ hb); have BK295 := o_ (hbox); have GW295 := o_ ((by rw [hg]; exact (keep_size (w := w) (g := g) (row := none) wK_) : w.heap.size ≤ gb295)); have GE295 := o_ ((Nat.le_trans HW0.1 (by rw [hg]; exact (keep_size (w := w) (g := g) (row := none) wK_) : w.heap.size ≤ gb295) : w0.heap.size ≤ gb295)); replace HK := o_ (KeepBut.trans wK_ (KeepBut.of_below hb g none) (.inl rfl)); have NB0_295 := o_ ((by rw [hg]; exact Nat.ne_of_lt (IsS102.lt (show IsS102 w0 _ g s0_0 s0_1 s0_2 from wI_)) : g ≠ gb295)); have NB295_0 := o_ ((by rw [hg]; exact Nat.ne_of_gt (IsS102.lt (show IsS102 w0 _ g s0_0 s0_1 s0_2 from wI_)) : gb295 ≠ g)); replace HI0 := o_ (IsS102.below wI_ hb); clear hb hbox hg) | ((with_reducible refine g_ 104 ?_); refine gl_ (some 7) Try.func104 #[.pointer (some ⟨g, 0, none⟩), .int .i64 a1] ?_; (with_reducible refine (spec_l4Draw.calls g s0_0 s0_1 s0_2 a1 t296 t297 t298 t299 t300 t301 t302 w0 _ wI_ wB_ A3.1).mono ?_); rintro e w8 ⟨rfl, hi, hb, hk⟩; refine ⟨_, rfl, ?_⟩; replace BK295 := o_ (KeepBut.blk hk (g' := gb295) (o := c8_ 0 0 0 0 0 0 0 0) (bd_ BK295.1) NB295_0.1 (by simp)); replace HK := o_ (KeepBut.trans wK_ hk (.inl rfl)); replace HB := o_ (hb); replace HI0 := o_ (hi); (try clear hb hk hi)) | ((with_reducible refine g_ 84 ?_); refine gl_ (some 9) Try.func84 #[.pointer (some ⟨g, 0, none⟩), .int .i64 6] ?_; (with_reducible refine (spec_l1Below.calls g s0_0 t301 t302 6 t303 t304 t305 w0 _ wI_ wB_ A4.1).mono ?_); rintro e w9 ⟨rfl, hi, hb, hk⟩; refine ⟨_, rfl, ?_⟩; replace BK295 := o_ (KeepBut.blk hk (g' := gb295) (o := c8_ 0 0 0 0 0 0 0 0) (bd_ BK295.1) NB295_0.1 (by simp)); replace HK := o_ (KeepBut.trans wK_ hk (.inl rfl)); replace HB := o_ (hb); replace HI0 := o_ (hi); (try clear hb hk hi)) | ((with_reducible refine g_ 84 ?_); refine gl_ (some 12) Try.func84 #[.pointer (some ⟨g, 0, none⟩), .int .i64 80] ?_; (with_reducible refine (spec_l1Below.calls g s0_0 t304 t305 80 t306 t307 t308 w0 _ wI_ wB_ A5.1).mono ?_); rintro e w10 ⟨rfl, hi, hb, hk⟩; refine ⟨_, rfl, ?_⟩; replace BK295 := o_ (KeepBut.blk hk (g' := gb295) (o := c8_ 0 0 0 0 0 0 0 0) (bd_ BK295.1) NB295_0.1 (by simp)); replace HK := o_ (KeepBut.trans wK_ hk (.inl rfl)); replace HB := o_ (hb); replace HI0 := o_ (hi); (try clear hb hk hi)) | ((with_reducible refine g_ 84 ?_); refine gl_ (some 14) Try.func84 #[.pointer (some ⟨g, 0, none⟩), .int .i64 5] ?_; (with_reducible refine (spec_l1Below.calls g s0_0 t307 t308 5 t309 t310 t311 w0 _ wI_ wB_ A6.1).mono ?_); rintro e w11 ⟨rfl, hi, hb, hk⟩; refine ⟨_, rfl, ?_⟩; replace BK295 := o_ (KeepBut.blk hk (g' := gb295) (o := c8_ 0 0 0 0 0 0 0 0) (bd_ BK295.1) NB295_0.1 (by simp)); replace HK := o_ (KeepBut.trans wK_ hk (.inl rfl)); replace HB := o_ (hb); replace HI0 := o_ (hi); (try clear hb hk hi); have hnb12 := NB295_0.1; have hnc12 := NB0_295.1; obtain ⟨_, _, _, _, _, _, _, _⟩ := e4_ BK295.1; obtain ⟨_, _, _, _, _, _, _, _⟩ := z5_ BK295.1))
  refine bodyPost_ret (results_cell_row rfl _ _ gb295 58 #[.int .i64 t296, .int .i64 t297, .int .i64 t298, .int .i64 t299, .int .i64 t300, .int .i64 (wrap64 (1 + t303)), .int .i64 t306, .int .i64 t309] (0, 0) _ rfl (bk_ BK295.1) Try.underlying58 rfl (by kernel_rfl)) rfl ?_
  exact ⟨rt_, wI_, wB_, wK_⟩

/-! ### spec_l6List: function 96 -/
def spec_l6List.l0 : Nat → List (S58) → Int → List Int → Int → Int → Option ((List (S58)) × Int × Int)
  | 0, _, _, _, _, _ => none
  | k + 1, x3, x4, x1000, x1001, x1002 => (spec_l1Below.f x1000 x1001 x1002 8).bind fun bt315 => (if x4 ≤ bt315.1 then ((spec_l6Draw.f x1000 bt315.2.1 bt315.2.2 (wrap64 (2 * x4))).bind fun bt318 => (if x3.length < 2199023255552 then (spec_l6List.l0 k (x3 ++ [(⟨(⟨bt318.1, bt318.2.1, bt318.2.2.1, bt318.2.2.2.1, bt318.2.2.2.2.1⟩ : S56), bt318.2.2.2.2.2.1, bt318.2.2.2.2.2.2.1, bt318.2.2.2.2.2.2.2.1⟩ : S58)]) (wrap64 (x4 + 1)) x1000 bt318.2.2.2.2.2.2.2.2.1 bt318.2.2.2.2.2.2.2.2.2) else (none))) else (some (x3, bt315.2.1, bt315.2.2)))
def spec_l6List.f (k : Nat) (s0_0 : List Int) (s0_1 : Int) (s0_2 : Int) : Option ((List (S58)) × Int × Int) := spec_l6List.l0 k (([] : List (S58))) 1 s0_0 s0_1 s0_2
theorem spec_l6List.mono_l : ∀ k, (∀ y0 y1 y2 y3 y4, LeO (spec_l6List.l0 k y0 y1 y2 y3 y4) (spec_l6List.l0 (k + 1) y0 y1 y2 y3 y4))
  | 0 => fun _ _ _ _ _ r h => by simp [spec_l6List.l0] at h
  | k + 1 => by
    have ih0 := spec_l6List.mono_l k
    · intro y0 y1 y2 y3 y4
      unfold spec_l6List.l0
      exact mo_
theorem spec_l6List.mono : ∀ a0 a1 a2 k, LeO (spec_l6List.f k a0 a1 a2) (spec_l6List.f (k + 1) a0 a1 a2) := by
  intro a0 a1 a2 k
  have ih0 := spec_l6List.mono_l k
  unfold spec_l6List.f
  exact mo_
set_option maxHeartbeats 8000000 in
set_option maxRecDepth 100000 in
theorem spec_l6List.calls (k : Nat) (g : Nat) (s0_0 : List Int) (s0_1 : Int) (s0_2 : Int) (r1 : List (S58)) (r2 : Int) (r3 : Int) (w0 w : World) (hI : IsS102 w0 w g s0_0 s0_1 s0_2) (hB : Below w0.heap.size w0 w) (h : spec_l6List.f k s0_0 s0_1 s0_2 = some (r1, r2, r3)) :
    Calls Try.prog 96 #[.pointer (some ⟨g, 0, none⟩)] w fun e w' => ∃ v0_ : Value, e = .returned (v0_) ∧ Kd.R k58 58 w' w.heap.size (fun _ => True) v0_ r1 ∧ IsS102 w0 w' g s0_0 r2 r3 ∧ Below w0.heap.size w0 w' ∧ KeepBut w w' g none := by
  have HI0 := o_ hI
  have HK := o_ (KeepBut.refl w g none)
  have HL := o_ hB.size
  clear hI
  have HW0 := o_ hB.size
  have HB := o_ hB
  clear hB
  have H : (spec_l6List.l0 k (([] : List (S58))) 1 s0_0 s0_1 s0_2) = some (r1, r2, r3) := h
  clear h
  obtain ⟨y312, hy312⟩ : ∃ y_ : List (S58), y_ = (([] : List (S58))) := ⟨_, rfl⟩
  replace H : (spec_l6List.l0 k y312 1 s0_0 s0_1 s0_2) = some (r1, r2, r3) := hy_ H hy312
  have Ny312 := o_ hy312
  clear hy312
  have H' := o_ H
  clear H
  go_enter Try.func96, Try.ntmps96
  go_wp2_with (first | ((with_reducible refine gate_dst (N := 5) rfl ?_); refine Kd.R_lit k58 _ 58 ?hg (N := 5) ?hd (xs := ([] : List (S58))) (inner := []) (ok := fun _ => True) (okp := fun _ => True) ?hr ?hp (fun _ hk => hk) trivial (Below.refl _ _) (Nat.le_refl _) (by simp) ?_; (case hd => rfl); (case hg => rfl); (case hr => first | (go_simp; done) | (go_simp; rfl)); (case hp => exact (Reps.none _ _)); intro v313 w2 ho3 hb hg_ hnew_; clear hg_ hnew_; (first | rw [← Ny312.1] at ho3 | (simp only [Int.reduceToNat] at ho3; rw [← Ny312.1] at ho3)); have HO314 := o_ (Kd.R_lower ho3 (keep_size (w := w) (g := g) (row := none) wK_)); replace HK := o_ (KeepBut.trans wK_ (KeepBut.of_below hb g none) (.inl rfl)); replace HB := o_ (below_step (wB_) hb); replace HI0 := o_ (IsS102.below (wI_) hb); clear hb ho3))
  go_loopg [3, 4] k (fun kq v3 v4 w' => ∃ (x3_1 : List (S58)) (x4_1 : Int) (x1001_1 : Int) (x1002_1 : Int), v4 = .int .i64 x4_1 ∧ Aside0 (spec_l6List.l0 kq x3_1 x4_1 s0_0 x1001_1 x1002_1 = some (r1, r2, r3)) ∧ Aside0 (kq ≤ k) ∧ Aside0 (Kd.R k58 58 w' w.heap.size (fun _ => True) v3 x3_1) ∧ Aside0 (IsS102 w0 w' g s0_0 x1001_1 x1002_1) ∧ Aside0 (KeepBut w w' g none) ∧ Aside0 (Below w0.heap.size w0 w'))
  case atStart => exact ⟨(y312), (1), (s0_1), (s0_2), rs_, H', ⟨Nat.le_refl _⟩, ⟨rd_ HO314.1⟩, ⟨wI_⟩, ⟨wK_⟩, ⟨wB_⟩⟩
  case round =>
    clear H'
    try clear p2
    obtain ⟨x3_1, x4_1, x1001_1, x1002_1, rfl, HA, HK1, HO_3, HI0, HK, HB⟩ := hrel
    cases gk with
    | zero => exact absurd HA.1 (by simp [spec_l6List.l0])
    | succ k1 =>
      have H := HA.1
      clear HA
      simp only [spec_l6List.l0] at H
      obtain ⟨⟨t315, t316, t317⟩, A4, H⟩ := ob_ H
      try dsimp only at H
      by_cases c5 : x4_1 ≤ t315
      · rw [if_pos c5] at H
        have c5b0 := decide_eq_true c5
        clear c5
        obtain ⟨⟨t318, t319, t320, t321, t322, t323, t324, t325, t326, t327⟩, A6, H⟩ := ob_ H
        try dsimp only at H
        by_cases c7 : x3_1.length < 2199023255552
        · rw [if_pos c7] at H
          have LMc7 := o_ c7
          clear c7
          obtain ⟨y328, hy328⟩ : ∃ y_ : List (S58), y_ = (x3_1 ++ [(⟨(⟨t318, t319, t320, t321, t322⟩ : S56), t323, t324, t325⟩ : S58)]) := ⟨_, rfl⟩
          replace H : (spec_l6List.l0 k1 y328 (wrap64 (x4_1 + 1)) s0_0 t326 t327) = some (r1, r2, r3) := hy_ H hy328
          have Ny328 := o_ hy328
          clear hy328
          have H' := o_ H
          clear H
          go_wp2_with (first | ((with_reducible refine g_ 84 ?_); refine gl_ (some 8) Try.func84 #[.pointer (some ⟨g, 0, none⟩), .int .i64 8] ?_; (with_reducible refine (spec_l1Below.calls g s0_0 x1001_1 x1002_1 8 t315 t316 t317 w0 _ wI_ wB_ A4.1).mono ?_); rintro e w8 ⟨rfl, hi, hb, hk⟩; refine ⟨_, rfl, ?_⟩; replace HO_3 := o_ (kp_ (show IsS102 w0 _ g s0_0 x1001_1 x1002_1 from wI_) (rd_ HO_3.1) hk); replace HK := o_ (KeepBut.trans wK_ hk (.inl rfl)); replace HB := o_ (hb); replace HI0 := o_ (hi); (try clear hb hk hi)) | ((with_reducible refine g_ 103 ?_); refine gl_ (some 16) Try.func103 #[.pointer (some ⟨g, 0, none⟩), .int .i64 (wrap64 (2 * x4_1))] ?_; (with_reducible refine (spec_l6Draw.calls g s0_0 t316 t317 (wrap64 (2 * x4_1)) t318 t319 t320 t321 t322 t323 t324 t325 t326 t327 w0 _ wI_ wB_ A6.1).mono ?_); rintro e w9 ⟨rfl, hi, hb, hk⟩; refine ⟨_, rfl, ?_⟩; replace HO_3 := o_ (kp_ (show IsS102 w0 _ g s0_0 t316 t317 from wI_) (rd_ HO_3.1) hk); replace HK := o_ (KeepBut.trans wK_ hk (.inl rfl)); replace HB := o_ (hb); replace HI0 := o_ (hi); (try clear hb hk hi)) | ((with_reducible refine gate_builtin (b := .append) (xs := #[.tmp 12, .tmp 17]) rfl ?_); at_builtin; refine Kd.R_append k58 w.heap.size rfl (.tmp 12) (.tmp 17) 26 58 (.agg #[(.int .i64 0), (.int .i64 0), (.int .i64 0), (.int .i64 0), (.int .i64 0), (.int .i64 0), (.int .i64 0), (.int .i64 0)]) 64 rfl Try.underlying26 info58 rfl (by decide) (by omega) u3 x3_1 (⟨(⟨t318, t319, t320, t321, t322⟩ : S56), t323, t324, t325⟩ : S58) [.int .i64 t318, .int .i64 t319, .int .i64 t320, .int .i64 t321, .int .i64 t322, .int .i64 t323, .int .i64 t324, .int .i64 t325] (fun _ => True) (fun _ => False) rfl rfl ?aP (fun _ hk => hk.elim) ?aF ?aO (Below.refl _ _) ?aS ?aL ?_; (case aP => exact k58_mkM _ _ _ (⟨(⟨t318, t319, t320, t321, t322⟩ : S56), t323, t324, t325⟩ : S58)); (case aF => exact (fun _ _ => trivial)); (case aO => exact rd_ HO_3.1); (case aS => exact (keep_size (w := w) (g := g) (row := none) wK_)); (case aL => have := LMc7.1; omega); intro v329 w10 ho hb hg hat; rw [← Ny328.1] at ho; replace HB := o_ (below_weaken (wB_) HL.1 hb); replace HI0 := o_ (IsS102.grown (wI_) hg (IsS102.own_ne HI0.1 HO_3.1 (by decide))); replace HK := o_ (KeepBut.trans wK_ (KeepBut.of_grown hg g) (Kd.R_base2 HO_3.1)); have HO330 := o_ (ho); clear HO_3 ho hb hg hat))
          go_roundg k1
          case measure => have := HK1.1; omega
          case rel => exact ⟨(y328), (wrap64 (x4_1 + 1)), (t326), (t327), rs_, H', ⟨by have := HK1.1; omega⟩, ⟨rd_ HO330.1⟩, ⟨wI_⟩, ⟨wK_⟩, ⟨wB_⟩⟩
        · rw [if_neg c7] at H
          exact absurd H (by simp)
      · rw [if_neg c5] at H
        have c5b0 := decide_eq_false c5
        clear c5
        simp only [Option.some.injEq, Prod.mk.injEq] at H
        obtain ⟨rfl, rfl, rfl⟩ := H
        go_wp2_with (first | ((with_reducible refine g_ 84 ?_); refine gl_ (some 8) Try.func84 #[.pointer (some ⟨g, 0, none⟩), .int .i64 8] ?_; (with_reducible refine (spec_l1Below.calls g s0_0 x1001_1 x1002_1 8 t315 t316 t317 w0 _ wI_ wB_ A4.1).mono ?_); rintro e w11 ⟨rfl, hi, hb, hk⟩; refine ⟨_, rfl, ?_⟩; replace HO_3 := o_ (kp_ (show IsS102 w0 _ g s0_0 x1001_1 x1002_1 from wI_) (rd_ HO_3.1) hk); replace HK := o_ (KeepBut.trans wK_ hk (.inl rfl)); replace HB := o_ (hb); replace HI0 := o_ (hi); (try clear hb hk hi)))
        go_ret
        exact ⟨_, rt_, rd_ HO_3.1, wI_, wB_, wK_⟩

/-! ### spec_l4Raw: function 98 -/
def spec_l4Raw.f (s0_0 : List Int) (s0_1 : Int) (s0_2 : Int) : Option (Int × Int × Int) := (spec_l1Int.f s0_0 s0_1 s0_2 (([(-1), 0, 8, 50, 51, 1000, 9223372036854775807, (-9223372036854775808)] : List Int))).bind fun bt334 => (some (bt334.1, bt334.2.1, bt334.2.2))
set_option maxHeartbeats 8000000 in
set_option maxRecDepth 100000 in
theorem spec_l4Raw.calls (g : Nat) (s0_0 : List Int) (s0_1 : Int) (s0_2 : Int) (r1 : Int) (r2 : Int) (r3 : Int) (w0 w : World) (hI : IsS102 w0 w g s0_0 s0_1 s0_2) (hB : Below w0.heap.size w0 w) (h : spec_l4Raw.f s0_0 s0_1 s0_2 = some (r1, r2, r3)) :
    Calls Try.prog 98 #[.pointer (some ⟨g, 0, none⟩)] w fun e w' => e = .returned (.int .i64 r1) ∧ IsS102 w0 w' g s0_0 r2 r3 ∧ Below w0.heap.size w0 w' ∧ KeepBut w w' g none := by
  have HI0 := o_ hI
  have HK := o_ (KeepBut.refl w g none)
  have HL := o_ hB.size
  clear hI
  have HW0 := o_ hB.size
  have HB := o_ hB
  clear hB
  have H := h
  unfold spec_l4Raw.f at H
  clear h
  obtain ⟨y331, hy331⟩ : ∃ y_ : List Int, y_ = (([(-1), 0, 8, 50, 51, 1000, 9223372036854775807, (-9223372036854775808)] : List Int)) := ⟨_, rfl⟩
  replace H : ((spec_l1Int.f s0_0 s0_1 s0_2 y331).bind fun bt334 => (some (bt334.1, bt334.2.1, bt334.2.2))) = some (r1, r2, r3) := hy_ H hy331
  have Ny331 := o_ hy331
  clear hy331
  obtain ⟨⟨t334, t335, t336⟩, A2, H⟩ := ob_ H
  try dsimp only at H
  simp only [Option.some.injEq, Prod.mk.injEq] at H
  obtain ⟨rfl, rfl, rfl⟩ := H
  go_enter Try.func98, Try.ntmps98
  go_wp2_with (first | ((with_reducible refine gate_dst (N := 4) rfl ?_); refine Kd.R_lit (Kd.int .i64) _ 3 ?hg (N := 4) ?hd (xs := ([(-1), 0, 8, 50, 51, 1000, 9223372036854775807, (-9223372036854775808)] : List Int)) (inner := [.int .i64 (-1), .int .i64 0, .int .i64 8, .int .i64 50, .int .i64 51, .int .i64 1000, .int .i64 9223372036854775807, .int .i64 (-9223372036854775808)]) (ok := fun _ => True) (okp := fun _ => True) ?hr ?hp (fun _ hk => hk) trivial (Below.refl _ _) (Nat.le_refl _) (by simp) ?_; (case hd => rfl); (case hg => rfl); (case hr => first | (go_simp; done) | (go_simp; rfl)); (case hp => exact (Reps.one (show Kd.M (Kd.int .i64) _ _ _ (-1) [.int .i64 (-1)] from rfl) (Reps.one (show Kd.M (Kd.int .i64) _ _ _ 0 [.int .i64 0] from rfl) (Reps.one (show Kd.M (Kd.int .i64) _ _ _ 8 [.int .i64 8] from rfl) (Reps.one (show Kd.M (Kd.int .i64) _ _ _ 50 [.int .i64 50] from rfl) (Reps.one (show Kd.M (Kd.int .i64) _ _ _ 51 [.int .i64 51] from rfl) (Reps.one (show Kd.M (Kd.int .i64) _ _ _ 1000 [.int .i64 1000] from rfl) (Reps.one (show Kd.M (Kd.int .i64) _ _ _ 9223372036854775807 [.int .i64 9223372036854775807] from rfl) (Reps.one (show Kd.M (Kd.int .i64) _ _ _ (-9223372036854775808) [.int .i64 (-9223372036854775808)] from rfl) (Reps.none _ _)))))))))); intro v332 w3 ho4 hb hg_ hnew_; clear hg_ hnew_; (first | rw [← Ny331.1] at ho4 | (simp only [Int.reduceToNat] at ho4; rw [← Ny331.1] at ho4)); have HO333 := o_ (Kd.R_lower ho4 (keep_size (w := w) (g := g) (row := none) wK_)); replace HK := o_ (KeepBut.trans wK_ (KeepBut.of_below hb g none) (.inl rfl)); replace HB := o_ (below_step wB_ hb); replace HI0 := o_ (IsS102.below wI_ hb); clear hb ho4; obtain ⟨Ao5, co5, eo5⟩ := Kd.R_slice HO333.1; subst eo5) | ((with_reducible refine g_ 85 ?_); refine gl_ (some 5) Try.func85 #[.pointer (some ⟨g, 0, none⟩), .slice Ao5 y331.length co5] ?_; (with_reducible refine (spec_l1Int.calls g s0_0 s0_1 s0_2 _ _ y331 t334 t335 t336 w0 _ wI_ wB_ (cd_ (Kd.R_reads' HO333.1).2.2) ((Kd.R_reads' HO333.1).2.1) ?side5 A2.1).mono ?_); (case side5 => exact far_slice (IsS102.own_ne HI0.1 HO333.1 (by decide))); rintro e w6 ⟨rfl, hi, hb, hk⟩; refine ⟨_, rfl, ?_⟩; replace HO333 := o_ (kp_ (show IsS102 w0 _ g s0_0 s0_1 s0_2 from wI_) (rd_ HO333.1) hk); replace HK := o_ (KeepBut.trans wK_ hk (.inl rfl)); replace HB := o_ (hb); replace HI0 := o_ (hi); (try clear hb hk hi)))
  go_ret
  exact ⟨rt_, wI_, wB_, wK_⟩

/-! ### spec_l4Any: function 97 -/
def spec_l4Any.f (s0_0 : List Int) (s0_1 : Int) (s0_2 : Int) : Option (Int × Int × Int × Int × Int × Int × Int) := (spec_l1Below.f s0_0 s0_1 s0_2 40).bind fun bt338 => ((spec_l4Draw.f s0_0 bt338.2.1 bt338.2.2 (wrap64 (1 + bt338.1))).bind fun bt341 => ((spec_l1Below.f s0_0 bt341.2.2.2.2.2.1 bt341.2.2.2.2.2.2 14).bind fun bt349 => (if bt349.1 = 0 then ((spec_l1Int.f s0_0 bt349.2.1 bt349.2.2 (([0, 999, 1000] : List Int))).bind fun bt355 => (some (bt355.1, bt341.2.1, bt341.2.2.1, bt341.2.2.2.1, bt341.2.2.2.2.1, bt355.2.1, bt355.2.2))) else (if bt349.1 = 1 then ((spec_l1Int.f s0_0 bt349.2.1 bt349.2.2 (([0, 8, 9] : List Int))).bind fun bt361 => (some (bt341.1, bt361.1, bt341.2.2.1, bt341.2.2.2.1, bt341.2.2.2.2.1, bt361.2.1, bt361.2.2))) else (if bt349.1 = 2 then ((spec_l1Int.f s0_0 bt349.2.1 bt349.2.2 (([(-1), 7, 8] : List Int))).bind fun bt367 => (some (bt341.1, bt341.2.1, bt367.1, bt341.2.2.2.1, bt341.2.2.2.2.1, bt367.2.1, bt367.2.2))) else (if bt349.1 = 3 then ((spec_l4Raw.f s0_0 bt349.2.1 bt349.2.2).bind fun bt370 => (some (bt341.1, bt341.2.1, bt341.2.2.1, bt370.1, bt341.2.2.2.2.1, bt370.2.1, bt370.2.2))) else (if bt349.1 = 4 then ((spec_l1Int.f s0_0 bt349.2.1 bt349.2.2 (([(-1), 10000000, 10000001] : List Int))).bind fun bt376 => (some (bt341.1, bt341.2.1, bt341.2.2.1, bt341.2.2.2.1, bt376.1, bt376.2.1, bt376.2.2))) else (some (bt341.1, bt341.2.1, bt341.2.2.1, bt341.2.2.2.1, bt341.2.2.2.2.1, bt349.2.1, bt349.2.2)))))))))
set_option maxHeartbeats 8000000 in
set_option maxRecDepth 100000 in
theorem spec_l4Any.calls (g : Nat) (s0_0 : List Int) (s0_1 : Int) (s0_2 : Int) (r1 : Int) (r2 : Int) (r3 : Int) (r4 : Int) (r5 : Int) (r6 : Int) (r7 : Int) (w0 w : World) (hI : IsS102 w0 w g s0_0 s0_1 s0_2) (hB : Below w0.heap.size w0 w) (h : spec_l4Any.f s0_0 s0_1 s0_2 = some (r1, r2, r3, r4, r5, r6, r7)) :
  Calls Try.prog 97 #[.pointer (some ⟨g, 0, none⟩)] w fun e w' => e = .returned (.agg #[.int .i64 r1, .int .i64 r2, .int .i64 r3, .int .i64 r4, .int .i64 r5]) ∧ IsS102 w0 w' g s0_0 r6 r7 ∧ Below w0.heap.size w0 w' ∧ KeepBut w w' g none := by
 have hu56 := Try.underlying56
 have HI0 := o_ hI
 have HK := o_ (KeepBut.refl w g none)
 have HL := o_ hB.size
 clear hI
 have HW0 := o_ hB.size
 have HB := o_ hB
 clear hB
 have H := h
 unfold spec_l4Any.f at H
 clear h
 obtain ⟨⟨t338, t339, t340⟩, A2, H⟩ := ob_ H
 try dsimp only at H
 obtain ⟨⟨t341, t342, t343, t344, t345, t346, t347⟩, A3, H⟩ := ob_ H
 try dsimp only at H
 obtain ⟨⟨t349, t350, t351⟩, A4, H⟩ := ob_ H
 try dsimp only at H
 have HH_ := o_ H
 clear H
 go_enter Try.func97, Try.ntmps97
 go_upto_region 3 with (first | ((with_reducible refine gate_dst (N := 2) rfl ?_); refine bx_ 2 #[.int .i64 0, .int .i64 0, .int .i64 0, .int .i64 0, .int .i64 0] 56 ?_; intro gb337 hg w7 hbox hb; replace HB := o_ (below_step wB_ hb); have BK337 := o_ (hbox); have GW337 := o_ ((y232_ : w.heap.size ≤ gb337)); have GE337 := o_ ((Nat.le_trans HW0.1 (y232_ : w.heap.size ≤ gb337) : w0.heap.size ≤ gb337)); replace HK := o_ (KeepBut.trans wK_ (KeepBut.of_below hb g none) (.inl rfl)); have NB0_337 := o_ ((y222_ : g ≠ gb337)); have NB337_0 := o_ ((y223_ : gb337 ≠ g)); replace HI0 := o_ (IsS102.below wI_ hb); clear hb hbox hg) | ((with_reducible refine g_ 84 ?_); refine gl_ (some 6) Try.func84 #[.pointer (some ⟨g, 0, none⟩), .int .i64 40] ?_; (with_reducible refine (spec_l1Below.calls g s0_0 s0_1 s0_2 40 t338 t339 t340 w0 _ wI_ wB_ A2.1).mono ?_); rintro e w8 ⟨rfl, hi, hb, hk⟩; refine ⟨_, rfl, ?_⟩; replace BK337 := o_ (KeepBut.blk hk (g' := gb337) (o := c9_ 0 0 0 0 0) (bd_ BK337.1) NB337_0.1 (by simp)); replace HK := o_ (KeepBut.trans wK_ hk (.inl rfl)); replace HB := o_ (hb); replace HI0 := o_ (hi); (try clear hb hk hi)) | ((with_reducible refine g_ 104 ?_); refine gl_ (some 8) Try.func104 #[.pointer (some ⟨g, 0, none⟩), .int .i64 (wrap64 (1 + t338))] ?_; (with_reducible refine (spec_l4Draw.calls g s0_0 t339 t340 (wrap64 (1 + t338)) t341 t342 t343 t344 t345 t346 t347 w0 _ wI_ wB_ A3.1).mono ?_); rintro e w9 ⟨rfl, hi, hb, hk⟩; refine ⟨_, rfl, ?_⟩; replace BK337 := o_ (KeepBut.blk hk (g' := gb337) (o := c9_ 0 0 0 0 0) (bd_ BK337.1) NB337_0.1 (by simp)); replace HK := o_ (KeepBut.trans wK_ hk (.inl rfl)); replace HB := o_ (hb); replace HI0 := o_ (hi); (try clear hb hk hi)) | ((with_reducible refine gate_dst (N := 3) rfl ?_); refine bx_ 3 #[.int .i64 0, .int .i64 0, .int .i64 0, .int .i64 0, .int .i64 0] 56 ?_; intro gb348 hg w10 hbox hb; replace HB := o_ (below_step wB_ hb); have BK348 := o_ (hbox); have GW348 := o_ ((y232_ : w.heap.size ≤ gb348)); have GE348 := o_ ((Nat.le_trans HW0.1 (y232_ : w.heap.size ≤ gb348) : w0.heap.size ≤ gb348)); replace HK := o_ (KeepBut.trans wK_ (KeepBut.of_below hb g none) (.inl rfl)); have NB337_348 := o_ ((y234_ : gb337 ≠ gb348)); have NB348_337 := o_ ((y235_ : gb348 ≠ gb337)); replace BK337 := o_ (blk_below (bd_ BK337.1) hb); have NB0_348 := o_ ((y220_ : g ≠ gb348)); have NB348_0 := o_ ((y221_ : gb348 ≠ g)); replace HI0 := o_ (IsS102.below wI_ hb); clear hb hbox hg; have hnb11 := NB348_337.1; have hnc11 := NB337_348.1; have hnb12 := NB348_0.1; have hnc12 := NB0_348.1; obtain ⟨_, _, _, _, _⟩ := e2_ BK348.1; obtain ⟨_, _, _, _, _⟩ := z3_ BK348.1) | ((with_reducible refine g_ 84 ?_); refine gl_ (some 10) Try.func84 #[.pointer (some ⟨g, 0, none⟩), .int .i64 14] ?_; (with_reducible refine (spec_l1Below.calls g s0_0 t346 t347 14 t349 t350 t351 w0 _ wI_ wB_ A4.1).mono ?_); rintro e w94 ⟨rfl, hi, hb, hk⟩; refine ⟨_, rfl, ?_⟩; replace BK337 := o_ (KeepBut.blk hk (g' := gb337) (o := c9_ 0 0 0 0 0) (bk_ BK337.1) NB337_0.1 (by simp)); replace BK348 := o_ (KeepBut.blk hk (g' := gb348) (o := c9_ t341 t342 t343 t344 t345) (bk_ BK348.1) NB348_0.1 (by simp)); replace HK := o_ (KeepBut.trans wK_ hk (.inl rfl)); replace HB := o_ (hb); replace HI0 := o_ (hi); (try clear hb hk hi); obtain ⟨_, _, _, _, _⟩ := e2_ BK348.1; obtain ⟨_, _, _, _, _⟩ := z3_ BK348.1; have hnb96 := NB337_0.1; have hnc96 := NB0_337.1; obtain ⟨_, _, _, _, _⟩ := e2_ BK337.1; obtain ⟨_, _, _, _, _⟩ := z3_ BK337.1))
 have H := HH_.1
 clear HH_
 by_cases c5 : t349 = 0
 ·
  rw [if_pos c5] at H
  have c5b0 := beq_iff_eq.mpr c5
  have c5b1 := bne_eq_false_iff_eq.mpr c5
  clear c5
  obtain ⟨y352, hy352⟩ : ∃ y_ : List Int, y_ = (([0, 999, 1000] : List Int)) := ⟨_, rfl⟩
  replace H : ((spec_l1Int.f s0_0 t350 t351 y352).bind fun bt355 => (some (bt355.1, t342, t343, t344, t345, bt355.2.1, bt355.2.2))) = some (r1, r2, r3, r4, r5, r6, r7) := hy_ H hy352
  have Ny352 := o_ hy352
  clear hy352
  obtain ⟨⟨t355, t356, t357⟩, A6, H⟩ := ob_ H
  try dsimp only at H
  simp only [Option.some.injEq, Prod.mk.injEq] at H
  obtain ⟨rfl, rfl, rfl, rfl, rfl, rfl, rfl⟩ := H
  go_wp2_with (first | ((with_reducible refine gate_dst (N := 14) rfl ?_); refine Kd.R_lit (Kd.int .i64) _ 3 ?hg (N := 14) ?hd (xs := ([0, 999, 1000] : List Int)) (inner := [.int .i64 0, .int .i64 999, .int .i64 1000]) (ok := fun _ => True) (okp := fun _ => True) ?hr ?hp (fun _ hk => hk) trivial (Below.refl _ _) (Nat.le_refl _) (by simp) ?_; (case hd => rfl); (case hg => rfl); (case hr => first | (go_simp; done) | (go_simp; rfl)); (case hp => exact (Reps.one (show Kd.M (Kd.int .i64) _ _ _ 0 [.int .i64 0] from rfl) (Reps.one (show Kd.M (Kd.int .i64) _ _ _ 999 [.int .i64 999] from rfl) (Reps.one (show Kd.M (Kd.int .i64) _ _ _ 1000 [.int .i64 1000] from rfl) (Reps.none _ _))))); intro v353 w15 ho16 hb hg_ hnew_; clear hg_ hnew_; (first | rw [← Ny352.1] at ho16 | (simp only [Int.reduceToNat] at ho16; rw [← Ny352.1] at ho16)); have HO354 := o_ (Kd.R_lower ho16 (keep_size (w := w) (g := g) (row := none) wK_)); replace BK337 := o_ (blk_below (bd_ BK337.1) hb); replace BK348 := o_ (blk_below (bd_ BK348.1) hb); replace HK := o_ (KeepBut.trans wK_ (KeepBut.of_below hb g none) (.inl rfl)); replace HB := o_ (below_step (wB_) hb); replace HI0 := o_ (IsS102.below (wI_) hb); clear hb ho16; obtain ⟨Ao17, co17, eo17⟩ := Kd.R_slice HO354.1; subst eo17) | ((with_reducible refine g_ 85 ?_); refine gl_ (some 15) Try.func85 #[.pointer (some ⟨g, 0, none⟩), .slice Ao17 y352.length co17] ?_; (with_reducible refine (spec_l1Int.calls g s0_0 t350 t351 _ _ y352 t355 t356 t357 w0 _ wI_ wB_ (cd_ (Kd.R_reads' HO354.1).2.2) ((Kd.R_reads' HO354.1).2.1) ?side5 A6.1).mono ?_); (case side5 => exact far_slice (IsS102.own_ne HI0.1 HO354.1 (by decide))); rintro e w18 ⟨rfl, hi, hb, hk⟩; refine ⟨_, rfl, ?_⟩; replace BK337 := o_ (KeepBut.blk hk (g' := gb337) (o := c9_ 0 0 0 0 0) (bd_ BK337.1) NB337_0.1 (by simp)); replace BK348 := o_ (KeepBut.blk hk (g' := gb348) (o := c9_ t341 t342 t343 t344 t345) (bd_ BK348.1) NB348_0.1 (by simp)); replace HO354 := o_ (kp_ (show IsS102 w0 _ g s0_0 t350 t351 from wI_) (rd_ HO354.1) hk); replace HK := o_ (KeepBut.trans wK_ hk (.inl rfl)); replace HB := o_ (hb); replace HI0 := o_ (hi); (try clear hb hk hi); obtain ⟨_, _, _, _, _⟩ := e2_ BK348.1; obtain ⟨_, _, _, _, _⟩ := z3_ BK348.1; have hnb20 := NB337_0.1; have hnc20 := NB0_337.1; obtain ⟨_, _, _, _, _⟩ := e2_ BK337.1; obtain ⟨_, _, _, _, _⟩ := z3_ BK337.1))
  refine bodyPost_ret (results_cell_row rfl _ _ gb337 56 #[.int .i64 t355, .int .i64 t342, .int .i64 t343, .int .i64 t344, .int .i64 t345] (0, 0) _ rfl (bk_ BK337.1) Try.underlying56 rfl (by kernel_rfl)) rfl ?_
  exact ⟨rt_, wI_, wB_, wK_⟩
 ·
  rw [if_neg c5] at H
  have c5b0 := beq_eq_false_iff_ne.mpr c5
  have c5b1 := bne_iff_ne.mpr c5
  by_cases c22 : t349 = 1
  ·
   rw [if_pos c22] at H
   have c22b0 := beq_iff_eq.mpr c22
   have c22b1 := bne_eq_false_iff_eq.mpr c22
   clear c22
   obtain ⟨y358, hy358⟩ : ∃ y_ : List Int, y_ = (([0, 8, 9] : List Int)) := ⟨_, rfl⟩
   replace H : ((spec_l1Int.f s0_0 t350 t351 y358).bind fun bt361 => (some (t341, bt361.1, t343, t344, t345, bt361.2.1, bt361.2.2))) = some (r1, r2, r3, r4, r5, r6, r7) := hy_ H hy358
   have Ny358 := o_ hy358
   clear hy358
   obtain ⟨⟨t361, t362, t363⟩, A23, H⟩ := ob_ H
   try dsimp only at H
   simp only [Option.some.injEq, Prod.mk.injEq] at H
   obtain ⟨rfl, rfl, rfl, rfl, rfl, rfl, rfl⟩ := H
   go_wp2_with (first | ((with_reducible refine gate_dst (N := 20) rfl ?_); refine Kd.R_lit (Kd.int .i64) _ 3 ?hg (N := 20) ?hd (xs := ([0, 8, 9] : List Int)) (inner := [.int .i64 0, .int .i64 8, .int .i64 9]) (ok := fun _ => True) (okp := fun _ => True) ?hr ?hp (fun _ hk => hk) trivial (Below.refl _ _) (Nat.le_refl _) (by simp) ?_; (case hd => rfl); (case hg => rfl); (case hr => first | (go_simp; done) | (go_simp; rfl)); (case hp => exact (Reps.one (show Kd.M (Kd.int .i64) _ _ _ 0 [.int .i64 0] from rfl) (Reps.one (show Kd.M (Kd.int .i64) _ _ _ 8 [.int .i64 8] from rfl) (Reps.one (show Kd.M (Kd.int .i64) _ _ _ 9 [.int .i64 9] from rfl) (Reps.none _ _))))); intro v359 w32 ho33 hb hg_ hnew_; clear hg_ hnew_; (first | rw [← Ny358.1] at ho33 | (simp only [Int.reduceToNat] at ho33; rw [← Ny358.1] at ho33)); have HO360 := o_ (Kd.R_lower ho33 (keep_size (w := w) (g := g) (row := none) wK_)); replace BK337 := o_ (blk_below (bd_ BK337.1) hb); replace BK348 := o_ (blk_below (bd_ BK348.1) hb); replace HK := o_ (KeepBut.trans wK_ (KeepBut.of_below hb g none) (.inl rfl)); replace HB := o_ (below_step (wB_) hb); replace HI0 := o_ (IsS102.below (wI_) hb); clear hb ho33; obtain ⟨Ao34, co34, eo34⟩ := Kd.R_slice HO360.1; subst eo34) | ((with_reducible refine g_ 85 ?_); refine gl_ (some 21) Try.func85 #[.pointer (some ⟨g, 0, none⟩), .slice Ao34 y358.length co34] ?_; (with_reducible refine (spec_l1Int.calls g s0_0 t350 t351 _ _ y358 t361 t362 t363 w0 _ wI_ wB_ (cd_ (Kd.R_reads' HO360.1).2.2) ((Kd.R_reads' HO360.1).2.1) ?side5 A23.1).mono ?_); (case side5 => exact far_slice (IsS102.own_ne HI0.1 HO360.1 (by decide))); rintro e w35 ⟨rfl, hi, hb, hk⟩; refine ⟨_, rfl, ?_⟩; replace BK337 := o_ (KeepBut.blk hk (g' := gb337) (o := c9_ 0 0 0 0 0) (bd_ BK337.1) NB337_0.1 (by simp)); replace BK348 := o_ (KeepBut.blk hk (g' := gb348) (o := c9_ t341 t342 t343 t344 t345) (bd_ BK348.1) NB348_0.1 (by simp)); replace HO360 := o_ (kp_ (show IsS102 w0 _ g s0_0 t350 t351 from wI_) (rd_ HO360.1) hk); replace HK := o_ (KeepBut.trans wK_ hk (.inl rfl)); replace HB := o_ (hb); replace HI0 := o_ (hi); (try clear hb hk hi); obtain ⟨_, _, _, _, _⟩ := e2_ BK348.1; obtain ⟨_, _, _, _, _⟩ := z3_ BK348.1; have hnb37 := NB337_0.1; have hnc37 := NB0_337.1; obtain ⟨_, _, _, _, _⟩ := e2_ BK337.1; obtain ⟨_, _, _, _, _⟩ := z3_ BK337.1))
   refine bodyPost_ret (results_cell_row rfl _ _ gb337 56 #[.int .i64 t341, .int .i64 t361, .int .i64 t343, .int .i64 t344, .int .i64 t345] (0, 0) _ rfl (bk_ BK337.1) Try.underlying56 rfl (by kernel_rfl)) rfl ?_
   exact ⟨rt_, wI_, wB_, wK_⟩
  ·
   rw [if_neg c22] at H
   have c22b0 := beq_eq_false_iff_ne.mpr c22
   have c22b1 := bne_iff_ne.mpr c22
   by_cases c39 : t349 = 2
   ·
    rw [if_pos c39] at H
    have c39b0 := beq_iff_eq.mpr c39
    have c39b1 := bne_eq_false_iff_eq.mpr c39
    clear c39
    obtain ⟨y364, hy364⟩ : ∃ y_ : List Int, y_ = (([(-1), 7, 8] : List Int)) := ⟨_, rfl⟩
    replace H : ((spec_l1Int.f s0_0 t350 t351 y364).bind fun bt367 => (some (t341, t342, bt367.1, t344, t345, bt367.2.1, bt367.2.2))) = some (r1, r2, r3, r4, r5, r6, r7) := hy_ H hy364
    have Ny364 := o_ hy364
    clear hy364
    obtain ⟨⟨t367, t368, t369⟩, A40, H⟩ := ob_ H
    try dsimp only at H
    simp only [Option.some.injEq, Prod.mk.injEq] at H
    obtain ⟨rfl, rfl, rfl, rfl, rfl, rfl, rfl⟩ := H
    go_wp2_with (first | ((with_reducible refine gate_dst (N := 26) rfl ?_); refine Kd.R_lit (Kd.int .i64) _ 3 ?hg (N := 26) ?hd (xs := ([(-1), 7, 8] : List Int)) (inner := [.int .i64 (-1), .int .i64 7, .int .i64 8]) (ok := fun _ => True) (okp := fun _ => True) ?hr ?hp (fun _ hk => hk) trivial (Below.refl _ _) (Nat.le_refl _) (by simp) ?_; (case hd => rfl); (case hg => rfl); (case hr => first | (go_simp; done) | (go_simp; rfl)); (case hp => exact (Reps.one (show Kd.M (Kd.int .i64) _ _ _ (-1) [.int .i64 (-1)] from rfl) (Reps.one (show Kd.M (Kd.int .i64) _ _ _ 7 [.int .i64 7] from rfl) (Reps.one (show Kd.M (Kd.int .i64) _ _ _ 8 [.int .i64 8] from rfl) (Reps.none _ _))))); intro v365 w49 ho50 hb hg_ hnew_; clear hg_ hnew_; (first | rw [← Ny364.1] at ho50 | (simp only [Int.reduceToNat] at ho50; rw [← Ny364.1] at ho50)); have HO366 := o_ (Kd.R_lower ho50 (keep_size (w := w) (g := g) (row := none) wK_)); replace BK337 := o_ (blk_below (bd_ BK337.1) hb); replace BK348 := o_ (blk_below (bd_ BK348.1) hb); replace HK := o_ (KeepBut.trans wK_ (KeepBut.of_below hb g none) (.inl rfl)); replace HB := o_ (below_step (wB_) hb); replace HI0 := o_ (IsS102.below (wI_) hb); clear hb ho50; obtain ⟨Ao51, co51, eo51⟩ := Kd.R_slice HO366.1; subst eo51) | ((with_reducible refine g_ 85 ?_); refine gl_ (some 27) Try.func85 #[.pointer (some ⟨g, 0, none⟩), .slice Ao51 y364.length co51] ?_; (with_reducible refine (spec_l1Int.calls g s0_0 t350 t351 _ _ y364 t367 t368 t369 w0 _ wI_ wB_ (cd_ (Kd.R_reads' HO366.1).2.2) ((Kd.R_reads' HO366.1).2.1) ?side5 A40.1).mono ?_); (case side5 => exact far_slice (IsS102.own_ne HI0.1 HO366.1 (by decide))); rintro e w52 ⟨rfl, hi, hb, hk⟩; refine ⟨_, rfl, ?_⟩; replace BK337 := o_ (KeepBut.blk hk (g' := gb337) (o := c9_ 0 0 0 0 0) (bd_ BK337.1) NB337_0.1 (by simp)); replace BK348 := o_ (KeepBut.blk hk (g' := gb348) (o := c9_ t341 t342 t343 t344 t345) (bd_ BK348.1) NB348_0.1 (by simp)); replace HO366 := o_ (kp_ (show IsS102 w0 _ g s0_0 t350 t351 from wI_) (rd_ HO366.1) hk); replace HK := o_ (KeepBut.trans wK_ hk (.inl rfl)); replace HB := o_ (hb); replace HI0 := o_ (hi); (try clear hb hk hi); obtain ⟨_, _, _, _, _⟩ := e2_ BK348.1; obtain ⟨_, _, _, _, _⟩ := z3_ BK348.1; have hnb54 := NB337_0.1; have hnc54 := NB0_337.1; obtain ⟨_, _, _, _, _⟩ := e2_ BK337.1; obtain ⟨_, _, _, _, _⟩ := z3_ BK337.1))
    refine bodyPost_ret (results_cell_row rfl _ _ gb337 56 #[.int .i64 t341, .int .i64 t342, .int .i64 t367, .int .i64 t344, .int .i64 t345] (0, 0) _ rfl (bk_ BK337.1) Try.underlying56 rfl (by kernel_rfl)) rfl ?_
    exact ⟨rt_, wI_, wB_, wK_⟩
   ·
    rw [if_neg c39] at H
    have c39b0 := beq_eq_false_iff_ne.mpr c39
    have c39b1 := bne_iff_ne.mpr c39
    by_cases c56 : t349 = 3
    ·
     rw [if_pos c56] at H
     have c56b0 := beq_iff_eq.mpr c56
     have c56b1 := bne_eq_false_iff_eq.mpr c56
     clear c56
     obtain ⟨⟨t370, t371, t372⟩, A57, H⟩ := ob_ H
     try dsimp only at H
     simp only [Option.some.injEq, Prod.mk.injEq] at H
     obtain ⟨rfl, rfl, rfl, rfl, rfl, rfl, rfl⟩ := H
     go_wp2_with (first | ((with_reducible refine g_ 98 ?_); refine gl_ (some 32) Try.func98 #[.pointer (some ⟨g, 0, none⟩)] ?_; (with_reducible refine (spec_l4Raw.calls g s0_0 t350 t351 t370 t371 t372 w0 _ wI_ wB_ A57.1).mono ?_); rintro e w66 ⟨rfl, hi, hb, hk⟩; refine ⟨_, rfl, ?_⟩; replace BK337 := o_ (KeepBut.blk hk (g' := gb337) (o := c9_ 0 0 0 0 0) (bd_ BK337.1) NB337_0.1 (by simp)); replace BK348 := o_ (KeepBut.blk hk (g' := gb348) (o := c9_ t341 t342 t343 t344 t345) (bd_ BK348.1) NB348_0.1 (by simp)); replace HK := o_ (KeepBut.trans wK_ hk (.inl rfl)); replace HB := o_ (hb); replace HI0 := o_ (hi); (try clear hb hk hi); obtain ⟨_, _, _, _, _⟩ := e2_ BK348.1; obtain ⟨_, _, _, _, _⟩ := z3_ BK348.1; have hnb68 := NB337_0.1; have hnc68 := NB0_337.1; obtain ⟨_, _, _, _, _⟩ := e2_ BK337.1; obtain ⟨_, _, _, _, _⟩ := z3_ BK337.1))
     refine bodyPost_ret (results_cell_row rfl _ _ gb337 56 #[.int .i64 t341, .int .i64 t342, .int .i64 t343, .int .i64 t370, .int .i64 t345] (0, 0) _ rfl (bk_ BK337.1) Try.underlying56 rfl (by kernel_rfl)) rfl ?_
     exact ⟨rt_, wI_, wB_, wK_⟩
    ·
     rw [if_neg c56] at H
     have c56b0 := beq_eq_false_iff_ne.mpr c56
     have c56b1 := bne_iff_ne.mpr c56
     by_cases c70 : t349 = 4
     ·
      rw [if_pos c70] at H
      have c70b0 := beq_iff_eq.mpr c70
      have c70b1 := bne_eq_false_iff_eq.mpr c70
      clear c70
      obtain ⟨y373, hy373⟩ : ∃ y_ : List Int, y_ = (([(-1), 10000000, 10000001] : List Int)) := ⟨_, rfl⟩
      replace H : ((spec_l1Int.f s0_0 t350 t351 y373).bind fun bt376 => (some (t341, t342, t343, t344, bt376.1, bt376.2.1, bt376.2.2))) = some (r1, r2, r3, r4, r5, r6, r7) := hy_ H hy373
      have Ny373 := o_ hy373
      clear hy373
      obtain ⟨⟨t376, t377, t378⟩, A71, H⟩ := ob_ H
      try dsimp only at H
      simp only [Option.some.injEq, Prod.mk.injEq] at H
      obtain ⟨rfl, rfl, rfl, rfl, rfl, rfl, rfl⟩ := H
      go_wp2_with (first | ((with_reducible refine gate_dst (N := 37) rfl ?_); refine Kd.R_lit (Kd.int .i64) _ 3 ?hg (N := 37) ?hd (xs := ([(-1), 10000000, 10000001] : List Int)) (inner := [.int .i64 (-1), .int .i64 10000000, .int .i64 10000001]) (ok := fun _ => True) (okp := fun _ => True) ?hr ?hp (fun _ hk => hk) trivial (Below.refl _ _) (Nat.le_refl _) (by simp) ?_; (case hd => rfl); (case hg => rfl); (case hr => first | (go_simp; done) | (go_simp; rfl)); (case hp => exact (Reps.one (show Kd.M (Kd.int .i64) _ _ _ (-1) [.int .i64 (-1)] from rfl) (Reps.one (show Kd.M (Kd.int .i64) _ _ _ 10000000 [.int .i64 10000000] from rfl) (Reps.one (show Kd.M (Kd.int .i64) _ _ _ 10000001 [.int .i64 10000001] from rfl) (Reps.none _ _))))); intro v374 w80 ho81 hb hg_ hnew_; clear hg_ hnew_; (first | rw [← Ny373.1] at ho81 | (simp only [Int.reduceToNat] at ho81; rw [← Ny373.1] at ho81)); have HO375 := o_ (Kd.R_lower ho81 (keep_size (w := w) (g := g) (row := none) wK_)); replace BK337 := o_ (blk_below (bd_ BK337.1) hb); replace BK348 := o_ (blk_below (bd_ BK348.1) hb); replace HK := o_ (KeepBut.trans wK_ (KeepBut.of_below hb g none) (.inl rfl)); replace HB := o_ (below_step (wB_) hb); replace HI0 := o_ (IsS102.below (wI_) hb); clear hb ho81; obtain ⟨Ao82, co82, eo82⟩ := Kd.R_slice HO375.1; subst eo82) | ((with_reducible refine g_ 85 ?_); refine gl_ (some 38) Try.func85 #[.pointer (some ⟨g, 0, none⟩), .slice Ao82 y373.length co82] ?_; (with_reducible refine (spec_l1Int.calls g s0_0 t350 t351 _ _ y373 t376 t377 t378 w0 _ wI_ wB_ (cd_ (Kd.R_reads' HO375.1).2.2) ((Kd.R_reads' HO375.1).2.1) ?side5 A71.1).mono ?_); (case side5 => exact far_slice (IsS102.own_ne HI0.1 HO375.1 (by decide))); rintro e w83 ⟨rfl, hi, hb, hk⟩; refine ⟨_, rfl, ?_⟩; replace BK337 := o_ (KeepBut.blk hk (g' := gb337) (o := c9_ 0 0 0 0 0) (bd_ BK337.1) NB337_0.1 (by simp)); replace BK348 := o_ (KeepBut.blk hk (g' := gb348) (o := c9_ t341 t342 t343 t344 t345) (bd_ BK348.1) NB348_0.1 (by simp)); replace HO375 := o_ (kp_ (show IsS102 w0 _ g s0_0 t350 t351 from wI_) (rd_ HO375.1) hk); replace HK := o_ (KeepBut.trans wK_ hk (.inl rfl)); replace HB := o_ (hb); replace HI0 := o_ (hi); (try clear hb hk hi); obtain ⟨_, _, _, _, _⟩ := e2_ BK348.1; obtain ⟨_, _, _, _, _⟩ := z3_ BK348.1; have hnb85 := NB337_0.1; have hnc85 := NB0_337.1; obtain ⟨_, _, _, _, _⟩ := e2_ BK337.1; obtain ⟨_, _, _, _, _⟩ := z3_ BK337.1))
      refine bodyPost_ret (results_cell_row rfl _ _ gb337 56 #[.int .i64 t341, .int .i64 t342, .int .i64 t343, .int .i64 t344, .int .i64 t376] (0, 0) _ rfl (bk_ BK337.1) Try.underlying56 rfl (by kernel_rfl)) rfl ?_
      exact ⟨rt_, wI_, wB_, wK_⟩
     ·
      rw [if_neg c70] at H
      have c70b0 := beq_eq_false_iff_ne.mpr c70
      have c70b1 := bne_iff_ne.mpr c70
      simp only [Option.some.injEq, Prod.mk.injEq] at H
      obtain ⟨rfl, rfl, rfl, rfl, rfl, rfl, rfl⟩ := H
      go_wp2
      refine bodyPost_ret (results_cell_row rfl _ _ gb337 56 #[.int .i64 t341, .int .i64 t342, .int .i64 t343, .int .i64 t344, .int .i64 t345] (0, 0) _ rfl (bk_ BK337.1) Try.underlying56 rfl (by kernel_rfl)) rfl ?_
      exact ⟨rt_, wI_, wB_, wK_⟩

end Go.Proofs.Ytglpmjcknhcjcaa.PFnTwins
