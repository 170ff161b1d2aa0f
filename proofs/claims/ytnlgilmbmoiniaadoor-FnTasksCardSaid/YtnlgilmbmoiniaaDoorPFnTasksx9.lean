-- Written for this claim by a program (a printer turned to this claim); Lean checks it.
import Derived.Test.YtnlgilmbmoiniaaDoorPFnTasksx0
import Derived.Test.YtnlgilmbmoiniaaDoorPFnTasksx7
import Derived.Test.YtnlgilmbmoiniaaDoorPFnTasksx8
namespace Go.Proofs.YtnlgilmbmoiniaaDoor.PFnTasks
open Go.RowKit Go.Proofs.YtnlgilmbmoiniaaDoorW.PrintWords Go.Proofs.YtnlgilmbmoiniaaDoorW.PrintLast Go.Proofs.YtnlgilmbmoiniaaDoorW.PrintMore
attribute [local go_sem] max2_int min2_int max_two min_two max_three min_three max_four min_four   -- for this text's walks alone
set_option linter.unusedVariables false
set_option linter.unusedSimpArgs false

/-! ### impl_FateOf: function 30 -/
set_option maxHeartbeats 8000000 in
set_option maxRecDepth 100000 in
theorem impl_FateOf_cont.calls (p : S73 → Bool) (g : Nat) (lb : Array Value) (eg : ∀ args w, (callFunc g args).run Tryd.prog w = .ok (.enter g args) w) (A0 : Option Addr) (c0 : Nat) (l0 : List S73) (w : World) (hr0 : Kd.C k73 w A0 l0.length l0)
    (hp : ∀ (x : S73) (W : World), Below w.heap.size w W → Calls Tryd.prog g (#[.agg #[.int .i64 x.f0, .int .i64 x.f1, .int .i64 x.f2, .int .i64 x.f3, .int .i64 x.f4]] ++ lb) W fun e W' => e = .returned (.bool (p x)) ∧ Below W.heap.size W W') :
    Calls Tryd.prog 49 #[.slice A0 l0.length c0, .func (.func g) #[] lb] w fun e w' => e = .returned (.bool (decide (0 ≤ EvLib.idxB p l0 0))) ∧ Below w.heap.size w w' := by
  have HC := Aside0.mk (impl_Claim_71.calls p g lb eg A0 c0 l0 w hr0 hp)
  clear hr0 hp eg
  generalize EvLib.idxB p l0 0 = i at HC ⊢
  go_enter Tryd.func49, Tryd.ntmps49
  go_wp2_with (go_at_call 71; refine HC.out.mono ?_; rintro e w' ⟨rfl, hb⟩; have HB := Aside0.mk hb; clear hb)
  go_ret
  exact ⟨rfl, HB.out⟩
/-- An open claim to the thing of this id. -/
def impl_FateOf.p (id : Int) (x : S73) : Bool := decide (x.f2 = id) && decide (x.f4 = 0)
set_option maxHeartbeats 8000000 in
set_option maxRecDepth 100000 in
theorem impl_FateOf_1.calls (x : S73) (id : Int) (g : Nat) (w : World) (hc : w.cell? ⟨g, 0, none⟩ = some (.int .i64 id)) :
    Calls Tryd.prog 50 #[.agg #[.int .i64 x.f0, .int .i64 x.f1, .int .i64 x.f2, .int .i64 x.f3, .int .i64 x.f4], .pointer (some ⟨g, 0, none⟩)] w fun e w' => e = .returned (.bool (impl_FateOf.p id x)) ∧ Below w.heap.size w w' := by
  have huE := Tryd.underlying73
  have huT := Tryd.underlying36
  have hd : ∀ o, (w.alloc o).cell? ⟨g, 0, none⟩ = some (.int .i64 id) := fun o => pw_cell_below (below_alloc (Below.refl _ _) o) hc
  unfold impl_FateOf.p
  by_cases h1 : x.f2 = id
  · have hb1 : (x.f2 == id) = true := beq_iff_eq.2 h1
    have hd1 : decide (x.f2 = id) = true := decide_eq_true h1
    go_enter Tryd.func50, Tryd.ntmps50
    go_wp2
    go_ret
    exact ⟨by first | rfl | (simp [*]; done) | (simp [*]; (by_cases h4 : x.f4 = 0 <;> simp [h4])), below_alloc (Below.refl w.heap.size w) _⟩
  · have hb1 : (x.f2 == id) = false := beq_eq_false_iff_ne.2 h1
    have hd1 : decide (x.f2 = id) = false := decide_eq_false h1
    go_enter Tryd.func50, Tryd.ntmps50
    go_wp2
    go_ret
    exact ⟨by first | rfl | (simp [*]; done) | (simp [*]; (by_cases h4 : x.f4 = 0 <;> simp [h4])), below_alloc (Below.refl w.heap.size w) _⟩
/-- Behind the claims: what the thing itself says. -/
def impl_FateOf.tail (kind worth finder : Int) : Int := if kind = 7 then 5 else if worth = 0 then 5 else if finder = 0 then (if 5000 < worth then 3 else 4) else (if worth ≤ 5000 then 2 else 3)
def impl_FateOf.f (k : Nat) (a0_0 a0_1 a0_2 a0_3 a0_4 a0_5 a0_6 a0_7 : Int) (l1 : List S73) (a2 : Int) : Option Int := (impl_FirstProved.f k l1 a0_0).bind fun fp => if fp = 0 then ((impl_IsDue.f k a0_0 a0_1 a0_2 a0_3 a0_4 a0_5 a0_6 a0_7 a2).bind fun due => if due = true then (if 0 ≤ EvLib.idxB (impl_FateOf.p a0_0) l1 0 then some 0 else some (impl_FateOf.tail a0_1 a0_4 a0_7)) else some 0) else some 1
theorem impl_FateOf.mono : ∀ a0 a1 a2 a3 a4 a5 a6 a7 a8 a9 k, LeO (impl_FateOf.f k a0 a1 a2 a3 a4 a5 a6 a7 a8 a9) (impl_FateOf.f (k + 1) a0 a1 a2 a3 a4 a5 a6 a7 a8 a9) := by
  intro a0 a1 a2 a3 a4 a5 a6 a7 a8 a9 k
  unfold impl_FateOf.f
  refine LeO.bind (impl_FirstProved.mono _ _ _) (fun fp => ?_)
  split
  · exact LeO.bind (impl_IsDue.mono _ _ _ _ _ _ _ _ _ _) (fun _ => LeO.refl _)
  · exact LeO.refl _
set_option maxHeartbeats 8000000 in
set_option maxRecDepth 100000 in
theorem impl_FateOf.calls (k : Nat) (a0_0 : Int) (a0_1 : Int) (a0_2 : Int) (a0_3 : Int) (a0_4 : Int) (a0_5 : Int) (a0_6 : Int) (a0_7 : Int) (A1 : Option Addr) (c1 : Nat) (l1 : List S73) (a2 : Int) (r : Int) (w : World) (hr1 : Kd.C k73 w A1 l1.length l1) (hc1 : l1.length ≤ c1)
    (h : impl_FateOf.f k a0_0 a0_1 a0_2 a0_3 a0_4 a0_5 a0_6 a0_7 l1 a2 = some r) :
    Calls Tryd.prog 30 #[.agg #[.int .i64 a0_0, .int .i64 a0_1, .int .i64 a0_2, .int .i64 a0_3, .int .i64 a0_4, .int .i64 a0_5, .int .i64 a0_6, .int .i64 a0_7], .slice A1 l1.length c1, .int .i64 a2] w fun e w' => e = .returned (.int .i64 r) ∧ Below w.heap.size w w' := by
  have HR1 := Aside0.mk hr1
  have HC1 := Aside0.mk hc1
  clear hr1 hc1
  have huF := Tryd.underlying38
  have huT := Tryd.underlying36
  unfold impl_FateOf.f at h
  obtain ⟨fp, A1_, h⟩ := Option.bind_eq_some_iff.mp h
  have A1_ := Aside0.mk A1_
  have hbw : Below w.heap.size w ((w.alloc (.cells #[.int .i64 a0_0, .int .i64 a0_1, .int .i64 a0_2, .int .i64 a0_3, .int .i64 a0_4, .int .i64 a0_5, .int .i64 a0_6, .int .i64 a0_7] 38)).alloc (.cells #[.int .i64 a0_0, .int .i64 a0_1, .int .i64 a0_2, .int .i64 a0_3, .int .i64 a0_4] 36)) := below_alloc (below_alloc (Below.refl w.heap.size w) _) _
  have HB := Aside0.mk hbw
  have HR := Aside0.mk (Kd.C_below HR1.out HB.out)
  have hf0 : ((w.alloc (.cells #[.int .i64 a0_0, .int .i64 a0_1, .int .i64 a0_2, .int .i64 a0_3, .int .i64 a0_4, .int .i64 a0_5, .int .i64 a0_6, .int .i64 a0_7] 38)).alloc (.cells #[.int .i64 a0_0, .int .i64 a0_1, .int .i64 a0_2, .int .i64 a0_3, .int .i64 a0_4] 36)).cell? ⟨w.heap.size, 0, none⟩ = some (.int .i64 a0_0) := by simp
  have hf1 : ((w.alloc (.cells #[.int .i64 a0_0, .int .i64 a0_1, .int .i64 a0_2, .int .i64 a0_3, .int .i64 a0_4, .int .i64 a0_5, .int .i64 a0_6, .int .i64 a0_7] 38)).alloc (.cells #[.int .i64 a0_0, .int .i64 a0_1, .int .i64 a0_2, .int .i64 a0_3, .int .i64 a0_4] 36)).cell? ⟨w.heap.size, 1, none⟩ = some (.int .i64 a0_1) := by simp
  have hf2 : ((w.alloc (.cells #[.int .i64 a0_0, .int .i64 a0_1, .int .i64 a0_2, .int .i64 a0_3, .int .i64 a0_4, .int .i64 a0_5, .int .i64 a0_6, .int .i64 a0_7] 38)).alloc (.cells #[.int .i64 a0_0, .int .i64 a0_1, .int .i64 a0_2, .int .i64 a0_3, .int .i64 a0_4] 36)).cell? ⟨w.heap.size, 2, none⟩ = some (.int .i64 a0_2) := by simp
  have hf3 : ((w.alloc (.cells #[.int .i64 a0_0, .int .i64 a0_1, .int .i64 a0_2, .int .i64 a0_3, .int .i64 a0_4, .int .i64 a0_5, .int .i64 a0_6, .int .i64 a0_7] 38)).alloc (.cells #[.int .i64 a0_0, .int .i64 a0_1, .int .i64 a0_2, .int .i64 a0_3, .int .i64 a0_4] 36)).cell? ⟨w.heap.size, 3, none⟩ = some (.int .i64 a0_3) := by simp
  have hf4 : ((w.alloc (.cells #[.int .i64 a0_0, .int .i64 a0_1, .int .i64 a0_2, .int .i64 a0_3, .int .i64 a0_4, .int .i64 a0_5, .int .i64 a0_6, .int .i64 a0_7] 38)).alloc (.cells #[.int .i64 a0_0, .int .i64 a0_1, .int .i64 a0_2, .int .i64 a0_3, .int .i64 a0_4] 36)).cell? ⟨w.heap.size, 4, none⟩ = some (.int .i64 a0_4) := by simp
  have hf5 : ((w.alloc (.cells #[.int .i64 a0_0, .int .i64 a0_1, .int .i64 a0_2, .int .i64 a0_3, .int .i64 a0_4, .int .i64 a0_5, .int .i64 a0_6, .int .i64 a0_7] 38)).alloc (.cells #[.int .i64 a0_0, .int .i64 a0_1, .int .i64 a0_2, .int .i64 a0_3, .int .i64 a0_4] 36)).cell? ⟨w.heap.size, 5, none⟩ = some (.int .i64 a0_5) := by simp
  have hf6 : ((w.alloc (.cells #[.int .i64 a0_0, .int .i64 a0_1, .int .i64 a0_2, .int .i64 a0_3, .int .i64 a0_4, .int .i64 a0_5, .int .i64 a0_6, .int .i64 a0_7] 38)).alloc (.cells #[.int .i64 a0_0, .int .i64 a0_1, .int .i64 a0_2, .int .i64 a0_3, .int .i64 a0_4] 36)).cell? ⟨w.heap.size, 6, none⟩ = some (.int .i64 a0_6) := by simp
  have hf7 : ((w.alloc (.cells #[.int .i64 a0_0, .int .i64 a0_1, .int .i64 a0_2, .int .i64 a0_3, .int .i64 a0_4, .int .i64 a0_5, .int .i64 a0_6, .int .i64 a0_7] 38)).alloc (.cells #[.int .i64 a0_0, .int .i64 a0_1, .int .i64 a0_2, .int .i64 a0_3, .int .i64 a0_4] 36)).cell? ⟨w.heap.size, 7, none⟩ = some (.int .i64 a0_7) := by simp
  have ht0 : ((w.alloc (.cells #[.int .i64 a0_0, .int .i64 a0_1, .int .i64 a0_2, .int .i64 a0_3, .int .i64 a0_4, .int .i64 a0_5, .int .i64 a0_6, .int .i64 a0_7] 38)).alloc (.cells #[.int .i64 a0_0, .int .i64 a0_1, .int .i64 a0_2, .int .i64 a0_3, .int .i64 a0_4] 36)).cell? ⟨w.heap.size + 1, 0, none⟩ = some (.int .i64 a0_0) := by simp
  have ht1 : ((w.alloc (.cells #[.int .i64 a0_0, .int .i64 a0_1, .int .i64 a0_2, .int .i64 a0_3, .int .i64 a0_4, .int .i64 a0_5, .int .i64 a0_6, .int .i64 a0_7] 38)).alloc (.cells #[.int .i64 a0_0, .int .i64 a0_1, .int .i64 a0_2, .int .i64 a0_3, .int .i64 a0_4] 36)).cell? ⟨w.heap.size + 1, 1, none⟩ = some (.int .i64 a0_1) := by simp
  have ht2 : ((w.alloc (.cells #[.int .i64 a0_0, .int .i64 a0_1, .int .i64 a0_2, .int .i64 a0_3, .int .i64 a0_4, .int .i64 a0_5, .int .i64 a0_6, .int .i64 a0_7] 38)).alloc (.cells #[.int .i64 a0_0, .int .i64 a0_1, .int .i64 a0_2, .int .i64 a0_3, .int .i64 a0_4] 36)).cell? ⟨w.heap.size + 1, 2, none⟩ = some (.int .i64 a0_2) := by simp
  have ht3 : ((w.alloc (.cells #[.int .i64 a0_0, .int .i64 a0_1, .int .i64 a0_2, .int .i64 a0_3, .int .i64 a0_4, .int .i64 a0_5, .int .i64 a0_6, .int .i64 a0_7] 38)).alloc (.cells #[.int .i64 a0_0, .int .i64 a0_1, .int .i64 a0_2, .int .i64 a0_3, .int .i64 a0_4] 36)).cell? ⟨w.heap.size + 1, 3, none⟩ = some (.int .i64 a0_3) := by simp
  have ht4 : ((w.alloc (.cells #[.int .i64 a0_0, .int .i64 a0_1, .int .i64 a0_2, .int .i64 a0_3, .int .i64 a0_4, .int .i64 a0_5, .int .i64 a0_6, .int .i64 a0_7] 38)).alloc (.cells #[.int .i64 a0_0, .int .i64 a0_1, .int .i64 a0_2, .int .i64 a0_3, .int .i64 a0_4] 36)).cell? ⟨w.heap.size + 1, 4, none⟩ = some (.int .i64 a0_4) := by simp
  have HF0 := Aside0.mk hf0
  have HF1 := Aside0.mk hf1
  have HF2 := Aside0.mk hf2
  have HF3 := Aside0.mk hf3
  have HF4 := Aside0.mk hf4
  have HF5 := Aside0.mk hf5
  have HF6 := Aside0.mk hf6
  have HF7 := Aside0.mk hf7
  have HT0 := Aside0.mk ht0
  have HT1 := Aside0.mk ht1
  have HT2 := Aside0.mk ht2
  have HT3 := Aside0.mk ht3
  have HT4 := Aside0.mk ht4
  clear hbw hf0 hf1 hf2 hf3 hf4 hf5 hf6 hf7 ht0 ht1 ht2 ht3 ht4
  have eg : ∀ args w, (callFunc 50 args).run Tryd.prog w = .ok (.enter 50 args) w := enters_of Tryd.func50 (by kernel_rfl) rfl
  have HCT : ∀ W : World, Kd.C k73 W A1 l1.length l1 → W.cell? ⟨w.heap.size + 1, 0, none⟩ = some (.int .i64 a0_0) → Calls Tryd.prog 49 #[.slice A1 l1.length c1, .func (.func 50) #[] #[.pointer (some ⟨w.heap.size + 1, 0, none⟩)]] W fun e w' => e = .returned (.bool (decide (0 ≤ EvLib.idxB (impl_FateOf.p a0_0) l1 0))) ∧ Below W.heap.size W w' :=
    fun W hC hc => impl_FateOf_cont.calls (impl_FateOf.p a0_0) 50 #[.pointer (some ⟨w.heap.size + 1, 0, none⟩)] eg A1 c1 l1 W hC (fun x V hb => impl_FateOf_1.calls x a0_0 (w.heap.size + 1) V (pw_cell_below hb hc))
  clear eg
  generalize EvLib.idxB (impl_FateOf.p a0_0) l1 0 = q at HCT h
  have HCT := Aside0.mk HCT
  by_cases c0 : fp = 0
  · subst c0
    rw [if_pos rfl] at h
    obtain ⟨due, A2_, h⟩ := Option.bind_eq_some_iff.mp h
    have A2_ := Aside0.mk A2_
    cases due with
    | false =>
      rw [if_neg (by simp)] at h
      obtain rfl := Option.some.inj h
      clear h HCT
      go_enter Tryd.func30, Tryd.ntmps30
      go_wp2_with (first | (go_at_call 47; refine (impl_FirstProved.calls k A1 c1 l1 a0_0 0 _ HR.out HC1.out A1_.out).mono ?_; rintro e w1 ⟨rfl, hb⟩; have hf0 := pw_cell_below hb HF0.out; have hf1 := pw_cell_below hb HF1.out; have hf2 := pw_cell_below hb HF2.out; have hf3 := pw_cell_below hb HF3.out; have hf4 := pw_cell_below hb HF4.out; have hf5 := pw_cell_below hb HF5.out; have hf6 := pw_cell_below hb HF6.out; have hf7 := pw_cell_below hb HF7.out; have ht0 := pw_cell_below hb HT0.out; have ht1 := pw_cell_below hb HT1.out; have ht2 := pw_cell_below hb HT2.out; have ht3 := pw_cell_below hb HT3.out; have ht4 := pw_cell_below hb HT4.out; have n_ := Aside0.mk (below_step HB.out hb); have m_ := Aside0.mk (Kd.C_below HR.out hb); clear HB HR; have HB := n_; have HR := m_; clear n_ m_; clear hb) | (go_at_call 48; refine (impl_IsDue.calls k a0_0 a0_1 a0_2 a0_3 a0_4 a0_5 a0_6 a0_7 a2 false _ A2_.out).mono ?_; rintro e w2 ⟨rfl, hb⟩; replace hf0 := pw_cell_below hb hf0; replace hf1 := pw_cell_below hb hf1; replace hf2 := pw_cell_below hb hf2; replace hf3 := pw_cell_below hb hf3; replace hf4 := pw_cell_below hb hf4; replace hf5 := pw_cell_below hb hf5; replace hf6 := pw_cell_below hb hf6; replace hf7 := pw_cell_below hb hf7; replace ht0 := pw_cell_below hb ht0; replace ht1 := pw_cell_below hb ht1; replace ht2 := pw_cell_below hb ht2; replace ht3 := pw_cell_below hb ht3; replace ht4 := pw_cell_below hb ht4; have n_ := Aside0.mk (below_step HB.out hb); have m_ := Aside0.mk (Kd.C_below HR.out hb); clear HB HR; have HB := n_; have HR := m_; clear n_ m_; clear hb))
      go_ret
      exact ⟨rfl, HB.out⟩
    | true =>
      rw [if_pos rfl] at h
      by_cases hq : 0 ≤ q
      · rw [if_pos hq] at h
        obtain rfl := Option.some.inj h
        clear h
        have hqb : decide (0 ≤ q) = true := decide_eq_true hq
        replace hq := eq_true hq
        go_enter Tryd.func30, Tryd.ntmps30
        go_wp2_with (first | (go_at_call 47; refine (impl_FirstProved.calls k A1 c1 l1 a0_0 0 _ HR.out HC1.out A1_.out).mono ?_; rintro e w1 ⟨rfl, hb⟩; have hf0 := pw_cell_below hb HF0.out; have hf1 := pw_cell_below hb HF1.out; have hf2 := pw_cell_below hb HF2.out; have hf3 := pw_cell_below hb HF3.out; have hf4 := pw_cell_below hb HF4.out; have hf5 := pw_cell_below hb HF5.out; have hf6 := pw_cell_below hb HF6.out; have hf7 := pw_cell_below hb HF7.out; have ht0 := pw_cell_below hb HT0.out; have ht1 := pw_cell_below hb HT1.out; have ht2 := pw_cell_below hb HT2.out; have ht3 := pw_cell_below hb HT3.out; have ht4 := pw_cell_below hb HT4.out; have n_ := Aside0.mk (below_step HB.out hb); have m_ := Aside0.mk (Kd.C_below HR.out hb); clear HB HR; have HB := n_; have HR := m_; clear n_ m_; clear hb) | (go_at_call 48; refine (impl_IsDue.calls k a0_0 a0_1 a0_2 a0_3 a0_4 a0_5 a0_6 a0_7 a2 true _ A2_.out).mono ?_; rintro e w2 ⟨rfl, hb⟩; replace hf0 := pw_cell_below hb hf0; replace hf1 := pw_cell_below hb hf1; replace hf2 := pw_cell_below hb hf2; replace hf3 := pw_cell_below hb hf3; replace hf4 := pw_cell_below hb hf4; replace hf5 := pw_cell_below hb hf5; replace hf6 := pw_cell_below hb hf6; replace hf7 := pw_cell_below hb hf7; replace ht0 := pw_cell_below hb ht0; replace ht1 := pw_cell_below hb ht1; replace ht2 := pw_cell_below hb ht2; replace ht3 := pw_cell_below hb ht3; replace ht4 := pw_cell_below hb ht4; have n_ := Aside0.mk (below_step HB.out hb); have m_ := Aside0.mk (Kd.C_below HR.out hb); clear HB HR; have HB := n_; have HR := m_; clear n_ m_; clear hb) | (go_at_call 49; refine (HCT.out _ HR.out ht0).mono ?_; rintro e w3 ⟨rfl, hb⟩; replace hf0 := pw_cell_below hb hf0; replace hf1 := pw_cell_below hb hf1; replace hf2 := pw_cell_below hb hf2; replace hf3 := pw_cell_below hb hf3; replace hf4 := pw_cell_below hb hf4; replace hf5 := pw_cell_below hb hf5; replace hf6 := pw_cell_below hb hf6; replace hf7 := pw_cell_below hb hf7; replace ht0 := pw_cell_below hb ht0; replace ht1 := pw_cell_below hb ht1; replace ht2 := pw_cell_below hb ht2; replace ht3 := pw_cell_below hb ht3; replace ht4 := pw_cell_below hb ht4; have n_ := Aside0.mk (below_step HB.out hb); have m_ := Aside0.mk (Kd.C_below HR.out hb); clear HB HR; have HB := n_; have HR := m_; clear n_ m_; clear hb))
        go_ret
        exact ⟨rfl, HB.out⟩
      · rw [if_neg hq] at h
        have hqb : decide (0 ≤ q) = false := decide_eq_false hq
        replace hq := eq_false hq
        by_cases k7 : a0_1 = 7
        · skip
          have k7a : (a0_1 == 7) = true := beq_iff_eq.2 k7
          have k7b : (a0_1 != 7) = false := by simp [k7]
          have k7c : decide (a0_1 = 7) = true := decide_eq_true k7
          have ht_ : impl_FateOf.tail a0_1 a0_4 a0_7 = 5 := by unfold impl_FateOf.tail; rw [if_pos k7]
          rw [ht_] at h
          obtain rfl := Option.some.inj h
          clear h ht_
          replace k7 := eq_true k7
          go_enter Tryd.func30, Tryd.ntmps30
          go_wp2_with (first | (go_at_call 47; refine (impl_FirstProved.calls k A1 c1 l1 a0_0 0 _ HR.out HC1.out A1_.out).mono ?_; rintro e w1 ⟨rfl, hb⟩; have hf0 := pw_cell_below hb HF0.out; have hf1 := pw_cell_below hb HF1.out; have hf2 := pw_cell_below hb HF2.out; have hf3 := pw_cell_below hb HF3.out; have hf4 := pw_cell_below hb HF4.out; have hf5 := pw_cell_below hb HF5.out; have hf6 := pw_cell_below hb HF6.out; have hf7 := pw_cell_below hb HF7.out; have ht0 := pw_cell_below hb HT0.out; have ht1 := pw_cell_below hb HT1.out; have ht2 := pw_cell_below hb HT2.out; have ht3 := pw_cell_below hb HT3.out; have ht4 := pw_cell_below hb HT4.out; have n_ := Aside0.mk (below_step HB.out hb); have m_ := Aside0.mk (Kd.C_below HR.out hb); clear HB HR; have HB := n_; have HR := m_; clear n_ m_; clear hb) | (go_at_call 48; refine (impl_IsDue.calls k a0_0 a0_1 a0_2 a0_3 a0_4 a0_5 a0_6 a0_7 a2 true _ A2_.out).mono ?_; rintro e w2 ⟨rfl, hb⟩; replace hf0 := pw_cell_below hb hf0; replace hf1 := pw_cell_below hb hf1; replace hf2 := pw_cell_below hb hf2; replace hf3 := pw_cell_below hb hf3; replace hf4 := pw_cell_below hb hf4; replace hf5 := pw_cell_below hb hf5; replace hf6 := pw_cell_below hb hf6; replace hf7 := pw_cell_below hb hf7; replace ht0 := pw_cell_below hb ht0; replace ht1 := pw_cell_below hb ht1; replace ht2 := pw_cell_below hb ht2; replace ht3 := pw_cell_below hb ht3; replace ht4 := pw_cell_below hb ht4; have n_ := Aside0.mk (below_step HB.out hb); have m_ := Aside0.mk (Kd.C_below HR.out hb); clear HB HR; have HB := n_; have HR := m_; clear n_ m_; clear hb) | (go_at_call 49; refine (HCT.out _ HR.out ht0).mono ?_; rintro e w3 ⟨rfl, hb⟩; replace hf0 := pw_cell_below hb hf0; replace hf1 := pw_cell_below hb hf1; replace hf2 := pw_cell_below hb hf2; replace hf3 := pw_cell_below hb hf3; replace hf4 := pw_cell_below hb hf4; replace hf5 := pw_cell_below hb hf5; replace hf6 := pw_cell_below hb hf6; replace hf7 := pw_cell_below hb hf7; replace ht0 := pw_cell_below hb ht0; replace ht1 := pw_cell_below hb ht1; replace ht2 := pw_cell_below hb ht2; replace ht3 := pw_cell_below hb ht3; replace ht4 := pw_cell_below hb ht4; have n_ := Aside0.mk (below_step HB.out hb); have m_ := Aside0.mk (Kd.C_below HR.out hb); clear HB HR; have HB := n_; have HR := m_; clear n_ m_; clear hb))
          go_ret
          exact ⟨rfl, HB.out⟩
        · skip
          have k7a : (a0_1 == 7) = false := beq_eq_false_iff_ne.2 k7
          have k7b : (a0_1 != 7) = true := by simp [k7]
          have k7c : decide (a0_1 = 7) = false := decide_eq_false k7
          by_cases z0 : a0_4 = 0
          · skip
            have z0a : (a0_4 == 0) = true := beq_iff_eq.2 z0
            have z0b : (a0_4 != 0) = false := by simp [z0]
            have z0c : decide (a0_4 = 0) = true := decide_eq_true z0
            have ht_ : impl_FateOf.tail a0_1 a0_4 a0_7 = 5 := by unfold impl_FateOf.tail; rw [if_neg k7, if_pos z0]
            rw [ht_] at h
            obtain rfl := Option.some.inj h
            clear h ht_
            replace k7 := eq_false k7
            replace z0 := eq_true z0
            go_enter Tryd.func30, Tryd.ntmps30
            go_wp2_with (first | (go_at_call 47; refine (impl_FirstProved.calls k A1 c1 l1 a0_0 0 _ HR.out HC1.out A1_.out).mono ?_; rintro e w1 ⟨rfl, hb⟩; have hf0 := pw_cell_below hb HF0.out; have hf1 := pw_cell_below hb HF1.out; have hf2 := pw_cell_below hb HF2.out; have hf3 := pw_cell_below hb HF3.out; have hf4 := pw_cell_below hb HF4.out; have hf5 := pw_cell_below hb HF5.out; have hf6 := pw_cell_below hb HF6.out; have hf7 := pw_cell_below hb HF7.out; have ht0 := pw_cell_below hb HT0.out; have ht1 := pw_cell_below hb HT1.out; have ht2 := pw_cell_below hb HT2.out; have ht3 := pw_cell_below hb HT3.out; have ht4 := pw_cell_below hb HT4.out; have n_ := Aside0.mk (below_step HB.out hb); have m_ := Aside0.mk (Kd.C_below HR.out hb); clear HB HR; have HB := n_; have HR := m_; clear n_ m_; clear hb) | (go_at_call 48; refine (impl_IsDue.calls k a0_0 a0_1 a0_2 a0_3 a0_4 a0_5 a0_6 a0_7 a2 true _ A2_.out).mono ?_; rintro e w2 ⟨rfl, hb⟩; replace hf0 := pw_cell_below hb hf0; replace hf1 := pw_cell_below hb hf1; replace hf2 := pw_cell_below hb hf2; replace hf3 := pw_cell_below hb hf3; replace hf4 := pw_cell_below hb hf4; replace hf5 := pw_cell_below hb hf5; replace hf6 := pw_cell_below hb hf6; replace hf7 := pw_cell_below hb hf7; replace ht0 := pw_cell_below hb ht0; replace ht1 := pw_cell_below hb ht1; replace ht2 := pw_cell_below hb ht2; replace ht3 := pw_cell_below hb ht3; replace ht4 := pw_cell_below hb ht4; have n_ := Aside0.mk (below_step HB.out hb); have m_ := Aside0.mk (Kd.C_below HR.out hb); clear HB HR; have HB := n_; have HR := m_; clear n_ m_; clear hb) | (go_at_call 49; refine (HCT.out _ HR.out ht0).mono ?_; rintro e w3 ⟨rfl, hb⟩; replace hf0 := pw_cell_below hb hf0; replace hf1 := pw_cell_below hb hf1; replace hf2 := pw_cell_below hb hf2; replace hf3 := pw_cell_below hb hf3; replace hf4 := pw_cell_below hb hf4; replace hf5 := pw_cell_below hb hf5; replace hf6 := pw_cell_below hb hf6; replace hf7 := pw_cell_below hb hf7; replace ht0 := pw_cell_below hb ht0; replace ht1 := pw_cell_below hb ht1; replace ht2 := pw_cell_below hb ht2; replace ht3 := pw_cell_below hb ht3; replace ht4 := pw_cell_below hb ht4; have n_ := Aside0.mk (below_step HB.out hb); have m_ := Aside0.mk (Kd.C_below HR.out hb); clear HB HR; have HB := n_; have HR := m_; clear n_ m_; clear hb))
            go_ret
            exact ⟨rfl, HB.out⟩
          · skip
            have z0a : (a0_4 == 0) = false := beq_eq_false_iff_ne.2 z0
            have z0b : (a0_4 != 0) = true := by simp [z0]
            have z0c : decide (a0_4 = 0) = false := decide_eq_false z0
            by_cases w5 : 5000 < a0_4
            · skip
              have w5a : decide (5000 < a0_4) = true := decide_eq_true w5
              have w5b : decide (a0_4 ≤ 5000) = false := decide_eq_false (by omega)
              have w5c : (a0_4 ≤ 5000) = False := eq_false (by omega)
              by_cases n0 : a0_7 = 0
              · skip
                have n0a : (a0_7 == 0) = true := beq_iff_eq.2 n0
                have n0b : (a0_7 != 0) = false := by simp [n0]
                have n0c : decide (a0_7 = 0) = true := decide_eq_true n0
                have ht_ : impl_FateOf.tail a0_1 a0_4 a0_7 = 3 := by unfold impl_FateOf.tail; rw [if_neg k7, if_neg z0, if_pos n0, if_pos w5]
                rw [ht_] at h
                obtain rfl := Option.some.inj h
                clear h ht_
                replace k7 := eq_false k7
                replace z0 := eq_false z0
                replace w5 := eq_true w5
                replace n0 := eq_true n0
                go_enter Tryd.func30, Tryd.ntmps30
                go_wp2_with (first | (go_at_call 47; refine (impl_FirstProved.calls k A1 c1 l1 a0_0 0 _ HR.out HC1.out A1_.out).mono ?_; rintro e w1 ⟨rfl, hb⟩; have hf0 := pw_cell_below hb HF0.out; have hf1 := pw_cell_below hb HF1.out; have hf2 := pw_cell_below hb HF2.out; have hf3 := pw_cell_below hb HF3.out; have hf4 := pw_cell_below hb HF4.out; have hf5 := pw_cell_below hb HF5.out; have hf6 := pw_cell_below hb HF6.out; have hf7 := pw_cell_below hb HF7.out; have ht0 := pw_cell_below hb HT0.out; have ht1 := pw_cell_below hb HT1.out; have ht2 := pw_cell_below hb HT2.out; have ht3 := pw_cell_below hb HT3.out; have ht4 := pw_cell_below hb HT4.out; have n_ := Aside0.mk (below_step HB.out hb); have m_ := Aside0.mk (Kd.C_below HR.out hb); clear HB HR; have HB := n_; have HR := m_; clear n_ m_; clear hb) | (go_at_call 48; refine (impl_IsDue.calls k a0_0 a0_1 a0_2 a0_3 a0_4 a0_5 a0_6 a0_7 a2 true _ A2_.out).mono ?_; rintro e w2 ⟨rfl, hb⟩; replace hf0 := pw_cell_below hb hf0; replace hf1 := pw_cell_below hb hf1; replace hf2 := pw_cell_below hb hf2; replace hf3 := pw_cell_below hb hf3; replace hf4 := pw_cell_below hb hf4; replace hf5 := pw_cell_below hb hf5; replace hf6 := pw_cell_below hb hf6; replace hf7 := pw_cell_below hb hf7; replace ht0 := pw_cell_below hb ht0; replace ht1 := pw_cell_below hb ht1; replace ht2 := pw_cell_below hb ht2; replace ht3 := pw_cell_below hb ht3; replace ht4 := pw_cell_below hb ht4; have n_ := Aside0.mk (below_step HB.out hb); have m_ := Aside0.mk (Kd.C_below HR.out hb); clear HB HR; have HB := n_; have HR := m_; clear n_ m_; clear hb) | (go_at_call 49; refine (HCT.out _ HR.out ht0).mono ?_; rintro e w3 ⟨rfl, hb⟩; replace hf0 := pw_cell_below hb hf0; replace hf1 := pw_cell_below hb hf1; replace hf2 := pw_cell_below hb hf2; replace hf3 := pw_cell_below hb hf3; replace hf4 := pw_cell_below hb hf4; replace hf5 := pw_cell_below hb hf5; replace hf6 := pw_cell_below hb hf6; replace hf7 := pw_cell_below hb hf7; replace ht0 := pw_cell_below hb ht0; replace ht1 := pw_cell_below hb ht1; replace ht2 := pw_cell_below hb ht2; replace ht3 := pw_cell_below hb ht3; replace ht4 := pw_cell_below hb ht4; have n_ := Aside0.mk (below_step HB.out hb); have m_ := Aside0.mk (Kd.C_below HR.out hb); clear HB HR; have HB := n_; have HR := m_; clear n_ m_; clear hb))
                go_ret
                exact ⟨rfl, HB.out⟩
              · skip
                have n0a : (a0_7 == 0) = false := beq_eq_false_iff_ne.2 n0
                have n0b : (a0_7 != 0) = true := by simp [n0]
                have n0c : decide (a0_7 = 0) = false := decide_eq_false n0
                have ht_ : impl_FateOf.tail a0_1 a0_4 a0_7 = 3 := by unfold impl_FateOf.tail; rw [if_neg k7, if_neg z0, if_neg n0, if_neg (by omega)]
                rw [ht_] at h
                obtain rfl := Option.some.inj h
                clear h ht_
                replace k7 := eq_false k7
                replace z0 := eq_false z0
                replace w5 := eq_true w5
                replace n0 := eq_false n0
                go_enter Tryd.func30, Tryd.ntmps30
                go_wp2_with (first | (go_at_call 47; refine (impl_FirstProved.calls k A1 c1 l1 a0_0 0 _ HR.out HC1.out A1_.out).mono ?_; rintro e w1 ⟨rfl, hb⟩; have hf0 := pw_cell_below hb HF0.out; have hf1 := pw_cell_below hb HF1.out; have hf2 := pw_cell_below hb HF2.out; have hf3 := pw_cell_below hb HF3.out; have hf4 := pw_cell_below hb HF4.out; have hf5 := pw_cell_below hb HF5.out; have hf6 := pw_cell_below hb HF6.out; have hf7 := pw_cell_below hb HF7.out; have ht0 := pw_cell_below hb HT0.out; have ht1 := pw_cell_below hb HT1.out; have ht2 := pw_cell_below hb HT2.out; have ht3 := pw_cell_below hb HT3.out; have ht4 := pw_cell_below hb HT4.out; have n_ := Aside0.mk (below_step HB.out hb); have m_ := Aside0.mk (Kd.C_below HR.out hb); clear HB HR; have HB := n_; have HR := m_; clear n_ m_; clear hb) | (go_at_call 48; refine (impl_IsDue.calls k a0_0 a0_1 a0_2 a0_3 a0_4 a0_5 a0_6 a0_7 a2 true _ A2_.out).mono ?_; rintro e w2 ⟨rfl, hb⟩; replace hf0 := pw_cell_below hb hf0; replace hf1 := pw_cell_below hb hf1; replace hf2 := pw_cell_below hb hf2; replace hf3 := pw_cell_below hb hf3; replace hf4 := pw_cell_below hb hf4; replace hf5 := pw_cell_below hb hf5; replace hf6 := pw_cell_below hb hf6; replace hf7 := pw_cell_below hb hf7; replace ht0 := pw_cell_below hb ht0; replace ht1 := pw_cell_below hb ht1; replace ht2 := pw_cell_below hb ht2; replace ht3 := pw_cell_below hb ht3; replace ht4 := pw_cell_below hb ht4; have n_ := Aside0.mk (below_step HB.out hb); have m_ := Aside0.mk (Kd.C_below HR.out hb); clear HB HR; have HB := n_; have HR := m_; clear n_ m_; clear hb) | (go_at_call 49; refine (HCT.out _ HR.out ht0).mono ?_; rintro e w3 ⟨rfl, hb⟩; replace hf0 := pw_cell_below hb hf0; replace hf1 := pw_cell_below hb hf1; replace hf2 := pw_cell_below hb hf2; replace hf3 := pw_cell_below hb hf3; replace hf4 := pw_cell_below hb hf4; replace hf5 := pw_cell_below hb hf5; replace hf6 := pw_cell_below hb hf6; replace hf7 := pw_cell_below hb hf7; replace ht0 := pw_cell_below hb ht0; replace ht1 := pw_cell_below hb ht1; replace ht2 := pw_cell_below hb ht2; replace ht3 := pw_cell_below hb ht3; replace ht4 := pw_cell_below hb ht4; have n_ := Aside0.mk (below_step HB.out hb); have m_ := Aside0.mk (Kd.C_below HR.out hb); clear HB HR; have HB := n_; have HR := m_; clear n_ m_; clear hb))
                go_ret
                exact ⟨rfl, HB.out⟩
            · skip
              have w5a : decide (5000 < a0_4) = false := decide_eq_false w5
              have w5b : decide (a0_4 ≤ 5000) = true := decide_eq_true (by omega)
              have w5c : (a0_4 ≤ 5000) = True := eq_true (by omega)
              by_cases n0 : a0_7 = 0
              · skip
                have n0a : (a0_7 == 0) = true := beq_iff_eq.2 n0
                have n0b : (a0_7 != 0) = false := by simp [n0]
                have n0c : decide (a0_7 = 0) = true := decide_eq_true n0
                have ht_ : impl_FateOf.tail a0_1 a0_4 a0_7 = 4 := by unfold impl_FateOf.tail; rw [if_neg k7, if_neg z0, if_pos n0, if_neg w5]
                rw [ht_] at h
                obtain rfl := Option.some.inj h
                clear h ht_
                replace k7 := eq_false k7
                replace z0 := eq_false z0
                replace w5 := eq_false w5
                replace n0 := eq_true n0
                go_enter Tryd.func30, Tryd.ntmps30
                go_wp2_with (first | (go_at_call 47; refine (impl_FirstProved.calls k A1 c1 l1 a0_0 0 _ HR.out HC1.out A1_.out).mono ?_; rintro e w1 ⟨rfl, hb⟩; have hf0 := pw_cell_below hb HF0.out; have hf1 := pw_cell_below hb HF1.out; have hf2 := pw_cell_below hb HF2.out; have hf3 := pw_cell_below hb HF3.out; have hf4 := pw_cell_below hb HF4.out; have hf5 := pw_cell_below hb HF5.out; have hf6 := pw_cell_below hb HF6.out; have hf7 := pw_cell_below hb HF7.out; have ht0 := pw_cell_below hb HT0.out; have ht1 := pw_cell_below hb HT1.out; have ht2 := pw_cell_below hb HT2.out; have ht3 := pw_cell_below hb HT3.out; have ht4 := pw_cell_below hb HT4.out; have n_ := Aside0.mk (below_step HB.out hb); have m_ := Aside0.mk (Kd.C_below HR.out hb); clear HB HR; have HB := n_; have HR := m_; clear n_ m_; clear hb) | (go_at_call 48; refine (impl_IsDue.calls k a0_0 a0_1 a0_2 a0_3 a0_4 a0_5 a0_6 a0_7 a2 true _ A2_.out).mono ?_; rintro e w2 ⟨rfl, hb⟩; replace hf0 := pw_cell_below hb hf0; replace hf1 := pw_cell_below hb hf1; replace hf2 := pw_cell_below hb hf2; replace hf3 := pw_cell_below hb hf3; replace hf4 := pw_cell_below hb hf4; replace hf5 := pw_cell_below hb hf5; replace hf6 := pw_cell_below hb hf6; replace hf7 := pw_cell_below hb hf7; replace ht0 := pw_cell_below hb ht0; replace ht1 := pw_cell_below hb ht1; replace ht2 := pw_cell_below hb ht2; replace ht3 := pw_cell_below hb ht3; replace ht4 := pw_cell_below hb ht4; have n_ := Aside0.mk (below_step HB.out hb); have m_ := Aside0.mk (Kd.C_below HR.out hb); clear HB HR; have HB := n_; have HR := m_; clear n_ m_; clear hb) | (go_at_call 49; refine (HCT.out _ HR.out ht0).mono ?_; rintro e w3 ⟨rfl, hb⟩; replace hf0 := pw_cell_below hb hf0; replace hf1 := pw_cell_below hb hf1; replace hf2 := pw_cell_below hb hf2; replace hf3 := pw_cell_below hb hf3; replace hf4 := pw_cell_below hb hf4; replace hf5 := pw_cell_below hb hf5; replace hf6 := pw_cell_below hb hf6; replace hf7 := pw_cell_below hb hf7; replace ht0 := pw_cell_below hb ht0; replace ht1 := pw_cell_below hb ht1; replace ht2 := pw_cell_below hb ht2; replace ht3 := pw_cell_below hb ht3; replace ht4 := pw_cell_below hb ht4; have n_ := Aside0.mk (below_step HB.out hb); have m_ := Aside0.mk (Kd.C_below HR.out hb); clear HB HR; have HB := n_; have HR := m_; clear n_ m_; clear hb))
                go_ret
                exact ⟨rfl, HB.out⟩
              · skip
                have n0a : (a0_7 == 0) = false := beq_eq_false_iff_ne.2 n0
                have n0b : (a0_7 != 0) = true := by simp [n0]
                have n0c : decide (a0_7 = 0) = false := decide_eq_false n0
                have ht_ : impl_FateOf.tail a0_1 a0_4 a0_7 = 2 := by unfold impl_FateOf.tail; rw [if_neg k7, if_neg z0, if_neg n0, if_pos (by omega)]
                rw [ht_] at h
                obtain rfl := Option.some.inj h
                clear h ht_
                replace k7 := eq_false k7
                replace z0 := eq_false z0
                replace w5 := eq_false w5
                replace n0 := eq_false n0
                go_enter Tryd.func30, Tryd.ntmps30
                go_wp2_with (first | (go_at_call 47; refine (impl_FirstProved.calls k A1 c1 l1 a0_0 0 _ HR.out HC1.out A1_.out).mono ?_; rintro e w1 ⟨rfl, hb⟩; have hf0 := pw_cell_below hb HF0.out; have hf1 := pw_cell_below hb HF1.out; have hf2 := pw_cell_below hb HF2.out; have hf3 := pw_cell_below hb HF3.out; have hf4 := pw_cell_below hb HF4.out; have hf5 := pw_cell_below hb HF5.out; have hf6 := pw_cell_below hb HF6.out; have hf7 := pw_cell_below hb HF7.out; have ht0 := pw_cell_below hb HT0.out; have ht1 := pw_cell_below hb HT1.out; have ht2 := pw_cell_below hb HT2.out; have ht3 := pw_cell_below hb HT3.out; have ht4 := pw_cell_below hb HT4.out; have n_ := Aside0.mk (below_step HB.out hb); have m_ := Aside0.mk (Kd.C_below HR.out hb); clear HB HR; have HB := n_; have HR := m_; clear n_ m_; clear hb) | (go_at_call 48; refine (impl_IsDue.calls k a0_0 a0_1 a0_2 a0_3 a0_4 a0_5 a0_6 a0_7 a2 true _ A2_.out).mono ?_; rintro e w2 ⟨rfl, hb⟩; replace hf0 := pw_cell_below hb hf0; replace hf1 := pw_cell_below hb hf1; replace hf2 := pw_cell_below hb hf2; replace hf3 := pw_cell_below hb hf3; replace hf4 := pw_cell_below hb hf4; replace hf5 := pw_cell_below hb hf5; replace hf6 := pw_cell_below hb hf6; replace hf7 := pw_cell_below hb hf7; replace ht0 := pw_cell_below hb ht0; replace ht1 := pw_cell_below hb ht1; replace ht2 := pw_cell_below hb ht2; replace ht3 := pw_cell_below hb ht3; replace ht4 := pw_cell_below hb ht4; have n_ := Aside0.mk (below_step HB.out hb); have m_ := Aside0.mk (Kd.C_below HR.out hb); clear HB HR; have HB := n_; have HR := m_; clear n_ m_; clear hb) | (go_at_call 49; refine (HCT.out _ HR.out ht0).mono ?_; rintro e w3 ⟨rfl, hb⟩; replace hf0 := pw_cell_below hb hf0; replace hf1 := pw_cell_below hb hf1; replace hf2 := pw_cell_below hb hf2; replace hf3 := pw_cell_below hb hf3; replace hf4 := pw_cell_below hb hf4; replace hf5 := pw_cell_below hb hf5; replace hf6 := pw_cell_below hb hf6; replace hf7 := pw_cell_below hb hf7; replace ht0 := pw_cell_below hb ht0; replace ht1 := pw_cell_below hb ht1; replace ht2 := pw_cell_below hb ht2; replace ht3 := pw_cell_below hb ht3; replace ht4 := pw_cell_below hb ht4; have n_ := Aside0.mk (below_step HB.out hb); have m_ := Aside0.mk (Kd.C_below HR.out hb); clear HB HR; have HB := n_; have HR := m_; clear n_ m_; clear hb))
                go_ret
                exact ⟨rfl, HB.out⟩
  · rw [if_neg c0] at h
    obtain rfl := Option.some.inj h
    clear h HCT
    have c0a : (fp == 0) = false := beq_eq_false_iff_ne.2 c0
    have c0b : (fp != 0) = true := by simp [c0]
    have c0c : decide (fp = 0) = false := decide_eq_false c0
    replace c0 := eq_false c0
    go_enter Tryd.func30, Tryd.ntmps30
    go_wp2_with (first | (go_at_call 47; refine (impl_FirstProved.calls k A1 c1 l1 a0_0 fp _ HR.out HC1.out A1_.out).mono ?_; rintro e w1 ⟨rfl, hb⟩; have hf0 := pw_cell_below hb HF0.out; have hf1 := pw_cell_below hb HF1.out; have hf2 := pw_cell_below hb HF2.out; have hf3 := pw_cell_below hb HF3.out; have hf4 := pw_cell_below hb HF4.out; have hf5 := pw_cell_below hb HF5.out; have hf6 := pw_cell_below hb HF6.out; have hf7 := pw_cell_below hb HF7.out; have ht0 := pw_cell_below hb HT0.out; have ht1 := pw_cell_below hb HT1.out; have ht2 := pw_cell_below hb HT2.out; have ht3 := pw_cell_below hb HT3.out; have ht4 := pw_cell_below hb HT4.out; have n_ := Aside0.mk (below_step HB.out hb); have m_ := Aside0.mk (Kd.C_below HR.out hb); clear HB HR; have HB := n_; have HR := m_; clear n_ m_; clear hb))
    go_ret
    exact ⟨rfl, HB.out⟩


/-! ### impl_NextOpen: function 31 -/
mutual
def impl_NextOpen.j0 : Nat → List Bool → Int → Bool → Option (Int)
  | 0, _, _, _ => none
  | k + 1, x0, x1, x12 => if x12 = true then (some (-1)) else (impl_NextOpen.l0 k x0 x1)
def impl_NextOpen.l0 : Nat → List Bool → Int → Option (Int)
  | 0, _, _ => none
  | k + 1, x0, x1 => if 0 ≤ (Int.tmod x1 7) then (if (Int.tmod x1 7) < (x0.length : Int) then (if (rdOf false x0 (Int.tmod x1 7) = true) then (some x1) else (impl_NextOpen.l0 k x0 (wrap64 (x1 + 1)))) else (none)) else (none)
end
def impl_NextOpen.f (k : Nat) (l0 : List Bool) (a1 : Int) : Option (Int) := (impl_IsCalendar.f k l0).bind fun t513 => (if t513 = true then ((impl_InRange.f a1 0 100000).bind fun t514 => (impl_NextOpen.j0 k l0 a1 (!t514))) else (impl_NextOpen.j0 k l0 a1 true))
theorem impl_NextOpen.mono_l : ∀ k, (∀ y0 y1 y2, LeO (impl_NextOpen.j0 k y0 y1 y2) (impl_NextOpen.j0 (k + 1) y0 y1 y2)) ∧ (∀ y0 y1, LeO (impl_NextOpen.l0 k y0 y1) (impl_NextOpen.l0 (k + 1) y0 y1))
  | 0 => ⟨fun _ _ _ r h => by simp [impl_NextOpen.j0] at h, fun _ _ r h => by simp [impl_NextOpen.l0] at h⟩
  | k + 1 => by
    obtain ⟨ih0, ih1⟩ := impl_NextOpen.mono_l k
    refine ⟨?_, ?_⟩
    · intro y0 y1 y2
      unfold impl_NextOpen.j0
      have jh0 := @impl_IsCalendar.mono
      exact mo_
    · intro y0 y1
      unfold impl_NextOpen.l0
      have jh0 := @impl_IsCalendar.mono
      exact mo_
theorem impl_NextOpen.mono : ∀ a0 a1 k, LeO (impl_NextOpen.f k a0 a1) (impl_NextOpen.f (k + 1) a0 a1) := by
  intro a0 a1 k
  obtain ⟨ih0, ih1⟩ := impl_NextOpen.mono_l k
  unfold impl_NextOpen.f
  have jh0 := @impl_IsCalendar.mono
  exact mo_
theorem y152_ {P : Prop} (h : P := by repeat (first | exact Drawn0.refl _ | apply Drawn0.step)) : P := h
set_option maxHeartbeats 8000000 in
set_option maxRecDepth 100000 in
theorem impl_NextOpen.calls (k : Nat) (A0 : Option Addr) (c0 : Nat) (l0 : List Bool) (a1 : Int) (r : Int) (w : World) (hr0 : Kd.C Kd.bool w A0 l0.length l0) (hc0 : l0.length ≤ c0) (h : impl_NextOpen.f k l0 a1 = some r) :
    Calls Tryd.prog 31 #[.slice A0 l0.length c0, .int .i64 a1] w fun e w' => e = .returned (.int .i64 r) ∧ Drawn0 w w' := by
  have HR0 := Aside0.mk hr0
  have HC0 := Aside0.mk hc0
  clear hr0 hc0
  have H : ((impl_IsCalendar.f k l0).bind fun t513 => (if t513 = true then ((impl_InRange.f a1 0 100000).bind fun t514 => (impl_NextOpen.j0 k l0 a1 (!t514))) else (impl_NextOpen.j0 k l0 a1 true))) = some r := h
  clear h
  have HC3 := Aside0.mk H
  clear H
  go_enter Tryd.func31, Tryd.ntmps31
  go_upto_region 1 with (fail)
  go_cut [12] (fun v12 wc => ∃ (kq : Nat) (x12_2 : Bool), v12 = .bool x12_2 ∧ Aside0 (impl_NextOpen.j0 kq l0 a1 x12_2 = some r) ∧ Aside0 (kq ≤ k) ∧ Drawn0 w wc)
  case first =>
    have H := HC3.out
    clear HC3
    replace H := Option.bind_eq_some_iff.mp H
    obtain ⟨t513, A40, H⟩ := H
    replace H : (if t513 = true then ((impl_InRange.f a1 0 100000).bind fun t514 => (impl_NextOpen.j0 k l0 a1 (!t514))) else (impl_NextOpen.j0 k l0 a1 true)) = some r := H
    have A4 := Aside0.mk A40
    clear A40
    by_cases c5 : t513 = true
    · subst c5
      have H1 : ((impl_InRange.f a1 0 100000).bind fun t514 => (impl_NextOpen.j0 k l0 a1 (!t514))) = some r := by rw [if_pos rfl] at H; exact H
      clear H
      have H := H1
      clear H1
      replace H := Option.bind_eq_some_iff.mp H
      obtain ⟨t514, A60, H⟩ := H
      replace H : (impl_NextOpen.j0 k l0 a1 (!t514)) = some r := H
      have A6 := Aside0.mk A60
      clear A60
      have H' := Aside0.mk H
      clear H
      go_wp2_with (first | ((with_reducible refine gate_callee (f := 28) rfl ?_); refine goesL_ (some 6) rfl rfl Tryd.func28 (by kernel_rfl) rfl #[.slice A0 l0.length c0] rfl ma_ ?_; (with_reducible refine (impl_IsCalendar.calls k _ _ l0 true _ ?side1 ?side2 A4.out).mono ?_); (case side1 => exact cd_ HR0.out); (case side2 => exact HC0.out); rintro e w' ⟨rfl, ⟨nd, rfl⟩⟩; refine ⟨_, rfl, ?_⟩) | (go_at_call 29; (with_reducible refine (impl_InRange.calls a1 0 100000 t514 _ A6.out).mono ?_); rintro e w' ⟨rfl, ⟨nd, rfl⟩⟩))
      go_meet
      case rel => exact ⟨_, (!t514), rs_, H', ⟨by first | omega | exact Nat.le_refl _⟩, y152_⟩
    · replace c5 := Bool.eq_false_iff.mpr c5
      subst c5
      have H1 : (impl_NextOpen.j0 k l0 a1 true) = some r := by rw [if_neg (show ¬ (false = true) by decide)] at H; exact H
      clear H
      have H := H1
      clear H1
      have H' := Aside0.mk H
      clear H
      go_wp2_with (first | ((with_reducible refine gate_callee (f := 28) rfl ?_); refine goesL_ (some 6) rfl rfl Tryd.func28 (by kernel_rfl) rfl #[.slice A0 l0.length c0] rfl ma_ ?_; (with_reducible refine (impl_IsCalendar.calls k _ _ l0 false _ ?side1 ?side2 A4.out).mono ?_); (case side1 => exact cd_ HR0.out); (case side2 => exact HC0.out); rintro e w' ⟨rfl, ⟨nd, rfl⟩⟩; refine ⟨_, rfl, ?_⟩))
      go_meet
      case rel => exact ⟨_, (true), rs_, H', ⟨by first | omega | exact Nat.le_refl _⟩, y152_⟩
  case rest =>
    clear HC3
    try clear c2
    try clear p2
    try clear c3
    try clear c5
    obtain ⟨kq, x12_2, rfl, HA, HJ2, ⟨mc2, rfl⟩⟩ := hcut
    cases kq with
    | zero => exact absurd HA.out (by simp [impl_NextOpen.j0])
    | succ kj2 =>
      have H := HA.out
      clear HA
      simp only [impl_NextOpen.j0] at H
      by_cases c7 : x12_2 = true
      · subst c7
        have H1 : (some (-1)) = some r := by rw [if_pos rfl] at H; exact H
        clear H
        have H := H1
        clear H1
        obtain rfl := Option.some.inj H
        go_wp2
        go_ret
        exact ⟨rs_, y152_⟩
      · replace c7 := Bool.eq_false_iff.mpr c7
        subst c7
        have H1 : (impl_NextOpen.l0 kj2 l0 a1) = some r := by rw [if_neg (show ¬ (false = true) by decide)] at H; exact H
        clear H
        have H := H1
        clear H1
        have H' := Aside0.mk H
        clear H
        go_wp2
        go_loopg [1] kj2 (fun kq v1 w' => ∃ (x1_2 : Int), v1 = .int .i64 x1_2 ∧ Aside0 (impl_NextOpen.l0 kq l0 x1_2 = some r) ∧ Aside0 (kq ≤ kj2) ∧ Drawn0 w w')
        case atStart => exact ⟨(a1), rs_, H', ⟨Nat.le_refl _⟩, y152_⟩
        case round =>
          clear H'
          try clear c2
          try clear p2
          try clear c3
          try clear c5
          try clear c7
          try clear p2
          obtain ⟨x1_2, rfl, HA, HK2, ⟨m2, rfl⟩⟩ := hrel
          cases gk with
          | zero => exact absurd HA.out (by simp [impl_NextOpen.l0])
          | succ k2 =>
            have H := HA.out
            clear HA
            simp only [impl_NextOpen.l0] at H
            obtain ⟨ji8, hji8⟩ : ∃ j_ : Int, (Int.tmod x1_2 7) = j_ := ⟨_, rfl⟩
            replace H : (if 0 ≤ (ji8) then (if (ji8) < (l0.length : Int) then (if (rdOf false l0 (ji8) = true) then (some x1_2) else (impl_NextOpen.l0 k2 l0 (wrap64 (x1_2 + 1)))) else (none)) else (none)) = some r := by first | (rw [hji8] at H; exact H) | (simp only [hji8] at H ⊢; exact H)
            by_cases c9 : 0 ≤ (ji8)
            · rw [if_pos c9] at H
              have c9b0 : decide (0 ≤ (ji8)) = true := decide_eq_true c9
              clear c9
              by_cases c10 : (ji8) < (l0.length : Int)
              · rw [if_pos c10] at H
                have c10b0 : decide ((ji8) < (l0.length : Int)) = true := decide_eq_true c10
                clear c10
                obtain ⟨bq11, hbq11⟩ : ∃ b_ : Bool, b_ = (rdOf false l0 (ji8)) := ⟨_, rfl⟩
                replace H : (if (bq11 = true) then (some x1_2) else (impl_NextOpen.l0 k2 l0 (wrap64 (x1_2 + 1)))) = some r := by rw [← hbq11] at H; exact H
                have Nbq11 := Aside0.mk hbq11
                clear hbq11
                by_cases c12 : (bq11 = true)
                · subst c12
                  have H1 : (some x1_2) = some r := by rw [if_pos rfl] at H; exact H
                  clear H
                  have H := H1
                  clear H1
                  obtain rfl := Option.some.inj H
                  have p515 : 0 ≤ ((ji8) : Int) := of_decide_eq_true as_
                  have q515 : (ji8) < (l0.length : Int) := of_decide_eq_true as_
                  obtain ⟨ad515, e515, hx515_0⟩ := Kd.at_bool HR0.out (ji8) p515 q515
                  (try rw [← Nbq11.out] at hx515_0)
                  cases e515
                  replace p515 := eq_true p515
                  replace q515 := eq_true q515
                  go_wp2
                  go_ret
                  exact ⟨by first | rfl | (simp; done) | (simp only [← hji8] <;> (first | rfl | simp)) | (simp [*]; done), y152_⟩
                · replace c12 := Bool.eq_false_iff.mpr c12
                  subst c12
                  have H1 : (impl_NextOpen.l0 k2 l0 (wrap64 (x1_2 + 1))) = some r := by rw [if_neg (show ¬ (false = true) by decide)] at H; exact H
                  clear H
                  have H := H1
                  clear H1
                  have H' := Aside0.mk H
                  clear H
                  have p515 : 0 ≤ ((ji8) : Int) := of_decide_eq_true as_
                  have q515 : (ji8) < (l0.length : Int) := of_decide_eq_true as_
                  obtain ⟨ad515, e515, hx515_0⟩ := Kd.at_bool HR0.out (ji8) p515 q515
                  (try rw [← Nbq11.out] at hx515_0)
                  cases e515
                  replace p515 := eq_true p515
                  replace q515 := eq_true q515
                  go_wp2
                  go_roundg k2
                  case measure => have := HJ2.out; have := HK2.out; omega
                  case rel => exact ⟨(wrap64 (x1_2 + 1)), rs_, H', ⟨by have := HJ2.out; have := HK2.out; omega⟩, y152_⟩
              · rw [if_neg c10] at H
                exact absurd H (by simp)
            · rw [if_neg c9] at H
              exact absurd H (by simp)

/-! ### impl_LastDay: function 32 -/
def impl_LastDay.f (k : Nat) (l0 : List Bool) (a1_0 : Int) (a1_1 : Int) (a1_2 : Int) (a1_3 : Int) (a1_4 : Int) (a1_5 : Int) (a1_6 : Int) (a1_7 : Int) : Option (Int) := (impl_IsFind.f a1_0 a1_1 a1_2 a1_3 a1_4 a1_5 a1_6 a1_7).bind fun t517 => (if t517 = true then ((impl_DueHour.f k a1_0 a1_1 a1_2 a1_3 a1_4 a1_5 a1_6 a1_7).bind fun t518 => ((impl_NextOpen.f k l0 (wrap64 (Int.tdiv t518 24))).bind fun t519 => (some t519))) else (some (-1)))
theorem impl_LastDay.mono : ∀ a0 a1 a2 a3 a4 a5 a6 a7 a8 k, LeO (impl_LastDay.f k a0 a1 a2 a3 a4 a5 a6 a7 a8) (impl_LastDay.f (k + 1) a0 a1 a2 a3 a4 a5 a6 a7 a8) := by
  intro a0 a1 a2 a3 a4 a5 a6 a7 a8 k
  unfold impl_LastDay.f
  have jh0 := @impl_DueHour.mono
  have jh1 := @impl_NextOpen.mono
  exact mo_
theorem e153_ {w : World} {g : Nat} {t : TypeId} {i0 : Int} {i1 : Int} {i2 : Int} {i3 : Int} {i4 : Int} {i5 : Int} {i6 : Int} {i7 : Int} (h : w.heap[g]? = some (.cells #[.int .i64 i0, .int .i64 i1, .int .i64 i2, .int .i64 i3, .int .i64 i4, .int .i64 i5, .int .i64 i6, .int .i64 i7] t (0, 0))) : w.cell? ⟨g, 0, none⟩ = some (.int .i64 i0) ∧ w.cell? ⟨g, 1, none⟩ = some (.int .i64 i1) ∧ w.cell? ⟨g, 2, none⟩ = some (.int .i64 i2) ∧ w.cell? ⟨g, 3, none⟩ = some (.int .i64 i3) ∧ w.cell? ⟨g, 4, none⟩ = some (.int .i64 i4) ∧ w.cell? ⟨g, 5, none⟩ = some (.int .i64 i5) ∧ w.cell? ⟨g, 6, none⟩ = some (.int .i64 i6) ∧ w.cell? ⟨g, 7, none⟩ = some (.int .i64 i7) := ⟨(blk_cell h 0).trans rfl, (blk_cell h 1).trans rfl, (blk_cell h 2).trans rfl, (blk_cell h 3).trans rfl, (blk_cell h 4).trans rfl, (blk_cell h 5).trans rfl, (blk_cell h 6).trans rfl, (blk_cell h 7).trans rfl⟩
theorem z154_ {w : World} {g : Nat} {t : TypeId} {cs : Array Value} (h : w.heap[g]? = some (.cells cs t (0, 0))) : w.frozen? ⟨g, 0, none⟩ = false ∧ w.frozen? ⟨g, 1, none⟩ = false ∧ w.frozen? ⟨g, 2, none⟩ = false ∧ w.frozen? ⟨g, 3, none⟩ = false ∧ w.frozen? ⟨g, 4, none⟩ = false ∧ w.frozen? ⟨g, 5, none⟩ = false ∧ w.frozen? ⟨g, 6, none⟩ = false ∧ w.frozen? ⟨g, 7, none⟩ = false := ⟨blk_frozen h 0, blk_frozen h 1, blk_frozen h 2, blk_frozen h 3, blk_frozen h 4, blk_frozen h 5, blk_frozen h 6, blk_frozen h 7⟩
theorem y157_ {P : Prop} (h : P := by repeat (first | (with_reducible first | exact HB.out | apply below_alloc | apply pw_below_drewN | apply below_drew1 | refine below_set ?_ GE516.out) | exact HB.out)) : P := h
set_option maxHeartbeats 8000000 in
set_option maxRecDepth 100000 in
theorem impl_LastDay.calls (k : Nat) (A0 : Option Addr) (c0 : Nat) (l0 : List Bool) (a1_0 : Int) (a1_1 : Int) (a1_2 : Int) (a1_3 : Int) (a1_4 : Int) (a1_5 : Int) (a1_6 : Int) (a1_7 : Int) (r : Int) (w : World) (hr0 : Kd.C Kd.bool w A0 l0.length l0) (hc0 : l0.length ≤ c0) (h : impl_LastDay.f k l0 a1_0 a1_1 a1_2 a1_3 a1_4 a1_5 a1_6 a1_7 = some r) :
    Calls Tryd.prog 32 #[.slice A0 l0.length c0, .agg #[.int .i64 a1_0, .int .i64 a1_1, .int .i64 a1_2, .int .i64 a1_3, .int .i64 a1_4, .int .i64 a1_5, .int .i64 a1_6, .int .i64 a1_7]] w fun e w' => e = .returned (.int .i64 r) ∧ Below w.heap.size w w' := by
  have hu38 := Tryd.underlying38
  have HR0 := Aside0.mk hr0
  have HC0 := Aside0.mk hc0
  clear hr0 hc0
  have HB := Aside0.mk (Below.refl w.heap.size w)
  have H : ((impl_IsFind.f a1_0 a1_1 a1_2 a1_3 a1_4 a1_5 a1_6 a1_7).bind fun t517 => (if t517 = true then ((impl_DueHour.f k a1_0 a1_1 a1_2 a1_3 a1_4 a1_5 a1_6 a1_7).bind fun t518 => ((impl_NextOpen.f k l0 (wrap64 (Int.tdiv t518 24))).bind fun t519 => (some t519))) else (some (-1)))) = some r := h
  clear h
  replace H := Option.bind_eq_some_iff.mp H
  obtain ⟨t517, A30, H⟩ := H
  replace H : (if t517 = true then ((impl_DueHour.f k a1_0 a1_1 a1_2 a1_3 a1_4 a1_5 a1_6 a1_7).bind fun t518 => ((impl_NextOpen.f k l0 (wrap64 (Int.tdiv t518 24))).bind fun t519 => (some t519))) else (some (-1))) = some r := H
  have A3 := Aside0.mk A30
  clear A30
  by_cases c4 : t517 = true
  · subst c4
    have H1 : ((impl_DueHour.f k a1_0 a1_1 a1_2 a1_3 a1_4 a1_5 a1_6 a1_7).bind fun t518 => ((impl_NextOpen.f k l0 (wrap64 (Int.tdiv t518 24))).bind fun t519 => (some t519))) = some r := by rw [if_pos rfl] at H; exact H
    clear H
    have H := H1
    clear H1
    replace H := Option.bind_eq_some_iff.mp H
    obtain ⟨t518, A50, H⟩ := H
    replace H : ((impl_NextOpen.f k l0 (wrap64 (Int.tdiv t518 24))).bind fun t519 => (some t519)) = some r := H
    have A5 := Aside0.mk A50
    clear A50
    replace H := Option.bind_eq_some_iff.mp H
    obtain ⟨t519, A60, H⟩ := H
    replace H : (some t519) = some r := H
    have A6 := Aside0.mk A60
    clear A60
    obtain rfl := Option.some.inj H
    go_enter Tryd.func32, Tryd.ntmps32
    go_wp2_with (first | ((with_reducible refine gate_dst (N := 3) rfl ?_); refine bx_ 3 #[.int .i64 a1_0, .int .i64 a1_1, .int .i64 a1_2, .int .i64 a1_3, .int .i64 a1_4, .int .i64 a1_5, .int .i64 a1_6, .int .i64 a1_7] 38 ?_; intro gb516 hg w7 hbox hb; have n0_ := Aside0.mk (below_step (hd_ HB.out) hb); have BK516 := Aside0.mk (hbox); have GW516 := Aside0.mk ((by rw [hg]; exact (below_size (hd_ HB.out)) : w.heap.size ≤ gb516)); have GE516 := GW516; clear HB; have HB := n0_; clear n0_; clear hb hbox hg; obtain ⟨hcz8_0, hcz8_1, hcz8_2, hcz8_3, hcz8_4, hcz8_5, hcz8_6, hcz8_7⟩ := e153_ BK516.out; obtain ⟨hfz8_0, hfz8_1, hfz8_2, hfz8_3, hfz8_4, hfz8_5, hfz8_6, hfz8_7⟩ := z154_ BK516.out) | ((with_reducible refine gate_callee (f := 27) rfl ?_); refine goesL_ (some 6) rfl rfl Tryd.func27 (by kernel_rfl) rfl #[.agg #[.int .i64 a1_0, .int .i64 a1_1, .int .i64 a1_2, .int .i64 a1_3, .int .i64 a1_4, .int .i64 a1_5, .int .i64 a1_6, .int .i64 a1_7]] rfl ma_ ?_; (with_reducible refine (impl_IsFind.calls a1_0 a1_1 a1_2 a1_3 a1_4 a1_5 a1_6 a1_7 true _ A3.out).mono ?_); rintro e w9 ⟨rfl, hb⟩; refine ⟨_, rfl, ?_⟩; have n0_ := Aside0.mk (blk_below (bd_ BK516.out) hb); have n1_ := Aside0.mk (below_step y157_ hb); clear BK516; clear HB; have BK516 := n0_; have HB := n1_; clear n0_ n1_; (try clear hb); obtain ⟨hcz10_0, hcz10_1, hcz10_2, hcz10_3, hcz10_4, hcz10_5, hcz10_6, hcz10_7⟩ := e153_ BK516.out; obtain ⟨hfz10_0, hfz10_1, hfz10_2, hfz10_3, hfz10_4, hfz10_5, hfz10_6, hfz10_7⟩ := z154_ BK516.out) | ((with_reducible refine gate_callee (f := 51) rfl ?_); refine goesL_ (some 10) rfl rfl Tryd.func51 (by kernel_rfl) rfl #[.agg #[.int .i64 a1_0, .int .i64 a1_1, .int .i64 a1_2, .int .i64 a1_3, .int .i64 a1_4, .int .i64 a1_5, .int .i64 a1_6, .int .i64 a1_7]] rfl ma_ ?_; (with_reducible refine (impl_DueHour.calls k a1_0 a1_1 a1_2 a1_3 a1_4 a1_5 a1_6 a1_7 t518 _ A5.out).mono ?_); rintro e w11 ⟨rfl, hb⟩; refine ⟨_, rfl, ?_⟩; have n0_ := Aside0.mk (blk_below (bd_ BK516.out) hb); have n1_ := Aside0.mk (below_step y157_ hb); clear BK516; clear HB; have BK516 := n0_; have HB := n1_; clear n0_ n1_; (try clear hb)) | ((with_reducible refine gate_callee (f := 31) rfl ?_); refine goesL_ (some 12) rfl rfl Tryd.func31 (by kernel_rfl) rfl #[.slice A0 l0.length c0, .int .i64 (wrap64 (Int.tdiv t518 24))] rfl ma_ ?_; (with_reducible refine (impl_NextOpen.calls k _ _ l0 (wrap64 (Int.tdiv t518 24)) t519 _ ?side1 ?side2 A6.out).mono ?_); (case side1 => exact cd_ (Kd.C_below HR0.out HB.out)); (case side2 => exact HC0.out); rintro e w' ⟨rfl, ⟨nd, rfl⟩⟩; refine ⟨_, rfl, ?_⟩))
    go_ret
    exact ⟨rt_, by repeat (first | (with_reducible first | exact HB.out | apply below_alloc | apply pw_below_drewN | apply below_drew1 | refine below_set ?_ GE516.out) | exact HB.out)⟩
  · replace c4 := Bool.eq_false_iff.mpr c4
    subst c4
    have H1 : (some (-1)) = some r := by rw [if_neg (show ¬ (false = true) by decide)] at H; exact H
    clear H
    have H := H1
    clear H1
    obtain rfl := Option.some.inj H
    go_enter Tryd.func32, Tryd.ntmps32
    go_wp2_with (first | ((with_reducible refine gate_dst (N := 3) rfl ?_); refine bx_ 3 #[.int .i64 a1_0, .int .i64 a1_1, .int .i64 a1_2, .int .i64 a1_3, .int .i64 a1_4, .int .i64 a1_5, .int .i64 a1_6, .int .i64 a1_7] 38 ?_; intro gb516 hg w12 hbox hb; have n0_ := Aside0.mk (below_step (hd_ HB.out) hb); have BK516 := Aside0.mk (hbox); have GW516 := Aside0.mk ((by rw [hg]; exact (below_size (hd_ HB.out)) : w.heap.size ≤ gb516)); have GE516 := GW516; clear HB; have HB := n0_; clear n0_; clear hb hbox hg; obtain ⟨hcz13_0, hcz13_1, hcz13_2, hcz13_3, hcz13_4, hcz13_5, hcz13_6, hcz13_7⟩ := e153_ BK516.out; obtain ⟨hfz13_0, hfz13_1, hfz13_2, hfz13_3, hfz13_4, hfz13_5, hfz13_6, hfz13_7⟩ := z154_ BK516.out) | ((with_reducible refine gate_callee (f := 27) rfl ?_); refine goesL_ (some 6) rfl rfl Tryd.func27 (by kernel_rfl) rfl #[.agg #[.int .i64 a1_0, .int .i64 a1_1, .int .i64 a1_2, .int .i64 a1_3, .int .i64 a1_4, .int .i64 a1_5, .int .i64 a1_6, .int .i64 a1_7]] rfl ma_ ?_; (with_reducible refine (impl_IsFind.calls a1_0 a1_1 a1_2 a1_3 a1_4 a1_5 a1_6 a1_7 false _ A3.out).mono ?_); rintro e w14 ⟨rfl, hb⟩; refine ⟨_, rfl, ?_⟩; have n0_ := Aside0.mk (blk_below (bd_ BK516.out) hb); have n1_ := Aside0.mk (below_step y157_ hb); clear BK516; clear HB; have BK516 := n0_; have HB := n1_; clear n0_ n1_; (try clear hb)))
    go_ret
    exact ⟨rt_, by repeat (first | (with_reducible first | exact HB.out | apply below_alloc | apply pw_below_drewN | apply below_drew1 | refine below_set ?_ GE516.out) | exact HB.out)⟩

end Go.Proofs.YtnlgilmbmoiniaaDoor.PFnTasks
