-- Written for this claim by a program (a printer turned to this claim); Lean checks it.
import Derived.Test.YtfghapankndioaaPFnExactPutSecretx0
import Derived.Test.YtfghapankndioaaPFnExactPutSecretx3
import Derived.Test.YtfghapankndioaaPFnExactPutSecretx9
namespace Go.Proofs.Ytfghapankndioaa.PFnExactPutSecret
open Go.RowKit Go.Proofs.YtfghapankndioaaW.PrintWords Go.Proofs.YtfghapankndioaaW.PrintLast Go.Proofs.YtfghapankndioaaW.PrintMore
attribute [local go_sem] max2_int min2_int max_two min_two max_three min_three max_four min_four   -- for this text's walks alone
set_option linter.unusedVariables false
set_option linter.unusedSimpArgs false

/-! ### impl_Secret_69: function 69 -/
set_option maxHeartbeats 8000000 in
set_option maxRecDepth 100000 in
theorem impl_Secret_69.calls (p : S36 → Bool) (g : Nat) (lb : Array Value) (eg : ∀ args w, (callFunc g args).run Try.prog w = .ok (.enter g args) w) (A0 : Option Addr) (c0 : Nat) (l0 : List S36) (w : World) (hr0 : Kd.C k36 w A0 l0.length l0)
    (hp : ∀ (x : S36) (A1_ : Option Addr) (c1_ : Nat) (W : World), Below w.heap.size w W → Calls Try.prog g (#[.agg #[.int .i64 x.f0, .slice A1_ x.f1.length c1_, .int .i64 x.f2]] ++ lb) W fun e W' => e = .returned (.bool (p x)) ∧ Below W.heap.size W W') :
    Calls Try.prog 69 #[.slice A0 l0.length c0, .func (.func g) #[] lb] w fun e w' => e = .returned (.int .i64 (EvLib.idxB p l0 0)) ∧ Below w.heap.size w w' := by
  have hu36 := Try.underlying36
  have HR0 := Aside0.mk hr0
  have HP := Aside0.mk hp
  have hmax := Kd.C_max hr0
  clear hr0 hp
  go_enter Try.func69, Try.ntmps69
  go_wp2
  go_loopg [5, 8] l0.length (fun gg _ v8 wr => ∃ z : Int, v8 = .int .i64 z ∧ Aside0 (0 ≤ z) ∧ Aside0 (z ≤ (l0.length : Int)) ∧ Aside0 ((l0.length : Int) - z ≤ gg) ∧ Aside0 (Below w.heap.size w wr) ∧ Aside0 (EvLib.idxB p (l0.drop z.toNat) z.toNat = EvLib.idxB p l0 0))
  case atStart => exact ⟨0, rfl, ⟨by omega⟩, ⟨by omega⟩, ⟨by omega⟩, ⟨Below.refl _ _⟩, ⟨rfl⟩⟩
  case round =>
    obtain ⟨z, rfl, Z0, Z1, ZG, HB, HI⟩ := hrel
    by_cases hlt : z < (l0.length : Int)
    · have p1 : 0 ≤ z := Z0.out
      obtain ⟨ad, A1_, c1_, e, hx0, hx1, hx2, hl1, hi1⟩ := at_T36 HR0.out z p1 hlt
      cases e
      replace hx0 := pw_cell_below HB.out hx0
      replace hx1 := pw_cell_below HB.out hx1
      replace hx2 := pw_cell_below HB.out hx2
      have hcall := HP.out (rd_T36 l0 z) A1_ c1_ wr HB.out
      have hat := Aside0.mk (EvLib.idxB_at p z36 l0 z.toNat (by omega))
      cases hq : p (rd_T36 l0 z) with
      | true =>
        rw [hq] at hcall
        have HQ := Aside0.mk hq
        clear hq
        have hltb : decide (z < (l0.length : Int)) = true := decide_eq_true hlt
        replace p1 := eq_true p1
        replace hlt := eq_true hlt
        go_wp2_with (go_at_fn g; refine hcall.mono ?_; rintro e w' ⟨rfl, hb⟩; have n1_ := Aside0.mk (below_step HB.out hb); clear HB; have HB := n1_; clear n1_ hb)
        go_ret
        have hz : EvLib.idxB p l0 0 = z := by rw [← HI.out, hat.out, if_pos (show p (l0.getD z.toNat z36) = true from HQ.out), Int.toNat_of_nonneg Z0.out]
        exact ⟨by rw [hz]; rfl, HB.out⟩
      | false =>
        rw [hq] at hcall
        have HQ := Aside0.mk hq
        clear hq
        have HL := Aside0.mk hlt
        have hltb : decide (z < (l0.length : Int)) = true := decide_eq_true hlt
        replace p1 := eq_true p1
        replace hlt := eq_true hlt
        have hwr : wrap64 (z + 1) = z + 1 := by have := Z0.out; have := HL.out; unfold wrap64; omega
        go_wp2_with (go_at_fn g; refine hcall.mono ?_; rintro e w' ⟨rfl, hb⟩; have n1_ := Aside0.mk (below_step HB.out hb); clear HB; have HB := n1_; clear n1_ hb)
        go_roundg ((l0.length : Int) - (z + 1)).toNat
        case measure => have := Z0.out; have := HL.out; have := ZG.out; omega
        case rel =>
          refine ⟨z + 1, by first | rfl | (simp; done) | (simp [*]; done), ⟨by have := Z0.out; omega⟩, ⟨by have := HL.out; omega⟩, ⟨by have := HL.out; omega⟩, ⟨HB.out⟩, ⟨?_⟩⟩
          rw [← HI.out, hat.out, if_neg (by rw [show p (l0.getD z.toNat z36) = false from HQ.out]; simp)]
          have e1 : (z + 1).toNat = z.toNat + 1 := by have := Z0.out; omega
          rw [e1]
    · have hltb : decide (z < (l0.length : Int)) = false := decide_eq_false hlt
      have HE := Aside0.mk (EvLib.idxB_end p l0 z.toNat (by have := Z1.out; omega))
      clear hlt
      go_wp2
      go_ret
      have hz : EvLib.idxB p l0 0 = -1 := by rw [← HI.out, HE.out]
      exact ⟨by rw [hz]; rfl, HB.out⟩


/-! ### impl_secretOf: function 54 -/
set_option maxHeartbeats 8000000 in
set_option maxRecDepth 100000 in
theorem impl_secretOf_1.calls (x : S36) (A1_ : Option Addr) (c1_ : Nat) (a : Int) (g : Nat) (w : World) (hc : w.cell? ⟨g, 0, none⟩ = some (.int .i64 a)) :
    Calls Try.prog 70 #[.agg #[.int .i64 x.f0, .slice A1_ x.f1.length c1_, .int .i64 x.f2], .pointer (some ⟨g, 0, none⟩)] w fun e w' => e = .returned (.bool (x.f0 == a)) ∧ Below w.heap.size w w' := by
  have hu36 := Try.underlying36
  have hc2 : ∀ o, (w.alloc o).cell? ⟨g, 0, none⟩ = some (.int .i64 a) := fun o => pw_cell_below (below_alloc (Below.refl _ _) o) hc
  go_enter Try.func70, Try.ntmps70
  go_wp2
  go_ret
  exact ⟨rfl, by repeat (first | exact Below.refl _ _ | apply below_alloc | apply pw_below_drewN | apply below_drew1)⟩
def impl_secretOf.f (l0 : List S36) (a1 : Int) : Option Int := some (EvLib.idxB (fun x => x.f0 == a1) l0 0)
set_option maxHeartbeats 8000000 in
set_option maxRecDepth 100000 in
theorem impl_secretOf.calls (A0 : Option Addr) (c0 : Nat) (l0 : List S36) (a1 : Int) (r : Int) (w : World) (hr0 : Kd.C k36 w A0 l0.length l0) (hc0 : l0.length ≤ c0) (h : impl_secretOf.f l0 a1 = some r) :
    Calls Try.prog 54 #[.slice A0 l0.length c0, .int .i64 a1] w fun e w' => e = .returned (.int .i64 r) ∧ Below w.heap.size w w' := by
  have HR0 := Aside0.mk hr0
  clear hr0 hc0
  have H : EvLib.idxB (fun x : S36 => x.f0 == a1) l0 0 = r := Option.some.inj h
  subst H
  clear h
  have eg : ∀ args w, (callFunc 70 args).run Try.prog w = .ok (.enter 70 args) w := enters_of Try.func70 (by kernel_rfl) rfl
  have HC := Aside0.mk (impl_Secret_69.calls (fun x : S36 => x.f0 == a1) 70 #[.pointer (some ⟨w.heap.size, 0, none⟩)] eg A0 c0 l0 (w.alloc (.cells #[.int .i64 a1] 3)) (Kd.C_alloc HR0.out _)
    (fun x A1_ c1_ W hb => impl_secretOf_1.calls x A1_ c1_ a1 w.heap.size W ((hb.cell (p := ⟨w.heap.size, 0, none⟩) (by simp)).trans (by simp))))
  clear eg
  have HS := Aside0.mk (below_alloc (Below.refl w.heap.size w) (.cells #[.int .i64 a1] 3))
  generalize EvLib.idxB (fun x : S36 => x.f0 == a1) l0 0 = r at HC ⊢
  go_enter Try.func54, Try.ntmps54
  go_wp2_with (go_at_call 69; refine HC.out.mono ?_; rintro e w' ⟨rfl, hb⟩; have HB := Aside0.mk (below_step HS.out hb); clear hb)
  go_ret
  exact ⟨rfl, HB.out⟩


/-! ### impl_Mark: function 55 -/
def impl_Mark.f (l0 : List (S67)) : Option (List (S67)) := if l0.length < 8796093022208 then some l0 else none
set_option maxHeartbeats 8000000 in
set_option maxRecDepth 100000 in
theorem impl_Mark.calls (A0 : Option Addr) (c0 : Nat) (l0 : List (S67)) (r : List (S67)) (w : World) (hr0 : Kd.C k67 w A0 l0.length l0) (hc0 : l0.length ≤ c0) (h : impl_Mark.f l0 = some r) :
    Calls Try.prog 55 #[.slice A0 l0.length c0] w fun e w' => ∃ v0_ : Value, e = .returned (v0_) ∧ Kd.R k67 67 w' w.heap.size (fun _ => True) v0_ r ∧ Below w.heap.size w w' := by
  have HR0 := Aside0.mk hr0
  have HC0 := Aside0.mk hc0
  have HN := Aside0.mk hr0.2.2
  clear hr0 hc0
  have HB := Aside0.mk (Below.refl w.heap.size w)
  unfold impl_Mark.f at h
  split at h
  case isFalse => cases h
  case isTrue hlen =>
  obtain rfl := Option.some.inj h
  clear h
  have LM := Aside0.mk hlen
  clear hlen
  cases A0 with
  | none =>
    have hl0 : l0 = [] := by
      cases l0 with
      | nil => rfl
      | cons x l => exact absurd (HN.out (by simp)) (by rintro ⟨ad, h, _⟩; cases h)
    subst hl0
    have hnil := fun (W : World) => Lib.run_eql_slice_nil (P := Try.prog) W 34 67 none 0 c0 0 0 Try.underlying34
    go_enter Try.func55, Try.ntmps55
    go_wp2
    go_ret
    exact ⟨_, rfl, Kd.R_nil _ _ _ _ _, HB.out⟩
  | some ad =>
    have hnil := fun (W : World) => Lib.run_eql_slice_nil (P := Try.prog) W 34 67 (some ad) l0.length c0 0 0 Try.underlying34
    obtain ⟨y147, hy147⟩ : ∃ y_ : List (S67), y_ = ([] : List (S67)) := ⟨_, rfl⟩
    have Ny147 := Aside0.mk hy147
    clear hy147
    go_enter Try.func55, Try.ntmps55
    go_wp2_with (first | ((with_reducible refine gate_dst (N := 5) rfl ?_); refine Kd.R_lit k67 _ 67 ?hg (N := 5) ?hd (xs := ([] : List (S67))) (inner := []) (ok := fun _ => True) (okp := fun _ => True) ?hr ?hp (fun _ hk => hk) trivial (Below.refl _ _) (Nat.le_refl _) (by simp) ?_; (case hd => rfl); (case hg => rfl); (case hr => first | (go_simp; done) | (go_simp; rfl)); (case hp => exact (Reps.none _ _)); intro v148 w10 ho11 hb hg_ hnew_; clear hg_ hnew_; rw [← Ny147.out] at ho11; have HO149 := Aside0.mk (Kd.R_lower ho11 (below_size HB.out)); have n1_ := Aside0.mk (below_step HB.out hb); clear HB; have HB := n1_; clear n1_; clear hb ho11) | ((with_reducible refine gate_builtin (b := .append) (xs := #[.tmp 5, .tmp 6]) rfl ?_); at_builtin; refine Kd.R_append_rows k67 (w0 := w) w.heap.size rfl (.tmp 5) (.tmp 6) 34 67 ((.agg #[(.int .i64 0), (.int .i64 0)])) 16 rfl Try.underlying34 info67 rfl (by decide) (by omega) v148 y147 l0 _ _ _ (fun _ => True) (fun _ => False) rfl rfl ?aO ?aR (fun _ _ h => h) (fun _ h => h.elim) ?aF ?aB ?aS ?aL ?_; (case aR => exact (Kd.C_below HR0.out HB.out)); (case aB => exact HB.out); (case aF => exact (fun _ _ => trivial)); (case aO => exact HO149.out); (case aS => exact (below_size HB.out)); (case aL => have := LM.out; rw [Ny147.out]; simp only [List.length_nil]; omega); intro v152 w12 ho hb hg hat; rw [Ny147.out, List.nil_append] at ho; have n0_ := Aside0.mk (hb); have HO153 := Aside0.mk (ho); clear HB; clear HO149; have HB := n0_; clear n0_; clear ho hb hg hat))
    go_ret
    exact ⟨_, rfl, HO153.out, HB.out⟩


/-! ### impl_cloneSecrets: function 59 -/
def impl_cloneSecrets.l0 : Nat → List (S36) → List (S36) → Int → Int → Option ((List (S36)))
  | 0, _, _, _, _ => none
  | k + 1, x3, x7, x8, x9 => if x9 < x8 then (if 0 ≤ x9 then (if x9 < (x7.length : Int) then ((impl_Mark.f ((rd_T36 x7 x9).f1)).bind fun t224 => (if x3.length < 3518437208883 then (impl_cloneSecrets.l0 k (x3 ++ [(⟨(rd_T36 x7 x9).f0, t224, (rd_T36 x7 x9).f2⟩ : S36)]) x7 x8 (wrap64 (x9 + 1))) else (none))) else (none)) else (none)) else (some x3)
def impl_cloneSecrets.f (k : Nat) (l0 : List (S36)) : Option ((List (S36))) := impl_cloneSecrets.l0 k (([] : List (S36))) l0 (l0.length : Int) 0
theorem impl_cloneSecrets.mono_l : ∀ k, (∀ y0 y1 y2 y3, LeO (impl_cloneSecrets.l0 k y0 y1 y2 y3) (impl_cloneSecrets.l0 (k + 1) y0 y1 y2 y3))
  | 0 => fun _ _ _ _ r h => by simp [impl_cloneSecrets.l0] at h
  | k + 1 => by
    have ih0 := impl_cloneSecrets.mono_l k
    · intro y0 y1 y2 y3
      unfold impl_cloneSecrets.l0
      repeat' first
      | (with_reducible exact ih0 _ _ _ _)
      | (with_reducible exact LeO.refl _)
      | (with_reducible exact LeO.none _)
      | (with_reducible refine LeO.ite ?_ ?_)
      | (with_reducible refine LeO.bind ?_ (fun _ => ?_))
      | exact ih0 _ _ _ _
      | exact LeO.none _
      | refine LeO.ite ?_ ?_
      | refine LeO.bind ?_ (fun _ => ?_)
theorem impl_cloneSecrets.mono : ∀ a0 k, LeO (impl_cloneSecrets.f k a0) (impl_cloneSecrets.f (k + 1) a0) := by
  intro a0 k
  have ih0 := impl_cloneSecrets.mono_l k
  unfold impl_cloneSecrets.f
  repeat' first
      | (with_reducible exact ih0 _ _ _ _)
      | (with_reducible exact LeO.refl _)
      | (with_reducible exact LeO.none _)
      | (with_reducible refine LeO.ite ?_ ?_)
      | (with_reducible refine LeO.bind ?_ (fun _ => ?_))
      | exact ih0 _ _ _ _
      | exact LeO.none _
      | refine LeO.ite ?_ ?_
      | refine LeO.bind ?_ (fun _ => ?_)
theorem e90_ {w : World} {g : Nat} {t : TypeId} {i0 : Int} {A1 : Option Addr} {n1 c1 : Nat} {i2 : Int} (h : w.heap[g]? = some (.cells #[.int .i64 i0, .slice A1 n1 c1, .int .i64 i2] t (0, 0))) : w.cell? ⟨g, 0, none⟩ = some (.int .i64 i0) ∧ w.cell? ⟨g, 1, none⟩ = some (.slice A1 n1 c1) ∧ w.cell? ⟨g, 2, none⟩ = some (.int .i64 i2) := ⟨(blk_cell h 0).trans rfl, (blk_cell h 1).trans rfl, (blk_cell h 2).trans rfl⟩
theorem z91_ {w : World} {g : Nat} {t : TypeId} {cs : Array Value} (h : w.heap[g]? = some (.cells cs t (0, 0))) : w.frozen? ⟨g, 0, none⟩ = false ∧ w.frozen? ⟨g, 1, none⟩ = false ∧ w.frozen? ⟨g, 2, none⟩ = false := ⟨blk_frozen h 0, blk_frozen h 1, blk_frozen h 2⟩
theorem y92_ {P : Prop} (h : P := by repeat (first | (with_reducible first | exact HB.out | apply below_alloc | apply pw_below_drewN | apply below_drew1 | refine below_set ?_ GE223.out) | exact HB.out)) : P := h
set_option maxHeartbeats 8000000 in
set_option maxRecDepth 100000 in
theorem impl_cloneSecrets.calls (k : Nat) (A0 : Option Addr) (c0 : Nat) (l0 : List (S36)) (r : List (S36)) (w : World) (hr0 : Kd.C k36 w A0 l0.length l0) (hc0 : l0.length ≤ c0) (h : impl_cloneSecrets.f k l0 = some r) :
    Calls Try.prog 59 #[.slice A0 l0.length c0] w fun e w' => ∃ v0_ : Value, e = .returned (v0_) ∧ Kd.S k36 36 w' w.heap.size (fun _ => True) v0_ r ∧ Below w.heap.size w w' := by
  have hu36 := Try.underlying36
  have HR0 := Aside0.mk hr0
  have HC0 := Aside0.mk hc0
  clear hr0 hc0
  have HB := Aside0.mk (Below.refl w.heap.size w)
  have H : (impl_cloneSecrets.l0 k (([] : List (S36))) l0 (l0.length : Int) 0) = some r := h
  clear h
  obtain ⟨y219, hy219⟩ : ∃ y_ : List (S36), y_ = (([] : List (S36))) := ⟨_, rfl⟩
  replace H : (impl_cloneSecrets.l0 k y219 l0 (l0.length : Int) 0) = some r := by first | (rw [hy219]; with_reducible exact H) | (have H2_ := (Option.bind_some _ _).symm.trans H; rw [hy219]; with_reducible exact H2_) | (have H2_ := (Option.bind_some _ _).symm.trans H; with_reducible exact H2_) | with_reducible exact H | (rw [hy219]; exact H) | exact H
  have Ny219 := Aside0.mk hy219
  clear hy219
  have H' := Aside0.mk H
  clear H
  go_enter Try.func59, Try.ntmps59
  go_wp2_with (first | ((with_reducible refine gate_dst (N := 6) rfl ?_); refine Kd.S_lit k36 _ 36 ?hg (N := 6) ?hd (xs := ([] : List (S36))) (inner := []) (ok := fun _ => True) (okp := fun _ => True) ?hr ?hp (fun _ hk => hk) trivial (Below.refl _ _) (Nat.le_refl _) (by simp) ?_; (case hd => rfl); (case hg => rfl); (case hr => first | (go_simp; done) | (go_simp; rfl)); (case hp => exact (Reps.none _ _)); intro v220 w2 ho3 hb hg_ hnew_; clear hg_ hnew_; (first | rw [← Ny219.out] at ho3 | (simp only [Int.reduceToNat] at ho3; rw [← Ny219.out] at ho3)); have HO221 := Aside0.mk (Kd.S_lower ho3 (below_size (hd_ HB.out))); have n1_ := Aside0.mk (below_step (hd_ HB.out) hb); clear HB; have HB := n1_; clear n1_; clear hb ho3))
  go_loopg [3, 9] k (fun kq v3 v9 w' => ∃ (x3_1 : List (S36)) (x9_1 : Int), v9 = .int .i64 x9_1 ∧ Aside0 (impl_cloneSecrets.l0 kq x3_1 l0 (l0.length : Int) x9_1 = some r) ∧ Aside0 (kq ≤ k) ∧ Aside0 (Kd.S k36 36 w' w.heap.size (fun _ => True) v3 x3_1) ∧ Aside0 (Below w.heap.size w w'))
  case atStart => exact ⟨(y219), (0), (by first | rfl | (simp; done) | (simp [*]; done)), H', ⟨Nat.le_refl _⟩, ⟨by (with_reducible repeat (first | apply Kd.S_alloc | apply Kd.S_drewN | apply Kd.S_drew)); exact HO221.out⟩, ⟨hd_ HB.out⟩⟩
  case round =>
    clear H'
    try clear p2
    obtain ⟨x3_1, x9_1, rfl, HA, HK1, HO_3, HB⟩ := hrel
    cases gk with
    | zero => exact absurd HA.out (by simp [impl_cloneSecrets.l0])
    | succ k1 =>
      have H := HA.out
      clear HA
      simp only [impl_cloneSecrets.l0] at H
      by_cases c4 : x9_1 < (l0.length : Int)
      · rw [if_pos c4] at H
        have c4b0 : decide (x9_1 < (l0.length : Int)) = true := decide_eq_true c4
        clear c4
        by_cases c5 : 0 ≤ x9_1
        · rw [if_pos c5] at H
          have c5b0 : decide (0 ≤ x9_1) = true := decide_eq_true c5
          clear c5
          by_cases c6 : x9_1 < (l0.length : Int)
          · rw [if_pos c6] at H
            have c6b0 : decide (x9_1 < (l0.length : Int)) = true := decide_eq_true c6
            clear c6
            replace H := Option.bind_eq_some_iff.mp H
            obtain ⟨t224, A70, H⟩ := H
            replace H : (if x3_1.length < 3518437208883 then (impl_cloneSecrets.l0 k1 (x3_1 ++ [(⟨(rd_T36 l0 x9_1).f0, t224, (rd_T36 l0 x9_1).f2⟩ : S36)]) l0 (l0.length : Int) (wrap64 (x9_1 + 1))) else (none)) = some r := H
            have A7 := Aside0.mk A70
            clear A70
            by_cases c8 : x3_1.length < 3518437208883
            · rw [if_pos c8] at H
              have LMc8 := Aside0.mk c8
              clear c8
              obtain ⟨y227, hy227⟩ : ∃ y_ : List (S36), y_ = (x3_1 ++ [(⟨(rd_T36 l0 x9_1).f0, t224, (rd_T36 l0 x9_1).f2⟩ : S36)]) := ⟨_, rfl⟩
              replace H : (impl_cloneSecrets.l0 k1 y227 l0 (l0.length : Int) (wrap64 (x9_1 + 1))) = some r := by first | (rw [hy227]; with_reducible exact H) | (have H2_ := (Option.bind_some _ _).symm.trans H; rw [hy227]; with_reducible exact H2_) | (have H2_ := (Option.bind_some _ _).symm.trans H; with_reducible exact H2_) | with_reducible exact H | (rw [hy227]; exact H) | exact H
              have Ny227 := Aside0.mk hy227
              clear hy227
              have H' := Aside0.mk H
              clear H
              have p222 : 0 ≤ (x9_1 : Int) := of_decide_eq_true as_
              have q222 : x9_1 < (l0.length : Int) := of_decide_eq_true as_
              obtain ⟨ad222, A222_1, c222_1, e222, hx222_0, hx222_1, hx222_2, hl222_1, hi222_1⟩ := at_T36 HR0.out x9_1 p222 q222
              cases e222
              replace hx222_0 := cb_ HB.out hx222_0
              replace hx222_1 := cb_ HB.out hx222_1
              replace hx222_2 := cb_ HB.out hx222_2
              have HR222_1 := Aside0.mk hi222_1
              have HC222_1 := Aside0.mk hl222_1
              clear hi222_1 hl222_1
              replace p222 := eq_true p222
              replace q222 := eq_true q222
              go_wp2_with (first | ((with_reducible refine gate_dst (N := 5) rfl ?_); refine box_event ?hg (N := 5) ?hd (cs := #[.int .i64 0, .slice none 0 0, .int .i64 0]) (t := 36) ?hr ?_; (case hd => rfl); (case hg => rfl); (case hr => first | (go_simp; done) | (go_simp; rfl)); intro gb223 hg w9 hbox hb; have n0_ := Aside0.mk (Kd.S_below (Kd.S_elderB (by (with_reducible repeat (first | apply Kd.S_alloc | apply Kd.S_drewN | apply Kd.S_drew)); exact HO_3.out) gb223 (Nat.le_of_eq hg.symm)) hb); have n1_ := Aside0.mk (below_step (hd_ HB.out) hb); have BK223 := Aside0.mk (hbox); have GW223 := Aside0.mk ((by rw [hg]; exact (below_size (hd_ HB.out)) : w.heap.size ≤ gb223)); have GE223 := Aside0.mk ((by rw [hg]; exact (below_size (hd_ HB.out)) : w.heap.size ≤ gb223)); clear HO_3; clear HB; have HO_3 := n0_; have HB := n1_; clear n0_ n1_; clear hb hbox hg; obtain ⟨hcz10_0, hcz10_1, hcz10_2⟩ := e90_ BK223.out; obtain ⟨hfz10_0, hfz10_1, hfz10_2⟩ := z91_ BK223.out) | ((with_reducible refine gate_callee (f := 55) rfl ?_); refine goesL_ (some 15) rfl rfl Try.func55 (by kernel_rfl) rfl #[.slice A222_1 ((rd_T36 l0 x9_1).f1).length c222_1] rfl ma_ ?_; (with_reducible refine (impl_Mark.calls _ _ ((rd_T36 l0 x9_1).f1) t224 _ ?side1 ?side2 A7.out).mono ?_); (case side1 => exact Kd.C_below HR222_1.out y92_); (case side2 => exact HC222_1.out); rintro e w11 ⟨v225, rfl, ho0, hb⟩; refine ⟨_, rfl, ?_⟩; have n0_ := Aside0.mk (Kd.S_elder' (by (with_reducible repeat (first | apply Kd.S_alloc | apply Kd.S_drewN | apply Kd.S_drew)); exact (Kd.S_mono (Kd.S_far (p := ⟨gb223, 2, none⟩) (Kd.S_far (p := ⟨gb223, 1, none⟩) (Kd.S_far (p := ⟨gb223, 0, none⟩) (Kd.S_mono HO_3.out (fun k_ hk => (⟨hk, hk.2⟩ : _ ∧ k_ ≠ gb223))) (fun _ hk => hk.2) (.int .i64 ((rd_T36 l0 x9_1).f0))) (fun _ hk => hk.2) (.slice A222_1 ((rd_T36 l0 x9_1).f1).length c222_1)) (fun _ hk => hk.2) (.int .i64 ((rd_T36 l0 x9_1).f2))) (fun _ h_ => h_.1))) (Kd.R_base ho0) hb); have HO226 := Aside0.mk (Kd.R_lower ho0 (below_size y92_)); have n2_ := Aside0.mk (blk_below (g := gb223) (o := .cells #[.int .i64 ((rd_T36 l0 x9_1).f0), .slice A222_1 ((rd_T36 l0 x9_1).f1).length c222_1, .int .i64 ((rd_T36 l0 x9_1).f2)] 36 (0, 0)) (by (with_reducible repeat (first | refine blk_drewN ?_ _ | refine blk_drew ?_ | refine blk_alloc ?_ _)); refine blk_put (cs := #[.int .i64 ((rd_T36 l0 x9_1).f0), .slice A222_1 ((rd_T36 l0 x9_1).f1).length c222_1, .int .i64 0]) ?_ 2 _ rfl; (with_reducible repeat (first | refine blk_drewN ?_ _ | refine blk_drew ?_ | refine blk_alloc ?_ _)); refine blk_put (cs := #[.int .i64 ((rd_T36 l0 x9_1).f0), .slice none 0 0, .int .i64 0]) ?_ 1 _ rfl; (with_reducible repeat (first | refine blk_drewN ?_ _ | refine blk_drew ?_ | refine blk_alloc ?_ _)); refine blk_put (cs := #[.int .i64 0, .slice none 0 0, .int .i64 0]) ?_ 0 _ rfl; (with_reducible repeat (first | refine blk_drewN ?_ _ | refine blk_drew ?_ | refine blk_alloc ?_ _)); exact BK223.out) hb); have n3_ := Aside0.mk (below_step y92_ hb); clear HO_3; clear BK223; clear HB; have HO_3 := n0_; have BK223 := n2_; have HB := n3_; clear n0_ n2_ n3_; (try clear hb); (try clear hb2); (try clear hk); (try clear hi); (try clear ho0); obtain ⟨Ao12, co12, eo12⟩ := Kd.R_slice HO226.out; subst eo12; have hcz13_0 : w11.cell? ⟨gb223, 0, none⟩ = some (.int .i64 ((rd_T36 l0 x9_1).f0)) := (blk_cell BK223.out 0).trans rfl; have hcz13_1 : w11.cell? ⟨gb223, 1, none⟩ = some (.slice A222_1 ((rd_T36 l0 x9_1).f1).length c222_1) := (blk_cell BK223.out 1).trans rfl; have hcz13_2 : w11.cell? ⟨gb223, 2, none⟩ = some (.int .i64 ((rd_T36 l0 x9_1).f2)) := (blk_cell BK223.out 2).trans rfl; obtain ⟨hfz13_0, hfz13_1, hfz13_2⟩ := z91_ BK223.out) | ((with_reducible refine gate_store (t := 34) (p := 16) rfl ?_); refine store_event (t := 34) (p := 16) (v := ?vo_w14) (w1 := (w11.setCell ⟨gb223, 1, none⟩ (.slice Ao12 t224.length co12))) ?hg ?ho ?hn ?hr ?_; (case ho => rfl); (case hg => rfl); (case hn => rfl); (case hr => first | (go_simp; done) | (go_simp; rfl)); intro w14 hw; have n0_ : Aside0 (Kd.S k36 36 w14 w.heap.size (fun k_ => some k_ ≠ (.slice Ao12 t224.length co12 : Value).ownBlock ∧ k_ ≠ gb223) u3 x3_1) := ⟨(by rw [hw]; exact (by (with_reducible repeat (first | apply Kd.S_alloc | apply Kd.S_drewN | apply Kd.S_drew)); exact Kd.S_mono (Kd.S_far (p := ⟨gb223, 1, none⟩) (Kd.S_mono HO_3.out (fun k_ hk => (⟨hk, hk.1.2⟩ : _ ∧ k_ ≠ gb223))) (fun _ hk => hk.2) (.slice Ao12 t224.length co12)) (fun _ hk => ⟨hk.1.2, hk.1.1.2⟩)))⟩; have n1_ : Aside0 (Kd.R k67 67 w14 w.heap.size (fun _ => True) (.slice Ao12 t224.length co12) t224) := ⟨(by rw [hw]; exact (by (with_reducible repeat (first | apply Kd.R_alloc | apply Kd.R_drewN | apply Kd.R_drew)); exact Kd.R_mono (Kd.R_far (p := ⟨gb223, 1, none⟩) (Kd.R_types HO226.out BK223.out (by decide)) (fun _ hk => hk.2) (.slice Ao12 t224.length co12)) (fun _ hk => trivial)))⟩; have n2_ : Aside0 (w14.heap[gb223]? = some (.cells #[.int .i64 ((rd_T36 l0 x9_1).f0), .slice Ao12 t224.length co12, .int .i64 ((rd_T36 l0 x9_1).f2)] 36 (0, 0))) := ⟨(by rw [hw]; exact (by (with_reducible repeat (first | refine blk_drewN ?_ _ | refine blk_drew ?_ | refine blk_alloc ?_ _)); refine blk_put (cs := #[.int .i64 ((rd_T36 l0 x9_1).f0), .slice A222_1 ((rd_T36 l0 x9_1).f1).length c222_1, .int .i64 ((rd_T36 l0 x9_1).f2)]) ?_ 1 _ rfl; (with_reducible repeat (first | refine blk_drewN ?_ _ | refine blk_drew ?_ | refine blk_alloc ?_ _)); exact BK223.out))⟩; have n3_ : Aside0 (Below w.heap.size w w14) := ⟨(by rw [hw]; exact y92_)⟩; clear hw; clear HO_3; clear HO226; clear BK223; clear HB; have HO_3 := n0_; have HO226 := n1_; have BK223 := n2_; have HB := n3_; clear n0_ n1_ n2_ n3_; have hcz15_0 : w14.cell? ⟨gb223, 0, none⟩ = some (.int .i64 ((rd_T36 l0 x9_1).f0)) := (blk_cell BK223.out 0).trans rfl; have hcz15_1 : w14.cell? ⟨gb223, 1, none⟩ = some (.slice Ao12 t224.length co12) := (blk_cell BK223.out 1).trans rfl; have hcz15_2 : w14.cell? ⟨gb223, 2, none⟩ = some (.int .i64 ((rd_T36 l0 x9_1).f2)) := (blk_cell BK223.out 2).trans rfl; obtain ⟨hfz15_0, hfz15_1, hfz15_2⟩ := z91_ BK223.out) | ((with_reducible refine gate_builtin (b := .append) (xs := #[.tmp 17, .tmp 19]) rfl ?_); at_builtin; refine Kd.S_append k36 (w0 := w) w.heap.size rfl (.tmp 17) (.tmp 19) 25 36 (.agg #[(.int .i64 0), (.slice none 0 0), (.int .i64 0)]) 40 rfl Try.underlying25 info36 rfl (by decide) (by omega) u3 x3_1 (⟨(rd_T36 l0 x9_1).f0, t224, (rd_T36 l0 x9_1).f2⟩ : S36) [.int .i64 ((rd_T36 l0 x9_1).f0), .slice Ao12 t224.length co12, .int .i64 ((rd_T36 l0 x9_1).f2)] (fun k_ => k_ ≠ gb223) (fun k_ => some k_ = (.slice Ao12 t224.length co12 : Value).ownBlock) rfl rfl ?aP (fun k_ hk_ => ((Kd.R_mono (ok' := fun k_ => ((fun k_ => k_ ≠ gb223)) k_ ∧ some k_ ≠ (u3 : Value).ownBlock) (Kd.R_types (Kd.R_apart' (HO226.out) (Kd.S_typed HO_3.out) (by decide)) BK223.out (by decide)) (fun k_ hk => ⟨hk.2, hk.1.2⟩))).1 k_ hk_.symm) ?aF ?aO ?aB ?aS ?aL ?_; (case aP => exact k36_mkM _ _ _ (⟨(rd_T36 l0 x9_1).f0, t224, (rd_T36 l0 x9_1).f2⟩ : S36) (Kd.R_mono (Kd.R_tight rfl (Kd.R_mono (ok' := fun k_ => ((fun k_ => k_ ≠ gb223)) k_ ∧ some k_ ≠ (u3 : Value).ownBlock) (Kd.R_types (Kd.R_apart' (HO226.out) (Kd.S_typed HO_3.out) (by decide)) BK223.out (by decide)) (fun k_ hk => ⟨hk.2, hk.1.2⟩))) (fun _ h_ => h_))); (case aB => exact y92_); (case aF => exact (fun k_ hk => Kd.freshB (g := gb223) (o := .cells #[.int .i64 ((rd_T36 l0 x9_1).f0), .slice Ao12 t224.length co12, .int .i64 ((rd_T36 l0 x9_1).f2)] 36 (0, 0)) (bd_ BK223.out) k_ hk)); (case aO => exact (by (with_reducible repeat (first | apply Kd.S_alloc | apply Kd.S_drewN | apply Kd.S_drew)); exact Kd.S_mono HO_3.out (fun k_ hk => ⟨hk.2, fun e_ => hk.1 e_⟩))); (case aS => exact (below_size y92_)); (case aL => have := LMc8.out; omega); intro v228 w16 ho hb hg hat; rw [← Ny227.out] at ho; have n0_ := Aside0.mk (blk_grown (g := gb223) (o := .cells #[.int .i64 ((rd_T36 l0 x9_1).f0), .slice Ao12 t224.length co12, .int .i64 ((rd_T36 l0 x9_1).f2)] 36 (0, 0)) (bd_ BK223.out) hg (Kd.S_away HO_3.out (fun _ hk => hk.2))); have n1_ := Aside0.mk (hb); have HO229 := Aside0.mk (ho); clear BK223; clear HB; clear HO_3; clear HO226; have BK223 := n0_; have HB := n1_; clear n0_ n1_; clear ho hb hg hat))
              go_roundg k1
              case measure => have := HK1.out; omega
              case rel => exact ⟨(y227), (wrap64 (x9_1 + 1)), (by first | rfl | (simp; done) | (simp [*]; done)), H', ⟨by have := HK1.out; omega⟩, ⟨by (with_reducible repeat (first | apply Kd.S_alloc | apply Kd.S_drewN | apply Kd.S_drew)); exact Kd.S_mono HO229.out (fun _ hk => trivial)⟩, ⟨by repeat (first | (with_reducible first | exact HB.out | apply below_alloc | apply pw_below_drewN | apply below_drew1 | refine below_set ?_ GE223.out) | exact HB.out)⟩⟩
            · rw [if_neg c8] at H
              exact absurd H (by simp)
          · rw [if_neg c6] at H
            exact absurd H (by simp)
        · rw [if_neg c5] at H
          exact absurd H (by simp)
      · rw [if_neg c4] at H
        have c4b0 : decide (x9_1 < (l0.length : Int)) = false := decide_eq_false c4
        clear c4
        obtain rfl := Option.some.inj H
        go_wp2
        go_ret
        exact ⟨_, by first | rfl | (simp [errW_none, errW_some] <;> rfl) | (simp [*, errW_none, errW_some] <;> rfl), by (with_reducible repeat (first | apply Kd.S_alloc | apply Kd.S_drewN | apply Kd.S_drew)); exact HO_3.out, hd_ HB.out⟩

/-! ### impl_Secret_60: function 60 -/
open Classical in
/-- slices.Insert of one element: its blocks (okv) are none of the row's. -/
theorem impl_Secret_60.own (l0 : List S36) (u0 : Value) (i : Nat) (x : S36) (vb : Nat) (v1 : Value) (P0 okv : Nat → Prop) (base : Nat) (w : World) (ho0 : Kd.S k36 36 w base P0 u0 l0) (hv : w.heap[vb]? = some (.cells #[.int .i64 x.f0, v1, .int .i64 x.f2] 36 (0, 0))) (hbv : ¬ P0 vb)
    (hr : k67.R 67 w base okv v1 x.f1) (hdis : ∀ k, okv k → ¬ P0 k) (hi : i ≤ l0.length) (hbig : (l0.length + 1) * 40 ≤ 140737488355328) (hbase : base ≤ w.heap.size) :
    Calls Try.prog 60 #[u0, .int .i64 i, .slice (some ⟨vb, 0, none⟩) 1 1] w fun e w' => ∃ v, e = .returned v ∧ Kd.S k36 36 w' base (fun _ => True) v (l0.take i ++ x :: l0.drop i) ∧ (∀ k, k < w.heap.size → ¬ P0 k → w'.heap[k]? = w.heap[k]?) ∧ ∀ (B : Nat) (W : World), B ≤ base → Below B W w → Below B W w' := by
  obtain ⟨f, hok0, inner, ho, hrep⟩ := ho0
  rw [List.length_zipIdx] at ho
  have hil : inner.length = l0.length * 3 := ho.1
  have hM : ∀ j y, l0[j]? = some y → k36.M w base (fun k => (P0 k ∧ some k ≠ u0.ownBlock) ∧ f k = j) y ((inner.drop (j * 3)).take 3) := fun j y hj => hrep.2 j (y, j) (Kd.zip_at hj)
  have h1i : ∀ v ∈ inner, v.oneCell' = true := by
    intro v hv
    obtain ⟨q, hq, rfl⟩ := List.mem_iff_getElem.1 hv
    have hj : q / 3 < l0.length := by omega
    have h3 := k36.K_one (k36.K_of_M (hM (q / 3) _ (List.getElem?_eq_getElem hj)))
    refine h3 _ ?_
    rw [List.mem_iff_getElem?]
    refine ⟨q % 3, ?_⟩
    rw [List.getElem?_take, if_pos (by omega), List.getElem?_drop, show q / 3 * 3 + q % 3 = q by omega, List.getElem?_eq_getElem hq]
  obtain ⟨A1, c1, e1⟩ := Kd.R_slice hr
  have h1v : ∀ v ∈ [Value.int .i64 x.f0, v1, Value.int .i64 x.f2], v.oneCell' = true := by
    intro v hv
    rw [e1] at hv
    simp only [List.mem_cons, List.not_mem_nil, or_false] at hv
    rcases hv with rfl | rfl | rfl <;> rfl
  refine (Ins.all u0 l0.length i vb base inner (.int .i64 x.f0) v1 (.int .i64 x.f2) w ho hi hbig (fun e => hbv (hok0 vb e)) hbase hv h1i h1v).mono ?_
  rintro e w' ⟨v, rfl, ho', ⟨b, hvb, hb⟩, hkeep, hbel⟩
  refine ⟨v, rfl, ?_, fun k hk hn => hkeep k hk (fun e => hn (hok0 k e.symm)), hbel⟩
  have hlen : (l0.take i ++ x :: l0.drop i).length = l0.length + 1 := by simp; omega
  have hfr : ∀ k, ((P0 k ∧ some k ≠ u0.ownBlock) ∨ okv k) → k < w.heap.size → w'.heap[k]? = w.heap[k]? := by
    intro k hk hlt
    refine hkeep k hlt (fun e => ?_)
    rcases hk with h | h
    · exact h.2 e
    · exact hdis k h (hok0 k e.symm)
  have hfn : ∀ k, ((P0 k ∧ some k ≠ u0.ownBlock) ∨ okv k) → k < w.heap.size → some k ≠ v.ownBlock := by
    intro k hk hlt e
    rw [hvb] at e
    injection e with e
    subst e
    rcases hb with hb | hb
    · rcases hk with h | h
      · exact h.2 hb.symm
      · exact hdis k h (hok0 k hb)
    · omega
  let okj : Nat → Nat → Prop := fun j k => (if j = i then okv k else (P0 k ∧ some k ≠ u0.ownBlock) ∧ f k = (if j < i then j else j - 1)) ∧ k < w.heap.size
  have hor : ∀ j k, okj j k → ((P0 k ∧ some k ≠ u0.ownBlock) ∨ okv k) := by
    intro j k hk
    have h := hk.1
    split at h
    · exact .inr h
    · exact .inl h.1
  obtain ⟨f', hf'⟩ := Kd.reps_tag (d := k36) (w := w') (base := base) (ok := fun k => True ∧ some k ≠ v.ownBlock) (xs := l0.take i ++ x :: l0.drop i) (inner := inner.take (i * 3) ++ [.int .i64 x.f0, v1, .int .i64 x.f2] ++ inner.drop (i * 3)) okj
    (fun a b k ha hb => by
      have h1 := ha.1
      have h2 := hb.1
      split at h1 <;> split at h2
      · omega
      · exact absurd h2.1.1 (hdis k h1)
      · exact absurd h1.1.1 (hdis k h2)
      · have h3 := h1.2.symm.trans h2.2
        split at h3 <;> split at h3 <;> omega)
    (fun j k hk => ⟨trivial, hfn k (hor j k hk) hk.2⟩)
    (by rw [hlen]; simp [hil]; show _ = (l0.length + 1) * 3; omega)
    (fun j y hj => by
      show k36.M w' base (okj j) y ((_ : List Value).drop (j * 3) |>.take 3)
      refine Kd.M_step (w := w) ?_ (fun k hk hlt => hfr k (hor j k hk) hlt)
      rcases Nat.lt_trichotomy j i with h | h | h
      · rw [List.getElem?_append_left (by rw [List.length_take]; omega), List.getElem?_take, if_pos h] at hj
        have hm := k36.M_bound (hM j y hj)
        rw [show ((inner.take (i * 3) ++ [Value.int .i64 x.f0, v1, Value.int .i64 x.f2] ++ inner.drop (i * 3)).drop (j * 3)).take 3 = (inner.drop (j * 3)).take 3 from by
          rw [List.append_assoc, List.drop_append_of_le_length (by rw [List.length_take]; omega), List.take_append_of_le_length (by rw [List.length_drop, List.length_take]; omega), List.drop_take, List.take_take]
          congr 1
          omega]
        exact k36.M_mono (fun k hk => ⟨by rw [if_neg (by omega), if_pos h]; exact hk.1, hk.2.2.1⟩) hm
      · subst h
        rw [List.getElem?_append_right (by rw [List.length_take]; omega), List.length_take, Nat.min_eq_left hi, Nat.sub_self, List.getElem?_cons_zero] at hj
        injection hj with hj
        subst hj
        rw [show ((inner.take (j * 3) ++ [Value.int .i64 x.f0, v1, Value.int .i64 x.f2] ++ inner.drop (j * 3)).drop (j * 3)).take 3 = [Value.int .i64 x.f0, v1, Value.int .i64 x.f2] from by
          rw [List.append_assoc, List.drop_left' (by rw [List.length_take]; omega)]
          rfl]
        exact k36_mkM w base _ x (Kd.R_mono (Kd.R_bound hr) (fun k hk => ⟨by rw [if_pos rfl]; exact hk.1, hk.2.2.1⟩))
      · rw [List.getElem?_append_right (by rw [List.length_take]; omega), List.length_take, Nat.min_eq_left hi, show j - i = (j - i - 1) + 1 by omega, List.getElem?_cons_succ, List.getElem?_drop, show i + (j - i - 1) = j - 1 by omega] at hj
        have hm := k36.M_bound (hM (j - 1) y hj)
        rw [show ((inner.take (i * 3) ++ [Value.int .i64 x.f0, v1, Value.int .i64 x.f2] ++ inner.drop (i * 3)).drop (j * 3)).take 3 = (inner.drop ((j - 1) * 3)).take 3 from by
          rw [show j * 3 = (inner.take (i * 3) ++ [Value.int .i64 x.f0, v1, Value.int .i64 x.f2]).length + ((j - 1) * 3 - i * 3) by simp; omega, List.drop_length_add_append, List.drop_drop]
          congr 2
          omega]
        exact k36.M_mono (fun k hk => ⟨by rw [if_neg (by omega), if_neg (by omega)]; exact hk.1, hk.2.2.1⟩) hm)
  exact ⟨f', fun _ _ => trivial, _, by rw [List.length_zipIdx, hlen]; exact ho', hf'⟩


/-! ### impl_PutSecret: function 31 -/
/-- Where a thing belongs. -/
def impl_PutSecret.pos : List S36 → Int → Nat
  | [], _ => 0
  | y :: l, t => if y.f0 < t then impl_PutSecret.pos l t + 1 else 0
theorem impl_PutSecret.pos_le : ∀ (l : List S36) (t : Int), impl_PutSecret.pos l t ≤ l.length
  | [], _ => Nat.le_refl _
  | y :: l, t => by
    rw [impl_PutSecret.pos]
    split
    · rw [List.length_cons]; exact Nat.succ_le_succ (impl_PutSecret.pos_le l t)
    · exact Nat.zero_le _
def impl_PutSecret.f (k : Nat) (l0 : List S36) (a1_0 : Int) (l1_1 : List S67) (a1_2 : Int) : Option (List S36 × Bool) := (impl_cloneSecrets.f k l0).bind fun y => ((impl_secretOf.f l0 a1_0).bind fun s => (if s ≥ 0 then (some (y, false)) else ((impl_Mark.f l1_1).bind fun m => (if impl_PutSecret.pos l0 a1_0 ≤ y.length ∧ (y.length + 1) * 40 ≤ 140737488355328 then ((impl_AreSecrets.f k (y.take (impl_PutSecret.pos l0 a1_0) ++ (⟨a1_0, m, a1_2⟩ : S36) :: y.drop (impl_PutSecret.pos l0 a1_0))).bind fun b => (if b = true then (some (y.take (impl_PutSecret.pos l0 a1_0) ++ (⟨a1_0, m, a1_2⟩ : S36) :: y.drop (impl_PutSecret.pos l0 a1_0), true)) else ((impl_cloneSecrets.f k l0).bind fun z => (some (z, false))))) else (none)))))
theorem impl_PutSecret.mono : ∀ a0 a1 a2 a3 k, LeO (impl_PutSecret.f k a0 a1 a2 a3) (impl_PutSecret.f (k + 1) a0 a1 a2 a3) := by
  intro a0 a1 a2 a3 k
  unfold impl_PutSecret.f
  repeat' first
    | (with_reducible exact impl_cloneSecrets.mono _ _)
    | (with_reducible exact impl_AreSecrets.mono _ _)
    | (with_reducible exact LeO.refl _)
    | (with_reducible exact LeO.none _)
    | (with_reducible refine LeO.ite ?_ ?_)
    | (with_reducible refine LeO.bind ?_ (fun _ => ?_))
theorem impl_PutSecret.rng {w : World} {b base : Nat} {ok : Nat → Prop} {v : Value} {xs : List S36} (h : Kd.S k36 36 w base ok v xs) (hb : b ≤ base) : Kd.S k36 36 w b (fun q => base ≤ q ∧ q < w.heap.size) v xs := by
  obtain ⟨f, hR⟩ := h
  exact ⟨f, Kd.R_lower (Kd.R_mono (Kd.R_bound hR) (fun q hq => ⟨hq.2.1, hq.2.2.1⟩)) hb⟩
theorem impl_PutSecret.stp {w w1 : World} {base : Nat} {ok : Nat → Prop} {v : Value} {xs : List S36} (h : Kd.S k36 36 w base ok v xs) (hm : ∀ q, ok q → q < w.heap.size → w1.heap[q]? = w.heap[q]?) : Kd.S k36 36 w1 base ok v xs := by
  obtain ⟨f, hR⟩ := h
  exact ⟨f, Kd.R_step hR hm⟩
theorem impl_PutSecret.pos_at (l : List S36) (t z : Int) (h0 : 0 ≤ z) (h1 : z < l.length) : impl_PutSecret.pos (l.drop z.toNat) t = if (rd_T36 l z).f0 < t then impl_PutSecret.pos (l.drop (z + 1).toNat) t + 1 else 0 := by
  have hl : z.toNat < l.length := by omega
  rw [List.drop_eq_getElem_cons hl, show (z + 1).toNat = z.toNat + 1 by omega, show rd_T36 l z = l[z.toNat] from by unfold rd_T36; rw [List.getD_eq_getElem?_getD, List.getElem?_eq_getElem hl]; rfl]
  rfl
set_option maxHeartbeats 8000000 in
set_option maxRecDepth 100000 in
theorem impl_PutSecret.calls (k : Nat) (A0 : Option Addr) (c0 : Nat) (l0 : List (S36)) (a1_0 : Int) (A1_1 : Option Addr) (c1_1 : Nat) (l1_1 : List (S67)) (a1_2 : Int) (r1 : List (S36)) (r2 : Bool) (w : World) (hr0 : Kd.C k36 w A0 l0.length l0) (hc0 : l0.length ≤ c0) (hr1_1 : Kd.C k67 w A1_1 l1_1.length l1_1) (hc1_1 : l1_1.length ≤ c1_1) (h : impl_PutSecret.f k l0 a1_0 l1_1 a1_2 = some (r1, r2)) :
    Calls Try.prog 31 #[.slice A0 l0.length c0, .agg #[.int .i64 a1_0, .slice A1_1 l1_1.length c1_1, .int .i64 a1_2]] w fun e w' => ∃ v0_ : Value, e = .returned (.tuple #[v0_, .bool r2]) ∧ Kd.S k36 36 w' w.heap.size (fun _ => True) v0_ r1 ∧ Below w.heap.size w w' := by
  have hu36 := Try.underlying36
  have HR0 := Aside0.mk hr0
  have HC0 := Aside0.mk hc0
  have HR1 := Aside0.mk hr1_1
  have HC1 := Aside0.mk hc1_1
  have hmax := Kd.C_max hr0
  unfold impl_PutSecret.f at h
  obtain ⟨y, hy, h⟩ := Option.bind_eq_some_iff.mp h
  obtain ⟨s, hs, h⟩ := Option.bind_eq_some_iff.mp h
  have HY := Aside0.mk hy
  have HS := Aside0.mk hs
  have H := Aside0.mk h
  have HB := Aside0.mk (Below.refl w.heap.size w)
  clear hr0 hc0 hr1_1 hc1_1 hy hs h
  go_enter Try.func31, Try.ntmps31
  go_upto_if 14 with (first | ((with_reducible refine gate_dst (N := 3) rfl ?_); refine box_event ?hg (N := 3) ?hd (cs := #[.int .i64 a1_0, .slice A1_1 l1_1.length c1_1, .int .i64 a1_2]) (t := 36) ?hr ?_; (case hd => rfl); (case hg => rfl); (case hr => first | (go_simp; done) | (go_simp; rfl)); intro gb hg w1 hbox hb; have n0_ := Aside0.mk (below_step HB.out hb); have BK := Aside0.mk hbox; have GB := Aside0.mk (show w.heap.size ≤ gb by rw [hg]; exact below_size HB.out); clear HB; have HB := n0_; clear n0_ hb hbox hg) | (go_at_call 59; refine (impl_cloneSecrets.calls k _ _ l0 y _ (Kd.C_below HR0.out HB.out) HC0.out HY.out).mono ?_; rintro e w2 ⟨v2, rfl, hs2, hb⟩; have HW1 := Aside0.mk (blk_lt BK.out); have HS2 := Aside0.mk (impl_PutSecret.rng hs2 (below_size HB.out)); have HT := Aside0.mk (Nat.le_refl w2.heap.size); have HW2 := Aside0.mk hb.size; have n0_ := Aside0.mk (below_step HB.out hb); have n1_ := Aside0.mk (blk_below BK.out hb); clear HB BK; have HB := n0_; have BK := n1_; clear n0_ n1_ hs2 hb; have hx0 := (blk_cell BK.out 0).trans (show (#[.int .i64 a1_0, .slice A1_1 l1_1.length c1_1, .int .i64 a1_2] : Array Value)[0]? = some (.int .i64 a1_0) from rfl)) | (go_at_call 54; refine (impl_secretOf.calls _ _ l0 a1_0 s _ (Kd.C_below HR0.out HB.out) HC0.out HS.out).mono ?_; rintro e w3 ⟨rfl, hb⟩; have n0_ := Aside0.mk (below_step HB.out hb); have n1_ := Aside0.mk (blk_below BK.out hb); have n2_ := Aside0.mk (Kd.S_below HS2.out hb); have n3_ := Aside0.mk (Nat.le_trans HT.out hb.size); clear HB BK HS2 HT; have HB := n0_; have BK := n1_; have HS2 := n2_; have HT := n3_; clear n0_ n1_ n2_ n3_ hb hx0))
  by_cases c1 : s ≥ 0
  · have hd : decide (0 ≤ s) = true := decide_eq_true c1
    have h := H.out
    rw [if_pos c1] at h
    simp only [Option.some.injEq, Prod.mk.injEq] at h
    obtain ⟨rfl, rfl⟩ := h
    clear c1 H
    rw [hd]
    go_wp2
    go_ret2
    exact ⟨v2, rfl, Kd.S_mono HS2.out (fun _ _ => trivial), HB.out⟩
  · have hd : decide (0 ≤ s) = false := decide_eq_false c1
    have h := H.out
    rw [if_neg c1] at h
    obtain ⟨m, hm, h⟩ := Option.bind_eq_some_iff.mp h
    have HM := Aside0.mk hm
    have H2 := Aside0.mk h
    clear c1 H h hm
    rw [hd]
    go_upto_block 0 with (fail)
    go_cut [7] (fun v7 wc => v7 = .int .i64 (impl_PutSecret.pos l0 a1_0 : Nat) ∧ Aside0 (Below w.heap.size w wc) ∧ Aside0 (wc.heap[gb]? = some (.cells #[.int .i64 a1_0, .slice A1_1 l1_1.length c1_1, .int .i64 a1_2] 36 (0, 0))) ∧ Aside0 (Kd.S k36 36 wc w.heap.size (fun q => w1.heap.size ≤ q ∧ q < w2.heap.size) v2 y) ∧ Aside0 (w2.heap.size ≤ wc.heap.size))
    case first =>
      go_wp2
      go_loopg [7] l0.length (fun gg v7 wr => ∃ z : Int, v7 = .int .i64 z ∧ Aside0 (0 ≤ z) ∧ Aside0 (z ≤ (l0.length : Int)) ∧ Aside0 ((l0.length : Int) - z ≤ gg) ∧ Aside0 (z + (impl_PutSecret.pos (l0.drop z.toNat) a1_0 : Nat) = (impl_PutSecret.pos l0 a1_0 : Nat)) ∧ Aside0 (Below w.heap.size w wr) ∧ Aside0 (wr.heap[gb]? = some (.cells #[.int .i64 a1_0, .slice A1_1 l1_1.length c1_1, .int .i64 a1_2] 36 (0, 0))) ∧ Aside0 (Kd.S k36 36 wr w.heap.size (fun q => w1.heap.size ≤ q ∧ q < w2.heap.size) v2 y) ∧ Aside0 (w2.heap.size ≤ wr.heap.size))
      case atStart => exact ⟨0, rfl, ⟨by omega⟩, ⟨by omega⟩, ⟨by omega⟩, ⟨by simp⟩, HB, BK, HS2, HT⟩
      case round =>
        clear HB BK HS2 HT
        obtain ⟨z, rfl, Z0, Z1, ZG, ZP, HB, BK, HS2, HT⟩ := hrel
        have hx0 := (blk_cell BK.out 0).trans (show (#[.int .i64 a1_0, .slice A1_1 l1_1.length c1_1, .int .i64 a1_2] : Array Value)[0]? = some (.int .i64 a1_0) from rfl)
        by_cases hlt : z < (l0.length : Int)
        · have p1 : 0 ≤ z := Z0.out
          have PA := Aside0.mk (impl_PutSecret.pos_at l0 a1_0 z p1 hlt)
          obtain ⟨ad, A_, c_, e, hx1, hx2, hx3, _, _⟩ := at_T36 HR0.out z p1 hlt
          cases e
          replace hx1 := pw_cell_below HB.out hx1
          clear hx2 hx3
          have HL := Aside0.mk hlt
          have hltb : decide (z < (l0.length : Int)) = true := decide_eq_true hlt
          have hwr : wrap64 (z + 1) = z + 1 := by unfold wrap64; omega
          by_cases c2 : (rd_T36 l0 z).f0 < a1_0
          · have c2b : decide ((rd_T36 l0 z).f0 < a1_0) = true := decide_eq_true c2
            have PB := Aside0.mk (PA.out.trans (if_pos c2))
            clear c2 PA
            replace p1 := eq_true p1
            replace hlt := eq_true hlt
            go_wp2
            go_quiet (fail)
            go_wp2
            go_roundg ((l0.length : Int) - (z + 1)).toNat
            case measure => have := Z0.out; have := HL.out; have := ZG.out; omega
            case rel =>
              exact ⟨z + 1, (by first | rfl | (simp; done) | (simp [*]; done)), ⟨by have := Z0.out; omega⟩, ⟨by have := HL.out; omega⟩, ⟨by have := HL.out; omega⟩, ⟨by have := ZP.out; have := PB.out; omega⟩, ⟨pw_below_drewN HB.out _⟩, ⟨blk_drewN BK.out _⟩, ⟨Kd.S_drewN HS2.out _⟩, ⟨HT.out⟩⟩
          · have c2b : decide ((rd_T36 l0 z).f0 < a1_0) = false := decide_eq_false c2
            have PB := Aside0.mk (PA.out.trans (if_neg c2))
            clear c2 PA
            replace p1 := eq_true p1
            replace hlt := eq_true hlt
            go_wp2
            go_quiet (fail)
            go_wp2
            go_meet
            case rel =>
              exact ⟨by rw [show z = (impl_PutSecret.pos l0 a1_0 : Nat) by have := ZP.out; have := PB.out; omega], ⟨pw_below_drewN HB.out _⟩, ⟨blk_drewN BK.out _⟩, ⟨Kd.S_drewN HS2.out _⟩, ⟨HT.out⟩⟩
        · have hltb : decide (z < (l0.length : Int)) = false := decide_eq_false hlt
          have PB := Aside0.mk (show z = (impl_PutSecret.pos l0 a1_0 : Nat) by
            have h1 := ZP.out
            rw [List.drop_eq_nil_of_le (by have := Z1.out; omega)] at h1
            simpa [impl_PutSecret.pos] using h1)
          clear hlt
          go_wp2
          go_quiet (fail)
          go_wp2
          go_meet
          case rel =>
            exact ⟨by rw [PB.out], ⟨pw_below_drewN HB.out _⟩, ⟨blk_drewN BK.out _⟩, ⟨Kd.S_drewN HS2.out _⟩, ⟨HT.out⟩⟩
    case rest =>
      clear HB BK HS2 HT
      obtain ⟨rfl, HB, BK, HS2, HT⟩ := hcut
      have hx1 := (blk_cell BK.out 1).trans (show (#[.int .i64 a1_0, .slice A1_1 l1_1.length c1_1, .int .i64 a1_2] : Array Value)[1]? = some (.slice A1_1 l1_1.length c1_1) from rfl)
      have h := H2.out
      by_cases cp : impl_PutSecret.pos l0 a1_0 ≤ y.length ∧ (y.length + 1) * 40 ≤ 140737488355328
      · rw [if_pos cp] at h
        obtain ⟨b, hb, h⟩ := Option.bind_eq_some_iff.mp h
        obtain ⟨out, hout⟩ : ∃ out, out = y.take (impl_PutSecret.pos l0 a1_0) ++ (⟨a1_0, m, a1_2⟩ : S36) :: y.drop (impl_PutSecret.pos l0 a1_0) := ⟨_, rfl⟩
        rw [← hout] at hb h
        have HO := Aside0.mk hout
        have HA := Aside0.mk hb
        have HP := Aside0.mk cp.1
        have HG := Aside0.mk cp.2
        clear hout hb cp H2
        cases b with
        | true =>
          rw [if_pos rfl] at h
          simp only [Option.some.injEq, Prod.mk.injEq] at h
          obtain ⟨rfl, rfl⟩ := h
          go_wp2_with (first | (go_at_call 55; refine (impl_Mark.calls _ _ l1_1 m _ (Kd.C_below HR1.out HB.out) HC1.out HM.out).mono ?_; rintro e w5 ⟨v5, rfl, hr5, hb⟩; obtain ⟨A5, c5, e5⟩ := Kd.R_slice hr5; subst e5; have n0_ := Aside0.mk (below_step HB.out hb); have n1_ := Aside0.mk (blk_below BK.out hb); have n2_ := Aside0.mk (Kd.S_below HS2.out hb); have HR5 := Aside0.mk (Kd.R_mono (Kd.R_lower (Kd.R_bound hr5) (below_size HB.out)) (ok' := fun q => w2.heap.size ≤ q ∧ q < w5.heap.size) (fun q hq => ⟨Nat.le_trans HT.out hq.2.1, hq.2.2.1⟩)); have n3_ := Aside0.mk (Nat.le_trans HT.out hb.size); clear HB BK HS2 HT hx1; have HB := n0_; have BK := n1_; have HS2 := n2_; have HT := n3_; clear n0_ n1_ n2_ n3_ hb hr5; have hx1 := (blk_cell BK.out 1).trans (show (#[.int .i64 a1_0, .slice A1_1 l1_1.length c1_1, .int .i64 a1_2] : Array Value)[1]? = some (.slice A1_1 l1_1.length c1_1) from rfl); have hf1 := blk_frozen BK.out 1) | ((with_reducible refine gate_store (t := 34) (p := 35) rfl ?_); refine store_event (t := 34) (p := 35) (v := ?vo_w6) (w1 := (w5.setCell ⟨gb, 1, none⟩ (.slice A5 m.length c5))) ?hg ?ho ?hn ?hr ?_; (case ho => rfl); (case hg => rfl); (case hn => rfl); (case hr => first | (go_simp; done) | (go_simp; rfl)); intro w6 hw; have n0_ := Aside0.mk (show Below w.heap.size w w6 by rw [hw]; exact below_set HB.out GB.out); have n1_ := Aside0.mk (show w6.heap[gb]? = some (.cells #[.int .i64 a1_0, .slice A5 m.length c5, .int .i64 a1_2] 36 (0, 0)) by rw [hw]; exact heap_setCell_same w5 gb 1 _ 36 _ BK.out); have n2_ := Aside0.mk (impl_PutSecret.stp (w1 := w6) HS2.out (fun q hq _ => by rw [hw]; exact Below.heap_setCell _ _ _ _ (by have := HW1.out; show q ≠ gb; omega))); have n3_ := Aside0.mk (Kd.R_step (w1 := w6) HR5.out (fun q hq _ => by rw [hw]; exact Below.heap_setCell _ _ _ _ (by have := HW1.out; have := HW2.out; show q ≠ gb; omega))); have n4_ := Aside0.mk (show w2.heap.size ≤ w6.heap.size by rw [hw]; simpa [World.setCell] using HT.out); have HT5 := Aside0.mk (show w5.heap.size ≤ w6.heap.size by rw [hw]; simp [World.setCell]); clear HB BK HS2 HR5 HT hx1 hf1 hw; have HB := n0_; have BK := n1_; have HS2 := n2_; have HR5 := n3_; have HT := n4_; clear n0_ n1_ n2_ n3_ n4_; have hx0 := (blk_cell BK.out 0).trans (show (#[.int .i64 a1_0, .slice A5 m.length c5, .int .i64 a1_2] : Array Value)[0]? = some (.int .i64 a1_0) from rfl); have hx1 := (blk_cell BK.out 1).trans (show (#[.int .i64 a1_0, .slice A5 m.length c5, .int .i64 a1_2] : Array Value)[1]? = some (.slice A5 m.length c5) from rfl); have hx2 := (blk_cell BK.out 2).trans (show (#[.int .i64 a1_0, .slice A5 m.length c5, .int .i64 a1_2] : Array Value)[2]? = some (.int .i64 a1_2) from rfl)) | (go_at_call 60; refine (impl_Secret_60.own y v2 (impl_PutSecret.pos l0 a1_0) ⟨a1_0, m, a1_2⟩ w6.heap.size (.slice A5 m.length c5) (fun q => w1.heap.size ≤ q ∧ q < w2.heap.size) (fun q => w2.heap.size ≤ q ∧ q < w5.heap.size) w.heap.size _ (Kd.S_alloc HS2.out _) (heap_alloc_new w6 _) (fun hq => by have := HT.out; omega) (Kd.R_alloc HR5.out _) (fun q h1 h2 => by omega) HP.out HG.out (below_size (below_alloc HB.out _))).mono ?_; rintro e w8 ⟨v8, rfl, hs8, _, hbel⟩; rw [← HO.out] at hs8; have HS8 := Aside0.mk hs8; have n0_ := Aside0.mk (hbel _ _ (Nat.le_refl _) (below_alloc HB.out _)); clear HB HS2 HR5 HT HT5 BK hx0 hx1 hx2 hs8 hbel; have HB := n0_; clear n0_; obtain ⟨A8, c8, e8⟩ := Kd.S_slice HS8.out; subst e8) | (go_at_call 13; refine (impl_AreSecrets.calls k _ _ out _ _ (Kd.S_reads' HS8.out).2.2 (Kd.S_reads' HS8.out).2.1 HA.out).mono ?_; rintro e w9 ⟨rfl, hb⟩; have n0_ := Aside0.mk (below_step HB.out hb); have n1_ := Aside0.mk (Kd.S_below HS8.out hb); clear HB HS8; have HB := n0_; have HS8 := n1_; clear n0_ n1_ hb))
          go_ret2
          exact ⟨_, rfl, Kd.S_mono HS8.out (fun _ _ => trivial), HB.out⟩
        | false =>
          rw [if_neg (by simp)] at h
          obtain ⟨z, hz, h⟩ := Option.bind_eq_some_iff.mp h
          simp only [Option.some.injEq, Prod.mk.injEq] at h
          obtain ⟨rfl, rfl⟩ := h
          have HZ := Aside0.mk hz
          clear hz
          go_wp2_with (first | (go_at_call 55; refine (impl_Mark.calls _ _ l1_1 m _ (Kd.C_below HR1.out HB.out) HC1.out HM.out).mono ?_; rintro e w5 ⟨v5, rfl, hr5, hb⟩; obtain ⟨A5, c5, e5⟩ := Kd.R_slice hr5; subst e5; have n0_ := Aside0.mk (below_step HB.out hb); have n1_ := Aside0.mk (blk_below BK.out hb); have n2_ := Aside0.mk (Kd.S_below HS2.out hb); have HR5 := Aside0.mk (Kd.R_mono (Kd.R_lower (Kd.R_bound hr5) (below_size HB.out)) (ok' := fun q => w2.heap.size ≤ q ∧ q < w5.heap.size) (fun q hq => ⟨Nat.le_trans HT.out hq.2.1, hq.2.2.1⟩)); have n3_ := Aside0.mk (Nat.le_trans HT.out hb.size); clear HB BK HS2 HT hx1; have HB := n0_; have BK := n1_; have HS2 := n2_; have HT := n3_; clear n0_ n1_ n2_ n3_ hb hr5; have hx1 := (blk_cell BK.out 1).trans (show (#[.int .i64 a1_0, .slice A1_1 l1_1.length c1_1, .int .i64 a1_2] : Array Value)[1]? = some (.slice A1_1 l1_1.length c1_1) from rfl); have hf1 := blk_frozen BK.out 1) | ((with_reducible refine gate_store (t := 34) (p := 35) rfl ?_); refine store_event (t := 34) (p := 35) (v := ?vo_w6) (w1 := (w5.setCell ⟨gb, 1, none⟩ (.slice A5 m.length c5))) ?hg ?ho ?hn ?hr ?_; (case ho => rfl); (case hg => rfl); (case hn => rfl); (case hr => first | (go_simp; done) | (go_simp; rfl)); intro w6 hw; have n0_ := Aside0.mk (show Below w.heap.size w w6 by rw [hw]; exact below_set HB.out GB.out); have n1_ := Aside0.mk (show w6.heap[gb]? = some (.cells #[.int .i64 a1_0, .slice A5 m.length c5, .int .i64 a1_2] 36 (0, 0)) by rw [hw]; exact heap_setCell_same w5 gb 1 _ 36 _ BK.out); have n2_ := Aside0.mk (impl_PutSecret.stp (w1 := w6) HS2.out (fun q hq _ => by rw [hw]; exact Below.heap_setCell _ _ _ _ (by have := HW1.out; show q ≠ gb; omega))); have n3_ := Aside0.mk (Kd.R_step (w1 := w6) HR5.out (fun q hq _ => by rw [hw]; exact Below.heap_setCell _ _ _ _ (by have := HW1.out; have := HW2.out; show q ≠ gb; omega))); have n4_ := Aside0.mk (show w2.heap.size ≤ w6.heap.size by rw [hw]; simpa [World.setCell] using HT.out); have HT5 := Aside0.mk (show w5.heap.size ≤ w6.heap.size by rw [hw]; simp [World.setCell]); clear HB BK HS2 HR5 HT hx1 hf1 hw; have HB := n0_; have BK := n1_; have HS2 := n2_; have HR5 := n3_; have HT := n4_; clear n0_ n1_ n2_ n3_ n4_; have hx0 := (blk_cell BK.out 0).trans (show (#[.int .i64 a1_0, .slice A5 m.length c5, .int .i64 a1_2] : Array Value)[0]? = some (.int .i64 a1_0) from rfl); have hx1 := (blk_cell BK.out 1).trans (show (#[.int .i64 a1_0, .slice A5 m.length c5, .int .i64 a1_2] : Array Value)[1]? = some (.slice A5 m.length c5) from rfl); have hx2 := (blk_cell BK.out 2).trans (show (#[.int .i64 a1_0, .slice A5 m.length c5, .int .i64 a1_2] : Array Value)[2]? = some (.int .i64 a1_2) from rfl)) | (go_at_call 60; refine (impl_Secret_60.own y v2 (impl_PutSecret.pos l0 a1_0) ⟨a1_0, m, a1_2⟩ w6.heap.size (.slice A5 m.length c5) (fun q => w1.heap.size ≤ q ∧ q < w2.heap.size) (fun q => w2.heap.size ≤ q ∧ q < w5.heap.size) w.heap.size _ (Kd.S_alloc HS2.out _) (heap_alloc_new w6 _) (fun hq => by have := HT.out; omega) (Kd.R_alloc HR5.out _) (fun q h1 h2 => by omega) HP.out HG.out (below_size (below_alloc HB.out _))).mono ?_; rintro e w8 ⟨v8, rfl, hs8, _, hbel⟩; rw [← HO.out] at hs8; have HS8 := Aside0.mk hs8; have n0_ := Aside0.mk (hbel _ _ (Nat.le_refl _) (below_alloc HB.out _)); clear HB HS2 HR5 HT HT5 BK hx0 hx1 hx2 hs8 hbel; have HB := n0_; clear n0_; obtain ⟨A8, c8, e8⟩ := Kd.S_slice HS8.out; subst e8) | (go_at_call 13; refine (impl_AreSecrets.calls k _ _ out _ _ (Kd.S_reads' HS8.out).2.2 (Kd.S_reads' HS8.out).2.1 HA.out).mono ?_; rintro e w9 ⟨rfl, hb⟩; have n0_ := Aside0.mk (below_step HB.out hb); have n1_ := Aside0.mk (Kd.S_below HS8.out hb); clear HB HS8; have HB := n0_; have HS8 := n1_; clear n0_ n1_ hb) | (go_at_call 59; refine (impl_cloneSecrets.calls k _ _ l0 z _ (Kd.C_below HR0.out HB.out) HC0.out HZ.out).mono ?_; rintro e w10 ⟨v10, rfl, hs10, hb⟩; have HS10 := Aside0.mk (impl_PutSecret.rng hs10 (below_size HB.out)); have n0_ := Aside0.mk (below_step HB.out hb); clear HB; have HB := n0_; clear n0_ hb hs10))
          go_ret2
          exact ⟨_, rfl, Kd.S_mono HS10.out (fun _ _ => trivial), HB.out⟩
      · rw [if_neg cp] at h
        cases h


/-! ### laws_markSecret: function 32 -/
def laws_markSecret.f (k : Nat) (a0_0 : Int) (l0_1 : List (S67)) (a0_2 : Int) (a1 : Int) : Option (Int × (List (S67))) := (laws_markMarkS.f k l0_1 a1).bind fun bt231 => (some (bt231.1, bt231.2))
theorem laws_markSecret.mono : ∀ a0 a1 a2 a3 k, LeO (laws_markSecret.f k a0 a1 a2 a3) (laws_markSecret.f (k + 1) a0 a1 a2 a3) := by
  intro a0 a1 a2 a3 k
  unfold laws_markSecret.f
  repeat' first
      | (with_reducible exact laws_markMarkS.mono _ _ _)
      | (with_reducible exact LeO.refl _)
      | (with_reducible exact LeO.none _)
      | (with_reducible refine LeO.ite ?_ ?_)
      | (with_reducible refine LeO.bind ?_ (fun _ => ?_))
      | exact laws_markMarkS.mono _ _ _
      | exact LeO.none _
      | refine LeO.ite ?_ ?_
      | refine LeO.bind ?_ (fun _ => ?_)
theorem e94_ {w : World} {g : Nat} {t : TypeId} {i0 : Int} {A1 : Option Addr} {n1 c1 : Nat} {i2 : Int} (h : w.heap[g]? = some (.cells #[.int .i64 i0, .slice A1 n1 c1, .int .i64 i2] t (0, 0))) : w.cell? ⟨g, 0, none⟩ = some (.int .i64 i0) ∧ w.cell? ⟨g, 1, none⟩ = some (.slice A1 n1 c1) ∧ w.cell? ⟨g, 2, none⟩ = some (.int .i64 i2) := ⟨(blk_cell h 0).trans rfl, (blk_cell h 1).trans rfl, (blk_cell h 2).trans rfl⟩
theorem z95_ {w : World} {g : Nat} {t : TypeId} {cs : Array Value} (h : w.heap[g]? = some (.cells cs t (0, 0))) : w.frozen? ⟨g, 0, none⟩ = false ∧ w.frozen? ⟨g, 1, none⟩ = false ∧ w.frozen? ⟨g, 2, none⟩ = false := ⟨blk_frozen h 0, blk_frozen h 1, blk_frozen h 2⟩
set_option maxHeartbeats 8000000 in
set_option maxRecDepth 100000 in
theorem laws_markSecret.calls (k : Nat) (a0_0 : Int) (P0_1_ : Nat → Prop) (u9000_ : Value) (l0_1 : List (S67)) (a0_2 : Int) (a1 : Int) (r1 : Int) (r2 : List (S67)) (w0 w : World) (hB : Below w0.heap.size w0 w) (ho0_1 : Kd.R k67 67 w w0.heap.size P0_1_ u9000_ l0_1) (h : laws_markSecret.f k a0_0 l0_1 a0_2 a1 = some (r1, r2)) :
    Calls Try.prog 32 #[.agg #[.int .i64 a0_0, u9000_, .int .i64 a0_2], .int .i64 a1] w fun e w' => e = .returned (.int .i64 r1) ∧ Kd.R k67 67 w' w0.heap.size (fun k_ => (P0_1_ k_ ∨ w.heap.size ≤ k_)) u9000_ r2 ∧ Below w0.heap.size w0 w' ∧ Kept w w' (fun k_ => P0_1_ k_) := by
  have hu36 := Try.underlying36
  have HO0_1 := Aside0.mk (show Kd.R k67 67 w w0.heap.size (fun k_ => (P0_1_ k_ ∨ w.heap.size ≤ k_)) u9000_ l0_1 from Kd.R_mono ho0_1 (fun k_ hk => (.inl hk)))
  have HK := Aside0.mk (Kept.refl w (fun k_ => P0_1_ k_))
  have HW0 := Aside0.mk hB.size
  have HB := Aside0.mk hB
  clear hB
  have H : ((laws_markMarkS.f k l0_1 a1).bind fun bt231 => (some (bt231.1, bt231.2))) = some (r1, r2) := h
  clear h
  replace H := Option.bind_eq_some_iff.mp H
  obtain ⟨⟨t231, t232⟩, A30, H⟩ := H
  replace H : (some (t231, t232)) = some (r1, r2) := H
  have A3 := Aside0.mk A30
  clear A30
  simp only [Option.some.injEq, Prod.mk.injEq] at H
  obtain ⟨rfl, rfl⟩ := H
  obtain ⟨Ao4, co4, eo4⟩ := Kd.R_slice HO0_1.out
  subst eo4
  go_enter Try.func32, Try.ntmps32
  go_wp2_with (first | ((with_reducible refine gate_dst (N := 2) rfl ?_); refine box_event ?hg (N := 2) ?hd (cs := #[.int .i64 a0_0, .slice Ao4 l0_1.length co4, .int .i64 a0_2]) (t := 36) ?hr ?_; (case hd => rfl); (case hg => rfl); (case hr => first | (go_simp; done) | (go_simp; rfl)); intro gb230 hg w5 hbox hb; have n0_ := Aside0.mk (Kd.R_below (rd_ HO0_1.out) hb); have n1_ := Aside0.mk (Kept.below (S := (fun k_ => P0_1_ k_)) (by repeat (first | (with_reducible first | exact HK.out | apply Kept.alloc | apply Kept.drewN | apply Kept.drew) | exact HK.out)) hb); have n2_ := Aside0.mk (below_step (hd_ HB.out) hb); have BK230 := Aside0.mk (hbox); have GW230 := Aside0.mk ((by rw [hg]; exact (by first | exact HK.out.1 | exact (show Kept w _ (fun k_ => P0_1_ k_) from by repeat (first | (with_reducible first | exact HK.out | apply Kept.alloc | apply Kept.drewN | apply Kept.drew) | exact HK.out)).1) : w.heap.size ≤ gb230)); have GE230 := Aside0.mk ((by rw [hg]; exact (below_size (hd_ HB.out)) : w0.heap.size ≤ gb230)); clear HO0_1; clear HK; clear HB; have HO0_1 := n0_; have HK := n1_; have HB := n2_; clear n0_ n1_ n2_; clear hb hbox hg; obtain ⟨hcz6_0, hcz6_1, hcz6_2⟩ := e94_ BK230.out; obtain ⟨hfz6_0, hfz6_1, hfz6_2⟩ := z95_ BK230.out) | ((with_reducible refine gate_callee (f := 26) rfl ?_); refine goesL_ (some 8) rfl rfl Try.func26 (by kernel_rfl) rfl #[.slice Ao4 l0_1.length co4, .int .i64 a1] rfl ma_ ?_; (with_reducible refine (laws_markMarkS.calls k (fun k_ => some k_ = (.slice Ao4 l0_1.length co4 : Value).ownBlock) (.slice Ao4 l0_1.length co4) l0_1 a1 t231 t232 w0 _ ?side1 ?side2 A3.out).mono ?_); (case side1 => repeat (first | (with_reducible first | exact HB.out | apply below_alloc | apply pw_below_drewN | apply below_drew1 | refine below_set ?_ GE230.out) | exact HB.out)); (case side2 => exact Kd.R_tight rfl HO0_1.out); rintro e w7 ⟨rfl, hy0, hb, hkp⟩; refine ⟨_, rfl, ?_⟩; have n0_ := Aside0.mk (Kd.R_reok rfl hy0 (fun k_ e_ => HO0_1.out.1 k_ e_)); have n1_ := Aside0.mk (blk_kept (bd_ BK230.out) hkp (fun hs_ => (fun e_ => (Kd.R_ne HO0_1.out BK230.out (by decide)) e_) hs_)); have n2_ := Aside0.mk (Kept.then_ (S := (fun k_ => P0_1_ k_)) (by repeat (first | (with_reducible first | exact HK.out | apply Kept.alloc | apply Kept.drewN | apply Kept.drew | refine Kept.setCell ?_ (.inr GW230.out) _) | exact HK.out)) hkp (fun k_ hs_ => (fun e_ => (HO0_1.out.1 k_ e_.symm)) hs_)); have n3_ := Aside0.mk (hb); clear HO0_1; clear BK230; clear HK; clear HB; have HO0_1 := n0_; have BK230 := n1_; have HK := n2_; have HB := n3_; clear n0_ n1_ n2_ n3_; (try clear hb); (try clear hkp); (try clear hy0)))
  go_ret
  exact ⟨by first | rfl | (simp [errW_none, errW_some] <;> rfl) | (simp [*, errW_none, errW_some] <;> rfl), rd_ HO0_1.out, by repeat (first | (with_reducible first | exact HB.out | apply below_alloc | apply pw_below_drewN | apply below_drew1 | refine below_set ?_ GE230.out) | exact HB.out), by repeat (first | (with_reducible first | exact HK.out | apply Kept.alloc | apply Kept.drewN | apply Kept.drew | refine Kept.setCell ?_ (.inr GW230.out) _) | exact HK.out)⟩

/-! ### laws_heldMarkS: function 27 -/
def laws_heldMarkS.l0 : Nat → List (S67) → Int → Int → Option (Int)
  | 0, _, _, _ => none
  | k + 1, x0, x1, x5 => if x5 < (x0.length : Int) then (if 0 ≤ x5 then (if ((rd_T67 x0 x5).f0) = x1 then (if ((rd_T67 x0 x5).f1) = (wrap64 (x1 + 1)) then (laws_heldMarkS.l0 k x0 (wrap64 ((wrap64 (x1 + 1)) + 1)) (wrap64 (x5 + 1))) else (some (-1))) else (some (-1))) else (none)) else (some x1)
def laws_heldMarkS.f (k : Nat) (l0 : List (S67)) (a1 : Int) : Option (Int) := laws_heldMarkS.l0 k l0 a1 0
theorem laws_heldMarkS.mono_l : ∀ k, (∀ y0 y1 y2, LeO (laws_heldMarkS.l0 k y0 y1 y2) (laws_heldMarkS.l0 (k + 1) y0 y1 y2))
  | 0 => fun _ _ _ r h => by simp [laws_heldMarkS.l0] at h
  | k + 1 => by
    have ih0 := laws_heldMarkS.mono_l k
    · intro y0 y1 y2
      unfold laws_heldMarkS.l0
      repeat' first
      | (with_reducible exact ih0 _ _ _)
      | (with_reducible exact LeO.refl _)
      | (with_reducible exact LeO.none _)
      | (with_reducible refine LeO.ite ?_ ?_)
      | (with_reducible refine LeO.bind ?_ (fun _ => ?_))
      | exact ih0 _ _ _
      | exact LeO.none _
      | refine LeO.ite ?_ ?_
      | refine LeO.bind ?_ (fun _ => ?_)
theorem laws_heldMarkS.mono : ∀ a0 a1 k, LeO (laws_heldMarkS.f k a0 a1) (laws_heldMarkS.f (k + 1) a0 a1) := by
  intro a0 a1 k
  have ih0 := laws_heldMarkS.mono_l k
  unfold laws_heldMarkS.f
  repeat' first
      | (with_reducible exact ih0 _ _ _)
      | (with_reducible exact LeO.refl _)
      | (with_reducible exact LeO.none _)
      | (with_reducible refine LeO.ite ?_ ?_)
      | (with_reducible refine LeO.bind ?_ (fun _ => ?_))
      | exact ih0 _ _ _
      | exact LeO.none _
      | refine LeO.ite ?_ ?_
      | refine LeO.bind ?_ (fun _ => ?_)
theorem y97_ {P : Prop} (h : P := by repeat (first | exact Drawn0.refl _ | apply Drawn0.step)) : P := h
set_option maxHeartbeats 8000000 in
set_option maxRecDepth 100000 in
theorem laws_heldMarkS.calls (k : Nat) (A0 : Option Addr) (c0 : Nat) (l0 : List (S67)) (a1 : Int) (r : Int) (w : World) (hr0 : Kd.C k67 w A0 l0.length l0) (hc0 : l0.length ≤ c0) (h : laws_heldMarkS.f k l0 a1 = some r) :
    Calls Try.prog 27 #[.slice A0 l0.length c0, .int .i64 a1] w fun e w' => e = .returned (.int .i64 r) ∧ Drawn0 w w' := by
  have HR0 := Aside0.mk hr0
  have HC0 := Aside0.mk hc0
  clear hr0 hc0
  have H : (laws_heldMarkS.l0 k l0 a1 0) = some r := h
  clear h
  have H' := Aside0.mk H
  clear H
  go_enter Try.func27, Try.ntmps27
  go_wp2
  go_loopg [1, 5] k (fun kq v1 v5 w' => ∃ (x1_1 : Int) (x5_1 : Int), v1 = .int .i64 x1_1 ∧ v5 = .int .i64 x5_1 ∧ Aside0 (laws_heldMarkS.l0 kq l0 x1_1 x5_1 = some r) ∧ Aside0 (kq ≤ k) ∧ Drawn0 w w')
  case atStart => exact ⟨(a1), (0), (by first | rfl | (simp; done) | (simp [*]; done)), (by first | rfl | (simp; done) | (simp [*]; done)), H', ⟨Nat.le_refl _⟩, y97_⟩
  case round =>
    clear H'
    try clear c2
    try clear p2
    obtain ⟨x1_1, x5_1, rfl, rfl, HA, HK1, ⟨m1, rfl⟩⟩ := hrel
    cases gk with
    | zero => exact absurd HA.out (by simp [laws_heldMarkS.l0])
    | succ k1 =>
      have H := HA.out
      clear HA
      simp only [laws_heldMarkS.l0] at H
      by_cases c3 : x5_1 < (l0.length : Int)
      · rw [if_pos c3] at H
        have c3b0 : decide (x5_1 < (l0.length : Int)) = true := decide_eq_true c3
        clear c3
        by_cases c4 : 0 ≤ x5_1
        · rw [if_pos c4] at H
          have c4b0 : decide (0 ≤ x5_1) = true := decide_eq_true c4
          clear c4
          by_cases c5 : ((rd_T67 l0 x5_1).f0) = x1_1
          · rw [if_pos c5] at H
            have c5b0 : (((rd_T67 l0 x5_1).f0) == x1_1) = true := beq_iff_eq.mpr c5
            have c5b1 : (((rd_T67 l0 x5_1).f0) != x1_1) = false := bne_eq_false_iff_eq.mpr c5
            clear c5
            by_cases c6 : ((rd_T67 l0 x5_1).f1) = (wrap64 (x1_1 + 1))
            · rw [if_pos c6] at H
              have c6b0 : (((rd_T67 l0 x5_1).f1) == (wrap64 (x1_1 + 1))) = true := beq_iff_eq.mpr c6
              have c6b1 : (((rd_T67 l0 x5_1).f1) != (wrap64 (x1_1 + 1))) = false := bne_eq_false_iff_eq.mpr c6
              clear c6
              have H' := Aside0.mk H
              clear H
              have p233 : 0 ≤ (x5_1 : Int) := of_decide_eq_true as_
              have q233 : x5_1 < (l0.length : Int) := of_decide_eq_true as_
              obtain ⟨ad233, e233, hx233_0, hx233_1⟩ := at_T67 HR0.out x5_1 p233 q233
              cases e233
              replace p233 := eq_true p233
              replace q233 := eq_true q233
              have p234 : 0 ≤ (x5_1 : Int) := of_decide_eq_true as_
              have q234 : x5_1 < (l0.length : Int) := of_decide_eq_true as_
              obtain ⟨ad234, e234, hx234_0, hx234_1⟩ := at_T67 HR0.out x5_1 p234 q234
              obtain rfl : ad233 = ad234 := (by injection e234)
              replace p234 := eq_true p234
              replace q234 := eq_true q234
              go_wp2
              go_roundg k1
              case measure => have := HK1.out; omega
              case rel => exact ⟨(wrap64 ((wrap64 (x1_1 + 1)) + 1)), (wrap64 (x5_1 + 1)), (by first | rfl | (simp; done) | (simp [*]; done)), (by first | rfl | (simp; done) | (simp [*]; done)), H', ⟨by have := HK1.out; omega⟩, y97_⟩
            · rw [if_neg c6] at H
              have c6b0 : (((rd_T67 l0 x5_1).f1) == (wrap64 (x1_1 + 1))) = false := beq_eq_false_iff_ne.mpr c6
              have c6b1 : (((rd_T67 l0 x5_1).f1) != (wrap64 (x1_1 + 1))) = true := bne_iff_ne.mpr c6
              obtain rfl := Option.some.inj H
              have p233 : 0 ≤ (x5_1 : Int) := of_decide_eq_true as_
              have q233 : x5_1 < (l0.length : Int) := of_decide_eq_true as_
              obtain ⟨ad233, e233, hx233_0, hx233_1⟩ := at_T67 HR0.out x5_1 p233 q233
              cases e233
              replace p233 := eq_true p233
              replace q233 := eq_true q233
              have p234 : 0 ≤ (x5_1 : Int) := of_decide_eq_true as_
              have q234 : x5_1 < (l0.length : Int) := of_decide_eq_true as_
              obtain ⟨ad234, e234, hx234_0, hx234_1⟩ := at_T67 HR0.out x5_1 p234 q234
              obtain rfl : ad233 = ad234 := (by injection e234)
              replace p234 := eq_true p234
              replace q234 := eq_true q234
              go_wp2
              go_ret
              exact ⟨by first | rfl | (simp; done) | (simp [*]; done), y97_⟩
          · rw [if_neg c5] at H
            have c5b0 : (((rd_T67 l0 x5_1).f0) == x1_1) = false := beq_eq_false_iff_ne.mpr c5
            have c5b1 : (((rd_T67 l0 x5_1).f0) != x1_1) = true := bne_iff_ne.mpr c5
            obtain rfl := Option.some.inj H
            have p233 : 0 ≤ (x5_1 : Int) := of_decide_eq_true as_
            have q233 : x5_1 < (l0.length : Int) := of_decide_eq_true as_
            obtain ⟨ad233, e233, hx233_0, hx233_1⟩ := at_T67 HR0.out x5_1 p233 q233
            cases e233
            replace p233 := eq_true p233
            replace q233 := eq_true q233
            go_wp2
            go_ret
            exact ⟨by first | rfl | (simp; done) | (simp [*]; done), y97_⟩
        · rw [if_neg c4] at H
          exact absurd H (by simp)
      · rw [if_neg c3] at H
        have c3b0 : decide (x5_1 < (l0.length : Int)) = false := decide_eq_false c3
        clear c3
        obtain rfl := Option.some.inj H
        go_wp2
        go_ret
        exact ⟨by first | rfl | (simp; done) | (simp [*]; done), y97_⟩

end Go.Proofs.Ytfghapankndioaa.PFnExactPutSecret
