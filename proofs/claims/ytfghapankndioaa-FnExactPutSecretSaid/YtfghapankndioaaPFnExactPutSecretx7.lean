-- Written for this claim by a program (a printer turned to this claim); Lean checks it.
import Derived.Test.YtfghapankndioaaPFnExactPutSecretx0
import Derived.Test.YtfghapankndioaaPFnExactPutSecretx5
import Derived.Test.YtfghapankndioaaPFnExactPutSecretx6
namespace Go.Proofs.Ytfghapankndioaa.PFnExactPutSecret
open Go.RowKit Go.Proofs.YtfghapankndioaaW.PrintWords Go.Proofs.YtfghapankndioaaW.PrintLast Go.Proofs.YtfghapankndioaaW.PrintMore
attribute [local go_sem] max2_int min2_int max_two min_two max_three min_three max_four min_four   -- for this text's walks alone
set_option linter.unusedVariables false
set_option linter.unusedSimpArgs false

/-! ### spec_PutSecret: function 30 -/
mutual
def spec_PutSecret.j1 : Nat → List (S36) → Int → Int → List (S67) → Int → Option ((List (S36)) × Bool)
 | 0, _, _, _, _, _ => none
 | k + 1, x0, x6, x175000, x175001, x175002 => if 0 ≤ x6 then (if x6 ≤ (x0.length : Int) then ((spec_l31Copy.f k (x0.take (x6 : Int).toNat)).bind fun t180 => ((spec_l31Copy.f k (([(⟨x175000, x175001, x175002⟩ : S36)] : List (S36)))).bind fun t186 => (if t180.length + t186.length < 3518437208883 then ((some (t180 ++ t186 : List (S36))).bind fun y189 => ((spec_l31Copy.f k (x0.drop (x6 : Int).toNat)).bind fun t196 => (if y189.length + t196.length < 3518437208883 then ((some (y189 ++ t196 : List (S36))).bind fun y199 => ((spec_AreSecrets.f k y199).bind fun t202 => (if t202 = true then (some (y199, true)) else ((spec_l31Copy.f k x0).bind fun t203 => (some (t203, false)))))) else (none)))) else (none)))) else (none)) else (none)
def spec_PutSecret.l0 : Nat → List (S36) → Int → Int → List (S67) → Int → Option ((List (S36)) × Bool)
 | 0, _, _, _, _, _ => none
 | k + 1, x0, x6, x175000, x175001, x175002 => if x6 < (x0.length : Int) then (if 0 ≤ x6 then (if ((rd_T36 x0 x6).f0) < x175000 then (spec_PutSecret.l0 k x0 (wrap64 (x6 + 1)) x175000 x175001 x175002) else (spec_PutSecret.j1 k x0 x6 x175000 x175001 x175002)) else (none)) else (spec_PutSecret.j1 k x0 x6 x175000 x175001 x175002)
end
def spec_PutSecret.f (k : Nat) (l0 : List (S36)) (a1_0 : Int) (l1_1 : List (S67)) (a1_2 : Int) : Option ((List (S36)) × Bool) := spec_PutSecret.l0 k l0 0 a1_0 l1_1 a1_2
theorem spec_PutSecret.mono_l : ∀ k, (∀ y0 y1 y2 y3 y4, LeO (spec_PutSecret.j1 k y0 y1 y2 y3 y4) (spec_PutSecret.j1 (k + 1) y0 y1 y2 y3 y4)) ∧ (∀ y0 y1 y2 y3 y4, LeO (spec_PutSecret.l0 k y0 y1 y2 y3 y4) (spec_PutSecret.l0 (k + 1) y0 y1 y2 y3 y4))
 | 0 => ⟨fun _ _ _ _ _ r h => by simp [spec_PutSecret.j1] at h, fun _ _ _ _ _ r h => by simp [spec_PutSecret.l0] at h⟩
 | k + 1 => by
  obtain ⟨ih0, ih1⟩ := spec_PutSecret.mono_l k
  refine ⟨?_, ?_⟩
  ·
   intro y0 y1 y2 y3 y4
   unfold spec_PutSecret.j1
   repeat' first
   | (with_reducible exact ih0 _ _ _ _ _)
   | (with_reducible exact ih1 _ _ _ _ _)
   | (with_reducible exact spec_AreSecrets.mono _ _)
   | (with_reducible exact spec_l31Copy.mono _ _)
   | (with_reducible exact LeO.refl _)
   | (with_reducible exact LeO.none _)
   | (with_reducible refine LeO.ite ?_ ?_)
   | (with_reducible refine LeO.bind ?_ (fun _ => ?_))
   | exact ih0 _ _ _ _ _
   | exact ih1 _ _ _ _ _
   | exact spec_AreSecrets.mono _ _
   | exact spec_l31Copy.mono _ _
   | exact LeO.none _
   | refine LeO.ite ?_ ?_
   | refine LeO.bind ?_ (fun _ => ?_)
  ·
   intro y0 y1 y2 y3 y4
   unfold spec_PutSecret.l0
   repeat' first
   | (with_reducible exact ih0 _ _ _ _ _)
   | (with_reducible exact ih1 _ _ _ _ _)
   | (with_reducible exact spec_AreSecrets.mono _ _)
   | (with_reducible exact spec_l31Copy.mono _ _)
   | (with_reducible exact LeO.refl _)
   | (with_reducible exact LeO.none _)
   | (with_reducible refine LeO.ite ?_ ?_)
   | (with_reducible refine LeO.bind ?_ (fun _ => ?_))
   | exact ih0 _ _ _ _ _
   | exact ih1 _ _ _ _ _
   | exact spec_AreSecrets.mono _ _
   | exact spec_l31Copy.mono _ _
   | exact LeO.none _
   | refine LeO.ite ?_ ?_
   | refine LeO.bind ?_ (fun _ => ?_)
theorem spec_PutSecret.mono : ∀ a0 a1 a2 a3 k, LeO (spec_PutSecret.f k a0 a1 a2 a3) (spec_PutSecret.f (k + 1) a0 a1 a2 a3) := by
 intro a0 a1 a2 a3 k
 obtain ⟨ih0, ih1⟩ := spec_PutSecret.mono_l k
 unfold spec_PutSecret.f
 repeat' first
   | (with_reducible exact ih0 _ _ _ _ _)
   | (with_reducible exact ih1 _ _ _ _ _)
   | (with_reducible exact spec_AreSecrets.mono _ _)
   | (with_reducible exact spec_l31Copy.mono _ _)
   | (with_reducible exact LeO.refl _)
   | (with_reducible exact LeO.none _)
   | (with_reducible refine LeO.ite ?_ ?_)
   | (with_reducible refine LeO.bind ?_ (fun _ => ?_))
   | exact ih0 _ _ _ _ _
   | exact ih1 _ _ _ _ _
   | exact spec_AreSecrets.mono _ _
   | exact spec_l31Copy.mono _ _
   | exact LeO.none _
   | refine LeO.ite ?_ ?_
   | refine LeO.bind ?_ (fun _ => ?_)
def spec_PutSecret.T2 : Bool × List (List Nat × List Nat) := (true, [([], []), ([], []), ([1], [1]), ([0, 2], [0, 2]), ([3], [3]), ([4], [4]), ([4], [4]), ([5, 6, 4], [4, 5, 6]), ([7, 4], [4, 7]), ([8, 4], [4, 8]), ([4], [4]), ([10, 4], [4, 10]), ([9, 11, 4], [4, 9, 11]), ([4, 12], [4, 12])])
def spec_PutSecret.B2 : List Nat := [0, 0, 2, 7, 15, 31, 31, 127, 255, 511, 31, 1055, 4095, 8191]
theorem spec_PutSecret.tab2 : rtab .any (opsOf Try.f30 2) = spec_PutSecret.T2 := by kernel_rfl
theorem spec_PutSecret.bits2 : waitsOk spec_PutSecret.T2.2 spec_PutSecret.B2 = true := by kernel_rfl
def spec_PutSecret.T4 : Bool × List (List Nat × List Nat) := (true, [([], []), ([], []), ([0, 1], [0, 1]), ([2], [2]), ([], []), ([4], [4]), ([5, 3], [5]), ([3, 6, 6], [3, 6]), ([], []), ([], []), ([8, 9], [8, 9]), ([10, 7], [10]), ([7, 11, 11], [7, 11]), ([12, 12, 0, 1, 2, 3, 4, 5, 6, 7, 8, 9, 10, 11, 12], [12])])
def spec_PutSecret.B4 : List Nat := [0, 0, 3, 7, 0, 16, 63, 127, 0, 0, 768, 2047, 4095, 8191]
theorem spec_PutSecret.tab4 : rtab .any (opsOf Try.f30 4) = spec_PutSecret.T4 := by kernel_rfl
theorem spec_PutSecret.bits4 : waitsOk spec_PutSecret.T4.2 spec_PutSecret.B4 = true := by kernel_rfl
abbrev M5_0 : Array Bool := #[false, false, false, false, false, false, false, false, false, false, false, false, false, false]
abbrev M5_1 : Array Bool := #[true, false, false, false, false, false, false, false, false, false, false, false, false, false]
abbrev M5_2 : Array Bool := #[true, true, false, false, false, false, false, false, false, false, false, false, false, false]
abbrev M5_3 : Array Bool := #[true, true, true, false, false, false, false, false, false, false, false, false, false, false]
abbrev M5_4 : Array Bool := #[true, true, true, true, false, false, false, false, false, false, false, false, false, false]
abbrev M5_5 : Array Bool := #[true, true, true, true, true, false, false, false, false, false, false, false, false, false]
abbrev M5_6 : Array Bool := #[true, true, true, true, true, true, false, false, false, false, false, false, false, false]
abbrev M5_7 : Array Bool := #[true, true, true, true, true, true, true, false, false, false, false, false, false, false]
abbrev M5_8 : Array Bool := #[true, true, true, true, true, true, true, true, false, false, false, false, false, false]
abbrev M5_9 : Array Bool := #[true, true, true, true, true, true, true, true, true, false, false, false, false, false]
abbrev M5_10 : Array Bool := #[true, true, true, true, true, true, true, true, true, false, true, false, false, false]
abbrev M5_11 : Array Bool := #[true, true, true, true, true, true, true, true, true, true, true, false, false, false]
abbrev M5_12 : Array Bool := #[true, true, true, true, true, true, true, true, true, true, true, true, false, false]
abbrev M5_13 : Array Bool := #[true, true, true, true, true, true, true, true, true, true, true, true, true, false]
abbrev M5_14 : Array Bool := #[true, true, true, true, true, true, true, true, true, true, true, true, true, true]
abbrev M5_15 : Array Bool := #[true, true, true, true, true, true, true, true, true, true, false, false, false, false]
abbrev M5_16 : Array Bool := #[true, true, true, false, false, false, false, false, true, false, false, false, false, false]
abbrev M5_17 : Array Bool := #[true, true, true, false, false, false, false, false, true, true, false, false, false, false]
abbrev M5_18 : Array Bool := #[true, true, true, false, false, false, false, false, true, true, true, false, false, false]
abbrev M5_19 : Array Bool := #[true, true, true, false, true, false, false, false, true, true, true, false, false, false]
abbrev M5_20 : Array Bool := #[true, true, true, true, true, true, false, false, true, true, true, false, false, false]
abbrev M5_21 : Array Bool := #[true, true, true, true, true, false, false, false, true, true, true, false, false, false]
abbrev M5_22 : Array Bool := #[true, true, true, false, true, true, false, false, true, true, true, false, false, false]
abbrev M5_23 : Array Bool := #[true, true, true, true, true, true, true, false, true, true, true, false, false, false]
theorem P5_1 {α : Type} (l : List α) (i : Nat) (a : α) : l.toArray.setIfInBounds i a = (l.set i a).toArray := List.setIfInBounds_toArray l i a
theorem P5_2 {α : Type} (x : α) (l : List α) (a : α) : (x :: l).set 0 a = a :: l := List.set_cons_zero
theorem P5_3 {α : Type} (x : α) (l : List α) (n : Nat) (a : α) : (x :: l).set (n + 1) a = x :: l.set n a := List.set_cons_succ
theorem y59_ {P : Prop} (h : P := by repeat (first | (with_reducible first | exact HB.out | apply below_alloc | apply pw_below_drewN | apply below_drew1 | refine below_set ?_ GE174.out) | exact HB.out)) : P := h
theorem y61_ {P : Prop} (h : P := by (with_reducible repeat (first | apply Kd.N_alloc | apply Kd.N_drewN | apply Kd.N_drew)); exact HO185.out) : P := h
theorem y62_ {P : Prop} (h : P := by (with_reducible repeat (first | apply Kd.V_alloc | apply Kd.V_drewN | apply Kd.V_drew)); exact HO_175001.out) : P := h
theorem y64_ {P : Prop} (h : P := by (with_reducible repeat (first | apply Kd.N_alloc | apply Kd.N_drewN | apply Kd.N_drew)); exact HO182.out) : P := h
theorem y65_ {P : Prop} (h : P := by repeat (first | (with_reducible first | exact HB.out | apply below_alloc | apply pw_below_drewN | apply below_drew1 | refine below_set ?_ GE174.out) | exact HB.out)) : P := h
theorem y66_ {P : Prop} (h : P := by (with_reducible repeat (first | apply Kd.N_alloc | apply Kd.N_drewN | apply Kd.N_drew)); exact HO188.out) : P := h
theorem y68_ {P : Prop} (h : P := by (with_reducible repeat (first | apply Kd.N_alloc | apply Kd.N_drewN | apply Kd.N_drew)); exact HO191.out) : P := h
theorem y69_ {P : Prop} (h : P := by (with_reducible repeat (first | apply Kd.N_alloc | apply Kd.N_drewN | apply Kd.N_drew)); exact HO198.out) : P := h
theorem y70_ {P : Prop} (h : P := by (with_reducible repeat (first | apply Kd.N_alloc | apply Kd.N_drewN | apply Kd.N_drew)); exact HO201.out) : P := h
theorem y71_ {P : Prop} (h : P := by simp only [putAll, Act.put, List.setIfInBounds_toArray, List.set_cons_zero, List.set_cons_succ]) : P := h
theorem y73_ {P : Prop} (h : P := by (with_reducible repeat (first | apply Kd.V_alloc | apply Kd.V_drewN | apply Kd.V_drew)); exact Kd.V_mono HO_175001.out (fun _ hk => ⟨⟨hk.1.1.1, ⟨hk.1.1.2.1, ⟨hk.1.1.2.2.1, ⟨hk.2, hk.1.1.2.2.2⟩⟩⟩⟩, hk.1.2⟩)) : P := h
set_option maxHeartbeats 8000000 in
set_option maxRecDepth 100000 in
theorem spec_PutSecret.calls (k : Nat) (A0 : Option Addr) (c0 : Nat) (l0 : List (S36)) (a1_0 : Int) (P1_1_ : Nat → Prop) (A1_1 : Option Addr) (c1_1 : Nat) (l1_1 : List (S67)) (a1_2 : Int) (r1 : List (S36)) (r2 : Bool) (w : World) (hr0 : Kd.C k36 w A0 l0.length l0) (hc0 : l0.length ≤ c0) (hs1_1 : Kd.V k67 67 w w.heap.size (fun k_ => P1_1_ k_) (.slice A1_1 l1_1.length c1_1) l1_1) (h : spec_PutSecret.f k l0 a1_0 l1_1 a1_2 = some (r1, r2)) :
  Calls Try.prog 30 #[.slice A0 l0.length c0, .agg #[.int .i64 a1_0, .slice A1_1 l1_1.length c1_1, .int .i64 a1_2]] w fun e w' => ∃ v0_ : Value, e = .returned (.tuple #[v0_, .bool r2]) ∧ Kd.N k36 36 w' w.heap.size (fun k_ => (P1_1_ k_ ∨ w.heap.size ≤ k_)) v0_ r1 ∧ Below w.heap.size w w' := by
 have hu36 := Try.underlying36
 have HR0 := Aside0.mk hr0
 have HC0 := Aside0.mk hc0
 clear hr0 hc0
 have HO1_1 := Aside0.mk (show Kd.V k67 67 w w.heap.size (fun k_ => (P1_1_ k_ ∨ w.heap.size ≤ k_)) (.slice A1_1 l1_1.length c1_1) l1_1 from Kd.V_mono hs1_1 (fun k_ hk => .inl hk))
 have HB := Aside0.mk (Below.refl w.heap.size w)
 have H : (spec_PutSecret.l0 k l0 0 a1_0 l1_1 a1_2) = some (r1, r2) := h
 clear h
 have HC3 := Aside0.mk H
 clear H
 go_enter Try.func30, Try.ntmps30
 go_upto_block 0 with (first | ((with_reducible refine gate_dst (N := 3) rfl ?_); refine box_event ?hg (N := 3) ?hd (cs := #[.int .i64 a1_0, .slice A1_1 l1_1.length c1_1, .int .i64 a1_2]) (t := 36) ?hr ?_; (case hd => rfl); (case hg => rfl); (case hr => first | (go_simp; done) | (go_simp; rfl)); intro gb174 hg w4 hbox hb; have n0_ := Aside0.mk (Kd.V_below (Kd.V_elderB (by (with_reducible repeat (first | apply Kd.V_alloc | apply Kd.V_drewN | apply Kd.V_drew)); exact HO1_1.out) gb174 (Nat.le_of_eq hg.symm)) hb); have n1_ := Aside0.mk (below_step (hd_ HB.out) hb); have BK174 := Aside0.mk (hbox); have GW174 := Aside0.mk ((by rw [hg]; exact (below_size (hd_ HB.out)) : w.heap.size ≤ gb174)); have GE174 := Aside0.mk ((by rw [hg]; exact (below_size (hd_ HB.out)) : w.heap.size ≤ gb174)); clear HO1_1; clear HB; have HO1_1 := n0_; have HB := n1_; clear n0_ n1_; clear hb hbox hg))
 (try simp only [Act.put, List.setIfInBounds_toArray, List.set_cons_zero, List.set_cons_succ])
 go_cut [6] (fun v6 wc => ∃ (kq : Nat) (x6_2 : Int), v6 = .int .i64 x6_2 ∧ Aside0 (spec_PutSecret.j1 kq l0 x6_2 a1_0 l1_1 a1_2 = some (r1, r2)) ∧ Aside0 (kq ≤ k) ∧ Aside0 (Kd.V k67 67 wc w.heap.size (fun k_ => (P1_1_ k_ ∨ w.heap.size ≤ k_) ∧ k_ ≠ gb174) (.slice A1_1 l1_1.length c1_1) l1_1) ∧ Aside0 (wc.heap[gb174]? = some (.cells #[.int .i64 a1_0, (.slice A1_1 l1_1.length c1_1), .int .i64 a1_2] 36 (0, 0))) ∧ Aside0 (Below w.heap.size w wc))
 case first =>
  have H := HC3.out
  clear HC3
  have H' := Aside0.mk H
  clear H
  go_wp2
  go_loopg [6] k (fun kq v6 w' => ∃ (x6_1 : Int), v6 = .int .i64 x6_1 ∧ Aside0 (spec_PutSecret.l0 kq l0 x6_1 a1_0 l1_1 a1_2 = some (r1, r2)) ∧ Aside0 (kq ≤ k) ∧ Aside0 (Kd.V k67 67 w' w.heap.size (fun k_ => (P1_1_ k_ ∨ w.heap.size ≤ k_) ∧ k_ ≠ gb174) (.slice A1_1 l1_1.length c1_1) l1_1) ∧ Aside0 (w'.heap[gb174]? = some (.cells #[.int .i64 a1_0, (.slice A1_1 l1_1.length c1_1), .int .i64 a1_2] 36 (0, 0))) ∧ Aside0 (Below w.heap.size w w'))
  case atStart => exact ⟨(0), (by first | rfl | (simp; done) | (simp [*]; done)), H', ⟨Nat.le_refl _⟩, ⟨by (with_reducible repeat (first | apply Kd.V_alloc | apply Kd.V_drewN | apply Kd.V_drew)); exact HO1_1.out⟩, ⟨bd_ BK174.out⟩, ⟨y65_⟩⟩
  case round =>
   clear H'
   try clear c1
   try clear p2
   try clear c3
   obtain ⟨x6_1, rfl, HA, HK1, HO_175001, BK174, HB⟩ := hrel
   cases gk with
   | zero => exact absurd HA.out (by simp [spec_PutSecret.l0])
   | succ k1 =>
    have H := HA.out
    clear HA
    simp only [spec_PutSecret.l0] at H
    by_cases c5 : x6_1 < (l0.length : Int)
    ·
     rw [if_pos c5] at H
     have c5b0 : decide (x6_1 < (l0.length : Int)) = true := decide_eq_true c5
     clear c5
     (first | rw [c5b0] | (simp only [i64_w, i32_w]; rw [c5b0]) | skip)
     by_cases c6 : 0 ≤ x6_1
     ·
      rw [if_pos c6] at H
      have c6b0 : decide (0 ≤ x6_1) = true := decide_eq_true c6
      clear c6
      by_cases c7 : ((rd_T36 l0 x6_1).f0) < a1_0
      ·
       rw [if_pos c7] at H
       have c7b0 : decide (((rd_T36 l0 x6_1).f0) < a1_0) = true := decide_eq_true c7
       clear c7
       have H' := Aside0.mk H
       clear H
       try go_wp2
       have n0_ := Aside0.mk (Kd.V_drew HO_175001.out)
       have n1_ := Aside0.mk (blk_drew BK174.out)
       have n2_ := Aside0.mk (below_drew1 HB.out)
       clear HO_175001
       clear BK174
       clear HB
       have HO_175001 := n0_
       have BK174 := n1_
       have HB := n2_
       clear n0_ n1_ n2_
       have p175 : 0 ≤ (x6_1 : Int) := of_decide_eq_true as_
       have q175 : x6_1 < (l0.length : Int) := of_decide_eq_true as_
       obtain ⟨ad175, A175_1, c175_1, e175, hx175_0, hx175_1, hx175_2, hl175_1, hi175_1⟩ := at_T36 HR0.out x6_1 p175 q175
       have hw175_2 := hx175_2
       have hw175_1 := hx175_1
       have hw175_0 := hx175_0
       cases e175
       replace hx175_0 := cb_ HB.out hx175_0
       replace hx175_1 := cb_ HB.out hx175_1
       replace hx175_2 := cb_ HB.out hx175_2
       have HR175_1 := Aside0.mk hi175_1
       have HC175_1 := Aside0.mk hl175_1
       clear hi175_1 hl175_1
       replace p175 := eq_true p175
       replace q175 := eq_true q175
       refine start_ (n := 14) (S := fun w' => q1_ w' gb174 a1_0 A1_1 l1_1.length c1_1 a1_2 (q2e_ w' (ad175.add ((x6_1).toNat * 3)) ((rd_T36 l0 x6_1).f0) A175_1 ((rd_T36 l0 x6_1).f1).length c175_1 ((rd_T36 l0 x6_1).f2))) (ds := []) M5_0 (by kernel_rfl) rfl rfl (k1_ BK174.out ⟨(cb_ HB.out hw175_0), (cb_ HB.out hw175_1), (cb_ HB.out hw175_2)⟩) (fun hHeld => ?_); refine with_tabW spec_PutSecret.tab2 spec_PutSecret.bits2 (fun HT_ HW_ => ?_)
       generalize wr.drew = w8 at HO_175001 BK174 HB HR175_1 hx175_0 hx175_1 hx175_2 hHeld ⊢
       refine pu_ 0 (some 8) M5_1 HT_ ?_
       refine pu_ 1 (some 9) M5_2 HT_ ?_
       refine pu_ 2 (some 10) M5_3 HT_ ?_
       refine pu_ 3 (some 11) M5_4 HT_ ?_
       refine pu_ 4 (some 12) M5_5 HT_ ?_
       refine pu_ 5 (some 13) M5_6 HT_ ?_
       refine pu_ 6 (some 14) M5_7 HT_ ?_
       refine pu_ 7 (some 15) M5_8 HT_ ?_
       refine pu_ 8 (some 16) M5_9 HT_ ?_
       refine pu_ 10 (some 18) M5_10 HT_ ?_
       refine tk_ 9 (some 17) M5_11 HT_ HW_ hHeld ?_
       refine tk_ 11 (some 19) M5_12 HT_ HW_ hHeld ?_
       refine pu_ 12 (some 20) M5_13 HT_ ?_
       refine pu_ 13 (some 21) M5_14 HT_ ?_
       refine done_ (done_of HT_.out (by kernel_rfl)) ?_
       try go_wp2
       go_roundg k1
       case measure => have := HK1.out; omega
       case rel => exact ⟨(wrap64 (x6_1 + 1)), (by first | rfl | (simp; done) | (simp [*]; done)), H', ⟨by have := HK1.out; omega⟩, ⟨by (with_reducible repeat (first | apply Kd.V_alloc | apply Kd.V_drewN | apply Kd.V_drew)); exact HO_175001.out⟩, ⟨bd_ BK174.out⟩, ⟨y65_⟩⟩
      ·
       rw [if_neg c7] at H
       have c7b0 : decide (((rd_T36 l0 x6_1).f0) < a1_0) = false := decide_eq_false c7
       clear c7
       have H' := Aside0.mk H
       clear H
       try go_wp2
       have n0_ := Aside0.mk (Kd.V_drew HO_175001.out)
       have n1_ := Aside0.mk (blk_drew BK174.out)
       have n2_ := Aside0.mk (below_drew1 HB.out)
       clear HO_175001
       clear BK174
       clear HB
       have HO_175001 := n0_
       have BK174 := n1_
       have HB := n2_
       clear n0_ n1_ n2_
       have p175 : 0 ≤ (x6_1 : Int) := of_decide_eq_true as_
       have q175 : x6_1 < (l0.length : Int) := of_decide_eq_true as_
       obtain ⟨ad175, A175_1, c175_1, e175, hx175_0, hx175_1, hx175_2, hl175_1, hi175_1⟩ := at_T36 HR0.out x6_1 p175 q175
       have hw175_2 := hx175_2
       have hw175_1 := hx175_1
       have hw175_0 := hx175_0
       cases e175
       replace hx175_0 := cb_ HB.out hx175_0
       replace hx175_1 := cb_ HB.out hx175_1
       replace hx175_2 := cb_ HB.out hx175_2
       have HR175_1 := Aside0.mk hi175_1
       have HC175_1 := Aside0.mk hl175_1
       clear hi175_1 hl175_1
       replace p175 := eq_true p175
       replace q175 := eq_true q175
       refine start_ (n := 14) (S := fun w' => q1_ w' gb174 a1_0 A1_1 l1_1.length c1_1 a1_2 (q2e_ w' (ad175.add ((x6_1).toNat * 3)) ((rd_T36 l0 x6_1).f0) A175_1 ((rd_T36 l0 x6_1).f1).length c175_1 ((rd_T36 l0 x6_1).f2))) (ds := []) M5_0 (by kernel_rfl) rfl rfl (k1_ BK174.out ⟨(cb_ HB.out hw175_0), (cb_ HB.out hw175_1), (cb_ HB.out hw175_2)⟩) (fun hHeld => ?_); refine with_tabW spec_PutSecret.tab2 spec_PutSecret.bits2 (fun HT_ HW_ => ?_)
       generalize wr.drew = w9 at HO_175001 BK174 HB HR175_1 hx175_0 hx175_1 hx175_2 hHeld ⊢
       refine pu_ 0 (some 8) M5_1 HT_ ?_
       refine pu_ 1 (some 9) M5_2 HT_ ?_
       refine pu_ 2 (some 10) M5_3 HT_ ?_
       refine pu_ 3 (some 11) M5_4 HT_ ?_
       refine pu_ 4 (some 12) M5_5 HT_ ?_
       refine pu_ 5 (some 13) M5_6 HT_ ?_
       refine pu_ 6 (some 14) M5_7 HT_ ?_
       refine pu_ 7 (some 15) M5_8 HT_ ?_
       refine pu_ 8 (some 16) M5_9 HT_ ?_
       refine pu_ 10 (some 18) M5_10 HT_ ?_
       refine tk_ 9 (some 17) M5_11 HT_ HW_ hHeld ?_
       refine tk_ 11 (some 19) M5_12 HT_ HW_ hHeld ?_
       refine pu_ 12 (some 20) M5_13 HT_ ?_
       refine pu_ 13 (some 21) M5_14 HT_ ?_
       refine done_ (done_of HT_.out (by kernel_rfl)) ?_
       try go_wp2
       go_meet
       case rel => exact ⟨_, (x6_1), (by first | rfl | (simp; done) | (simp [*]; done)), H', ⟨by have := HK1.out; first | omega | exact Nat.le_refl _⟩, ⟨by (with_reducible repeat (first | apply Kd.V_alloc | apply Kd.V_drewN | apply Kd.V_drew)); exact HO_175001.out⟩, ⟨bd_ BK174.out⟩, ⟨y65_⟩⟩
     ·
      rw [if_neg c6] at H
      exact absurd H (by simp)
    ·
     rw [if_neg c5] at H
     have c5b0 : decide (x6_1 < (l0.length : Int)) = false := decide_eq_false c5
     clear c5
     (first | rw [c5b0] | (simp only [i64_w, i32_w]; rw [c5b0]) | skip)
     have H' := Aside0.mk H
     clear H
     try go_wp2
     have n0_ := Aside0.mk (Kd.V_drew HO_175001.out)
     have n1_ := Aside0.mk (blk_drew BK174.out)
     have n2_ := Aside0.mk (below_drew1 HB.out)
     clear HO_175001
     clear BK174
     clear HB
     have HO_175001 := n0_
     have BK174 := n1_
     have HB := n2_
     clear n0_ n1_ n2_
     refine start_ (n := 14) (S := fun w' => True) (ds := []) M5_0 (by kernel_rfl) rfl rfl trivial (fun hHeld => ?_); refine with_tabW spec_PutSecret.tab2 spec_PutSecret.bits2 (fun HT_ HW_ => ?_)
     generalize wr.drew = w10 at HO_175001 BK174 HB hHeld ⊢
     refine pu_ 0 (some 8) M5_1 HT_ ?_
     refine pu_ 1 (some 9) M5_2 HT_ ?_
     refine pu_ 2 (some 10) M5_3 HT_ ?_
     refine pu_ 3 (some 11) M5_4 HT_ ?_
     refine pu_ 4 (some 12) M5_5 HT_ ?_
     refine pn_ 5 (some 13) M5_6 HT_ ?_
     refine pn_ 6 (some 14) M5_7 HT_ ?_
     refine pn_ 7 (some 15) M5_8 HT_ ?_
     refine pn_ 8 (some 16) M5_9 HT_ ?_
     refine pn_ 9 (some 17) M5_15 HT_ ?_
     refine pn_ 10 (some 18) M5_11 HT_ ?_
     refine pn_ 11 (some 19) M5_12 HT_ ?_
     refine pn_ 12 (some 20) M5_13 HT_ ?_
     refine pu_ 13 (some 21) M5_14 HT_ ?_
     refine done_ (done_of HT_.out (by kernel_rfl)) ?_
     try go_wp2
     go_meet
     case rel => exact ⟨_, (x6_1), (by first | rfl | (simp; done) | (simp [*]; done)), H', ⟨by have := HK1.out; first | omega | exact Nat.le_refl _⟩, ⟨by (with_reducible repeat (first | apply Kd.V_alloc | apply Kd.V_drewN | apply Kd.V_drew)); exact HO_175001.out⟩, ⟨bd_ BK174.out⟩, ⟨y65_⟩⟩
 case rest =>
  clear HC3
  try clear c1
  try clear p1
  try clear q1
  try clear hx1
  try clear p2
  try clear c3
  try clear c5
  try clear c5b0
  try clear c6
  try clear c6b0
  try clear p6
  try clear c7
  try clear c7b0
  try clear hx175_0
  try clear hx175_1
  try clear hx175_2
  try clear p175
  try clear p2
  try clear q175
  obtain ⟨kq, x6_2, rfl, HA, HJ2, HO_175001, BK174, HB⟩ := hcut
  cases kq with
  | zero => exact absurd HA.out (by simp [spec_PutSecret.j1])
  | succ kj2 =>
   have H := HA.out
   clear HA
   simp only [spec_PutSecret.j1] at H
   by_cases c11 : 0 ≤ x6_2
   ·
    rw [if_pos c11] at H
    have c11b0 := eq_true c11
    have c11b1 : decide (0 ≤ x6_2) = true := decide_eq_true c11
    clear c11
    by_cases c12 : x6_2 ≤ (l0.length : Int)
    ·
     rw [if_pos c12] at H
     have c12b0 := eq_true c12
     have c12b1 : decide (x6_2 ≤ (l0.length : Int)) = true := decide_eq_true c12
     clear c12
     obtain ⟨y176, hy176⟩ : ∃ y_ : List (S36), y_ = (l0.take (x6_2 : Int).toNat) := ⟨_, rfl⟩
     replace H : ((spec_l31Copy.f kj2 y176).bind fun t180 => ((spec_l31Copy.f kj2 (([(⟨a1_0, l1_1, a1_2⟩ : S36)] : List (S36)))).bind fun t186 => (if t180.length + t186.length < 3518437208883 then ((some (t180 ++ t186 : List (S36))).bind fun y189 => ((spec_l31Copy.f kj2 (l0.drop (x6_2 : Int).toNat)).bind fun t196 => (if y189.length + t196.length < 3518437208883 then ((some (y189 ++ t196 : List (S36))).bind fun y199 => ((spec_AreSecrets.f kj2 y199).bind fun t202 => (if t202 = true then (some (y199, true)) else ((spec_l31Copy.f kj2 l0).bind fun t203 => (some (t203, false)))))) else (none)))) else (none)))) = some (r1, r2) := by first | (rw [hy176]; with_reducible exact H) | (have H2_ := (Option.bind_some _ _).symm.trans H; rw [hy176]; with_reducible exact H2_) | (have H2_ := (Option.bind_some _ _).symm.trans H; with_reducible exact H2_) | with_reducible exact H | (rw [hy176]; exact H) | exact H
     have Ny176 := Aside0.mk hy176
     clear hy176
     replace H := Option.bind_eq_some_iff.mp H
     obtain ⟨t180, A130, H⟩ := H
     replace H : ((spec_l31Copy.f kj2 (([(⟨a1_0, l1_1, a1_2⟩ : S36)] : List (S36)))).bind fun t186 => (if t180.length + t186.length < 3518437208883 then ((some (t180 ++ t186 : List (S36))).bind fun y189 => ((spec_l31Copy.f kj2 (l0.drop (x6_2 : Int).toNat)).bind fun t196 => (if y189.length + t196.length < 3518437208883 then ((some (y189 ++ t196 : List (S36))).bind fun y199 => ((spec_AreSecrets.f kj2 y199).bind fun t202 => (if t202 = true then (some (y199, true)) else ((spec_l31Copy.f kj2 l0).bind fun t203 => (some (t203, false)))))) else (none)))) else (none))) = some (r1, r2) := H
     have A13 := Aside0.mk A130
     clear A130
     obtain ⟨y183, hy183⟩ : ∃ y_ : List (S36), y_ = (([(⟨a1_0, l1_1, a1_2⟩ : S36)] : List (S36))) := ⟨_, rfl⟩
     replace H : ((spec_l31Copy.f kj2 y183).bind fun t186 => (if t180.length + t186.length < 3518437208883 then ((some (t180 ++ t186 : List (S36))).bind fun y189 => ((spec_l31Copy.f kj2 (l0.drop (x6_2 : Int).toNat)).bind fun t196 => (if y189.length + t196.length < 3518437208883 then ((some (y189 ++ t196 : List (S36))).bind fun y199 => ((spec_AreSecrets.f kj2 y199).bind fun t202 => (if t202 = true then (some (y199, true)) else ((spec_l31Copy.f kj2 l0).bind fun t203 => (some (t203, false)))))) else (none)))) else (none))) = some (r1, r2) := by first | (rw [hy183]; with_reducible exact H) | (have H2_ := (Option.bind_some _ _).symm.trans H; rw [hy183]; with_reducible exact H2_) | (have H2_ := (Option.bind_some _ _).symm.trans H; with_reducible exact H2_) | with_reducible exact H | (rw [hy183]; exact H) | exact H
     have Ny183 := Aside0.mk hy183
     clear hy183
     replace H := Option.bind_eq_some_iff.mp H
     obtain ⟨t186, A140, H⟩ := H
     replace H : (if t180.length + t186.length < 3518437208883 then ((some (t180 ++ t186 : List (S36))).bind fun y189 => ((spec_l31Copy.f kj2 (l0.drop (x6_2 : Int).toNat)).bind fun t196 => (if y189.length + t196.length < 3518437208883 then ((some (y189 ++ t196 : List (S36))).bind fun y199 => ((spec_AreSecrets.f kj2 y199).bind fun t202 => (if t202 = true then (some (y199, true)) else ((spec_l31Copy.f kj2 l0).bind fun t203 => (some (t203, false)))))) else (none)))) else (none)) = some (r1, r2) := H
     have A14 := Aside0.mk A140
     clear A140
     by_cases c15 : t180.length + t186.length < 3518437208883
     ·
      rw [if_pos c15] at H
      have LMc15 := Aside0.mk c15
      clear c15
      obtain ⟨y189, hy189⟩ : ∃ y_ : List (S36), y_ = (t180 ++ t186) := ⟨_, rfl⟩
      replace H : ((spec_l31Copy.f kj2 (l0.drop (x6_2 : Int).toNat)).bind fun t196 => (if y189.length + t196.length < 3518437208883 then ((some (y189 ++ t196 : List (S36))).bind fun y199 => ((spec_AreSecrets.f kj2 y199).bind fun t202 => (if t202 = true then (some (y199, true)) else ((spec_l31Copy.f kj2 l0).bind fun t203 => (some (t203, false)))))) else (none))) = some (r1, r2) := by first | (rw [hy189]; with_reducible exact H) | (have H2_ := (Option.bind_some _ _).symm.trans H; rw [hy189]; with_reducible exact H2_) | (have H2_ := (Option.bind_some _ _).symm.trans H; with_reducible exact H2_) | with_reducible exact H | (rw [hy189]; exact H) | exact H
      have Ny189 := Aside0.mk hy189
      clear hy189
      have c16b0 := eq_true (of_decide_eq_true as_ : 0 ≤ x6_2)
      have c17b0 := eq_true (of_decide_eq_true as_ : x6_2 ≤ (l0.length : Int))
      obtain ⟨y192, hy192⟩ : ∃ y_ : List (S36), y_ = (l0.drop (x6_2 : Int).toNat) := ⟨_, rfl⟩
      replace H : ((spec_l31Copy.f kj2 y192).bind fun t196 => (if y189.length + t196.length < 3518437208883 then ((some (y189 ++ t196 : List (S36))).bind fun y199 => ((spec_AreSecrets.f kj2 y199).bind fun t202 => (if t202 = true then (some (y199, true)) else ((spec_l31Copy.f kj2 l0).bind fun t203 => (some (t203, false)))))) else (none))) = some (r1, r2) := by first | (rw [hy192]; with_reducible exact H) | (have H2_ := (Option.bind_some _ _).symm.trans H; rw [hy192]; with_reducible exact H2_) | (have H2_ := (Option.bind_some _ _).symm.trans H; with_reducible exact H2_) | with_reducible exact H | (rw [hy192]; exact H) | exact H
      have Ny192 := Aside0.mk hy192
      clear hy192
      replace H := Option.bind_eq_some_iff.mp H
      obtain ⟨t196, A180, H⟩ := H
      replace H : (if y189.length + t196.length < 3518437208883 then ((some (y189 ++ t196 : List (S36))).bind fun y199 => ((spec_AreSecrets.f kj2 y199).bind fun t202 => (if t202 = true then (some (y199, true)) else ((spec_l31Copy.f kj2 l0).bind fun t203 => (some (t203, false)))))) else (none)) = some (r1, r2) := H
      have A18 := Aside0.mk A180
      clear A180
      by_cases c19 : y189.length + t196.length < 3518437208883
      ·
       rw [if_pos c19] at H
       have LMc19 := Aside0.mk c19
       clear c19
       obtain ⟨y199, hy199⟩ : ∃ y_ : List (S36), y_ = (y189 ++ t196) := ⟨_, rfl⟩
       replace H : ((spec_AreSecrets.f kj2 y199).bind fun t202 => (if t202 = true then (some (y199, true)) else ((spec_l31Copy.f kj2 l0).bind fun t203 => (some (t203, false))))) = some (r1, r2) := by first | (rw [hy199]; with_reducible exact H) | (have H2_ := (Option.bind_some _ _).symm.trans H; rw [hy199]; with_reducible exact H2_) | (have H2_ := (Option.bind_some _ _).symm.trans H; with_reducible exact H2_) | with_reducible exact H | (rw [hy199]; exact H) | exact H
       have Ny199 := Aside0.mk hy199
       clear hy199
       replace H := Option.bind_eq_some_iff.mp H
       obtain ⟨t202, A200, H⟩ := H
       replace H : (if t202 = true then (some (y199, true)) else ((spec_l31Copy.f kj2 l0).bind fun t203 => (some (t203, false)))) = some (r1, r2) := H
       have A20 := Aside0.mk A200
       clear A200
       by_cases c21 : t202 = true
       ·
        subst c21
        have H1 : (some (y199, true)) = some (r1, r2) := by rw [if_pos rfl] at H; exact H
        clear H
        have H := H1
        clear H1
        simp only [Option.some.injEq, Prod.mk.injEq] at H
        obtain ⟨rfl, rfl⟩ := H
        try go_wp2
        have n0_ := Aside0.mk (Kd.V_drew HO_175001.out)
        have n1_ := Aside0.mk (blk_drew BK174.out)
        have n2_ := Aside0.mk (below_drew1 HB.out)
        clear HO_175001
        clear BK174
        clear HB
        have HO_175001 := n0_
        have BK174 := n1_
        have HB := n2_
        clear n0_ n1_ n2_
        have q23 : (x6_2 : Int) ≤ ((l0.length : Int) : Int) := of_decide_eq_true as_
        obtain ⟨i023, hi023, _, hsz23, _⟩ := info_parts info36
        have hroom23 : l0.length ≤ c0 := HC0.out
        have hC23 : Kd.C k36 _ A0 l0.length l0 := HR0.out
        have hcut23 := cut_to (P := Try.prog) 25 36 .i64 Try.underlying25 hi023 A0 l0.length c0 x6_2 (of_decide_eq_true as_) q23 hroom23
        have hr23 := Kd.C_take (m := (x6_2 : Int).toNat) hC23 (by omega)
        have hy23 : y176.length = (x6_2 : Int).toNat := (by rw [Ny176.out, List.length_take]; omega)
        rw [← Ny176.out] at hr23
        rw [← hy23] at hcut23
        have HR179 := Aside0.mk hr23
        have HC179 := Aside0.mk (show y176.length ≤ c0 from by omega)
        clear hr23 hC23 hroom23 hi023 hsz23
        have KY23 := Aside0.mk hy23
        clear hy23
        replace q23 := eq_true q23
        have q24 : (x6_2 : Int) ≤ ((l0.length : Int) : Int) := of_decide_eq_true as_
        obtain ⟨i024, hi024, _, hsz24, _⟩ := info_parts info36
        have hroom24 : l0.length ≤ c0 := HC0.out
        have hC24 : Kd.C k36 _ A0 l0.length l0 := HR0.out
        have q024 : (0 : Int) ≤ (x6_2 : Int) := of_decide_eq_true as_
        have hcut24 := cut_from (P := Try.prog) 25 36 .i64 Try.underlying25 hi024 3 hsz24 A0 l0.length c0 x6_2 q024 q24
        have hr24 := Kd.C_drop (m := (x6_2 : Int).toNat) (c := c0) hC24 (by omega) hroom24
        obtain ⟨A24, hA24⟩ : ∃ A1, A1 = (if c0 = (x6_2 : Int).toNat then A0 else (A0 : Option Addr).map (·.add ((x6_2 : Int).toNat * 3))) := ⟨_, rfl⟩
        obtain ⟨c24, hc24⟩ : ∃ c1, c1 = c0 - (x6_2 : Int).toNat := ⟨_, rfl⟩
        have hy24 : y192.length = l0.length - (x6_2 : Int).toNat := (by rw [Ny192.out, List.length_drop] <;> omega)
        rw [show (l0).drop (x6_2 : Int).toNat = y192 from Ny192.out.symm] at hr24
        replace hr24 : Kd.C k36 _ A24 y192.length y192 := (by rw [hA24]; exact hr24)
        rw [← hy24, ← hA24, ← hc24] at hcut24
        have HR195 := Aside0.mk hr24
        have HC195 := Aside0.mk (show y192.length ≤ c24 from by rw [hy24, hc24]; exact Nat.sub_le_sub_right hroom24 _)
        clear hr24 hC24 hroom24 hi024 hsz24 hc24
        have KY24 := Aside0.mk hy24
        have KA24 := Aside0.mk hA24
        clear hy24 hA24
        replace q24 := eq_true q24
        refine start_ (n := 14) (S := fun w' => q1e_ w' gb174 a1_0 A1_1 l1_1.length c1_1 a1_2) (ds := []) M5_0 (by kernel_rfl) rfl rfl (k1e_ BK174.out) (fun hHeld => ?_); refine with_tabW spec_PutSecret.tab4 spec_PutSecret.bits4 (fun HT_ HW_ => ?_)
        generalize wc.drew = w22 at HO_175001 BK174 HB HR179 HR195 hHeld ⊢
        refine pu_ 0 (some 24) M5_1 HT_ ?_
        refine pu_ 1 (some 25) M5_2 HT_ ?_
        refine pu_ 2 (some 26) M5_3 HT_ ?_
        refine pu_ 8 (some 32) M5_16 HT_ ?_
        refine pu_ 9 (some 33) M5_17 HT_ ?_
        refine pu_ 10 (some 34) M5_18 HT_ ?_
        refine tk_ 4 (some 28) M5_19 HT_ HW_ hHeld ?_
        refine join_ (σ := Value × Value) 5 M5_20 (fun s_ => [(27, s_.1), (29, s_.2)]) (fun s_ w' => (q1e_ w' gb174 a1_0 A1_1 l1_1.length c1_1 a1_2) ∧ (Kd.N k36 36 w' w.heap.size (fun k_ => (P1_1_ k_ ∨ w.heap.size ≤ k_) ∧ some k_ ≠ (s_.2 : Value).ownBlock ∧ k_ ≠ gb174) s_.1 t180) ∧ (Kd.N k36 36 w' w.heap.size (fun k_ => (P1_1_ k_ ∨ w.heap.size ≤ k_) ∧ some k_ ≠ (s_.1 : Value).ownBlock ∧ k_ ≠ gb174) s_.2 y183) ∧ (Kd.V k67 67 w' w.heap.size (fun k_ => (P1_1_ k_ ∨ w.heap.size ≤ k_) ∧ some k_ ≠ (s_.1 : Value).ownBlock ∧ some k_ ≠ (s_.2 : Value).ownBlock ∧ k_ ≠ gb174) (.slice A1_1 l1_1.length c1_1) l1_1) ∧ (w'.heap[gb174]? = some (.cells #[.int .i64 a1_0, .slice A1_1 l1_1.length c1_1, .int .i64 a1_2] 36 (0, 0))) ∧ (Below w.heap.size w w')) ?_ ?_
        rotate_left
        ·
         intro hCont
         refine two_ (i := 3) (j := 5) (Ni := some 27) (Nj := some 29) M5_21 M5_22 rfl rfl rfl rfl (two_of HT_.out (by kernel_rfl)) (by decide) (by decide) (fun K hK => ?_) (fun K hK => ?_)
         ·
          skip
          refine goes_ Try.func58 (by kernel_rfl) rfl #[.slice A0 y176.length c0] (by rfl) rfl rfl ma_ ?_
          with_reducible refine (spec_l31Copy.calls kj2 _ _ y176 t180 _ ?side1 ?side2 A13.out).mono ?_
          (case side1 => exact cd_ (Kd.C_below HR179.out HB.out))
          (case side2 => exact HC179.out)
          rintro e w25 ⟨v181, rfl, ho0, hb⟩
          refine ⟨_, rfl, ?_⟩
          have n0_ := Aside0.mk (Kd.V_elder' y62_ (Kd.N_base (Kd.S_N ho0)) hb)
          have HO182 := Aside0.mk (Kd.N_lower (Kd.N_mono (ok' := fun k_ => (P1_1_ k_ ∨ w.heap.size ≤ k_) ∧ k_ ≠ gb174) (Kd.S_N (Kd.S_bound ho0)) (fun k_ hk_ => ⟨(.inr (Nat.le_trans (below_size y59_) hk_.2.1)), (Kd.freshB (g := gb174) (o := .cells #[.int .i64 a1_0, .slice A1_1 l1_1.length c1_1, .int .i64 a1_2] 36 (0, 0)) (bd_ BK174.out) k_ hk_.2.1)⟩)) (below_size y59_))
          have n2_ := Aside0.mk (blk_below (bd_ BK174.out) hb)
          have n3_ := Aside0.mk (below_step y59_ hb)
          clear HO_175001
          clear BK174
          clear HB
          have HO_175001 := n0_
          have BK174 := n2_
          have HB := n3_
          clear n0_ n2_ n3_
          (try clear hb)
          (try clear hb2)
          (try clear hk)
          (try clear hi)
          (try clear ho0)
          refine hK.out _ _ (k1e_ BK174.out) (fun hHeld => ?_)
          clear hK K
          refine norm_ (a' := ?_) ?_ ?_
          rotate_left
          ·
           show Act.put _ (some 27) _ = _
           simp only [Act.put, P5_1, P5_2, P5_3, i64_w, i32_w]
           rfl
          refine one_ (i := 5) (N := some 29) M5_20 rfl rfl (one_of HT_.out (by kernel_rfl)) (by decide) (fun K hK => ?_)
          refine Kd.N_lit_step k36 _ 36 ?hg (N' := 29) ?hd (xs := ([(⟨a1_0, l1_1, a1_2⟩ : S36)] : List (S36))) (inner := [.int .i64 a1_0, .slice A1_1 l1_1.length c1_1, .int .i64 a1_2]) (ok := (fun k_ => (P1_1_ k_ ∨ w.heap.size ≤ k_) ∧ some k_ ≠ (v181 : Value).ownBlock ∧ k_ ≠ gb174)) (okp := (fun k_ => (P1_1_ k_ ∨ w.heap.size ≤ k_) ∧ some k_ ≠ (v181 : Value).ownBlock ∧ k_ ≠ gb174)) ?hr ?hp (fun _ hk => hk) ((show ∀ k_, w25.heap.size ≤ k_ → (fun k_ => (P1_1_ k_ ∨ w.heap.size ≤ k_) ∧ some k_ ≠ (v181 : Value).ownBlock ∧ k_ ≠ gb174) k_ from fun k_ hk => ⟨(.inr (Nat.le_trans (below_size y59_) hk)), Kd.fresh' (Kd.N_lt y64_) k_ hk, Kd.freshB (g := gb174) (o := .cells #[.int .i64 a1_0, .slice A1_1 l1_1.length c1_1, .int .i64 a1_2] 36 (0, 0)) (bd_ BK174.out) k_ hk⟩) _ (Nat.le_refl _)) (Below.refl _ _) (Nat.le_refl _) (by simp) ?_; (case hd => rfl); (case hg => rfl); (case hr => first | (go_simp; done) | (go_simp; rfl)); (case hp => exact (Reps.c3 (show Kd.FK k36 _ _ (⟨a1_0, l1_1, a1_2⟩ : S36) [.int .i64 a1_0, .slice A1_1 l1_1.length c1_1, .int .i64 a1_2] from (k36_mkF _ _ (⟨a1_0, l1_1, a1_2⟩ : S36) (Kd.V_reads' (Kd.V_mono (ok' := (fun k_ => (P1_1_ k_ ∨ w.heap.size ≤ k_) ∧ some k_ ≠ (v181 : Value).ownBlock ∧ k_ ≠ gb174)) (HO_175001.out) (fun k_ hk => ⟨hk.1.1, ⟨hk.2, hk.1.2⟩⟩))).2.1 (Kd.V_F (Kd.V_mono (ok' := (fun k_ => (P1_1_ k_ ∨ w.heap.size ≤ k_) ∧ some k_ ≠ (v181 : Value).ownBlock ∧ k_ ≠ gb174)) (HO_175001.out) (fun k_ hk => ⟨hk.1.1, ⟨hk.2, hk.1.2⟩⟩))))) (Reps.none _ _)))
          intro v184 w26 ho27 hb hg_ hnew_
          clear hg_ hnew_
          (first | rw [← Ny183.out] at ho27 | (simp only [Int.reduceToNat] at ho27; rw [← Ny183.out] at ho27))
          have n0_ := Aside0.mk (Kd.V_elder' y62_ (Kd.N_base ho27) hb)
          have n1_ := Aside0.mk (Kd.N_elder' y64_ (Kd.N_base ho27) hb)
          have HO185 := Aside0.mk (Kd.N_lower ho27 (below_size y59_))
          have n3_ := Aside0.mk (blk_below (bd_ BK174.out) hb)
          have n4_ := Aside0.mk (below_step y59_ hb)
          clear HO_175001
          clear HO182
          clear BK174
          clear HB
          have HO_175001 := n0_
          have HO182 := n1_
          have BK174 := n3_
          have HB := n4_
          clear n0_ n1_ n3_ n4_
          clear hb ho27
          refine hK.out _ _ (k1e_ BK174.out) (fun hHeld => ?_)
          clear hK K
          refine norm_ (a' := ?_) ?_ ?_
          rotate_left
          ·
           show Act.put _ (some 29) _ = _
           simp only [Act.put, P5_1, P5_2, P5_3, i64_w, i32_w]
           rfl
          exact norm_ y71_ (hCont (v181, v184) _ ⟨hHeld, (by (with_reducible repeat (first | apply Kd.N_alloc | apply Kd.N_drewN | apply Kd.N_drew)); exact Kd.N_mono HO182.out (fun _ hk => ⟨hk.1.1, ⟨hk.2, hk.1.2⟩⟩)), y61_, (by (with_reducible repeat (first | apply Kd.V_alloc | apply Kd.V_drewN | apply Kd.V_drew)); exact Kd.V_mono HO_175001.out (fun _ hk => ⟨hk.1.1.1, ⟨hk.1.2, ⟨hk.2, hk.1.1.2⟩⟩⟩)), bd_ BK174.out, y59_⟩)
         ·
          skip
          refine Kd.N_lit_step k36 _ 36 ?hg (N' := 29) ?hd (xs := ([(⟨a1_0, l1_1, a1_2⟩ : S36)] : List (S36))) (inner := [.int .i64 a1_0, .slice A1_1 l1_1.length c1_1, .int .i64 a1_2]) (ok := (fun k_ => (P1_1_ k_ ∨ w.heap.size ≤ k_) ∧ k_ ≠ gb174)) (okp := (fun k_ => (P1_1_ k_ ∨ w.heap.size ≤ k_) ∧ k_ ≠ gb174)) ?hr ?hp (fun _ hk => hk) ((show ∀ k_, w22.heap.size ≤ k_ → (fun k_ => (P1_1_ k_ ∨ w.heap.size ≤ k_) ∧ k_ ≠ gb174) k_ from fun k_ hk => ⟨(.inr (Nat.le_trans (below_size y59_) hk)), Kd.freshB (g := gb174) (o := .cells #[.int .i64 a1_0, .slice A1_1 l1_1.length c1_1, .int .i64 a1_2] 36 (0, 0)) (bd_ BK174.out) k_ hk⟩) _ (Nat.le_refl _)) (Below.refl _ _) (Nat.le_refl _) (by simp) ?_; (case hd => rfl); (case hg => rfl); (case hr => first | (go_simp; done) | (go_simp; rfl)); (case hp => exact (Reps.c3 (show Kd.FK k36 _ _ (⟨a1_0, l1_1, a1_2⟩ : S36) [.int .i64 a1_0, .slice A1_1 l1_1.length c1_1, .int .i64 a1_2] from (k36_mkF _ _ (⟨a1_0, l1_1, a1_2⟩ : S36) (Kd.V_reads' (Kd.V_mono (ok' := (fun k_ => (P1_1_ k_ ∨ w.heap.size ≤ k_) ∧ k_ ≠ gb174)) (HO_175001.out) (fun k_ hk => ⟨hk.1, hk.2⟩))).2.1 (Kd.V_F (Kd.V_mono (ok' := (fun k_ => (P1_1_ k_ ∨ w.heap.size ≤ k_) ∧ k_ ≠ gb174)) (HO_175001.out) (fun k_ hk => ⟨hk.1, hk.2⟩))))) (Reps.none _ _)))
          intro v184 w25 ho26 hb hg_ hnew_
          clear hg_ hnew_
          (first | rw [← Ny183.out] at ho26 | (simp only [Int.reduceToNat] at ho26; rw [← Ny183.out] at ho26))
          have n0_ := Aside0.mk (Kd.V_elder' y62_ (Kd.N_base ho26) hb)
          have HO185 := Aside0.mk (Kd.N_lower ho26 (below_size y59_))
          have n2_ := Aside0.mk (blk_below (bd_ BK174.out) hb)
          have n3_ := Aside0.mk (below_step y59_ hb)
          clear HO_175001
          clear BK174
          clear HB
          have HO_175001 := n0_
          have BK174 := n2_
          have HB := n3_
          clear n0_ n2_ n3_
          clear hb ho26
          refine hK.out _ _ (k1e_ BK174.out) (fun hHeld => ?_)
          clear hK K
          refine norm_ (a' := ?_) ?_ ?_
          rotate_left
          ·
           show Act.put _ (some 29) _ = _
           simp only [Act.put, P5_1, P5_2, P5_3, i64_w, i32_w]
           rfl
          refine one_ (i := 3) (N := some 27) M5_20 rfl rfl (one_of HT_.out (by kernel_rfl)) (by decide) (fun K hK => ?_)
          refine goes_ Try.func58 (by kernel_rfl) rfl #[.slice A0 y176.length c0] (by rfl) rfl rfl ma_ ?_
          with_reducible refine (spec_l31Copy.calls kj2 _ _ y176 t180 _ ?side1 ?side2 A13.out).mono ?_
          (case side1 => exact cd_ (Kd.C_below HR179.out HB.out))
          (case side2 => exact HC179.out)
          rintro e w27 ⟨v181, rfl, ho0, hb⟩
          refine ⟨_, rfl, ?_⟩
          have n0_ := Aside0.mk (Kd.V_elder' y62_ (Kd.N_base (Kd.S_N ho0)) hb)
          have n1_ := Aside0.mk (Kd.N_elder' y61_ (Kd.N_base (Kd.S_N ho0)) hb)
          have HO182 := Aside0.mk (Kd.N_lower (Kd.N_mono (ok' := fun k_ => (P1_1_ k_ ∨ w.heap.size ≤ k_) ∧ some k_ ≠ (v184 : Value).ownBlock ∧ k_ ≠ gb174) (Kd.S_N (Kd.S_bound ho0)) (fun k_ hk_ => ⟨(.inr (Nat.le_trans (below_size y59_) hk_.2.1)), (Kd.fresh' (Kd.N_lt y61_) k_ hk_.2.1), (Kd.freshB (g := gb174) (o := .cells #[.int .i64 a1_0, .slice A1_1 l1_1.length c1_1, .int .i64 a1_2] 36 (0, 0)) (bd_ BK174.out) k_ hk_.2.1)⟩)) (below_size y59_))
          have n3_ := Aside0.mk (blk_below (bd_ BK174.out) hb)
          have n4_ := Aside0.mk (below_step y59_ hb)
          clear HO_175001
          clear HO185
          clear BK174
          clear HB
          have HO_175001 := n0_
          have HO185 := n1_
          have BK174 := n3_
          have HB := n4_
          clear n0_ n1_ n3_ n4_
          (try clear hb)
          (try clear hb2)
          (try clear hk)
          (try clear hi)
          (try clear ho0)
          refine hK.out _ _ (k1e_ BK174.out) (fun hHeld => ?_)
          clear hK K
          refine norm_ (a' := ?_) ?_ ?_
          rotate_left
          ·
           show Act.put _ (some 27) _ = _
           simp only [Act.put, P5_1, P5_2, P5_3, i64_w, i32_w]
           rfl
          exact norm_ y71_ (hCont (v181, v184) _ ⟨hHeld, y64_, (by (with_reducible repeat (first | apply Kd.N_alloc | apply Kd.N_drewN | apply Kd.N_drew)); exact Kd.N_mono HO185.out (fun _ hk => ⟨hk.1.1, ⟨hk.2, hk.1.2⟩⟩)), (by (with_reducible repeat (first | apply Kd.V_alloc | apply Kd.V_drewN | apply Kd.V_drew)); exact Kd.V_mono HO_175001.out (fun _ hk => ⟨hk.1.1.1, ⟨hk.2, ⟨hk.1.2, hk.1.1.2⟩⟩⟩)), bd_ BK174.out, y59_⟩)
        rintro ⟨v181, v184⟩ w28 ⟨hS_, h0_, h1_, h2_, h3_, h4_⟩
        have HO182 : Aside0 (Kd.N k36 36 w28 w.heap.size (fun k_ => (P1_1_ k_ ∨ w.heap.size ≤ k_) ∧ some k_ ≠ (v184 : Value).ownBlock ∧ k_ ≠ gb174) v181 t180) := ⟨h0_⟩
        have HO185 : Aside0 (Kd.N k36 36 w28 w.heap.size (fun k_ => (P1_1_ k_ ∨ w.heap.size ≤ k_) ∧ some k_ ≠ (v181 : Value).ownBlock ∧ k_ ≠ gb174) v184 y183) := ⟨h1_⟩
        have n2_ : Aside0 (Kd.V k67 67 w28 w.heap.size (fun k_ => (P1_1_ k_ ∨ w.heap.size ≤ k_) ∧ some k_ ≠ (v181 : Value).ownBlock ∧ some k_ ≠ (v184 : Value).ownBlock ∧ k_ ≠ gb174) (.slice A1_1 l1_1.length c1_1) l1_1) := ⟨h2_⟩
        have n3_ : Aside0 (w28.heap[gb174]? = some (.cells #[.int .i64 a1_0, .slice A1_1 l1_1.length c1_1, .int .i64 a1_2] 36 (0, 0))) := ⟨h3_⟩
        have n4_ : Aside0 (Below w.heap.size w w28) := ⟨h4_⟩
        clear HO_175001
        clear BK174
        clear HB
        clear h0_ h1_ h2_ h3_ h4_
        have HO_175001 := n2_
        have BK174 := n3_
        have HB := n4_
        clear n2_ n3_ n4_
        have hHeld : q1e_ w28 gb174 a1_0 A1_1 l1_1.length c1_1 a1_2 := hS_
        obtain ⟨Ao29, co29, eo29⟩ := Kd.N_slice HO185.out
        (first | subst eo29 | (injection eo29 with f1_ f2_ f3_; have f4_ := f1_.symm; have f5_ := f3_.symm; clear f1_ f2_ f3_; subst f4_; subst f5_))
        refine norm_ (a' := ?_) ?_ ?_
        rotate_left
        ·
         simp only [putAll, Act.put, List.setIfInBounds_toArray, List.set_cons_zero, List.set_cons_succ]
         rfl
        refine one_ (i := 6) (N := some 30) M5_23 rfl rfl (one_of HT_.out (by kernel_rfl)) (by decide) (fun K hK => ?_)
        refine goes_ Try.func58 (by kernel_rfl) rfl #[.slice Ao29 y183.length co29] (by rfl) rfl rfl ma_ ?_
        with_reducible refine (spec_l31Copy.calls kj2 _ _ y183 t186 _ ?side1 ?side2 A14.out).mono ?_
        (case side1 => exact cd_ (Kd.N_reads' HO185.out).2.2)
        (case side2 => exact (Kd.N_reads' HO185.out).2.1)
        rintro e w30 ⟨v187, rfl, ho0, hb⟩
        refine ⟨_, rfl, ?_⟩
        have n0_ := Aside0.mk (Kd.V_elder' y62_ (Kd.N_base (Kd.S_N ho0)) hb)
        have n1_ := Aside0.mk (Kd.N_elder' y64_ (Kd.N_base (Kd.S_N ho0)) hb)
        have n2_ := Aside0.mk (Kd.N_elder' y61_ (Kd.N_base (Kd.S_N ho0)) hb)
        have HO188 := Aside0.mk (Kd.N_lower (Kd.N_mono (ok' := fun k_ => (P1_1_ k_ ∨ w.heap.size ≤ k_) ∧ some k_ ≠ (v181 : Value).ownBlock ∧ some k_ ≠ (.slice Ao29 y183.length co29 : Value).ownBlock ∧ k_ ≠ gb174) (Kd.S_N (Kd.S_bound ho0)) (fun k_ hk_ => ⟨(.inr (Nat.le_trans (below_size y59_) hk_.2.1)), (Kd.fresh' (Kd.N_lt y64_) k_ hk_.2.1), (Kd.fresh' (Kd.N_lt y61_) k_ hk_.2.1), (Kd.freshB (g := gb174) (o := .cells #[.int .i64 a1_0, .slice A1_1 l1_1.length c1_1, .int .i64 a1_2] 36 (0, 0)) (bd_ BK174.out) k_ hk_.2.1)⟩)) (below_size y59_))
        have n4_ := Aside0.mk (blk_below (bd_ BK174.out) hb)
        have n5_ := Aside0.mk (below_step y59_ hb)
        clear HO_175001
        clear HO182
        clear HO185
        clear BK174
        clear HB
        have HO_175001 := n0_
        have HO182 := n1_
        have HO185 := n2_
        have BK174 := n4_
        have HB := n5_
        clear n0_ n1_ n2_ n4_ n5_
        (try clear hb)
        (try clear hb2)
        (try clear hk)
        (try clear hi)
        (try clear ho0)
        obtain ⟨Ao32, co32, eo32⟩ := Kd.N_slice HO188.out
        (first | subst eo32 | (injection eo32 with f1_ f2_ f3_; have f4_ := f1_.symm; have f5_ := f3_.symm; clear f1_ f2_ f3_; subst f4_; subst f5_))
        refine hK.out _ _ (k1e_ BK174.out) (fun hHeld => ?_)
        clear hK K
        refine norm_ (a' := ?_) ?_ ?_
        rotate_left
        ·
         show Act.put _ (some 30) _ = _
         simp only [Act.put, P5_1, P5_2, P5_3, i64_w, i32_w]
         rfl
        refine one_ (i := 7) (N := some 31) M5_11 rfl rfl (one_of HT_.out (by kernel_rfl)) (by decide) (fun K hK => ?_)
        refine Kd.N_append_rows_step k36 (w0 := w) w.heap.size (by rfl) (.tmp 27) (.tmp 30) 25 36 (.agg #[(.int .i64 0), (.slice none 0 0), (.int .i64 0)]) 40 rfl Try.underlying25 info36 rfl (by decide) (by omega) v181 t180 t186 _ _ _ (fun k_ => (P1_1_ k_ ∨ w.heap.size ≤ k_) ∧ some k_ ≠ (.slice Ao29 y183.length co29 : Value).ownBlock ∧ k_ ≠ gb174) (fun k_ => ((fun k_ => (P1_1_ k_ ∨ w.heap.size ≤ k_) ∧ some k_ ≠ (.slice Ao29 y183.length co29 : Value).ownBlock ∧ k_ ≠ gb174)) k_ ∧ some k_ ≠ (v181 : Value).ownBlock) rfl rfl ?aO ?aR (fun _ hk => hk) ?aF ?aB ?aS ?aL ?_
        (case aR => exact (by skip; exact Kd.N_F (Kd.N_mono (ok' := (fun k_ => ((fun k_ => (P1_1_ k_ ∨ w.heap.size ≤ k_) ∧ some k_ ≠ (.slice Ao29 y183.length co29 : Value).ownBlock ∧ k_ ≠ gb174)) k_ ∧ some k_ ≠ (v181 : Value).ownBlock)) (HO188.out) (fun k_ hk => ⟨⟨hk.1, ⟨hk.2.2.1, hk.2.2.2⟩⟩, hk.2.1⟩))))
        (case aB => exact y59_)
        (case aF => exact (fun k_ hk => ⟨(.inr (Nat.le_trans (below_size y59_) hk)), Kd.fresh' (Kd.N_lt y61_) k_ hk, Kd.freshB (g := gb174) (o := .cells #[.int .i64 a1_0, .slice A1_1 l1_1.length c1_1, .int .i64 a1_2] 36 (0, 0)) (bd_ BK174.out) k_ hk⟩))
        (case aO => exact (by (with_reducible repeat (first | apply Kd.N_alloc | apply Kd.N_drewN | apply Kd.N_drew)); exact Kd.N_mono HO182.out (fun _ hk => ⟨hk.1.1, ⟨hk.1.2.1, hk.1.2.2⟩⟩)))
        (case aS => exact (below_size y59_))
        (case aL => have := LMc15.out; omega)
        intro v190 w31 ho hb hg hat
        rw [← Ny189.out] at ho
        have n0_ := Aside0.mk (Kd.V_afterv (ok := (fun k_ => (P1_1_ k_ ∨ w.heap.size ≤ k_) ∧ some k_ ≠ (.slice Ao29 y183.length co29 : Value).ownBlock ∧ some k_ ≠ (.slice Ao32 t186.length co32 : Value).ownBlock ∧ k_ ≠ gb174)) (by (with_reducible repeat (first | apply Kd.V_alloc | apply Kd.V_drewN | apply Kd.V_drew)); exact Kd.V_mono HO_175001.out (fun _ hk => ⟨⟨hk.1.1, ⟨hk.1.2.2.1, ⟨hk.2, hk.1.2.2.2⟩⟩⟩, hk.1.2.1⟩)) hg hat)
        have n1_ := Aside0.mk (blk_grown (g := gb174) (o := .cells #[.int .i64 a1_0, .slice A1_1 l1_1.length c1_1, .int .i64 a1_2] 36 (0, 0)) (bd_ BK174.out) hg (Kd.N_away HO182.out (fun _ hk => hk.1.2.2)))
        have n2_ := Aside0.mk (Kd.N_afterv (ok := (fun k_ => (P1_1_ k_ ∨ w.heap.size ≤ k_) ∧ some k_ ≠ (.slice Ao32 t186.length co32 : Value).ownBlock ∧ k_ ≠ gb174)) (by (with_reducible repeat (first | apply Kd.N_alloc | apply Kd.N_drewN | apply Kd.N_drew)); exact Kd.N_mono HO185.out (fun _ hk => ⟨⟨hk.1.1, ⟨hk.2, hk.1.2.2⟩⟩, hk.1.2.1⟩)) hg hat)
        have n3_ := Aside0.mk (Kd.N_afterv (ok := (fun k_ => (P1_1_ k_ ∨ w.heap.size ≤ k_) ∧ some k_ ≠ (.slice Ao29 y183.length co29 : Value).ownBlock ∧ k_ ≠ gb174)) (by (with_reducible repeat (first | apply Kd.N_alloc | apply Kd.N_drewN | apply Kd.N_drew)); exact Kd.N_mono HO188.out (fun _ hk => ⟨⟨hk.1, ⟨hk.2.2.1, hk.2.2.2⟩⟩, hk.2.1⟩)) hg hat)
        have n4_ := Aside0.mk (hb)
        have HO191 := Aside0.mk (ho)
        clear HO_175001
        clear BK174
        clear HO185
        clear HO188
        clear HB
        clear HO182
        have HO_175001 := n0_
        have BK174 := n1_
        have HO185 := n2_
        have HO188 := n3_
        have HB := n4_
        clear n0_ n1_ n2_ n3_ n4_
        clear ho hb hg hat
        refine hK.out _ _ (k1e_ BK174.out) (fun hHeld => ?_)
        clear hK K
        refine norm_ (a' := ?_) ?_ ?_
        rotate_left
        ·
         show Act.put _ (some 31) _ = _
         simp only [Act.put, P5_1, P5_2, P5_3, i64_w, i32_w]
         rfl
        refine one_ (i := 11) (N := some 35) M5_12 rfl rfl (one_of HT_.out (by kernel_rfl)) (by decide) (fun K hK => ?_)
        refine goes_ Try.func58 (by kernel_rfl) rfl #[.slice A24 y192.length c24] (by rfl) rfl rfl ma_ ?_
        with_reducible refine (spec_l31Copy.calls kj2 _ _ y192 t196 _ ?side1 ?side2 A18.out).mono ?_
        (case side1 => exact cd_ (Kd.C_below HR195.out HB.out))
        (case side2 => exact HC195.out)
        rintro e w33 ⟨v197, rfl, ho0, hb⟩
        refine ⟨_, rfl, ?_⟩
        have n0_ := Aside0.mk (Kd.V_elder' y62_ (Kd.N_base (Kd.S_N ho0)) hb)
        have n1_ := Aside0.mk (Kd.N_elder' y61_ (Kd.N_base (Kd.S_N ho0)) hb)
        have n2_ := Aside0.mk (Kd.N_elder' y66_ (Kd.N_base (Kd.S_N ho0)) hb)
        have n3_ := Aside0.mk (Kd.N_elder' y68_ (Kd.N_base (Kd.S_N ho0)) hb)
        have HO198 := Aside0.mk (Kd.N_lower (Kd.N_mono (ok' := fun k_ => (P1_1_ k_ ∨ w.heap.size ≤ k_) ∧ some k_ ≠ (.slice Ao29 y183.length co29 : Value).ownBlock ∧ some k_ ≠ (.slice Ao32 t186.length co32 : Value).ownBlock ∧ some k_ ≠ (v190 : Value).ownBlock ∧ k_ ≠ gb174) (Kd.S_N (Kd.S_bound ho0)) (fun k_ hk_ => ⟨(.inr (Nat.le_trans (below_size y59_) hk_.2.1)), (Kd.fresh' (Kd.N_lt y61_) k_ hk_.2.1), (Kd.fresh' (Kd.N_lt y66_) k_ hk_.2.1), (Kd.fresh' (Kd.N_lt y68_) k_ hk_.2.1), (Kd.freshB (g := gb174) (o := .cells #[.int .i64 a1_0, .slice A1_1 l1_1.length c1_1, .int .i64 a1_2] 36 (0, 0)) (bd_ BK174.out) k_ hk_.2.1)⟩)) (below_size y59_))
        have n5_ := Aside0.mk (blk_below (bd_ BK174.out) hb)
        have n6_ := Aside0.mk (below_step y59_ hb)
        clear HO_175001
        clear HO185
        clear HO188
        clear HO191
        clear BK174
        clear HB
        have HO_175001 := n0_
        have HO185 := n1_
        have HO188 := n2_
        have HO191 := n3_
        have BK174 := n5_
        have HB := n6_
        clear n0_ n1_ n2_ n3_ n5_ n6_
        (try clear hb)
        (try clear hb2)
        (try clear hk)
        (try clear hi)
        (try clear ho0)
        obtain ⟨Ao35, co35, eo35⟩ := Kd.N_slice HO198.out
        (first | subst eo35 | (injection eo35 with f1_ f2_ f3_; have f4_ := f1_.symm; have f5_ := f3_.symm; clear f1_ f2_ f3_; subst f4_; subst f5_))
        refine hK.out _ _ (k1e_ BK174.out) (fun hHeld => ?_)
        clear hK K
        refine norm_ (a' := ?_) ?_ ?_
        rotate_left
        ·
         show Act.put _ (some 35) _ = _
         simp only [Act.put, P5_1, P5_2, P5_3, i64_w, i32_w]
         rfl
        refine one_ (i := 12) (N := some 36) M5_13 rfl rfl (one_of HT_.out (by kernel_rfl)) (by decide) (fun K hK => ?_)
        refine Kd.N_append_rows_step k36 (w0 := w) w.heap.size (by rfl) (.tmp 31) (.tmp 35) 25 36 (.agg #[(.int .i64 0), (.slice none 0 0), (.int .i64 0)]) 40 rfl Try.underlying25 info36 rfl (by decide) (by omega) v190 y189 t196 _ _ _ (fun k_ => (P1_1_ k_ ∨ w.heap.size ≤ k_) ∧ some k_ ≠ (.slice Ao29 y183.length co29 : Value).ownBlock ∧ k_ ≠ gb174) (fun k_ => ((fun k_ => (P1_1_ k_ ∨ w.heap.size ≤ k_) ∧ some k_ ≠ (.slice Ao29 y183.length co29 : Value).ownBlock ∧ k_ ≠ gb174)) k_ ∧ some k_ ≠ (v190 : Value).ownBlock) rfl rfl ?aO ?aR (fun _ hk => hk) ?aF ?aB ?aS ?aL ?_
        (case aR => exact (by skip; exact Kd.N_F (Kd.N_mono (ok' := (fun k_ => ((fun k_ => (P1_1_ k_ ∨ w.heap.size ≤ k_) ∧ some k_ ≠ (.slice Ao29 y183.length co29 : Value).ownBlock ∧ k_ ≠ gb174)) k_ ∧ some k_ ≠ (v190 : Value).ownBlock)) (HO198.out) (fun k_ hk => ⟨⟨hk.1, ⟨hk.2.1, hk.2.2.2.2⟩⟩, hk.2.2.2.1⟩))))
        (case aB => exact y59_)
        (case aF => exact (fun k_ hk => ⟨(.inr (Nat.le_trans (below_size y59_) hk)), Kd.fresh' (Kd.N_lt y61_) k_ hk, Kd.freshB (g := gb174) (o := .cells #[.int .i64 a1_0, .slice A1_1 l1_1.length c1_1, .int .i64 a1_2] 36 (0, 0)) (bd_ BK174.out) k_ hk⟩))
        (case aO => exact (by (with_reducible repeat (first | apply Kd.N_alloc | apply Kd.N_drewN | apply Kd.N_drew)); exact Kd.N_mono HO191.out (fun _ hk => ⟨hk.1.1, ⟨hk.1.2.1, hk.1.2.2⟩⟩)))
        (case aS => exact (below_size y59_))
        (case aL => have := LMc19.out; omega)
        intro v200 w34 ho hb hg hat
        rw [← Ny199.out] at ho
        have n0_ := Aside0.mk (Kd.V_afterv (ok := (fun k_ => (P1_1_ k_ ∨ w.heap.size ≤ k_) ∧ some k_ ≠ (.slice Ao29 y183.length co29 : Value).ownBlock ∧ some k_ ≠ (.slice Ao32 t186.length co32 : Value).ownBlock ∧ some k_ ≠ (.slice Ao35 t196.length co35 : Value).ownBlock ∧ k_ ≠ gb174)) y73_ hg hat)
        have n1_ := Aside0.mk (blk_grown (g := gb174) (o := .cells #[.int .i64 a1_0, .slice A1_1 l1_1.length c1_1, .int .i64 a1_2] 36 (0, 0)) (bd_ BK174.out) hg (Kd.N_away HO191.out (fun _ hk => hk.1.2.2)))
        have n2_ := Aside0.mk (Kd.N_afterv (ok := (fun k_ => (P1_1_ k_ ∨ w.heap.size ≤ k_) ∧ some k_ ≠ (.slice Ao32 t186.length co32 : Value).ownBlock ∧ some k_ ≠ (.slice Ao35 t196.length co35 : Value).ownBlock ∧ k_ ≠ gb174)) (by (with_reducible repeat (first | apply Kd.N_alloc | apply Kd.N_drewN | apply Kd.N_drew)); exact Kd.N_mono HO185.out (fun _ hk => ⟨⟨hk.1.1.1, ⟨hk.1.1.2.1, ⟨hk.2, hk.1.1.2.2⟩⟩⟩, hk.1.2⟩)) hg hat)
        have n3_ := Aside0.mk (Kd.N_afterv (ok := (fun k_ => (P1_1_ k_ ∨ w.heap.size ≤ k_) ∧ some k_ ≠ (.slice Ao29 y183.length co29 : Value).ownBlock ∧ some k_ ≠ (.slice Ao35 t196.length co35 : Value).ownBlock ∧ k_ ≠ gb174)) (by (with_reducible repeat (first | apply Kd.N_alloc | apply Kd.N_drewN | apply Kd.N_drew)); exact Kd.N_mono HO188.out (fun _ hk => ⟨⟨hk.1.1.1, ⟨hk.1.1.2.1, ⟨hk.2, hk.1.1.2.2⟩⟩⟩, hk.1.2⟩)) hg hat)
        have n4_ := Aside0.mk (Kd.N_afterv (ok := (fun k_ => (P1_1_ k_ ∨ w.heap.size ≤ k_) ∧ some k_ ≠ (.slice Ao29 y183.length co29 : Value).ownBlock ∧ some k_ ≠ (.slice Ao32 t186.length co32 : Value).ownBlock ∧ k_ ≠ gb174)) (by (with_reducible repeat (first | apply Kd.N_alloc | apply Kd.N_drewN | apply Kd.N_drew)); exact Kd.N_mono HO198.out (fun _ hk => ⟨⟨hk.1, ⟨hk.2.1, ⟨hk.2.2.1, hk.2.2.2.2⟩⟩⟩, hk.2.2.2.1⟩)) hg hat)
        have n5_ := Aside0.mk (hb)
        have HO201 := Aside0.mk (ho)
        clear HO_175001
        clear BK174
        clear HO185
        clear HO188
        clear HO198
        clear HB
        clear HO191
        have HO_175001 := n0_
        have BK174 := n1_
        have HO185 := n2_
        have HO188 := n3_
        have HO198 := n4_
        have HB := n5_
        clear n0_ n1_ n2_ n3_ n4_ n5_
        clear ho hb hg hat
        refine hK.out _ _ (k1e_ BK174.out) (fun hHeld => ?_)
        clear hK K
        refine norm_ (a' := ?_) ?_ ?_
        rotate_left
        ·
         show Act.put _ (some 36) _ = _
         simp only [Act.put, P5_1, P5_2, P5_3, i64_w, i32_w]
         rfl
        refine pu_ 13 (some 7) M5_14 HT_ ?_
        refine done_ (done_of HT_.out (by kernel_rfl)) ?_
        obtain ⟨Ao36, co36, eo36⟩ := Kd.N_slice HO201.out
        subst eo36
        try go_wp2_with (first | ((with_reducible refine gate_callee (f := 11) rfl ?_); refine goesL_ (some 38) rfl rfl Try.func11 (by kernel_rfl) rfl #[.slice Ao36 y199.length co36] rfl ma_ ?_; (with_reducible refine (spec_AreSecrets.calls kj2 _ _ y199 true _ ?side1 ?side2 A20.out).mono ?_); (case side1 => exact cd_ (Kd.N_reads' HO201.out).2.2); (case side2 => exact (Kd.N_reads' HO201.out).2.1); rintro e w37 ⟨rfl, hb⟩; refine ⟨_, rfl, ?_⟩; have n0_ := Aside0.mk (Kd.V_below y62_ hb); have n1_ := Aside0.mk (Kd.N_below y61_ hb); have n2_ := Aside0.mk (Kd.N_below y66_ hb); have n3_ := Aside0.mk (Kd.N_below y69_ hb); have n4_ := Aside0.mk (Kd.N_below y70_ hb); have n5_ := Aside0.mk (blk_below (bd_ BK174.out) hb); have n6_ := Aside0.mk (below_step y59_ hb); clear HO_175001; clear HO185; clear HO188; clear HO198; clear HO201; clear BK174; clear HB; have HO_175001 := n0_; have HO185 := n1_; have HO188 := n2_; have HO198 := n3_; have HO201 := n4_; have BK174 := n5_; have HB := n6_; clear n0_ n1_ n2_ n3_ n4_ n5_ n6_; (try clear hb); (try clear hb2); (try clear hk); (try clear hi)))
        go_ret2
        exact ⟨_, by first | rfl | (simp [errW_none, errW_some] <;> rfl) | (simp [*, errW_none, errW_some] <;> rfl), by (with_reducible repeat (first | apply Kd.N_alloc | apply Kd.N_drewN | apply Kd.N_drew)); exact Kd.N_mono HO201.out (fun _ hk => hk.1), y65_⟩
       ·
        replace c21 := Bool.eq_false_iff.mpr c21
        subst c21
        have H1 : ((spec_l31Copy.f kj2 l0).bind fun t203 => (some (t203, false))) = some (r1, r2) := by rw [if_neg (show ¬ (false = true) by decide)] at H; exact H
        clear H
        have H := H1
        clear H1
        replace H := Option.bind_eq_some_iff.mp H
        obtain ⟨t203, A380, H⟩ := H
        replace H : (some (t203, false)) = some (r1, r2) := H
        have A38 := Aside0.mk A380
        clear A380
        simp only [Option.some.injEq, Prod.mk.injEq] at H
        obtain ⟨rfl, rfl⟩ := H
        try go_wp2
        have n0_ := Aside0.mk (Kd.V_drew HO_175001.out)
        have n1_ := Aside0.mk (blk_drew BK174.out)
        have n2_ := Aside0.mk (below_drew1 HB.out)
        clear HO_175001
        clear BK174
        clear HB
        have HO_175001 := n0_
        have BK174 := n1_
        have HB := n2_
        clear n0_ n1_ n2_
        have q40 : (x6_2 : Int) ≤ ((l0.length : Int) : Int) := of_decide_eq_true as_
        obtain ⟨i040, hi040, _, hsz40, _⟩ := info_parts info36
        have hroom40 : l0.length ≤ c0 := HC0.out
        have hC40 : Kd.C k36 _ A0 l0.length l0 := HR0.out
        have hcut40 := cut_to (P := Try.prog) 25 36 .i64 Try.underlying25 hi040 A0 l0.length c0 x6_2 (of_decide_eq_true as_) q40 hroom40
        have hr40 := Kd.C_take (m := (x6_2 : Int).toNat) hC40 (by omega)
        have hy40 : y176.length = (x6_2 : Int).toNat := (by rw [Ny176.out, List.length_take]; omega)
        rw [← Ny176.out] at hr40
        rw [← hy40] at hcut40
        have HR179 := Aside0.mk hr40
        have HC179 := Aside0.mk (show y176.length ≤ c0 from by omega)
        clear hr40 hC40 hroom40 hi040 hsz40
        have KY40 := Aside0.mk hy40
        clear hy40
        replace q40 := eq_true q40
        have q41 : (x6_2 : Int) ≤ ((l0.length : Int) : Int) := of_decide_eq_true as_
        obtain ⟨i041, hi041, _, hsz41, _⟩ := info_parts info36
        have hroom41 : l0.length ≤ c0 := HC0.out
        have hC41 : Kd.C k36 _ A0 l0.length l0 := HR0.out
        have q041 : (0 : Int) ≤ (x6_2 : Int) := of_decide_eq_true as_
        have hcut41 := cut_from (P := Try.prog) 25 36 .i64 Try.underlying25 hi041 3 hsz41 A0 l0.length c0 x6_2 q041 q41
        have hr41 := Kd.C_drop (m := (x6_2 : Int).toNat) (c := c0) hC41 (by omega) hroom41
        obtain ⟨A41, hA41⟩ : ∃ A1, A1 = (if c0 = (x6_2 : Int).toNat then A0 else (A0 : Option Addr).map (·.add ((x6_2 : Int).toNat * 3))) := ⟨_, rfl⟩
        obtain ⟨c41, hc41⟩ : ∃ c1, c1 = c0 - (x6_2 : Int).toNat := ⟨_, rfl⟩
        have hy41 : y192.length = l0.length - (x6_2 : Int).toNat := (by rw [Ny192.out, List.length_drop] <;> omega)
        rw [show (l0).drop (x6_2 : Int).toNat = y192 from Ny192.out.symm] at hr41
        replace hr41 : Kd.C k36 _ A41 y192.length y192 := (by rw [hA41]; exact hr41)
        rw [← hy41, ← hA41, ← hc41] at hcut41
        have HR195 := Aside0.mk hr41
        have HC195 := Aside0.mk (show y192.length ≤ c41 from by rw [hy41, hc41]; exact Nat.sub_le_sub_right hroom41 _)
        clear hr41 hC41 hroom41 hi041 hsz41 hc41
        have KY41 := Aside0.mk hy41
        have KA41 := Aside0.mk hA41
        clear hy41 hA41
        replace q41 := eq_true q41
        refine start_ (n := 14) (S := fun w' => q1e_ w' gb174 a1_0 A1_1 l1_1.length c1_1 a1_2) (ds := []) M5_0 (by kernel_rfl) rfl rfl (k1e_ BK174.out) (fun hHeld => ?_); refine with_tabW spec_PutSecret.tab4 spec_PutSecret.bits4 (fun HT_ HW_ => ?_)
        generalize wc.drew = w39 at HO_175001 BK174 HB HR179 HR195 hHeld ⊢
        refine pu_ 0 (some 24) M5_1 HT_ ?_
        refine pu_ 1 (some 25) M5_2 HT_ ?_
        refine pu_ 2 (some 26) M5_3 HT_ ?_
        refine pu_ 8 (some 32) M5_16 HT_ ?_
        refine pu_ 9 (some 33) M5_17 HT_ ?_
        refine pu_ 10 (some 34) M5_18 HT_ ?_
        refine tk_ 4 (some 28) M5_19 HT_ HW_ hHeld ?_
        refine join_ (σ := Value × Value) 5 M5_20 (fun s_ => [(27, s_.1), (29, s_.2)]) (fun s_ w' => (q1e_ w' gb174 a1_0 A1_1 l1_1.length c1_1 a1_2) ∧ (Kd.N k36 36 w' w.heap.size (fun k_ => (P1_1_ k_ ∨ w.heap.size ≤ k_) ∧ some k_ ≠ (s_.2 : Value).ownBlock ∧ k_ ≠ gb174) s_.1 t180) ∧ (Kd.N k36 36 w' w.heap.size (fun k_ => (P1_1_ k_ ∨ w.heap.size ≤ k_) ∧ some k_ ≠ (s_.1 : Value).ownBlock ∧ k_ ≠ gb174) s_.2 y183) ∧ (Kd.V k67 67 w' w.heap.size (fun k_ => (P1_1_ k_ ∨ w.heap.size ≤ k_) ∧ some k_ ≠ (s_.1 : Value).ownBlock ∧ some k_ ≠ (s_.2 : Value).ownBlock ∧ k_ ≠ gb174) (.slice A1_1 l1_1.length c1_1) l1_1) ∧ (w'.heap[gb174]? = some (.cells #[.int .i64 a1_0, .slice A1_1 l1_1.length c1_1, .int .i64 a1_2] 36 (0, 0))) ∧ (Below w.heap.size w w')) ?_ ?_
        rotate_left
        ·
         intro hCont
         refine two_ (i := 3) (j := 5) (Ni := some 27) (Nj := some 29) M5_21 M5_22 rfl rfl rfl rfl (two_of HT_.out (by kernel_rfl)) (by decide) (by decide) (fun K hK => ?_) (fun K hK => ?_)
         ·
          skip
          refine goes_ Try.func58 (by kernel_rfl) rfl #[.slice A0 y176.length c0] (by rfl) rfl rfl ma_ ?_
          with_reducible refine (spec_l31Copy.calls kj2 _ _ y176 t180 _ ?side1 ?side2 A13.out).mono ?_
          (case side1 => exact cd_ (Kd.C_below HR179.out HB.out))
          (case side2 => exact HC179.out)
          rintro e w42 ⟨v181, rfl, ho0, hb⟩
          refine ⟨_, rfl, ?_⟩
          have n0_ := Aside0.mk (Kd.V_elder' y62_ (Kd.N_base (Kd.S_N ho0)) hb)
          have HO182 := Aside0.mk (Kd.N_lower (Kd.N_mono (ok' := fun k_ => (P1_1_ k_ ∨ w.heap.size ≤ k_) ∧ k_ ≠ gb174) (Kd.S_N (Kd.S_bound ho0)) (fun k_ hk_ => ⟨(.inr (Nat.le_trans (below_size y59_) hk_.2.1)), (Kd.freshB (g := gb174) (o := .cells #[.int .i64 a1_0, .slice A1_1 l1_1.length c1_1, .int .i64 a1_2] 36 (0, 0)) (bd_ BK174.out) k_ hk_.2.1)⟩)) (below_size y59_))
          have n2_ := Aside0.mk (blk_below (bd_ BK174.out) hb)
          have n3_ := Aside0.mk (below_step y59_ hb)
          clear HO_175001
          clear BK174
          clear HB
          have HO_175001 := n0_
          have BK174 := n2_
          have HB := n3_
          clear n0_ n2_ n3_
          (try clear hb)
          (try clear hb2)
          (try clear hk)
          (try clear hi)
          (try clear ho0)
          refine hK.out _ _ (k1e_ BK174.out) (fun hHeld => ?_)
          clear hK K
          refine norm_ (a' := ?_) ?_ ?_
          rotate_left
          ·
           show Act.put _ (some 27) _ = _
           simp only [Act.put, P5_1, P5_2, P5_3, i64_w, i32_w]
           rfl
          refine one_ (i := 5) (N := some 29) M5_20 rfl rfl (one_of HT_.out (by kernel_rfl)) (by decide) (fun K hK => ?_)
          refine Kd.N_lit_step k36 _ 36 ?hg (N' := 29) ?hd (xs := ([(⟨a1_0, l1_1, a1_2⟩ : S36)] : List (S36))) (inner := [.int .i64 a1_0, .slice A1_1 l1_1.length c1_1, .int .i64 a1_2]) (ok := (fun k_ => (P1_1_ k_ ∨ w.heap.size ≤ k_) ∧ some k_ ≠ (v181 : Value).ownBlock ∧ k_ ≠ gb174)) (okp := (fun k_ => (P1_1_ k_ ∨ w.heap.size ≤ k_) ∧ some k_ ≠ (v181 : Value).ownBlock ∧ k_ ≠ gb174)) ?hr ?hp (fun _ hk => hk) ((show ∀ k_, w42.heap.size ≤ k_ → (fun k_ => (P1_1_ k_ ∨ w.heap.size ≤ k_) ∧ some k_ ≠ (v181 : Value).ownBlock ∧ k_ ≠ gb174) k_ from fun k_ hk => ⟨(.inr (Nat.le_trans (below_size y59_) hk)), Kd.fresh' (Kd.N_lt y64_) k_ hk, Kd.freshB (g := gb174) (o := .cells #[.int .i64 a1_0, .slice A1_1 l1_1.length c1_1, .int .i64 a1_2] 36 (0, 0)) (bd_ BK174.out) k_ hk⟩) _ (Nat.le_refl _)) (Below.refl _ _) (Nat.le_refl _) (by simp) ?_; (case hd => rfl); (case hg => rfl); (case hr => first | (go_simp; done) | (go_simp; rfl)); (case hp => exact (Reps.c3 (show Kd.FK k36 _ _ (⟨a1_0, l1_1, a1_2⟩ : S36) [.int .i64 a1_0, .slice A1_1 l1_1.length c1_1, .int .i64 a1_2] from (k36_mkF _ _ (⟨a1_0, l1_1, a1_2⟩ : S36) (Kd.V_reads' (Kd.V_mono (ok' := (fun k_ => (P1_1_ k_ ∨ w.heap.size ≤ k_) ∧ some k_ ≠ (v181 : Value).ownBlock ∧ k_ ≠ gb174)) (HO_175001.out) (fun k_ hk => ⟨hk.1.1, ⟨hk.2, hk.1.2⟩⟩))).2.1 (Kd.V_F (Kd.V_mono (ok' := (fun k_ => (P1_1_ k_ ∨ w.heap.size ≤ k_) ∧ some k_ ≠ (v181 : Value).ownBlock ∧ k_ ≠ gb174)) (HO_175001.out) (fun k_ hk => ⟨hk.1.1, ⟨hk.2, hk.1.2⟩⟩))))) (Reps.none _ _)))
          intro v184 w43 ho44 hb hg_ hnew_
          clear hg_ hnew_
          (first | rw [← Ny183.out] at ho44 | (simp only [Int.reduceToNat] at ho44; rw [← Ny183.out] at ho44))
          have n0_ := Aside0.mk (Kd.V_elder' y62_ (Kd.N_base ho44) hb)
          have n1_ := Aside0.mk (Kd.N_elder' y64_ (Kd.N_base ho44) hb)
          have HO185 := Aside0.mk (Kd.N_lower ho44 (below_size y59_))
          have n3_ := Aside0.mk (blk_below (bd_ BK174.out) hb)
          have n4_ := Aside0.mk (below_step y59_ hb)
          clear HO_175001
          clear HO182
          clear BK174
          clear HB
          have HO_175001 := n0_
          have HO182 := n1_
          have BK174 := n3_
          have HB := n4_
          clear n0_ n1_ n3_ n4_
          clear hb ho44
          refine hK.out _ _ (k1e_ BK174.out) (fun hHeld => ?_)
          clear hK K
          refine norm_ (a' := ?_) ?_ ?_
          rotate_left
          ·
           show Act.put _ (some 29) _ = _
           simp only [Act.put, P5_1, P5_2, P5_3, i64_w, i32_w]
           rfl
          exact norm_ y71_ (hCont (v181, v184) _ ⟨hHeld, (by (with_reducible repeat (first | apply Kd.N_alloc | apply Kd.N_drewN | apply Kd.N_drew)); exact Kd.N_mono HO182.out (fun _ hk => ⟨hk.1.1, ⟨hk.2, hk.1.2⟩⟩)), y61_, (by (with_reducible repeat (first | apply Kd.V_alloc | apply Kd.V_drewN | apply Kd.V_drew)); exact Kd.V_mono HO_175001.out (fun _ hk => ⟨hk.1.1.1, ⟨hk.1.2, ⟨hk.2, hk.1.1.2⟩⟩⟩)), bd_ BK174.out, y59_⟩)
         ·
          skip
          refine Kd.N_lit_step k36 _ 36 ?hg (N' := 29) ?hd (xs := ([(⟨a1_0, l1_1, a1_2⟩ : S36)] : List (S36))) (inner := [.int .i64 a1_0, .slice A1_1 l1_1.length c1_1, .int .i64 a1_2]) (ok := (fun k_ => (P1_1_ k_ ∨ w.heap.size ≤ k_) ∧ k_ ≠ gb174)) (okp := (fun k_ => (P1_1_ k_ ∨ w.heap.size ≤ k_) ∧ k_ ≠ gb174)) ?hr ?hp (fun _ hk => hk) ((show ∀ k_, w39.heap.size ≤ k_ → (fun k_ => (P1_1_ k_ ∨ w.heap.size ≤ k_) ∧ k_ ≠ gb174) k_ from fun k_ hk => ⟨(.inr (Nat.le_trans (below_size y59_) hk)), Kd.freshB (g := gb174) (o := .cells #[.int .i64 a1_0, .slice A1_1 l1_1.length c1_1, .int .i64 a1_2] 36 (0, 0)) (bd_ BK174.out) k_ hk⟩) _ (Nat.le_refl _)) (Below.refl _ _) (Nat.le_refl _) (by simp) ?_; (case hd => rfl); (case hg => rfl); (case hr => first | (go_simp; done) | (go_simp; rfl)); (case hp => exact (Reps.c3 (show Kd.FK k36 _ _ (⟨a1_0, l1_1, a1_2⟩ : S36) [.int .i64 a1_0, .slice A1_1 l1_1.length c1_1, .int .i64 a1_2] from (k36_mkF _ _ (⟨a1_0, l1_1, a1_2⟩ : S36) (Kd.V_reads' (Kd.V_mono (ok' := (fun k_ => (P1_1_ k_ ∨ w.heap.size ≤ k_) ∧ k_ ≠ gb174)) (HO_175001.out) (fun k_ hk => ⟨hk.1, hk.2⟩))).2.1 (Kd.V_F (Kd.V_mono (ok' := (fun k_ => (P1_1_ k_ ∨ w.heap.size ≤ k_) ∧ k_ ≠ gb174)) (HO_175001.out) (fun k_ hk => ⟨hk.1, hk.2⟩))))) (Reps.none _ _)))
          intro v184 w42 ho43 hb hg_ hnew_
          clear hg_ hnew_
          (first | rw [← Ny183.out] at ho43 | (simp only [Int.reduceToNat] at ho43; rw [← Ny183.out] at ho43))
          have n0_ := Aside0.mk (Kd.V_elder' y62_ (Kd.N_base ho43) hb)
          have HO185 := Aside0.mk (Kd.N_lower ho43 (below_size y59_))
          have n2_ := Aside0.mk (blk_below (bd_ BK174.out) hb)
          have n3_ := Aside0.mk (below_step y59_ hb)
          clear HO_175001
          clear BK174
          clear HB
          have HO_175001 := n0_
          have BK174 := n2_
          have HB := n3_
          clear n0_ n2_ n3_
          clear hb ho43
          refine hK.out _ _ (k1e_ BK174.out) (fun hHeld => ?_)
          clear hK K
          refine norm_ (a' := ?_) ?_ ?_
          rotate_left
          ·
           show Act.put _ (some 29) _ = _
           simp only [Act.put, P5_1, P5_2, P5_3, i64_w, i32_w]
           rfl
          refine one_ (i := 3) (N := some 27) M5_20 rfl rfl (one_of HT_.out (by kernel_rfl)) (by decide) (fun K hK => ?_)
          refine goes_ Try.func58 (by kernel_rfl) rfl #[.slice A0 y176.length c0] (by rfl) rfl rfl ma_ ?_
          with_reducible refine (spec_l31Copy.calls kj2 _ _ y176 t180 _ ?side1 ?side2 A13.out).mono ?_
          (case side1 => exact cd_ (Kd.C_below HR179.out HB.out))
          (case side2 => exact HC179.out)
          rintro e w44 ⟨v181, rfl, ho0, hb⟩
          refine ⟨_, rfl, ?_⟩
          have n0_ := Aside0.mk (Kd.V_elder' y62_ (Kd.N_base (Kd.S_N ho0)) hb)
          have n1_ := Aside0.mk (Kd.N_elder' y61_ (Kd.N_base (Kd.S_N ho0)) hb)
          have HO182 := Aside0.mk (Kd.N_lower (Kd.N_mono (ok' := fun k_ => (P1_1_ k_ ∨ w.heap.size ≤ k_) ∧ some k_ ≠ (v184 : Value).ownBlock ∧ k_ ≠ gb174) (Kd.S_N (Kd.S_bound ho0)) (fun k_ hk_ => ⟨(.inr (Nat.le_trans (below_size y59_) hk_.2.1)), (Kd.fresh' (Kd.N_lt y61_) k_ hk_.2.1), (Kd.freshB (g := gb174) (o := .cells #[.int .i64 a1_0, .slice A1_1 l1_1.length c1_1, .int .i64 a1_2] 36 (0, 0)) (bd_ BK174.out) k_ hk_.2.1)⟩)) (below_size y59_))
          have n3_ := Aside0.mk (blk_below (bd_ BK174.out) hb)
          have n4_ := Aside0.mk (below_step y59_ hb)
          clear HO_175001
          clear HO185
          clear BK174
          clear HB
          have HO_175001 := n0_
          have HO185 := n1_
          have BK174 := n3_
          have HB := n4_
          clear n0_ n1_ n3_ n4_
          (try clear hb)
          (try clear hb2)
          (try clear hk)
          (try clear hi)
          (try clear ho0)
          refine hK.out _ _ (k1e_ BK174.out) (fun hHeld => ?_)
          clear hK K
          refine norm_ (a' := ?_) ?_ ?_
          rotate_left
          ·
           show Act.put _ (some 27) _ = _
           simp only [Act.put, P5_1, P5_2, P5_3, i64_w, i32_w]
           rfl
          exact norm_ y71_ (hCont (v181, v184) _ ⟨hHeld, y64_, (by (with_reducible repeat (first | apply Kd.N_alloc | apply Kd.N_drewN | apply Kd.N_drew)); exact Kd.N_mono HO185.out (fun _ hk => ⟨hk.1.1, ⟨hk.2, hk.1.2⟩⟩)), (by (with_reducible repeat (first | apply Kd.V_alloc | apply Kd.V_drewN | apply Kd.V_drew)); exact Kd.V_mono HO_175001.out (fun _ hk => ⟨hk.1.1.1, ⟨hk.2, ⟨hk.1.2, hk.1.1.2⟩⟩⟩)), bd_ BK174.out, y59_⟩)
        rintro ⟨v181, v184⟩ w45 ⟨hS_, h0_, h1_, h2_, h3_, h4_⟩
        have HO182 : Aside0 (Kd.N k36 36 w45 w.heap.size (fun k_ => (P1_1_ k_ ∨ w.heap.size ≤ k_) ∧ some k_ ≠ (v184 : Value).ownBlock ∧ k_ ≠ gb174) v181 t180) := ⟨h0_⟩
        have HO185 : Aside0 (Kd.N k36 36 w45 w.heap.size (fun k_ => (P1_1_ k_ ∨ w.heap.size ≤ k_) ∧ some k_ ≠ (v181 : Value).ownBlock ∧ k_ ≠ gb174) v184 y183) := ⟨h1_⟩
        have n2_ : Aside0 (Kd.V k67 67 w45 w.heap.size (fun k_ => (P1_1_ k_ ∨ w.heap.size ≤ k_) ∧ some k_ ≠ (v181 : Value).ownBlock ∧ some k_ ≠ (v184 : Value).ownBlock ∧ k_ ≠ gb174) (.slice A1_1 l1_1.length c1_1) l1_1) := ⟨h2_⟩
        have n3_ : Aside0 (w45.heap[gb174]? = some (.cells #[.int .i64 a1_0, .slice A1_1 l1_1.length c1_1, .int .i64 a1_2] 36 (0, 0))) := ⟨h3_⟩
        have n4_ : Aside0 (Below w.heap.size w w45) := ⟨h4_⟩
        clear HO_175001
        clear BK174
        clear HB
        clear h0_ h1_ h2_ h3_ h4_
        have HO_175001 := n2_
        have BK174 := n3_
        have HB := n4_
        clear n2_ n3_ n4_
        have hHeld : q1e_ w45 gb174 a1_0 A1_1 l1_1.length c1_1 a1_2 := hS_
        obtain ⟨Ao46, co46, eo46⟩ := Kd.N_slice HO185.out
        (first | subst eo46 | (injection eo46 with f1_ f2_ f3_; have f4_ := f1_.symm; have f5_ := f3_.symm; clear f1_ f2_ f3_; subst f4_; subst f5_))
        refine norm_ (a' := ?_) ?_ ?_
        rotate_left
        ·
         simp only [putAll, Act.put, List.setIfInBounds_toArray, List.set_cons_zero, List.set_cons_succ]
         rfl
        refine one_ (i := 6) (N := some 30) M5_23 rfl rfl (one_of HT_.out (by kernel_rfl)) (by decide) (fun K hK => ?_)
        refine goes_ Try.func58 (by kernel_rfl) rfl #[.slice Ao46 y183.length co46] (by rfl) rfl rfl ma_ ?_
        with_reducible refine (spec_l31Copy.calls kj2 _ _ y183 t186 _ ?side1 ?side2 A14.out).mono ?_
        (case side1 => exact cd_ (Kd.N_reads' HO185.out).2.2)
        (case side2 => exact (Kd.N_reads' HO185.out).2.1)
        rintro e w47 ⟨v187, rfl, ho0, hb⟩
        refine ⟨_, rfl, ?_⟩
        have n0_ := Aside0.mk (Kd.V_elder' y62_ (Kd.N_base (Kd.S_N ho0)) hb)
        have n1_ := Aside0.mk (Kd.N_elder' y64_ (Kd.N_base (Kd.S_N ho0)) hb)
        have n2_ := Aside0.mk (Kd.N_elder' y61_ (Kd.N_base (Kd.S_N ho0)) hb)
        have HO188 := Aside0.mk (Kd.N_lower (Kd.N_mono (ok' := fun k_ => (P1_1_ k_ ∨ w.heap.size ≤ k_) ∧ some k_ ≠ (v181 : Value).ownBlock ∧ some k_ ≠ (.slice Ao46 y183.length co46 : Value).ownBlock ∧ k_ ≠ gb174) (Kd.S_N (Kd.S_bound ho0)) (fun k_ hk_ => ⟨(.inr (Nat.le_trans (below_size y59_) hk_.2.1)), (Kd.fresh' (Kd.N_lt y64_) k_ hk_.2.1), (Kd.fresh' (Kd.N_lt y61_) k_ hk_.2.1), (Kd.freshB (g := gb174) (o := .cells #[.int .i64 a1_0, .slice A1_1 l1_1.length c1_1, .int .i64 a1_2] 36 (0, 0)) (bd_ BK174.out) k_ hk_.2.1)⟩)) (below_size y59_))
        have n4_ := Aside0.mk (blk_below (bd_ BK174.out) hb)
        have n5_ := Aside0.mk (below_step y59_ hb)
        clear HO_175001
        clear HO182
        clear HO185
        clear BK174
        clear HB
        have HO_175001 := n0_
        have HO182 := n1_
        have HO185 := n2_
        have BK174 := n4_
        have HB := n5_
        clear n0_ n1_ n2_ n4_ n5_
        (try clear hb)
        (try clear hb2)
        (try clear hk)
        (try clear hi)
        (try clear ho0)
        obtain ⟨Ao49, co49, eo49⟩ := Kd.N_slice HO188.out
        (first | subst eo49 | (injection eo49 with f1_ f2_ f3_; have f4_ := f1_.symm; have f5_ := f3_.symm; clear f1_ f2_ f3_; subst f4_; subst f5_))
        refine hK.out _ _ (k1e_ BK174.out) (fun hHeld => ?_)
        clear hK K
        refine norm_ (a' := ?_) ?_ ?_
        rotate_left
        ·
         show Act.put _ (some 30) _ = _
         simp only [Act.put, P5_1, P5_2, P5_3, i64_w, i32_w]
         rfl
        refine one_ (i := 7) (N := some 31) M5_11 rfl rfl (one_of HT_.out (by kernel_rfl)) (by decide) (fun K hK => ?_)
        refine Kd.N_append_rows_step k36 (w0 := w) w.heap.size (by rfl) (.tmp 27) (.tmp 30) 25 36 (.agg #[(.int .i64 0), (.slice none 0 0), (.int .i64 0)]) 40 rfl Try.underlying25 info36 rfl (by decide) (by omega) v181 t180 t186 _ _ _ (fun k_ => (P1_1_ k_ ∨ w.heap.size ≤ k_) ∧ some k_ ≠ (.slice Ao46 y183.length co46 : Value).ownBlock ∧ k_ ≠ gb174) (fun k_ => ((fun k_ => (P1_1_ k_ ∨ w.heap.size ≤ k_) ∧ some k_ ≠ (.slice Ao46 y183.length co46 : Value).ownBlock ∧ k_ ≠ gb174)) k_ ∧ some k_ ≠ (v181 : Value).ownBlock) rfl rfl ?aO ?aR (fun _ hk => hk) ?aF ?aB ?aS ?aL ?_
        (case aR => exact (by skip; exact Kd.N_F (Kd.N_mono (ok' := (fun k_ => ((fun k_ => (P1_1_ k_ ∨ w.heap.size ≤ k_) ∧ some k_ ≠ (.slice Ao46 y183.length co46 : Value).ownBlock ∧ k_ ≠ gb174)) k_ ∧ some k_ ≠ (v181 : Value).ownBlock)) (HO188.out) (fun k_ hk => ⟨⟨hk.1, ⟨hk.2.2.1, hk.2.2.2⟩⟩, hk.2.1⟩))))
        (case aB => exact y59_)
        (case aF => exact (fun k_ hk => ⟨(.inr (Nat.le_trans (below_size y59_) hk)), Kd.fresh' (Kd.N_lt y61_) k_ hk, Kd.freshB (g := gb174) (o := .cells #[.int .i64 a1_0, .slice A1_1 l1_1.length c1_1, .int .i64 a1_2] 36 (0, 0)) (bd_ BK174.out) k_ hk⟩))
        (case aO => exact (by (with_reducible repeat (first | apply Kd.N_alloc | apply Kd.N_drewN | apply Kd.N_drew)); exact Kd.N_mono HO182.out (fun _ hk => ⟨hk.1.1, ⟨hk.1.2.1, hk.1.2.2⟩⟩)))
        (case aS => exact (below_size y59_))
        (case aL => have := LMc15.out; omega)
        intro v190 w48 ho hb hg hat
        rw [← Ny189.out] at ho
        have n0_ := Aside0.mk (Kd.V_afterv (ok := (fun k_ => (P1_1_ k_ ∨ w.heap.size ≤ k_) ∧ some k_ ≠ (.slice Ao46 y183.length co46 : Value).ownBlock ∧ some k_ ≠ (.slice Ao49 t186.length co49 : Value).ownBlock ∧ k_ ≠ gb174)) (by (with_reducible repeat (first | apply Kd.V_alloc | apply Kd.V_drewN | apply Kd.V_drew)); exact Kd.V_mono HO_175001.out (fun _ hk => ⟨⟨hk.1.1, ⟨hk.1.2.2.1, ⟨hk.2, hk.1.2.2.2⟩⟩⟩, hk.1.2.1⟩)) hg hat)
        have n1_ := Aside0.mk (blk_grown (g := gb174) (o := .cells #[.int .i64 a1_0, .slice A1_1 l1_1.length c1_1, .int .i64 a1_2] 36 (0, 0)) (bd_ BK174.out) hg (Kd.N_away HO182.out (fun _ hk => hk.1.2.2)))
        have n2_ := Aside0.mk (Kd.N_afterv (ok := (fun k_ => (P1_1_ k_ ∨ w.heap.size ≤ k_) ∧ some k_ ≠ (.slice Ao49 t186.length co49 : Value).ownBlock ∧ k_ ≠ gb174)) (by (with_reducible repeat (first | apply Kd.N_alloc | apply Kd.N_drewN | apply Kd.N_drew)); exact Kd.N_mono HO185.out (fun _ hk => ⟨⟨hk.1.1, ⟨hk.2, hk.1.2.2⟩⟩, hk.1.2.1⟩)) hg hat)
        have n3_ := Aside0.mk (Kd.N_afterv (ok := (fun k_ => (P1_1_ k_ ∨ w.heap.size ≤ k_) ∧ some k_ ≠ (.slice Ao46 y183.length co46 : Value).ownBlock ∧ k_ ≠ gb174)) (by (with_reducible repeat (first | apply Kd.N_alloc | apply Kd.N_drewN | apply Kd.N_drew)); exact Kd.N_mono HO188.out (fun _ hk => ⟨⟨hk.1, ⟨hk.2.2.1, hk.2.2.2⟩⟩, hk.2.1⟩)) hg hat)
        have n4_ := Aside0.mk (hb)
        have HO191 := Aside0.mk (ho)
        clear HO_175001
        clear BK174
        clear HO185
        clear HO188
        clear HB
        clear HO182
        have HO_175001 := n0_
        have BK174 := n1_
        have HO185 := n2_
        have HO188 := n3_
        have HB := n4_
        clear n0_ n1_ n2_ n3_ n4_
        clear ho hb hg hat
        refine hK.out _ _ (k1e_ BK174.out) (fun hHeld => ?_)
        clear hK K
        refine norm_ (a' := ?_) ?_ ?_
        rotate_left
        ·
         show Act.put _ (some 31) _ = _
         simp only [Act.put, P5_1, P5_2, P5_3, i64_w, i32_w]
         rfl
        refine one_ (i := 11) (N := some 35) M5_12 rfl rfl (one_of HT_.out (by kernel_rfl)) (by decide) (fun K hK => ?_)
        refine goes_ Try.func58 (by kernel_rfl) rfl #[.slice A41 y192.length c41] (by rfl) rfl rfl ma_ ?_
        with_reducible refine (spec_l31Copy.calls kj2 _ _ y192 t196 _ ?side1 ?side2 A18.out).mono ?_
        (case side1 => exact cd_ (Kd.C_below HR195.out HB.out))
        (case side2 => exact HC195.out)
        rintro e w50 ⟨v197, rfl, ho0, hb⟩
        refine ⟨_, rfl, ?_⟩
        have n0_ := Aside0.mk (Kd.V_elder' y62_ (Kd.N_base (Kd.S_N ho0)) hb)
        have n1_ := Aside0.mk (Kd.N_elder' y61_ (Kd.N_base (Kd.S_N ho0)) hb)
        have n2_ := Aside0.mk (Kd.N_elder' y66_ (Kd.N_base (Kd.S_N ho0)) hb)
        have n3_ := Aside0.mk (Kd.N_elder' y68_ (Kd.N_base (Kd.S_N ho0)) hb)
        have HO198 := Aside0.mk (Kd.N_lower (Kd.N_mono (ok' := fun k_ => (P1_1_ k_ ∨ w.heap.size ≤ k_) ∧ some k_ ≠ (.slice Ao46 y183.length co46 : Value).ownBlock ∧ some k_ ≠ (.slice Ao49 t186.length co49 : Value).ownBlock ∧ some k_ ≠ (v190 : Value).ownBlock ∧ k_ ≠ gb174) (Kd.S_N (Kd.S_bound ho0)) (fun k_ hk_ => ⟨(.inr (Nat.le_trans (below_size y59_) hk_.2.1)), (Kd.fresh' (Kd.N_lt y61_) k_ hk_.2.1), (Kd.fresh' (Kd.N_lt y66_) k_ hk_.2.1), (Kd.fresh' (Kd.N_lt y68_) k_ hk_.2.1), (Kd.freshB (g := gb174) (o := .cells #[.int .i64 a1_0, .slice A1_1 l1_1.length c1_1, .int .i64 a1_2] 36 (0, 0)) (bd_ BK174.out) k_ hk_.2.1)⟩)) (below_size y59_))
        have n5_ := Aside0.mk (blk_below (bd_ BK174.out) hb)
        have n6_ := Aside0.mk (below_step y59_ hb)
        clear HO_175001
        clear HO185
        clear HO188
        clear HO191
        clear BK174
        clear HB
        have HO_175001 := n0_
        have HO185 := n1_
        have HO188 := n2_
        have HO191 := n3_
        have BK174 := n5_
        have HB := n6_
        clear n0_ n1_ n2_ n3_ n5_ n6_
        (try clear hb)
        (try clear hb2)
        (try clear hk)
        (try clear hi)
        (try clear ho0)
        obtain ⟨Ao52, co52, eo52⟩ := Kd.N_slice HO198.out
        (first | subst eo52 | (injection eo52 with f1_ f2_ f3_; have f4_ := f1_.symm; have f5_ := f3_.symm; clear f1_ f2_ f3_; subst f4_; subst f5_))
        refine hK.out _ _ (k1e_ BK174.out) (fun hHeld => ?_)
        clear hK K
        refine norm_ (a' := ?_) ?_ ?_
        rotate_left
        ·
         show Act.put _ (some 35) _ = _
         simp only [Act.put, P5_1, P5_2, P5_3, i64_w, i32_w]
         rfl
        refine one_ (i := 12) (N := some 36) M5_13 rfl rfl (one_of HT_.out (by kernel_rfl)) (by decide) (fun K hK => ?_)
        refine Kd.N_append_rows_step k36 (w0 := w) w.heap.size (by rfl) (.tmp 31) (.tmp 35) 25 36 (.agg #[(.int .i64 0), (.slice none 0 0), (.int .i64 0)]) 40 rfl Try.underlying25 info36 rfl (by decide) (by omega) v190 y189 t196 _ _ _ (fun k_ => (P1_1_ k_ ∨ w.heap.size ≤ k_) ∧ some k_ ≠ (.slice Ao46 y183.length co46 : Value).ownBlock ∧ k_ ≠ gb174) (fun k_ => ((fun k_ => (P1_1_ k_ ∨ w.heap.size ≤ k_) ∧ some k_ ≠ (.slice Ao46 y183.length co46 : Value).ownBlock ∧ k_ ≠ gb174)) k_ ∧ some k_ ≠ (v190 : Value).ownBlock) rfl rfl ?aO ?aR (fun _ hk => hk) ?aF ?aB ?aS ?aL ?_
        (case aR => exact (by skip; exact Kd.N_F (Kd.N_mono (ok' := (fun k_ => ((fun k_ => (P1_1_ k_ ∨ w.heap.size ≤ k_) ∧ some k_ ≠ (.slice Ao46 y183.length co46 : Value).ownBlock ∧ k_ ≠ gb174)) k_ ∧ some k_ ≠ (v190 : Value).ownBlock)) (HO198.out) (fun k_ hk => ⟨⟨hk.1, ⟨hk.2.1, hk.2.2.2.2⟩⟩, hk.2.2.2.1⟩))))
        (case aB => exact y59_)
        (case aF => exact (fun k_ hk => ⟨(.inr (Nat.le_trans (below_size y59_) hk)), Kd.fresh' (Kd.N_lt y61_) k_ hk, Kd.freshB (g := gb174) (o := .cells #[.int .i64 a1_0, .slice A1_1 l1_1.length c1_1, .int .i64 a1_2] 36 (0, 0)) (bd_ BK174.out) k_ hk⟩))
        (case aO => exact (by (with_reducible repeat (first | apply Kd.N_alloc | apply Kd.N_drewN | apply Kd.N_drew)); exact Kd.N_mono HO191.out (fun _ hk => ⟨hk.1.1, ⟨hk.1.2.1, hk.1.2.2⟩⟩)))
        (case aS => exact (below_size y59_))
        (case aL => have := LMc19.out; omega)
        intro v200 w51 ho hb hg hat
        rw [← Ny199.out] at ho
        have n0_ := Aside0.mk (Kd.V_afterv (ok := (fun k_ => (P1_1_ k_ ∨ w.heap.size ≤ k_) ∧ some k_ ≠ (.slice Ao46 y183.length co46 : Value).ownBlock ∧ some k_ ≠ (.slice Ao49 t186.length co49 : Value).ownBlock ∧ some k_ ≠ (.slice Ao52 t196.length co52 : Value).ownBlock ∧ k_ ≠ gb174)) y73_ hg hat)
        have n1_ := Aside0.mk (blk_grown (g := gb174) (o := .cells #[.int .i64 a1_0, .slice A1_1 l1_1.length c1_1, .int .i64 a1_2] 36 (0, 0)) (bd_ BK174.out) hg (Kd.N_away HO191.out (fun _ hk => hk.1.2.2)))
        have n2_ := Aside0.mk (Kd.N_afterv (ok := (fun k_ => (P1_1_ k_ ∨ w.heap.size ≤ k_) ∧ some k_ ≠ (.slice Ao49 t186.length co49 : Value).ownBlock ∧ some k_ ≠ (.slice Ao52 t196.length co52 : Value).ownBlock ∧ k_ ≠ gb174)) (by (with_reducible repeat (first | apply Kd.N_alloc | apply Kd.N_drewN | apply Kd.N_drew)); exact Kd.N_mono HO185.out (fun _ hk => ⟨⟨hk.1.1.1, ⟨hk.1.1.2.1, ⟨hk.2, hk.1.1.2.2⟩⟩⟩, hk.1.2⟩)) hg hat)
        have n3_ := Aside0.mk (Kd.N_afterv (ok := (fun k_ => (P1_1_ k_ ∨ w.heap.size ≤ k_) ∧ some k_ ≠ (.slice Ao46 y183.length co46 : Value).ownBlock ∧ some k_ ≠ (.slice Ao52 t196.length co52 : Value).ownBlock ∧ k_ ≠ gb174)) (by (with_reducible repeat (first | apply Kd.N_alloc | apply Kd.N_drewN | apply Kd.N_drew)); exact Kd.N_mono HO188.out (fun _ hk => ⟨⟨hk.1.1.1, ⟨hk.1.1.2.1, ⟨hk.2, hk.1.1.2.2⟩⟩⟩, hk.1.2⟩)) hg hat)
        have n4_ := Aside0.mk (Kd.N_afterv (ok := (fun k_ => (P1_1_ k_ ∨ w.heap.size ≤ k_) ∧ some k_ ≠ (.slice Ao46 y183.length co46 : Value).ownBlock ∧ some k_ ≠ (.slice Ao49 t186.length co49 : Value).ownBlock ∧ k_ ≠ gb174)) (by (with_reducible repeat (first | apply Kd.N_alloc | apply Kd.N_drewN | apply Kd.N_drew)); exact Kd.N_mono HO198.out (fun _ hk => ⟨⟨hk.1, ⟨hk.2.1, ⟨hk.2.2.1, hk.2.2.2.2⟩⟩⟩, hk.2.2.2.1⟩)) hg hat)
        have n5_ := Aside0.mk (hb)
        have HO201 := Aside0.mk (ho)
        clear HO_175001
        clear BK174
        clear HO185
        clear HO188
        clear HO198
        clear HB
        clear HO191
        have HO_175001 := n0_
        have BK174 := n1_
        have HO185 := n2_
        have HO188 := n3_
        have HO198 := n4_
        have HB := n5_
        clear n0_ n1_ n2_ n3_ n4_ n5_
        clear ho hb hg hat
        refine hK.out _ _ (k1e_ BK174.out) (fun hHeld => ?_)
        clear hK K
        refine norm_ (a' := ?_) ?_ ?_
        rotate_left
        ·
         show Act.put _ (some 36) _ = _
         simp only [Act.put, P5_1, P5_2, P5_3, i64_w, i32_w]
         rfl
        refine pu_ 13 (some 7) M5_14 HT_ ?_
        refine done_ (done_of HT_.out (by kernel_rfl)) ?_
        obtain ⟨Ao53, co53, eo53⟩ := Kd.N_slice HO201.out
        subst eo53
        try go_wp2_with (first | ((with_reducible refine gate_callee (f := 11) rfl ?_); refine goesL_ (some 38) rfl rfl Try.func11 (by kernel_rfl) rfl #[.slice Ao53 y199.length co53] rfl ma_ ?_; (with_reducible refine (spec_AreSecrets.calls kj2 _ _ y199 false _ ?side1 ?side2 A20.out).mono ?_); (case side1 => exact cd_ (Kd.N_reads' HO201.out).2.2); (case side2 => exact (Kd.N_reads' HO201.out).2.1); rintro e w54 ⟨rfl, hb⟩; refine ⟨_, rfl, ?_⟩; have n0_ := Aside0.mk (Kd.V_below y62_ hb); have n1_ := Aside0.mk (Kd.N_below y61_ hb); have n2_ := Aside0.mk (Kd.N_below y66_ hb); have n3_ := Aside0.mk (Kd.N_below y69_ hb); have n4_ := Aside0.mk (Kd.N_below y70_ hb); have n5_ := Aside0.mk (blk_below (bd_ BK174.out) hb); have n6_ := Aside0.mk (below_step y59_ hb); clear HO_175001; clear HO185; clear HO188; clear HO198; clear HO201; clear BK174; clear HB; have HO_175001 := n0_; have HO185 := n1_; have HO188 := n2_; have HO198 := n3_; have HO201 := n4_; have BK174 := n5_; have HB := n6_; clear n0_ n1_ n2_ n3_ n4_ n5_ n6_; (try clear hb); (try clear hb2); (try clear hk); (try clear hi)) | ((with_reducible refine gate_callee (f := 58) rfl ?_); refine goesL_ (some 41) rfl rfl Try.func58 (by kernel_rfl) rfl #[.slice A0 l0.length c0] rfl ma_ ?_; (with_reducible refine (spec_l31Copy.calls kj2 _ _ l0 t203 _ ?side1 ?side2 A38.out).mono ?_); (case side1 => exact cd_ (Kd.C_below HR0.out HB.out)); (case side2 => exact HC0.out); rintro e w55 ⟨v204, rfl, ho0, hb⟩; refine ⟨_, rfl, ?_⟩; have n0_ := Aside0.mk (Kd.V_elder' y62_ (Kd.N_base (Kd.S_N ho0)) hb); have n1_ := Aside0.mk (Kd.N_elder' y61_ (Kd.N_base (Kd.S_N ho0)) hb); have n2_ := Aside0.mk (Kd.N_elder' y66_ (Kd.N_base (Kd.S_N ho0)) hb); have n3_ := Aside0.mk (Kd.N_elder' y69_ (Kd.N_base (Kd.S_N ho0)) hb); have n4_ := Aside0.mk (Kd.N_elder' y70_ (Kd.N_base (Kd.S_N ho0)) hb); have HO205 := Aside0.mk (Kd.N_lower (Kd.N_mono (ok' := fun k_ => (P1_1_ k_ ∨ w.heap.size ≤ k_) ∧ some k_ ≠ (.slice Ao46 y183.length co46 : Value).ownBlock ∧ some k_ ≠ (.slice Ao49 t186.length co49 : Value).ownBlock ∧ some k_ ≠ (.slice Ao52 t196.length co52 : Value).ownBlock ∧ some k_ ≠ (.slice Ao53 y199.length co53 : Value).ownBlock ∧ k_ ≠ gb174) (Kd.S_N (Kd.S_bound ho0)) (fun k_ hk_ => ⟨(.inr (Nat.le_trans (below_size y59_) hk_.2.1)), (Kd.fresh' (Kd.N_lt y61_) k_ hk_.2.1), (Kd.fresh' (Kd.N_lt y66_) k_ hk_.2.1), (Kd.fresh' (Kd.N_lt y69_) k_ hk_.2.1), (Kd.fresh' (Kd.N_lt y70_) k_ hk_.2.1), (Kd.freshB (g := gb174) (o := .cells #[.int .i64 a1_0, .slice A1_1 l1_1.length c1_1, .int .i64 a1_2] 36 (0, 0)) (bd_ BK174.out) k_ hk_.2.1)⟩)) (below_size y59_)); have n6_ := Aside0.mk (blk_below (bd_ BK174.out) hb); have n7_ := Aside0.mk (below_step y59_ hb); clear HO_175001; clear HO185; clear HO188; clear HO198; clear HO201; clear BK174; clear HB; have HO_175001 := n0_; have HO185 := n1_; have HO188 := n2_; have HO198 := n3_; have HO201 := n4_; have BK174 := n6_; have HB := n7_; clear n0_ n1_ n2_ n3_ n4_ n6_ n7_; (try clear hb); (try clear hb2); (try clear hk); (try clear hi); (try clear ho0)))
        go_ret2
        exact ⟨_, by first | rfl | (simp [errW_none, errW_some] <;> rfl) | (simp [*, errW_none, errW_some] <;> rfl), by (with_reducible repeat (first | apply Kd.N_alloc | apply Kd.N_drewN | apply Kd.N_drew)); exact Kd.N_mono HO205.out (fun _ hk => hk.1), y65_⟩
      ·
       rw [if_neg c19] at H
       exact absurd H (by simp)
     ·
      rw [if_neg c15] at H
      exact absurd H (by simp)
    ·
     rw [if_neg c12] at H
     exact absurd H (by simp)
   ·
    rw [if_neg c11] at H
    exact absurd H (by simp)

end Go.Proofs.Ytfghapankndioaa.PFnExactPutSecret
