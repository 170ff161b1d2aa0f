-- Written for this claim by a program (a printer turned to this claim); Lean checks it.
import Derived.Test.YthbmegdbdnmnoaaPFnCountersx0
namespace Go.Proofs.Ythbmegdbdnmnoaa.PFnCounters
open Go.RowKit Go.Proofs.YthbmegdbdnmnoaaW.PrintWords Go.Proofs.YthbmegdbdnmnoaaW.PrintLast Go.Proofs.YthbmegdbdnmnoaaW.PrintMore
attribute [local go_sem] max2_int min2_int max_two min_two max_three min_three max_four min_four   -- for this text's walks alone
set_option linter.unusedVariables false
set_option linter.unusedSimpArgs false

/-! ### impl_Ticket_36: function 36 -/
set_option maxHeartbeats 8000000 in
set_option maxRecDepth 100000 in
theorem impl_Ticket_36.calls (p : S42 → Bool) (g : Nat) (lb : Array Value) (eg : ∀ args w, (callFunc g args).run Try.prog w = .ok (.enter g args) w) (A0 : Option Addr) (c0 : Nat) (l0 : List S42) (w : World) (hr0 : Kd.C k42 w A0 l0.length l0)
    (hp : ∀ (x : S42) (W : World), Below w.heap.size w W → Calls Try.prog g (#[.agg #[.int .i64 x.f0, .int .i64 x.f1, .int .i64 x.f2]] ++ lb) W fun e W' => e = .returned (.bool (p x)) ∧ Below W.heap.size W W') :
    Calls Try.prog 36 #[.slice A0 l0.length c0, .func (.func g) #[] lb] w fun e w' => e = .returned (.int .i64 (EvLib.idxB p l0 0)) ∧ Below w.heap.size w w' := by
  have hu42 := Try.underlying42
  have HR0 := Aside0.mk hr0
  have HP := Aside0.mk hp
  have hmax := Kd.C_max hr0
  clear hr0 hp
  go_enter Try.func36, Try.ntmps36
  go_wp2
  go_loopg [5, 8] l0.length (fun gg _ v8 wr => ∃ z : Int, v8 = .int .i64 z ∧ Aside0 (0 ≤ z) ∧ Aside0 (z ≤ (l0.length : Int)) ∧ Aside0 ((l0.length : Int) - z ≤ gg) ∧ Aside0 (Below w.heap.size w wr) ∧ Aside0 (EvLib.idxB p (l0.drop z.toNat) z.toNat = EvLib.idxB p l0 0))
  case atStart => exact ⟨0, rfl, ⟨by omega⟩, ⟨by omega⟩, ⟨by omega⟩, ⟨Below.refl _ _⟩, ⟨rfl⟩⟩
  case round =>
    obtain ⟨z, rfl, Z0, Z1, ZG, HB, HI⟩ := hrel
    by_cases hlt : z < (l0.length : Int)
    · have p1 : 0 ≤ z := Z0.out
      obtain ⟨ad, e, hx0, hx1, hx2⟩ := at_T42 HR0.out z p1 hlt
      cases e
      replace hx0 := pw_cell_below HB.out hx0
      replace hx1 := pw_cell_below HB.out hx1
      replace hx2 := pw_cell_below HB.out hx2
      have hcall := HP.out (rd_T42 l0 z) wr HB.out
      have hat := Aside0.mk (EvLib.idxB_at p z42 l0 z.toNat (by omega))
      cases hq : p (rd_T42 l0 z) with
      | true =>
        rw [hq] at hcall
        have HQ := Aside0.mk hq
        clear hq
        have hltb : decide (z < (l0.length : Int)) = true := decide_eq_true hlt
        replace p1 := eq_true p1
        replace hlt := eq_true hlt
        go_wp2_with (go_at_fn g; refine hcall.mono ?_; rintro e w' ⟨rfl, hb⟩; have n1_ := Aside0.mk (below_step HB.out hb); clear HB; have HB := n1_; clear n1_ hb)
        go_ret
        have hz : EvLib.idxB p l0 0 = z := by rw [← HI.out, hat.out, if_pos (show p (l0.getD z.toNat z42) = true from HQ.out), Int.toNat_of_nonneg Z0.out]
        exact ⟨by rw [hz]; rfl, HB.out⟩
      | false =>
        rw [hq] at hcall
        have HQ := Aside0.mk hq
        clear hq
        have HL := Aside0.mk hlt
        have hltb : decide (z < (l0.length : Int)) = true := decide_eq_true hlt
        replace p1 := eq_true p1
        replace hlt := eq_true hlt
        have hwr : wrap64 (z + 1) = z + 1 := by have := Z0.out; have := HL.out; unfold wrap64; omega
        go_wp2_with (go_at_fn g; refine hcall.mono ?_; rintro e w' ⟨rfl, hb⟩; have n1_ := Aside0.mk (below_step HB.out hb); clear HB; have HB := n1_; clear n1_ hb)
        go_roundg ((l0.length : Int) - (z + 1)).toNat
        case measure => have := Z0.out; have := HL.out; have := ZG.out; omega
        case rel =>
          refine ⟨z + 1, by first | rfl | (simp; done) | (simp [*]; done), ⟨by have := Z0.out; omega⟩, ⟨by have := HL.out; omega⟩, ⟨by have := HL.out; omega⟩, ⟨HB.out⟩, ⟨?_⟩⟩
          rw [← HI.out, hat.out, if_neg (by rw [show p (l0.getD z.toNat z42) = false from HQ.out]; simp)]
          have e1 : (z + 1).toNat = z.toNat + 1 := by have := Z0.out; omega
          rw [e1]
    · have hltb : decide (z < (l0.length : Int)) = false := decide_eq_false hlt
      have HE := Aside0.mk (EvLib.idxB_end p l0 z.toNat (by have := Z1.out; omega))
      clear hlt
      go_wp2
      go_ret
      have hz : EvLib.idxB p l0 0 = -1 := by rw [← HI.out, HE.out]
      exact ⟨by rw [hz]; rfl, HB.out⟩


/-! ### impl_BeforeIn: function 15 -/
set_option maxHeartbeats 8000000 in
set_option maxRecDepth 100000 in
theorem impl_BeforeIn_1.calls (x : S42) (a : Int) (g : Nat) (w : World) (hc : w.cell? ⟨g, 0, none⟩ = some (.int .i64 a)) :
    Calls Try.prog 37 #[.agg #[.int .i64 x.f0, .int .i64 x.f1, .int .i64 x.f2], .pointer (some ⟨g, 0, none⟩)] w fun e w' => e = .returned (.bool (x.f0 == a)) ∧ Below w.heap.size w w' := by
  have huE := Try.underlying42
  have hc2 : ∀ o, (w.alloc o).cell? ⟨g, 0, none⟩ = some (.int .i64 a) := fun o => pw_cell_below (below_alloc (Below.refl _ _) o) hc
  go_enter Try.func37, Try.ntmps37
  go_wp2
  go_ret
  exact ⟨rfl, by repeat (first | exact Below.refl _ _ | apply below_alloc | apply pw_below_drewN | apply below_drew1)⟩
def impl_BeforeIn.p (y : S42) (a : Int) (x : S42) : Bool := decide (x.f2 = -1) && (decide (x.f1 < y.f1) || (decide (x.f1 = y.f1) && decide (x.f0 < a)))
def impl_BeforeIn.f (l0 : List S42) (a1 : Int) : Option Int := if EvLib.idxB (fun x : S42 => x.f0 == a1) l0 0 < 0 then some (-1) else if (rd_T42 l0 (EvLib.idxB (fun x : S42 => x.f0 == a1) l0 0)).f2 = -1 then some ((l0.countP (impl_BeforeIn.p (rd_T42 l0 (EvLib.idxB (fun x : S42 => x.f0 == a1) l0 0)) a1) : Nat) : Int) else some (-1)
theorem impl_BeforeIn.count (p : S42 → Bool) (l : List S42) (z : Int) (h0 : 0 ≤ z) (h1 : z < (l.length : Int)) : (((l.take (z + 1).toNat).countP p : Nat) : Int) = ((l.take z.toNat).countP p : Nat) + if p (rd_T42 l z) = true then 1 else 0 := by
  have e : (z + 1).toNat = z.toNat + 1 := by omega
  have hz : z.toNat < l.length := by omega
  have e2 : rd_T42 l z = l[z.toNat] := by unfold rd_T42; simp [List.getD, hz]
  rw [e, List.take_succ_eq_append_getElem hz, List.countP_append, e2]
  split
  · rename_i h; simp [h]
  · rename_i h; simp [h]
theorem impl_BeforeIn.idx (l : List S42) (a : Int) : EvLib.idxB (fun x : S42 => x.f0 == a) l 0 < l.length := by
  rcases EvLib.idxB_in (fun x : S42 => x.f0 == a) z42 l 0 with ⟨h, _⟩ | ⟨j, h1, h2, _, _⟩ <;> omega
set_option maxHeartbeats 8000000 in
set_option maxRecDepth 100000 in
theorem impl_BeforeIn.calls (A0 : Option Addr) (c0 : Nat) (l0 : List S42) (a1 : Int) (r : Int) (w : World) (hr0 : Kd.C k42 w A0 l0.length l0) (hc0 : l0.length ≤ c0) (h : impl_BeforeIn.f l0 a1 = some r) :
    Calls Try.prog 15 #[.slice A0 l0.length c0, .int .i64 a1] w fun e w' => e = .returned (.int .i64 r) ∧ Below w.heap.size w w' := by
  have huE := Try.underlying42
  have HR0 := Aside0.mk hr0
  have hmax := Kd.C_max hr0
  clear hr0 hc0
  have hil := impl_BeforeIn.idx l0 a1
  have eg : ∀ args w, (callFunc 37 args).run Try.prog w = .ok (.enter 37 args) w := enters_of Try.func37 (by kernel_rfl) rfl
  have HC := Aside0.mk (impl_Ticket_36.calls (fun x : S42 => x.f0 == a1) 37 #[.pointer (some ⟨w.heap.size, 0, none⟩)] eg A0 c0 l0 (w.alloc (.cells #[.int .i64 a1] 3)) (Kd.C_alloc HR0.out _)
    (fun x W hb => impl_BeforeIn_1.calls x a1 w.heap.size W ((hb.cell (p := ⟨w.heap.size, 0, none⟩) (by simp)).trans (by simp))))
  clear eg
  have HS := Aside0.mk (below_alloc (Below.refl w.heap.size w) (.cells #[.int .i64 a1] 3))
  have HX := Aside0.mk (show (w.alloc (.cells #[.int .i64 a1] 3)).cell? ⟨w.heap.size, 0, none⟩ = some (.int .i64 a1) by simp)
  unfold impl_BeforeIn.f at h
  generalize EvLib.idxB (fun x : S42 => x.f0 == a1) l0 0 = i at HC h hil ⊢
  by_cases c1 : i < 0
  · rw [if_pos c1] at h
    obtain rfl := Option.some.inj h
    have c1b := decide_eq_true c1
    clear c1 h
    go_enter Try.func15, Try.ntmps15
    go_wp2_with (go_at_call 36; refine HC.out.mono ?_; rintro e w' ⟨rfl, hb⟩; have HB := Aside0.mk (below_step HS.out hb); clear hb)
    go_ret
    exact ⟨rfl, HB.out⟩
  rw [if_neg c1] at h
  have c1b := decide_eq_false c1
  have i0 : 0 ≤ i := by omega
  clear c1
  obtain ⟨ad, e0, hx0, hx1, hx2⟩ := at_T42 HR0.out i i0 hil
  cases e0
  have HX0 := Aside0.mk hx0
  have HX1 := Aside0.mk hx1
  have HX2 := Aside0.mk hx2
  clear hx0 hx1 hx2
  by_cases c2 : (rd_T42 l0 i).f2 = -1
  · rw [if_pos c2] at h
    obtain rfl := Option.some.inj h
    clear h
    have c2b : ((rd_T42 l0 i).f2 == -1) = true := beq_iff_eq.mpr c2
    have c2c : ((rd_T42 l0 i).f2 != -1) = false := bne_eq_false_iff_eq.mpr c2
    have C2 := Aside0.mk c2
    clear c2
    generalize hy : rd_T42 l0 i = y at HX0 HX1 HX2 c2b c2c C2 ⊢
    clear hy
    have I0 := Aside0.mk i0
    have IL := Aside0.mk hil
    go_enter Try.func15, Try.ntmps15
    go_wp2_with (go_at_call 36; refine HC.out.mono ?_; rintro e w' ⟨rfl, hb⟩; have HB := Aside0.mk (below_step HS.out hb); have hbx := pw_cell_below hb HX.out; have hx2 := pw_cell_below HB.out HX2.out; clear hb)
    have HBX := Aside0.mk hbx
    clear hbx hx2
    go_loopg [6, 8, 24] l0.length (fun gg v6 _ v24 wr => ∃ (n z : Int), v6 = .int .i64 n ∧ v24 = .int .i64 z ∧ Aside0 (0 ≤ z) ∧ Aside0 (z ≤ (l0.length : Int)) ∧ Aside0 ((l0.length : Int) - z ≤ gg) ∧ Aside0 (n = (((l0.take z.toNat).countP (impl_BeforeIn.p y a1) : Nat) : Int)) ∧ Aside0 (Below w.heap.size w wr) ∧ Aside0 (wr.cell? ⟨w.heap.size, 0, none⟩ = some (.int .i64 a1)))
    case atStart => exact ⟨0, 0, rfl, rfl, ⟨by omega⟩, ⟨by omega⟩, ⟨by omega⟩, ⟨by simp⟩, HB, HBX⟩
    case round =>
      clear HB HBX
      obtain ⟨n, z, rfl, rfl, Z0, Z1, ZG, HN, HB, HBX⟩ := hrel
      by_cases hlt : z < (l0.length : Int)
      · have p1 : 0 ≤ z := Z0.out
        obtain ⟨ad2, e2, hz0, hz1, hz2⟩ := at_T42 HR0.out z p1 hlt
        obtain rfl : ad = ad2 := by injection e2
        clear e2
        replace hz0 := pw_cell_below HB.out hz0
        replace hz1 := pw_cell_below HB.out hz1
        replace hz2 := pw_cell_below HB.out hz2
        have hn1 : 0 ≤ n ∧ n ≤ z := by
          have h1 := HN.out
          have h2 : (l0.take z.toNat).countP (impl_BeforeIn.p y a1) ≤ (l0.take z.toNat).length := List.countP_le_length
          rw [List.length_take] at h2
          omega
        have hwz : wrap64 (z + 1) = z + 1 := by unfold wrap64; omega
        have hwn : wrap64 (n + 1) = n + 1 := by unfold wrap64; omega
        have N1 := Aside0.mk hn1
        clear hn1
        have hcnt := Aside0.mk (impl_BeforeIn.count (impl_BeforeIn.p y a1) l0 z p1 hlt)
        have hltb : decide (z < (l0.length : Int)) = true := decide_eq_true hlt
        have HL := Aside0.mk hlt
        replace p1 := eq_true p1
        replace hlt := eq_true hlt
        have i0 := eq_true I0.out
        have hil := eq_true IL.out
        generalize hx : rd_T42 l0 z = x at hz0 hz1 hz2 hcnt
        clear hx
        have hy1 := pw_cell_below HB.out HX1.out
        have hyb : ∀ o, (wr.alloc o).cell? ⟨w.heap.size, 0, none⟩ = some (.int .i64 a1) := fun o => pw_cell_below (below_alloc (Below.refl _ _) o) HBX.out
        have hy1b : ∀ o, (wr.alloc o).cell? ⟨(ad.add (i.toNat * 3)).block, (ad.add (i.toNat * 3)).off + 1, none⟩ = some (.int .i64 y.f1) := fun o => pw_cell_below (below_alloc (Below.refl _ _) o) hy1
        clear hy1
        by_cases h1 : x.f2 = -1
        · have b1 : (x.f2 == -1) = true := beq_iff_eq.mpr h1
          by_cases h2 : x.f1 < y.f1
          · have b2 : decide (x.f1 < y.f1) = true := decide_eq_true h2
            have hp : impl_BeforeIn.p y a1 x = true := by unfold impl_BeforeIn.p; simp [h1, h2]
            have HP := Aside0.mk hp
            clear hp h1 h2
            go_wp2
            go_quiet (fail)
            go_wp2
            go_roundg ((l0.length : Int) - (z + 1)).toNat
            case measure => have := Z0.out; have := HL.out; have := ZG.out; omega
            case rel => exact ⟨n + 1, z + 1, (by first | rfl | (simp [*]; done)), (by first | rfl | (simp [*]; done)), ⟨by have := Z0.out; omega⟩, ⟨by have := HL.out; omega⟩, ⟨by have := HL.out; omega⟩, ⟨by rw [hcnt.out, HP.out, ← HN.out]; simp⟩, ⟨by repeat (first | exact HB.out | apply below_alloc | apply pw_below_drewN | apply below_drew1)⟩, ⟨hyb _⟩⟩
          · have b2 : decide (x.f1 < y.f1) = false := decide_eq_false h2
            by_cases h3 : x.f1 = y.f1
            · have b3 : (x.f1 == y.f1) = true := beq_iff_eq.mpr h3
              by_cases h4 : x.f0 < a1
              · have b4 : decide (x.f0 < a1) = true := decide_eq_true h4
                have hp : impl_BeforeIn.p y a1 x = true := by unfold impl_BeforeIn.p; simp [h1, h3, h4]
                have HP := Aside0.mk hp
                clear hp h1 h3 h4
                go_wp2
                go_quiet (fail)
                go_wp2
                go_roundg ((l0.length : Int) - (z + 1)).toNat
                case measure => have := Z0.out; have := HL.out; have := ZG.out; omega
                case rel => exact ⟨n + 1, z + 1, (by first | rfl | (simp [*]; done)), (by first | rfl | (simp [*]; done)), ⟨by have := Z0.out; omega⟩, ⟨by have := HL.out; omega⟩, ⟨by have := HL.out; omega⟩, ⟨by rw [hcnt.out, HP.out, ← HN.out]; simp⟩, ⟨by repeat (first | exact HB.out | apply below_alloc | apply pw_below_drewN | apply below_drew1)⟩, ⟨hyb _⟩⟩
              · have b4 : decide (x.f0 < a1) = false := decide_eq_false h4
                have hp : impl_BeforeIn.p y a1 x = false := by unfold impl_BeforeIn.p; simp [h1, h2, h3, h4]
                have HP := Aside0.mk hp
                clear hp h1 h2 h3 h4
                go_wp2
                go_quiet (fail)
                go_wp2
                go_roundg ((l0.length : Int) - (z + 1)).toNat
                case measure => have := Z0.out; have := HL.out; have := ZG.out; omega
                case rel => exact ⟨n, z + 1, (by first | rfl | (simp [*]; done)), (by first | rfl | (simp [*]; done)), ⟨by have := Z0.out; omega⟩, ⟨by have := HL.out; omega⟩, ⟨by have := HL.out; omega⟩, ⟨by rw [hcnt.out, HP.out, ← HN.out]; simp⟩, ⟨by repeat (first | exact HB.out | apply below_alloc | apply pw_below_drewN | apply below_drew1)⟩, ⟨hyb _⟩⟩
            · have b3 : (x.f1 == y.f1) = false := beq_eq_false_iff_ne.mpr h3
              have hp : impl_BeforeIn.p y a1 x = false := by unfold impl_BeforeIn.p; simp [h1, h2, h3]
              have HP := Aside0.mk hp
              clear hp h1 h2 h3
              go_wp2
              go_quiet (fail)
              go_wp2
              go_roundg ((l0.length : Int) - (z + 1)).toNat
              case measure => have := Z0.out; have := HL.out; have := ZG.out; omega
              case rel => exact ⟨n, z + 1, (by first | rfl | (simp [*]; done)), (by first | rfl | (simp [*]; done)), ⟨by have := Z0.out; omega⟩, ⟨by have := HL.out; omega⟩, ⟨by have := HL.out; omega⟩, ⟨by rw [hcnt.out, HP.out, ← HN.out]; simp⟩, ⟨by repeat (first | exact HB.out | apply below_alloc | apply pw_below_drewN | apply below_drew1)⟩, ⟨hyb _⟩⟩
        · have b1 : (x.f2 == -1) = false := beq_eq_false_iff_ne.mpr h1
          have hp : impl_BeforeIn.p y a1 x = false := by unfold impl_BeforeIn.p; simp [h1]
          have HP := Aside0.mk hp
          clear hp h1
          go_wp2
          go_quiet (fail)
          go_wp2
          go_roundg ((l0.length : Int) - (z + 1)).toNat
          case measure => have := Z0.out; have := HL.out; have := ZG.out; omega
          case rel => exact ⟨n, z + 1, (by first | rfl | (simp [*]; done)), (by first | rfl | (simp [*]; done)), ⟨by have := Z0.out; omega⟩, ⟨by have := HL.out; omega⟩, ⟨by have := HL.out; omega⟩, ⟨by rw [hcnt.out, HP.out, ← HN.out]; simp⟩, ⟨by repeat (first | exact HB.out | apply below_alloc | apply pw_below_drewN | apply below_drew1)⟩, ⟨hyb _⟩⟩
      · have hltb : decide (z < (l0.length : Int)) = false := decide_eq_false hlt
        have hz : z.toNat = l0.length := by have := Z1.out; omega
        have hn := HN.out
        rw [hz, List.take_length] at hn
        have HN2 := Aside0.mk hn
        clear hlt hz hn
        go_wp2
        go_ret
        exact ⟨congrArg (fun q => Ending.returned (.int .i64 q)) HN2.out, HB.out⟩
  · rw [if_neg c2] at h
    obtain rfl := Option.some.inj h
    have c2b : ((rd_T42 l0 i).f2 == -1) = false := beq_eq_false_iff_ne.mpr c2
    have c2c : ((rd_T42 l0 i).f2 != -1) = true := bne_iff_ne.mpr c2
    clear h c2
    have i0b := eq_true i0
    have hilb := eq_true hil
    go_enter Try.func15, Try.ntmps15
    go_wp2_with (go_at_call 36; refine HC.out.mono ?_; rintro e w' ⟨rfl, hb⟩; have HB := Aside0.mk (below_step HS.out hb); have hx2 := pw_cell_below HB.out HX2.out; clear hb)
    go_ret
    exact ⟨rfl, HB.out⟩


/-! ### impl_InRange: function 34 -/
def impl_InRange.f (a0 : Int) (a1 : Int) (a2 : Int) : Option (Bool) := if a1 ≤ a0 then (some (decide (a0 ≤ a2))) else (some false)
set_option maxHeartbeats 8000000 in
set_option maxRecDepth 100000 in
theorem impl_InRange.calls (a0 : Int) (a1 : Int) (a2 : Int) (r : Bool) (w : World) (h : impl_InRange.f a0 a1 a2 = some r) :
    Calls Try.prog 34 #[.int .i64 a0, .int .i64 a1, .int .i64 a2] w fun e w' => e = .returned (.bool r) ∧ Drawn0 w w' := by
  have H : (if a1 ≤ a0 then (some (decide (a0 ≤ a2))) else (some false)) = some r := h
  clear h
  by_cases c4 : a1 ≤ a0
  · rw [if_pos c4] at H
    have c4b0 : decide (a1 ≤ a0) = true := decide_eq_true c4
    clear c4
    obtain rfl := Option.some.inj H
    go_enter Try.func34, Try.ntmps34
    go_wp2
    go_ret
    exact ⟨by first | rfl | (simp; done) | (simp [*]; done), by repeat (first | exact Drawn0.refl _ | apply Drawn0.step)⟩
  · rw [if_neg c4] at H
    have c4b0 : decide (a1 ≤ a0) = false := decide_eq_false c4
    clear c4
    obtain rfl := Option.some.inj H
    go_enter Try.func34, Try.ntmps34
    go_wp2
    go_ret
    exact ⟨by first | rfl | (simp; done) | (simp [*]; done), by repeat (first | exact Drawn0.refl _ | apply Drawn0.step)⟩

end Go.Proofs.Ythbmegdbdnmnoaa.PFnCounters
