-- Written for this claim by a program (a printer turned to this claim); Lean checks it.
import Derived.Test.YtogbajcaeelooaaPFnExactTakeFromx0
import Derived.Test.YtogbajcaeelooaaPFnExactTakeFromx2
namespace Go.Proofs.Ytogbajcaeelooaa.PFnExactTakeFrom
open Go.RowKit Go.Proofs.YtogbajcaeelooaaW.PrintWords Go.Proofs.YtogbajcaeelooaaW.PrintLast Go.Proofs.YtogbajcaeelooaaW.PrintMore
attribute [local go_sem] max2_int min2_int max_two min_two max_three min_three max_four min_four   -- for this text's walks alone
set_option linter.unusedVariables false
set_option linter.unusedSimpArgs false

/-! ### impl_innerOf: function 37 -/
set_option maxHeartbeats 8000000 in
set_option maxRecDepth 100000 in
theorem impl_innerOf_1.calls (x : S48) (a : Int) (g : Nat) (w : World) (hc : w.cell? ⟨g, 0, none⟩ = some (.int .i64 a)) :
    Calls Try.prog 49 #[.agg #[.int .i64 x.f0, .int .i64 x.f1], .pointer (some ⟨g, 0, none⟩)] w fun e w' => e = .returned (.bool (x.f1 == a)) ∧ Below w.heap.size w w' := by
  have hu48 := Try.underlying48
  have hc2 : ∀ o, (w.alloc o).cell? ⟨g, 0, none⟩ = some (.int .i64 a) := fun o => pw_cell_below (below_alloc (Below.refl _ _) o) hc
  go_enter Try.func49, Try.ntmps49
  go_wp2
  go_ret
  exact ⟨rfl, by repeat (first | exact Below.refl _ _ | apply below_alloc | apply pw_below_drewN | apply below_drew1)⟩
def impl_innerOf.f (l0 : List S48) (a1 : Int) : Option Int := some (EvLib.idxB (fun x => x.f1 == a1) l0 0)
set_option maxHeartbeats 8000000 in
set_option maxRecDepth 100000 in
theorem impl_innerOf.calls (A0 : Option Addr) (c0 : Nat) (l0 : List S48) (a1 : Int) (r : Int) (w : World) (hr0 : Kd.C k48 w A0 l0.length l0) (hc0 : l0.length ≤ c0) (h : impl_innerOf.f l0 a1 = some r) :
    Calls Try.prog 37 #[.slice A0 l0.length c0, .int .i64 a1] w fun e w' => e = .returned (.int .i64 r) ∧ Below w.heap.size w w' := by
  have HR0 := Aside0.mk hr0
  clear hr0 hc0
  have H : EvLib.idxB (fun x : S48 => x.f1 == a1) l0 0 = r := Option.some.inj h
  subst H
  clear h
  have eg : ∀ args w, (callFunc 49 args).run Try.prog w = .ok (.enter 49 args) w := enters_of Try.func49 (by kernel_rfl) rfl
  have HC := Aside0.mk (impl_Inner_48.calls (fun x : S48 => x.f1 == a1) 49 #[.pointer (some ⟨w.heap.size, 0, none⟩)] eg A0 c0 l0 (w.alloc (.cells #[.int .i64 a1] 3)) (Kd.C_alloc HR0.out _)
    (fun x W hb => impl_innerOf_1.calls x a1 w.heap.size W ((hb.cell (p := ⟨w.heap.size, 0, none⟩) (by simp)).trans (by simp))))
  clear eg
  have HS := Aside0.mk (below_alloc (Below.refl w.heap.size w) (.cells #[.int .i64 a1] 3))
  generalize EvLib.idxB (fun x : S48 => x.f1 == a1) l0 0 = r at HC ⊢
  go_enter Try.func37, Try.ntmps37
  go_wp2_with (go_at_call 48; refine HC.out.mono ?_; rintro e w' ⟨rfl, hb⟩; have HB := Aside0.mk (below_step HS.out hb); clear hb)
  go_ret
  exact ⟨rfl, HB.out⟩


/-! ### impl_InRange: function 40 -/
def impl_InRange.f (a0 : Int) (a1 : Int) (a2 : Int) : Option (Bool) := if a1 ≤ a0 then (some (decide (a0 ≤ a2))) else (some false)
set_option maxHeartbeats 8000000 in
set_option maxRecDepth 100000 in
theorem impl_InRange.calls (a0 : Int) (a1 : Int) (a2 : Int) (r : Bool) (w : World) (h : impl_InRange.f a0 a1 a2 = some r) :
    Calls Try.prog 40 #[.int .i64 a0, .int .i64 a1, .int .i64 a2] w fun e w' => e = .returned (.bool r) ∧ Drawn0 w w' := by
  have H : (if a1 ≤ a0 then (some (decide (a0 ≤ a2))) else (some false)) = some r := h
  clear h
  by_cases c4 : a1 ≤ a0
  · rw [if_pos c4] at H
    have c4b0 : decide (a1 ≤ a0) = true := decide_eq_true c4
    clear c4
    obtain rfl := Option.some.inj H
    go_enter Try.func40, Try.ntmps40
    go_wp2
    go_ret
    exact ⟨by first | rfl | (simp; done) | (simp [*]; done), by repeat (first | exact Drawn0.refl _ | apply Drawn0.step)⟩
  · rw [if_neg c4] at H
    have c4b0 : decide (a1 ≤ a0) = false := decide_eq_false c4
    clear c4
    obtain rfl := Option.some.inj H
    go_enter Try.func40, Try.ntmps40
    go_wp2
    go_ret
    exact ⟨by first | rfl | (simp; done) | (simp [*]; done), by repeat (first | exact Drawn0.refl _ | apply Drawn0.step)⟩

end Go.Proofs.Ytogbajcaeelooaa.PFnExactTakeFrom
