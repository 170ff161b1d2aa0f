-- Written for this claim by a program (a printer turned to this claim); Lean checks it.
import Derived.Test.YtglpmjcknhcjcaaProg
import Derived.Below
import Derived.Deep.Draws
import Derived.Deep.AppendLies
import Derived.Maps.AppendAt
import Derived.OwnWalk
import Derived.Laws.BytesArg
import Derived.Laws.MakeOwn
import Derived.Laws.OwnMore
import Derived.Deep.OwnRows
import Derived.Tactics
import Derived.Lib.ConvBytes
import Derived.Laws.Slices
import Derived.WalkKit
import Derived.KernelRfl
import Derived.RowKit3
import Derived.Deep.LoopGhost
import Derived.Deep.QuietTactic
import Derived.BigQuiet
import Derived.WideLaws
import Derived.Deep.DeepCutAuto
import Derived.Deep.CutBlock
import Derived.Deep.RegionHeld3
import Derived.Laws.Rows
import Derived.Lib.AppendStr
import Derived.ArgAppend
import Derived.Laws.IdiomCopy
import Derived.OrdersHeld
import Derived.Laws.BitsLemmas
import Derived.RowKit
import Derived.Shelf.Abstract
import Derived.Lib.SliceRun
import Derived.Deep.RegionLaw
import Derived.Test.YtglpmjcknhcjcaaWWords
import Derived.Test.YtglpmjcknhcjcaaWLast
import Derived.Test.YtglpmjcknhcjcaaWTab
import Derived.Test.YtglpmjcknhcjcaaWFour
import Derived.Test.YtglpmjcknhcjcaaWQPut
import Derived.Test.YtglpmjcknhcjcaaWApart
import Derived.Test.YtglpmjcknhcjcaaWArr
import Derived.Test.YtglpmjcknhcjcaaWZeros
import Derived.Test.YtglpmjcknhcjcaaWFoot
import Derived.Test.YtglpmjcknhcjcaaWKept
import Derived.Test.YtglpmjcknhcjcaaWShare
import Derived.Test.YtglpmjcknhcjcaaWN
import Derived.Test.YtglpmjcknhcjcaaWFootNe
import Derived.Test.YtglpmjcknhcjcaaWAt
import Derived.Test.YtglpmjcknhcjcaaWEqStruct
import Derived.Test.YtglpmjcknhcjcaaWRepsOne
import Derived.Test.YtglpmjcknhcjcaaWInv
import Derived.Test.YtglpmjcknhcjcaaWInvWords
import Derived.Test.YtglpmjcknhcjcaaWGuard
import Derived.Test.YtglpmjcknhcjcaaWNEv
import Derived.Test.YtglpmjcknhcjcaaWMore
import Derived.Test.YtglpmjcknhcjcaaEvLib
import Derived.Test.YtglpmjcknhcjcaaSml
namespace Go.Proofs.Ytglpmjcknhcjcaa.PFnTwins
open Go.RowKit Go.Proofs.YtglpmjcknhcjcaaW.PrintWords Go.Proofs.YtglpmjcknhcjcaaW.PrintLast Go.Proofs.YtglpmjcknhcjcaaW.PrintMore
attribute [local go_sem] max2_int min2_int max_two min_two max_three min_three max_four min_four   -- for this text's walks alone
set_option linter.unusedVariables false
set_option linter.unusedSimpArgs false



def errW : Option Int → Value
  | none => .nilIface
  | some c => .iface 0 (.int .i64 c)
theorem errW_none : errW none = .nilIface := rfl
theorem errW_some (c : Int) : errW (some c) = .iface 0 (.int .i64 c) := rfl

theorem info3 : (Try.prog.info? 3).map (fun i => (i.zero, i.size, i.bytes)) = some (some (.int .i64 0), 1, 8) := by kernel_rfl
theorem info41 : (Try.prog.info? 41).map (fun i => (i.zero, i.size, i.bytes)) = some (some (.agg #[(.int .i64 0), (.int .i64 0), (.slice none 0 0), (.int .i64 0), (.int .i64 0), (.slice none 0 0), (.int .i64 0), (.int .i64 0)]), 8, 96) := by kernel_rfl
theorem info58 : (Try.prog.info? 58).map (fun i => (i.zero, i.size, i.bytes)) = some (some (.agg #[(.int .i64 0), (.int .i64 0), (.int .i64 0), (.int .i64 0), (.int .i64 0), (.int .i64 0), (.int .i64 0), (.int .i64 0)]), 8, 64) := by kernel_rfl
-- the values' own types
/-! #### struct type 56 -/
structure S56 where
  f0 : Int
  f1 : Int
  f2 : Int
  f3 : Int
  f4 : Int
def z56 : S56 := ⟨(0 : Int), (0 : Int), (0 : Int), (0 : Int), (0 : Int)⟩
def k56 : Kd S56 := Kd.iso (Kd.pair (Kd.int .i64) (Kd.pair (Kd.int .i64) (Kd.pair (Kd.int .i64) (Kd.pair (Kd.int .i64) (Kd.int .i64))))) (fun x : S56 => (x.f0, x.f1, x.f2, x.f3, x.f4))
theorem k56_open {w : World} {x : S56} {cs : List Value} (h : k56.K w x cs) : cs = [.int .i64 x.f0, .int .i64 x.f1, .int .i64 x.f2, .int .i64 x.f3, .int .i64 x.f4] := by
  obtain ⟨_, _, rfl, rfl, ⟨_, _, rfl, rfl, ⟨_, _, rfl, rfl, ⟨_, _, rfl, rfl, rfl⟩⟩⟩⟩ := h
  exact rfl
theorem k56_openM {w : World} {base : Nat} {ok : Nat → Prop} {x : S56} {cs : List Value} (h : k56.M w base ok x cs) : cs = [.int .i64 x.f0, .int .i64 x.f1, .int .i64 x.f2, .int .i64 x.f3, .int .i64 x.f4] := by
  obtain ⟨_, _, rfl, rfl, ⟨_, _, rfl, rfl, ⟨_, _, rfl, rfl, ⟨_, _, rfl, rfl, rfl⟩⟩⟩⟩ := h
  exact rfl
theorem k56_mk (w : World) (x : S56)  : k56.K w x [.int .i64 x.f0, .int .i64 x.f1, .int .i64 x.f2, .int .i64 x.f3, .int .i64 x.f4] := ⟨[.int .i64 x.f0], [.int .i64 x.f1, .int .i64 x.f2, .int .i64 x.f3, .int .i64 x.f4], rfl, rfl, ⟨[.int .i64 x.f1], [.int .i64 x.f2, .int .i64 x.f3, .int .i64 x.f4], rfl, rfl, ⟨[.int .i64 x.f2], [.int .i64 x.f3, .int .i64 x.f4], rfl, rfl, ⟨[.int .i64 x.f3], [.int .i64 x.f4], rfl, rfl, rfl⟩⟩⟩⟩
theorem k56_mkM (w : World) (base : Nat) (ok : Nat → Prop) (x : S56)  : k56.M w base ok x [.int .i64 x.f0, .int .i64 x.f1, .int .i64 x.f2, .int .i64 x.f3, .int .i64 x.f4] := ⟨[.int .i64 x.f0], [.int .i64 x.f1, .int .i64 x.f2, .int .i64 x.f3, .int .i64 x.f4], rfl, rfl, ⟨[.int .i64 x.f1], [.int .i64 x.f2, .int .i64 x.f3, .int .i64 x.f4], rfl, rfl, ⟨[.int .i64 x.f2], [.int .i64 x.f3, .int .i64 x.f4], rfl, rfl, ⟨[.int .i64 x.f3], [.int .i64 x.f4], rfl, rfl, rfl⟩⟩⟩⟩
theorem k56_mkF (W : World) (ok : Nat → Prop) (x : S56) : Kd.FK k56 W ok x [.int .i64 x.f0, .int .i64 x.f1, .int .i64 x.f2, .int .i64 x.f3, .int .i64 x.f4] := fun W2 _ => k56_mk W2 x
def rd_T56 (xs : List S56) (i : Int) : S56 := xs.getD i.toNat z56
theorem at_T56 {w : World} {A : Option Addr} {n : Nat} {xs : List S56} (h : Kd.C k56 w A n xs) (i : Int) (h0 : 0 ≤ i) (h1 : i < n) : ∃ ad , A = some ad ∧ w.cell? (ad.add (i.toNat * 5)) = some (.int .i64 (rd_T56 xs i).f0) ∧ w.cell? ⟨(ad.add (i.toNat * 5)).block, (ad.add (i.toNat * 5)).off + 1, none⟩ = some (.int .i64 (rd_T56 xs i).f1) ∧ w.cell? ⟨(ad.add (i.toNat * 5)).block, (ad.add (i.toNat * 5)).off + 2, none⟩ = some (.int .i64 (rd_T56 xs i).f2) ∧ w.cell? ⟨(ad.add (i.toNat * 5)).block, (ad.add (i.toNat * 5)).off + 3, none⟩ = some (.int .i64 (rd_T56 xs i).f3) ∧ w.cell? ⟨(ad.add (i.toNat * 5)).block, (ad.add (i.toNat * 5)).off + 4, none⟩ = some (.int .i64 (rd_T56 xs i).f4) := by
  obtain ⟨ad, c, e, _, hK, hc0⟩ := Kd.C_get h z56 i h0 h1
  have hc : ∀ j u, c[j]? = some u → w.cell? (ad.add (i.toNat * 5 + j)) = some u := hc0
  obtain rfl := k56_open hK
  exact ⟨ad, e, hc 0 _ rfl, by rw [← add_field _ _ 1 (by omega)]; exact hc 1 _ rfl, by rw [← add_field _ _ 2 (by omega)]; exact hc 2 _ rfl, by rw [← add_field _ _ 3 (by omega)]; exact hc 3 _ rfl, by rw [← add_field _ _ 4 (by omega)]; exact hc 4 _ rfl⟩

/-! #### struct type 58 -/
structure S58 where
  f0 : S56
  f1 : Int
  f2 : Int
  f3 : Int
def z58 : S58 := ⟨z56, (0 : Int), (0 : Int), (0 : Int)⟩
def k58 : Kd S58 := Kd.iso (Kd.pair k56 (Kd.pair (Kd.int .i64) (Kd.pair (Kd.int .i64) (Kd.int .i64)))) (fun x : S58 => (x.f0, x.f1, x.f2, x.f3))
theorem k58_open {w : World} {x : S58} {cs : List Value} (h : k58.K w x cs) : cs = [.int .i64 x.f0.f0, .int .i64 x.f0.f1, .int .i64 x.f0.f2, .int .i64 x.f0.f3, .int .i64 x.f0.f4, .int .i64 x.f1, .int .i64 x.f2, .int .i64 x.f3] := by
  obtain ⟨_, _, rfl, s0, ⟨_, _, rfl, rfl, ⟨_, _, rfl, rfl, rfl⟩⟩⟩ := h
  obtain rfl := k56_open s0
  exact rfl
theorem k58_openM {w : World} {base : Nat} {ok : Nat → Prop} {x : S58} {cs : List Value} (h : k58.M w base ok x cs) : cs = [.int .i64 x.f0.f0, .int .i64 x.f0.f1, .int .i64 x.f0.f2, .int .i64 x.f0.f3, .int .i64 x.f0.f4, .int .i64 x.f1, .int .i64 x.f2, .int .i64 x.f3] := by
  obtain ⟨_, _, rfl, s0, ⟨_, _, rfl, rfl, ⟨_, _, rfl, rfl, rfl⟩⟩⟩ := h
  obtain rfl := k56_openM s0
  exact rfl
theorem k58_mk (w : World) (x : S58)  : k58.K w x [.int .i64 x.f0.f0, .int .i64 x.f0.f1, .int .i64 x.f0.f2, .int .i64 x.f0.f3, .int .i64 x.f0.f4, .int .i64 x.f1, .int .i64 x.f2, .int .i64 x.f3] := ⟨[.int .i64 x.f0.f0, .int .i64 x.f0.f1, .int .i64 x.f0.f2, .int .i64 x.f0.f3, .int .i64 x.f0.f4], [.int .i64 x.f1, .int .i64 x.f2, .int .i64 x.f3], rfl, (k56_mk w x.f0 ), ⟨[.int .i64 x.f1], [.int .i64 x.f2, .int .i64 x.f3], rfl, rfl, ⟨[.int .i64 x.f2], [.int .i64 x.f3], rfl, rfl, rfl⟩⟩⟩
theorem k58_mkM (w : World) (base : Nat) (ok : Nat → Prop) (x : S58)  : k58.M w base ok x [.int .i64 x.f0.f0, .int .i64 x.f0.f1, .int .i64 x.f0.f2, .int .i64 x.f0.f3, .int .i64 x.f0.f4, .int .i64 x.f1, .int .i64 x.f2, .int .i64 x.f3] := ⟨[.int .i64 x.f0.f0, .int .i64 x.f0.f1, .int .i64 x.f0.f2, .int .i64 x.f0.f3, .int .i64 x.f0.f4], [.int .i64 x.f1, .int .i64 x.f2, .int .i64 x.f3], rfl, (k56_mkM w base ok x.f0 ), ⟨[.int .i64 x.f1], [.int .i64 x.f2, .int .i64 x.f3], rfl, rfl, ⟨[.int .i64 x.f2], [.int .i64 x.f3], rfl, rfl, rfl⟩⟩⟩
theorem k58_mkF (W : World) (ok : Nat → Prop) (x : S58) : Kd.FK k58 W ok x [.int .i64 x.f0.f0, .int .i64 x.f0.f1, .int .i64 x.f0.f2, .int .i64 x.f0.f3, .int .i64 x.f0.f4, .int .i64 x.f1, .int .i64 x.f2, .int .i64 x.f3] := fun W2 _ => k58_mk W2 x
def rd_T58 (xs : List S58) (i : Int) : S58 := xs.getD i.toNat z58
theorem at_T58 {w : World} {A : Option Addr} {n : Nat} {xs : List S58} (h : Kd.C k58 w A n xs) (i : Int) (h0 : 0 ≤ i) (h1 : i < n) : ∃ ad , A = some ad ∧ w.cell? (ad.add (i.toNat * 8)) = some (.int .i64 (rd_T58 xs i).f0.f0) ∧ w.cell? ⟨(ad.add (i.toNat * 8)).block, (ad.add (i.toNat * 8)).off + 1, none⟩ = some (.int .i64 (rd_T58 xs i).f0.f1) ∧ w.cell? ⟨(ad.add (i.toNat * 8)).block, (ad.add (i.toNat * 8)).off + 2, none⟩ = some (.int .i64 (rd_T58 xs i).f0.f2) ∧ w.cell? ⟨(ad.add (i.toNat * 8)).block, (ad.add (i.toNat * 8)).off + 3, none⟩ = some (.int .i64 (rd_T58 xs i).f0.f3) ∧ w.cell? ⟨(ad.add (i.toNat * 8)).block, (ad.add (i.toNat * 8)).off + 4, none⟩ = some (.int .i64 (rd_T58 xs i).f0.f4) ∧ w.cell? ⟨(ad.add (i.toNat * 8)).block, (ad.add (i.toNat * 8)).off + 5, none⟩ = some (.int .i64 (rd_T58 xs i).f1) ∧ w.cell? ⟨(ad.add (i.toNat * 8)).block, (ad.add (i.toNat * 8)).off + 6, none⟩ = some (.int .i64 (rd_T58 xs i).f2) ∧ w.cell? ⟨(ad.add (i.toNat * 8)).block, (ad.add (i.toNat * 8)).off + 7, none⟩ = some (.int .i64 (rd_T58 xs i).f3) := by
  obtain ⟨ad, c, e, _, hK, hc0⟩ := Kd.C_get h z58 i h0 h1
  have hc : ∀ j u, c[j]? = some u → w.cell? (ad.add (i.toNat * 8 + j)) = some u := hc0
  obtain rfl := k58_open hK
  exact ⟨ad, e, hc 0 _ rfl, by rw [← add_field _ _ 1 (by omega)]; exact hc 1 _ rfl, by rw [← add_field _ _ 2 (by omega)]; exact hc 2 _ rfl, by rw [← add_field _ _ 3 (by omega)]; exact hc 3 _ rfl, by rw [← add_field _ _ 4 (by omega)]; exact hc 4 _ rfl, by rw [← add_field _ _ 5 (by omega)]; exact hc 5 _ rfl, by rw [← add_field _ _ 6 (by omega)]; exact hc 6 _ rfl, by rw [← add_field _ _ 7 (by omega)]; exact hc 7 _ rfl⟩

def rd_L3 (xs : List (List Int)) (i : Int) : (List Int) := xs.getD i.toNat ([] : List Int)
theorem at_L3 {w : World} {A : Option Addr} {n : Nat} {xs : List (List Int)} (h : Kd.C (Kd.slice 3 (Kd.int .i64)) w A n xs) (i : Int) (h0 : 0 ≤ i) (h1 : i < n) : ∃ ad A0 c0, A = some ad ∧ w.cell? (ad.add i.toNat) = some (.slice A0 (rd_L3 xs i).length c0) ∧ (rd_L3 xs i).length ≤ c0 ∧ (Kd.int .i64).C w A0 (rd_L3 xs i).length (rd_L3 xs i) := by
  obtain ⟨ad, c, e, _, hK, hc0⟩ := Kd.C_get h ([] : List Int) i h0 h1
  have hc : ∀ j u, c[j]? = some u → w.cell? (ad.add (i.toNat * 1 + j)) = some u := hc0
  obtain ⟨A0, c0, rfl, l0, g0⟩ := hK
  exact ⟨ad, A0, c0, e, by have hq := hc 0 _ rfl; rwa [Nat.mul_one, Nat.add_zero] at hq, l0, g0⟩

/-! #### struct type 39 -/
structure S39 where
  f0 : Int
  f1 : Int
def z39 : S39 := ⟨(0 : Int), (0 : Int)⟩
def k39 : Kd S39 := Kd.iso (Kd.pair (Kd.int .i64) (Kd.int .i64)) (fun x : S39 => (x.f0, x.f1))
theorem k39_open {w : World} {x : S39} {cs : List Value} (h : k39.K w x cs) : cs = [.int .i64 x.f0, .int .i64 x.f1] := by
  obtain ⟨_, _, rfl, rfl, rfl⟩ := h
  exact rfl
theorem k39_openM {w : World} {base : Nat} {ok : Nat → Prop} {x : S39} {cs : List Value} (h : k39.M w base ok x cs) : cs = [.int .i64 x.f0, .int .i64 x.f1] := by
  obtain ⟨_, _, rfl, rfl, rfl⟩ := h
  exact rfl
theorem k39_mk (w : World) (x : S39)  : k39.K w x [.int .i64 x.f0, .int .i64 x.f1] := ⟨[.int .i64 x.f0], [.int .i64 x.f1], rfl, rfl, rfl⟩
theorem k39_mkM (w : World) (base : Nat) (ok : Nat → Prop) (x : S39)  : k39.M w base ok x [.int .i64 x.f0, .int .i64 x.f1] := ⟨[.int .i64 x.f0], [.int .i64 x.f1], rfl, rfl, rfl⟩
theorem k39_mkF (W : World) (ok : Nat → Prop) (x : S39) : Kd.FK k39 W ok x [.int .i64 x.f0, .int .i64 x.f1] := fun W2 _ => k39_mk W2 x
def rd_T39 (xs : List S39) (i : Int) : S39 := xs.getD i.toNat z39
theorem at_T39 {w : World} {A : Option Addr} {n : Nat} {xs : List S39} (h : Kd.C k39 w A n xs) (i : Int) (h0 : 0 ≤ i) (h1 : i < n) : ∃ ad , A = some ad ∧ w.cell? (ad.add (i.toNat * 2)) = some (.int .i64 (rd_T39 xs i).f0) ∧ w.cell? ⟨(ad.add (i.toNat * 2)).block, (ad.add (i.toNat * 2)).off + 1, none⟩ = some (.int .i64 (rd_T39 xs i).f1) := by
  obtain ⟨ad, c, e, _, hK, hc0⟩ := Kd.C_get h z39 i h0 h1
  have hc : ∀ j u, c[j]? = some u → w.cell? (ad.add (i.toNat * 2 + j)) = some u := hc0
  obtain rfl := k39_open hK
  exact ⟨ad, e, hc 0 _ rfl, by rw [← add_field _ _ 1 (by omega)]; exact hc 1 _ rfl⟩

/-! #### struct type 41 -/
structure S41 where
  f0 : Int
  f1 : Int
  f2 : (List Int)
  f3 : Int
  f4 : Int
  f5 : (List Int)
  f6 : S39
def z41 : S41 := ⟨(0 : Int), (0 : Int), ([] : List Int), (0 : Int), (0 : Int), ([] : List Int), z39⟩
def k41 : Kd S41 := Kd.iso (Kd.pair (Kd.int .i64) (Kd.pair (Kd.int .i64) (Kd.pair (Kd.slice 3 (Kd.int .i64)) (Kd.pair (Kd.int .i64) (Kd.pair (Kd.int .i64) (Kd.pair (Kd.slice 3 (Kd.int .i64)) k39)))))) (fun x : S41 => (x.f0, x.f1, x.f2, x.f3, x.f4, x.f5, x.f6))
theorem k41_open {w : World} {x : S41} {cs : List Value} (h : k41.K w x cs) : ∃ A2 c2 A5 c5, cs = [.int .i64 x.f0, .int .i64 x.f1, .slice A2 x.f2.length c2, .int .i64 x.f3, .int .i64 x.f4, .slice A5 x.f5.length c5, .int .i64 x.f6.f0, .int .i64 x.f6.f1] ∧ x.f2.length ≤ c2 ∧ (Kd.int .i64).C w A2 x.f2.length x.f2 ∧ x.f5.length ≤ c5 ∧ (Kd.int .i64).C w A5 x.f5.length x.f5 := by
  obtain ⟨_, _, rfl, rfl, ⟨_, _, rfl, rfl, ⟨_, _, rfl, ⟨A2, c2, rfl, l2, g2⟩, ⟨_, _, rfl, rfl, ⟨_, _, rfl, rfl, ⟨_, _, rfl, ⟨A5, c5, rfl, l5, g5⟩, s6⟩⟩⟩⟩⟩⟩ := h
  obtain rfl := k39_open s6
  exact ⟨A2, c2, A5, c5, rfl, l2, g2, l5, g5⟩
theorem k41_openM {w : World} {base : Nat} {ok : Nat → Prop} {x : S41} {cs : List Value} (h : k41.M w base ok x cs) : ∃ v2 v5, cs = [.int .i64 x.f0, .int .i64 x.f1, v2, .int .i64 x.f3, .int .i64 x.f4, v5, .int .i64 x.f6.f0, .int .i64 x.f6.f1] ∧ (Kd.int .i64).R 3 w base ok v2 x.f2 ∧ (Kd.int .i64).R 3 w base ok v5 x.f5 := by
  obtain ⟨_, _, rfl, rfl, ⟨_, _, rfl, rfl, ⟨_, _, rfl, ⟨v2, rfl, g2⟩, ⟨_, _, rfl, rfl, ⟨_, _, rfl, rfl, ⟨_, _, rfl, ⟨v5, rfl, g5⟩, s6⟩⟩⟩⟩⟩⟩ := h
  obtain rfl := k39_openM s6
  exact ⟨v2, v5, rfl, g2, g5⟩
theorem k41_mk (w : World) (x : S41) {A2 : Option Addr} {c2 : Nat} (l2 : x.f2.length ≤ c2) (g2 : (Kd.int .i64).C w A2 x.f2.length x.f2) {A5 : Option Addr} {c5 : Nat} (l5 : x.f5.length ≤ c5) (g5 : (Kd.int .i64).C w A5 x.f5.length x.f5) : k41.K w x [.int .i64 x.f0, .int .i64 x.f1, .slice A2 x.f2.length c2, .int .i64 x.f3, .int .i64 x.f4, .slice A5 x.f5.length c5, .int .i64 x.f6.f0, .int .i64 x.f6.f1] := ⟨[.int .i64 x.f0], [.int .i64 x.f1, .slice A2 x.f2.length c2, .int .i64 x.f3, .int .i64 x.f4, .slice A5 x.f5.length c5, .int .i64 x.f6.f0, .int .i64 x.f6.f1], rfl, rfl, ⟨[.int .i64 x.f1], [.slice A2 x.f2.length c2, .int .i64 x.f3, .int .i64 x.f4, .slice A5 x.f5.length c5, .int .i64 x.f6.f0, .int .i64 x.f6.f1], rfl, rfl, ⟨[.slice A2 x.f2.length c2], [.int .i64 x.f3, .int .i64 x.f4, .slice A5 x.f5.length c5, .int .i64 x.f6.f0, .int .i64 x.f6.f1], rfl, ⟨A2, c2, rfl, l2, g2⟩, ⟨[.int .i64 x.f3], [.int .i64 x.f4, .slice A5 x.f5.length c5, .int .i64 x.f6.f0, .int .i64 x.f6.f1], rfl, rfl, ⟨[.int .i64 x.f4], [.slice A5 x.f5.length c5, .int .i64 x.f6.f0, .int .i64 x.f6.f1], rfl, rfl, ⟨[.slice A5 x.f5.length c5], [.int .i64 x.f6.f0, .int .i64 x.f6.f1], rfl, ⟨A5, c5, rfl, l5, g5⟩, (k39_mk w x.f6 )⟩⟩⟩⟩⟩⟩
theorem k41_mkM (w : World) (base : Nat) (ok : Nat → Prop) (x : S41) {v2 : Value} (g2 : (Kd.int .i64).R 3 w base ok v2 x.f2) {v5 : Value} (g5 : (Kd.int .i64).R 3 w base ok v5 x.f5) : k41.M w base ok x [.int .i64 x.f0, .int .i64 x.f1, v2, .int .i64 x.f3, .int .i64 x.f4, v5, .int .i64 x.f6.f0, .int .i64 x.f6.f1] := ⟨[.int .i64 x.f0], [.int .i64 x.f1, v2, .int .i64 x.f3, .int .i64 x.f4, v5, .int .i64 x.f6.f0, .int .i64 x.f6.f1], rfl, rfl, ⟨[.int .i64 x.f1], [v2, .int .i64 x.f3, .int .i64 x.f4, v5, .int .i64 x.f6.f0, .int .i64 x.f6.f1], rfl, rfl, ⟨[v2], [.int .i64 x.f3, .int .i64 x.f4, v5, .int .i64 x.f6.f0, .int .i64 x.f6.f1], rfl, ⟨v2, rfl, g2⟩, ⟨[.int .i64 x.f3], [.int .i64 x.f4, v5, .int .i64 x.f6.f0, .int .i64 x.f6.f1], rfl, rfl, ⟨[.int .i64 x.f4], [v5, .int .i64 x.f6.f0, .int .i64 x.f6.f1], rfl, rfl, ⟨[v5], [.int .i64 x.f6.f0, .int .i64 x.f6.f1], rfl, ⟨v5, rfl, g5⟩, (k39_mkM w base ok x.f6 )⟩⟩⟩⟩⟩⟩
theorem k41_openF {W : World} {ok : Nat → Prop} {x : S41} {cs : List Value} (h : Kd.FK k41 W ok x cs) : ∃ A2 c2 A5 c5, cs = [.int .i64 x.f0, .int .i64 x.f1, .slice A2 x.f2.length c2, .int .i64 x.f3, .int .i64 x.f4, .slice A5 x.f5.length c5, .int .i64 x.f6.f0, .int .i64 x.f6.f1] ∧ x.f2.length ≤ c2 ∧ Kd.F (Kd.int .i64) W ok A2 x.f2.length x.f2 ∧ x.f5.length ≤ c5 ∧ Kd.F (Kd.int .i64) W ok A5 x.f5.length x.f5 := by
  obtain ⟨A2, c2, A5, c5, rfl, l2, _, l5, _⟩ := k41_open (Kd.FK_now h)
  exact ⟨A2, c2, A5, c5, rfl, l2, (fun W' hW => by obtain ⟨A2_, c2_, A5_, c5_, he, l2_, g2_, l5_, g5_⟩ := k41_open (h W' hW); injection (Option.some.inj (show some (Value.slice A2 x.f2.length c2) = some (Value.slice A2_ x.f2.length c2_) from congrArg (fun l => l[2]?) he)) with ha_ _ _; rw [ha_]; exact g2_), l5, (fun W' hW => by obtain ⟨A2_, c2_, A5_, c5_, he, l2_, g2_, l5_, g5_⟩ := k41_open (h W' hW); injection (Option.some.inj (show some (Value.slice A5 x.f5.length c5) = some (Value.slice A5_ x.f5.length c5_) from congrArg (fun l => l[5]?) he)) with ha_ _ _; rw [ha_]; exact g5_)⟩
theorem k41_mkF (W : World) (ok : Nat → Prop) (x : S41) {A2 : Option Addr} {c2 : Nat} (l2 : x.f2.length ≤ c2) (g2 : Kd.F (Kd.int .i64) W ok A2 x.f2.length x.f2) {A5 : Option Addr} {c5 : Nat} (l5 : x.f5.length ≤ c5) (g5 : Kd.F (Kd.int .i64) W ok A5 x.f5.length x.f5) : Kd.FK k41 W ok x [.int .i64 x.f0, .int .i64 x.f1, .slice A2 x.f2.length c2, .int .i64 x.f3, .int .i64 x.f4, .slice A5 x.f5.length c5, .int .i64 x.f6.f0, .int .i64 x.f6.f1] := fun W2 hW => k41_mk W2 x l2 (g2 W2 hW) l5 (g5 W2 hW)
def rd_T41 (xs : List S41) (i : Int) : S41 := xs.getD i.toNat z41
theorem at_T41 {w : World} {A : Option Addr} {n : Nat} {xs : List S41} (h : Kd.C k41 w A n xs) (i : Int) (h0 : 0 ≤ i) (h1 : i < n) : ∃ ad A2 c2 A5 c5, A = some ad ∧ w.cell? (ad.add (i.toNat * 8)) = some (.int .i64 (rd_T41 xs i).f0) ∧ w.cell? ⟨(ad.add (i.toNat * 8)).block, (ad.add (i.toNat * 8)).off + 1, none⟩ = some (.int .i64 (rd_T41 xs i).f1) ∧ w.cell? ⟨(ad.add (i.toNat * 8)).block, (ad.add (i.toNat * 8)).off + 2, none⟩ = some (.slice A2 (rd_T41 xs i).f2.length c2) ∧ w.cell? ⟨(ad.add (i.toNat * 8)).block, (ad.add (i.toNat * 8)).off + 3, none⟩ = some (.int .i64 (rd_T41 xs i).f3) ∧ w.cell? ⟨(ad.add (i.toNat * 8)).block, (ad.add (i.toNat * 8)).off + 4, none⟩ = some (.int .i64 (rd_T41 xs i).f4) ∧ w.cell? ⟨(ad.add (i.toNat * 8)).block, (ad.add (i.toNat * 8)).off + 5, none⟩ = some (.slice A5 (rd_T41 xs i).f5.length c5) ∧ w.cell? ⟨(ad.add (i.toNat * 8)).block, (ad.add (i.toNat * 8)).off + 6, none⟩ = some (.int .i64 (rd_T41 xs i).f6.f0) ∧ w.cell? ⟨(ad.add (i.toNat * 8)).block, (ad.add (i.toNat * 8)).off + 7, none⟩ = some (.int .i64 (rd_T41 xs i).f6.f1) ∧ (rd_T41 xs i).f2.length ≤ c2 ∧ (Kd.int .i64).C w A2 (rd_T41 xs i).f2.length (rd_T41 xs i).f2 ∧ (rd_T41 xs i).f5.length ≤ c5 ∧ (Kd.int .i64).C w A5 (rd_T41 xs i).f5.length (rd_T41 xs i).f5 := by
  obtain ⟨ad, c, e, _, hK, hc0⟩ := Kd.C_get h z41 i h0 h1
  have hc : ∀ j u, c[j]? = some u → w.cell? (ad.add (i.toNat * 8 + j)) = some u := hc0
  obtain ⟨A2, c2, A5, c5, rfl, l2, g2, l5, g5⟩ := k41_open hK
  exact ⟨ad, A2, c2, A5, c5, e, hc 0 _ rfl, by rw [← add_field _ _ 1 (by omega)]; exact hc 1 _ rfl, by rw [← add_field _ _ 2 (by omega)]; exact hc 2 _ rfl, by rw [← add_field _ _ 3 (by omega)]; exact hc 3 _ rfl, by rw [← add_field _ _ 4 (by omega)]; exact hc 4 _ rfl, by rw [← add_field _ _ 5 (by omega)]; exact hc 5 _ rfl, by rw [← add_field _ _ 6 (by omega)]; exact hc 6 _ rfl, by rw [← add_field _ _ 7 (by omega)]; exact hc 7 _ rfl, l2, g2, l5, g5⟩

abbrev q1_ (w : World) (g : Nat) (i0 : Int) (i1 : Int) (A2 : Option Addr) (n2 c2 : Nat) (i3 : Int) (i4 : Int) (A5 : Option Addr) (n5 c5 : Nat) (i6 : Int) (i7 : Int) (R : Prop) : Prop := w.cell? ⟨g, 0, none⟩ = some (.int .i64 i0) ∧ w.cell? ⟨g, 1, none⟩ = some (.int .i64 i1) ∧ w.cell? ⟨g, 2, none⟩ = some (.slice A2 n2 c2) ∧ w.cell? ⟨g, 3, none⟩ = some (.int .i64 i3) ∧ w.cell? ⟨g, 4, none⟩ = some (.int .i64 i4) ∧ w.cell? ⟨g, 5, none⟩ = some (.slice A5 n5 c5) ∧ w.cell? ⟨g, 6, none⟩ = some (.int .i64 i6) ∧ w.cell? ⟨g, 7, none⟩ = some (.int .i64 i7) ∧ R
abbrev q1e_ (w : World) (g : Nat) (i0 : Int) (i1 : Int) (A2 : Option Addr) (n2 c2 : Nat) (i3 : Int) (i4 : Int) (A5 : Option Addr) (n5 c5 : Nat) (i6 : Int) (i7 : Int) : Prop := w.cell? ⟨g, 0, none⟩ = some (.int .i64 i0) ∧ w.cell? ⟨g, 1, none⟩ = some (.int .i64 i1) ∧ w.cell? ⟨g, 2, none⟩ = some (.slice A2 n2 c2) ∧ w.cell? ⟨g, 3, none⟩ = some (.int .i64 i3) ∧ w.cell? ⟨g, 4, none⟩ = some (.int .i64 i4) ∧ w.cell? ⟨g, 5, none⟩ = some (.slice A5 n5 c5) ∧ w.cell? ⟨g, 6, none⟩ = some (.int .i64 i6) ∧ w.cell? ⟨g, 7, none⟩ = some (.int .i64 i7)
theorem k1_ {w : World} {g : Nat} {t : TypeId} {cs : Array Value} {R : Prop} {i0 : Int} {i1 : Int} {A2 : Option Addr} {n2 c2 : Nat} {i3 : Int} {i4 : Int} {A5 : Option Addr} {n5 c5 : Nat} {i6 : Int} {i7 : Int} (h : w.heap[g]? = some (.cells cs t (0, 0))) (r : R) (e0 : cs[0]? = some (.int .i64 i0) := by rfl) (e1 : cs[1]? = some (.int .i64 i1) := by rfl) (e2 : cs[2]? = some (.slice A2 n2 c2) := by rfl) (e3 : cs[3]? = some (.int .i64 i3) := by rfl) (e4 : cs[4]? = some (.int .i64 i4) := by rfl) (e5 : cs[5]? = some (.slice A5 n5 c5) := by rfl) (e6 : cs[6]? = some (.int .i64 i6) := by rfl) (e7 : cs[7]? = some (.int .i64 i7) := by rfl) : q1_ w g i0 i1 A2 n2 c2 i3 i4 A5 n5 c5 i6 i7 R := ⟨(blk_cell h 0).trans e0, (blk_cell h 1).trans e1, (blk_cell h 2).trans e2, (blk_cell h 3).trans e3, (blk_cell h 4).trans e4, (blk_cell h 5).trans e5, (blk_cell h 6).trans e6, (blk_cell h 7).trans e7, r⟩
theorem k1e_ {w : World} {g : Nat} {t : TypeId} {cs : Array Value} {i0 : Int} {i1 : Int} {A2 : Option Addr} {n2 c2 : Nat} {i3 : Int} {i4 : Int} {A5 : Option Addr} {n5 c5 : Nat} {i6 : Int} {i7 : Int} (h : w.heap[g]? = some (.cells cs t (0, 0))) (e0 : cs[0]? = some (.int .i64 i0) := by rfl) (e1 : cs[1]? = some (.int .i64 i1) := by rfl) (e2 : cs[2]? = some (.slice A2 n2 c2) := by rfl) (e3 : cs[3]? = some (.int .i64 i3) := by rfl) (e4 : cs[4]? = some (.int .i64 i4) := by rfl) (e5 : cs[5]? = some (.slice A5 n5 c5) := by rfl) (e6 : cs[6]? = some (.int .i64 i6) := by rfl) (e7 : cs[7]? = some (.int .i64 i7) := by rfl) : q1e_ w g i0 i1 A2 n2 c2 i3 i4 A5 n5 c5 i6 i7 := ⟨(blk_cell h 0).trans e0, (blk_cell h 1).trans e1, (blk_cell h 2).trans e2, (blk_cell h 3).trans e3, (blk_cell h 4).trans e4, (blk_cell h 5).trans e5, (blk_cell h 6).trans e6, (blk_cell h 7).trans e7⟩
abbrev q2_ (w : World) (g : Addr) (i0 : Int) (i1 : Int) (A2 : Option Addr) (n2 c2 : Nat) (i3 : Int) (i4 : Int) (A5 : Option Addr) (n5 c5 : Nat) (i6 : Int) (i7 : Int) (R : Prop) : Prop := w.cell? g = some (.int .i64 i0) ∧ w.cell? ⟨g.block, g.off + 1, none⟩ = some (.int .i64 i1) ∧ w.cell? ⟨g.block, g.off + 2, none⟩ = some (.slice A2 n2 c2) ∧ w.cell? ⟨g.block, g.off + 3, none⟩ = some (.int .i64 i3) ∧ w.cell? ⟨g.block, g.off + 4, none⟩ = some (.int .i64 i4) ∧ w.cell? ⟨g.block, g.off + 5, none⟩ = some (.slice A5 n5 c5) ∧ w.cell? ⟨g.block, g.off + 6, none⟩ = some (.int .i64 i6) ∧ w.cell? ⟨g.block, g.off + 7, none⟩ = some (.int .i64 i7) ∧ R
abbrev q2e_ (w : World) (g : Addr) (i0 : Int) (i1 : Int) (A2 : Option Addr) (n2 c2 : Nat) (i3 : Int) (i4 : Int) (A5 : Option Addr) (n5 c5 : Nat) (i6 : Int) (i7 : Int) : Prop := w.cell? g = some (.int .i64 i0) ∧ w.cell? ⟨g.block, g.off + 1, none⟩ = some (.int .i64 i1) ∧ w.cell? ⟨g.block, g.off + 2, none⟩ = some (.slice A2 n2 c2) ∧ w.cell? ⟨g.block, g.off + 3, none⟩ = some (.int .i64 i3) ∧ w.cell? ⟨g.block, g.off + 4, none⟩ = some (.int .i64 i4) ∧ w.cell? ⟨g.block, g.off + 5, none⟩ = some (.slice A5 n5 c5) ∧ w.cell? ⟨g.block, g.off + 6, none⟩ = some (.int .i64 i6) ∧ w.cell? ⟨g.block, g.off + 7, none⟩ = some (.int .i64 i7)
abbrev q3_ (w : World) (g : Nat) (i0 : Int) (i1 : Int) (i2 : Int) (i3 : Int) (i4 : Int) (i5 : Int) (i6 : Int) (i7 : Int) (R : Prop) : Prop := w.cell? ⟨g, 0, none⟩ = some (.int .i64 i0) ∧ w.cell? ⟨g, 1, none⟩ = some (.int .i64 i1) ∧ w.cell? ⟨g, 2, none⟩ = some (.int .i64 i2) ∧ w.cell? ⟨g, 3, none⟩ = some (.int .i64 i3) ∧ w.cell? ⟨g, 4, none⟩ = some (.int .i64 i4) ∧ w.cell? ⟨g, 5, none⟩ = some (.int .i64 i5) ∧ w.cell? ⟨g, 6, none⟩ = some (.int .i64 i6) ∧ w.cell? ⟨g, 7, none⟩ = some (.int .i64 i7) ∧ R
abbrev q3e_ (w : World) (g : Nat) (i0 : Int) (i1 : Int) (i2 : Int) (i3 : Int) (i4 : Int) (i5 : Int) (i6 : Int) (i7 : Int) : Prop := w.cell? ⟨g, 0, none⟩ = some (.int .i64 i0) ∧ w.cell? ⟨g, 1, none⟩ = some (.int .i64 i1) ∧ w.cell? ⟨g, 2, none⟩ = some (.int .i64 i2) ∧ w.cell? ⟨g, 3, none⟩ = some (.int .i64 i3) ∧ w.cell? ⟨g, 4, none⟩ = some (.int .i64 i4) ∧ w.cell? ⟨g, 5, none⟩ = some (.int .i64 i5) ∧ w.cell? ⟨g, 6, none⟩ = some (.int .i64 i6) ∧ w.cell? ⟨g, 7, none⟩ = some (.int .i64 i7)
theorem k3_ {w : World} {g : Nat} {t : TypeId} {cs : Array Value} {R : Prop} {i0 : Int} {i1 : Int} {i2 : Int} {i3 : Int} {i4 : Int} {i5 : Int} {i6 : Int} {i7 : Int} (h : w.heap[g]? = some (.cells cs t (0, 0))) (r : R) (e0 : cs[0]? = some (.int .i64 i0) := by rfl) (e1 : cs[1]? = some (.int .i64 i1) := by rfl) (e2 : cs[2]? = some (.int .i64 i2) := by rfl) (e3 : cs[3]? = some (.int .i64 i3) := by rfl) (e4 : cs[4]? = some (.int .i64 i4) := by rfl) (e5 : cs[5]? = some (.int .i64 i5) := by rfl) (e6 : cs[6]? = some (.int .i64 i6) := by rfl) (e7 : cs[7]? = some (.int .i64 i7) := by rfl) : q3_ w g i0 i1 i2 i3 i4 i5 i6 i7 R := ⟨(blk_cell h 0).trans e0, (blk_cell h 1).trans e1, (blk_cell h 2).trans e2, (blk_cell h 3).trans e3, (blk_cell h 4).trans e4, (blk_cell h 5).trans e5, (blk_cell h 6).trans e6, (blk_cell h 7).trans e7, r⟩
theorem k3e_ {w : World} {g : Nat} {t : TypeId} {cs : Array Value} {i0 : Int} {i1 : Int} {i2 : Int} {i3 : Int} {i4 : Int} {i5 : Int} {i6 : Int} {i7 : Int} (h : w.heap[g]? = some (.cells cs t (0, 0))) (e0 : cs[0]? = some (.int .i64 i0) := by rfl) (e1 : cs[1]? = some (.int .i64 i1) := by rfl) (e2 : cs[2]? = some (.int .i64 i2) := by rfl) (e3 : cs[3]? = some (.int .i64 i3) := by rfl) (e4 : cs[4]? = some (.int .i64 i4) := by rfl) (e5 : cs[5]? = some (.int .i64 i5) := by rfl) (e6 : cs[6]? = some (.int .i64 i6) := by rfl) (e7 : cs[7]? = some (.int .i64 i7) := by rfl) : q3e_ w g i0 i1 i2 i3 i4 i5 i6 i7 := ⟨(blk_cell h 0).trans e0, (blk_cell h 1).trans e1, (blk_cell h 2).trans e2, (blk_cell h 3).trans e3, (blk_cell h 4).trans e4, (blk_cell h 5).trans e5, (blk_cell h 6).trans e6, (blk_cell h 7).trans e7⟩
abbrev q4_ (w : World) (g : Addr) (i0 : Int) (i1 : Int) (i2 : Int) (i3 : Int) (i4 : Int) (i5 : Int) (i6 : Int) (i7 : Int) (R : Prop) : Prop := w.cell? g = some (.int .i64 i0) ∧ w.cell? ⟨g.block, g.off + 1, none⟩ = some (.int .i64 i1) ∧ w.cell? ⟨g.block, g.off + 2, none⟩ = some (.int .i64 i2) ∧ w.cell? ⟨g.block, g.off + 3, none⟩ = some (.int .i64 i3) ∧ w.cell? ⟨g.block, g.off + 4, none⟩ = some (.int .i64 i4) ∧ w.cell? ⟨g.block, g.off + 5, none⟩ = some (.int .i64 i5) ∧ w.cell? ⟨g.block, g.off + 6, none⟩ = some (.int .i64 i6) ∧ w.cell? ⟨g.block, g.off + 7, none⟩ = some (.int .i64 i7) ∧ R
abbrev q4e_ (w : World) (g : Addr) (i0 : Int) (i1 : Int) (i2 : Int) (i3 : Int) (i4 : Int) (i5 : Int) (i6 : Int) (i7 : Int) : Prop := w.cell? g = some (.int .i64 i0) ∧ w.cell? ⟨g.block, g.off + 1, none⟩ = some (.int .i64 i1) ∧ w.cell? ⟨g.block, g.off + 2, none⟩ = some (.int .i64 i2) ∧ w.cell? ⟨g.block, g.off + 3, none⟩ = some (.int .i64 i3) ∧ w.cell? ⟨g.block, g.off + 4, none⟩ = some (.int .i64 i4) ∧ w.cell? ⟨g.block, g.off + 5, none⟩ = some (.int .i64 i5) ∧ w.cell? ⟨g.block, g.off + 6, none⟩ = some (.int .i64 i6) ∧ w.cell? ⟨g.block, g.off + 7, none⟩ = some (.int .i64 i7)
theorem rt_ {P : Prop} (h : P := by first | rfl | (simp [errW_none, errW_some] <;> rfl) | (simp [*, errW_none, errW_some] <;> rfl)) : P := h
theorem e2_ {w : World} {g : Nat} {t : TypeId} {i0 : Int} {i1 : Int} {i2 : Int} {i3 : Int} {i4 : Int} (h : w.heap[g]? = some (.cells #[.int .i64 i0, .int .i64 i1, .int .i64 i2, .int .i64 i3, .int .i64 i4] t (0, 0))) : w.cell? ⟨g, 0, none⟩ = some (.int .i64 i0) ∧ w.cell? ⟨g, 1, none⟩ = some (.int .i64 i1) ∧ w.cell? ⟨g, 2, none⟩ = some (.int .i64 i2) ∧ w.cell? ⟨g, 3, none⟩ = some (.int .i64 i3) ∧ w.cell? ⟨g, 4, none⟩ = some (.int .i64 i4) := ⟨(blk_cell h 0).trans rfl, (blk_cell h 1).trans rfl, (blk_cell h 2).trans rfl, (blk_cell h 3).trans rfl, (blk_cell h 4).trans rfl⟩
theorem z3_ {w : World} {g : Nat} {t : TypeId} {cs : Array Value} (h : w.heap[g]? = some (.cells cs t (0, 0))) : w.frozen? ⟨g, 0, none⟩ = false ∧ w.frozen? ⟨g, 1, none⟩ = false ∧ w.frozen? ⟨g, 2, none⟩ = false ∧ w.frozen? ⟨g, 3, none⟩ = false ∧ w.frozen? ⟨g, 4, none⟩ = false := ⟨blk_frozen h 0, blk_frozen h 1, blk_frozen h 2, blk_frozen h 3, blk_frozen h 4⟩
theorem e4_ {w : World} {g : Nat} {t : TypeId} {i0 : Int} {i1 : Int} {i2 : Int} {i3 : Int} {i4 : Int} {i5 : Int} {i6 : Int} {i7 : Int} (h : w.heap[g]? = some (.cells #[.int .i64 i0, .int .i64 i1, .int .i64 i2, .int .i64 i3, .int .i64 i4, .int .i64 i5, .int .i64 i6, .int .i64 i7] t (0, 0))) : w.cell? ⟨g, 0, none⟩ = some (.int .i64 i0) ∧ w.cell? ⟨g, 1, none⟩ = some (.int .i64 i1) ∧ w.cell? ⟨g, 2, none⟩ = some (.int .i64 i2) ∧ w.cell? ⟨g, 3, none⟩ = some (.int .i64 i3) ∧ w.cell? ⟨g, 4, none⟩ = some (.int .i64 i4) ∧ w.cell? ⟨g, 5, none⟩ = some (.int .i64 i5) ∧ w.cell? ⟨g, 6, none⟩ = some (.int .i64 i6) ∧ w.cell? ⟨g, 7, none⟩ = some (.int .i64 i7) := ⟨(blk_cell h 0).trans rfl, (blk_cell h 1).trans rfl, (blk_cell h 2).trans rfl, (blk_cell h 3).trans rfl, (blk_cell h 4).trans rfl, (blk_cell h 5).trans rfl, (blk_cell h 6).trans rfl, (blk_cell h 7).trans rfl⟩
theorem z5_ {w : World} {g : Nat} {t : TypeId} {cs : Array Value} (h : w.heap[g]? = some (.cells cs t (0, 0))) : w.frozen? ⟨g, 0, none⟩ = false ∧ w.frozen? ⟨g, 1, none⟩ = false ∧ w.frozen? ⟨g, 2, none⟩ = false ∧ w.frozen? ⟨g, 3, none⟩ = false ∧ w.frozen? ⟨g, 4, none⟩ = false ∧ w.frozen? ⟨g, 5, none⟩ = false ∧ w.frozen? ⟨g, 6, none⟩ = false ∧ w.frozen? ⟨g, 7, none⟩ = false := ⟨blk_frozen h 0, blk_frozen h 1, blk_frozen h 2, blk_frozen h 3, blk_frozen h 4, blk_frozen h 5, blk_frozen h 6, blk_frozen h 7⟩
theorem e6_ {w : World} {g : Nat} {t : TypeId} {i0 : Int} {i1 : Int} {A2 : Option Addr} {n2 c2 : Nat} {i3 : Int} {i4 : Int} {A5 : Option Addr} {n5 c5 : Nat} {i6 : Int} {i7 : Int} (h : w.heap[g]? = some (.cells #[.int .i64 i0, .int .i64 i1, .slice A2 n2 c2, .int .i64 i3, .int .i64 i4, .slice A5 n5 c5, .int .i64 i6, .int .i64 i7] t (0, 0))) : w.cell? ⟨g, 0, none⟩ = some (.int .i64 i0) ∧ w.cell? ⟨g, 1, none⟩ = some (.int .i64 i1) ∧ w.cell? ⟨g, 2, none⟩ = some (.slice A2 n2 c2) ∧ w.cell? ⟨g, 3, none⟩ = some (.int .i64 i3) ∧ w.cell? ⟨g, 4, none⟩ = some (.int .i64 i4) ∧ w.cell? ⟨g, 5, none⟩ = some (.slice A5 n5 c5) ∧ w.cell? ⟨g, 6, none⟩ = some (.int .i64 i6) ∧ w.cell? ⟨g, 7, none⟩ = some (.int .i64 i7) := ⟨(blk_cell h 0).trans rfl, (blk_cell h 1).trans rfl, (blk_cell h 2).trans rfl, (blk_cell h 3).trans rfl, (blk_cell h 4).trans rfl, (blk_cell h 5).trans rfl, (blk_cell h 6).trans rfl, (blk_cell h 7).trans rfl⟩
abbrev c7_ (i0 : Int) (i1 : Int) (A2 : Option Addr) (n2 c2 : Nat) (i3 : Int) (i4 : Int) (A5 : Option Addr) (n5 c5 : Nat) (i6 : Int) (i7 : Int) : Obj := .cells #[.int .i64 i0, .int .i64 i1, .slice A2 n2 c2, .int .i64 i3, .int .i64 i4, .slice A5 n5 c5, .int .i64 i6, .int .i64 i7] 41 (0, 0)
abbrev c8_ (i0 : Int) (i1 : Int) (i2 : Int) (i3 : Int) (i4 : Int) (i5 : Int) (i6 : Int) (i7 : Int) : Obj := .cells #[.int .i64 i0, .int .i64 i1, .int .i64 i2, .int .i64 i3, .int .i64 i4, .int .i64 i5, .int .i64 i6, .int .i64 i7] 58 (0, 0)
abbrev c9_ (i0 : Int) (i1 : Int) (i2 : Int) (i3 : Int) (i4 : Int) : Obj := .cells #[.int .i64 i0, .int .i64 i1, .int .i64 i2, .int .i64 i3, .int .i64 i4] 56 (0, 0)
theorem f10_ {W : World} {g : Nat} {a : Addr} {o0 o1 o2 o3 o4 o5 o6 o7 : Nat} {u0 u1 u2 u3 u4 u5 u6 u7 : Value} {v : Option Value} (e : W.cell? a = v) (h : a.block ≠ g) : World.cell? (World.setCell (World.setCell (World.setCell (World.setCell (World.setCell (World.setCell (World.setCell (World.setCell W ⟨g, o0, none⟩ u0) ⟨g, o1, none⟩ u1) ⟨g, o2, none⟩ u2) ⟨g, o3, none⟩ u3) ⟨g, o4, none⟩ u4) ⟨g, o5, none⟩ u5) ⟨g, o6, none⟩ u6) ⟨g, o7, none⟩ u7) a = v := ((cell_far (p := ⟨g, o7, none⟩) h u7).trans ((cell_far (p := ⟨g, o6, none⟩) h u6).trans ((cell_far (p := ⟨g, o5, none⟩) h u5).trans ((cell_far (p := ⟨g, o4, none⟩) h u4).trans ((cell_far (p := ⟨g, o3, none⟩) h u3).trans ((cell_far (p := ⟨g, o2, none⟩) h u2).trans ((cell_far (p := ⟨g, o1, none⟩) h u1).trans ((cell_far (p := ⟨g, o0, none⟩) h u0).trans e))))))))
theorem q1m_ {w W : World} {g : Nat} {i0 : Int} {i1 : Int} {A2 : Option Addr} {n2 c2 : Nat} {i3 : Int} {i4 : Int} {A5 : Option Addr} {n5 c5 : Nat} {i6 : Int} {i7 : Int} {R R' : Prop} (f : ∀ {i : Nat} {u : Value}, w.cell? ⟨g, i, none⟩ = some u → W.cell? ⟨g, i, none⟩ = some u) (r : R → R') (h : q1_ w g i0 i1 A2 n2 c2 i3 i4 A5 n5 c5 i6 i7 R) : q1_ W g i0 i1 A2 n2 c2 i3 i4 A5 n5 c5 i6 i7 R' := ⟨f h.1, f h.2.1, f h.2.2.1, f h.2.2.2.1, f h.2.2.2.2.1, f h.2.2.2.2.2.1, f h.2.2.2.2.2.2.1, f h.2.2.2.2.2.2.2.1, r h.2.2.2.2.2.2.2.2⟩
theorem q1em_ {w W : World} {g : Nat} {i0 : Int} {i1 : Int} {A2 : Option Addr} {n2 c2 : Nat} {i3 : Int} {i4 : Int} {A5 : Option Addr} {n5 c5 : Nat} {i6 : Int} {i7 : Int} (f : ∀ {i : Nat} {u : Value}, w.cell? ⟨g, i, none⟩ = some u → W.cell? ⟨g, i, none⟩ = some u) (h : q1e_ w g i0 i1 A2 n2 c2 i3 i4 A5 n5 c5 i6 i7) : q1e_ W g i0 i1 A2 n2 c2 i3 i4 A5 n5 c5 i6 i7 := ⟨f (h.1), f (h.2.1), f (h.2.2.1), f (h.2.2.2.1), f (h.2.2.2.2.1), f (h.2.2.2.2.2.1), f (h.2.2.2.2.2.2.1), f (h.2.2.2.2.2.2.2)⟩
theorem q3m_ {w W : World} {g : Nat} {i0 : Int} {i1 : Int} {i2 : Int} {i3 : Int} {i4 : Int} {i5 : Int} {i6 : Int} {i7 : Int} {R R' : Prop} (f : ∀ {i : Nat} {u : Value}, w.cell? ⟨g, i, none⟩ = some u → W.cell? ⟨g, i, none⟩ = some u) (r : R → R') (h : q3_ w g i0 i1 i2 i3 i4 i5 i6 i7 R) : q3_ W g i0 i1 i2 i3 i4 i5 i6 i7 R' := ⟨f h.1, f h.2.1, f h.2.2.1, f h.2.2.2.1, f h.2.2.2.2.1, f h.2.2.2.2.2.1, f h.2.2.2.2.2.2.1, f h.2.2.2.2.2.2.2.1, r h.2.2.2.2.2.2.2.2⟩
theorem q3em_ {w W : World} {g : Nat} {i0 : Int} {i1 : Int} {i2 : Int} {i3 : Int} {i4 : Int} {i5 : Int} {i6 : Int} {i7 : Int} (f : ∀ {i : Nat} {u : Value}, w.cell? ⟨g, i, none⟩ = some u → W.cell? ⟨g, i, none⟩ = some u) (h : q3e_ w g i0 i1 i2 i3 i4 i5 i6 i7) : q3e_ W g i0 i1 i2 i3 i4 i5 i6 i7 := ⟨f (h.1), f (h.2.1), f (h.2.2.1), f (h.2.2.2.1), f (h.2.2.2.2.1), f (h.2.2.2.2.2.1), f (h.2.2.2.2.2.2.1), f (h.2.2.2.2.2.2.2)⟩
theorem y6_ {P : Prop} (h : P := by rw [hg]; exact (below_size (hd_ HB.1))) : P := h
theorem y29_ {P : Prop} (h : P := by repeat (first | exact Drawn0.refl _ | apply Drawn0.step)) : P := h
theorem y59_ {P : Prop} (h : P := by rw [hg]; exact Nat.ne_of_lt (blk_lt (bd_ BK144.1))) : P := h
theorem y60_ {P : Prop} (h : P := by rw [hg]; exact Nat.ne_of_gt (blk_lt (bd_ BK144.1))) : P := h
theorem y62_ {P : Prop} (h : P := by rw [hg]; exact Nat.ne_of_lt (blk_lt (bd_ BK145.1))) : P := h
theorem y63_ {P : Prop} (h : P := by rw [hg]; exact Nat.ne_of_gt (blk_lt (bd_ BK145.1))) : P := h
theorem y66_ {P : Prop} (h : P := by rw [hg]; exact Nat.ne_of_lt (blk_lt (bd_ BK146.1))) : P := h
theorem y67_ {P : Prop} (h : P := by rw [hg]; exact Nat.ne_of_gt (blk_lt (bd_ BK146.1))) : P := h
theorem y73e_ {P : Prop} (h : P := by rw [hg]; exact (below_size wb_)) : P := h
theorem y73_ {P : Prop} (h : P := by rw [hg]; exact (below_size wB_)) : P := h
theorem y83_ {P : Prop} (h : P := by rw [hg]; exact Nat.ne_of_lt (blk_lt (bd_ BK158.1))) : P := h
theorem y84_ {P : Prop} (h : P := by rw [hg]; exact Nat.ne_of_gt (blk_lt (bd_ BK158.1))) : P := h
theorem y89_ {P : Prop} (h : P := by rw [hg]; exact Nat.ne_of_lt (blk_lt (bd_ BK159.1))) : P := h
theorem y90_ {P : Prop} (h : P := by rw [hg]; exact Nat.ne_of_gt (blk_lt (bd_ BK159.1))) : P := h
theorem y94_ {P : Prop} (h : P := by rw [hg]; exact Nat.ne_of_lt (blk_lt (bd_ BK160.1))) : P := h
theorem y95_ {P : Prop} (h : P := by rw [hg]; exact Nat.ne_of_gt (blk_lt (bd_ BK160.1))) : P := h
theorem y110_ {P : Prop} (h : P := by rw [hg]; exact Nat.ne_of_lt (blk_lt (bd_ BK165.1))) : P := h
theorem y111_ {P : Prop} (h : P := by rw [hg]; exact Nat.ne_of_gt (blk_lt (bd_ BK165.1))) : P := h
theorem y114_ {P : Prop} (h : P := by rw [hg]; exact Nat.ne_of_lt (blk_lt (bd_ BK166.1))) : P := h
theorem y115_ {P : Prop} (h : P := by rw [hg]; exact Nat.ne_of_gt (blk_lt (bd_ BK166.1))) : P := h
theorem y147_ {P : Prop} (h : P := by rw [hg]; exact Nat.ne_of_lt (blk_lt (bd_ BK200.1))) : P := h
theorem y148_ {P : Prop} (h : P := by rw [hg]; exact Nat.ne_of_gt (blk_lt (bd_ BK200.1))) : P := h
theorem y152_ {P : Prop} (h : P := by first | rfl | (simp; done) | (simp [*]; done)) : P := h
theorem y185_ {P : Prop} (h : P := by rw [hg]; exact (below_size (hd_ HBW.1))) : P := h
theorem y220_ {P : Prop} (h : P := by rw [hg]; exact Nat.ne_of_lt (IsS102.lt (show IsS102 w0 _ g s0_0 t346 t347 from wI_))) : P := h
theorem y221_ {P : Prop} (h : P := by rw [hg]; exact Nat.ne_of_gt (IsS102.lt (show IsS102 w0 _ g s0_0 t346 t347 from wI_))) : P := h
theorem y222_ {P : Prop} (h : P := by rw [hg]; exact Nat.ne_of_lt (IsS102.lt (show IsS102 w0 _ g s0_0 s0_1 s0_2 from wI_))) : P := h
theorem y223_ {P : Prop} (h : P := by rw [hg]; exact Nat.ne_of_gt (IsS102.lt (show IsS102 w0 _ g s0_0 s0_1 s0_2 from wI_))) : P := h
theorem y232_ {P : Prop} (h : P := by rw [hg]; exact (keep_size (w := w) (g := g) (row := none) wK_)) : P := h
theorem y234_ {P : Prop} (h : P := by rw [hg]; exact Nat.ne_of_lt (blk_lt (bd_ BK337.1))) : P := h
theorem y235_ {P : Prop} (h : P := by rw [hg]; exact Nat.ne_of_gt (blk_lt (bd_ BK337.1))) : P := h
theorem y284_ {P : Prop} (h : P := by rw [hg]; exact Nat.ne_of_lt (IsS102.lt (show IsS102 w0 _ g s0_0 t433 t434 from wI_))) : P := h
theorem y285_ {P : Prop} (h : P := by rw [hg]; exact Nat.ne_of_gt (IsS102.lt (show IsS102 w0 _ g s0_0 t433 t434 from wI_))) : P := h
theorem y299_ {P : Prop} (h : P := by rw [hg]; exact Nat.ne_of_lt (blk_lt (bd_ BK423.1))) : P := h
theorem y300_ {P : Prop} (h : P := by rw [hg]; exact Nat.ne_of_gt (blk_lt (bd_ BK423.1))) : P := h
theorem y309_ {P : Prop} (h : P := by rw [hg]; exact Nat.ne_of_lt (blk_lt (bd_ BK424.1))) : P := h
theorem y310_ {P : Prop} (h : P := by rw [hg]; exact Nat.ne_of_gt (blk_lt (bd_ BK424.1))) : P := h
theorem y326_ {P : Prop} (h : P := by first | (rw [add_block]; exact hn504_0) | (show (Addr.add _ _).block ≠ _; rw [add_block]; exact hn504_0) | exact hn504_0) : P := h
theorem y327_ {P : Prop} (h : P := by first | (rw [add_block]; exact hn504_1) | (show (Addr.add _ _).block ≠ _; rw [add_block]; exact hn504_1) | exact hn504_1) : P := h
theorem y328_ {P : Prop} (h : P := by first | (rw [add_block]; exact hn504_2) | (show (Addr.add _ _).block ≠ _; rw [add_block]; exact hn504_2) | exact hn504_2) : P := h
theorem y329_ {P : Prop} (h : P := by first | (rw [add_block]; exact hn504_3) | (show (Addr.add _ _).block ≠ _; rw [add_block]; exact hn504_3) | exact hn504_3) : P := h
theorem y330_ {P : Prop} (h : P := by first | (rw [add_block]; exact hn504_4) | (show (Addr.add _ _).block ≠ _; rw [add_block]; exact hn504_4) | exact hn504_4) : P := h
theorem y331_ {P : Prop} (h : P := by first | (rw [add_block]; exact hn504_5) | (show (Addr.add _ _).block ≠ _; rw [add_block]; exact hn504_5) | exact hn504_5) : P := h
theorem y332_ {P : Prop} (h : P := by first | (rw [add_block]; exact hn504_6) | (show (Addr.add _ _).block ≠ _; rw [add_block]; exact hn504_6) | exact hn504_6) : P := h
theorem y333_ {P : Prop} (h : P := by first | (rw [add_block]; exact hn504_7) | (show (Addr.add _ _).block ≠ _; rw [add_block]; exact hn504_7) | exact hn504_7) : P := h
theorem y366_ {P : Prop} (h : P := by rw [hg]; exact Nat.ne_of_lt (IsS102.lt (show IsS102 w0 _ g s0_0 t568 t569 from wI_))) : P := h
theorem y367_ {P : Prop} (h : P := by rw [hg]; exact Nat.ne_of_gt (IsS102.lt (show IsS102 w0 _ g s0_0 t568 t569 from wI_))) : P := h
theorem y380_ {P : Prop} (h : P := by rw [hg]; exact Nat.ne_of_lt (blk_lt (bd_ BK565.1))) : P := h
theorem y381_ {P : Prop} (h : P := by rw [hg]; exact Nat.ne_of_gt (blk_lt (bd_ BK565.1))) : P := h
theorem y393_ {P : Prop} (h : P := by rw [hg]; exact Nat.ne_of_lt (IsS102.lt (show IsS102 w0 _ g s0_0 t599 t600 from wI_))) : P := h
theorem y394_ {P : Prop} (h : P := by rw [hg]; exact Nat.ne_of_gt (IsS102.lt (show IsS102 w0 _ g s0_0 t599 t600 from wI_))) : P := h
theorem y407_ {P : Prop} (h : P := by rw [hg]; exact Nat.ne_of_lt (blk_lt (bd_ BK583.1))) : P := h
theorem y408_ {P : Prop} (h : P := by rw [hg]; exact Nat.ne_of_gt (blk_lt (bd_ BK583.1))) : P := h
theorem y449_ {P : Prop} (h : P := by rw [hg]; exact Nat.ne_of_lt (IsS102.lt (show IsS102 w _ g664 t661 t677 t678 from by exact wJ_ HI664.1))) : P := h
theorem y450_ {P : Prop} (h : P := by rw [hg]; exact Nat.ne_of_gt (IsS102.lt (show IsS102 w _ g664 t661 t677 t678 from by exact wJ_ HI664.1))) : P := h
theorem y451_ {P : Prop} (h : P := by rw [hg]; exact Nat.ne_of_lt (blk_lt (bd_ BK659.1))) : P := h
theorem y452_ {P : Prop} (h : P := by rw [hg]; exact Nat.ne_of_gt (blk_lt (bd_ BK659.1))) : P := h
theorem y460_ {P : Prop} (h : P := by rw [hg]; exact Nat.ne_of_lt (blk_lt (bd_ BK660.1))) : P := h
theorem y461_ {P : Prop} (h : P := by rw [hg]; exact Nat.ne_of_gt (blk_lt (bd_ BK660.1))) : P := h
theorem y490_ {P : Prop} (h : P := by rw [hg]; exact Nat.ne_of_lt (blk_lt (bd_ BK716.1))) : P := h
theorem y491_ {P : Prop} (h : P := by rw [hg]; exact Nat.ne_of_gt (blk_lt (bd_ BK716.1))) : P := h
theorem y492_ {P : Prop} (h : P := by rw [hg]; exact Nat.ne_of_lt (blk_lt (bd_ BK717.1))) : P := h
theorem y493_ {P : Prop} (h : P := by rw [hg]; exact Nat.ne_of_gt (blk_lt (bd_ BK717.1))) : P := h
theorem y506_ {P : Prop} (h : P := by (with_reducible repeat (first | apply Kd.S_alloc | apply Kd.S_drewN | apply Kd.S_drew)); exact HO_3.1) : P := h
theorem y532_ {P : Prop} (h : P := by first | (rw [add_block]; exact Kd.own_blk (IsS102.own_neN HI886.1 HO_5.1 (by decide))) | (show (Addr.add _ _).block ≠ _; rw [add_block]; exact Kd.own_blk (IsS102.own_neN HI886.1 HO_5.1 (by decide))) | exact Kd.own_blk (IsS102.own_neN HI886.1 HO_5.1 (by decide))) : P := h
theorem y535_ {P : Prop} (h : P := by have h_ := Kd.N_away HO_5.1 (fun _ hk => hk.2.1); intro e_; exact h_ (by rw [e_]; rfl)) : P := h
theorem y541_ {P : Prop} (h : P := by (with_reducible repeat (first | apply Kd.N_alloc | apply Kd.N_drewN | apply Kd.N_drew)); exact HO_5.1) : P := h
theorem y575_ {P : Prop} (h : P := by (with_reducible repeat (first | apply Kd.N_alloc | apply Kd.N_drewN | apply Kd.N_drew)); exact HO_12.1) : P := h
theorem wb_ {P : Prop} (h : P := by repeat (first | (with_reducible first | exact HB.1 | apply below_alloc | apply pw_below_drewN | apply below_drew1 | refine below_set ?_ (Aside0.out (by assumption))) | exact HB.1)) : P := h
theorem wk_ {P : Prop} (h : P := by repeat (first | (with_reducible first | exact HK.1 | apply KeepBut.set_ | apply keep_drewN | apply keep_drew | apply keep_alloc | refine keep_far (w := w) ?_ (Aside0.out (by assumption)) _) | exact HK.1)) : P := h
theorem blk_fin {w : World} {g : Nat} {t : TypeId} {cs cs' : Array Value} (h : w.heap[g]? = some (.cells cs t (0, 0))) (e : cs = cs') : w.heap[g]? = some (.cells cs' t (0, 0)) := e ▸ h
theorem blk_put2 {w : World} {g : Nat} {t : TypeId} {cs : Array Value} (h : w.heap[g]? = some (.cells cs t (0, 0))) (i : Nat) (u : Value) : (w.setCell ⟨g, i, none⟩ u).heap[g]? = some (.cells (cs.setIfInBounds i u) t (0, 0)) := blk_put h i u rfl
/-- What a block holds behind stores: into itself, into others, beside draws and new ones. -/
theorem bk_ {Q P : Prop} (e : Q) (h : Q → P := by intro h_; apply blk_fin; (with_reducible repeat (first | exact h_ | apply blk_drewN | apply blk_drew | apply blk_alloc | apply blk_put2 | apply blk_far)); all_goals (first | (with_reducible exact Aside0.out (by assumption)) | (with_reducible rfl) | (simp only [List.setIfInBounds_toArray, List.set_cons_zero, List.set_cons_succ]; done) | rfl)) : P := h e
theorem R2_ {α : Type} {d : Kd α} {e base : Nat} {ok : Nat → Prop} {w : World} {v : Value} {xs : List α} (h : d.R e w base ok v xs) {g t : Nat} {cells : Array Value} (hb : w.heap[g]? = some (.cells cells t (0, 0))) (ht : ∀ q, q ∈ e :: d.E → q ≠ t := by decide) : d.R e w base (fun k => ok k ∧ k ≠ g) v xs := Kd.R_types h hb ht
/-- A row behind stores into blocks that are none of its own. -/
theorem rf_ {α : Type} {d : Kd α} {e base : Nat} {ok ok' : Nat → Prop} {w W : World} {v : Value} {xs : List α} (h : d.R e w base ok v xs) (m : ∀ k, ok k → ok' k) (s : d.R e w base ok v xs → d.R e W base ok v xs := by intro h_; (with_reducible repeat (first | exact h_ | apply Kd.R_alloc | apply Kd.R_drewN | apply Kd.R_drew | apply Kd.R_far)); all_goals (first | exact fun _ hk => hk.2 | exact fun _ hk => hk.1.2 | exact fun _ hk => hk.1.1.2 | exact fun _ hk => hk.1.1.1.2)) : d.R e W base ok' v xs := Kd.R_mono (s h) m
theorem o_ {p : Prop} (h : p) : Aside0 p := ⟨h⟩
theorem ob_ {α β : Type} {m : Option α} {f : α → Option β} {b : β} (h : m.bind f = some b) : ∃ a, Aside0 (m = some a) ∧ f a = some b := let ⟨a, h1, h2⟩ := Option.bind_eq_some_iff.mp h; ⟨a, ⟨h1⟩, h2⟩
theorem hy_ {P Q : Prop} {α : Type} {y v : α} (H : Q) (e : y = v) (k : y = v → Q → P := by intro e_ H_; first | (rw [e_]; with_reducible exact H_) | (have H2_ := (Option.bind_some _ _).symm.trans H_; rw [e_]; with_reducible exact H2_) | (have H2_ := (Option.bind_some _ _).symm.trans H_; with_reducible exact H2_) | with_reducible exact H_ | (rw [e_]; exact H_) | exact H_) : P := k e H
theorem nt_ : ¬ (false = true) := by decide
theorem g_ {P : Program} {ops : Array Oper} {Q : Exit → Act → World → Prop} {rest : List Oper} {oi : Oper} {a : Act} {W : World} {as1 : Array Operand} {ts : Array TypeId} (f : FuncId) (h : wpList P ops Q (oi :: rest) a W) (ho : oi.op = .call { callee := .value (.func f), args := as1, argTypes := ts } := by with_reducible rfl) : wpList P ops Q (oi :: rest) a W := h
theorem gl_ {P : Program} {ops : Array Oper} {Q : Exit → Act → World → Prop} {rest : List Oper} {oi : Oper} {a : Act} {w : World} (N : Option Tmp) {f : FuncId} {fn : Func} {as1 : Array Operand} {ts : Array TypeId} (hf : P.funcs[f]? = some fn) (args : Array Value)
    (h : Calls P f args w fun e w' => ∃ v, e = .returned v ∧ wpList P ops Q rest (a.put N v) w') (hop : oi.op = .call { callee := .value (.func f), args := as1, argTypes := ts } := by with_reducible rfl)
    (hd : oi.dst = N := by rfl) (hg : oi.guard = none := by rfl) (hname : (fn.name == "runtime.NumGoroutine") = false := by kernel_rfl) (hb : fn.body.isSome = true := by rfl)
    (hargs : as1.map a.eval = args := by (try simp only [List.map_toArray, List.map_cons, List.map_nil]); first | done | rfl | (simp only [List.length_drop, List.length_take]; rfl)) : wpList P ops Q (oi :: rest) a w :=
  goesL_ N hd hg hf hname hb args hop hargs h
end Go.Proofs.Ytglpmjcknhcjcaa.PFnTwins
