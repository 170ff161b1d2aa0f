-- Written for this claim by a program (a printer turned to this claim); Lean checks it.
import Derived.Test.YtihnanfekchlhaaDoorProg
import Derived.Below
import Derived.Deep.Draws
import Derived.Deep.AppendLies
import Derived.Maps.AppendAt
import Derived.OwnWalk
import Derived.Laws.BytesArg
import Derived.Laws.MakeOwn
import Derived.Laws.OwnMore
import Derived.Deep.OwnRows
import Derived.Tactics
import Derived.Lib.ConvBytes
import Derived.Laws.Slices
import Derived.WalkKit
import Derived.KernelRfl
import Derived.RowKit3
import Derived.Deep.LoopGhost
import Derived.Deep.QuietTactic
import Derived.BigQuiet
import Derived.WideLaws
import Derived.Deep.DeepCutAuto
import Derived.Deep.CutBlock
import Derived.Deep.RegionHeld3
import Derived.Laws.Rows
import Derived.Lib.AppendStr
import Derived.ArgAppend
import Derived.Laws.IdiomCopy
import Derived.OrdersHeld
import Derived.Laws.BitsLemmas
import Derived.RowKit
import Derived.Shelf.Abstract
import Derived.Lib.SliceRun
import Derived.Deep.RegionLaw
import Derived.Test.YtihnanfekchlhaaDoorWWords
import Derived.Test.YtihnanfekchlhaaDoorWLast
import Derived.Test.YtihnanfekchlhaaDoorWTab
import Derived.Test.YtihnanfekchlhaaDoorWFour
import Derived.Test.YtihnanfekchlhaaDoorWQPut
import Derived.Test.YtihnanfekchlhaaDoorWApart
import Derived.Test.YtihnanfekchlhaaDoorWArr
import Derived.Test.YtihnanfekchlhaaDoorWZeros
import Derived.Test.YtihnanfekchlhaaDoorWFoot
import Derived.Test.YtihnanfekchlhaaDoorWKept
import Derived.Test.YtihnanfekchlhaaDoorWShare
import Derived.Test.YtihnanfekchlhaaDoorWN
import Derived.Test.YtihnanfekchlhaaDoorWFootNe
import Derived.Test.YtihnanfekchlhaaDoorWAt
import Derived.Test.YtihnanfekchlhaaDoorWEqStruct
import Derived.Test.YtihnanfekchlhaaDoorWRepsOne
import Derived.Test.YtihnanfekchlhaaDoorWInv
import Derived.Test.YtihnanfekchlhaaDoorWInvWords
import Derived.Test.YtihnanfekchlhaaDoorWGuard
import Derived.Test.YtihnanfekchlhaaDoorWNEv
import Derived.Test.YtihnanfekchlhaaDoorWMore
import Derived.Test.YtihnanfekchlhaaDoorEvLib
import Derived.Test.YtihnanfekchlhaaDoorSml
import Derived.Test.YtihnanfekchlhaaDoorItm
namespace Go.Proofs.YtihnanfekchlhaaDoor.PFnForms
open Go.RowKit Go.Proofs.YtihnanfekchlhaaDoorW.PrintWords Go.Proofs.YtihnanfekchlhaaDoorW.PrintLast Go.Proofs.YtihnanfekchlhaaDoorW.PrintMore
attribute [local go_sem] max2_int min2_int max_two min_two max_three min_three max_four min_four   -- for this text's walks alone
set_option linter.unusedVariables false
set_option linter.unusedSimpArgs false



def errW : Option Int → Value
  | none => .nilIface
  | some c => .iface 0 (.int .i64 c)
theorem errW_none : errW none = .nilIface := rfl
theorem errW_some (c : Int) : errW (some c) = .iface 0 (.int .i64 c) := rfl

theorem info3 : (Tryd.prog.info? 3).map (fun i => (i.zero, i.size, i.bytes)) = some (some (.int .i64 0), 1, 8) := by kernel_rfl
theorem info5 : (Tryd.prog.info? 5).map (fun i => (i.zero, i.size, i.bytes)) = some (some (.int .u8 0), 1, 1) := by kernel_rfl
theorem info9 : (Tryd.prog.info? 9).map (fun i => (i.zero, i.size, i.bytes)) = some (some (.string ⟨#[]⟩), 1, 16) := by kernel_rfl
theorem info44 : (Tryd.prog.info? 44).map (fun i => (i.zero, i.size, i.bytes)) = some (some (.agg #[(.int .i64 0), (.int .i64 0), (.int .i64 0), (.int .i64 0), (.int .i64 0), (.int .i64 0), (.int .i64 0), (.int .i64 0)]), 8, 64) := by kernel_rfl
-- the values' own types
/-! #### struct type 42 -/
structure S42 where
  f0 : Int
  f1 : Int
  f2 : Int
  f3 : Int
  f4 : Int
def z42 : S42 := ⟨(0 : Int), (0 : Int), (0 : Int), (0 : Int), (0 : Int)⟩
def k42 : Kd S42 := Kd.iso (Kd.pair (Kd.int .i64) (Kd.pair (Kd.int .i64) (Kd.pair (Kd.int .i64) (Kd.pair (Kd.int .i64) (Kd.int .i64))))) (fun x : S42 => (x.f0, x.f1, x.f2, x.f3, x.f4))
theorem k42_open {w : World} {x : S42} {cs : List Value} (h : k42.K w x cs) : cs = [.int .i64 x.f0, .int .i64 x.f1, .int .i64 x.f2, .int .i64 x.f3, .int .i64 x.f4] := by
  obtain ⟨_, _, rfl, rfl, ⟨_, _, rfl, rfl, ⟨_, _, rfl, rfl, ⟨_, _, rfl, rfl, rfl⟩⟩⟩⟩ := h
  exact rfl
theorem k42_openM {w : World} {base : Nat} {ok : Nat → Prop} {x : S42} {cs : List Value} (h : k42.M w base ok x cs) : cs = [.int .i64 x.f0, .int .i64 x.f1, .int .i64 x.f2, .int .i64 x.f3, .int .i64 x.f4] := by
  obtain ⟨_, _, rfl, rfl, ⟨_, _, rfl, rfl, ⟨_, _, rfl, rfl, ⟨_, _, rfl, rfl, rfl⟩⟩⟩⟩ := h
  exact rfl
theorem k42_mk (w : World) (x : S42)  : k42.K w x [.int .i64 x.f0, .int .i64 x.f1, .int .i64 x.f2, .int .i64 x.f3, .int .i64 x.f4] := ⟨[.int .i64 x.f0], [.int .i64 x.f1, .int .i64 x.f2, .int .i64 x.f3, .int .i64 x.f4], rfl, rfl, ⟨[.int .i64 x.f1], [.int .i64 x.f2, .int .i64 x.f3, .int .i64 x.f4], rfl, rfl, ⟨[.int .i64 x.f2], [.int .i64 x.f3, .int .i64 x.f4], rfl, rfl, ⟨[.int .i64 x.f3], [.int .i64 x.f4], rfl, rfl, rfl⟩⟩⟩⟩
theorem k42_mkM (w : World) (base : Nat) (ok : Nat → Prop) (x : S42)  : k42.M w base ok x [.int .i64 x.f0, .int .i64 x.f1, .int .i64 x.f2, .int .i64 x.f3, .int .i64 x.f4] := ⟨[.int .i64 x.f0], [.int .i64 x.f1, .int .i64 x.f2, .int .i64 x.f3, .int .i64 x.f4], rfl, rfl, ⟨[.int .i64 x.f1], [.int .i64 x.f2, .int .i64 x.f3, .int .i64 x.f4], rfl, rfl, ⟨[.int .i64 x.f2], [.int .i64 x.f3, .int .i64 x.f4], rfl, rfl, ⟨[.int .i64 x.f3], [.int .i64 x.f4], rfl, rfl, rfl⟩⟩⟩⟩
def rd_T42 (xs : List S42) (i : Int) : S42 := xs.getD i.toNat z42
theorem at_T42 {w : World} {A : Option Addr} {n : Nat} {xs : List S42} (h : Kd.C k42 w A n xs) (i : Int) (h0 : 0 ≤ i) (h1 : i < n) : ∃ ad , A = some ad ∧ w.cell? (ad.add (i.toNat * 5)) = some (.int .i64 (rd_T42 xs i).f0) ∧ w.cell? ⟨(ad.add (i.toNat * 5)).block, (ad.add (i.toNat * 5)).off + 1, none⟩ = some (.int .i64 (rd_T42 xs i).f1) ∧ w.cell? ⟨(ad.add (i.toNat * 5)).block, (ad.add (i.toNat * 5)).off + 2, none⟩ = some (.int .i64 (rd_T42 xs i).f2) ∧ w.cell? ⟨(ad.add (i.toNat * 5)).block, (ad.add (i.toNat * 5)).off + 3, none⟩ = some (.int .i64 (rd_T42 xs i).f3) ∧ w.cell? ⟨(ad.add (i.toNat * 5)).block, (ad.add (i.toNat * 5)).off + 4, none⟩ = some (.int .i64 (rd_T42 xs i).f4) := by
  obtain ⟨ad, c, e, _, hK, hc0⟩ := Kd.C_get h z42 i h0 h1
  have hc : ∀ j u, c[j]? = some u → w.cell? (ad.add (i.toNat * 5 + j)) = some u := hc0
  obtain rfl := k42_open hK
  exact ⟨ad, e, hc 0 _ rfl, by rw [← add_field _ _ 1 (by omega)]; exact hc 1 _ rfl, by rw [← add_field _ _ 2 (by omega)]; exact hc 2 _ rfl, by rw [← add_field _ _ 3 (by omega)]; exact hc 3 _ rfl, by rw [← add_field _ _ 4 (by omega)]; exact hc 4 _ rfl⟩

/-! #### struct type 44 -/
structure S44 where
  f0 : S42
  f1 : Int
  f2 : Int
  f3 : Int
def z44 : S44 := ⟨z42, (0 : Int), (0 : Int), (0 : Int)⟩
def k44 : Kd S44 := Kd.iso (Kd.pair k42 (Kd.pair (Kd.int .i64) (Kd.pair (Kd.int .i64) (Kd.int .i64)))) (fun x : S44 => (x.f0, x.f1, x.f2, x.f3))
theorem k44_open {w : World} {x : S44} {cs : List Value} (h : k44.K w x cs) : cs = [.int .i64 x.f0.f0, .int .i64 x.f0.f1, .int .i64 x.f0.f2, .int .i64 x.f0.f3, .int .i64 x.f0.f4, .int .i64 x.f1, .int .i64 x.f2, .int .i64 x.f3] := by
  obtain ⟨_, _, rfl, s0, ⟨_, _, rfl, rfl, ⟨_, _, rfl, rfl, rfl⟩⟩⟩ := h
  obtain rfl := k42_open s0
  exact rfl
theorem k44_openM {w : World} {base : Nat} {ok : Nat → Prop} {x : S44} {cs : List Value} (h : k44.M w base ok x cs) : cs = [.int .i64 x.f0.f0, .int .i64 x.f0.f1, .int .i64 x.f0.f2, .int .i64 x.f0.f3, .int .i64 x.f0.f4, .int .i64 x.f1, .int .i64 x.f2, .int .i64 x.f3] := by
  obtain ⟨_, _, rfl, s0, ⟨_, _, rfl, rfl, ⟨_, _, rfl, rfl, rfl⟩⟩⟩ := h
  obtain rfl := k42_openM s0
  exact rfl
theorem k44_mk (w : World) (x : S44)  : k44.K w x [.int .i64 x.f0.f0, .int .i64 x.f0.f1, .int .i64 x.f0.f2, .int .i64 x.f0.f3, .int .i64 x.f0.f4, .int .i64 x.f1, .int .i64 x.f2, .int .i64 x.f3] := ⟨[.int .i64 x.f0.f0, .int .i64 x.f0.f1, .int .i64 x.f0.f2, .int .i64 x.f0.f3, .int .i64 x.f0.f4], [.int .i64 x.f1, .int .i64 x.f2, .int .i64 x.f3], rfl, (k42_mk w x.f0 ), ⟨[.int .i64 x.f1], [.int .i64 x.f2, .int .i64 x.f3], rfl, rfl, ⟨[.int .i64 x.f2], [.int .i64 x.f3], rfl, rfl, rfl⟩⟩⟩
theorem k44_mkM (w : World) (base : Nat) (ok : Nat → Prop) (x : S44)  : k44.M w base ok x [.int .i64 x.f0.f0, .int .i64 x.f0.f1, .int .i64 x.f0.f2, .int .i64 x.f0.f3, .int .i64 x.f0.f4, .int .i64 x.f1, .int .i64 x.f2, .int .i64 x.f3] := ⟨[.int .i64 x.f0.f0, .int .i64 x.f0.f1, .int .i64 x.f0.f2, .int .i64 x.f0.f3, .int .i64 x.f0.f4], [.int .i64 x.f1, .int .i64 x.f2, .int .i64 x.f3], rfl, (k42_mkM w base ok x.f0 ), ⟨[.int .i64 x.f1], [.int .i64 x.f2, .int .i64 x.f3], rfl, rfl, ⟨[.int .i64 x.f2], [.int .i64 x.f3], rfl, rfl, rfl⟩⟩⟩
def rd_T44 (xs : List S44) (i : Int) : S44 := xs.getD i.toNat z44
theorem at_T44 {w : World} {A : Option Addr} {n : Nat} {xs : List S44} (h : Kd.C k44 w A n xs) (i : Int) (h0 : 0 ≤ i) (h1 : i < n) : ∃ ad , A = some ad ∧ w.cell? (ad.add (i.toNat * 8)) = some (.int .i64 (rd_T44 xs i).f0.f0) ∧ w.cell? ⟨(ad.add (i.toNat * 8)).block, (ad.add (i.toNat * 8)).off + 1, none⟩ = some (.int .i64 (rd_T44 xs i).f0.f1) ∧ w.cell? ⟨(ad.add (i.toNat * 8)).block, (ad.add (i.toNat * 8)).off + 2, none⟩ = some (.int .i64 (rd_T44 xs i).f0.f2) ∧ w.cell? ⟨(ad.add (i.toNat * 8)).block, (ad.add (i.toNat * 8)).off + 3, none⟩ = some (.int .i64 (rd_T44 xs i).f0.f3) ∧ w.cell? ⟨(ad.add (i.toNat * 8)).block, (ad.add (i.toNat * 8)).off + 4, none⟩ = some (.int .i64 (rd_T44 xs i).f0.f4) ∧ w.cell? ⟨(ad.add (i.toNat * 8)).block, (ad.add (i.toNat * 8)).off + 5, none⟩ = some (.int .i64 (rd_T44 xs i).f1) ∧ w.cell? ⟨(ad.add (i.toNat * 8)).block, (ad.add (i.toNat * 8)).off + 6, none⟩ = some (.int .i64 (rd_T44 xs i).f2) ∧ w.cell? ⟨(ad.add (i.toNat * 8)).block, (ad.add (i.toNat * 8)).off + 7, none⟩ = some (.int .i64 (rd_T44 xs i).f3) := by
  obtain ⟨ad, c, e, _, hK, hc0⟩ := Kd.C_get h z44 i h0 h1
  have hc : ∀ j u, c[j]? = some u → w.cell? (ad.add (i.toNat * 8 + j)) = some u := hc0
  obtain rfl := k44_open hK
  exact ⟨ad, e, hc 0 _ rfl, by rw [← add_field _ _ 1 (by omega)]; exact hc 1 _ rfl, by rw [← add_field _ _ 2 (by omega)]; exact hc 2 _ rfl, by rw [← add_field _ _ 3 (by omega)]; exact hc 3 _ rfl, by rw [← add_field _ _ 4 (by omega)]; exact hc 4 _ rfl, by rw [← add_field _ _ 5 (by omega)]; exact hc 5 _ rfl, by rw [← add_field _ _ 6 (by omega)]; exact hc 6 _ rfl, by rw [← add_field _ _ 7 (by omega)]; exact hc 7 _ rfl⟩

abbrev q1_ (w : World) (g : Nat) (i0 : Int) (i1 : Int) (A2 : Option Addr) (n2 c2 : Nat) (i3 : Int) (i4 : Int) (A5 : Option Addr) (n5 c5 : Nat) (i6 : Int) (i7 : Int) (R : Prop) : Prop := w.cell? ⟨g, 0, none⟩ = some (.int .i64 i0) ∧ w.cell? ⟨g, 1, none⟩ = some (.int .i64 i1) ∧ w.cell? ⟨g, 2, none⟩ = some (.slice A2 n2 c2) ∧ w.cell? ⟨g, 3, none⟩ = some (.int .i64 i3) ∧ w.cell? ⟨g, 4, none⟩ = some (.int .i64 i4) ∧ w.cell? ⟨g, 5, none⟩ = some (.slice A5 n5 c5) ∧ w.cell? ⟨g, 6, none⟩ = some (.int .i64 i6) ∧ w.cell? ⟨g, 7, none⟩ = some (.int .i64 i7) ∧ R
abbrev q1e_ (w : World) (g : Nat) (i0 : Int) (i1 : Int) (A2 : Option Addr) (n2 c2 : Nat) (i3 : Int) (i4 : Int) (A5 : Option Addr) (n5 c5 : Nat) (i6 : Int) (i7 : Int) : Prop := w.cell? ⟨g, 0, none⟩ = some (.int .i64 i0) ∧ w.cell? ⟨g, 1, none⟩ = some (.int .i64 i1) ∧ w.cell? ⟨g, 2, none⟩ = some (.slice A2 n2 c2) ∧ w.cell? ⟨g, 3, none⟩ = some (.int .i64 i3) ∧ w.cell? ⟨g, 4, none⟩ = some (.int .i64 i4) ∧ w.cell? ⟨g, 5, none⟩ = some (.slice A5 n5 c5) ∧ w.cell? ⟨g, 6, none⟩ = some (.int .i64 i6) ∧ w.cell? ⟨g, 7, none⟩ = some (.int .i64 i7)
theorem k1_ {w : World} {g : Nat} {t : TypeId} {cs : Array Value} {R : Prop} {i0 : Int} {i1 : Int} {A2 : Option Addr} {n2 c2 : Nat} {i3 : Int} {i4 : Int} {A5 : Option Addr} {n5 c5 : Nat} {i6 : Int} {i7 : Int} (h : w.heap[g]? = some (.cells cs t (0, 0))) (r : R) (e0 : cs[0]? = some (.int .i64 i0) := by rfl) (e1 : cs[1]? = some (.int .i64 i1) := by rfl) (e2 : cs[2]? = some (.slice A2 n2 c2) := by rfl) (e3 : cs[3]? = some (.int .i64 i3) := by rfl) (e4 : cs[4]? = some (.int .i64 i4) := by rfl) (e5 : cs[5]? = some (.slice A5 n5 c5) := by rfl) (e6 : cs[6]? = some (.int .i64 i6) := by rfl) (e7 : cs[7]? = some (.int .i64 i7) := by rfl) : q1_ w g i0 i1 A2 n2 c2 i3 i4 A5 n5 c5 i6 i7 R := ⟨(blk_cell h 0).trans e0, (blk_cell h 1).trans e1, (blk_cell h 2).trans e2, (blk_cell h 3).trans e3, (blk_cell h 4).trans e4, (blk_cell h 5).trans e5, (blk_cell h 6).trans e6, (blk_cell h 7).trans e7, r⟩
theorem k1e_ {w : World} {g : Nat} {t : TypeId} {cs : Array Value} {i0 : Int} {i1 : Int} {A2 : Option Addr} {n2 c2 : Nat} {i3 : Int} {i4 : Int} {A5 : Option Addr} {n5 c5 : Nat} {i6 : Int} {i7 : Int} (h : w.heap[g]? = some (.cells cs t (0, 0))) (e0 : cs[0]? = some (.int .i64 i0) := by rfl) (e1 : cs[1]? = some (.int .i64 i1) := by rfl) (e2 : cs[2]? = some (.slice A2 n2 c2) := by rfl) (e3 : cs[3]? = some (.int .i64 i3) := by rfl) (e4 : cs[4]? = some (.int .i64 i4) := by rfl) (e5 : cs[5]? = some (.slice A5 n5 c5) := by rfl) (e6 : cs[6]? = some (.int .i64 i6) := by rfl) (e7 : cs[7]? = some (.int .i64 i7) := by rfl) : q1e_ w g i0 i1 A2 n2 c2 i3 i4 A5 n5 c5 i6 i7 := ⟨(blk_cell h 0).trans e0, (blk_cell h 1).trans e1, (blk_cell h 2).trans e2, (blk_cell h 3).trans e3, (blk_cell h 4).trans e4, (blk_cell h 5).trans e5, (blk_cell h 6).trans e6, (blk_cell h 7).trans e7⟩
abbrev q2_ (w : World) (g : Nat) (i0 : Int) (i1 : Int) (i2 : Int) (i3 : Int) (i4 : Int) (R : Prop) : Prop := w.cell? ⟨g, 0, none⟩ = some (.int .i64 i0) ∧ w.cell? ⟨g, 1, none⟩ = some (.int .i64 i1) ∧ w.cell? ⟨g, 2, none⟩ = some (.int .i64 i2) ∧ w.cell? ⟨g, 3, none⟩ = some (.int .i64 i3) ∧ w.cell? ⟨g, 4, none⟩ = some (.int .i64 i4) ∧ R
abbrev q2e_ (w : World) (g : Nat) (i0 : Int) (i1 : Int) (i2 : Int) (i3 : Int) (i4 : Int) : Prop := w.cell? ⟨g, 0, none⟩ = some (.int .i64 i0) ∧ w.cell? ⟨g, 1, none⟩ = some (.int .i64 i1) ∧ w.cell? ⟨g, 2, none⟩ = some (.int .i64 i2) ∧ w.cell? ⟨g, 3, none⟩ = some (.int .i64 i3) ∧ w.cell? ⟨g, 4, none⟩ = some (.int .i64 i4)
theorem k2_ {w : World} {g : Nat} {t : TypeId} {cs : Array Value} {R : Prop} {i0 : Int} {i1 : Int} {i2 : Int} {i3 : Int} {i4 : Int} (h : w.heap[g]? = some (.cells cs t (0, 0))) (r : R) (e0 : cs[0]? = some (.int .i64 i0) := by rfl) (e1 : cs[1]? = some (.int .i64 i1) := by rfl) (e2 : cs[2]? = some (.int .i64 i2) := by rfl) (e3 : cs[3]? = some (.int .i64 i3) := by rfl) (e4 : cs[4]? = some (.int .i64 i4) := by rfl) : q2_ w g i0 i1 i2 i3 i4 R := ⟨(blk_cell h 0).trans e0, (blk_cell h 1).trans e1, (blk_cell h 2).trans e2, (blk_cell h 3).trans e3, (blk_cell h 4).trans e4, r⟩
theorem k2e_ {w : World} {g : Nat} {t : TypeId} {cs : Array Value} {i0 : Int} {i1 : Int} {i2 : Int} {i3 : Int} {i4 : Int} (h : w.heap[g]? = some (.cells cs t (0, 0))) (e0 : cs[0]? = some (.int .i64 i0) := by rfl) (e1 : cs[1]? = some (.int .i64 i1) := by rfl) (e2 : cs[2]? = some (.int .i64 i2) := by rfl) (e3 : cs[3]? = some (.int .i64 i3) := by rfl) (e4 : cs[4]? = some (.int .i64 i4) := by rfl) : q2e_ w g i0 i1 i2 i3 i4 := ⟨(blk_cell h 0).trans e0, (blk_cell h 1).trans e1, (blk_cell h 2).trans e2, (blk_cell h 3).trans e3, (blk_cell h 4).trans e4⟩
abbrev q3_ (w : World) (g : Nat) (i0 : Int) (i1 : Int) (i2 : Int) (i3 : Int) (i4 : Int) (i5 : Int) (i6 : Int) (i7 : Int) (R : Prop) : Prop := w.cell? ⟨g, 0, none⟩ = some (.int .i64 i0) ∧ w.cell? ⟨g, 1, none⟩ = some (.int .i64 i1) ∧ w.cell? ⟨g, 2, none⟩ = some (.int .i64 i2) ∧ w.cell? ⟨g, 3, none⟩ = some (.int .i64 i3) ∧ w.cell? ⟨g, 4, none⟩ = some (.int .i64 i4) ∧ w.cell? ⟨g, 5, none⟩ = some (.int .i64 i5) ∧ w.cell? ⟨g, 6, none⟩ = some (.int .i64 i6) ∧ w.cell? ⟨g, 7, none⟩ = some (.int .i64 i7) ∧ R
abbrev q3e_ (w : World) (g : Nat) (i0 : Int) (i1 : Int) (i2 : Int) (i3 : Int) (i4 : Int) (i5 : Int) (i6 : Int) (i7 : Int) : Prop := w.cell? ⟨g, 0, none⟩ = some (.int .i64 i0) ∧ w.cell? ⟨g, 1, none⟩ = some (.int .i64 i1) ∧ w.cell? ⟨g, 2, none⟩ = some (.int .i64 i2) ∧ w.cell? ⟨g, 3, none⟩ = some (.int .i64 i3) ∧ w.cell? ⟨g, 4, none⟩ = some (.int .i64 i4) ∧ w.cell? ⟨g, 5, none⟩ = some (.int .i64 i5) ∧ w.cell? ⟨g, 6, none⟩ = some (.int .i64 i6) ∧ w.cell? ⟨g, 7, none⟩ = some (.int .i64 i7)
theorem k3_ {w : World} {g : Nat} {t : TypeId} {cs : Array Value} {R : Prop} {i0 : Int} {i1 : Int} {i2 : Int} {i3 : Int} {i4 : Int} {i5 : Int} {i6 : Int} {i7 : Int} (h : w.heap[g]? = some (.cells cs t (0, 0))) (r : R) (e0 : cs[0]? = some (.int .i64 i0) := by rfl) (e1 : cs[1]? = some (.int .i64 i1) := by rfl) (e2 : cs[2]? = some (.int .i64 i2) := by rfl) (e3 : cs[3]? = some (.int .i64 i3) := by rfl) (e4 : cs[4]? = some (.int .i64 i4) := by rfl) (e5 : cs[5]? = some (.int .i64 i5) := by rfl) (e6 : cs[6]? = some (.int .i64 i6) := by rfl) (e7 : cs[7]? = some (.int .i64 i7) := by rfl) : q3_ w g i0 i1 i2 i3 i4 i5 i6 i7 R := ⟨(blk_cell h 0).trans e0, (blk_cell h 1).trans e1, (blk_cell h 2).trans e2, (blk_cell h 3).trans e3, (blk_cell h 4).trans e4, (blk_cell h 5).trans e5, (blk_cell h 6).trans e6, (blk_cell h 7).trans e7, r⟩
theorem k3e_ {w : World} {g : Nat} {t : TypeId} {cs : Array Value} {i0 : Int} {i1 : Int} {i2 : Int} {i3 : Int} {i4 : Int} {i5 : Int} {i6 : Int} {i7 : Int} (h : w.heap[g]? = some (.cells cs t (0, 0))) (e0 : cs[0]? = some (.int .i64 i0) := by rfl) (e1 : cs[1]? = some (.int .i64 i1) := by rfl) (e2 : cs[2]? = some (.int .i64 i2) := by rfl) (e3 : cs[3]? = some (.int .i64 i3) := by rfl) (e4 : cs[4]? = some (.int .i64 i4) := by rfl) (e5 : cs[5]? = some (.int .i64 i5) := by rfl) (e6 : cs[6]? = some (.int .i64 i6) := by rfl) (e7 : cs[7]? = some (.int .i64 i7) := by rfl) : q3e_ w g i0 i1 i2 i3 i4 i5 i6 i7 := ⟨(blk_cell h 0).trans e0, (blk_cell h 1).trans e1, (blk_cell h 2).trans e2, (blk_cell h 3).trans e3, (blk_cell h 4).trans e4, (blk_cell h 5).trans e5, (blk_cell h 6).trans e6, (blk_cell h 7).trans e7⟩
theorem rt_ {P : Prop} (h : P := by first | rfl | (simp [errW_none, errW_some] <;> rfl) | (simp [*, errW_none, errW_some] <;> rfl)) : P := h
theorem blk_fin {w : World} {g : Nat} {t : TypeId} {cs cs' : Array Value} (h : w.heap[g]? = some (.cells cs t (0, 0))) (e : cs = cs') : w.heap[g]? = some (.cells cs' t (0, 0)) := e ▸ h
theorem blk_put2 {w : World} {g : Nat} {t : TypeId} {cs : Array Value} (h : w.heap[g]? = some (.cells cs t (0, 0))) (i : Nat) (u : Value) : (w.setCell ⟨g, i, none⟩ u).heap[g]? = some (.cells (cs.setIfInBounds i u) t (0, 0)) := blk_put h i u rfl
/-- What a block holds behind stores: into itself, into others, beside draws and new ones. -/
theorem bk_ {Q P : Prop} (e : Q) (h : Q → P := by intro h_; apply blk_fin; (with_reducible repeat (first | exact h_ | apply blk_drewN | apply blk_drew | apply blk_alloc | apply blk_put2 | apply blk_far)); all_goals (first | (with_reducible exact Aside0.out (by assumption)) | (with_reducible rfl) | (simp only [List.setIfInBounds_toArray, List.set_cons_zero, List.set_cons_succ]; done) | rfl)) : P := h e
theorem R2_ {α : Type} {d : Kd α} {e base : Nat} {ok : Nat → Prop} {w : World} {v : Value} {xs : List α} (h : d.R e w base ok v xs) {g t : Nat} {cells : Array Value} (hb : w.heap[g]? = some (.cells cells t (0, 0))) (ht : ∀ q, q ∈ e :: d.E → q ≠ t := by decide) : d.R e w base (fun k => ok k ∧ k ≠ g) v xs := Kd.R_types h hb ht
/-- A row behind stores into blocks that are none of its own. -/
theorem rf_ {α : Type} {d : Kd α} {e base : Nat} {ok ok' : Nat → Prop} {w W : World} {v : Value} {xs : List α} (h : d.R e w base ok v xs) (m : ∀ k, ok k → ok' k) (s : d.R e w base ok v xs → d.R e W base ok v xs := by intro h_; (with_reducible repeat (first | exact h_ | apply Kd.R_alloc | apply Kd.R_drewN | apply Kd.R_drew | apply Kd.R_far)); all_goals (first | exact fun _ hk => hk.2 | exact fun _ hk => hk.1.2 | exact fun _ hk => hk.1.1.2 | exact fun _ hk => hk.1.1.1.2)) : d.R e W base ok' v xs := Kd.R_mono (s h) m
theorem o_ {p : Prop} (h : p) : Aside0 p := ⟨h⟩
theorem nt_ : ¬ (false = true) := by decide
theorem gl_ {P : Program} {ops : Array Oper} {Q : Exit → Act → World → Prop} {rest : List Oper} {oi : Oper} {a : Act} {w : World} (N : Option Tmp) {f : FuncId} {fn : Func} {as1 : Array Operand} {ts : Array TypeId} (hf : P.funcs[f]? = some fn) (args : Array Value)
    (h : Calls P f args w fun e w' => ∃ v, e = .returned v ∧ wpList P ops Q rest (a.put N v) w') (hop : oi.op = .call { callee := .value (.func f), args := as1, argTypes := ts } := by with_reducible rfl)
    (hd : oi.dst = N := by rfl) (hg : oi.guard = none := by rfl) (hname : (fn.name == "runtime.NumGoroutine") = false := by kernel_rfl) (hb : fn.body.isSome = true := by rfl)
    (hargs : as1.map a.eval = args := by (try simp only [List.map_toArray, List.map_cons, List.map_nil]); first | done | rfl | (simp only [List.length_drop, List.length_take]; rfl)) : wpList P ops Q (oi :: rest) a w :=
  goesL_ N hd hg hf hname hb args hop hargs h
end Go.Proofs.YtihnanfekchlhaaDoor.PFnForms
