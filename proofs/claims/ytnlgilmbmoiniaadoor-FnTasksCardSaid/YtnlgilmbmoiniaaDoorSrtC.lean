import Derived.Test.YtnlgilmbmoiniaaDoorSrk
import Derived.Lib.Small
import Derived.Sort.Grow
import Derived.Test.YtnlgilmbmoiniaaDoorProg
import Derived.Below
import Derived.Deep.Draws
import Derived.Deep.AppendLies
import Derived.Maps.AppendAt
import Derived.OwnWalk
import Derived.Laws.BytesArg
import Derived.Laws.MakeOwn
import Derived.Laws.OwnMore
import Derived.Deep.OwnRows
import Derived.Tactics
import Derived.Lib.ConvBytes
import Derived.Laws.Slices
import Derived.WalkKit
import Derived.KernelRfl
import Derived.RowKit3
import Derived.Deep.LoopGhost
import Derived.Deep.QuietTactic
import Derived.BigQuiet
import Derived.WideLaws
import Derived.Deep.DeepCutAuto
import Derived.Deep.CutBlock
import Derived.Deep.RegionHeld3
import Derived.Laws.Rows
import Derived.Lib.AppendStr
import Derived.ArgAppend
import Derived.Laws.IdiomCopy
import Derived.OrdersHeld
import Derived.Laws.BitsLemmas
import Derived.RowKit
import Derived.Shelf.Abstract
import Derived.Lib.SliceRun
import Derived.Deep.RegionLaw
set_option linter.unusedVariables false
set_option linter.unusedSimpArgs false
namespace Go.Proofs.YtnlgilmbmoiniaaDoor.Srt
open Go Go.RowKit Go.Lib Go.Proofs Go.Sort
structure Plain_ (p : Prop) : Prop where
  out : p
def or3 (a b c : Int) : Int := if a = 0 then (if b = 0 then c else b) else a
set_option maxHeartbeats 4000000 in
set_option maxRecDepth 100000 in
theorem cmp_or (g : Nat) (a b c : Int) (W : World) (h0 : W.cell? ⟨g, 0, none⟩ = some (.int .i64 a)) (h1 : W.cell? ⟨g, 1, none⟩ = some (.int .i64 b)) (h2 : W.cell? ⟨g, 2, none⟩ = some (.int .i64 c)) :
    Calls Tryd.prog 23 #[.slice (some ⟨g, 0, none⟩) 3 3] W fun e w' => e = .returned (.int .i64 (or3 a b c)) ∧ w' = W := by
  have hu := Tryd.underlying77
  go_enter Tryd.func23, Tryd.ntmps23
  go_wp2
  go_loopg [5, 8] 3 (fun gg _ v8 wr => ∃ i : Nat, v8 = .int .i64 (i : Int) ∧ Plain_ (i ≤ 3) ∧ Plain_ (3 - i ≤ gg) ∧ wr = W ∧ Plain_ (1 ≤ i → a = 0) ∧ Plain_ (2 ≤ i → b = 0) ∧ Plain_ (3 ≤ i → c = 0))
  case atStart => exact ⟨0, rfl, ⟨by omega⟩, ⟨by omega⟩, rfl, ⟨by omega⟩, ⟨by omega⟩, ⟨by omega⟩⟩
  case round =>
    obtain ⟨i, rfl, I3, IG, rfl, A, B, C⟩ := hrel
    have hi : i = 0 ∨ i = 1 ∨ i = 2 ∨ i = 3 := by have := I3.out; omega
    rcases hi with rfl | rfl | rfl | rfl
    · by_cases c0 : a = 0
      · have cb : (a != 0) = false := by simp [c0]
        go_wp2
        go_roundg 2
        case measure => have := IG.out; omega
        case rel => exact ⟨1, rfl, ⟨by omega⟩, ⟨by omega⟩, rfl, ⟨fun _ => c0⟩, ⟨by omega⟩, ⟨by omega⟩⟩
      · have cb : (a != 0) = true := by simp [c0]
        go_wp2
        go_ret
        exact ⟨by unfold or3; rw [if_neg c0]; rfl, rfl⟩
    · have ha := A.out (by omega)
      by_cases c0 : b = 0
      · have cb : (b != 0) = false := by simp [c0]
        go_wp2
        go_roundg 1
        case measure => have := IG.out; omega
        case rel => exact ⟨2, rfl, ⟨by omega⟩, ⟨by omega⟩, rfl, ⟨fun _ => ha⟩, ⟨fun _ => c0⟩, ⟨by omega⟩⟩
      · have cb : (b != 0) = true := by simp [c0]
        go_wp2
        go_ret
        exact ⟨by unfold or3; rw [if_pos ha, if_neg c0]; rfl, rfl⟩
    · have ha := A.out (by omega)
      have hb := B.out (by omega)
      by_cases c0 : c = 0
      · have cb : (c != 0) = false := by simp [c0]
        go_wp2
        go_roundg 0
        case measure => have := IG.out; omega
        case rel => exact ⟨3, rfl, ⟨by omega⟩, ⟨by omega⟩, rfl, ⟨fun _ => ha⟩, ⟨fun _ => hb⟩, ⟨fun _ => c0⟩⟩
      · have cb : (c != 0) = true := by simp [c0]
        go_wp2
        go_ret
        exact ⟨by unfold or3; rw [if_pos ha, if_pos hb]; rfl, rfl⟩
    · have ha := A.out (by omega)
      have hb := B.out (by omega)
      have hc := C.out (by omega)
      go_wp2
      go_ret
      exact ⟨by unfold or3; rw [if_pos ha, if_pos hb, hc]; rfl, rfl⟩

theorem gr_refl (W : World) : ∃ q os', W = grow (W.drewN q) os' := ⟨0, #[], by rw [grow_empty]; rfl⟩
theorem gr_alloc {W w : World} (h : ∃ q os', w = grow (W.drewN q) os') (o : Obj) : ∃ q os', w.alloc o = grow (W.drewN q) os' := by
  obtain ⟨q, os, rfl⟩ := h
  exact ⟨q, os ++ #[o], by rw [alloc_eq_grow, grow_grow]⟩
theorem gr_drewN {W w : World} (h : ∃ q os', w = grow (W.drewN q) os') (n : Nat) : ∃ q os', w.drewN n = grow (W.drewN q) os' := by
  obtain ⟨q, os, rfl⟩ := h
  exact ⟨q + n, os, by simp [grow, World.drewN, Nat.add_assoc]⟩
theorem gr_drew {W w : World} (h : ∃ q os', w = grow (W.drewN q) os') : ∃ q os', w.drew = grow (W.drewN q) os' := by
  obtain ⟨q, os, rfl⟩ := h
  exact ⟨q + 1, os, by simp [grow, World.drewN, World.drew, Nat.add_assoc]⟩
/-- The comparison of two tasks: by the day, then the fate, then the thing. -/
def cf3 (x y : Int × Int × Int) : Int := or3 (Lib.compareInt x.2.2 y.2.2) (Lib.compareInt x.2.1 y.2.1) (Lib.compareInt x.1 y.1)
set_option maxHeartbeats 4000000 in
set_option maxRecDepth 100000 in
theorem closure (hcmp : ∀ (a b : Int) (W : World), Calls Tryd.prog 24 #[.int .i64 a, .int .i64 b] W fun e w' => e = .returned (.int .i64 (Lib.compareInt a b)) ∧ w' = W) (x y : Int × Int × Int) (W : World) :
    Calls Tryd.prog 22 #[.agg #[.int .i64 x.1, .int .i64 x.2.1, .int .i64 x.2.2], .agg #[.int .i64 y.1, .int .i64 y.2.1, .int .i64 y.2.2]] W fun e w' => e = .returned (.int .i64 (cf3 x y)) ∧ ∃ q os', w' = grow (W.drewN q) os' := by
  obtain ⟨x0, x1, x2⟩ := x
  obtain ⟨y0, y1, y2⟩ := y
  have hu54 := Tryd.underlying33
  have hu85 := Tryd.underlying77
  unfold cf3
  simp only
  generalize Lib.compareInt = cmp at hcmp ⊢
  have HC := fun a b W => Plain_.mk (hcmp a b W)
  clear hcmp
  go_enter Tryd.func22, Tryd.ntmps22
  go_upto_region 1 with (fail)
  obtain ⟨W2, hW2⟩ : ∃ W2, W2 = ((W.alloc (Obj.cells #[.int .i64 x0, .int .i64 x1, .int .i64 x2] 33)).alloc (Obj.cells #[.int .i64 y0, .int .i64 y1, .int .i64 y2] 33)) := ⟨_, rfl⟩
  rw [← hW2]
  have a0 : W2.cell? ⟨W.heap.size, 0, none⟩ = some (.int .i64 x0) := by rw [hW2]; go_simp
  have a1 : W2.cell? ⟨W.heap.size, 1, none⟩ = some (.int .i64 x1) := by rw [hW2]; go_simp
  have a2 : W2.cell? ⟨W.heap.size, 2, none⟩ = some (.int .i64 x2) := by rw [hW2]; go_simp
  have b0 : W2.cell? ⟨W.heap.size + 1, 0, none⟩ = some (.int .i64 y0) := by rw [hW2]; go_simp
  have b1 : W2.cell? ⟨W.heap.size + 1, 1, none⟩ = some (.int .i64 y1) := by rw [hW2]; go_simp
  have b2 : W2.cell? ⟨W.heap.size + 1, 2, none⟩ = some (.int .i64 y2) := by rw [hW2]; go_simp
  have lt0 : W.heap.size < W2.heap.size := by rw [hW2]; simp; omega
  have lt1 : W.heap.size + 1 < W2.heap.size := by rw [hW2]; simp
  have HG := Plain_.mk (gr_alloc (gr_alloc (gr_refl W) (Obj.cells #[.int .i64 x0, .int .i64 x1, .int .i64 x2] 33)) (Obj.cells #[.int .i64 y0, .int .i64 y1, .int .i64 y2] 33))
  rw [← hW2] at HG
  clear hW2
  generalize W.heap.size = g at a0 a1 a2 b0 b1 b2 lt0 lt1 ⊢
  go_region_held3 (fun w' => w'.cell? ⟨g, 0, none⟩ = some (.int .i64 x0) ∧ w'.cell? ⟨g, 1, none⟩ = some (.int .i64 x1) ∧ w'.cell? ⟨g, 2, none⟩ = some (.int .i64 x2) ∧ w'.cell? ⟨g + 1, 0, none⟩ = some (.int .i64 y0) ∧ w'.cell? ⟨g + 1, 1, none⟩ = some (.int .i64 y1) ∧ w'.cell? ⟨g + 1, 2, none⟩ = some (.int .i64 y2)) (go_keep) (first | (go_at_call 24; refine (HC _ _ _).out.mono ?_; rintro e w' ⟨rfl, rfl⟩) | (go_at_call 23; refine (cmp_or _ (cmp x2 y2) (cmp x1 y1) (cmp x0 y0) _ ?h0 ?h1 ?h2).mono ?_; (case h0 => go_simp; done); (case h1 => go_simp; done); (case h2 => go_simp; done); rintro e w' ⟨rfl, rfl⟩))
  go_wp2
  go_ret
  exact ⟨rfl, by repeat (first | exact HG.out | apply gr_alloc | apply gr_drewN | apply gr_drew)⟩
theorem cmp45 (a b : Int) (W : World) : Calls Tryd.prog 24 #[.int .i64 a, .int .i64 b] W fun e w' => e = .returned (.int .i64 (Lib.compareInt a b)) ∧ w' = W := Go.Proofs.AnyG.cmp_Compare_int cmpI a b W
theorem agg54 (w : World) : (isAgg 33).run Tryd.prog w = .ok true w := by simp [isAgg, run_underlying Tryd.underlying33]
theorem size54 (w : World) : (Go.sizeOf 33).run Tryd.prog w = .ok 3 w := by kernel_rfl
theorem sort {α : Type} [Inhabited α] (enc : α → List Value) (f : α → Int × Int × Int) (he : ∀ x, enc x = [.int .i64 (f x).1, .int .i64 (f x).2.1, .int .i64 (f x).2.2])
    (hO : SWO (ltOf fun x y => cf3 (f x) (f y))) (hT : ∀ x y, ltOf (fun x y => cf3 (f x) (f y)) x y = false → ltOf (fun x y => cf3 (f x) (f y)) y x = false → x = y)
    (blk cap : Nat) (d : Array α) (w : World) (hH : HoldsK enc 3 w blk 0 d) (hblk : blk < w.heap.size) (hsz : d.size < 4611686018427387904) :
    Calls Tryd.prog 21 #[.slice (some ⟨blk, 0, none⟩) d.size cap, .func (.func 22) #[] #[]] w fun e w' => e = .returned (.tuple #[]) ∧ ∃ n os, w' = sortWorldK enc 3 w blk 0 n (d.toList.mergeSort fun x y => !(ltOf fun x y => cf3 (f x) (f y)) y x).toArray os :=
  Go.Proofs.AnyQ.slices_SortFunc_total sortT 3 agg54 size54 enc (fun x => by rw [he]; rfl) (fun x v hv => by rw [he] at hv; simp at hv; rcases hv with rfl | rfl | rfl <;> rfl) (fun x y => cf3 (f x) (f y)) hO 22 #[] blk 0 cap d w (enters_of Tryd.func22 (by kernel_rfl) rfl)
    (fun m os dk hs x y => by rw [he, he]; exact closure cmp45 (f x) (f y) _) hH hblk hsz hT
theorem sort_none (w : World) : Calls Tryd.prog 21 #[.slice none 0 0, .func (.func 22) #[] #[]] w fun e w' => e = .returned (.tuple #[]) ∧ w' = w :=
  Go.Proofs.AnyF.slices_SortFunc_none sortT none 0 (.func (.func 22) #[] #[]) w
end Go.Proofs.YtnlgilmbmoiniaaDoor.Srt
