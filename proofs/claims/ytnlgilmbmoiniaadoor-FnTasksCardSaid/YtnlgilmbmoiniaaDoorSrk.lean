/- A row of structs of three integers, sorted by the library: the cells of the block as the sort's flat row, and back. -/
import Derived.Test.YtnlgilmbmoiniaaDoorSrt
import Derived.Lib.RowBridge
import Derived.Lib.SortBridge
import Derived.OwnWalk
import Derived.ChangeSame
namespace Go.Proofs.YtnlgilmbmoiniaaDoor.Srt
open Go Go.Sort Go.Proofs Go.ChangeShapes Go.WideShapes Go.RowKit
theorem holds_flat {w : World} {g : Nat} {cur : Array Value} {e : TypeId} {d : Array Value} (hb : w.heap[g]? = some (.cells cur e (0, 0))) (ht : cur.toList.take d.size = d.toList) : Holds (id : Value → Value) w g 0 d := by
  intro j hj
  refine ⟨?_, by simp [World.frozen?, hb]⟩
  have h1 : (cur.toList.take d.size)[j]? = d.toList[j]? := by rw [ht]
  rw [List.getElem?_take_of_lt hj] at h1
  simp only [World.cell?, hb, Nat.zero_add]
  simp only [Option.isSome_none, Bool.false_eq_true, if_false]
  rw [← Array.getElem?_toList, h1]
  simp [hj]
theorem heap_flat {w : World} {g n : Nat} {os : Array Obj} {cur : Array Value} {e : TypeId} {fr : Nat × Nat} (d : Array Value) (hb : w.heap[g]? = some (.cells cur e fr)) :
    (grow (putRow (id : Value → Value) (Sort.ahead w n) g 0 d) os).heap[g]? = some (.cells (putCells (id : Value → Value) 0 d cur) e fr) := by
  have hg : g < w.heap.size := (Array.getElem?_eq_some_iff.1 hb).1
  rw [heap_grow_old _ _ (by simpa using hg)]
  simp [putRow, mapBlock, Sort.ahead, Array.getElem?_modify, hb, onCells]
theorem grownBy_flat {w : World} {g n : Nat} {os : Array Obj} (d : Array Value) : w.grownBy (grow (putRow (id : Value → Value) (Sort.ahead w n) g 0 d) os) (some g) := by
  refine ⟨rfl, rfl, rfl, by simp, fun k hk hne => ?_⟩
  rw [heap_grow_old _ _ (by simpa using hk)]
  have : g ≠ k := fun e => hne (by rw [e])
  simp [putRow, mapBlock, Sort.ahead, Array.getElem?_modify, this]
theorem take_flat (cur : Array Value) (d : Array Value) (h : d.size ≤ cur.size) : (putCells (id : Value → Value) 0 d cur).toList.take d.size = d.toList := by
  apply List.ext_getElem?
  intro j
  by_cases hj : j < d.size
  · rw [List.getElem?_take_of_lt hj, Array.getElem?_toList]
    simp [putCells, hj, show j < cur.size by omega]
  · rw [List.getElem?_take_eq_none (by omega), List.getElem?_eq_none (by simp; omega)]
theorem ownsRow_flat {w : World} {base g cap n len k : Nat} {e : TypeId} {os : Array Obj} {cur : Array Value} {d : Array Value} (hl : d.size = len * k) (hbase : base ≤ g) (hb : w.heap[g]? = some (.cells cur e (0, 0)))
    (h1 : len ≤ cap) (h2 : cap ≤ maxLen) (h3 : cur.size = cap * k) :
    (grow (putRow (id : Value → Value) (Sort.ahead w n) g 0 d) os).ownsRow base e k (.slice (some ⟨g, 0, none⟩) len cap) len d.toList :=
  ⟨by simp [hl], .inr ⟨g, cap, _, rfl, hbase, heap_flat _ hb, h1, h2, by simp [putCells, h3], by rw [← hl]; exact take_flat cur d (by rw [hl, h3]; exact Nat.mul_le_mul_right k h1)⟩⟩
theorem flatMap_at {α : Type} [Inhabited α] (enc : α → List Value) (hk : ∀ x, (enc x).length = 3) : ∀ (l : List α) (t : Nat), t < l.length * 3 → (l.flatMap enc)[t]? = some ((enc l.toArray[t / 3]!)[t % 3]!)
  | [], t, h => by simp at h
  | x :: l, t, h => by
    rw [List.flatMap_cons]
    by_cases c : t < 3
    · rw [List.getElem?_append_left (by rw [hk]; exact c), show t / 3 = 0 by omega, show t % 3 = t by omega]
      have h3 : t < (enc x).length := by rw [hk]; exact c
      simp [h3]
    · rw [List.length_cons] at h
      rw [List.getElem?_append_right (by rw [hk]; omega), hk, flatMap_at enc hk l (t - 3) (by omega), show (t - 3) % 3 = t % 3 by omega, show t / 3 = (t - 3) / 3 + 1 by omega]
      simp
theorem flatK_list {α : Type} [Inhabited α] (enc : α → List Value) (hk : ∀ x, (enc x).length = 3) (l : List α) : (flatK enc 3 l.toArray).toList = l.flatMap enc := by
  have hn : ∀ l : List α, (l.flatMap enc).length = l.length * 3 := by
    intro l
    induction l with
    | nil => rfl
    | cons x l ih => rw [List.flatMap_cons, List.length_append, hk, ih, List.length_cons]; omega
  apply List.ext_getElem?
  intro t
  by_cases c : t < l.length * 3
  · rw [flatMap_at enc hk l t c, Array.getElem?_toList]
    have hs : t < (flatK enc 3 l.toArray).size := by simpa using c
    rw [Array.getElem?_eq_getElem hs, ← getElem!_pos (flatK enc 3 l.toArray) t hs, get_flatK enc 3 l.toArray t (by simpa using c)]
  · rw [List.getElem?_eq_none (l := l.flatMap enc) (by rw [hn]; omega), List.getElem?_eq_none (by rw [Array.length_toList, size_flatK, List.size_toArray]; omega)]
end Go.Proofs.YtnlgilmbmoiniaaDoor.Srt
