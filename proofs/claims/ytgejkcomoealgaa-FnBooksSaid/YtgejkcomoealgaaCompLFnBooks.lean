/- Sorted and compacted lists of whole numbers; numbers put one by one. -/
import Derived.Test.YtgejkcomoealgaaEvLib
import Derived.Lib.RowBridge
namespace Go.Proofs.Ytgejkcomoealgaa.PFnBooks
/-- n put into an ascending list. -/
def putI (n : Int) : List Int → List Int
  | [] => [n]
  | x :: l => if x < n then x :: putI n l else if x = n then x :: l else n :: x :: l
def Strict (l : List Int) : Prop := l.Pairwise (· < ·)
theorem mem_putI (n : Int) : ∀ (l : List Int) (y : Int), y ∈ putI n l ↔ y = n ∨ y ∈ l
  | [], y => by simp [putI]
  | x :: l, y => by
    have ih := mem_putI n l y
    unfold putI
    split
    · simp only [List.mem_cons, ih]
      constructor
      · rintro (h | h | h) <;> simp [h]
      · rintro (h | h | h) <;> simp [h]
    · split
      · rename_i h
        simp only [List.mem_cons]
        constructor
        · rintro (h2 | h2) <;> simp [h2]
        · rintro (h2 | h2 | h2)
          · left; omega
          · simp [h2]
          · simp [h2]
      · simp only [List.mem_cons]
theorem strict_putI (n : Int) : ∀ (l : List Int), Strict l → Strict (putI n l)
  | [], _ => by simp [putI, Strict]
  | x :: l, h => by
    have hc := List.pairwise_cons.1 h
    have ih := strict_putI n l hc.2
    unfold putI
    split
    · rename_i hx
      refine List.pairwise_cons.2 ⟨fun y hy => ?_, ih⟩
      rcases (mem_putI n l y).1 hy with e | e
      · omega
      · exact hc.1 y e
    · split
      · exact h
      · rename_i h1 h2
        refine List.pairwise_cons.2 ⟨fun y hy => ?_, h⟩
        rcases List.mem_cons.1 hy with e | e
        · omega
        · have := hc.1 y e; omega
theorem strict_ext : ∀ (l m : List Int), Strict l → Strict m → (∀ x, x ∈ l ↔ x ∈ m) → l = m
  | [], [], _, _, _ => rfl
  | [], b :: m, _, _, h => absurd ((h b).2 (by simp)) (by simp)
  | a :: l, [], _, _, h => absurd ((h a).1 (by simp)) (by simp)
  | a :: l, b :: m, hl, hm, h => by
    have cl := List.pairwise_cons.1 hl
    have cm := List.pairwise_cons.1 hm
    have hab : a = b := by
      have h1 := (h a).1 (by simp)
      have h2 := (h b).2 (by simp)
      rcases List.mem_cons.1 h1 with e | e
      · exact e
      · rcases List.mem_cons.1 h2 with e2 | e2
        · exact e2.symm
        · have := cm.1 a e; have := cl.1 b e2; omega
    subst hab
    rw [strict_ext l m cl.2 cm.2 (fun x => ?_)]
    constructor
    · intro hx
      rcases List.mem_cons.1 ((h x).1 (List.mem_cons_of_mem _ hx)) with e | e
      · have := cl.1 x hx; omega
      · exact e
    · intro hx
      rcases List.mem_cons.1 ((h x).2 (List.mem_cons_of_mem _ hx)) with e | e
      · have := cm.1 x hx; omega
      · exact e
theorem compUp (d : Array Int) (hs : ∀ i j, i ≤ j → j < d.size → d[i]! ≤ d[j]!) : ∀ m, m ≤ d.size →
    Strict (Lib.compactUpTo d m) ∧ (∀ x ∈ Lib.compactUpTo d m, 0 < m ∧ x ≤ d[m - 1]!) ∧ ∀ x, x ∈ Lib.compactUpTo d m ↔ ∃ j, j < m ∧ d[j]! = x := by
  intro m
  induction m with
  | zero => intro _; simp [Lib.compactUpTo, Strict]
  | succ m ih =>
    intro hm
    obtain ⟨h1, h2, h3⟩ := ih (by omega)
    rw [Lib.compactUpTo_succ]
    by_cases hk : Lib.keeps d m = true
    · rw [if_pos hk]
      have hk2 : m = 0 ∨ d[m]! ≠ d[m - 1]! := by simpa [Lib.keeps] using hk
      have hlt : ∀ x ∈ Lib.compactUpTo d m, x < d[m]! := by
        intro x hx
        obtain ⟨hm0, hx1⟩ := h2 x hx
        have := hs (m - 1) m (by omega) (by omega)
        rcases hk2 with e | e <;> omega
      refine ⟨List.pairwise_append.2 ⟨h1, by simp, fun x hx y hy => ?_⟩, fun x hx => ?_, fun x => ?_⟩
      · rw [List.mem_singleton.1 hy]; exact hlt x hx
      · refine ⟨by omega, ?_⟩
        rw [Nat.add_sub_cancel]
        rcases List.mem_append.1 hx with e | e
        · exact Int.le_of_lt (hlt x e)
        · rw [List.mem_singleton.1 e]; exact Int.le_refl _
      · rw [List.mem_append, h3, List.mem_singleton]
        constructor
        · rintro (⟨j, hj, e⟩ | e)
          · exact ⟨j, by omega, e⟩
          · exact ⟨m, by omega, e.symm⟩
        · rintro ⟨j, hj, e⟩
          rcases Nat.lt_or_ge j m with c | c
          · exact .inl ⟨j, c, e⟩
          · right; rw [← e, show j = m by omega]
    · rw [if_neg hk, List.append_nil]
      have hk2 : ¬ (m = 0 ∨ d[m]! ≠ d[m - 1]!) := by simpa [Lib.keeps] using hk
      have hk3 : m ≠ 0 ∧ d[m]! = d[m - 1]! := by
        constructor
        · intro e; exact hk2 (.inl e)
        · exact Classical.byContradiction fun e => hk2 (.inr e)
      refine ⟨h1, fun x hx => ⟨by omega, ?_⟩, fun x => ?_⟩
      · rw [Nat.add_sub_cancel, hk3.2]; exact (h2 x hx).2
      · rw [h3]
        constructor
        · rintro ⟨j, hj, e⟩; exact ⟨j, by omega, e⟩
        · rintro ⟨j, hj, e⟩
          rcases Nat.lt_or_ge j m with c | c
          · exact ⟨j, c, e⟩
          · exact ⟨m - 1, by omega, by rw [← hk3.2, ← e, show j = m by omega]⟩
/-- What 'united' comes to. -/
def unitedI (l : List Int) : List Int := Lib.compact (l.mergeSort fun x y => decide (x ≤ y))
theorem united_spec (l : List Int) : Strict (unitedI l) ∧ ∀ x, x ∈ unitedI l ↔ x ∈ l := by
  have hp : (l.mergeSort fun x y => decide (x ≤ y)).Pairwise (fun a b => decide (a ≤ b) = true) :=
    List.pairwise_mergeSort (fun a b c h1 h2 => by simp at *; omega) (fun a b => by simp; omega) l
  have hm : ∀ x, x ∈ (l.mergeSort fun x y => decide (x ≤ y)) ↔ x ∈ l := fun x => List.mem_mergeSort
  unfold unitedI Lib.compact
  generalize (l.mergeSort fun x y => decide (x ≤ y)) = s at hp hm
  have hg : ∀ i (h : i < s.length), s.toArray[i]! = s[i] := fun i h => by simp [getElem!_pos, h]
  have hs : ∀ i j, i ≤ j → j < s.toArray.size → s.toArray[i]! ≤ s.toArray[j]! := by
    intro i j hij hj
    have hj' : j < s.length := by simpa using hj
    rw [hg i (by omega), hg j hj']
    rcases Nat.lt_or_ge i j with c | c
    · have := List.pairwise_iff_getElem.1 hp i j (by omega) hj' c
      simpa using this
    · have : i = j := by omega
      subst this; exact Int.le_refl _
  obtain ⟨h1, _, h3⟩ := compUp s.toArray hs s.length (by simp)
  refine ⟨h1, fun x => ?_⟩
  rw [h3, ← hm]
  constructor
  · rintro ⟨j, hj, e⟩
    rw [hg j hj] at e
    rw [← e]; exact List.getElem_mem _
  · intro hx
    obtain ⟨j, hj, e⟩ := List.mem_iff_getElem.1 hx
    exact ⟨j, hj, by rw [hg j hj, e]⟩
theorem putI_len (n : Int) : ∀ l : List Int, (putI n l).length ≤ l.length + 1
  | [] => by simp [putI]
  | x :: l => by
    have := putI_len n l
    unfold putI
    split
    · simp only [List.length_cons]; omega
    · split <;> simp
end Go.Proofs.Ytgejkcomoealgaa.PFnBooks
