/- Things in things: what is said of them. -/
import Derived.Test.YtogbajcaeelooaaOutDFnBundles
namespace Go.Proofs.Ytogbajcaeelooaa.PFnBundles
open Go.RowKit Go.Proofs.YtogbajcaeelooaaW.PrintWords Go.Proofs.YtogbajcaeelooaaW.PrintLast Go.Proofs.Ytogbajcaeelooaa.EvLib
def inOk (l : List IInner) (i : Nat) : Bool := decide (1 ≤ (inn l i).f0 ∧ (inn l i).f0 ≤ 999) && (decide (1 ≤ (inn l i).f1 ∧ (inn l i).f1 ≤ 999) && !hasF (inn l i).f1 (l.take i))
/-- n steps out of a thing; 0 behind the last one. -/
def itN (l : List IInner) : Nat → Int → Int
  | 0, x => x
  | n + 1, x => itN l n (outF x l)
/-- The same, staying at the last one. -/
def stN (l : List IInner) : Nat → Int → Int
  | 0, x => x
  | n + 1, x => stN l n (if hasF x l = true then outF x l else x)
def ends (l : List IInner) (i : Nat) : Bool := itN l (l.length + 1) (inn l i).f1 == 0
def areInn (l : List IInner) : Bool := decide (l.length ≤ 20) && ((List.range l.length).all (inOk l) && (List.range l.length).all (ends l))
/-- Numbers of things and of what they are in. -/
def numd (l : List IInner) : Prop := ∀ x ∈ l, (1 ≤ x.f0 ∧ x.f0 ≤ 999) ∧ (1 ≤ x.f1 ∧ x.f1 ≤ 999)
theorem numd_of {l : List IInner} (h : (List.range l.length).all (inOk l) = true) : numd l := by
  intro x hx
  obtain ⟨i, hi, rfl⟩ := List.mem_iff_getElem.1 hx
  rw [List.all_eq_true] at h
  have := h i (List.mem_range.mpr hi)
  unfold inOk at this
  simp only [Bool.and_eq_true, decide_eq_true_eq] at this
  have e : inn l i = l[i] := by simp [inn, List.getD, hi]
  rw [← e]
  exact ⟨this.1, this.2.1⟩
theorem numd_inn {l : List IInner} (h : numd l) (i : Nat) (hi : i < l.length) : (1 ≤ (inn l i).f0 ∧ (inn l i).f0 ≤ 999) ∧ (1 ≤ (inn l i).f1 ∧ (inn l i).f1 ≤ 999) := by
  have e : inn l i = l[i] := by simp [inn, List.getD, hi]
  rw [e]
  exact h _ (List.getElem_mem hi)
theorem out_has {x : Int} : ∀ {l : List IInner}, numd l → hasF x l = true → 1 ≤ outF x l := by
  intro l
  induction l with
  | nil => intro _ h; simp [hasF] at h
  | cons y l ih =>
    intro hn h
    rw [outF]
    split
    · exact (hn y (by simp)).1.1
    · rename_i c
      rw [hasF, if_neg c] at h
      exact ih (fun z hz => hn z (by simp [hz])) h
theorem out_no {x : Int} : ∀ {l : List IInner}, hasF x l = false → outF x l = 0 := by
  intro l
  induction l with
  | nil => intro _; rfl
  | cons y l ih =>
    intro h
    rw [hasF] at h
    split at h
    · cases h
    · rename_i c
      rw [outF, if_neg c]
      exact ih h
theorem out_zero {l : List IInner} (hn : numd l) : outF 0 l = 0 := by
  induction l with
  | nil => rfl
  | cons y l ih =>
    rw [outF, if_neg (by have := (hn y (by simp)).2; omega)]
    exact ih (fun z hz => hn z (by simp [hz]))
theorem out_iff {l : List IInner} (hn : numd l) (x : Int) : outF x l = 0 ↔ hasF x l = false := by
  constructor
  · intro h
    cases c : hasF x l with
    | false => rfl
    | true => have := out_has hn c; omega
  · exact out_no
theorem it_zero {l : List IInner} (hn : numd l) : ∀ n, itN l n 0 = 0 := by
  intro n
  induction n with
  | zero => rfl
  | succ n ih => rw [itN, out_zero hn, ih]
theorem it_add (l : List IInner) : ∀ (a b : Nat) (x : Int), itN l (a + b) x = itN l b (itN l a x) := by
  intro a
  induction a with
  | zero => intro b x; rw [Nat.zero_add, itN]
  | succ a ih => intro b x; rw [Nat.succ_add, itN, ih, itN]
theorem it_succ (l : List IInner) (n : Nat) (x : Int) : itN l (n + 1) x = outF (itN l n x) l := by rw [it_add l n 1, itN, itN]
theorem st_it {l : List IInner} (hn : numd l) : ∀ (n : Nat) (x : Int), itN l n x ≠ 0 → stN l n x = itN l n x := by
  intro n
  induction n with
  | zero => intro x _; rfl
  | succ n ih =>
    intro x h
    rw [itN] at h
    have hx : outF x l ≠ 0 := fun e => h (by rw [e, it_zero hn])
    have hh : hasF x l = true := by
      cases c : hasF x l with
      | true => rfl
      | false => exact absurd (out_no c) hx
    rw [stN, if_pos hh, itN]
    exact ih _ h
theorem st_stay {l : List IInner} {x : Int} (h : hasF x l = false) : ∀ n, stN l n x = x := by
  intro n
  induction n with
  | zero => rfl
  | succ n ih => rw [stN, if_neg (by rw [h]; simp), ih]
theorem st_end {l : List IInner} : ∀ (n : Nat) (x : Int), x ≠ 0 → itN l n x = 0 → numd l → hasF (stN l n x) l = false := by
  intro n
  induction n with
  | zero => intro x h0 h _; exact absurd h h0
  | succ n ih =>
    intro x h0 h hn
    rw [itN] at h
    cases c : hasF x l with
    | false => rw [st_stay c]; exact c
    | true =>
      have := out_has hn c
      rw [stN, if_pos c]
      exact ih _ (by omega) h hn
theorem pigeon : ∀ (l vs : List Int), (∀ v ∈ vs, v ∈ l) → vs.Nodup → vs.length ≤ l.length := by
  intro l
  induction l with
  | nil =>
    intro vs h _
    cases vs with
    | nil => simp
    | cons v vs => exact absurd (h v (by simp)) (by simp)
  | cons a l ih =>
    intro vs h hd
    by_cases ha : a ∈ vs
    · have h2 := ih (vs.erase a) (fun v hv => by
        have h3 := (List.Nodup.mem_erase_iff hd).1 hv
        rcases List.mem_cons.1 (h v h3.2) with e | e
        · exact absurd e h3.1
        · exact e) (hd.erase a)
      rw [List.length_erase_of_mem ha] at h2
      rw [List.length_cons]
      omega
    · have h2 := ih vs (fun v hv => by
        rcases List.mem_cons.1 (h v hv) with e | e
        · exact absurd (e ▸ hv) ha
        · exact e) hd
      rw [List.length_cons]
      omega
theorem has_mem {x : Int} : ∀ {l : List IInner}, hasF x l = true → x ∈ l.map (fun y => y.f1) := by
  intro l
  induction l with
  | nil => intro h; simp [hasF] at h
  | cons y l ih =>
    intro h
    rw [hasF] at h
    split at h
    · rename_i c
      rw [List.map_cons, c]
      simp
    · rw [List.map_cons]
      exact List.mem_cons_of_mem _ (ih h)
/-- Whoever comes so far never ends. -/
theorem it_round {l : List IInner} (hn : numd l) (x : Int) (h : itN l (l.length + 1) x ≠ 0) : hasF (itN l (l.length + 1) x) l = true := by
  have hv : ∀ i, i ≤ l.length → hasF (itN l i x) l = true := by
    intro i hi
    cases c : hasF (itN l i x) l with
    | true => rfl
    | false =>
      exfalso
      apply h
      have e : l.length + 1 = (i + 1) + (l.length - i) := by omega
      rw [e, it_add, it_succ, out_no c, it_zero hn]
  have he : ∃ i j, i < j ∧ j ≤ l.length ∧ itN l i x = itN l j x := by
    apply Classical.byContradiction
    intro hno
    have hd : ((List.range (l.length + 1)).map (fun i => itN l i x)).Nodup := by
      unfold List.Nodup
      rw [List.pairwise_map]
      refine List.Pairwise.imp_of_mem ?_ List.pairwise_lt_range
      intro a b _ hb hab e
      exact hno ⟨a, b, hab, by have := List.mem_range.1 hb; omega, e⟩
    have := pigeon (l.map (fun y => y.f1)) _ (fun v hm => by
      obtain ⟨i, hi, rfl⟩ := List.mem_map.1 hm
      exact has_mem (hv i (by have := List.mem_range.1 hi; omega))) hd
    simp at this
    omega
  obtain ⟨i, j, h1, h2, h3⟩ := he
  have e1 : itN l (l.length + 1) x = itN l (i + (l.length + 1 - j)) x := by
    have e2 : l.length + 1 = j + (l.length + 1 - j) := by omega
    rw [it_add l i, h3, ← it_add, ← e2]
  rw [e1]
  exact hv _ (by omega)
theorem ends_iff {l : List IInner} (hn : numd l) (x : Int) (hx : x ≠ 0) : hasF (stN l (l.length + 1) x) l = !(itN l (l.length + 1) x == 0) := by
  by_cases h : itN l (l.length + 1) x = 0
  · rw [st_end _ x hx h hn, h]
    rfl
  · rw [st_it hn _ x h, it_round hn x h]
    simp [h]
end Go.Proofs.Ytogbajcaeelooaa.PFnBundles
