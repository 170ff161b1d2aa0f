/- Rounds: combinators on 'from some number of rounds on'. -/
import Derived.Test.YtglpmjcknhcjcaaWWords
namespace Go.Proofs.Ytglpmjcknhcjcaa.EvLib
open Go Go.RowKit Go.Proofs.YtglpmjcknhcjcaaW.PrintWords

section
variable {α β : Type}
theorem ev_some {r s : α} (h : r = s) : Ev (fun _ => some r) s := by subst h; exact Ev.now r
theorem ev_const {g : Option α} {r : α} (h : g = some r) : Ev (fun _ => g) r := ⟨0, fun _ _ => h⟩
theorem ev_itep {c : Prop} [Decidable c] {f g : Nat → Option α} {r : α} (h : c) (e : Ev f r) : Ev (fun k => if c then f k else g k) r := Ev.congr (fun _ => if_pos h) e
theorem ev_iten {c : Prop} [Decidable c] {f g : Nat → Option α} {r : α} (h : ¬c) (e : Ev g r) : Ev (fun k => if c then f k else g k) r := Ev.congr (fun _ => if_neg h) e
theorem ev_ite {c : Prop} [Decidable c] {f g : Nat → Option α} {r : α} (h1 : c → Ev f r) (h2 : ¬c → Ev g r) : Ev (fun k => if c then f k else g k) r := by
  by_cases h : c
  · exact ev_itep h (h1 h)
  · exact ev_iten h (h2 h)
theorem ev_bind {g : Nat → Option α} {f : Nat → α → Option β} {a : α} {r : β} (h : Ev g a) (k : Ev (fun n => f n a) r) : Ev (fun n => (g n).bind (f n)) r := Ev.bind h k
theorem ev_bindc {g : Option α} {f : Nat → α → Option β} {a : α} {r : β} (h : g = some a) (k : Ev (fun n => f n a) r) : Ev (fun n => g.bind (f n)) r := Ev.bind (ev_const h) k
theorem ev_eq {g : Nat → Option α} {a r : α} (h : Ev g a) (e : a = r) : Ev g r := by subst e; exact h
theorem ev_step {g f : Nat → Option α} {r : α} (h : ∀ k, g (k + 1) = f k) (k : Ev f r) : Ev g r := Ev.step h k
theorem ev_same {g : Nat → Option α} {a b : α} (h1 : Ev g a) (h2 : Ev g b) : a = b := by
  obtain ⟨K, h⟩ := h1
  obtain ⟨K', h'⟩ := h2
  have := (h (max K K') (by omega)).symm.trans (h' (max K K') (by omega))
  exact Option.some.inj this
end
theorem wrap_id {x : Int} (h0 : -9223372036854775808 ≤ x) (h1 : x ≤ 9223372036854775807) : wrap64 x = x := by
  unfold wrap64
  omega
theorem maxLen_le {n : Nat} (h : n ≤ maxLen) : n ≤ 9223372036854775807 := by
  unfold maxLen at h
  omega
/-- One more element of a copy. -/
theorem set_copy {α : Type} (d z : α) (l : List α) (i : Nat) (h : i < l.length) :
    (l.take i ++ List.replicate (l.length - i) z).set i (l.getD i d) = l.take (i + 1) ++ List.replicate (l.length - (i + 1)) z := by
  have e : l.length - i = (l.length - (i + 1)) + 1 := by omega
  rw [e, List.replicate_succ, List.set_append_right _ _ (by simp; omega)]
  have e2 : i - (l.take i).length = 0 := by simp; omega
  rw [e2, List.set_cons_zero]
  have e3 : l.getD i d = l[i] := by simp [List.getD, h]
  rw [e3, List.take_succ_eq_append_getElem h, List.append_assoc, List.singleton_append]

/-- A loop that counts up and answers at once where an element does not fit. -/
theorem ev_all (L : Nat → Int → Option Bool) (n : Nat) (p : Nat → Bool) (fin : Bool) (hn : n ≤ 9223372036854775806)
    (hend : ∀ k, L (k + 1) (n : Int) = some fin)
    (hstep : ∀ (k i : Nat), i < n → L (k + 1) (i : Int) = if p i = true then L k (wrap64 ((i : Int) + 1)) else some false) :
    Ev (fun k => L k 0) ((List.range n).all p && fin) := by
  have key : ∀ d i : Nat, i ≤ n → n - i = d → Ev (fun k => L k (i : Int)) ((List.range' i (n - i)).all p && fin) := by
    intro d
    induction d with
    | zero =>
      intro i hi hd
      obtain rfl : i = n := by omega
      exact ev_step hend (ev_some (by simp))
    | succ d ih =>
      intro i hi hd
      refine ev_step (fun k => hstep k i (by omega)) ?_
      have e : n - i = (n - (i + 1)) + 1 := by omega
      rw [wrap_id (by omega) (by omega), e, List.range'_succ, List.all_cons]
      by_cases h : p i = true
      · rw [h, Bool.true_and]
        exact ev_itep rfl (ih (i + 1) (by omega) (by omega))
      · rw [Bool.eq_false_iff.mpr h]
        exact ev_iten (by simp) (ev_some rfl)
  have := key n 0 (by omega) (by omega)
  rw [Nat.sub_zero, ← List.range_eq_range'] at this
  exact this

/-- A loop that counts up, with a state; inl: it answers at once. -/
def runF {σ α : Type} (f : σ → Nat → α ⊕ σ) (fin : σ → α) : Nat → Nat → σ → α
  | 0, _, s => fin s
  | d + 1, i, s => match f s i with
    | .inl a => a
    | .inr s' => runF f fin d (i + 1) s'
theorem ev_loop {σ α : Type} (L : Nat → σ → Int → Option α) (n : Nat) (f : σ → Nat → α ⊕ σ) (fin : σ → α) (Inv : Nat → σ → Prop) (hn : n ≤ 9223372036854775806)
    (hend : ∀ k s, Inv n s → L (k + 1) s (n : Int) = some (fin s))
    (hstep : ∀ (k : Nat) (s : σ) (i : Nat), i < n → Inv i s → L (k + 1) s (i : Int) = (match f s i with | .inl a => some a | .inr s' => L k s' (wrap64 ((i : Int) + 1))) ∧ ∀ s', f s i = .inr s' → Inv (i + 1) s') :
    ∀ d i s, i + d = n → Inv i s → Ev (fun k => L k s (i : Int)) (runF f fin d i s) := by
  intro d
  induction d with
  | zero =>
    intro i s hi hs
    obtain rfl : i = n := by omega
    exact ev_step (fun k => hend k s hs) (ev_some rfl)
  | succ d ih =>
    intro i s hi hs
    refine ev_step (fun k => (hstep k s i (by omega) hs).1) ?_
    have h2 := (hstep 0 s i (by omega) hs).2
    unfold runF
    split
    · exact ev_some rfl
    · rename_i s' h
      rw [wrap_id (by omega) (by omega)]
      exact ih (i + 1) s' (by omega) (h2 s' h)
theorem ev_copy {α β : Type} (L : Nat → List α → List β → Int → Option (List β)) (cv : α → β) (da : α) (z : β)
    (hL : ∀ k x0 x3 x4, L (k + 1) x0 x3 x4 = if x4 < (x0.length : Int) then (if 0 ≤ x4 then (if x4 < (x3.length : Int) then (L k x0 (x3.set (x4 : Int).toNat (cv (x0.getD x4.toNat da))) (wrap64 (x4 + 1))) else none) else none) else some x3)
    (l : List α) (hl : l.length ≤ 1048576) : Ev (fun k => L k l (List.replicate l.length z) 0) (l.map cv) := by
  have key : ∀ d i : Nat, i ≤ l.length → l.length - i = d → Ev (fun k => L k l ((l.map cv).take i ++ List.replicate (l.length - i) z) (i : Int)) (l.map cv) := by
    intro d
    induction d with
    | zero =>
      intro i hi hd
      obtain rfl : i = l.length := by omega
      refine ev_step (fun k => hL k _ _ _) (ev_iten (by omega) (ev_some ?_))
      rw [Nat.sub_self, List.replicate_zero, List.append_nil, List.take_of_length_le (by simp)]
    | succ d ih =>
      intro i hi hd
      refine ev_step (fun k => hL k _ _ _) (ev_itep (by omega) (ev_itep (by omega) (ev_itep (by simp; omega) ?_)))
      have := ih (i + 1) (by omega) (by omega)
      have e := set_copy (cv da) z (l.map cv) i (by simpa using (by omega : i < l.length))
      rw [List.length_map] at e
      have e2 : (l.map cv).getD i (cv da) = cv (l.getD i da) := by simp [List.getD, show i < l.length by omega]
      rw [wrap_id (by omega) (by omega), Int.toNat_natCast, ← e2, e]
      exact this
  have := key l.length 0 (by omega) (by omega)
  simpa using this
theorem ev_eqloop {α : Type} (L : Nat → List α → List α → Int → Option Bool)
    (h1 : ∀ (k : Nat) (l : List α) (i : Nat), i < l.length → L (k + 1) l l (i : Int) = L k l l (wrap64 ((i : Int) + 1)))
    (h0 : ∀ (k : Nat) (l : List α), L (k + 1) l l (l.length : Int) = some true) (l : List α) (hl : l.length ≤ 9223372036854775806) : Ev (fun k => L k l l 0) true := by
  have key : ∀ d i : Nat, i ≤ l.length → l.length - i = d → Ev (fun k => L k l l (i : Int)) true := by
    intro d
    induction d with
    | zero =>
      intro i hi hd
      obtain rfl : i = l.length := by omega
      exact ev_step (fun k => h0 k l) (ev_some rfl)
    | succ d ih =>
      intro i hi hd
      refine ev_step (fun k => h1 k l i (by omega)) ?_
      rw [wrap_id (by omega) (by omega)]
      exact ih (i + 1) (by omega) (by omega)
  exact key l.length 0 (by omega) (by omega)
/-- The place of the first element that p holds of, counted from i on, or -1. -/
def idxB {α : Type} (p : α → Bool) : List α → Nat → Int
  | [], _ => -1
  | x :: l, i => if p x = true then (i : Int) else idxB p l (i + 1)
theorem idxB_end {α : Type} (p : α → Bool) (l : List α) (i : Nat) (h : l.length ≤ i) : idxB p (l.drop i) i = -1 := by rw [List.drop_of_length_le h, idxB]
theorem idxB_at {α : Type} (p : α → Bool) (z : α) (l : List α) (i : Nat) (h : i < l.length) : idxB p (l.drop i) i = if p (l.getD i z) = true then (i : Int) else idxB p (l.drop (i + 1)) (i + 1) := by
  rw [List.drop_eq_getElem_cons h, idxB]
  simp [List.getD, h]
theorem idxB_in {α : Type} (p : α → Bool) (z : α) : ∀ (l : List α) (i : Nat), idxB p l i = -1 ∧ (∀ x ∈ l, p x = false) ∨ ∃ j : Nat, j < l.length ∧ idxB p l i = ((i + j : Nat) : Int) ∧ p (l.getD j z) = true ∧ ∀ q, q < j → p (l.getD q z) = false := by
  intro l
  induction l with
  | nil => intro i; exact Or.inl ⟨rfl, by simp⟩
  | cons x l ih =>
    intro i
    by_cases h : p x = true
    · exact Or.inr ⟨0, by simp, by rw [idxB, if_pos h]; rfl, h, fun q hq => by omega⟩
    · have h' := Bool.eq_false_iff.mpr h
      rcases ih (i + 1) with ⟨h1, h2⟩ | ⟨j, h1, h2, h3, h4⟩
      · exact Or.inl ⟨by rw [idxB, if_neg h, h1], fun y hy => by rcases List.mem_cons.1 hy with e | e; (rw [e]; exact h'); exact h2 y e⟩
      · refine Or.inr ⟨j + 1, by simp; omega, by rw [idxB, if_neg h, h2]; congr 1; omega, h3, fun q hq => ?_⟩
        cases q with
        | zero => exact h'
        | succ q => exact h4 q (by omega)
end Go.Proofs.Ytglpmjcknhcjcaa.EvLib
