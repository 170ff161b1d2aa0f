/- Rounds: combinators on 'from some number of rounds on'. -/
import Derived.Test.YtkbnbimphddmbaaWWords
namespace Go.Proofs.Ytkbnbimphddmbaa.EvLib
open Go Go.RowKit Go.Proofs.YtkbnbimphddmbaaW.PrintWords

section
variable {α β : Type}
theorem ev_some {r s : α} (h : r = s) : Ev (fun _ => some r) s := by subst h; exact Ev.now r
theorem ev_const {g : Option α} {r : α} (h : g = some r) : Ev (fun _ => g) r := ⟨0, fun _ _ => h⟩
theorem ev_itep {c : Prop} [Decidable c] {f g : Nat → Option α} {r : α} (h : c) (e : Ev f r) : Ev (fun k => if c then f k else g k) r := Ev.congr (fun _ => if_pos h) e
theorem ev_iten {c : Prop} [Decidable c] {f g : Nat → Option α} {r : α} (h : ¬c) (e : Ev g r) : Ev (fun k => if c then f k else g k) r := Ev.congr (fun _ => if_neg h) e
theorem ev_ite {c : Prop} [Decidable c] {f g : Nat → Option α} {r : α} (h1 : c → Ev f r) (h2 : ¬c → Ev g r) : Ev (fun k => if c then f k else g k) r := by
  by_cases h : c
  · exact ev_itep h (h1 h)
  · exact ev_iten h (h2 h)
theorem ev_bind {g : Nat → Option α} {f : Nat → α → Option β} {a : α} {r : β} (h : Ev g a) (k : Ev (fun n => f n a) r) : Ev (fun n => (g n).bind (f n)) r := Ev.bind h k
theorem ev_bindc {g : Option α} {f : Nat → α → Option β} {a : α} {r : β} (h : g = some a) (k : Ev (fun n => f n a) r) : Ev (fun n => g.bind (f n)) r := Ev.bind (ev_const h) k
theorem ev_eq {g : Nat → Option α} {a r : α} (h : Ev g a) (e : a = r) : Ev g r := by subst e; exact h
theorem ev_step {g f : Nat → Option α} {r : α} (h : ∀ k, g (k + 1) = f k) (k : Ev f r) : Ev g r := Ev.step h k
theorem ev_same {g : Nat → Option α} {a b : α} (h1 : Ev g a) (h2 : Ev g b) : a = b := by
  obtain ⟨K, h⟩ := h1
  obtain ⟨K', h'⟩ := h2
  have := (h (max K K') (by omega)).symm.trans (h' (max K K') (by omega))
  exact Option.some.inj this
end
theorem wrap_id {x : Int} (h0 : -9223372036854775808 ≤ x) (h1 : x ≤ 9223372036854775807) : wrap64 x = x := by
  unfold wrap64
  omega
theorem maxLen_le {n : Nat} (h : n ≤ maxLen) : n ≤ 9223372036854775807 := by
  unfold maxLen at h
  omega
/-- One more element of a copy. -/
theorem set_copy {α : Type} (d z : α) (l : List α) (i : Nat) (h : i < l.length) :
    (l.take i ++ List.replicate (l.length - i) z).set i (l.getD i d) = l.take (i + 1) ++ List.replicate (l.length - (i + 1)) z := by
  have e : l.length - i = (l.length - (i + 1)) + 1 := by omega
  rw [e, List.replicate_succ, List.set_append_right _ _ (by simp; omega)]
  have e2 : i - (l.take i).length = 0 := by simp; omega
  rw [e2, List.set_cons_zero]
  have e3 : l.getD i d = l[i] := by simp [List.getD, h]
  rw [e3, List.take_succ_eq_append_getElem h, List.append_assoc, List.singleton_append]
end Go.Proofs.Ytkbnbimphddmbaa.EvLib
