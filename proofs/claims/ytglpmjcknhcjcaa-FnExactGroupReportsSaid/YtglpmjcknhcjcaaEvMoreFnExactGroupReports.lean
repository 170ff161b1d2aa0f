/- Rounds: loops whose steps take rounds, too. -/
import Derived.Test.YtglpmjcknhcjcaaStmFnExactGroupReports
import Derived.Test.YtglpmjcknhcjcaaEvLib
namespace Go.Proofs.Ytglpmjcknhcjcaa.PFnExactGroupReports
open Go.RowKit Go.Proofs.YtglpmjcknhcjcaaW.PrintWords Go.Proofs.YtglpmjcknhcjcaaW.PrintLast Go.Proofs.Ytglpmjcknhcjcaa.EvLib
theorem ev_allE (L : Nat → Int → Option Bool) (n : Nat) (p : Nat → Bool) (fin : Bool) (hn : n ≤ 9223372036854775806)
    (hend : ∀ k, L (k + 1) (n : Int) = some fin)
    (hstep : ∀ i : Nat, i < n → ∀ r, Ev (fun k => L k (wrap64 ((i : Int) + 1))) r → Ev (fun k => L k (i : Int)) (p i && r)) :
    Ev (fun k => L k 0) ((List.range n).all p && fin) := by
  have key : ∀ d i : Nat, i + d = n → Ev (fun k => L k (i : Int)) ((List.range' i d).all p && fin) := by
    intro d
    induction d with
    | zero =>
      intro i hi
      obtain rfl : i = n := by omega
      exact ev_step hend (ev_some (by simp))
    | succ d ih =>
      intro i hi
      rw [List.range'_succ, List.all_cons, Bool.and_assoc]
      refine hstep i (by omega) _ ?_
      rw [wrap_id (by omega) (by omega)]
      exact ih (i + 1) (by omega)
  have := key n 0 (by omega)
  rw [← List.range_eq_range'] at this
  exact this
theorem ev_copyE {α β γ : Type} (L : Nat → List α → List β → Int → Option (List β)) (F : Nat → α → Option γ) (mk : γ → β) (cv : α → γ) (da : α) (z : β)
    (hL : ∀ k x0 x3 x4, L (k + 1) x0 x3 x4 = if x4 < (x0.length : Int) then (if 0 ≤ x4 then ((F k (x0.getD x4.toNat da)).bind fun b => (if x4 < (x3.length : Int) then (L k x0 (x3.set (x4 : Int).toNat (mk b)) (wrap64 (x4 + 1))) else none)) else none) else some x3)
    (l : List α) (hl : l.length ≤ 1048576) (hF : ∀ x ∈ l, Ev (fun k => F k x) (cv x)) : Ev (fun k => L k l (List.replicate l.length z) 0) (l.map (fun x => mk (cv x))) := by
  have key : ∀ d i : Nat, i + d = l.length → Ev (fun k => L k l ((l.map (fun x => mk (cv x))).take i ++ List.replicate d z) (i : Int)) (l.map (fun x => mk (cv x))) := by
    intro d
    induction d with
    | zero =>
      intro i hi
      refine ev_step (fun k => hL k _ _ _) (ev_iten (by omega) (ev_some ?_))
      rw [List.replicate_zero, List.append_nil, List.take_of_length_le (by simp; omega)]
    | succ d ih =>
      intro i hi
      have hm : l.getD i da ∈ l := by
        have : l.getD i da = l[i]'(by omega) := by simp [List.getD, show i < l.length by omega]
        rw [this]
        exact List.getElem_mem _
      refine ev_step (fun k => hL k _ _ _) (ev_itep (by omega) (ev_itep (by omega) (ev_bind (hF _ (by rw [Int.toNat_natCast]; exact hm)) (ev_itep (by simp; omega) ?_))))
      have := ih (i + 1) (by omega)
      have e := set_copy (mk (cv da)) z (l.map (fun x => mk (cv x))) i (by simpa using (by omega : i < l.length))
      rw [List.length_map, show l.length - i = d + 1 by omega, show l.length - (i + 1) = d by omega] at e
      have e2 : (l.map (fun x => mk (cv x))).getD i (mk (cv da)) = mk (cv (l.getD i da)) := by simp [List.getD, show i < l.length by omega]
      rw [wrap_id (by omega) (by omega), Int.toNat_natCast, ← e2, e]
      exact this
  have := key l.length 0 (by omega)
  simpa using this
theorem ev_eqloopE {α : Type} (L : Nat → List α → List α → Int → Option Bool) (l : List α) (hl : l.length ≤ 9223372036854775806)
    (h1 : ∀ i : Nat, i < l.length → Ev (fun k => L k l l (wrap64 ((i : Int) + 1))) true → Ev (fun k => L k l l (i : Int)) true)
    (h0 : ∀ k : Nat, L (k + 1) l l (l.length : Int) = some true) : Ev (fun k => L k l l 0) true := by
  have key : ∀ d i : Nat, i + d = l.length → Ev (fun k => L k l l (i : Int)) true := by
    intro d
    induction d with
    | zero =>
      intro i hi
      obtain rfl : i = l.length := by omega
      exact ev_step (fun k => h0 k) (ev_some rfl)
    | succ d ih =>
      intro i hi
      refine h1 i (by omega) ?_
      rw [wrap_id (by omega) (by omega)]
      exact ih (i + 1) (by omega)
  exact key l.length 0 (by omega)
theorem getD_mem {α : Type} (l : List α) (i : Nat) (z : α) (h : i < l.length) : l.getD i z ∈ l := by
  have : l.getD i z = l[i] := by simp [List.getD, h]
  rw [this]
  exact List.getElem_mem _
end Go.Proofs.Ytglpmjcknhcjcaa.PFnExactGroupReports
