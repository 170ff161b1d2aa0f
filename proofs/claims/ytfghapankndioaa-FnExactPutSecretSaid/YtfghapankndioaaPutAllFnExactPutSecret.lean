/- The plain laws that this claim needs, in one text. -/
import Derived.Test.YtfghapankndioaaStmFnExactPutSecret
import Derived.Test.YtfghapankndioaaEvLib
namespace Go.Proofs.Ytfghapankndioaa.PFnExactPutSecret
open Go.RowKit Go.Proofs.YtfghapankndioaaW.PrintWords Go.Proofs.YtfghapankndioaaW.PrintLast Go.Proofs.Ytfghapankndioaa.EvLib
abbrev LMark := S81
abbrev IMark := S67
def cvMark (x : LMark) : IMark := ⟨x.f0, x.f1⟩
theorem szMarkS_eq (l : List LMark) (h : l.length ≤ maxLen) (a : Int) (h0 : 0 ≤ a) (h1 : a ≤ 1048576) : laws_szMarkS.f l a = some (if (l.length : Int) ≤ a then a - l.length else -1) := by
  have := maxLen_le h
  unfold laws_szMarkS.f
  rw [wrap_id (by omega) (by omega)]
  by_cases c : (l.length : Int) ≤ a
  · rw [if_pos c, if_neg (by omega)]
  · rw [if_neg c, if_pos (by omega)]
theorem toMarkS_ev (l : List LMark) (hl : l.length ≤ 1048576) : Ev (fun k => laws_toMarkS.f k l) (l.map cvMark) := by
  unfold laws_toMarkS.f
  exact ev_itep (by omega) (ev_itep (by omega) (ev_copy laws_toMarkS.l0 cvMark z81 z67 (fun _ _ _ _ => rfl) l hl))
theorem eqMark_self (x : IMark) : laws_eqMark.f x.f0 x.f1 x.f0 x.f1 = some true := by simp [laws_eqMark.f]
theorem eqMarkS_ev (l : List IMark) (hl : l.length ≤ 1048576) : Ev (fun k => laws_eqMarkS.f k l l) true := by
  unfold laws_eqMarkS.f
  refine ev_itep rfl (ev_eqloop laws_eqMarkS.l0 (fun k l i hi => ?_) (fun k l => ?_) l (by omega))
  · simp only [laws_eqMarkS.l0]
    rw [if_pos (by omega), if_pos (by omega), if_pos (by omega), eqMark_self, Option.bind_some, if_pos rfl]
  · simp only [laws_eqMarkS.l0]
    rw [if_neg (by omega)]
end Go.Proofs.Ytfghapankndioaa.PFnExactPutSecret
namespace Go.Proofs.Ytfghapankndioaa.PFnExactPutSecret
open Go.RowKit Go.Proofs.YtfghapankndioaaW.PrintWords Go.Proofs.YtfghapankndioaaW.PrintLast Go.Proofs.Ytfghapankndioaa.EvLib
theorem ev_allE (L : Nat → Int → Option Bool) (n : Nat) (p : Nat → Bool) (fin : Bool) (hn : n ≤ 9223372036854775806)
    (hend : ∀ k, L (k + 1) (n : Int) = some fin)
    (hstep : ∀ i : Nat, i < n → ∀ r, Ev (fun k => L k (wrap64 ((i : Int) + 1))) r → Ev (fun k => L k (i : Int)) (p i && r)) :
    Ev (fun k => L k 0) ((List.range n).all p && fin) := by
  have key : ∀ d i : Nat, i + d = n → Ev (fun k => L k (i : Int)) ((List.range' i d).all p && fin) := by
    intro d
    induction d with
    | zero =>
      intro i hi
      obtain rfl : i = n := by omega
      exact ev_step hend (ev_some (by simp))
    | succ d ih =>
      intro i hi
      rw [List.range'_succ, List.all_cons, Bool.and_assoc]
      refine hstep i (by omega) _ ?_
      rw [wrap_id (by omega) (by omega)]
      exact ih (i + 1) (by omega)
  have := key n 0 (by omega)
  rw [← List.range_eq_range'] at this
  exact this
theorem ev_copyE {α β γ : Type} (L : Nat → List α → List β → Int → Option (List β)) (F : Nat → α → Option γ) (mk : γ → β) (cv : α → γ) (da : α) (z : β)
    (hL : ∀ k x0 x3 x4, L (k + 1) x0 x3 x4 = if x4 < (x0.length : Int) then (if 0 ≤ x4 then ((F k (x0.getD x4.toNat da)).bind fun b => (if x4 < (x3.length : Int) then (L k x0 (x3.set (x4 : Int).toNat (mk b)) (wrap64 (x4 + 1))) else none)) else none) else some x3)
    (l : List α) (hl : l.length ≤ 1048576) (hF : ∀ x ∈ l, Ev (fun k => F k x) (cv x)) : Ev (fun k => L k l (List.replicate l.length z) 0) (l.map (fun x => mk (cv x))) := by
  have key : ∀ d i : Nat, i + d = l.length → Ev (fun k => L k l ((l.map (fun x => mk (cv x))).take i ++ List.replicate d z) (i : Int)) (l.map (fun x => mk (cv x))) := by
    intro d
    induction d with
    | zero =>
      intro i hi
      refine ev_step (fun k => hL k _ _ _) (ev_iten (by omega) (ev_some ?_))
      rw [List.replicate_zero, List.append_nil, List.take_of_length_le (by simp; omega)]
    | succ d ih =>
      intro i hi
      have hm : l.getD i da ∈ l := by
        have : l.getD i da = l[i]'(by omega) := by simp [List.getD, show i < l.length by omega]
        rw [this]
        exact List.getElem_mem _
      refine ev_step (fun k => hL k _ _ _) (ev_itep (by omega) (ev_itep (by omega) (ev_bind (hF _ (by rw [Int.toNat_natCast]; exact hm)) (ev_itep (by simp; omega) ?_))))
      have := ih (i + 1) (by omega)
      have e := set_copy (mk (cv da)) z (l.map (fun x => mk (cv x))) i (by simpa using (by omega : i < l.length))
      rw [List.length_map, show l.length - i = d + 1 by omega, show l.length - (i + 1) = d by omega] at e
      have e2 : (l.map (fun x => mk (cv x))).getD i (mk (cv da)) = mk (cv (l.getD i da)) := by simp [List.getD, show i < l.length by omega]
      rw [wrap_id (by omega) (by omega), Int.toNat_natCast, ← e2, e]
      exact this
  have := key l.length 0 (by omega)
  simpa using this
theorem ev_eqloopE {α : Type} (L : Nat → List α → List α → Int → Option Bool) (l : List α) (hl : l.length ≤ 9223372036854775806)
    (h1 : ∀ i : Nat, i < l.length → Ev (fun k => L k l l (wrap64 ((i : Int) + 1))) true → Ev (fun k => L k l l (i : Int)) true)
    (h0 : ∀ k : Nat, L (k + 1) l l (l.length : Int) = some true) : Ev (fun k => L k l l 0) true := by
  have key : ∀ d i : Nat, i + d = l.length → Ev (fun k => L k l l (i : Int)) true := by
    intro d
    induction d with
    | zero =>
      intro i hi
      obtain rfl : i = l.length := by omega
      exact ev_step (fun k => h0 k) (ev_some rfl)
    | succ d ih =>
      intro i hi
      refine h1 i (by omega) ?_
      rw [wrap_id (by omega) (by omega)]
      exact ih (i + 1) (by omega)
  exact key l.length 0 (by omega)
theorem getD_mem {α : Type} (l : List α) (i : Nat) (z : α) (h : i < l.length) : l.getD i z ∈ l := by
  have : l.getD i z = l[i] := by simp [List.getD, h]
  rw [this]
  exact List.getElem_mem _
end Go.Proofs.Ytfghapankndioaa.PFnExactPutSecret
namespace Go.Proofs.Ytfghapankndioaa.PFnExactPutSecret
open Go.RowKit Go.Proofs.YtfghapankndioaaW.PrintWords Go.Proofs.YtfghapankndioaaW.PrintLast Go.Proofs.Ytfghapankndioaa.EvLib
abbrev LSecret := S31
abbrev ISecret := S36
def cvSecret (x : LSecret) : ISecret := ⟨x.f0, x.f1.map cvMark, x.f2⟩
theorem szSecret_eq (a b : Int) (l : List LMark) (h : l.length ≤ maxLen) (s : Int) (h0 : 0 ≤ s) (h1 : s ≤ 1048576) : laws_szSecret.f a l b s = some (if (l.length : Int) ≤ s then s - l.length else -1) := by
  unfold laws_szSecret.f
  rw [szMarkS_eq l h s h0 h1, Option.bind_some]
  by_cases c : (l.length : Int) ≤ s
  · rw [if_pos c, if_neg (by omega)]
  · rw [if_neg c, if_pos (by omega)]
theorem szSecretS_l0 (l : List LSecret) (hl : l.length ≤ 1048576) (hw : ∀ x ∈ l, x.f1.length ≤ maxLen) : ∀ (d i : Nat) (s : Int), i + d = l.length → 0 ≤ s → s ≤ 1048576 →
    ∃ r, Ev (fun k => laws_szSecretS.l0 k l s (i : Int)) r ∧ (0 ≤ r → ∀ x ∈ l.drop i, x.f1.length ≤ 1048576) := by
  intro d
  induction d with
  | zero =>
    intro i s hi _ _
    refine ⟨s, ?_, fun _ x hx => ?_⟩
    · refine ev_step (fun k => by simp only [laws_szSecretS.l0]; rfl) ?_
      exact ev_iten (by omega) (ev_some rfl)
    rw [List.drop_of_length_le (by omega)] at hx
    cases hx
  | succ d ih =>
    intro i s hi h0 h1
    have hr : rd_T31 l (i : Int) = l[i]'(by omega) := by
      unfold rd_T31
      rw [Int.toNat_natCast]
      simp [List.getD, show i < l.length by omega]
    have hb := szSecret_eq (l[i]'(by omega)).f0 (l[i]'(by omega)).f2 (l[i]'(by omega)).f1 (hw _ (List.getElem_mem _)) s h0 h1
    by_cases c : (((l[i]'(by omega)).f1.length : Nat) : Int) ≤ s
    · rw [if_pos c] at hb
      obtain ⟨r, h2, h3⟩ := ih (i + 1) (s - ((l[i]'(by omega)).f1.length : Nat)) (by omega) (by omega) (by omega)
      refine ⟨r, ?_, fun hr0 x hx => ?_⟩
      · refine ev_step (fun k => by simp only [laws_szSecretS.l0]; rfl) ?_
        refine ev_itep (by omega) (ev_itep (by omega) ?_)
        rw [hr]
        refine ev_bindc hb ?_
        refine ev_iten (by omega) ?_
        rw [wrap_id (by omega) (by omega)]
        exact h2
      · rw [List.drop_eq_getElem_cons (by omega)] at hx
        rcases List.mem_cons.1 hx with e | e
        · rw [e]; omega
        · exact h3 hr0 x e
    · rw [if_neg c] at hb
      refine ⟨-1, ?_, fun h => by omega⟩
      refine ev_step (fun k => by simp only [laws_szSecretS.l0]; rfl) ?_
      refine ev_itep (by omega) (ev_itep (by omega) ?_)
      rw [hr]
      refine ev_bindc hb ?_
      exact ev_itep (by omega) (ev_some rfl)
theorem szSecretS_ev (l : List LSecret) (h : l.length ≤ maxLen) (hw : ∀ x ∈ l, x.f1.length ≤ maxLen) : ∃ r, Ev (fun k => laws_szSecretS.f k l 1048576) r ∧ (0 ≤ r → l.length ≤ 1048576 ∧ ∀ x ∈ l, x.f1.length ≤ 1048576) := by
  have := maxLen_le h
  unfold laws_szSecretS.f
  rw [wrap_id (by omega) (by omega)]
  by_cases c : l.length ≤ 1048576
  · obtain ⟨r, h1, h2⟩ := szSecretS_l0 l c hw l.length 0 (1048576 - (l.length : Int)) (by omega) (by omega) (by omega)
    refine ⟨r, ?_, fun hr => ⟨c, h2 hr⟩⟩
    exact ev_iten (by omega) h1
  · refine ⟨-1, ?_, fun h => by omega⟩
    exact ev_itep (by omega) (ev_some rfl)
theorem toSecret_ev (a b : Int) (l : List LMark) (hl : l.length ≤ 1048576) : Ev (fun k => laws_toSecret.f k a l b) (a, l.map cvMark, b) := by
  unfold laws_toSecret.f
  exact ev_bind (toMarkS_ev l hl) (ev_some rfl)
theorem toSecretS_ev (l : List LSecret) (hl : l.length ≤ 1048576) (hm : ∀ x ∈ l, x.f1.length ≤ 1048576) : Ev (fun k => laws_toSecretS.f k l) (l.map cvSecret) := by
  unfold laws_toSecretS.f
  exact ev_itep (by omega) (ev_itep (by omega) (ev_copyE laws_toSecretS.l0 (fun k x => laws_toSecret.f k x.f0 x.f1 x.f2) (fun b => (⟨b.1, b.2.1, b.2.2⟩ : ISecret)) (fun x => (x.f0, x.f1.map cvMark, x.f2)) z31 z36 (fun _ _ _ _ => rfl) l hl (fun x hx => toSecret_ev _ _ _ (hm x hx))))
theorem eqSecret_self (a : Int) (l : List IMark) (b : Int) (hl : l.length ≤ 1048576) : Ev (fun k => laws_eqSecret.f k a l b a l b) true := by
  unfold laws_eqSecret.f
  exact ev_itep rfl (ev_bind (eqMarkS_ev l hl) (ev_itep rfl (ev_itep rfl (ev_some rfl))))
theorem eqSecretS_ev (l : List ISecret) (hl : l.length ≤ 1048576) (hm : ∀ x ∈ l, x.f1.length ≤ 1048576) : Ev (fun k => laws_eqSecretS.f k l l) true := by
  unfold laws_eqSecretS.f
  refine ev_itep rfl (ev_eqloopE laws_eqSecretS.l0 l (by omega) (fun i hi hr => ?_) (fun k => ?_))
  · refine ev_step (fun k => by simp only [laws_eqSecretS.l0]; rfl) (ev_itep (by omega) (ev_itep (by omega) (ev_itep (by omega) (ev_bind (eqSecret_self _ _ _ ?_) (ev_itep rfl hr)))))
    unfold rd_T36
    exact hm _ (getD_mem _ _ _ (by omega))
  · simp only [laws_eqSecretS.l0]
    rw [if_neg (by omega)]
theorem cvSecret_marks {l : List LSecret} (hm : ∀ x ∈ l, x.f1.length ≤ 1048576) : ∀ x ∈ l.map cvSecret, x.f1.length ≤ 1048576 := by
  intro x hx
  obtain ⟨y, hy, rfl⟩ := List.mem_map.1 hx
  simpa [cvSecret] using hm y hy
end Go.Proofs.Ytfghapankndioaa.PFnExactPutSecret
namespace Go.Proofs.Ytfghapankndioaa.PFnExactPutSecret
open Go.RowKit Go.Proofs.YtfghapankndioaaW.PrintWords Go.Proofs.YtfghapankndioaaW.PrintLast Go.Proofs.Ytfghapankndioaa.EvLib
theorem szSecretA_l0 (l : List LSecret) (hl : l.length ≤ 1048576) (hw : ∀ x ∈ l, x.f1.length ≤ maxLen) : ∀ (d i : Nat) (s : Int), i + d = l.length → 0 ≤ s → s ≤ 1048576 →
    ∃ r, Ev (fun k => laws_szSecretS.l0 k l s (i : Int)) r ∧ (0 ≤ r → ∀ x ∈ l.drop i, x.f1.length ≤ 1048576) ∧ r ≤ s := by
  intro d
  induction d with
  | zero =>
    intro i s hi _ _
    refine ⟨s, ?_, fun _ x hx => ?_, Int.le_refl _⟩
    · refine ev_step (fun k => by simp only [laws_szSecretS.l0]; rfl) ?_
      exact ev_iten (by omega) (ev_some rfl)
    rw [List.drop_of_length_le (by omega)] at hx
    cases hx
  | succ d ih =>
    intro i s hi h0 h1
    have hr : rd_T31 l (i : Int) = l[i]'(by omega) := by
      unfold rd_T31
      rw [Int.toNat_natCast]
      simp [List.getD, show i < l.length by omega]
    have hb := szSecret_eq (l[i]'(by omega)).f0 (l[i]'(by omega)).f2 (l[i]'(by omega)).f1 (hw _ (List.getElem_mem _)) s h0 h1
    by_cases c : (((l[i]'(by omega)).f1.length : Nat) : Int) ≤ s
    · rw [if_pos c] at hb
      obtain ⟨r, h2, h3, h4⟩ := ih (i + 1) (s - ((l[i]'(by omega)).f1.length : Nat)) (by omega) (by omega) (by omega)
      refine ⟨r, ?_, fun hr0 x hx => ?_, by omega⟩
      · refine ev_step (fun k => by simp only [laws_szSecretS.l0]; rfl) ?_
        refine ev_itep (by omega) (ev_itep (by omega) ?_)
        rw [hr]
        refine ev_bindc hb ?_
        refine ev_iten (by omega) ?_
        rw [wrap_id (by omega) (by omega)]
        exact h2
      · rw [List.drop_eq_getElem_cons (by omega)] at hx
        rcases List.mem_cons.1 hx with e | e
        · rw [e]; omega
        · exact h3 hr0 x e
    · rw [if_neg c] at hb
      refine ⟨-1, ?_, fun h => by omega, by omega⟩
      refine ev_step (fun k => by simp only [laws_szSecretS.l0]; rfl) ?_
      refine ev_itep (by omega) (ev_itep (by omega) ?_)
      rw [hr]
      refine ev_bindc hb ?_
      exact ev_itep (by omega) (ev_some rfl)
theorem szSecretA_ev (l : List LSecret) (h : l.length ≤ maxLen) (hw : ∀ x ∈ l, x.f1.length ≤ maxLen) (s : Int) (s0 : 0 ≤ s) (s1 : s ≤ 1048576) : ∃ r, Ev (fun k => laws_szSecretS.f k l s) r ∧ (0 ≤ r → l.length ≤ 1048576 ∧ ∀ x ∈ l, x.f1.length ≤ 1048576) ∧ r ≤ 1048576 := by
  have := maxLen_le h
  unfold laws_szSecretS.f
  rw [wrap_id (by omega) (by omega)]
  by_cases c : (l.length : Int) ≤ s
  · obtain ⟨r, h1, h2, h3⟩ := szSecretA_l0 l (by omega) hw l.length 0 (s - (l.length : Int)) (by omega) (by omega) (by omega)
    refine ⟨r, ?_, fun hr => ⟨by omega, h2 hr⟩, by omega⟩
    exact ev_iten (by omega) h1
  · refine ⟨-1, ?_, fun h => by omega, by omega⟩
    exact ev_itep (by omega) (ev_some rfl)
end Go.Proofs.Ytfghapankndioaa.PFnExactPutSecret
namespace Go.Proofs.Ytfghapankndioaa.PFnExactPutSecret
open Go.RowKit
theorem inRange_eq (a b c : Int) : impl_InRange.f a b c = some (decide (b ≤ a ∧ a ≤ c)) := by unfold impl_InRange.f; split <;> simp [*]
end Go.Proofs.Ytfghapankndioaa.PFnExactPutSecret
namespace Go.Proofs.Ytfghapankndioaa.PFnExactPutSecret
open Go.RowKit
theorem l1In_eq (a b c : Int) : spec_l1In.f a b c = some (decide (b ≤ a ∧ a ≤ c)) := by unfold spec_l1In.f; split <;> simp [*]
end Go.Proofs.Ytfghapankndioaa.PFnExactPutSecret
namespace Go.Proofs.Ytfghapankndioaa.PFnExactPutSecret
open Go.RowKit Go.Proofs.YtfghapankndioaaW.PrintWords Go.Proofs.YtfghapankndioaaW.PrintLast Go.Proofs.Ytfghapankndioaa.EvLib
def mkx (l : List IMark) (i : Nat) : IMark := l.getD i z67
theorem rd_mkx (l : List IMark) (i : Nat) : rd_T67 l (i : Int) = mkx l i := by unfold rd_T67 mkx; rw [Int.toNat_natCast]
theorem drop_mkx (l : List IMark) (i : Nat) (h : i < l.length) : l.drop i = mkx l i :: l.drop (i + 1) := by
  rw [List.drop_eq_getElem_cons h]
  simp [mkx, List.getD, h]
def mkOk (l : List IMark) (i : Nat) : Bool := decide (1 ≤ (mkx l i).f0 ∧ (mkx l i).f0 ≤ 20) && (decide (0 ≤ (mkx l i).f1 ∧ (mkx l i).f1 ≤ 99) && (decide (i = 0) || decide ((mkx l (i - 1)).f0 < (mkx l i).f0)))
def areMk (l : List IMark) : Bool := (List.range l.length).all (mkOk l) && decide (l.length ≤ 8)
def mkv (x : IMark) : List Int := [x.f0, x.f1]
def sealIn (l : List IMark) (salt : Int) : List Int := [salt] ++ l.flatMap mkv
theorem sealIn_len (l : List IMark) (salt : Int) : (sealIn l salt).length = 1 + 2 * l.length := by
  have : ∀ l : List IMark, (l.flatMap mkv).length = 2 * l.length := by
    intro l
    induction l with
    | nil => rfl
    | cons x l ih => rw [List.flatMap_cons, List.length_append, ih, List.length_cons]; simp [mkv]; omega
  unfold sealIn
  rw [List.length_append, this]
  simp
end Go.Proofs.Ytfghapankndioaa.PFnExactPutSecret
namespace Go.Proofs.Ytfghapankndioaa.PFnExactPutSecret
open Go.RowKit Go.Proofs.YtfghapankndioaaW.PrintWords Go.Proofs.YtfghapankndioaaW.PrintLast Go.Proofs.Ytfghapankndioaa.EvLib
theorem implAreMarks_ev (l : List IMark) (hl : l.length ≤ 1048576) : Ev (fun k => impl_AreMarks.f k l) (areMk l) := by
  unfold impl_AreMarks.f
  refine ev_ite (fun h => ev_some ?_) (fun h => ev_eq (ev_all (fun k i => impl_AreMarks.l0 k l l (l.length : Int) i) l.length (mkOk l) true (by omega) (fun k => ?_) (fun k i hi => ?_)) ?_)
  · unfold areMk
    rw [decide_eq_false (by omega), Bool.and_false]
  · simp only [impl_AreMarks.l0]
    rw [if_neg (by omega)]
  · simp only [impl_AreMarks.l0, rd_mkx, inRange_eq, Option.bind_some]
    rw [if_pos (by omega), if_pos (by omega), if_pos (by omega)]
    unfold mkOk
    by_cases h1 : 1 ≤ (mkx l i).f0 ∧ (mkx l i).f0 ≤ 20
    · by_cases h2 : 0 ≤ (mkx l i).f1 ∧ (mkx l i).f1 ≤ 99
      · by_cases h4 : i = 0
        · subst h4
          simp [h1, h2]
        · have e : wrap64 ((i : Int) - 1) = ((i - 1 : Nat) : Int) := by rw [wrap_id (by omega) (by omega)]; omega
          rw [e, rd_mkx]
          have g1 : 0 < i := by omega
          have g2 : i - 1 < l.length := by omega
          by_cases h5 : (mkx l (i - 1)).f0 < (mkx l i).f0
          · have g5 : ¬ (mkx l i).f0 ≤ (mkx l (i - 1)).f0 := by omega
            simp [h1, h2, h4, h5, g1, g2, g5]
          · have g5 : (mkx l i).f0 ≤ (mkx l (i - 1)).f0 := by omega
            simp [h1, h2, h4, h5, g1, g2, g5]
      · simp [h1, h2]
    · simp [h1]
  · unfold areMk
    rw [decide_eq_true (by omega)]
end Go.Proofs.Ytfghapankndioaa.PFnExactPutSecret
namespace Go.Proofs.Ytfghapankndioaa.PFnExactPutSecret
open Go.RowKit Go.Proofs.YtfghapankndioaaW.PrintWords Go.Proofs.YtfghapankndioaaW.PrintLast Go.Proofs.Ytfghapankndioaa.EvLib
theorem specAreMarks_ev (l : List IMark) (hl : l.length ≤ 1048576) : Ev (fun k => spec_AreMarks.f k l) (areMk l) := by
  unfold spec_AreMarks.f
  refine ev_eq (ev_all (fun k i => spec_AreMarks.l0 k l i) l.length (mkOk l) (decide ((l.length : Int) ≤ 8)) (by omega) (fun k => ?_) (fun k i hi => ?_)) ?_
  · simp only [spec_AreMarks.l0]
    rw [if_neg (by omega)]
  · simp only [spec_AreMarks.l0, rd_mkx, l1In_eq, Option.bind_some]
    rw [if_pos (by omega), if_pos (by omega)]
    unfold mkOk
    by_cases h1 : 1 ≤ (mkx l i).f0 ∧ (mkx l i).f0 ≤ 20
    · by_cases h2 : 0 ≤ (mkx l i).f1 ∧ (mkx l i).f1 ≤ 99
      · by_cases h4 : i = 0
        · subst h4
          simp [h1, h2]
        · have e : wrap64 ((i : Int) - 1) = ((i - 1 : Nat) : Int) := by rw [wrap_id (by omega) (by omega)]; omega
          rw [e, rd_mkx]
          have g1 : 0 < i := by omega
          have g2 : i - 1 < l.length := by omega
          by_cases h5 : (mkx l (i - 1)).f0 < (mkx l i).f0
          · have g5 : ¬ (mkx l i).f0 ≤ (mkx l (i - 1)).f0 := by omega
            simp [h1, h2, h4, h5, g1, g2, g5]
          · have g5 : (mkx l i).f0 ≤ (mkx l (i - 1)).f0 := by omega
            simp [h1, h2, h4, h5, g1, g2, g5]
      · simp [h1, h2]
    · simp [h1]
  · unfold areMk
    congr 1
    rw [decide_eq_decide]; omega
end Go.Proofs.Ytfghapankndioaa.PFnExactPutSecret
namespace Go.Proofs.Ytfghapankndioaa.PFnExactPutSecret
open Go.RowKit Go.Proofs.YtfghapankndioaaW.PrintWords Go.Proofs.YtfghapankndioaaW.PrintLast Go.Proofs.Ytfghapankndioaa.EvLib
def sec (l : List ISecret) (i : Nat) : ISecret := l.getD i z36
theorem rd_sec (l : List ISecret) (i : Nat) : rd_T36 l (i : Int) = sec l i := by unfold rd_T36 sec; rw [Int.toNat_natCast]
theorem sec_mem (l : List ISecret) (i : Nat) (h : i < l.length) : sec l i ∈ l := getD_mem _ _ _ h
def secIn (l : List ISecret) (i : Nat) : Bool := decide ((sec l i).f1.length ≠ 0) && (areMk (sec l i).f1 && decide (0 ≤ (sec l i).f2 ∧ (sec l i).f2 ≤ 1000000))
def secUp (l : List ISecret) (i : Nat) : Bool := decide (i = 0) || decide ((sec l (i - 1)).f0 < (sec l i).f0)
def secOk (l : List ISecret) (i : Nat) : Bool := decide (1 ≤ (sec l i).f0 ∧ (sec l i).f0 ≤ 999) && (secUp l i && secIn l i)
def areSec (l : List ISecret) : Bool := (List.range l.length).all (secOk l) && decide (l.length ≤ 20)
end Go.Proofs.Ytfghapankndioaa.PFnExactPutSecret
namespace Go.Proofs.Ytfghapankndioaa.PFnExactPutSecret
open Go.RowKit Go.Proofs.YtfghapankndioaaW.PrintWords Go.Proofs.YtfghapankndioaaW.PrintLast Go.Proofs.Ytfghapankndioaa.EvLib
theorem implAreSecrets_ev (l : List ISecret) (hl : l.length ≤ 2000000) (hm : ∀ x ∈ l, x.f1.length ≤ 1048576) : Ev (fun k => impl_AreSecrets.f k l) (areSec l) := by
  unfold impl_AreSecrets.f
  refine ev_ite (fun h => ev_some ?_) (fun h => ev_eq (ev_allE (fun k i => impl_AreSecrets.l0 k l l (l.length : Int) i) l.length (secOk l) true (by omega) (fun k => ?_) (fun i hi r hr => ?_)) ?_)
  · unfold areSec
    rw [decide_eq_false (by omega), Bool.and_false]
  · simp only [impl_AreSecrets.l0]
    rw [if_neg (by omega)]
  · refine ev_step (fun k => by simp only [impl_AreSecrets.l0]; rfl) (ev_itep (by omega) (ev_itep (by omega) (ev_itep (by omega) ?_)))
    have hml := hm _ (sec_mem l i hi)
    have tail : Ev (fun k => if ((sec l i).f1.length : Int) = 0 then some false else (impl_AreMarks.f k (sec l i).f1).bind fun t => if t = true then (impl_InRange.f (sec l i).f2 0 1000000).bind fun t => if t = true then impl_AreSecrets.l0 k l l (l.length : Int) (wrap64 ((i : Int) + 1)) else some false else some false) (secIn l i && r) := by
      refine ev_ite (fun c => ev_some ?_) (fun c => ev_bind (implAreMarks_ev _ hml) (ev_ite (fun c2 => ev_bindc (inRange_eq _ _ _) (ev_ite (fun c3 => ?_) (fun c3 => ev_some ?_))) (fun c2 => ev_some ?_)))
      · unfold secIn; rw [decide_eq_false (by omega)]; rfl
      · unfold secIn; rw [decide_eq_true (by omega), c2, c3]; exact hr
      · unfold secIn; rw [Bool.eq_false_iff.mpr c3]; simp
      · unfold secIn; rw [Bool.eq_false_iff.mpr c2]; simp
    simp only [rd_sec]
    refine ev_bindc (inRange_eq _ _ _) (ev_ite (fun c1 => ev_ite (fun c2 => ?_) (fun c2 => ?_)) (fun c1 => ev_some ?_))
    · have e : wrap64 ((i : Int) - 1) = ((i - 1 : Nat) : Int) := by rw [wrap_id (by omega) (by omega)]; omega
      simp only [e, rd_sec]
      refine ev_itep (by omega) (ev_itep (by omega) (ev_ite (fun c3 => ev_some ?_) (fun c3 => ev_eq tail ?_)))
      · unfold secOk secUp; rw [decide_eq_false (show ¬ i = 0 by omega), decide_eq_false (show ¬ (sec l (i - 1)).f0 < (sec l i).f0 by omega)]; simp
      · unfold secOk secUp; rw [decide_eq_false (show ¬ i = 0 by omega), decide_eq_true (show (sec l (i - 1)).f0 < (sec l i).f0 by omega), c1]; rfl
    · refine ev_eq tail ?_
      unfold secOk secUp; rw [decide_eq_true (show i = 0 by omega), c1]; rfl
    · unfold secOk; rw [Bool.eq_false_iff.mpr c1]; rfl
  · unfold areSec
    rw [decide_eq_true (by omega)]
end Go.Proofs.Ytfghapankndioaa.PFnExactPutSecret
namespace Go.Proofs.Ytfghapankndioaa.PFnExactPutSecret
open Go.RowKit Go.Proofs.YtfghapankndioaaW.PrintWords Go.Proofs.YtfghapankndioaaW.PrintLast Go.Proofs.Ytfghapankndioaa.EvLib
theorem specAreSecrets_ev (l : List ISecret) (hl : l.length ≤ 2000000) (hm : ∀ x ∈ l, x.f1.length ≤ 1048576) : Ev (fun k => spec_AreSecrets.f k l) (areSec l) := by
  unfold spec_AreSecrets.f
  refine ev_eq (ev_allE (fun k i => spec_AreSecrets.l0 k l i) l.length (secOk l) (decide ((l.length : Int) ≤ 20)) (by omega) (fun k => ?_) (fun i hi r hr => ?_)) ?_
  · simp only [spec_AreSecrets.l0]
    rw [if_neg (by omega)]
  · refine ev_step (fun k => by simp only [spec_AreSecrets.l0]; rfl) (ev_itep (by omega) (ev_itep (by omega) ?_))
    have hml := hm _ (sec_mem l i hi)
    simp only [rd_sec]
    refine ev_bindc (l1In_eq _ _ _) (ev_ite (fun c1 => ev_bind (specAreMarks_ev _ hml) (ev_ite (fun c2 => ev_ite (fun c3 => ev_some ?_) (fun c3 => ev_bindc (l1In_eq _ _ _) (ev_ite (fun c4 => ev_ite (fun c5 => ?_) (fun c5 => ?_)) (fun c4 => ev_some ?_)))) (fun c2 => ev_some ?_))) (fun c1 => ev_some ?_))
    · unfold secOk secIn; rw [decide_eq_false (show ¬ (sec l i).f1.length ≠ 0 by omega)]; simp
    · have e : wrap64 ((i : Int) - 1) = ((i - 1 : Nat) : Int) := by rw [wrap_id (by omega) (by omega)]; omega
      simp only [e, rd_sec]
      refine ev_itep (by omega) (ev_itep (by omega) (ev_ite (fun c6 => ev_some ?_) (fun c6 => ev_eq hr ?_)))
      · unfold secOk secUp; rw [decide_eq_false (show ¬ i = 0 by omega), decide_eq_false (show ¬ (sec l (i - 1)).f0 < (sec l i).f0 by omega)]; simp
      · unfold secOk secUp secIn; rw [decide_eq_false (show ¬ i = 0 by omega), decide_eq_true (show (sec l (i - 1)).f0 < (sec l i).f0 by omega), c1, c2, c4, decide_eq_true (show (sec l i).f1.length ≠ 0 by omega)]; rfl
    · refine ev_eq hr ?_
      unfold secOk secUp secIn; rw [decide_eq_true (show i = 0 by omega), c1, c2, c4, decide_eq_true (show (sec l i).f1.length ≠ 0 by omega)]; rfl
    · unfold secOk secIn; rw [Bool.eq_false_iff.mpr c4]; simp
    · unfold secOk secIn; rw [Bool.eq_false_iff.mpr c2]; simp
    · unfold secOk; rw [Bool.eq_false_iff.mpr c1]; rfl
  · unfold areSec
    congr 1
    rw [decide_eq_decide]; omega
end Go.Proofs.Ytfghapankndioaa.PFnExactPutSecret
namespace Go.Proofs.Ytfghapankndioaa.PFnExactPutSecret
open Go.RowKit Go.Proofs.YtfghapankndioaaW.PrintWords Go.Proofs.YtfghapankndioaaW.PrintLast Go.Proofs.Ytfghapankndioaa.EvLib
/-- d elements with running numbers. -/
def markedMark : Nat → Int → List IMark
  | 0, _ => []
  | d + 1, q => ⟨q, q + 1⟩ :: markedMark d (q + 1 + 1)
theorem markedMark_len : ∀ (d : Nat) (q : Int), (markedMark d q).length = d
  | 0, _ => rfl
  | d + 1, q => by rw [markedMark, List.length_cons, markedMark_len d]
theorem markMarkS_l0 : ∀ (d i : Nat) (l : List IMark) (q : Int), i + d = l.length → l.length ≤ 1048576 → 0 ≤ q → q ≤ 1000000000000000 + 2 * (i : Int) →
    Ev (fun k => laws_markMarkS.l0 k l q (i : Int)) (q + 2 * (d : Int), l.take i ++ markedMark d q) := by
  intro d
  induction d with
  | zero =>
    intro i l q hi hl h0 h1
    refine ev_step (fun k => by simp only [laws_markMarkS.l0]; rfl) (ev_iten (by omega) (ev_some ?_))
    rw [List.take_of_length_le (by omega)]
    simp [markedMark]
  | succ d ih =>
    intro i l q hi hl h0 h1
    have r1 : ∀ v, rd_T67 (l.set i v) (i : Int) = v := fun v => by
      unfold rd_T67
      rw [Int.toNat_natCast, List.getD_eq_getElem?_getD, List.getElem?_set_self (by omega)]
      rfl
    have w0 : wrap64 (q + 1) = q + 1 := wrap_id (by omega) (by omega)
    have w1 : wrap64 (q + 1 + 1) = q + 1 + 1 := wrap_id (by omega) (by omega)
    have e : ∀ k, laws_markMarkS.l0 (k + 1) l q (i : Int) = laws_markMarkS.l0 k (l.set i ⟨q, q + 1⟩) (q + 1 + 1) ((i + 1 : Nat) : Int) := fun k => by
      simp only [laws_markMarkS.l0]
      rw [if_pos (by omega), if_pos (by omega)]
      simp only [Option.bind_some, Int.toNat_natCast, List.set_set, r1, w0, w1, wrap_id (x := (i : Int) + 1) (by omega) (by omega)]
      rfl
    refine ev_step e (ev_eq (ih (i + 1) _ _ (by rw [List.length_set]; omega) (by rw [List.length_set]; exact hl) (by omega) (by omega)) ?_)
    rw [markedMark, List.take_succ_eq_append_getElem (by rw [List.length_set]; omega), List.take_set_of_le (Nat.le_refl _), List.getElem_set_self, List.append_assoc, List.singleton_append]
    congr 1
    omega
theorem markMarkS_ev (l : List IMark) (hl : l.length ≤ 1048576) : Ev (fun k => laws_markMarkS.f k l 1) (1 + 2 * (l.length : Int), markedMark l.length 1) := by
  unfold laws_markMarkS.f
  exact markMarkS_l0 l.length 0 l 1 (by omega) hl (by omega) (by omega)
theorem heldMarkS_l0 : ∀ (d i : Nat) (l : List IMark) (q : Int), i + d = l.length → l.length ≤ 1048576 → 0 ≤ q → q ≤ 1000000000000000 + 2 * (i : Int) → l.drop i = markedMark d q →
    Ev (fun k => laws_heldMarkS.l0 k l q (i : Int)) (q + 2 * (d : Int)) := by
  intro d
  induction d with
  | zero =>
    intro i l q hi hl h0 h1 _
    exact ev_step (fun k => by simp only [laws_heldMarkS.l0]; rfl) (ev_iten (by omega) (ev_some (by simp)))
  | succ d ih =>
    intro i l q hi hl h0 h1 hm
    rw [markedMark, List.drop_eq_getElem_cons (by omega)] at hm
    injection hm with hm1 hm2
    have r1 : rd_T67 l (i : Int) = ⟨q, q + 1⟩ := by
      unfold rd_T67
      rw [Int.toNat_natCast, List.getD_eq_getElem?_getD, List.getElem?_eq_getElem (by omega), Option.getD_some, hm1]
    have w0 : wrap64 (q + 1) = q + 1 := wrap_id (by omega) (by omega)
    have w1 : wrap64 (q + 1 + 1) = q + 1 + 1 := wrap_id (by omega) (by omega)
    have e : ∀ k, laws_heldMarkS.l0 (k + 1) l q (i : Int) = laws_heldMarkS.l0 k l (q + 1 + 1) ((i + 1 : Nat) : Int) := fun k => by
      simp only [laws_heldMarkS.l0]
      rw [if_pos (by omega), if_pos (by omega)]
      simp only [r1, w0, w1, wrap_id (x := (i : Int) + 1) (by omega) (by omega), if_true]
      rfl
    exact ev_step e (ev_eq (ih (i + 1) l _ (by omega) hl (by omega) (by omega) hm2) (by omega))
theorem heldMarkS_ev (n : Nat) (hn : n ≤ 1048576) : Ev (fun k => laws_heldMarkS.f k (markedMark n 1) 1) (1 + 2 * (n : Int)) := by
  unfold laws_heldMarkS.f
  exact heldMarkS_l0 n 0 (markedMark n 1) 1 (by rw [markedMark_len]; omega) (by rw [markedMark_len]; exact hn) (by omega) (by omega) rfl
theorem markMarkS_at (l : List IMark) (hl : l.length ≤ 1048576) (q : Int) (h0 : 0 ≤ q) (h1 : q ≤ 1000000000000000) : Ev (fun k => laws_markMarkS.f k l q) (q + 2 * (l.length : Int), markedMark l.length q) := by
  unfold laws_markMarkS.f
  exact markMarkS_l0 l.length 0 l q (by omega) hl h0 (by omega)
end Go.Proofs.Ytfghapankndioaa.PFnExactPutSecret
namespace Go.Proofs.Ytfghapankndioaa.PFnExactPutSecret
open Go.RowKit Go.Proofs.YtfghapankndioaaW.PrintWords Go.Proofs.YtfghapankndioaaW.PrintLast Go.Proofs.Ytfghapankndioaa.EvLib
def SmallS (l : List ISecret) : Prop := l.length ≤ 1048576 ∧ ∀ x ∈ l, x.f1.length ≤ 1048576
theorem small_take {l : List ISecret} (h : SmallS l) (i : Nat) : SmallS (l.take i) := ⟨by rw [List.length_take]; have := h.1; omega, fun x hx => h.2 x (List.mem_of_mem_take hx)⟩
theorem small_drop {l : List ISecret} (h : SmallS l) (i : Nat) : SmallS (l.drop i) := ⟨by rw [List.length_drop]; have := h.1; omega, fun x hx => h.2 x (List.mem_of_mem_drop hx)⟩
theorem take_sec (l : List ISecret) (i : Nat) (h : i < l.length) : l.take i ++ [sec l i] = l.take (i + 1) := by
  rw [List.take_succ_eq_append_getElem h]
  congr 2
  unfold sec
  rw [List.getD_eq_getElem?_getD, List.getElem?_eq_getElem h, Option.getD_some]
theorem drop_sec (l : List ISecret) (i : Nat) (h : i < l.length) : l.drop i = sec l i :: l.drop (i + 1) := by
  rw [List.drop_eq_getElem_cons h]
  congr 1
  unfold sec
  rw [List.getD_eq_getElem?_getD, List.getElem?_eq_getElem h, Option.getD_some]
theorem clone_l0 (l : List ISecret) (h : SmallS l) : ∀ (d i : Nat), i + d = l.length → Ev (fun k => impl_cloneSecrets.l0 k (l.take i) l (l.length : Int) (i : Int)) l := by
  have hl := h.1
  intro d
  induction d with
  | zero =>
    intro i hi
    exact ev_step (fun k => by simp only [impl_cloneSecrets.l0]; rfl) (ev_iten (by omega) (ev_some (List.take_of_length_le (by omega))))
  | succ d ih =>
    intro i hi
    have hil : i < l.length := by omega
    have hm := h.2 _ (sec_mem l i hil)
    refine ev_step (fun k => by simp only [impl_cloneSecrets.l0]; rfl) (ev_itep (by omega) (ev_itep (by omega) (ev_itep (by omega) ?_)))
    simp only [rd_sec, wrap_id (x := (i : Int) + 1) (by omega) (by omega)]
    refine ev_bindc (a := (sec l i).f1) (by unfold impl_Mark.f; rw [if_pos (by omega)]) (ev_itep (by rw [List.length_take]; omega) ?_)
    have e : l.take i ++ [(⟨(sec l i).f0, (sec l i).f1, (sec l i).f2⟩ : ISecret)] = l.take (i + 1) := take_sec l i hil
    rw [e]
    exact ih (i + 1) (by omega)
theorem clone_ev (l : List ISecret) (h : SmallS l) : Ev (fun k => impl_cloneSecrets.f k l) l := by
  unfold impl_cloneSecrets.f
  exact clone_l0 l h l.length 0 (by omega)
theorem copy_l0 (l : List ISecret) (h : SmallS l) : ∀ (d i : Nat), i + d = l.length → Ev (fun k => spec_l31Copy.l0 k l (l.take i) (i : Int)) l := by
  have hl := h.1
  intro d
  induction d with
  | zero =>
    intro i hi
    exact ev_step (fun k => by simp only [spec_l31Copy.l0]; rfl) (ev_iten (by omega) (ev_some (List.take_of_length_le (by omega))))
  | succ d ih =>
    intro i hi
    have hil : i < l.length := by omega
    have hm := h.2 _ (sec_mem l i hil)
    refine ev_step (fun k => by simp only [spec_l31Copy.l0]; rfl) (ev_itep (by omega) (ev_itep (by omega) ?_))
    simp only [rd_sec, wrap_id (x := (i : Int) + 1) (by omega) (by omega)]
    refine ev_bindc rfl (ev_itep (by simp; omega) (ev_itep (by rw [List.length_take]; omega) ?_))
    have e : l.take i ++ [(⟨(sec l i).f0, [] ++ (sec l i).f1, (sec l i).f2⟩ : ISecret)] = l.take (i + 1) := by
      rw [List.nil_append]
      exact take_sec l i hil
    rw [e]
    exact ih (i + 1) (by omega)
theorem copy_ev (l : List ISecret) (h : SmallS l) : Ev (fun k => spec_l31Copy.f k l) l := by
  unfold spec_l31Copy.f
  exact copy_l0 l h l.length 0 (by omega)
theorem pos_le_ : ∀ (l : List ISecret) (t : Int), impl_PutSecret.pos l t ≤ l.length
  | [], _ => Nat.le_refl _
  | y :: l, t => by
    rw [impl_PutSecret.pos]
    split
    · rw [List.length_cons]; exact Nat.succ_le_succ (pos_le_ l t)
    · exact Nat.zero_le _
theorem spec_seek (l : List ISecret) (hl : l.length ≤ 1048576) (a : Int) (m : List IMark) (s : Int) (r : List ISecret × Bool) : ∀ (d i : Nat), i + d = l.length → Ev (fun k => spec_PutSecret.j1 k l ((i + impl_PutSecret.pos (l.drop i) a : Nat) : Int) a m s) r → Ev (fun k => spec_PutSecret.l0 k l (i : Int) a m s) r := by
  intro d
  induction d with
  | zero =>
    intro i hi hr
    rw [List.drop_of_length_le (by omega), impl_PutSecret.pos, Nat.add_zero] at hr
    exact ev_step (fun k => by simp only [spec_PutSecret.l0]; rfl) (ev_iten (by omega) hr)
  | succ d ih =>
    intro i hi hr
    rw [drop_sec l i (by omega), impl_PutSecret.pos] at hr
    refine ev_step (fun k => by simp only [spec_PutSecret.l0]; rfl) (ev_itep (by omega) (ev_itep (by omega) ?_))
    simp only [rd_sec, wrap_id (x := (i : Int) + 1) (by omega) (by omega)]
    refine ev_ite (fun c => ?_) (fun c => ?_)
    · rw [if_pos c, show i + (impl_PutSecret.pos (l.drop (i + 1)) a + 1) = i + 1 + impl_PutSecret.pos (l.drop (i + 1)) a by omega] at hr
      exact ih (i + 1) (by omega) hr
    · rw [if_neg c, Nat.add_zero] at hr
      exact hr
theorem areSec_lt {l : List ISecret} (h : areSec l = true) : ∀ (d a : Nat), a + d + 1 < l.length → (sec l a).f0 < (sec l (a + d + 1)).f0 := by
  have hs : ∀ i, i < l.length → i ≠ 0 → (sec l (i - 1)).f0 < (sec l i).f0 := by
    intro i hi h0
    unfold areSec at h
    rw [Bool.and_eq_true, List.all_eq_true] at h
    have := h.1 i (List.mem_range.2 hi)
    unfold secOk secUp at this
    simp only [Bool.and_eq_true, Bool.or_eq_true, decide_eq_true_eq] at this
    rcases this.2.1 with e | e
    · exact absurd e h0
    · exact e
  intro d
  induction d with
  | zero => intro a ha; exact hs (a + 0 + 1) (by omega) (by omega)
  | succ d ih =>
    intro a ha
    have h1 := ih a (by omega)
    have h2 := hs (a + (d + 1) + 1) (by omega) (by omega)
    rw [show a + (d + 1) + 1 - 1 = a + d + 1 by omega] at h2
    omega
theorem areSec_ne {l : List ISecret} (h : areSec l = true) (i j : Nat) (hi : i < l.length) (hj : j < l.length) (hn : i ≠ j) : (sec l i).f0 ≠ (sec l j).f0 := by
  by_cases c : i < j
  · have := areSec_lt h (j - i - 1) i (by omega)
    rw [show i + (j - i - 1) + 1 = j by omega] at this
    omega
  · have := areSec_lt h (i - j - 1) j (by omega)
    rw [show j + (i - j - 1) + 1 = i by omega] at this
    omega
/-- The row with x set in at place j. -/
def put (l : List ISecret) (j : Nat) (x : ISecret) : List ISecret := l.take j ++ x :: l.drop j
theorem put_len (l : List ISecret) (j : Nat) (h : j ≤ l.length) (x : ISecret) : (put l j x).length = l.length + 1 := by
  unfold put
  rw [List.length_append, List.length_take, List.length_cons, List.length_drop]; omega
theorem put_mem {l : List ISecret} {j : Nat} {x y : ISecret} (h : y ∈ put l j x) : y = x ∨ y ∈ l := by
  unfold put at h
  rw [List.mem_append, List.mem_cons] at h
  rcases h with hx | rfl | hx
  · exact .inr (List.mem_of_mem_take hx)
  · exact .inl rfl
  · exact .inr (List.mem_of_mem_drop hx)
theorem put_at (l : List ISecret) (j : Nat) (h : j ≤ l.length) (x : ISecret) : sec (put l j x) j = x := by
  unfold sec put
  have e : (l.take j).length = j := by rw [List.length_take]; omega
  rw [List.getD_eq_getElem?_getD, List.getElem?_append_right (by omega), e, Nat.sub_self, List.getElem?_cons_zero, Option.getD_some]
theorem put_lt (l : List ISecret) (j : Nat) (h : j ≤ l.length) (x : ISecret) (p : Nat) (hp : p < j) : sec (put l j x) p = sec l p := by
  unfold sec put
  have e : (l.take j).length = j := by rw [List.length_take]; omega
  rw [List.getD_eq_getElem?_getD, List.getD_eq_getElem?_getD, List.getElem?_append_left (by omega), List.getElem?_take_of_lt hp]
theorem put_ge (l : List ISecret) (j : Nat) (h : j ≤ l.length) (x : ISecret) (p : Nat) (hp : j ≤ p) : sec (put l j x) (p + 1) = sec l p := by
  unfold sec put
  have e : (l.take j).length = j := by rw [List.length_take]; omega
  rw [List.getD_eq_getElem?_getD, List.getD_eq_getElem?_getD, List.getElem?_append_right (by omega), e, show p + 1 - j = (p - j) + 1 by omega, List.getElem?_cons_succ, List.getElem?_drop, show j + (p - j) = p by omega]
theorem put_twice (l : List ISecret) (j : Nat) (h : j ≤ l.length) (x : ISecret) (p : Nat) (hp : p < l.length) (he : (sec l p).f0 = x.f0) : areSec (put l j x) = false := by
  rw [Bool.eq_false_iff]
  intro hA
  have hn := put_len l j h x
  by_cases c : p < j
  · have := areSec_ne hA p j (by omega) (by omega) (by omega)
    rw [put_at l j h x, put_lt l j h x p c] at this
    exact this he
  · have := areSec_ne hA (p + 1) j (by omega) (by omega) (by omega)
    rw [put_at l j h x, put_ge l j h x p (by omega)] at this
    exact this he
theorem put_small {l : List ISecret} (h : SmallS l) (j : Nat) (hj : j ≤ l.length) (x : ISecret) (hx : x.f1.length ≤ 1048576) : (put l j x).length ≤ 2000000 ∧ ∀ y ∈ put l j x, y.f1.length ≤ 1048576 := by
  have := h.1
  refine ⟨by rw [put_len l j hj x]; omega, fun y hy => ?_⟩
  rcases put_mem hy with rfl | e
  · exact hx
  · exact h.2 y e
theorem areSec_len {l : List ISecret} (h : areSec l = true) : l.length ≤ 20 := by
  unfold areSec at h
  rw [Bool.and_eq_true, decide_eq_true_eq] at h
  exact h.2
theorem spec_j1 (l : List ISecret) (h : SmallS l) (j : Nat) (hj : j ≤ l.length) (a : Int) (m : List IMark) (hm : m.length ≤ 1048576) (s : Int) :
    Ev (fun k => spec_PutSecret.j1 k l (j : Int) a m s) (if areSec (put l j ⟨a, m, s⟩) = true then (put l j ⟨a, m, s⟩, true) else (l, false)) := by
  have hl := h.1
  have hp := put_small h j hj ⟨a, m, s⟩ hm
  have hA := specAreSecrets_ev _ hp.1 hp.2
  have hx : SmallS [(⟨a, m, s⟩ : ISecret)] := ⟨by simp, fun x hx => by rw [List.mem_singleton.1 hx]; exact hm⟩
  have e : l.take j ++ [(⟨a, m, s⟩ : ISecret)] ++ l.drop j = put l j ⟨a, m, s⟩ := by unfold put; rw [List.append_assoc, List.singleton_append]
  refine ev_step (fun k => by simp only [spec_PutSecret.j1]; rfl) (ev_itep (by omega) (ev_itep (by omega) ?_))
  simp only [Int.toNat_natCast]
  refine ev_bind (copy_ev _ (small_take h j)) (ev_bind (copy_ev _ hx) (ev_itep (by rw [List.length_take, List.length_singleton]; omega) (ev_bindc rfl (ev_bind (copy_ev _ (small_drop h j)) (ev_itep (by rw [List.length_append, List.length_take, List.length_singleton, List.length_drop]; omega) (ev_bindc rfl ?_))))))
  rw [e]
  refine ev_bind hA (ev_ite (fun c => ev_some (by rw [if_pos c])) (fun c => ev_bind (copy_ev l h) (ev_some (by rw [if_neg c]))))
theorem put_both (l : List ISecret) (h : SmallS l) (a : Int) (m : List IMark) (hm : m.length ≤ 1048576) (s : Int) : ∃ g b, Ev (fun k => spec_PutSecret.f k l a m s) (g, b) ∧ Ev (fun k => impl_PutSecret.f k l a m s) (g, b) ∧ SmallS g := by
  have hl := h.1
  have hp := pos_le_ l a
  have hS := spec_j1 l h (impl_PutSecret.pos l a) hp a m hm s
  have hT : Ev (fun k => spec_PutSecret.f k l a m s) (if areSec (put l (impl_PutSecret.pos l a) ⟨a, m, s⟩) = true then (put l (impl_PutSecret.pos l a) ⟨a, m, s⟩, true) else (l, false)) := by
    unfold spec_PutSecret.f
    refine spec_seek l hl a m s _ l.length 0 (by omega) ?_
    rw [List.drop_zero, Nat.zero_add]
    exact hS
  clear hS
  have hq := put_small h (impl_PutSecret.pos l a) hp ⟨a, m, s⟩ hm
  have hA := implAreSecrets_ev _ hq.1 hq.2
  unfold impl_PutSecret.f
  rcases idxB_in (fun y : ISecret => y.f0 == a) z36 l 0 with ⟨h1, h2⟩ | ⟨j, h1, h2, h3, _⟩
  · have hnot : ¬ (idxB (fun y : ISecret => y.f0 == a) l 0 ≥ 0) := by rw [h1]; omega
    by_cases c : areSec (put l (impl_PutSecret.pos l a) ⟨a, m, s⟩) = true
    · rw [if_pos c] at hT
      refine ⟨_, _, hT, ?_, ⟨by have := areSec_len c; omega, hq.2⟩⟩
      exact ev_bind (clone_ev l h) (ev_bindc (a := idxB (fun y : ISecret => y.f0 == a) l 0) rfl (ev_iten hnot (ev_bindc (a := m) (by unfold impl_Mark.f; rw [if_pos (by omega)]) (ev_itep ⟨hp, by omega⟩ (ev_bind hA (ev_itep c (ev_some rfl)))))))
    · rw [if_neg c] at hT
      refine ⟨_, _, hT, ?_, h⟩
      exact ev_bind (clone_ev l h) (ev_bindc (a := idxB (fun y : ISecret => y.f0 == a) l 0) rfl (ev_iten hnot (ev_bindc (a := m) (by unfold impl_Mark.f; rw [if_pos (by omega)]) (ev_itep ⟨hp, by omega⟩ (ev_bind hA (ev_iten c (ev_bind (clone_ev l h) (ev_some rfl))))))))
  · have hf : (sec l j).f0 = a := by
      have h4 : ((sec l j).f0 == a) = true := h3
      simpa using h4
    rw [if_neg (by rw [put_twice l _ hp ⟨a, m, s⟩ j h1 hf]; simp)] at hT
    refine ⟨_, _, hT, ?_, h⟩
    exact ev_bind (clone_ev l h) (ev_bindc (a := idxB (fun y : ISecret => y.f0 == a) l 0) rfl (ev_itep (by rw [h2]; omega) (ev_some rfl)))
end Go.Proofs.Ytfghapankndioaa.PFnExactPutSecret
namespace Go.Proofs.Ytfghapankndioaa.PFnExactPutSecret
open Go.RowKit Go.Proofs.YtfghapankndioaaW.PrintWords Go.Proofs.YtfghapankndioaaW.PrintLast Go.Proofs.Ytfghapankndioaa.EvLib
def mskOne (x : ISecret) (q : Int) : ISecret := ⟨q, markedMark x.f1.length (q + 1), q + 1 + 2 * (x.f1.length : Int)⟩
def msk : List ISecret → Int → List ISecret
  | [], _ => []
  | x :: l, q => mskOne x q :: msk l (q + 1 + 2 * (x.f1.length : Int) + 1)
def mskN : List ISecret → Int → Int
  | [], q => q
  | x :: l, q => mskN l (q + 1 + 2 * (x.f1.length : Int) + 1)
theorem msk_len : ∀ (l : List ISecret) (q : Int), (msk l q).length = l.length
  | [], _ => rfl
  | x :: l, q => by rw [msk, List.length_cons, msk_len l, List.length_cons]
theorem mskN_ge : ∀ (l : List ISecret) (q : Int), (∀ x ∈ l, x.f1.length ≤ 1048576) → q ≤ mskN l q ∧ mskN l q ≤ q + 4194304 * (l.length : Int)
  | [], q, _ => by rw [mskN]; simp
  | x :: l, q, h => by
    have hx := h x (by simp)
    have := mskN_ge l (q + 1 + 2 * (x.f1.length : Int) + 1) (fun y hy => h y (by simp [hy]))
    rw [mskN, List.length_cons]
    omega
theorem markSecretS_l0 : ∀ (d i : Nat) (l : List ISecret) (q : Int), i + d = l.length → l.length ≤ 1048576 → (∀ x ∈ l.drop i, x.f1.length ≤ 1048576) → 0 ≤ q → q ≤ 1 + 4194304 * (i : Int) →
    Ev (fun k => laws_markSecretS.l0 k l q (i : Int)) (mskN (l.drop i) q, l.take i ++ msk (l.drop i) q) := by
  intro d
  induction d with
  | zero =>
    intro i l q hi hl hm h0 h1
    refine ev_step (fun k => by simp only [laws_markSecretS.l0]; rfl) (ev_iten (by omega) (ev_some ?_))
    rw [List.drop_of_length_le (by omega), List.take_of_length_le (by omega), msk, mskN, List.append_nil]
  | succ d ih =>
    intro i l q hi hl hm h0 h1
    have hil : i < l.length := by omega
    rw [drop_sec l i hil] at hm ⊢
    have hz := hm (sec l i) (by simp)
    have w0 : wrap64 (q + 1) = q + 1 := wrap_id (by omega) (by omega)
    have hk := markMarkS_at (sec l i).f1 hz (q + 1) (by omega) (by omega)
    have w1 : wrap64 (q + 1 + 2 * ((sec l i).f1.length : Int) + 1) = q + 1 + 2 * ((sec l i).f1.length : Int) + 1 := wrap_id (by omega) (by omega)
    have w2 : wrap64 ((i : Int) + 1) = ((i + 1 : Nat) : Int) := by rw [wrap_id (by omega) (by omega)]; omega
    have ed : (l.set i (mskOne (sec l i) q)).drop (i + 1) = l.drop (i + 1) := List.drop_set_of_lt (by omega)
    have et : (l.set i (mskOne (sec l i) q)).take (i + 1) = l.take i ++ [mskOne (sec l i) q] := by
      rw [List.take_succ_eq_append_getElem (by rw [List.length_set]; omega), List.take_set_of_le (Nat.le_refl _), List.getElem_set_self]
    have hr := ih (i + 1) (l.set i (mskOne (sec l i) q)) (q + 1 + 2 * ((sec l i).f1.length : Int) + 1) (by rw [List.length_set]; omega) (by rw [List.length_set]; exact hl)
      (by rw [ed]; exact fun x hx => hm x (by simp [hx])) (by omega) (by omega)
    rw [ed, et, List.append_assoc, List.singleton_append] at hr
    refine ev_step (fun k => by simp only [laws_markSecretS.l0]; rfl) (ev_itep (by omega) (ev_itep (by omega) ?_))
    rw [rd_sec, w0, w2, Int.toNat_natCast]
    refine ev_bind hk ?_
    rw [w1]
    exact hr
theorem markSecretS_ev (l : List ISecret) (h : SmallS l) : Ev (fun k => laws_markSecretS.g k l 1) (mskN l 1, msk l 1) := by
  unfold laws_markSecretS.g
  exact markSecretS_l0 l.length 0 l 1 (by omega) h.1 (by rw [List.drop_zero]; exact h.2) (by omega) (by omega)
theorem heldSecretS_l0 : ∀ (m : List ISecret) (i : Nat) (w : List ISecret) (q : Int), w.drop i = msk m q → w.length ≤ 1048576 → i + m.length = w.length → (∀ x ∈ m, x.f1.length ≤ 1048576) → 0 ≤ q → q ≤ 1 + 4194304 * (i : Int) →
    Ev (fun k => laws_heldSecretS.l0 k w q (i : Int)) (mskN m q) := by
  intro m
  induction m with
  | nil =>
    intro i w q hd hw hi hm h0 h1
    rw [List.length_nil] at hi
    exact ev_step (fun k => by simp only [laws_heldSecretS.l0]; rfl) (ev_iten (by omega) (ev_some rfl))
  | cons x m ih =>
    intro i w q hd hw hi hm h0 h1
    rw [List.length_cons] at hi
    have hx := hm x (by simp)
    rw [msk, drop_sec w i (by omega)] at hd
    injection hd with hd1 hd2
    have hr := ih (i + 1) w (q + 1 + 2 * (x.f1.length : Int) + 1) hd2 hw (by omega) (fun y hy => hm y (by simp [hy])) (by omega) (by omega)
    have w0 : wrap64 (q + 1) = q + 1 := wrap_id (by omega) (by omega)
    have w1 : wrap64 (q + 1 + 2 * (x.f1.length : Int) + 1) = q + 1 + 2 * (x.f1.length : Int) + 1 := wrap_id (by omega) (by omega)
    have w2 : wrap64 ((i : Int) + 1) = ((i + 1 : Nat) : Int) := by rw [wrap_id (by omega) (by omega)]; omega
    have hk : Ev (fun k => laws_heldMarkS.f k (markedMark x.f1.length (q + 1)) (q + 1)) (q + 1 + 2 * (x.f1.length : Int)) := by
      unfold laws_heldMarkS.f
      exact heldMarkS_l0 x.f1.length 0 (markedMark x.f1.length (q + 1)) (q + 1) (by rw [markedMark_len]; omega) (by rw [markedMark_len]; exact hx) (by omega) (by omega) rfl
    refine ev_step (fun k => by simp only [laws_heldSecretS.l0]; rfl) (ev_itep (by omega) (ev_itep (by omega) ?_))
    simp only [rd_sec, hd1, mskOne, w0, w2]
    refine ev_itep (by trivial) (ev_bind hk (ev_iten (by omega) (ev_itep (by trivial) ?_)))
    rw [w1]
    exact hr
theorem heldSecretS_ev (l : List ISecret) (h : SmallS l) : Ev (fun k => laws_heldSecretS.f k (msk l 1) 1) (mskN l 1) := by
  unfold laws_heldSecretS.f
  exact heldSecretS_l0 l 0 (msk l 1) 1 rfl (by rw [msk_len]; exact h.1) (by rw [msk_len]; omega) h.2 (by omega) (by omega)
end Go.Proofs.Ytfghapankndioaa.PFnExactPutSecret
