/- The plain laws that this claim needs, in one text. -/
import Derived.Test.YtfghapankndioaaStmFnSecrets
import Derived.Test.YtfghapankndioaaEvLib
namespace Go.Proofs.Ytfghapankndioaa.PFnSecrets
abbrev IMark := S67
end Go.Proofs.Ytfghapankndioaa.PFnSecrets
namespace Go.Proofs.Ytfghapankndioaa.PFnSecrets
open Go.RowKit Go.Proofs.YtfghapankndioaaW.PrintWords Go.Proofs.YtfghapankndioaaW.PrintLast Go.Proofs.Ytfghapankndioaa.EvLib
theorem ev_allE (L : Nat → Int → Option Bool) (n : Nat) (p : Nat → Bool) (fin : Bool) (hn : n ≤ 9223372036854775806)
    (hend : ∀ k, L (k + 1) (n : Int) = some fin)
    (hstep : ∀ i : Nat, i < n → ∀ r, Ev (fun k => L k (wrap64 ((i : Int) + 1))) r → Ev (fun k => L k (i : Int)) (p i && r)) :
    Ev (fun k => L k 0) ((List.range n).all p && fin) := by
  have key : ∀ d i : Nat, i + d = n → Ev (fun k => L k (i : Int)) ((List.range' i d).all p && fin) := by
    intro d
    induction d with
    | zero =>
      intro i hi
      obtain rfl : i = n := by omega
      exact ev_step hend (ev_some (by simp))
    | succ d ih =>
      intro i hi
      rw [List.range'_succ, List.all_cons, Bool.and_assoc]
      refine hstep i (by omega) _ ?_
      rw [wrap_id (by omega) (by omega)]
      exact ih (i + 1) (by omega)
  have := key n 0 (by omega)
  rw [← List.range_eq_range'] at this
  exact this
theorem ev_copyE {α β γ : Type} (L : Nat → List α → List β → Int → Option (List β)) (F : Nat → α → Option γ) (mk : γ → β) (cv : α → γ) (da : α) (z : β)
    (hL : ∀ k x0 x3 x4, L (k + 1) x0 x3 x4 = if x4 < (x0.length : Int) then (if 0 ≤ x4 then ((F k (x0.getD x4.toNat da)).bind fun b => (if x4 < (x3.length : Int) then (L k x0 (x3.set (x4 : Int).toNat (mk b)) (wrap64 (x4 + 1))) else none)) else none) else some x3)
    (l : List α) (hl : l.length ≤ 1048576) (hF : ∀ x ∈ l, Ev (fun k => F k x) (cv x)) : Ev (fun k => L k l (List.replicate l.length z) 0) (l.map (fun x => mk (cv x))) := by
  have key : ∀ d i : Nat, i + d = l.length → Ev (fun k => L k l ((l.map (fun x => mk (cv x))).take i ++ List.replicate d z) (i : Int)) (l.map (fun x => mk (cv x))) := by
    intro d
    induction d with
    | zero =>
      intro i hi
      refine ev_step (fun k => hL k _ _ _) (ev_iten (by omega) (ev_some ?_))
      rw [List.replicate_zero, List.append_nil, List.take_of_length_le (by simp; omega)]
    | succ d ih =>
      intro i hi
      have hm : l.getD i da ∈ l := by
        have : l.getD i da = l[i]'(by omega) := by simp [List.getD, show i < l.length by omega]
        rw [this]
        exact List.getElem_mem _
      refine ev_step (fun k => hL k _ _ _) (ev_itep (by omega) (ev_itep (by omega) (ev_bind (hF _ (by rw [Int.toNat_natCast]; exact hm)) (ev_itep (by simp; omega) ?_))))
      have := ih (i + 1) (by omega)
      have e := set_copy (mk (cv da)) z (l.map (fun x => mk (cv x))) i (by simpa using (by omega : i < l.length))
      rw [List.length_map, show l.length - i = d + 1 by omega, show l.length - (i + 1) = d by omega] at e
      have e2 : (l.map (fun x => mk (cv x))).getD i (mk (cv da)) = mk (cv (l.getD i da)) := by simp [List.getD, show i < l.length by omega]
      rw [wrap_id (by omega) (by omega), Int.toNat_natCast, ← e2, e]
      exact this
  have := key l.length 0 (by omega)
  simpa using this
theorem ev_eqloopE {α : Type} (L : Nat → List α → List α → Int → Option Bool) (l : List α) (hl : l.length ≤ 9223372036854775806)
    (h1 : ∀ i : Nat, i < l.length → Ev (fun k => L k l l (wrap64 ((i : Int) + 1))) true → Ev (fun k => L k l l (i : Int)) true)
    (h0 : ∀ k : Nat, L (k + 1) l l (l.length : Int) = some true) : Ev (fun k => L k l l 0) true := by
  have key : ∀ d i : Nat, i + d = l.length → Ev (fun k => L k l l (i : Int)) true := by
    intro d
    induction d with
    | zero =>
      intro i hi
      obtain rfl : i = l.length := by omega
      exact ev_step (fun k => h0 k) (ev_some rfl)
    | succ d ih =>
      intro i hi
      refine h1 i (by omega) ?_
      rw [wrap_id (by omega) (by omega)]
      exact ih (i + 1) (by omega)
  exact key l.length 0 (by omega)
theorem getD_mem {α : Type} (l : List α) (i : Nat) (z : α) (h : i < l.length) : l.getD i z ∈ l := by
  have : l.getD i z = l[i] := by simp [List.getD, h]
  rw [this]
  exact List.getElem_mem _
end Go.Proofs.Ytfghapankndioaa.PFnSecrets
namespace Go.Proofs.Ytfghapankndioaa.PFnSecrets
abbrev ISecret := S36
end Go.Proofs.Ytfghapankndioaa.PFnSecrets
namespace Go.Proofs.Ytfghapankndioaa.PFnSecrets
open Go.RowKit
theorem inRange_eq (a b c : Int) : impl_InRange.f a b c = some (decide (b ≤ a ∧ a ≤ c)) := by unfold impl_InRange.f; split <;> simp [*]
end Go.Proofs.Ytfghapankndioaa.PFnSecrets
namespace Go.Proofs.Ytfghapankndioaa.PFnSecrets
open Go.RowKit
theorem l1In_eq (a b c : Int) : spec_l1In.f a b c = some (decide (b ≤ a ∧ a ≤ c)) := by unfold spec_l1In.f; split <;> simp [*]
end Go.Proofs.Ytfghapankndioaa.PFnSecrets
namespace Go.Proofs.Ytfghapankndioaa.PFnSecrets
open Go.RowKit Go.Proofs.YtfghapankndioaaW.PrintWords Go.Proofs.YtfghapankndioaaW.PrintLast Go.Proofs.Ytfghapankndioaa.EvLib
def mkx (l : List IMark) (i : Nat) : IMark := l.getD i z67
theorem rd_mkx (l : List IMark) (i : Nat) : rd_T67 l (i : Int) = mkx l i := by unfold rd_T67 mkx; rw [Int.toNat_natCast]
theorem drop_mkx (l : List IMark) (i : Nat) (h : i < l.length) : l.drop i = mkx l i :: l.drop (i + 1) := by
  rw [List.drop_eq_getElem_cons h]
  simp [mkx, List.getD, h]
def mkOk (l : List IMark) (i : Nat) : Bool := decide (1 ≤ (mkx l i).f0 ∧ (mkx l i).f0 ≤ 20) && (decide (0 ≤ (mkx l i).f1 ∧ (mkx l i).f1 ≤ 99) && (decide (i = 0) || decide ((mkx l (i - 1)).f0 < (mkx l i).f0)))
def areMk (l : List IMark) : Bool := (List.range l.length).all (mkOk l) && decide (l.length ≤ 8)
def mkv (x : IMark) : List Int := [x.f0, x.f1]
def sealIn (l : List IMark) (salt : Int) : List Int := [salt] ++ l.flatMap mkv
theorem sealIn_len (l : List IMark) (salt : Int) : (sealIn l salt).length = 1 + 2 * l.length := by
  have : ∀ l : List IMark, (l.flatMap mkv).length = 2 * l.length := by
    intro l
    induction l with
    | nil => rfl
    | cons x l ih => rw [List.flatMap_cons, List.length_append, ih, List.length_cons]; simp [mkv]; omega
  unfold sealIn
  rw [List.length_append, this]
  simp
end Go.Proofs.Ytfghapankndioaa.PFnSecrets
namespace Go.Proofs.Ytfghapankndioaa.PFnSecrets
open Go.RowKit Go.Proofs.YtfghapankndioaaW.PrintWords Go.Proofs.YtfghapankndioaaW.PrintLast Go.Proofs.Ytfghapankndioaa.EvLib
theorem tmod_cases (a : Int) : Int.tmod a 2147483647 = if 0 ≤ a then a % 2147483647 else -((-a) % 2147483647) := by
  split
  · rename_i h
    exact Int.tmod_eq_emod_of_nonneg h
  · rename_i h
    have e : a = -(-a) := by omega
    rw [e, Int.neg_tmod, Int.tmod_eq_emod_of_nonneg (by omega)]
    simp
theorem implMod_eq (a : Int) : impl_Mod.f a 2147483647 = some (a % 2147483647) := by
  unfold impl_Mod.f
  rw [inRange_eq, Option.bind_some, if_pos (by simp), if_neg (by omega), tmod_cases]
  by_cases h : 0 ≤ a
  · rw [if_pos h, if_neg (by omega)]
  · rw [if_neg h]
    by_cases h2 : -(-a % 2147483647) < 0
    · rw [if_pos h2, wrap_id (by omega) (by omega)]
      congr 1; omega
    · rw [if_neg h2]
      congr 1; omega
/-- One more value. -/
def hs (h v : Int) : Int := Int.tmod (wrap64 ((wrap64 ((wrap64 (h * 1000003)) + v % 2147483647)) + 13)) 2147483647
def hash (l : List Int) : Int := l.foldl hs 11
theorem implFold_eq (h v : Int) : impl_fold.f h v = some (hs h v) := by
  unfold impl_fold.f
  rw [implMod_eq, Option.bind_some]
  rfl
theorem rd_drop (l : List Int) (i : Nat) (h : i < l.length) : l.drop i = rd l (i : Int) :: l.drop (i + 1) := by
  rw [List.drop_eq_getElem_cons h]
  simp [rd, List.getD, h]
theorem implHash_l0 (l : List Int) (hl : l.length ≤ 1000000000) : ∀ (d i : Nat) (h : Int), i + d = l.length → Ev (fun k => impl_Hash.l0 k h l (l.length : Int) (i : Int)) ((l.drop i).foldl hs h) := by
  intro d
  induction d with
  | zero =>
    intro i h hi
    exact ev_step (fun k => by simp only [impl_Hash.l0]; rfl) (ev_iten (by omega) (ev_some (by rw [List.drop_of_length_le (by omega)]; rfl)))
  | succ d ih =>
    intro i h hi
    refine ev_step (fun k => by simp only [impl_Hash.l0]; rfl) (ev_itep (by omega) (ev_itep (by omega) (ev_itep (by omega) (ev_bindc (implFold_eq _ _) ?_))))
    rw [wrap_id (by omega) (by omega), rd_drop l i (by omega), List.foldl_cons]
    exact ih (i + 1) _ (by omega)
theorem implHash_ev (l : List Int) (hl : l.length ≤ 1000000000) : Ev (fun k => impl_Hash.f k l) (hash l) := by
  unfold impl_Hash.f hash
  exact implHash_l0 l hl l.length 0 11 (by omega)
end Go.Proofs.Ytfghapankndioaa.PFnSecrets
namespace Go.Proofs.Ytfghapankndioaa.PFnSecrets
open Go.RowKit Go.Proofs.YtfghapankndioaaW.PrintWords Go.Proofs.YtfghapankndioaaW.PrintLast Go.Proofs.Ytfghapankndioaa.EvLib
theorem implAreMarks_ev (l : List IMark) (hl : l.length ≤ 1048576) : Ev (fun k => impl_AreMarks.f k l) (areMk l) := by
  unfold impl_AreMarks.f
  refine ev_ite (fun h => ev_some ?_) (fun h => ev_eq (ev_all (fun k i => impl_AreMarks.l0 k l l (l.length : Int) i) l.length (mkOk l) true (by omega) (fun k => ?_) (fun k i hi => ?_)) ?_)
  · unfold areMk
    rw [decide_eq_false (by omega), Bool.and_false]
  · simp only [impl_AreMarks.l0]
    rw [if_neg (by omega)]
  · simp only [impl_AreMarks.l0, rd_mkx, inRange_eq, Option.bind_some]
    rw [if_pos (by omega), if_pos (by omega), if_pos (by omega)]
    unfold mkOk
    by_cases h1 : 1 ≤ (mkx l i).f0 ∧ (mkx l i).f0 ≤ 20
    · by_cases h2 : 0 ≤ (mkx l i).f1 ∧ (mkx l i).f1 ≤ 99
      · by_cases h4 : i = 0
        · subst h4
          simp [h1, h2]
        · have e : wrap64 ((i : Int) - 1) = ((i - 1 : Nat) : Int) := by rw [wrap_id (by omega) (by omega)]; omega
          rw [e, rd_mkx]
          have g1 : 0 < i := by omega
          have g2 : i - 1 < l.length := by omega
          by_cases h5 : (mkx l (i - 1)).f0 < (mkx l i).f0
          · have g5 : ¬ (mkx l i).f0 ≤ (mkx l (i - 1)).f0 := by omega
            simp [h1, h2, h4, h5, g1, g2, g5]
          · have g5 : (mkx l i).f0 ≤ (mkx l (i - 1)).f0 := by omega
            simp [h1, h2, h4, h5, g1, g2, g5]
      · simp [h1, h2]
    · simp [h1]
  · unfold areMk
    rw [decide_eq_true (by omega)]
theorem implSeal_l0 (l : List IMark) (hl : l.length ≤ 1048576) : ∀ (d i : Nat) (s : List Int), i + d = l.length → s.length = 1 + 2 * i → Ev (fun k => impl_SealMarks.l0 k s l (l.length : Int) (i : Int)) (hash (s ++ (l.drop i).flatMap mkv)) := by
  intro d
  induction d with
  | zero =>
    intro i s hi hs
    refine ev_step (fun k => by simp only [impl_SealMarks.l0]; rfl) (ev_iten (by omega) (ev_bind (implHash_ev s (by omega)) (ev_some ?_)))
    rw [List.drop_of_length_le (by omega)]
    simp
  | succ d ih =>
    intro i s hi hs
    refine ev_step (fun k => by simp only [impl_SealMarks.l0]; rfl) (ev_itep (by omega) (ev_itep (by omega) (ev_itep (by omega) (ev_bindc rfl (ev_itep (by simp; omega) ?_)))))
    have := ih (i + 1) (s ++ mkv (mkx l i)) (by omega) (by simp [mkv]; omega)
    rw [wrap_id (by omega) (by omega), drop_mkx l i (by omega), List.flatMap_cons, ← List.append_assoc]
    simp only [rd_mkx]
    exact this
theorem implSealMarks_ev (l : List IMark) (hl : l.length ≤ 1048576) (salt : Int) : Ev (fun k => impl_SealMarks.f k l salt) (hash (sealIn l salt)) := by
  unfold impl_SealMarks.f
  exact implSeal_l0 l hl l.length 0 [salt] (by omega) rfl
def opens (l : List IMark) (salt sl_ : Int) : Bool := areMk l && (hash (sealIn l salt) == sl_)
theorem implOpensSeal_ev (l : List IMark) (hl : l.length ≤ 1048576) (salt sl_ : Int) : Ev (fun k => impl_OpensSeal.f k l salt sl_) (opens l salt sl_) := by
  unfold impl_OpensSeal.f opens
  refine ev_bind (implAreMarks_ev l hl) (ev_ite (fun h => ev_bind (implSealMarks_ev l hl salt) (ev_some (by rw [h]; rfl))) (fun h => ev_some (by rw [Bool.eq_false_iff.mpr h]; rfl)))
end Go.Proofs.Ytfghapankndioaa.PFnSecrets
namespace Go.Proofs.Ytfghapankndioaa.PFnSecrets
open Go.RowKit Go.Proofs.YtfghapankndioaaW.PrintWords Go.Proofs.YtfghapankndioaaW.PrintLast Go.Proofs.Ytfghapankndioaa.EvLib
def sec (l : List ISecret) (i : Nat) : ISecret := l.getD i z36
theorem rd_sec (l : List ISecret) (i : Nat) : rd_T36 l (i : Int) = sec l i := by unfold rd_T36 sec; rw [Int.toNat_natCast]
theorem sec_mem (l : List ISecret) (i : Nat) (h : i < l.length) : sec l i ∈ l := getD_mem _ _ _ h
def secIn (l : List ISecret) (i : Nat) : Bool := decide ((sec l i).f1.length ≠ 0) && (areMk (sec l i).f1 && decide (0 ≤ (sec l i).f2 ∧ (sec l i).f2 ≤ 1000000))
def secUp (l : List ISecret) (i : Nat) : Bool := decide (i = 0) || decide ((sec l (i - 1)).f0 < (sec l i).f0)
def secOk (l : List ISecret) (i : Nat) : Bool := decide (1 ≤ (sec l i).f0 ∧ (sec l i).f0 ≤ 999) && (secUp l i && secIn l i)
def areSec (l : List ISecret) : Bool := (List.range l.length).all (secOk l) && decide (l.length ≤ 20)
end Go.Proofs.Ytfghapankndioaa.PFnSecrets
namespace Go.Proofs.Ytfghapankndioaa.PFnSecrets
open Go.RowKit Go.Proofs.YtfghapankndioaaW.PrintWords Go.Proofs.YtfghapankndioaaW.PrintLast Go.Proofs.Ytfghapankndioaa.EvLib
theorem implAreSecrets_ev (l : List ISecret) (hl : l.length ≤ 1048576) (hm : ∀ x ∈ l, x.f1.length ≤ 1048576) : Ev (fun k => impl_AreSecrets.f k l) (areSec l) := by
  unfold impl_AreSecrets.f
  refine ev_ite (fun h => ev_some ?_) (fun h => ev_eq (ev_allE (fun k i => impl_AreSecrets.l0 k l l (l.length : Int) i) l.length (secOk l) true (by omega) (fun k => ?_) (fun i hi r hr => ?_)) ?_)
  · unfold areSec
    rw [decide_eq_false (by omega), Bool.and_false]
  · simp only [impl_AreSecrets.l0]
    rw [if_neg (by omega)]
  · refine ev_step (fun k => by simp only [impl_AreSecrets.l0]; rfl) (ev_itep (by omega) (ev_itep (by omega) (ev_itep (by omega) ?_)))
    have hml := hm _ (sec_mem l i hi)
    have tail : Ev (fun k => if ((sec l i).f1.length : Int) = 0 then some false else (impl_AreMarks.f k (sec l i).f1).bind fun t => if t = true then (impl_InRange.f (sec l i).f2 0 1000000).bind fun t => if t = true then impl_AreSecrets.l0 k l l (l.length : Int) (wrap64 ((i : Int) + 1)) else some false else some false) (secIn l i && r) := by
      refine ev_ite (fun c => ev_some ?_) (fun c => ev_bind (implAreMarks_ev _ hml) (ev_ite (fun c2 => ev_bindc (inRange_eq _ _ _) (ev_ite (fun c3 => ?_) (fun c3 => ev_some ?_))) (fun c2 => ev_some ?_)))
      · unfold secIn; rw [decide_eq_false (by omega)]; rfl
      · unfold secIn; rw [decide_eq_true (by omega), c2, c3]; exact hr
      · unfold secIn; rw [Bool.eq_false_iff.mpr c3]; simp
      · unfold secIn; rw [Bool.eq_false_iff.mpr c2]; simp
    simp only [rd_sec]
    refine ev_bindc (inRange_eq _ _ _) (ev_ite (fun c1 => ev_ite (fun c2 => ?_) (fun c2 => ?_)) (fun c1 => ev_some ?_))
    · have e : wrap64 ((i : Int) - 1) = ((i - 1 : Nat) : Int) := by rw [wrap_id (by omega) (by omega)]; omega
      simp only [e, rd_sec]
      refine ev_itep (by omega) (ev_itep (by omega) (ev_ite (fun c3 => ev_some ?_) (fun c3 => ev_eq tail ?_)))
      · unfold secOk secUp; rw [decide_eq_false (show ¬ i = 0 by omega), decide_eq_false (show ¬ (sec l (i - 1)).f0 < (sec l i).f0 by omega)]; simp
      · unfold secOk secUp; rw [decide_eq_false (show ¬ i = 0 by omega), decide_eq_true (show (sec l (i - 1)).f0 < (sec l i).f0 by omega), c1]; rfl
    · refine ev_eq tail ?_
      unfold secOk secUp; rw [decide_eq_true (show i = 0 by omega), c1]; rfl
    · unfold secOk; rw [Bool.eq_false_iff.mpr c1]; rfl
  · unfold areSec
    rw [decide_eq_true (by omega)]
end Go.Proofs.Ytfghapankndioaa.PFnSecrets
namespace Go.Proofs.Ytfghapankndioaa.PFnSecrets
open Go.RowKit Go.Proofs.YtfghapankndioaaW.PrintWords Go.Proofs.YtfghapankndioaaW.PrintLast Go.Proofs.Ytfghapankndioaa.EvLib
def all2 {α : Type} (p : α → α → Bool) : List α → List α → Bool
  | [], [] => true
  | x :: l, y :: m => p x y && all2 p l m
  | _, _ => false
theorem all2_len {α : Type} (p : α → α → Bool) : ∀ (l m : List α), l.length ≠ m.length → all2 p l m = false := by
  intro l
  induction l with
  | nil =>
    intro m h
    cases m with
    | nil => exact absurd rfl h
    | cons y m => rfl
  | cons x l ih =>
    intro m h
    cases m with
    | nil => rfl
    | cons y m => rw [all2, ih m (by simpa using h), Bool.and_false]
theorem ev_two {α : Type} (L : Nat → Int → Option Bool) (l m : List α) (z : α) (p : α → α → Bool) (hn : l.length ≤ 9223372036854775806) (he : l.length = m.length) (hend : ∀ k, L (k + 1) (l.length : Int) = some true)
    (hstep : ∀ i : Nat, i < l.length → ∀ r, Ev (fun k => L k (wrap64 ((i : Int) + 1))) r → Ev (fun k => L k (i : Int)) (p (l.getD i z) (m.getD i z) && r)) : Ev (fun k => L k 0) (all2 p l m) := by
  have key : ∀ d i : Nat, i + d = l.length → Ev (fun k => L k (i : Int)) (all2 p (l.drop i) (m.drop i)) := by
    intro d
    induction d with
    | zero =>
      intro i hi
      obtain rfl : i = l.length := by omega
      refine ev_step hend (ev_some ?_)
      rw [List.drop_of_length_le (Nat.le_refl _), List.drop_of_length_le (by omega), all2]
    | succ d ih =>
      intro i hi
      have h1 : l.drop i = l.getD i z :: l.drop (i + 1) := by rw [List.drop_eq_getElem_cons (by omega)]; simp [List.getD, show i < l.length by omega]
      have h2 : m.drop i = m.getD i z :: m.drop (i + 1) := by rw [List.drop_eq_getElem_cons (by omega)]; simp [List.getD, show i < m.length by omega]
      rw [h1, h2, all2]
      refine hstep i (by omega) _ ?_
      rw [wrap_id (by omega) (by omega)]
      exact ih (i + 1) (by omega)
  have := key l.length 0 (by omega)
  rwa [List.drop_zero, List.drop_zero] at this
def mkEq (x y : IMark) : Bool := !(!(x.f0 == y.f0) || !(x.f1 == y.f1))
theorem mk_step {g : Nat → Option Bool} (x y : IMark) {r : Bool} (h : Ev g r) : Ev (fun k => if (!(x.f0 == y.f0) || !(x.f1 == y.f1)) = true then some false else g k) (mkEq x y && r) := by
  refine ev_ite (fun c => ev_some ?_) (fun c => ?_)
  · unfold mkEq; rw [c]; rfl
  · have e : mkEq x y = true := by unfold mkEq; rw [Bool.eq_false_iff.mpr c]; rfl
    rw [e, Bool.true_and]
    exact h
theorem implMarks_ev (l m : List IMark) (hl : l.length ≤ 1048576) : Ev (fun k => impl_Mark_52.f k l m) (all2 mkEq l m) := by
  unfold impl_Mark_52.f
  refine ev_ite (fun c => ev_two (fun k i => impl_Mark_52.l0 k l m (l.length : Int) i) l m z67 mkEq (by omega) (by omega) (fun k => ?_) (fun i hi r hr => ?_)) (fun c => ev_some (all2_len _ _ _ (by omega)).symm)
  · simp only [impl_Mark_52.l0]
    rw [if_neg (by omega)]
  · exact ev_step (fun k => by simp only [impl_Mark_52.l0]; rfl) (ev_itep (by omega) (ev_itep (by omega) (ev_itep (by omega) (ev_itep (by omega) (mk_step _ _ hr)))))
def secEq (x y : ISecret) : Bool := decide (x.f0 = y.f0) && (decide (x.f2 = y.f2) && all2 mkEq x.f1 y.f1)
theorem implEq_ev (x y : ISecret) (hx : x.f1.length ≤ 1048576) : Ev (fun k => impl_EqualSecrets_1.f k x.f0 x.f1 x.f2 y.f0 y.f1 y.f2) (secEq x y) := by
  unfold impl_EqualSecrets_1.f secEq
  refine ev_ite (fun c1 => ev_ite (fun c2 => ev_bind (implMarks_ev _ _ hx) (ev_some ?_)) (fun c2 => ev_some ?_)) (fun c1 => ev_some ?_)
  · rw [decide_eq_true c1, decide_eq_true c2, Bool.true_and, Bool.true_and]
  · rw [decide_eq_false c2, Bool.false_and, Bool.and_false]
  · rw [decide_eq_false c1, Bool.false_and]
theorem implEqSecrets_ev (l m : List ISecret) (hl : l.length ≤ 1048576) (hm : ∀ x ∈ l, x.f1.length ≤ 1048576) : Ev (fun k => impl_EqualSecrets.f k l m) (all2 secEq l m) := by
  unfold impl_EqualSecrets.f impl_Secret_50.f
  refine ev_ite (fun c => ev_two (fun k i => impl_Secret_50.l0 k l m i) l m z36 secEq (by omega) (by omega) (fun k => ?_) (fun i hi r hr => ?_)) (fun c => ev_some (all2_len _ _ _ (by omega)).symm)
  · simp only [impl_Secret_50.l0]
    rw [if_neg (by omega)]
  · have hx := hm _ (getD_mem l i z36 hi)
    refine ev_step (fun k => by simp only [impl_Secret_50.l0]; rfl) (ev_itep (by omega) (ev_itep (by omega) (ev_itep (by omega) (ev_bind (implEq_ev _ _ (by unfold rd_T36; rw [Int.toNat_natCast]; exact hx)) ?_))))
    have ea : rd_T36 l (i : Int) = l.getD i z36 := by unfold rd_T36; rw [Int.toNat_natCast]
    have eb : rd_T36 m (i : Int) = m.getD i z36 := by unfold rd_T36; rw [Int.toNat_natCast]
    rw [ea, eb]
    refine ev_ite (fun c3 => ?_) (fun c3 => ev_some ?_)
    · rw [c3, Bool.true_and]; exact hr
    · rw [Bool.eq_false_iff.mpr c3, Bool.false_and]
theorem all2_symm {α : Type} (p : α → α → Bool) (hp : ∀ x y, p x y = p y x) : ∀ (l m : List α), all2 p l m = all2 p m l
  | [], [] => rfl
  | [], _ :: _ => rfl
  | _ :: _, [] => rfl
  | x :: l, y :: m => by rw [all2, all2, hp x y, all2_symm p hp l m]
theorem all2_refl {α : Type} (p : α → α → Bool) (hp : ∀ x, p x x = true) : ∀ (l : List α), all2 p l l = true
  | [] => rfl
  | x :: l => by rw [all2, hp x, all2_refl p hp l]; rfl
theorem mkEq_symm (x y : IMark) : mkEq x y = mkEq y x := by unfold mkEq; rw [Bool.beq_comm (a := x.f0), Bool.beq_comm (a := x.f1)]
theorem mkEq_refl (x : IMark) : mkEq x x = true := by unfold mkEq; simp
theorem secEq_symm (x y : ISecret) : secEq x y = secEq y x := by
  unfold secEq
  rw [all2_symm mkEq mkEq_symm x.f1 y.f1]
  congr 1
  · exact decide_eq_decide.2 ⟨Eq.symm, Eq.symm⟩
  · congr 1
    exact decide_eq_decide.2 ⟨Eq.symm, Eq.symm⟩
theorem secEq_refl (x : ISecret) : secEq x x = true := by unfold secEq; rw [all2_refl mkEq mkEq_refl]; simp
end Go.Proofs.Ytfghapankndioaa.PFnSecrets
namespace Go.Proofs.Ytfghapankndioaa.PFnSecrets
open Go.RowKit Go.Proofs.YtfghapankndioaaW.PrintWords Go.Proofs.YtfghapankndioaaW.PrintLast Go.Proofs.Ytfghapankndioaa.EvLib
def SmallS (l : List ISecret) : Prop := l.length ≤ 100000 ∧ ∀ x ∈ l, x.f1.length ≤ 1048576
def sealF (l : List ISecret) (x : Int) : Int := if idxB (fun y : ISecret => y.f0 == x) l 0 < 0 then -1 else hash (sealIn (sec l (idxB (fun y : ISecret => y.f0 == x) l 0).toNat).f1 (sec l (idxB (fun y : ISecret => y.f0 == x) l 0).toNat).f2)
def marksOf (l : List ISecret) (x : Int) : List IMark := if idxB (fun y : ISecret => y.f0 == x) l 0 < 0 then [] else (sec l (idxB (fun y : ISecret => y.f0 == x) l 0).toNat).f1
def saltF (l : List ISecret) (x : Int) : Int := if idxB (fun y : ISecret => y.f0 == x) l 0 < 0 then 0 else (sec l (idxB (fun y : ISecret => y.f0 == x) l 0).toNat).f2
theorem idx_lt (l : List ISecret) (x : Int) : idxB (fun y : ISecret => y.f0 == x) l 0 < (l.length : Int) := by
  rcases idxB_in (fun y : ISecret => y.f0 == x) z36 l 0 with ⟨h, _⟩ | ⟨j, h1, h2, _⟩
  · rw [h]; omega
  · rw [h2]; omega
theorem implSealOf_ev (l : List ISecret) (h : SmallS l) (x : Int) : Ev (fun k => impl_SealOf.f k l x) (sealF l x) := by
  unfold impl_SealOf.f
  refine ev_bindc (a := idxB (fun y : ISecret => y.f0 == x) l 0) rfl ?_
  have hlt := idx_lt l x
  unfold sealF
  generalize idxB (fun y : ISecret => y.f0 == x) l 0 = r at hlt
  refine ev_ite (fun h => ev_some (by rw [if_pos h])) (fun h' => ?_)
  rw [if_neg h']
  refine ev_itep (by omega) (ev_itep hlt ?_)
  have hr : rd_T36 l r = sec l r.toNat := rfl
  rw [hr]
  exact ev_bind (implSealMarks_ev _ (h.2 _ (sec_mem l _ (by omega))) _) (ev_some rfl)
theorem implMarksOf_eq (l : List ISecret) (h : SmallS l) (x : Int) : impl_MarksOf.f l x = some (marksOf l x) := by
  unfold impl_MarksOf.f impl_secretOf.f impl_Mark_55.f
  rw [Option.bind_some]
  have hlt := idx_lt l x
  unfold marksOf
  generalize idxB (fun y : ISecret => y.f0 == x) l 0 = r at hlt
  by_cases h' : r < 0
  · rw [if_pos h', if_pos h']
  · rw [if_neg h', if_neg h', if_pos (by omega), if_pos hlt]
    have hr : rd_T36 l r = sec l r.toNat := rfl
    have hz := h.2 _ (sec_mem l r.toNat (by omega))
    rw [hr, if_pos (by omega), Option.bind_some]
theorem marksOf_len (l : List ISecret) (h : SmallS l) (x : Int) : (marksOf l x).length ≤ 1048576 := by
  unfold marksOf
  have hlt := idx_lt l x
  split
  · simp
  · exact h.2 _ (sec_mem l _ (by omega))
theorem salt_l0 (l : List ISecret) (hl : l.length ≤ 100000) (x : Int) : ∀ (d i : Nat), i + d = l.length → Ev (fun k => laws_saltOf.l0 k l x (i : Int)) (if idxB (fun y : ISecret => y.f0 == x) (l.drop i) i < 0 then 0 else (sec l (idxB (fun y : ISecret => y.f0 == x) (l.drop i) i).toNat).f2) := by
  intro d
  induction d with
  | zero =>
    intro i hi
    refine ev_step (fun k => by simp only [laws_saltOf.l0]; rfl) (ev_iten (by omega) (ev_some ?_))
    rw [idxB_end _ _ _ (by omega), if_pos (by omega)]
  | succ d ih =>
    intro i hi
    refine ev_step (fun k => by simp only [laws_saltOf.l0]; rfl) (ev_itep (by omega) (ev_itep (by omega) ?_))
    simp only [rd_sec, wrap_id (x := (i : Int) + 1) (by omega) (by omega)]
    rw [idxB_at _ z36 l i (by omega)]
    have e : l.getD i z36 = sec l i := rfl
    rw [e]
    refine ev_ite (fun c => ev_some ?_) (fun c => ?_)
    · rw [if_pos (show ((sec l i).f0 == x) = true by simpa using c), if_neg (by omega), Int.toNat_natCast]
    · rw [if_neg (show ¬ ((sec l i).f0 == x) = true by simpa using c)]
      exact ih (i + 1) (by omega)
theorem salt_ev (l : List ISecret) (h : SmallS l) (x : Int) : Ev (fun k => laws_saltOf.f k l x) (saltF l x) := by
  have := salt_l0 l h.1 x l.length 0 (by omega)
  rw [List.drop_zero] at this
  exact this
theorem clone_l0 (l : List ISecret) (h : SmallS l) : ∀ (d i : Nat), i + d = l.length → Ev (fun k => impl_cloneSecrets.l0 k (l.take i) l (l.length : Int) (i : Int)) l := by
  have hl := h.1
  intro d
  induction d with
  | zero =>
    intro i hi
    exact ev_step (fun k => by simp only [impl_cloneSecrets.l0]; rfl) (ev_iten (by omega) (ev_some (List.take_of_length_le (by omega))))
  | succ d ih =>
    intro i hi
    have hil : i < l.length := by omega
    have hm := h.2 _ (sec_mem l i hil)
    refine ev_step (fun k => by simp only [impl_cloneSecrets.l0]; rfl) (ev_itep (by omega) (ev_itep (by omega) (ev_itep (by omega) ?_)))
    simp only [rd_sec, wrap_id (x := (i : Int) + 1) (by omega) (by omega)]
    refine ev_bindc (a := (sec l i).f1) (by unfold impl_Mark_55.f; rw [if_pos (by omega)]) (ev_itep (by rw [List.length_take]; omega) ?_)
    have e : l.take i ++ [(⟨(sec l i).f0, (sec l i).f1, (sec l i).f2⟩ : ISecret)] = l.take (i + 1) := by
      rw [List.take_succ_eq_append_getElem hil]
      congr 2
      show sec l i = l[i]
      unfold sec
      rw [List.getD_eq_getElem?_getD, List.getElem?_eq_getElem hil, Option.getD_some]
    rw [e]
    exact ih (i + 1) (by omega)
theorem clone_ev (l : List ISecret) (h : SmallS l) : Ev (fun k => impl_cloneSecrets.f k l) l := by
  unfold impl_cloneSecrets.f
  exact clone_l0 l h l.length 0 (by omega)
theorem areSec_in {l : List ISecret} (h : areSec l = true) (i : Nat) (hi : i < l.length) : areMk (sec l i).f1 = true := by
  unfold areSec at h
  rw [Bool.and_eq_true, List.all_eq_true] at h
  have := h.1 i (List.mem_range.2 hi)
  unfold secOk secIn at this
  simp only [Bool.and_eq_true] at this
  exact this.2.2.2.1
theorem pos_le_ : ∀ (l : List ISecret) (t : Int), impl_PutSecret.pos l t ≤ l.length
  | [], _ => Nat.le_refl _
  | y :: l, t => by
    rw [impl_PutSecret.pos]
    split
    · rw [List.length_cons]; exact Nat.succ_le_succ (pos_le_ l t)
    · exact Nat.zero_le _
theorem put_ok (l : List ISecret) (h : SmallS l) (hk : l.length ≤ 1000) (a : Int) (m : List IMark) (hm : m.length ≤ 1048576) (s : Int) : ∃ r b, Ev (fun k => impl_PutSecret.f k l a m s) (r, b) ∧
    (b = true → SmallS r ∧ areSec r = true ∧ r.length = l.length + 1 ∧ marksOf r a = m ∧ sealF r a = hash (sealIn m s) ∧ areMk m = true) ∧ (b = false → r = l) := by
  have hl := h.1
  have hp := pos_le_ l a
  unfold impl_PutSecret.f
  rcases idxB_in (fun y : ISecret => y.f0 == a) z36 l 0 with ⟨h1, h2⟩ | ⟨j, h1, h2, _⟩
  · obtain ⟨r, hr⟩ : ∃ r, r = l.take (impl_PutSecret.pos l a) ++ (⟨a, m, s⟩ : ISecret) :: l.drop (impl_PutSecret.pos l a) := ⟨_, rfl⟩
    have hmem : ∀ x, x ∈ r → x = ⟨a, m, s⟩ ∨ x ∈ l := by
      intro x hx
      rw [hr, List.mem_append, List.mem_cons] at hx
      rcases hx with hx | rfl | hx
      · exact .inr (List.mem_of_mem_take hx)
      · exact .inl rfl
      · exact .inr (List.mem_of_mem_drop hx)
    have hin : (⟨a, m, s⟩ : ISecret) ∈ r := by rw [hr]; simp
    have hrl : r.length = l.length + 1 := by rw [hr]; simp; omega
    have hs : r.length ≤ 1048576 ∧ ∀ x ∈ r, x.f1.length ≤ 1048576 := by
      refine ⟨by omega, fun x hx => ?_⟩
      rcases hmem x hx with rfl | hx
      · exact hm
      · exact h.2 x hx
    have hA := implAreSecrets_ev r hs.1 hs.2
    have hnot : ¬ (idxB (fun y : ISecret => y.f0 == a) l 0 ≥ 0) := by rw [h1]; omega
    by_cases b : areSec r = true
    · refine ⟨r, true, ev_bind (clone_ev l h) (ev_bindc (a := idxB (fun y : ISecret => y.f0 == a) l 0) rfl (ev_iten hnot (ev_bindc (a := m) (by unfold impl_Mark_55.f; rw [if_pos (by omega)]) (ev_itep ⟨hp, by omega⟩ ?_)))), fun _ => ?_, (fun e => by cases e)⟩
      · rw [← hr]
        exact ev_bind hA (ev_itep b (ev_some rfl))
      · obtain ⟨j, j1, j2, j3⟩ : ∃ j : Nat, j < r.length ∧ idxB (fun y : ISecret => y.f0 == a) r 0 = (j : Int) ∧ sec r j = ⟨a, m, s⟩ := by
          rcases idxB_in (fun y : ISecret => y.f0 == a) z36 r 0 with ⟨_, q2⟩ | ⟨j, q1, q2, q3, _⟩
          · have := q2 _ hin
            simp at this
          · refine ⟨j, q1, by rw [q2]; omega, ?_⟩
            rcases hmem _ (sec_mem r j q1) with e | e
            · exact e
            · have h3 := h2 _ e
              have h4 : ((sec r j).f0 == a) = true := q3
              rw [h4] at h3
              cases h3
        have hz : ¬ ((j : Int) < 0) := by omega
        refine ⟨⟨by omega, hs.2⟩, b, hrl, ?_, ?_, ?_⟩
        · unfold marksOf; rw [j2, if_neg hz, Int.toNat_natCast, j3]
        · unfold sealF; rw [j2, if_neg hz, Int.toNat_natCast, j3]
        · have := areSec_in b j j1; rw [j3] at this; exact this
    · refine ⟨l, false, ev_bind (clone_ev l h) (ev_bindc (a := idxB (fun y : ISecret => y.f0 == a) l 0) rfl (ev_iten hnot (ev_bindc (a := m) (by unfold impl_Mark_55.f; rw [if_pos (by omega)]) (ev_itep ⟨hp, by omega⟩ ?_)))), (fun e => by cases e), fun _ => rfl⟩
      rw [← hr]
      exact ev_bind hA (ev_iten b (ev_bind (clone_ev l h) (ev_some rfl)))
  · exact ⟨l, false, ev_bind (clone_ev l h) (ev_bindc (a := idxB (fun y : ISecret => y.f0 == a) l 0) rfl (ev_itep (by rw [h2]; omega) (ev_some rfl))), (fun e => by cases e), fun _ => rfl⟩
end Go.Proofs.Ytfghapankndioaa.PFnSecrets
namespace Go.Proofs.Ytfghapankndioaa.PFnSecrets
open Go.RowKit Go.Proofs.YtfghapankndioaaW.PrintWords Go.Proofs.YtfghapankndioaaW.PrintLast Go.Proofs.Ytfghapankndioaa.EvLib
theorem and255 (x : Int) : 0 ≤ Go.bits .and .i64 x 255 ∧ Go.bits .and .i64 x 255 ≤ 255 := by
  unfold Go.bits
  simp only [BitVec.toNat_and]
  have h : (BitVec.ofInt IntKind.i64.bits x).toNat &&& (BitVec.ofInt IntKind.i64.bits 255).toNat ≤ 255 := Nat.le_trans Nat.and_le_right (by decide)
  rw [IntKind.wrap_i64]
  omega
theorem byte_ok (s : List Int) (hs : s.length ≤ 1048576) (p h : Int) (hp : 0 ≤ p) : ∃ x p' h', spec_l1Byte.f s p h = some (x, p', h') ∧ 0 ≤ x ∧ x ≤ 255 ∧ 0 ≤ p' := by
  unfold spec_l1Byte.f
  by_cases c : p < (s.length : Int)
  · rw [if_pos c, if_pos hp]
    exact ⟨_, _, _, rfl, (and255 _).1, (and255 _).2, by rw [wrap_id (by omega) (by omega)]; omega⟩
  · rw [if_neg c]
    exact ⟨_, _, _, rfl, (and255 _).1, (and255 _).2, hp⟩
theorem tmod_in {x n : Int} (hx : 0 ≤ x) (hn : 0 < n) : 0 ≤ Int.tmod x n ∧ Int.tmod x n < n := by
  rw [Int.tmod_eq_emod_of_nonneg hx]
  exact ⟨Int.emod_nonneg _ (by omega), Int.emod_lt_of_pos _ hn⟩
theorem below_ok (s : List Int) (hs : s.length ≤ 1048576) (p h : Int) (hp : 0 ≤ p) (n : Int) : ∃ x p' h', spec_l1Below.f s p h n = some (x, p', h') ∧ 0 ≤ p' ∧ 0 ≤ x ∧ (0 < n → x < n) := by
  unfold spec_l1Below.f
  by_cases h1 : n ≤ 0
  · rw [if_pos h1]
    exact ⟨0, p, h, rfl, hp, by omega, fun c => by omega⟩
  · rw [if_neg h1]
    obtain ⟨x, p1, h1', e1, x0, x1, hp1⟩ := byte_ok s hs p h hp
    by_cases h2 : n ≤ 256
    · rw [if_pos h2, e1, Option.bind_some]
      simp only
      rw [if_neg (by omega)]
      exact ⟨_, _, _, rfl, hp1, (tmod_in x0 (by omega)).1, fun _ => (tmod_in x0 (by omega)).2⟩
    · obtain ⟨y, p2, h2', e2, y0, y1, hp2⟩ := byte_ok s hs p1 h1' hp1
      obtain ⟨z, p3, h3', e3, z0, z1, hp3⟩ := byte_ok s hs p2 h2' hp2
      rw [if_neg h2, e1, Option.bind_some]
      simp only
      rw [e2, Option.bind_some]
      simp only
      rw [e3, Option.bind_some]
      simp only
      rw [if_neg (by omega), wrap_id (x := x * 65536) (by omega) (by omega), wrap_id (x := y * 256) (by omega) (by omega), wrap_id (x := x * 65536 + y * 256) (by omega) (by omega), wrap_id (by omega) (by omega)]
      exact ⟨_, _, _, rfl, hp3, (tmod_in (by omega) (by omega)).1, fun _ => (tmod_in (by omega) (by omega)).2⟩
theorem once_ok (s : List Int) (hs : s.length ≤ 1048576) (p h : Int) (hp : 0 ≤ p) (n : Int) : ∃ b p' h', spec_l1Once.f s p h n = some (b, p', h') ∧ 0 ≤ p' := by
  unfold spec_l1Once.f
  obtain ⟨x, p', h', e, h1, _⟩ := below_ok s hs p h hp n
  rw [e, Option.bind_some]
  exact ⟨_, _, _, rfl, h1⟩
theorem int_ok (s : List Int) (hs : s.length ≤ 1048576) (p h : Int) (hp : 0 ≤ p) (l : List Int) (hl : 0 < l.length) : ∃ x p' h', spec_l1Int.f s p h l = some (x, p', h') ∧ 0 ≤ p' ∧ x ∈ l := by
  unfold spec_l1Int.f
  obtain ⟨x, p', h', e, h1, h2, h3⟩ := below_ok s hs p h hp l.length
  rw [e, Option.bind_some]
  simp only
  have h4 := h3 (by omega)
  rw [if_pos h2, if_pos h4]
  refine ⟨_, _, _, rfl, h1, ?_⟩
  have h5 : x.toNat < l.length := by omega
  simp only [rd, List.getD, List.getElem?_eq_getElem h5, Option.getD_some]
  exact List.getElem_mem h5
theorem new_ok (s : List Int) (_hs : s.length ≤ 1048576) : ∃ h, Ev (fun k => spec_l1New.f k s) (s, 0, h) := by
  unfold spec_l1New.f
  have key : ∀ (d i : Nat) (h : Int), i + d = s.length → ∃ r, Ev (fun k => spec_l1New.l0 k s h (i : Int)) (s, 0, r) := by
    intro d
    induction d with
    | zero => exact fun i h hi => ⟨h, ev_step (fun k => by simp only [spec_l1New.l0]; rfl) (ev_iten (by omega) (ev_some rfl))⟩
    | succ d ih =>
      intro i h hi
      by_cases c : (i : Int) < 4000
      · obtain ⟨r, hr⟩ := ih (i + 1) (Go.bits .and .i64 (wrap64 ((wrap64 ((wrap64 (h * 137)) + (wrap64 (rd s (i : Int))))) + 11)) 1073741823) (by omega)
        refine ⟨r, ev_step (fun k => by simp only [spec_l1New.l0]; rfl) (ev_itep (by omega) (ev_itep c (ev_itep (by omega) ?_)))⟩
        rw [wrap_id (x := (i : Int) + 1) (by omega) (by omega)]
        exact hr
      · exact ⟨h, ev_step (fun k => by simp only [spec_l1New.l0]; rfl) (ev_itep (by omega) (ev_iten c (ev_some rfl)))⟩
  exact key s.length 0 _ (by omega)
end Go.Proofs.Ytfghapankndioaa.PFnSecrets
namespace Go.Proofs.Ytfghapankndioaa.PFnSecrets
open Go.RowKit Go.Proofs.YtfghapankndioaaW.PrintWords Go.Proofs.YtfghapankndioaaW.PrintLast Go.Proofs.Ytfghapankndioaa.EvLib
theorem specAreMarks_ev (l : List IMark) (hl : l.length ≤ 1048576) : Ev (fun k => spec_AreMarks.f k l) (areMk l) := by
  unfold spec_AreMarks.f
  refine ev_eq (ev_all (fun k i => spec_AreMarks.l0 k l i) l.length (mkOk l) (decide ((l.length : Int) ≤ 8)) (by omega) (fun k => ?_) (fun k i hi => ?_)) ?_
  · simp only [spec_AreMarks.l0]
    rw [if_neg (by omega)]
  · simp only [spec_AreMarks.l0, rd_mkx, l1In_eq, Option.bind_some]
    rw [if_pos (by omega), if_pos (by omega)]
    unfold mkOk
    by_cases h1 : 1 ≤ (mkx l i).f0 ∧ (mkx l i).f0 ≤ 20
    · by_cases h2 : 0 ≤ (mkx l i).f1 ∧ (mkx l i).f1 ≤ 99
      · by_cases h4 : i = 0
        · subst h4
          simp [h1, h2]
        · have e : wrap64 ((i : Int) - 1) = ((i - 1 : Nat) : Int) := by rw [wrap_id (by omega) (by omega)]; omega
          rw [e, rd_mkx]
          have g1 : 0 < i := by omega
          have g2 : i - 1 < l.length := by omega
          by_cases h5 : (mkx l (i - 1)).f0 < (mkx l i).f0
          · have g5 : ¬ (mkx l i).f0 ≤ (mkx l (i - 1)).f0 := by omega
            simp [h1, h2, h4, h5, g1, g2, g5]
          · have g5 : (mkx l i).f0 ≤ (mkx l (i - 1)).f0 := by omega
            simp [h1, h2, h4, h5, g1, g2, g5]
      · simp [h1, h2]
    · simp [h1]
  · unfold areMk
    congr 1
    rw [decide_eq_decide]; omega
end Go.Proofs.Ytfghapankndioaa.PFnSecrets
namespace Go.Proofs.Ytfghapankndioaa.PFnSecrets
open Go.RowKit Go.Proofs.YtfghapankndioaaW.PrintWords Go.Proofs.YtfghapankndioaaW.PrintLast Go.Proofs.Ytfghapankndioaa.EvLib
theorem specMod_eq (a : Int) : spec_Mod.f a 2147483647 = some (a % 2147483647) := by
  unfold spec_Mod.f
  rw [l1In_eq, Option.bind_some, if_pos (by simp), if_neg (by omega)]
  have e := tmod_cases a
  rw [e]
  congr 1
  by_cases h : 0 ≤ a
  · rw [if_pos h, wrap_id (by omega) (by omega), Int.tmod_eq_emod_of_nonneg (by omega)]
    omega
  · rw [if_neg h, wrap_id (by omega) (by omega), Int.tmod_eq_emod_of_nonneg (by omega)]
    omega
theorem specHash_l0 (l : List Int) (hl : l.length ≤ 1000000000) : ∀ (d i : Nat) (h : Int), i + d = l.length → Ev (fun k => spec_Hash.l0 k l h (i : Int)) ((l.drop i).foldl hs h) := by
  intro d
  induction d with
  | zero =>
    intro i h hi
    exact ev_step (fun k => by simp only [spec_Hash.l0]; rfl) (ev_iten (by omega) (ev_some (by rw [List.drop_of_length_le (by omega)]; rfl)))
  | succ d ih =>
    intro i h hi
    refine ev_step (fun k => by simp only [spec_Hash.l0]; rfl) (ev_itep (by omega) (ev_itep (by omega) (ev_bindc (specMod_eq _) ?_)))
    rw [wrap_id (x := (i : Int) + 1) (by omega) (by omega), rd_drop l i (by omega), List.foldl_cons]
    exact ih (i + 1) _ (by omega)
theorem specHash_ev (l : List Int) (hl : l.length ≤ 1000000000) : Ev (fun k => spec_Hash.f k l) (hash l) := by
  unfold spec_Hash.f hash
  exact specHash_l0 l hl l.length 0 11 (by omega)
end Go.Proofs.Ytfghapankndioaa.PFnSecrets
namespace Go.Proofs.Ytfghapankndioaa.PFnSecrets
open Go.RowKit Go.Proofs.YtfghapankndioaaW.PrintWords Go.Proofs.YtfghapankndioaaW.PrintLast Go.Proofs.Ytfghapankndioaa.EvLib
theorem specSeal_l0 (l : List IMark) (hl : l.length ≤ 1048576) : ∀ (d i : Nat) (s : List Int), i + d = l.length → s.length = 1 + 2 * i → Ev (fun k => spec_SealMarks.l0 k l s (i : Int)) (hash (s ++ (l.drop i).flatMap mkv)) := by
  intro d
  induction d with
  | zero =>
    intro i s hi hs
    refine ev_step (fun k => by simp only [spec_SealMarks.l0]; rfl) (ev_iten (by omega) (ev_bind (specHash_ev s (by omega)) (ev_some ?_)))
    rw [List.drop_of_length_le (by omega)]
    simp
  | succ d ih =>
    intro i s hi hs
    refine ev_step (fun k => by simp only [spec_SealMarks.l0]; rfl) (ev_itep (by omega) (ev_itep (by omega) (ev_bindc rfl (ev_itep (by simp; omega) ?_))))
    have := ih (i + 1) (s ++ mkv (mkx l i)) (by omega) (by simp [mkv]; omega)
    rw [wrap_id (by omega) (by omega), drop_mkx l i (by omega), List.flatMap_cons, ← List.append_assoc]
    simp only [rd_mkx]
    exact this
theorem specSealMarks_ev (l : List IMark) (hl : l.length ≤ 1048576) (salt : Int) : Ev (fun k => spec_SealMarks.f k l salt) (hash (sealIn l salt)) := by
  unfold spec_SealMarks.f
  exact specSeal_l0 l hl l.length 0 [salt] (by omega) rfl
end Go.Proofs.Ytfghapankndioaa.PFnSecrets
namespace Go.Proofs.Ytfghapankndioaa.PFnSecrets
open Go.RowKit Go.Proofs.YtfghapankndioaaW.PrintWords Go.Proofs.YtfghapankndioaaW.PrintLast Go.Proofs.Ytfghapankndioaa.EvLib
theorem putMark_j2 (l : List IMark) (hl : l.length ≤ 1000) (i : Nat) (hi : i ≤ l.length) (t : Bool) (ht : t = true → i < l.length) (a b : Int) :
    ∃ r : List IMark × Bool, Ev (fun k => spec_PutMark.j2 k l (i : Int) (l.drop i) t a b) r ∧ r.1.length ≤ l.length + 1 := by
  by_cases ct : t = true
  · have hil := ht ct
    obtain ⟨q, hq⟩ : ∃ q, q = [] ++ l.take i ++ [(⟨a, b⟩ : IMark)] ++ (l.drop i).drop 1 := ⟨_, rfl⟩
    have hql : q.length ≤ l.length + 1 := by rw [hq]; simp; omega
    have hA := specAreMarks_ev q (by omega)
    by_cases c : areMk q = true
    · refine ⟨(q, true), ev_step (fun k => by simp only [spec_PutMark.j2]; rfl) ?_, hql⟩
      exact (ev_itep ct (ev_itep (by rw [List.length_drop]; omega) (ev_bindc rfl (ev_bindc rfl (ev_itep (by omega) (ev_itep (by omega) (ev_bindc rfl (ev_itep (by simp; omega) (ev_bindc rfl (ev_bindc rfl (ev_itep (by simp; omega) (ev_bindc rfl (ev_itep (by simp; omega) (ev_bindc (a := q) (by rw [hq, Int.toNat_natCast]) (ev_bind hA (ev_itep c (ev_some rfl)))))))))))))))))
    · refine ⟨([] ++ l, false), ev_step (fun k => by simp only [spec_PutMark.j2]; rfl) ?_, by simp⟩
      exact (ev_itep ct (ev_itep (by rw [List.length_drop]; omega) (ev_bindc rfl (ev_bindc rfl (ev_itep (by omega) (ev_itep (by omega) (ev_bindc rfl (ev_itep (by simp; omega) (ev_bindc rfl (ev_bindc rfl (ev_itep (by simp; omega) (ev_bindc rfl (ev_itep (by simp; omega) (ev_bindc (a := q) (by rw [hq, Int.toNat_natCast]) (ev_bind hA (ev_iten c (ev_bindc rfl (ev_itep (by simp; omega) (ev_some rfl)))))))))))))))))))
  · obtain ⟨q, hq⟩ : ∃ q, q = [] ++ l.take i ++ [(⟨a, b⟩ : IMark)] ++ l.drop i := ⟨_, rfl⟩
    have hql : q.length ≤ l.length + 1 := by rw [hq]; simp; omega
    have hA := specAreMarks_ev q (by omega)
    by_cases c : areMk q = true
    · refine ⟨(q, true), ev_step (fun k => by simp only [spec_PutMark.j2]; rfl) ?_, hql⟩
      exact (ev_iten ct (ev_bindc rfl (ev_itep (by omega) (ev_itep (by omega) (ev_bindc rfl (ev_itep (by simp; omega) (ev_bindc rfl (ev_bindc rfl (ev_itep (by simp; omega) (ev_bindc rfl (ev_itep (by simp; omega) (ev_bindc (a := q) (by rw [hq, Int.toNat_natCast]) (ev_bind hA (ev_itep c (ev_some rfl)))))))))))))))
    · refine ⟨([] ++ l, false), ev_step (fun k => by simp only [spec_PutMark.j2]; rfl) ?_, by simp⟩
      exact (ev_iten ct (ev_bindc rfl (ev_itep (by omega) (ev_itep (by omega) (ev_bindc rfl (ev_itep (by simp; omega) (ev_bindc rfl (ev_bindc rfl (ev_itep (by simp; omega) (ev_bindc rfl (ev_itep (by simp; omega) (ev_bindc (a := q) (by rw [hq, Int.toNat_natCast]) (ev_bind hA (ev_iten c (ev_bindc rfl (ev_itep (by simp; omega) (ev_some rfl)))))))))))))))))
theorem putMark_j1 (l : List IMark) (hl : l.length ≤ 1000) (i : Nat) (hi : i ≤ l.length) (a b : Int) :
    ∃ r : List IMark × Bool, Ev (fun k => spec_PutMark.j1 k l (i : Int) a b) r ∧ r.1.length ≤ l.length + 1 := by
  by_cases c : i < l.length
  · obtain ⟨r, hr, hr2⟩ := putMark_j2 l hl i hi ((rd_T67 (l.drop i) 0).f0 == a) (fun _ => c) a b
    refine ⟨r, ev_step (fun k => by simp only [spec_PutMark.j1]; rfl) ?_, hr2⟩
    exact (ev_itep (by omega) (ev_itep (by omega) (ev_bindc (a := l.drop i) (by rw [Int.toNat_natCast]) (ev_itep (by rw [List.length_drop]; omega) (ev_itep (by rw [List.length_drop]; omega) hr)))))
  · obtain ⟨r, hr, hr2⟩ := putMark_j2 l hl i hi false (fun e => by cases e) a b
    refine ⟨r, ev_step (fun k => by simp only [spec_PutMark.j1]; rfl) ?_, hr2⟩
    exact (ev_itep (by omega) (ev_itep (by omega) (ev_bindc (a := l.drop i) (by rw [Int.toNat_natCast]) (ev_iten (by rw [List.length_drop]; omega) hr))))
theorem putMark_l0 (l : List IMark) (hl : l.length ≤ 1000) (a b : Int) : ∀ (d i : Nat), i + d = l.length →
    ∃ r : List IMark × Bool, Ev (fun k => spec_PutMark.l0 k l (i : Int) a b) r ∧ r.1.length ≤ l.length + 1 := by
  intro d
  induction d with
  | zero =>
    intro i hi
    obtain ⟨r, hr, hr2⟩ := putMark_j1 l hl i (by omega) a b
    exact ⟨r, ev_step (fun k => by simp only [spec_PutMark.l0]; rfl) (ev_iten (by omega) hr), hr2⟩
  | succ d ih =>
    intro i hi
    obtain ⟨r, hr, hr2⟩ := putMark_j1 l hl i (by omega) a b
    obtain ⟨n, hn, hn2⟩ := ih (i + 1) (by omega)
    by_cases c : (rd_T67 l (i : Int)).f0 < a
    · refine ⟨n, ev_step (fun k => by simp only [spec_PutMark.l0]; rfl) (ev_itep (by omega) (ev_itep (by omega) (ev_itep c ?_))), hn2⟩
      rw [wrap_id (by omega) (by omega)]
      exact hn
    · exact ⟨r, ev_step (fun k => by simp only [spec_PutMark.l0]; rfl) (ev_itep (by omega) (ev_itep (by omega) (ev_iten c hr))), hr2⟩
theorem putMark_ok (l : List IMark) (hl : l.length ≤ 1000) (a b : Int) : ∃ r : List IMark × Bool, Ev (fun k => spec_PutMark.f k l a b) r ∧ r.1.length ≤ l.length + 1 := by
  unfold spec_PutMark.f
  exact putMark_l0 l hl a b l.length 0 (by omega)
theorem draw11_l0 (s : List Int) (hs : s.length ≤ 1048576) : ∀ (d : Nat) (l : List IMark) (p h : Int), l.length + d ≤ 20 → 0 ≤ p →
    ∃ (r : List IMark) (p' h' : Int), Ev (fun k => spec_l11Draw.l0 k l (d : Int) s p h) (r, p', h') ∧ 0 ≤ p' ∧ r.length ≤ 20 := by
  intro d
  induction d with
  | zero => intro l p h hl hp; exact ⟨l, p, h, ev_step (fun k => by simp only [spec_l11Draw.l0]; rfl) (ev_iten (by omega) (ev_some rfl)), hp, by omega⟩
  | succ d ih =>
    intro l p h hl hp
    obtain ⟨a, p1, h1, e1, q1, _, _⟩ := below_ok s hs p h hp 8
    obtain ⟨b, p2, h2, e2, q2, _, _⟩ := below_ok s hs p1 h1 q1 9
    obtain ⟨x, hx, hx2⟩ := putMark_ok l (by omega) (wrap64 (1 + a)) b
    obtain ⟨r, p', h', hr, g1, g2⟩ := ih x.1 p2 h2 (by omega) q2
    refine ⟨r, p', h', ev_step (fun k => by simp only [spec_l11Draw.l0]; rfl) (ev_itep (by omega) (ev_bindc e1 (ev_bindc e2 (ev_bind hx ?_)))), g1, g2⟩
    rw [show wrap64 (((d + 1 : Nat) : Int) - 1) = (d : Int) by rw [wrap_id (by omega) (by omega)]; omega]
    exact hr
theorem draw11_ok (s : List Int) (hs : s.length ≤ 1048576) (p h : Int) (hp : 0 ≤ p) : ∃ (r : List IMark) (p' h' : Int), Ev (fun k => spec_l11Draw.f k s p h) (r, p', h') ∧ 0 ≤ p' ∧ r.length ≤ 20 := by
  unfold spec_l11Draw.f
  obtain ⟨n, p0, h0, e0, q0, n0, n1⟩ := below_ok s hs p h hp 6
  have n1 := n1 (by omega)
  obtain ⟨l, p1, h1, hr, q1, hl⟩ := draw11_l0 s hs n.toNat [] p0 h0 (by simp; omega) q0
  rw [show ((n.toNat : Nat) : Int) = n by omega] at hr
  exact ⟨l, p1, h1, ev_bindc e0 hr, q1, hl⟩
theorem one31_ok (s : List Int) (hs : s.length ≤ 1048576) (p h : Int) (hp : 0 ≤ p) (a : Int) : ∃ (r : List IMark) (b p' h' : Int), Ev (fun k => spec_l31One.f k s p h a) (a, r, b, p', h') ∧ 0 ≤ p' ∧ r.length ≤ 20 := by
  unfold spec_l31One.f
  obtain ⟨l, p1, h1, hr, q1, hl⟩ := draw11_ok s hs p h hp
  by_cases c : (l.length : Int) = 0
  · obtain ⟨x, p2, h2, e2, q2, _, _⟩ := below_ok s hs p1 h1 q1 9
    obtain ⟨y, p3, h3, e3, q3, _, _⟩ := below_ok s hs p2 h2 q2 99
    exact ⟨[⟨1, x⟩], y, p3, h3, ev_bind hr (ev_itep c (ev_bindc e2 (ev_bindc e3 (ev_some rfl)))), q3, by simp⟩
  · obtain ⟨y, p3, h3, e3, q3, _, _⟩ := below_ok s hs p1 h1 q1 99
    exact ⟨l, y, p3, h3, ev_bind hr (ev_iten c (ev_bindc e3 (ev_some rfl))), q3, hl⟩
theorem any11_ok (s : List Int) (hs : s.length ≤ 1048576) (p h : Int) (hp : 0 ≤ p) : ∃ (r : List IMark) (p' h' : Int), Ev (fun k => spec_l11Any.f k s p h) (r, p', h') ∧ 0 ≤ p' ∧ r.length ≤ 20 := by
  unfold spec_l11Any.f
  obtain ⟨l, p1, h1, hr, q1, hl⟩ := draw11_ok s hs p h hp
  by_cases c : (l.length : Int) = 0
  · exact ⟨l, p1, h1, ev_bind hr (ev_itep c (ev_some rfl)), q1, hl⟩
  · obtain ⟨a, p2, h2, e2, q2, a0, a1⟩ := below_ok s hs p1 h1 q1 l.length
    have a1 := a1 (by omega)
    obtain ⟨b, p3, h3, e3, q3, _, _⟩ := below_ok s hs p2 h2 q2 9
    by_cases c0 : b = 0
    · obtain ⟨v, p4, h4, e4, q4, _⟩ := int_ok s hs p3 h3 q3 [0, 20, 21] (by simp)
      exact ⟨_, p4, h4, ev_bind hr (ev_iten c (ev_bindc e2 (ev_bindc e3 (ev_itep c0 (ev_bindc e4 (ev_itep a0 (ev_itep a1 (ev_some rfl)))))))), q4, by rw [List.length_set]; exact hl⟩
    · by_cases c1 : b = 1
      · obtain ⟨v, p4, h4, e4, q4, _⟩ := int_ok s hs p3 h3 q3 [(-1), 99, 100] (by simp)
        exact ⟨_, p4, h4, ev_bind hr (ev_iten c (ev_bindc e2 (ev_bindc e3 (ev_iten c0 (ev_itep c1 (ev_bindc e4 (ev_itep a0 (ev_itep a1 (ev_some rfl))))))))), q4, by rw [List.length_set]; exact hl⟩
      · exact ⟨_, p3, h3, ev_bind hr (ev_iten c (ev_bindc e2 (ev_bindc e3 (ev_iten c0 (ev_iten c1 (ev_some rfl)))))), q3, hl⟩
def Marked (l : List ISecret) : Prop := ∀ x ∈ l, x.f1.length ≤ 20
theorem marked_set {l : List ISecret} (h : Marked l) (i : Nat) (x : ISecret) (hx : x.f1.length ≤ 20) : Marked (l.set i x) := by
  intro y hy
  rcases List.mem_or_eq_of_mem_set hy with e | e
  · exact h y e
  · rw [e]; exact hx
theorem marked_rd {l : List ISecret} (h : Marked l) (i : Int) (h1 : i.toNat < l.length) : (rd_T36 l i).f1.length ≤ 20 := by
  unfold rd_T36
  exact h _ (getD_mem l i.toNat _ h1)
theorem any_end {s : List Int} (hs : s.length ≤ 1048576) (i : Int) (l : List ISecret) (p h n p0 h0 : Int) (e0 : spec_l1Below.f s p h 6 = some (n, p0, h0)) (q0 : 0 ≤ p0) (c : ¬ i ≤ n) (hl : (l.length : Int) ≤ i) (hi : i ≤ 8) (hm : Marked l) :
    ∃ (r : List ISecret) (p' h' : Int), Ev (fun k => spec_l31Any.l0 k l i s p h) (r, p', h') ∧ 0 ≤ p' ∧ r.length ≤ 8 ∧ Marked r := by
  by_cases z : (l.length : Int) > 0
  · obtain ⟨a, p1, h1, e1, q1, a0, a1⟩ := below_ok s hs p0 h0 q0 l.length
    have a1 := a1 (by omega)
    have ha : a.toNat < l.length := by omega
    have hR := marked_rd hm a ha
    obtain ⟨b, p2, h2, e2, q2, _, _⟩ := below_ok s hs p1 h1 q1 10
    by_cases c0 : b = 0
    · obtain ⟨v, p3, h3, e3, q3, _⟩ := int_ok s hs p2 h2 q2 [0, 2, 999, 1000] (by simp)
      refine ⟨l.set a.toNat (⟨v, (rd_T36 l a).f1, (rd_T36 l a).f2⟩ : ISecret), p3, h3, ev_step (fun k => by simp only [spec_l31Any.l0]; rfl) ?_, q3, by rw [List.length_set]; omega, marked_set hm _ _ hR⟩
      exact (ev_bindc e0 (ev_iten c (ev_itep z (ev_bindc e1 (ev_bindc e2 (ev_itep c0 (ev_bindc e3 (ev_itep a0 (ev_itep a1 (ev_some rfl))))))))))
    · by_cases c1 : b = 1
      · obtain ⟨v, p3, h3, e3, q3, hv⟩ := any11_ok s hs p2 h2 q2
        refine ⟨l.set a.toNat (⟨(rd_T36 l a).f0, v, (rd_T36 l a).f2⟩ : ISecret), p3, h3, ev_step (fun k => by simp only [spec_l31Any.l0]; rfl) ?_, q3, by rw [List.length_set]; omega, marked_set hm _ _ hv⟩
        exact (ev_bindc e0 (ev_iten c (ev_itep z (ev_bindc e1 (ev_bindc e2 (ev_iten c0 (ev_itep c1 (ev_bind e3 (ev_itep a0 (ev_itep a1 (ev_some rfl)))))))))))
      · by_cases c2 : b = 2
        · obtain ⟨v, p3, h3, e3, q3, _⟩ := int_ok s hs p2 h2 q2 [(-1), 1000000, 1000001] (by simp)
          refine ⟨l.set a.toNat (⟨(rd_T36 l a).f0, (rd_T36 l a).f1, v⟩ : ISecret), p3, h3, ev_step (fun k => by simp only [spec_l31Any.l0]; rfl) ?_, q3, by rw [List.length_set]; omega, marked_set hm _ _ hR⟩
          exact (ev_bindc e0 (ev_iten c (ev_itep z (ev_bindc e1 (ev_bindc e2 (ev_iten c0 (ev_iten c1 (ev_itep c2 (ev_bindc e3 (ev_itep a0 (ev_itep a1 (ev_some rfl))))))))))))
        · refine ⟨l, p2, h2, ev_step (fun k => by simp only [spec_l31Any.l0]; rfl) ?_, q2, by omega, hm⟩
          exact (ev_bindc e0 (ev_iten c (ev_itep z (ev_bindc e1 (ev_bindc e2 (ev_iten c0 (ev_iten c1 (ev_iten c2 (ev_some rfl)))))))))
  · refine ⟨l, p0, h0, ev_step (fun k => by simp only [spec_l31Any.l0]; rfl) ?_, q0, by omega, hm⟩
    exact (ev_bindc e0 (ev_iten c (ev_iten z (ev_some rfl))))
theorem any31_l0 (s : List Int) (hs : s.length ≤ 1048576) : ∀ (d : Nat) (i : Int) (l : List ISecret) (p h : Int), i + d = 7 → 1 ≤ i → (l.length : Int) ≤ i → 0 ≤ p → Marked l →
    ∃ (r : List ISecret) (p' h' : Int), Ev (fun k => spec_l31Any.l0 k l i s p h) (r, p', h') ∧ 0 ≤ p' ∧ r.length ≤ 8 ∧ Marked r := by
  intro d
  induction d with
  | zero =>
    intro i l p h hi h1 hl hp hm
    obtain ⟨n, p0, h0, e0, q0, n0, n1⟩ := below_ok s hs p h hp 6
    have n1 := n1 (by omega)
    exact any_end hs i l p h n p0 h0 e0 q0 (by omega) hl (by omega) hm
  | succ d ih =>
    intro i l p h hi h1 hl hp hm
    obtain ⟨n, p0, h0, e0, q0, n0, n1⟩ := below_ok s hs p h hp 6
    by_cases c : i ≤ n
    · obtain ⟨r, b, p1, h1', hr, q1, hrl⟩ := one31_ok s hs p0 h0 q0 (wrap64 (2 * i))
      obtain ⟨r2, p2, h2, hr2, q2, g1, g2⟩ := ih (i + 1) (l ++ [⟨wrap64 (2 * i), r, b⟩]) p1 h1' (by omega) (by omega) (by rw [List.length_append, List.length_singleton]; omega) q1 (by
        intro x hx
        rcases List.mem_append.1 hx with e | e
        · exact hm x e
        · rw [List.mem_singleton.1 e]; exact hrl)
      have hll : l.length < 3518437208883 := by omega
      refine ⟨r2, p2, h2, ev_step (fun k => by simp only [spec_l31Any.l0]; rfl) ?_, q2, g1, g2⟩
      refine ev_bindc e0 (ev_itep c (ev_bind hr (ev_itep hll ?_)))
      rw [show wrap64 (i + 1) = i + 1 by rw [wrap_id (by omega) (by omega)]]
      exact hr2
    · exact any_end hs i l p h n p0 h0 e0 q0 c hl (by omega) hm
theorem any31_ok (s : List Int) (hs : s.length ≤ 1048576) (p h : Int) (hp : 0 ≤ p) : ∃ (r : List ISecret) (p' h' : Int), Ev (fun k => spec_l31Any.f k s p h) (r, p', h') ∧ 0 ≤ p' ∧ r.length ≤ 8 ∧ Marked r := by
  unfold spec_l31Any.f
  exact any31_l0 s hs 6 1 [] p h (by omega) (by omega) (by simp) hp (fun x hx => by cases hx)
theorem marked_small {l : List ISecret} (h : l.length ≤ 8) (hm : Marked l) : SmallS l := ⟨by omega, fun x hx => by have := hm x hx; omega⟩
theorem copy_l0 (l : List ISecret) (h : SmallS l) : ∀ (d i : Nat), i + d = l.length → Ev (fun k => spec_l31Copy.l0 k l (l.take i) (i : Int)) l := by
  have hl := h.1
  intro d
  induction d with
  | zero =>
    intro i hi
    exact ev_step (fun k => by simp only [spec_l31Copy.l0]; rfl) (ev_iten (by omega) (ev_some (List.take_of_length_le (by omega))))
  | succ d ih =>
    intro i hi
    have hil : i < l.length := by omega
    have hm := h.2 _ (sec_mem l i hil)
    refine ev_step (fun k => by simp only [spec_l31Copy.l0]; rfl) (ev_itep (by omega) (ev_itep (by omega) ?_))
    simp only [rd_sec, wrap_id (x := (i : Int) + 1) (by omega) (by omega)]
    refine ev_bindc rfl (ev_itep (by simp; omega) (ev_itep (by rw [List.length_take]; omega) ?_))
    have e : l.take i ++ [(⟨(sec l i).f0, [] ++ (sec l i).f1, (sec l i).f2⟩ : ISecret)] = l.take (i + 1) := by
      rw [List.nil_append, List.take_succ_eq_append_getElem hil]
      congr 2
      show sec l i = l[i]
      unfold sec
      rw [List.getD_eq_getElem?_getD, List.getElem?_eq_getElem hil, Option.getD_some]
    rw [e]
    exact ih (i + 1) (by omega)
theorem copy_ev (l : List ISecret) (h : SmallS l) : Ev (fun k => spec_l31Copy.f k l) l := by
  unfold spec_l31Copy.f
  exact copy_l0 l h l.length 0 (by omega)
theorem drawPut_ok (s : List Int) (hs : s.length ≤ 1048576) : ∃ (l : List ISecret) (a : Int) (m : List IMark) (b : Int), Ev (fun k => spec_DrawPutSecret.f k s) (l, a, m, b) ∧ SmallS l ∧ l.length ≤ 1000 ∧ m.length ≤ 1048576 := by
  unfold spec_DrawPutSecret.f
  obtain ⟨h0, hn⟩ := new_ok s hs
  obtain ⟨l, p, h, hr, q, hl, hm⟩ := any31_ok s hs 0 h0 (by omega)
  obtain ⟨a, p1, h1, e1, q1, _, _⟩ := below_ok s hs p h q 14
  obtain ⟨m, b, p2, h2, hr2, q2, hm2⟩ := one31_ok s hs p1 h1 q1 a
  exact ⟨l, a, m, b, ev_bind hn (ev_bind hr (ev_bindc e1 (ev_bind hr2 (ev_some rfl)))), marked_small hl hm, by omega, by omega⟩
theorem drawSeal_ok (s : List Int) (hs : s.length ≤ 1048576) : ∃ (l : List ISecret) (a : Int), Ev (fun k => spec_DrawSealOf.f k s) (l, a) ∧ SmallS l := by
  unfold spec_DrawSealOf.f spec_DrawMarksOf.f
  obtain ⟨h0, hn⟩ := new_ok s hs
  obtain ⟨l, p, h, hr, q, hl, hm⟩ := any31_ok s hs 0 h0 (by omega)
  obtain ⟨a, p1, h1, e1, q1, _, _⟩ := below_ok s hs p h q 14
  exact ⟨l, a, ev_bind (ev_bind hn (ev_bind hr (ev_bindc e1 (ev_some rfl)))) (ev_some rfl), marked_small hl hm⟩
theorem drawEq_ok (s : List Int) (hs : s.length ≤ 1048576) : ∃ l m : List ISecret, Ev (fun k => spec_DrawEqualSecrets.f k s) (l, m) ∧ SmallS l ∧ SmallS m := by
  unfold spec_DrawEqualSecrets.f
  obtain ⟨h0, hn⟩ := new_ok s hs
  obtain ⟨l, p, h, hr, q, hl, hm⟩ := any31_ok s hs 0 h0 (by omega)
  obtain ⟨b, p1, h1, e1, q1⟩ := once_ok s hs p h q 2
  by_cases c : b = true
  · exact ⟨l, l, ev_bind hn (ev_bind hr (ev_bindc e1 (ev_itep c (ev_bind (copy_ev l (marked_small hl hm)) (ev_some rfl))))), marked_small hl hm, marked_small hl hm⟩
  · obtain ⟨l2, p2, h2, hr2, q2, hl2, hm2⟩ := any31_ok s hs p1 h1 q1
    exact ⟨l, l2, ev_bind hn (ev_bind hr (ev_bindc e1 (ev_iten c (ev_bind hr2 (ev_some rfl))))), marked_small hl hm, marked_small hl2 hm2⟩
theorem drawIs_ok (s : List Int) (hs : s.length ≤ 1048576) : ∃ (a : Int) (m : List IMark) (b c : Int), Ev (fun k => spec_DrawIsSecretOf.f k s) (a, m, b, c) ∧ m.length ≤ 1048576 := by
  unfold spec_DrawIsSecretOf.f
  obtain ⟨h0, hn⟩ := new_ok s hs
  obtain ⟨m, b, p, h, hr, q, hm⟩ := one31_ok s hs 0 h0 (by omega) 4
  obtain ⟨t, p1, h1, e1, q1⟩ := once_ok s hs p h q 3
  have hS := specSealMarks_ev m (by omega) b
  by_cases c : t = true
  · exact ⟨4, m, b, _, ev_bind hn (ev_bind hr (ev_bind hS (ev_bindc e1 (ev_itep c (ev_some rfl))))), by omega⟩
  · exact ⟨4, m, b, _, ev_bind hn (ev_bind hr (ev_bind hS (ev_bindc e1 (ev_iten c (ev_some rfl))))), by omega⟩
end Go.Proofs.Ytfghapankndioaa.PFnSecrets
