/- Twins: TwinsOf of the program and of the reference. -/
import Derived.Test.YtglpmjcknhcjcaaFndDFnExactDropTwins
namespace Go.Proofs.Ytglpmjcknhcjcaa.PFnExactDropTwins
open Go.RowKit Go.Proofs.YtglpmjcknhcjcaaW.PrintWords Go.Proofs.YtglpmjcknhcjcaaW.PrintLast Go.Proofs.Ytglpmjcknhcjcaa.EvLib
def isTw (a b : IFind) : Bool := isFd a && (isFd b && (decide (a.f0.f0 ≠ b.f0.f0) && (decide (a.f0.f1 = b.f0.f1) && (decide (a.f0.f2 = b.f0.f2) && (decide (a.f0.f3 = b.f0.f3) && (decide (a.f1 = b.f1) && decide (-24 ≤ wrap64 (a.f2 - b.f2) ∧ wrap64 (a.f2 - b.f2) ≤ 24)))))))
theorem ite_eqs {p : Prop} [Decidable p] (b : Bool) : (if p then some b else some false) = some (decide p && b) := by by_cases h : p <;> simp [h]
theorem ite_nes {p : Prop} [Decidable p] (b : Bool) : (if p then some false else some b) = some (decide (¬ p) && b) := by by_cases h : p <;> simp [h]
theorem implAreTwins_eq (a b : IFind) : impl_AreTwins.f a.f0.f0 a.f0.f1 a.f0.f2 a.f0.f3 a.f0.f4 a.f1 a.f2 a.f3 b.f0.f0 b.f0.f1 b.f0.f2 b.f0.f3 b.f0.f4 b.f1 b.f2 b.f3 = some (isTw a b) := by
  unfold impl_AreTwins.f isTw isFd
  simp only [implIsFind_eq, inRange_eq, Option.bind_some, ite_eqs, ite_nes, ne_eq, Bool.decide_eq_true]
theorem specAreTwins_eq (a b : IFind) : spec_AreTwins.f a.f0.f0 a.f0.f1 a.f0.f2 a.f0.f3 a.f0.f4 a.f1 a.f2 a.f3 b.f0.f0 b.f0.f1 b.f0.f2 b.f0.f3 b.f0.f4 b.f1 b.f2 b.f3 = some (isTw a b) := by
  unfold spec_AreTwins.f isTw isFd
  simp only [specIsFind_eq, l1In_eq, Option.bind_some, ite_eqs, ite_nes, ne_eq, Bool.decide_eq_true]
theorem isFd_at {a : IFind} (h : isFd a = true) : 0 ≤ a.f2 ∧ a.f2 ≤ 100000 := by
  unfold isFd isF8 at h
  simp only [Bool.and_eq_true, decide_eq_true_eq] at h
  exact h.2.2.1
theorem isTw_sym (a b : IFind) : isTw a b = isTw b a := by
  unfold isTw
  cases ha : isFd a with
  | false => cases hb : isFd b <;> simp
  | true =>
    cases hb : isFd b with
    | false => simp
    | true =>
      have h1 := isFd_at ha
      have h2 := isFd_at hb
      rw [wrap_id (x := a.f2 - b.f2) (by omega) (by omega), wrap_id (x := b.f2 - a.f2) (by omega) (by omega)]
      simp only [Bool.true_and]
      rw [Bool.eq_iff_iff]
      simp only [Bool.and_eq_true, decide_eq_true_eq]
      omega
/-- The ids of those among the first n that have a twin ahead of them. -/
def twOut (l : List IFind) : Nat → List Int
  | 0 => []
  | n + 1 => twOut l n ++ (if (l.take n).any (isTw (fd l n)) = true then [(fd l n).f0.f0] else [])
theorem twOut_len (l : List IFind) : ∀ n, (twOut l n).length ≤ n
  | 0 => Nat.le_refl _
  | n + 1 => by
    have := twOut_len l n
    unfold twOut
    split <;> simp <;> omega
def twins (l : List IFind) : List Int := if areFd l = true then twOut l l.length else []
theorem twins_len (l : List IFind) : (twins l).length ≤ 20 := by
  unfold twins
  split
  · rename_i h
    have := twOut_len l l.length
    have := areFd_len h
    omega
  · simp
theorem p_eq (f x : IFind) : impl_TwinsOf.p f x = isTw f x := by
  unfold impl_TwinsOf.p
  rw [implAreTwins_eq]
  rfl
theorem idx_any (p : IFind → Bool) (l : List IFind) : (0 ≤ idxB p l 0) ↔ l.any p = true := by
  rcases idxB_in p z58 l 0 with ⟨h1, h2⟩ | ⟨j, h1, h2, h3, _⟩
  · rw [h1]
    constructor
    · intro h; omega
    · intro h
      obtain ⟨x, hx, hp⟩ := List.any_eq_true.1 h
      rw [h2 x hx] at hp
      cases hp
  · rw [h2]
    refine ⟨fun _ => List.any_eq_true.2 ⟨l[j], List.getElem_mem _, ?_⟩, fun _ => by omega⟩
    rw [← h3]
    simp [List.getD, h1]
theorem out_eq (l : List IFind) : ∀ n, impl_TwinsOf.out l n = twOut l n
  | 0 => rfl
  | n + 1 => by
    have e : impl_TwinsOf.p (fd l n) = isTw (fd l n) := funext (p_eq _)
    rw [impl_TwinsOf.out, twOut, out_eq l n, rd_fd, e]
    congr 1
    by_cases h : (l.take n).any (isTw (fd l n)) = true
    · rw [if_pos h, if_pos ((idx_any _ _).2 h)]
    · rw [if_neg h, if_neg (fun c => h ((idx_any _ _).1 c))]
theorem implTwinsOf_ev (l : List IFind) (hl : l.length ≤ 1048576) : Ev (fun k => impl_TwinsOf.f k l) (twins l) := by
  unfold impl_TwinsOf.f
  refine ev_bind (implAreFinds_ev l (by omega)) ?_
  unfold twins
  cases h : areFd l with
  | true =>
    rw [if_pos rfl]
    refine ev_const ?_
    rw [if_pos rfl, if_pos (by omega), out_eq]
  | false =>
    rw [if_neg (by simp)]
    refine ev_const ?_
    rw [if_neg (by simp)]
theorem specTwins_l1 (l : List IFind) (hl : l.length ≤ 1048576) (o : List Int) (ho : o.length ≤ 1048576) (i : Nat) (hi : i < l.length) (B : Bool) (r : List Int)
    (hR : Ev (fun k => spec_TwinsOf.l0 k l (if B = true then o ++ [(fd l i).f0.f0] else o) ((i + 1 : Nat) : Int)) r) :
    ∀ (d j : Nat) (b : Bool), j + d = i → (b || ((l.take i).drop j).any (isTw (fd l i))) = B → Ev (fun k => spec_TwinsOf.l1 k l o (i : Int) b (j : Int)) r := by
  intro d
  induction d with
  | zero =>
    intro j b hj hB
    refine ev_step (fun k => by simp only [spec_TwinsOf.l1]; rfl) (ev_iten (by omega) ?_)
    rw [List.drop_of_length_le (by rw [List.length_take]; omega), List.any_nil, Bool.or_false] at hB
    subst hB
    cases b with
    | false =>
      refine ev_iten (by simp) ?_
      rw [wrap_id (by omega) (by omega)]
      exact hR
    | true =>
      refine ev_itep rfl (ev_itep (by omega) (ev_itep (by omega) (ev_itep (by omega) ?_)))
      rw [wrap_id (by omega) (by omega), rd_fd]
      exact hR
  | succ d ih =>
    intro j b hj hB
    have hjl : j < (l.take i).length := by rw [List.length_take]; omega
    have e : ((l.take i).drop j).any (isTw (fd l i)) = (isTw (fd l i) (fd l j) || ((l.take i).drop (j + 1)).any (isTw (fd l i))) := by
      rw [List.drop_eq_getElem_cons hjl, List.any_cons, List.getElem_take, fd_get l j (by omega)]
    refine ev_step (fun k => by simp only [spec_TwinsOf.l1]; rfl) (ev_itep (by omega) ?_)
    rw [wrap_id (x := (j : Int) + 1) (by omega) (by omega)]
    cases b with
    | true => exact ev_itep rfl (ih (j + 1) true (by omega) (by rw [Bool.true_or] at hB ⊢; exact hB))
    | false =>
      refine ev_iten (by simp) (ev_itep (by omega) (ev_itep (by omega) (ev_itep (by omega) (ev_itep (by omega) ?_))))
      simp only [rd_fd, specAreTwins_eq, Option.bind_some]
      refine ih (j + 1) (isTw (fd l j) (fd l i)) (by omega) ?_
      rw [Bool.false_or, e, isTw_sym (fd l i) (fd l j)] at hB
      exact hB
theorem specTwins_l0 (l : List IFind) (hl : l.length ≤ 1048576) (h : areFd l = true) : ∀ (d i : Nat), i + d = l.length → Ev (fun k => spec_TwinsOf.l0 k l (twOut l i) (i : Int)) (twOut l l.length) := by
  intro d
  induction d with
  | zero =>
    intro i hi
    refine ev_step (fun k => by simp only [spec_TwinsOf.l0]; rfl) (ev_iten (by omega) (ev_step (fun k => by simp only [spec_TwinsOf.j1]; rfl) (ev_iten (by simp) (ev_some ?_))))
    rw [show i = l.length by omega]
  | succ d ih =>
    intro i hi
    have ho := twOut_len l i
    refine ev_step (fun k => by simp only [spec_TwinsOf.l0]; rfl) (ev_itep (by omega) (ev_bind (specAreFinds_ev l (by omega)) ?_))
    rw [h]
    refine ev_step (fun k => by simp only [spec_TwinsOf.j1]; rfl) (ev_itep (by first | rfl | trivial) ?_)
    refine specTwins_l1 l hl (twOut l i) (by omega) i (by omega) ((l.take i).any (isTw (fd l i))) _ ?_ i 0 false (by omega) (by rw [List.drop_zero, Bool.false_or])
    have hn := ih (i + 1) (by omega)
    have e : (if (l.take i).any (isTw (fd l i)) = true then twOut l i ++ [(fd l i).f0.f0] else twOut l i) = twOut l (i + 1) := by
      rw [twOut]
      split <;> simp
    rw [e]
    exact hn
theorem specTwinsOf_ev (l : List IFind) (hl : l.length ≤ 1048576) : Ev (fun k => spec_TwinsOf.f k l) (twins l) := by
  unfold spec_TwinsOf.f twins
  cases h : areFd l with
  | true =>
    rw [if_pos rfl]
    exact specTwins_l0 l hl h l.length 0 (by omega)
  | false =>
    rw [if_neg (by simp)]
    refine ev_step (fun k => by simp only [spec_TwinsOf.l0]; rfl) (ev_ite (fun _ => ev_bind (specAreFinds_ev l (by omega)) ?_) (fun _ => ev_step (fun k => by simp only [spec_TwinsOf.j1]; rfl) (ev_iten (by simp) (ev_some rfl))))
    rw [h]
    exact ev_step (fun k => by simp only [spec_TwinsOf.j1]; rfl) (ev_iten (by simp) (ev_some rfl))
end Go.Proofs.Ytglpmjcknhcjcaa.PFnExactDropTwins
