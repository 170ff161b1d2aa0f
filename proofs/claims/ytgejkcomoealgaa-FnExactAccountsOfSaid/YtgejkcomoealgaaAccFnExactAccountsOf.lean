/- AccountsOf of the program and of the reference. -/
import Derived.Test.YtgejkcomoealgaaStmFnExactAccountsOf
import Derived.Test.YtgejkcomoealgaaEvLib
import Derived.Test.YtgejkcomoealgaaCompLFnExactAccountsOf
namespace Go.Proofs.Ytgejkcomoealgaa.PFnExactAccountsOf
open Go.RowKit Go.Proofs.YtgejkcomoealgaaW.PrintWords Go.Proofs.YtgejkcomoealgaaW.PrintLast Go.Proofs.Ytgejkcomoealgaa.EvLib
abbrev AEnt := S35
theorem putI_split (n : Int) (l : List Int) (i : Nat) (hi : i ≤ l.length) (hlt : ∀ j (h : j < i), l[j]'(by omega) < n) : putI n l = l.take i ++ putI n (l.drop i) := by
  induction i generalizing l with
  | zero => simp
  | succ i ih =>
    cases l with
    | nil => simp at hi
    | cons x l =>
      have hx : x < n := hlt 0 (by omega)
      rw [putI, if_pos hx, List.take_succ_cons, List.drop_succ_cons, List.cons_append]
      congr 1
      exact ih l (by simpa using hi) (fun j h => by have := hlt (j + 1) (by omega); simpa using this)
theorem specPut_l0 (n : Int) (l : List Int) (hl : l.length ≤ 4194304) : ∀ (d i : Nat), i + d = l.length → (∀ j (h : j < l.length), j < i → l[j] < n) → Ev (fun k => spec_l9Put.l0 k l n (i : Int)) (putI n l) := by
  intro d
  induction d with
  | zero =>
    intro i hi hlt
    refine ev_step (fun k => by simp only [spec_l9Put.l0]; rfl) (ev_iten (by omega) ?_)
    refine ev_const ?_
    simp only [Option.bind_some, List.nil_append, List.length_nil, Int.toNat_natCast]
    rw [if_pos (by omega), if_pos (by omega), if_pos (by rw [List.length_take]; omega), if_pos (by rw [List.length_take, List.length_singleton]; omega), if_pos (by simp only [List.length_append, List.length_take, List.length_drop, List.length_singleton]; omega)]
    rw [putI_split n l i (by omega) (fun j h => hlt j (by omega) h), List.drop_of_length_le (by omega), putI, List.append_nil]
  | succ d ih =>
    intro i hi hlt
    have hil : i < l.length := by omega
    have hrd : rd l (i : Int) = l[i] := by
      unfold rd
      rw [Int.toNat_natCast, List.getD_eq_getElem?_getD, List.getElem?_eq_getElem hil, Option.getD_some]
    refine ev_step (fun k => by simp only [spec_l9Put.l0]; rfl) (ev_itep (by omega) (ev_itep (by omega) ?_))
    rw [hrd]
    refine ev_ite (fun c => ?_) (fun c => ?_)
    · rw [wrap_id (by omega) (by omega)]
      refine ih (i + 1) (by omega) (fun j h hj => ?_)
      rcases Nat.lt_or_ge j i with e | e
      · exact hlt j h e
      · have : j = i := by omega
        subst this; exact c
    · have hs := putI_split n l i (by omega) (fun j h => hlt j (by omega) h)
      rw [List.drop_eq_getElem_cons hil, putI, if_neg c] at hs
      refine ev_ite (fun c2 => ev_const ?_) (fun c2 => ev_const ?_)
      · simp only [Option.bind_some, List.nil_append, List.length_nil]
        rw [if_pos (by omega), hs, if_pos c2, ← List.drop_eq_getElem_cons hil, List.take_append_drop]
      · simp only [Option.bind_some, List.nil_append, List.length_nil, Int.toNat_natCast]
        rw [if_pos (by omega), if_pos (by rw [List.length_take]; omega), if_pos (by rw [List.length_take, List.length_singleton]; omega), if_pos (by simp only [List.length_append, List.length_take, List.length_drop, List.length_singleton]; omega)]
        rw [hs, if_neg c2, ← List.drop_eq_getElem_cons hil, List.append_assoc]
        rfl
theorem specPut_ev (n : Int) (l : List Int) (hl : l.length ≤ 4194304) : Ev (fun k => spec_l9Put.f k l n) (putI n l) := by
  unfold spec_l9Put.f
  exact specPut_l0 n l hl l.length 0 (by omega) (fun j h hj => by omega)
def flat (l : List AEnt) : List Int := l.flatMap fun x => [x.f0, x.f1]
def accOf (l : List AEnt) : List Int := unitedI (flat l)
def ae (l : List AEnt) (i : Nat) : AEnt := rd_T35 l (i : Int)
theorem ae_eq (l : List AEnt) (i : Nat) (h : i < l.length) : ae l i = l[i] := by
  unfold ae rd_T35
  rw [Int.toNat_natCast, List.getD_eq_getElem?_getD, List.getElem?_eq_getElem h, Option.getD_some]
theorem flat_succ (l : List AEnt) (i : Nat) (h : i < l.length) : flat (l.take (i + 1)) = flat (l.take i) ++ [(ae l i).f0, (ae l i).f1] := by
  unfold flat
  rw [List.take_succ_eq_append_getElem h, ae_eq l i h, List.flatMap_append]
  rfl
theorem flat_len : ∀ l : List AEnt, (flat l).length = 2 * l.length
  | [] => rfl
  | x :: l => by have := flat_len l; simp only [flat, List.flatMap_cons, List.length_append, List.length_cons, List.length_nil] at this ⊢; omega
theorem specAcc_l0 (l : List AEnt) (hl : l.length ≤ 1048576) : ∀ (d i : Nat) (o : List Int), i + d = l.length → o.length ≤ 2 * i → Strict o → (∀ x, x ∈ o ↔ x ∈ flat (l.take i)) → Ev (fun k => spec_AccountsOf.l0 k l o (i : Int)) (accOf l) := by
  intro d
  induction d with
  | zero =>
    intro i o hi ho hs hm
    refine ev_step (fun k => by simp only [spec_AccountsOf.l0]; rfl) (ev_iten (by omega) (ev_some ?_))
    rw [List.take_of_length_le (by omega)] at hm
    have hu := united_spec (flat l)
    exact strict_ext o (accOf l) hs hu.1 (fun x => (hm x).trans (hu.2 x).symm)
  | succ d ih =>
    intro i o hi ho hs hm
    have hil : i < l.length := by omega
    refine ev_step (fun k => by simp only [spec_AccountsOf.l0]; rfl) (ev_itep (by omega) (ev_itep (by omega) ?_))
    have h1 := putI_len (ae l i).f0 o
    have h2 := putI_len (ae l i).f1 (putI (ae l i).f0 o)
    refine ev_bind (specPut_ev (ae l i).f0 o (by omega)) (ev_bind (specPut_ev (ae l i).f1 _ (by omega)) ?_)
    rw [wrap_id (by omega) (by omega)]
    refine ih (i + 1) _ (by omega) (by omega) (strict_putI _ _ (strict_putI _ _ hs)) (fun x => ?_)
    rw [mem_putI, mem_putI, hm, flat_succ l i hil, List.mem_append]
    simp only [List.mem_cons, List.not_mem_nil, or_false]
    constructor
    · rintro (h | h | h) <;> simp [h]
    · rintro (h | h | h) <;> simp [h]
theorem specAcc_ev (l : List AEnt) (hl : l.length ≤ 1048576) : Ev (fun k => spec_AccountsOf.f k l) (accOf l) := by
  unfold spec_AccountsOf.f
  exact specAcc_l0 l hl l.length 0 [] (by omega) (by simp) (by simp [Strict]) (by simp [flat])
theorem implAcc_l0 (l : List AEnt) (hl : l.length ≤ 1048576) : ∀ (d i : Nat), i + d = l.length → Ev (fun k => impl_AccountsOf.l0 k (flat (l.take i)) l (l.length : Int) (i : Int)) (accOf l) := by
  intro d
  induction d with
  | zero =>
    intro i hi
    refine ev_step (fun k => by simp only [impl_AccountsOf.l0]; rfl) (ev_iten (by omega) (ev_bindc (a := accOf l) ?_ (ev_some rfl)))
    have := flat_len l
    unfold impl_united.f
    rw [List.take_of_length_le (by omega), if_pos (by rw [List.length_nil]; omega), List.append_nil]
    rfl
  | succ d ih =>
    intro i hi
    have hil : i < l.length := by omega
    have h1 := flat_len (l.take i)
    rw [List.length_take] at h1
    refine ev_step (fun k => by simp only [impl_AccountsOf.l0]; rfl) (ev_itep (by omega) (ev_itep (by omega) (ev_itep (by omega) ?_)))
    refine ev_bindc rfl (ev_itep (by simp only [List.length_cons, List.length_nil]; omega) ?_)
    rw [wrap_id (by omega) (by omega)]
    have := ih (i + 1) (by omega)
    rw [flat_succ l i hil] at this
    exact this
theorem implAcc_ev (l : List AEnt) (hl : l.length ≤ 1048576) : Ev (fun k => impl_AccountsOf.f k l) (accOf l) := by
  unfold impl_AccountsOf.f
  have := implAcc_l0 l hl l.length 0 (by omega)
  simpa [flat] using this
end Go.Proofs.Ytgejkcomoealgaa.PFnExactAccountsOf
