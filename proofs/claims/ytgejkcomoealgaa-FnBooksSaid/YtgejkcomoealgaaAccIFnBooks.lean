/- AccountsOf of the program. -/
import Derived.Test.YtgejkcomoealgaaStmFnBooks
import Derived.Test.YtgejkcomoealgaaEvLib
import Derived.Test.YtgejkcomoealgaaCompLFnBooks
namespace Go.Proofs.Ytgejkcomoealgaa.PFnBooks
open Go.RowKit Go.Proofs.YtgejkcomoealgaaW.PrintWords Go.Proofs.YtgejkcomoealgaaW.PrintLast Go.Proofs.Ytgejkcomoealgaa.EvLib
abbrev AEnt := S35
def flat (l : List AEnt) : List Int := l.flatMap fun x => [x.f0, x.f1]
def accOf (l : List AEnt) : List Int := unitedI (flat l)
def ae (l : List AEnt) (i : Nat) : AEnt := rd_T35 l (i : Int)
theorem ae_eq (l : List AEnt) (i : Nat) (h : i < l.length) : ae l i = l[i] := by
  unfold ae rd_T35
  rw [Int.toNat_natCast, List.getD_eq_getElem?_getD, List.getElem?_eq_getElem h, Option.getD_some]
theorem flat_succ (l : List AEnt) (i : Nat) (h : i < l.length) : flat (l.take (i + 1)) = flat (l.take i) ++ [(ae l i).f0, (ae l i).f1] := by
  unfold flat
  rw [List.take_succ_eq_append_getElem h, ae_eq l i h, List.flatMap_append]
  rfl
theorem flat_len : ∀ l : List AEnt, (flat l).length = 2 * l.length
  | [] => rfl
  | x :: l => by have := flat_len l; simp only [flat, List.flatMap_cons, List.length_append, List.length_cons, List.length_nil] at this ⊢; omega
theorem implAcc_l0 (l : List AEnt) (hl : l.length ≤ 1048576) : ∀ (d i : Nat), i + d = l.length → Ev (fun k => impl_AccountsOf.l0 k (flat (l.take i)) l (l.length : Int) (i : Int)) (accOf l) := by
  intro d
  induction d with
  | zero =>
    intro i hi
    refine ev_step (fun k => by simp only [impl_AccountsOf.l0]; rfl) (ev_iten (by omega) (ev_bindc (a := accOf l) ?_ (ev_some rfl)))
    have := flat_len l
    unfold impl_united.f
    rw [List.take_of_length_le (by omega), if_pos (by rw [List.length_nil]; omega), List.append_nil]
    rfl
  | succ d ih =>
    intro i hi
    have hil : i < l.length := by omega
    have h1 := flat_len (l.take i)
    rw [List.length_take] at h1
    refine ev_step (fun k => by simp only [impl_AccountsOf.l0]; rfl) (ev_itep (by omega) (ev_itep (by omega) (ev_itep (by omega) ?_)))
    refine ev_bindc rfl (ev_itep (by simp only [List.length_cons, List.length_nil]; omega) ?_)
    rw [wrap_id (by omega) (by omega)]
    have := ih (i + 1) (by omega)
    rw [flat_succ l i hil] at this
    exact this
theorem implAcc_ev (l : List AEnt) (hl : l.length ≤ 1048576) : Ev (fun k => impl_AccountsOf.f k l) (accOf l) := by
  unfold impl_AccountsOf.f
  have := implAcc_l0 l hl l.length 0 (by omega)
  simpa [flat] using this
end Go.Proofs.Ytgejkcomoealgaa.PFnBooks
