/- Hash, by the program. -/
import Derived.Test.YtfghapankndioaaEvLib
import Derived.Test.YtfghapankndioaaInRFnExactSealOf
import Derived.Test.YtfghapankndioaaStmFnExactSealOf
namespace Go.Proofs.Ytfghapankndioaa.PFnExactSealOf
open Go.RowKit Go.Proofs.YtfghapankndioaaW.PrintWords Go.Proofs.YtfghapankndioaaW.PrintLast Go.Proofs.Ytfghapankndioaa.EvLib
theorem tmod_cases (a : Int) : Int.tmod a 2147483647 = if 0 ≤ a then a % 2147483647 else -((-a) % 2147483647) := by
  split
  · rename_i h
    exact Int.tmod_eq_emod_of_nonneg h
  · rename_i h
    have e : a = -(-a) := by omega
    rw [e, Int.neg_tmod, Int.tmod_eq_emod_of_nonneg (by omega)]
    simp
theorem implMod_eq (a : Int) : impl_Mod.f a 2147483647 = some (a % 2147483647) := by
  unfold impl_Mod.f
  rw [inRange_eq, Option.bind_some, if_pos (by simp), if_neg (by omega), tmod_cases]
  by_cases h : 0 ≤ a
  · rw [if_pos h, if_neg (by omega)]
  · rw [if_neg h]
    by_cases h2 : -(-a % 2147483647) < 0
    · rw [if_pos h2, wrap_id (by omega) (by omega)]
      congr 1; omega
    · rw [if_neg h2]
      congr 1; omega
/-- One more value. -/
def hs (h v : Int) : Int := Int.tmod (wrap64 ((wrap64 ((wrap64 (h * 1000003)) + v % 2147483647)) + 13)) 2147483647
def hash (l : List Int) : Int := l.foldl hs 11
theorem implFold_eq (h v : Int) : impl_fold.f h v = some (hs h v) := by
  unfold impl_fold.f
  rw [implMod_eq, Option.bind_some]
  rfl
theorem rd_drop (l : List Int) (i : Nat) (h : i < l.length) : l.drop i = rd l (i : Int) :: l.drop (i + 1) := by
  rw [List.drop_eq_getElem_cons h]
  simp [rd, List.getD, h]
theorem implHash_l0 (l : List Int) (hl : l.length ≤ 1000000000) : ∀ (d i : Nat) (h : Int), i + d = l.length → Ev (fun k => impl_Hash.l0 k h l (l.length : Int) (i : Int)) ((l.drop i).foldl hs h) := by
  intro d
  induction d with
  | zero =>
    intro i h hi
    exact ev_step (fun k => by simp only [impl_Hash.l0]; rfl) (ev_iten (by omega) (ev_some (by rw [List.drop_of_length_le (by omega)]; rfl)))
  | succ d ih =>
    intro i h hi
    refine ev_step (fun k => by simp only [impl_Hash.l0]; rfl) (ev_itep (by omega) (ev_itep (by omega) (ev_itep (by omega) (ev_bindc (implFold_eq _ _) ?_))))
    rw [wrap_id (by omega) (by omega), rd_drop l i (by omega), List.foldl_cons]
    exact ih (i + 1) _ (by omega)
theorem implHash_ev (l : List Int) (hl : l.length ≤ 1000000000) : Ev (fun k => impl_Hash.f k l) (hash l) := by
  unfold impl_Hash.f hash
  exact implHash_l0 l hl l.length 0 11 (by omega)
end Go.Proofs.Ytfghapankndioaa.PFnExactSealOf
