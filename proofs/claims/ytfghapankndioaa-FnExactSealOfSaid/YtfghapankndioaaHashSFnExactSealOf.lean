/- Hash, by the reference. -/
import Derived.Test.YtfghapankndioaaHashFnExactSealOf
import Derived.Test.YtfghapankndioaaL1InFnExactSealOf
namespace Go.Proofs.Ytfghapankndioaa.PFnExactSealOf
open Go.RowKit Go.Proofs.YtfghapankndioaaW.PrintWords Go.Proofs.YtfghapankndioaaW.PrintLast Go.Proofs.Ytfghapankndioaa.EvLib
theorem specMod_eq (a : Int) : spec_Mod.f a 2147483647 = some (a % 2147483647) := by
  unfold spec_Mod.f
  rw [l1In_eq, Option.bind_some, if_pos (by simp), if_neg (by omega)]
  have e := tmod_cases a
  rw [e]
  congr 1
  by_cases h : 0 ≤ a
  · rw [if_pos h, wrap_id (by omega) (by omega), Int.tmod_eq_emod_of_nonneg (by omega)]
    omega
  · rw [if_neg h, wrap_id (by omega) (by omega), Int.tmod_eq_emod_of_nonneg (by omega)]
    omega
theorem specHash_l0 (l : List Int) (hl : l.length ≤ 1000000000) : ∀ (d i : Nat) (h : Int), i + d = l.length → Ev (fun k => spec_Hash.l0 k l h (i : Int)) ((l.drop i).foldl hs h) := by
  intro d
  induction d with
  | zero =>
    intro i h hi
    exact ev_step (fun k => by simp only [spec_Hash.l0]; rfl) (ev_iten (by omega) (ev_some (by rw [List.drop_of_length_le (by omega)]; rfl)))
  | succ d ih =>
    intro i h hi
    refine ev_step (fun k => by simp only [spec_Hash.l0]; rfl) (ev_itep (by omega) (ev_itep (by omega) (ev_bindc (specMod_eq _) ?_)))
    rw [wrap_id (x := (i : Int) + 1) (by omega) (by omega), rd_drop l i (by omega), List.foldl_cons]
    exact ih (i + 1) _ (by omega)
theorem specHash_ev (l : List Int) (hl : l.length ≤ 1000000000) : Ev (fun k => spec_Hash.f k l) (hash l) := by
  unfold spec_Hash.f hash
  exact specHash_l0 l hl l.length 0 11 (by omega)
end Go.Proofs.Ytfghapankndioaa.PFnExactSealOf
