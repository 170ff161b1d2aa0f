/- ParseList of the program and of the reference. -/
import Derived.Test.YtihnanfekchlhaaDoorPrsIFnExactParseReport
import Derived.Test.YtihnanfekchlhaaDoorSplAFnExactParseReport
import Derived.Test.YtihnanfekchlhaaDoorLstSFnExactParseReport
namespace Go.Proofs.YtihnanfekchlhaaDoor.PFnExactParseReport
open Go.RowKit Go.Proofs.YtihnanfekchlhaaDoorW.PrintWords Go.Proofs.YtihnanfekchlhaaDoorW.PrintLast Go.Proofs.YtihnanfekchlhaaDoor.EvLib
/-- The parts, each parsed; the flag: all are numerals. -/
def pL : List Int → List (List UInt8) → List Int × Bool
  | acc, [] => (acc, true)
  | acc, p :: r => if (pI p).2 = true then pL (acc ++ [(pI p).1]) r else ([], false)
def prsL (l : List UInt8) : List Int × Bool := if l = [45] then ([], true) else pL [] ((spA 44 l).1 :: (spA 44 l).2)
theorem pL_ok : ∀ (ps : List (List UInt8)) (acc : List Int), (pL acc ps).2 = true → ∃ vs : List Int, (pL acc ps).1 = acc ++ vs ∧ vs.map Lib.itoa = ps ∧ (∀ v ∈ vs, 0 ≤ v ∧ v ≤ 1000000000000)
  | [], acc, _ => ⟨[], by simp [pL], rfl, by simp⟩
  | p :: r, acc, h => by
    unfold pL at h ⊢
    by_cases c : (pI p).2 = true
    · rw [if_pos c] at h ⊢
      obtain ⟨vs, h1, h2, h3⟩ := pL_ok r _ h
      have hp := pI_itoa c
      refine ⟨(pI p).1 :: vs, by rw [h1]; simp, by rw [List.map_cons, h2, hp.1], ?_⟩
      intro v hv
      rcases List.mem_cons.1 hv with e | e
      · subst e; exact hp.2
      · exact h3 v e
    · rw [if_neg c] at h
      exact absurd h (by decide)
theorem pL_bad : ∀ (ps : List (List UInt8)) (acc : List Int), ¬ (pL acc ps).2 = true → pL acc ps = ([], false)
  | [], acc, h => absurd rfl h
  | p :: r, acc, h => by
    unfold pL at h ⊢
    by_cases c : (pI p).2 = true
    · rw [if_pos c] at h ⊢
      exact pL_bad r _ h
    · rw [if_neg c]
theorem rdOf_bs (ps : List (List UInt8)) (i : Nat) (h : i < ps.length) : rdOf ByteArray.empty (ps.map bs) (i : Int) = bs (ps[i]) := by
  unfold rdOf
  rw [Int.toNat_natCast, List.getD_eq_getElem?_getD, List.getElem?_map, List.getElem?_eq_getElem h]
  rfl
theorem implPL_l0 (ps : List (List UInt8)) (hz : ps.length ≤ 1048578) : ∀ (d i : Nat) (acc : List Int), i + d = ps.length → acc.length ≤ i →
    Ev (fun k => impl_ParseList.l0 k acc (ps.map bs) (ps.length : Int) (i : Int)) (pL acc (ps.drop i)) := by
  intro d
  induction d with
  | zero =>
    intro i acc hi hacc
    rw [List.drop_of_length_le (by omega)]
    exact ev_step (fun k => by simp only [impl_ParseList.l0]; rfl) (ev_iten (by omega) (ev_some rfl))
  | succ d ih =>
    intro i acc hi hacc
    have hlt : i < ps.length := by omega
    have e2 : wrap64 ((i : Int) + 1) = ((i + 1 : Nat) : Int) := by rw [wrap_id (by omega) (by omega)]; omega
    rw [List.drop_eq_getElem_cons hlt, pL]
    refine ev_step (fun k => by simp only [impl_ParseList.l0]; rfl) (ev_itep (by omega) ?_)
    rw [rdOf_bs ps i hlt, e2]
    refine ev_itep (by omega) (ev_itep (by rw [List.length_map]; omega) (ev_bind (implPI_ev _ _ (bs_data _)) (ev_ite (fun c => ?_) (fun c => ev_some ?_))))
    · rw [if_pos c]
      exact ev_itep (by omega) (ih (i + 1) _ (by omega) (by simp; omega))
    · rw [if_neg c]
theorem implPL_ev (s : ByteArray) (hz : s.size ≤ 1048577) : Ev (fun k => impl_ParseList.f k s) (prsL s.data.toList) := by
  unfold impl_ParseList.f prsL
  refine ev_bindc rfl ?_
  rw [Lib.toList_data]
  refine ev_ite (fun c => ev_some ?_) (fun c => ?_)
  · rw [if_pos c]
  · rw [if_neg c]
    have hn := spA_len 44 s.data.toList
    have hz' := Lib.size_eq s
    refine ev_bindc (split_eq s 44 (by omega)) ?_
    rw [List.length_map]
    exact implPL_l0 _ (by simp; omega) _ 0 [] (Nat.zero_add _) (by simp)
theorem specPL_l0 (s : ByteArray) (ps : List (List UInt8)) (hj : Lib.join ps [44] = s.data.toList) (hne : ps ≠ []) (hz : ps.length ≤ 1048578) : ∀ (d i : Nat) (acc : List Int), i + d = ps.length → acc.length ≤ i → pL acc (ps.drop i) = pL [] ps →
    Ev (fun k => spec_ParseList.l0 k s acc (ps.map bs) (i : Int)) (pL [] ps) := by
  intro d
  induction d with
  | zero =>
    intro i acc hi hacc he
    rw [List.drop_of_length_le (by omega), pL] at he
    have hok : (pL [] ps).2 = true := by rw [← he]
    obtain ⟨vs, h1, h2, h3⟩ := pL_ok ps [] hok
    have hvs : acc = vs := by rw [← he] at h1; simpa using h1
    subst hvs
    have hlen : acc.length = ps.length := by rw [← h2, List.length_map]
    have hps : 0 < ps.length := List.length_pos_iff.2 hne
    have hb : I64s acc := fun v hv => by have := h3 v hv; omega
    refine ev_step (fun k => by simp only [spec_ParseList.l0]; rfl) (ev_iten (by rw [List.length_map]; omega) (ev_bind (specList_ev acc (by omega) hb) (ev_itep ?_ (ev_some he))))
    rw [Lib.toList_data, Lib.toList_data, bs_data]
    unfold lstB
    rw [if_neg (by omega), h2, hj]
  | succ d ih =>
    intro i acc hi hacc he
    have hlt : i < ps.length := by omega
    have e2 : wrap64 ((i : Int) + 1) = ((i + 1 : Nat) : Int) := by rw [wrap_id (by omega) (by omega)]; omega
    rw [List.drop_eq_getElem_cons hlt, pL] at he
    refine ev_step (fun k => by simp only [spec_ParseList.l0]; rfl) (ev_itep (by rw [List.length_map]; omega) ?_)
    rw [rdOf_bs ps i hlt, e2]
    refine ev_itep (by omega) (ev_bind (specPI_ev _ _ (bs_data _)) (ev_ite (fun c => ?_) (fun c => ev_some ?_)))
    · rw [if_pos c] at he
      exact ev_itep (by omega) (ih (i + 1) _ (by omega) (by simp; omega) he)
    · rw [if_neg c] at he; exact he
theorem specPL_ev (s : ByteArray) (hz : s.size ≤ 1048577) : Ev (fun k => spec_ParseList.f k s) (prsL s.data.toList) := by
  unfold spec_ParseList.f prsL
  refine ev_bindc rfl ?_
  rw [Lib.toList_data]
  refine ev_ite (fun c => ev_some ?_) (fun c => ?_)
  · rw [if_pos c]
  · rw [if_neg c]
    have hn := spA_len 44 s.data.toList
    have hz' := Lib.size_eq s
    refine ev_bind (specSplit_ev s 44 44 rfl (by omega)) ?_
    exact specPL_l0 s _ (spA_join 44 _) (by simp) (by simp; omega) _ 0 [] (Nat.zero_add _) (by simp) rfl
theorem pL_len : ∀ (ps : List (List UInt8)) (acc : List Int), (pL acc ps).1.length ≤ acc.length + ps.length
  | [], acc => by simp [pL]
  | p :: r, acc => by
    unfold pL
    split
    · have := pL_len r (acc ++ [(pI p).1])
      simp at this ⊢
      omega
    · simp
theorem prsL_len (l : List UInt8) : (prsL l).1.length ≤ l.length + 1 := by
  unfold prsL
  split
  · simp
  · have h1 := pL_len ((spA 44 l).1 :: (spA 44 l).2) []
    have h2 := spA_len 44 l
    simp at h1
    omega
/-- Where the list parses, it has no more numbers than the text has bytes. -/
theorem itoa_pos (n : Int) : 1 ≤ (Lib.itoa n).length := by
  unfold Lib.itoa
  have h := fun u => Lib.nDigits_pos u
  split
  · simp
  · rw [Lib.decDigits_length]; exact h _
theorem lens_ge : ∀ vs : List Int, vs.length ≤ Lib.lens (vs.map Lib.itoa)
  | [] => by simp [Lib.lens]
  | v :: r => by
    have h1 := lens_ge r
    have h2 := itoa_pos v
    simp only [Lib.lens, List.map_cons, List.sum_cons, List.length_cons] at h1 ⊢
    omega
theorem prsL_len2 (l : List UInt8) : (prsL l).1.length ≤ l.length := by
  by_cases h : (prsL l).2 = true
  · unfold prsL at h ⊢
    split
    · simp
    · rename_i c
      rw [if_neg c] at h
      obtain ⟨vs, h1, h2, _⟩ := pL_ok _ [] h
      have hj := spA_join 44 l
      have hl := congrArg List.length hj
      rw [Lib.join_length] at hl
      have hg := lens_ge vs
      rw [h2] at hg
      rw [h1]
      simp at hl hg ⊢
      omega
  · unfold prsL at h ⊢
    split
    · simp
    · rename_i c
      rw [if_neg c] at h
      rw [pL_bad _ _ h]
      simp
end Go.Proofs.YtihnanfekchlhaaDoor.PFnExactParseReport
