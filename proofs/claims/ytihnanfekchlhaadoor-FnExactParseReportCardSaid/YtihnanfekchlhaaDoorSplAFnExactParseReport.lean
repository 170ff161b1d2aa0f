/- Split at one byte: the library's and the reference's. -/
import Derived.Test.YtihnanfekchlhaaDoorFmtSFnExactParseReport
import Derived.Lib.Join
import Derived.Lib.SplitLaws
namespace Go.Proofs.YtihnanfekchlhaaDoor.PFnExactParseReport
open Go.RowKit Go.Proofs.YtihnanfekchlhaaDoorW.PrintWords Go.Proofs.YtihnanfekchlhaaDoorW.PrintLast Go.Proofs.YtihnanfekchlhaaDoor.EvLib
/-- The first part and the others. -/
def spA (c : UInt8) : List UInt8 → List UInt8 × List (List UInt8)
  | [] => ([], [])
  | x :: r => if x = c then ([], (spA c r).1 :: (spA c r).2) else (x :: (spA c r).1, (spA c r).2)
theorem spA_join (c : UInt8) : ∀ l : List UInt8, Lib.join ((spA c l).1 :: (spA c l).2) [c] = l
  | [] => by simp [spA, Lib.join_one]
  | x :: r => by
    have ih := spA_join c r
    rw [Lib.join_cons] at ih
    unfold spA
    by_cases h : x = c
    · subst h
      rw [if_pos rfl, Lib.join_cons]
      simp only [Lib.joinTail, List.map_cons, List.flatten_cons, List.nil_append] at ih ⊢
      rw [List.append_assoc, ih]; rfl
    · rw [if_neg h, Lib.join_cons]
      simp only [List.cons_append]
      rw [ih]
theorem spA_len (c : UInt8) : ∀ l : List UInt8, (spA c l).2.length ≤ l.length
  | [] => by simp [spA]
  | x :: r => by
    have ih := spA_len c r
    unfold spA
    split <;> simp <;> omega
theorem index_cons_ne (b c : UInt8) (l : List UInt8) (h : b ≠ c) : Lib.index (b :: l) [c] = if Lib.index l [c] == -1 then -1 else Lib.index l [c] + 1 := by
  have hp : ([c] : List UInt8).isPrefixOf (b :: l) = false := by simp [List.isPrefixOf, Ne.symm h]
  rw [Lib.index, hp]; simp
theorem splitK_one (c : UInt8) : ∀ l : List UInt8, Lib.splitK [c] 0 (Lib.count l [c]) l = (spA c l).1 :: (spA c l).2
  | [] => by
    rw [Lib.count_miss (by simp [Lib.index])]
    rfl
  | x :: r => by
    have ih := splitK_one c r
    by_cases h : x = c
    · subst h
      have hix : Lib.index (x :: r) [x] = ((0 : Nat) : Int) := by rw [Lib.index]; simp [List.isPrefixOf]
      rw [Lib.count_cons_eq, Nat.add_comm, Lib.splitK, hix, if_neg (by decide)]
      unfold spA
      rw [if_pos rfl]
      rw [← ih]
      rfl
    · rw [Lib.count_cons_ne x c r h]
      unfold spA
      rw [if_neg h]
      generalize Lib.count r [c] = k at ih
      have key : ∀ k, Lib.splitK [c] 0 k (x :: r) = (match Lib.splitK [c] 0 k r with | [] => [] | p :: t => (x :: p) :: t) := by
        intro k
        cases k with
        | zero => rfl
        | succ k =>
          rw [Lib.splitK, Lib.splitK, index_cons_ne x c r h]
          by_cases g : Lib.index r [c] = -1
          · have : (Lib.index r [c] == -1) = true := beq_iff_eq.2 g
            simp only [this, if_true]
            rfl
          · have hge := Lib.index_ge r [c]
            have g1 : ¬ (Lib.index r [c] == -1) = true := fun e => g (beq_iff_eq.1 e)
            have g2 : ¬ (Lib.index r [c] + 1 == -1) = true := fun e => by have := beq_iff_eq.1 e; omega
            rw [if_neg g1, if_neg g1, if_neg g2]
            have e1 : (Lib.index r [c] + 1).toNat + 0 = ((Lib.index r [c]).toNat + 0) + 1 := by omega
            have e2 : (Lib.index r [c] + 1).toNat + [c].length = ((Lib.index r [c]).toNat + [c].length) + 1 := by simp; omega
            rw [e1, e2, List.take_succ_cons, List.drop_succ_cons]
            rfl
      rw [key, ih]
theorem bs_data (l : List UInt8) : (bs l).data.toList = l := rfl
theorem map_bs_of (L : List ByteArray) (M : List (List UInt8)) (h : L.map (·.data.toList) = M) : L = M.map bs := by
  subst h
  rw [List.map_map]
  conv => lhs; rw [← List.map_id L]
  apply List.map_congr_left
  intro x _
  exact bs_of x
theorem split_eq (s : ByteArray) (c : UInt8) (hs : s.size < 4294967281) : strings_Split.f s (bs [c]) = some (((spA c s.data.toList).1 :: (spA c s.data.toList).2).map bs) := by
  unfold strings_Split.f
  rw [if_pos ⟨hs, by rw [bs_size]; simp⟩]
  congr 1
  apply map_bs_of
  rw [Lib.splitB_data]
  exact splitK_one c s.data.toList
theorem ext_bs (s : ByteArray) (a b : Nat) : s.extract a b = bs ((s.data.toList.take b).drop a) := by
  rw [bs_of (s.extract a b), Lib.extract_data, List.drop_take]
theorem bt_nat' (s : ByteArray) (i : Nat) (h : i < s.data.toList.length) : bt s (i : Int) = ((s.data.toList[i]).toNat : Int) := by
  unfold bt
  rw [Int.toNat_natCast, dif_pos (by rw [Lib.size_eq]; exact h)]
  rfl
theorem specSplit_l0 (s : ByteArray) (c : UInt8) (cv : Int) (hcv : cv = c.toNat) (hz : s.data.toList.length ≤ 1048577) : ∀ (d i a : Nat) (acc : List ByteArray), i + d = s.data.toList.length → a ≤ i → acc.length ≤ i →
    Ev (fun k => spec_l27Split.l0 k s cv acc (a : Int) (i : Int)) (acc ++ (((s.data.toList.take i).drop a ++ (spA c (s.data.toList.drop i)).1) :: (spA c (s.data.toList.drop i)).2).map bs) := by
  have hsz := Lib.size_eq s
  subst hcv
  intro d
  induction d with
  | zero =>
    intro i a acc hi ha hacc
    have e2 : wrap64 ((i : Int) + 1) = ((i + 1 : Nat) : Int) := by rw [wrap_id (by omega) (by omega)]; omega
    refine ev_step (fun k => by simp only [spec_l27Split.l0]; rfl) (ev_itep (by omega) (ev_itep (by omega) (ev_itep (by omega) (ev_itep (by omega) (ev_itep (by omega) ?_)))))
    rw [e2, Int.toNat_natCast, Int.toNat_natCast]
    refine ev_step (fun k => by simp only [spec_l27Split.l0]; rfl) (ev_iten (by omega) (ev_some ?_))
    rw [ext_bs, List.drop_of_length_le (i := i) (by omega)]
    simp [spA]
  | succ d ih =>
    intro i a acc hi ha hacc
    have hlt : i < s.data.toList.length := by omega
    have e2 : wrap64 ((i : Int) + 1) = ((i + 1 : Nat) : Int) := by rw [wrap_id (by omega) (by omega)]; omega
    rw [List.drop_eq_getElem_cons hlt]
    unfold spA
    refine ev_step (fun k => by simp only [spec_l27Split.l0]; rfl) (ev_itep (by omega) (ev_iten (by omega) (ev_itep (by omega) ?_)))
    rw [bt_nat' s i hlt, e2, Int.toNat_natCast, Int.toNat_natCast]
    refine ev_itep (by omega) (ev_ite (fun g => ?_) (fun g => ?_))
    · have g2 : s.data.toList[i] = c := UInt8.toNat_inj.1 (by omega)
      rw [if_pos g2]
      refine ev_itep (by omega) (ev_itep (by omega) (ev_itep (by omega) ?_))
      refine ev_eq (ih (i + 1) (i + 1) _ (by omega) (by omega) (by simp; omega)) ?_
      rw [ext_bs, List.drop_of_length_le (l := s.data.toList.take (i + 1)) (by rw [List.length_take]; omega)]
      simp
    · have g2 : ¬ s.data.toList[i] = c := fun e => g (by rw [e])
      rw [if_neg g2]
      refine ev_eq (ih (i + 1) a _ (by omega) (by omega) (by omega)) ?_
      rw [List.take_succ_eq_append_getElem hlt, List.drop_append_of_le_length (by rw [List.length_take]; omega)]
      simp
theorem specSplit_ev (s : ByteArray) (c : UInt8) (cv : Int) (hcv : cv = c.toNat) (hz : s.size ≤ 1048577) : Ev (fun k => spec_l27Split.f k s cv) (((spA c s.data.toList).1 :: (spA c s.data.toList).2).map bs) := by
  unfold spec_l27Split.f
  refine ev_eq (specSplit_l0 s c cv hcv (by rw [← Lib.size_eq]; exact hz) s.data.toList.length 0 0 [] (by omega) (by omega) (by simp)) ?_
  simp
end Go.Proofs.YtihnanfekchlhaaDoor.PFnExactParseReport
