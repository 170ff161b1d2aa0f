/- Things in things: which are in which. -/
import Derived.Test.YtogbajcaeelooaaInnUFnBundles
namespace Go.Proofs.Ytogbajcaeelooaa.PFnBundles
open Go.RowKit Go.Proofs.YtogbajcaeelooaaW.PrintWords Go.Proofs.YtogbajcaeelooaaW.PrintLast Go.Proofs.Ytogbajcaeelooaa.EvLib
def reachN (l : List IInner) (t : Int) : Nat → Int → Bool
  | 0, x => x == t
  | n + 1, x => if x = t then true else if hasF x l = true then reachN l t n (outF x l) else false
def rsN (l : List IInner) (t : Int) : Nat → Int → Bool
  | 0, _ => false
  | n + 1, s => if s = 0 then false else if s = t then true else rsN l t n (outF s l)
def inIt (l : List IInner) (t : Int) (x : IInner) : Bool := reachN l t (l.length + 1) x.f1 && decide (x.f1 ≠ t)
def inItS (l : List IInner) (t : Int) (x : IInner) : Bool := rsN l t (l.length + 1) (outF x.f1 l)
theorem ain_numd {l : List IInner} (h : areInn l = true) : numd l := by
  unfold areInn at h
  simp only [Bool.and_eq_true, decide_eq_true_eq] at h
  exact numd_of h.2.1
theorem ain_len {l : List IInner} (h : areInn l = true) : l.length ≤ 20 := by
  unfold areInn at h
  simp only [Bool.and_eq_true, decide_eq_true_eq] at h
  exact h.1
theorem rs_reach {l : List IInner} (hn : numd l) (t : Int) : ∀ (n : Nat) (s : Int), 1 ≤ s → rsN l t (n + 1) s = reachN l t n s := by
  intro n
  induction n with
  | zero =>
    intro s h
    rw [rsN, if_neg (by omega), reachN]
    by_cases e : s = t
    · rw [if_pos e]; simp [e]
    · rw [if_neg e, rsN]; simp [e]
  | succ n ih =>
    intro s h
    rw [rsN, if_neg (by omega), reachN]
    by_cases e : s = t
    · rw [if_pos e, if_pos e]
    · rw [if_neg e, if_neg e]
      cases c : hasF s l with
      | true => rw [if_pos rfl, ih _ (out_has hn c)]
      | false => rw [if_neg (by simp), out_no c, rsN, if_pos rfl]
theorem rs_it {l : List IInner} {t : Int} : ∀ (n : Nat) (s : Int), rsN l t n s = true → ∃ m, itN l m s = t := by
  intro n
  induction n with
  | zero => intro s h; simp [rsN] at h
  | succ n ih =>
    intro s h
    rw [rsN] at h
    split at h
    · cases h
    · split at h
      · rename_i e
        exact ⟨0, e⟩
      · obtain ⟨m, hm⟩ := ih _ h
        exact ⟨m + 1, by rw [itN]; exact hm⟩
theorem has_idx {x : Int} : ∀ {l : List IInner}, hasF x l = true → ∃ i, i < l.length ∧ (inn l i).f1 = x := by
  intro l
  induction l with
  | nil => intro h; simp [hasF] at h
  | cons y l ih =>
    intro h
    rw [hasF] at h
    split at h
    · rename_i c
      exact ⟨0, by simp, c⟩
    · obtain ⟨i, h1, h2⟩ := ih h
      exact ⟨i + 1, by simp; omega, h2⟩
theorem all_ends {l : List IInner} (h : areInn l = true) (s : Int) : itN l (l.length + 1) s = 0 := by
  have hn := ain_numd h
  cases c : hasF s l with
  | false => rw [itN, out_no c, it_zero hn]
  | true =>
    obtain ⟨i, hi, rfl⟩ := has_idx c
    unfold areInn at h
    simp only [Bool.and_eq_true, decide_eq_true_eq] at h
    have := List.all_eq_true.1 h.2.2 i (List.mem_range.mpr hi)
    unfold ends at this
    simpa using this
theorem no_round {l : List IInner} (h : areInn l = true) (x : Int) (hx : x ≠ 0) (m : Nat) : itN l (m + 1) x ≠ x := by
  intro e
  have many : ∀ j, itN l ((m + 1) * j) x = x := by
    intro j
    induction j with
    | zero => rfl
    | succ j ih => rw [Nat.mul_succ, it_add, ih, e]
  have h1 := many (l.length + 1)
  have e2 : (m + 1) * (l.length + 1) = (l.length + 1) + m * (l.length + 1) := by rw [Nat.succ_mul, Nat.add_comm]
  rw [e2, it_add, all_ends h, it_zero (ain_numd h)] at h1
  exact hx h1.symm
theorem has_mem_of {l : List IInner} {x : IInner} (h : x ∈ l) : hasF x.f1 l = true := by
  obtain ⟨i, hi, rfl⟩ := List.mem_iff_getElem.1 h
  exact has_of i hi (by rw [inn_get l i hi])
theorem inIt_eq {l : List IInner} (h : areInn l = true) (t : Int) (x : IInner) (hx : x ∈ l) : inItS l t x = inIt l t x := by
  have hn := ain_numd h
  have hh := has_mem_of hx
  have ho := out_has hn hh
  unfold inItS inIt
  by_cases e : x.f1 = t
  · rw [decide_eq_false (by simp [e]), Bool.and_false]
    cases c : rsN l t (l.length + 1) (outF x.f1 l) with
    | false => rfl
    | true =>
      exfalso
      obtain ⟨m, hm⟩ := rs_it _ _ c
      have h1 := (hn x hx).2
      exact no_round h x.f1 (by omega) m (by rw [itN, hm, e])
  · rw [decide_eq_true e, Bool.and_true, reachN, if_neg e, if_pos hh]
    exact rs_reach hn t _ _ ho
/-- A number put into an ascending list. -/
def insF (n : Int) : List Int → List Int
  | [] => [n]
  | y :: l => if y < n then y :: insF n l else if y = n then y :: l else n :: y :: l
theorem insF_len (n : Int) : ∀ l : List Int, (insF n l).length ≤ l.length + 1 := by
  intro l
  induction l with
  | nil => simp [insF]
  | cons y l ih =>
    rw [insF]
    split
    · simp; exact ih
    · split <;> simp
theorem insF_mem (n a : Int) : ∀ l : List Int, a ∈ insF n l ↔ a = n ∨ a ∈ l := by
  intro l
  induction l with
  | nil => simp [insF]
  | cons y l ih =>
    rw [insF]
    split
    · simp only [List.mem_cons, ih]
      constructor
      · rintro (h | h | h) <;> simp [h]
      · rintro (h | h | h) <;> simp [h]
    · split
      · rename_i c
        simp only [List.mem_cons]
        constructor
        · rintro (h | h) <;> simp [h]
        · rintro (h | h | h)
          · exact .inl (by omega)
          · exact .inl h
          · exact .inr h
      · simp
theorem insF_asc (n : Int) : ∀ l : List Int, l.Pairwise (· < ·) → (insF n l).Pairwise (· < ·) := by
  intro l
  induction l with
  | nil => intro _; simp [insF]
  | cons y l ih =>
    intro h
    rw [List.pairwise_cons] at h
    rw [insF]
    split
    · rename_i c
      rw [List.pairwise_cons]
      refine ⟨fun a ha => ?_, ih h.2⟩
      rcases (insF_mem n a l).1 ha with e | e
      · omega
      · exact h.1 a e
    · rename_i c
      split
      · rw [List.pairwise_cons]; exact h
      · rename_i c2
        rw [List.pairwise_cons]
        refine ⟨fun a ha => ?_, by rw [List.pairwise_cons]; exact h⟩
        rcases List.mem_cons.1 ha with e | e
        · omega
        · have := h.1 a e; omega
theorem insF_perm (n : Int) : ∀ l : List Int, n ∉ l → (insF n l).Perm (n :: l) := by
  intro l
  induction l with
  | nil => intro _; exact List.Perm.refl _
  | cons y l ih =>
    intro h
    rw [List.mem_cons, not_or] at h
    rw [insF]
    split
    · exact ((ih h.2).cons y).trans (List.Perm.swap _ _ _)
    · split
      · rename_i c; exact absurd c.symm h.1
      · exact List.Perm.refl _
def putAll_ (q : IInner → Bool) : List IInner → List Int → List Int
  | [], out => out
  | x :: l, out => putAll_ q l (if q x = true then insF x.f1 out else out)
theorem putAll_asc (q : IInner → Bool) : ∀ (l : List IInner) (out : List Int), out.Pairwise (· < ·) → (putAll_ q l out).Pairwise (· < ·) := by
  intro l
  induction l with
  | nil => intro out h; exact h
  | cons x l ih =>
    intro out h
    rw [putAll_]
    refine ih _ ?_
    split
    · exact insF_asc _ _ h
    · exact h
theorem putAll_perm (q : IInner → Bool) : ∀ (l : List IInner) (out : List Int), (l.map (fun y => y.f1)).Nodup → (∀ x ∈ l, x.f1 ∉ out) → (putAll_ q l out).Perm (out ++ (l.filter q).map (fun y => y.f1)) := by
  intro l
  induction l with
  | nil => intro out _ _; rw [putAll_]; simp
  | cons x l ih =>
    intro out hd hx
    rw [List.map_cons, List.nodup_cons] at hd
    rw [putAll_]
    by_cases c : q x = true
    · rw [if_pos c, List.filter_cons_of_pos c, List.map_cons]
      have hn : x.f1 ∉ out := hx x (by simp)
      refine (ih _ hd.2 (fun y hy hm => ?_)).trans ?_
      · rcases (insF_mem _ _ _).1 hm with e | e
        · exact hd.1 (List.mem_map.2 ⟨y, hy, e⟩)
        · exact hx y (by simp [hy]) e
      · refine ((insF_perm x.f1 out hn).append_right _).trans ?_
        exact List.perm_middle.symm
    · rw [if_neg c, List.filter_cons_of_neg c]
      exact ih _ hd.2 (fun y hy => hx y (by simp [hy]))
theorem things_once {l : List IInner} (h : areInn l = true) : (l.map (fun y => y.f1)).Nodup := by
  unfold List.Nodup
  rw [List.pairwise_map, List.pairwise_iff_getElem]
  intro i j hi hj hij e
  have h1 := are_once h j hj
  have h2 := has_no h1 i (by rw [List.length_take]; omega)
  apply h2
  rw [inn_get _ i (by rw [List.length_take]; omega), List.getElem_take, e, inn_get l j hj]
def msort (l : List Int) : List Int := l.mergeSort fun x y => decide (x ≤ y)
theorem msort_asc (l : List Int) : (msort l).Pairwise (· ≤ ·) := by
  have := List.pairwise_mergeSort (le := fun x y : Int => decide (x ≤ y)) (fun a b c h1 h2 => by simp at *; omega) (fun a b => by simp; omega) l
  exact this.imp (fun h => by simpa using h)
theorem putAll_sort (q : IInner → Bool) {l : List IInner} (h : areInn l = true) : msort ((l.filter q).map (fun y => y.f1)) = putAll_ q l [] := by
  refine List.Perm.eq_of_pairwise (le := (· ≤ ·)) (fun a b _ _ h1 h2 => by omega) (msort_asc _) ((putAll_asc q l [] List.Pairwise.nil).imp (fun h => by omega)) ?_
  refine (List.mergeSort_perm _ _).trans ?_
  have := putAll_perm q l [] (things_once h) (fun x _ => by simp)
  rw [List.nil_append] at this
  exact this.symm
/-- What is in a thing. -/
def allIn (l : List IInner) (t : Int) : List Int := if areInn l = true then msort ((l.filter (inIt l t)).map (fun y => y.f1)) else []
theorem allIn_len (l : List IInner) (t : Int) : (allIn l t).length ≤ l.length := by
  unfold allIn
  split
  · rw [msort, List.length_mergeSort, List.length_map]
    exact List.length_filter_le _ _
  · exact Nat.zero_le _
end Go.Proofs.Ytogbajcaeelooaa.PFnBundles
