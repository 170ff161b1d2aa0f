/- Things in things: the law's facts. -/
import Derived.Test.YtogbajcaeelooaaAllIFnBundles
import Derived.Test.YtogbajcaeelooaaPutIFnBundles
import Derived.Test.YtogbajcaeelooaaTakeFIFnBundles
import Derived.Test.YtogbajcaeelooaaTopIFnBundles
namespace Go.Proofs.Ytogbajcaeelooaa.PFnBundles
open Go.RowKit Go.Proofs.YtogbajcaeelooaaW.PrintWords Go.Proofs.YtogbajcaeelooaaW.PrintLast Go.Proofs.Ytogbajcaeelooaa.EvLib
theorem allIn_asc (l : List IInner) (t : Int) : (allIn l t).Pairwise (· < ·) := by
  unfold allIn
  split
  · rename_i h
    rw [putAll_sort _ h]
    exact putAll_asc _ _ _ List.Pairwise.nil
  · exact List.Pairwise.nil
theorem allIn_mem {l : List IInner} {t a : Int} : a ∈ allIn l t ↔ areInn l = true ∧ ∃ x ∈ l, inIt l t x = true ∧ x.f1 = a := by
  unfold allIn
  split
  · rename_i h
    rw [msort, List.mem_mergeSort, List.mem_map]
    constructor
    · rintro ⟨x, h1, h2⟩
      rw [List.mem_filter] at h1
      exact ⟨h, x, h1.1, h1.2, h2⟩
    · rintro ⟨_, x, h1, h2, h3⟩
      exact ⟨x, List.mem_filter.2 ⟨h1, h2⟩, h3⟩
  · rename_i h
    constructor
    · intro h1; simp at h1
    · intro h1; exact absurd h1.1 h
theorem allIn_not (l : List IInner) (t : Int) : t ∉ allIn l t := by
  intro h
  obtain ⟨_, x, _, h1, h2⟩ := allIn_mem.1 h
  unfold inIt at h1
  simp [h2] at h1
theorem st_add (l : List IInner) : ∀ (a b : Nat) (x : Int), stN l (a + b) x = stN l b (stN l a x) := by
  intro a
  induction a with
  | zero => intro b x; rw [Nat.zero_add, stN]
  | succ a ih => intro b x; rw [Nat.succ_add, stN, ih, stN]
theorem st_out {l : List IInner} (h : areInn l = true) {x : Int} (hx : hasF x l = true) : stN l (l.length + 1) x = stN l (l.length + 1) (outF x l) := by
  have h1 := all_stop h x
  have h2 : stN l (l.length + 1 + 1) x = stN l (l.length + 1) x := by rw [st_add, st_stay h1]
  rw [← h2, stN, if_pos hx]
theorem reach_top {l : List IInner} (h : areInn l = true) {t : Int} : ∀ (n : Nat) (x : Int), reachN l t n x = true → stN l (l.length + 1) x = stN l (l.length + 1) t := by
  intro n
  induction n with
  | zero => intro x hx; rw [reachN] at hx; rw [beq_iff_eq.1 hx]
  | succ n ih =>
    intro x hx
    rw [reachN] at hx
    split at hx
    · rename_i e; rw [e]
    · split at hx
      · rename_i hh
        rw [st_out h hh]
        exact ih _ hx
      · cases hx
theorem allIn_top {l : List IInner} {t a : Int} (ha : a ∈ allIn l t) : topF l a = topF l t := by
  obtain ⟨h, x, hx, h1, rfl⟩ := allIn_mem.1 ha
  unfold inIt at h1
  rw [Bool.and_eq_true] at h1
  unfold topF
  rw [if_pos h, if_pos h]
  exact reach_top h _ _ h1.1
theorem reach_self (l : List IInner) (t : Int) : ∀ n, reachN l t n t = true := by
  intro n
  cases n with
  | zero => rw [reachN]; simp
  | succ n => rw [reachN, if_pos rfl]
theorem outF_append {x : Int} : ∀ {a l : List IInner}, hasF x a = false → outF x (a ++ l) = outF x l := by
  intro a
  induction a with
  | nil => intro l _; rfl
  | cons y a ih =>
    intro l h
    rw [hasF] at h
    split at h
    · cases h
    · rename_i c
      rw [List.cons_append, outF, if_neg c]
      exact ih h
theorem last_once {a : List IInner} {e : IInner} (h : areInn (a ++ [e]) = true) : hasF e.f1 a = false := by
  have h1 := are_once h a.length (by simp)
  have h2 : inn (a ++ [e]) a.length = e := by rw [inn_get _ _ (by simp)]; simp
  rw [h2] at h1
  simpa using h1
theorem last_has {a : List IInner} {e : IInner} : hasF e.f1 (a ++ [e]) = true := has_of a.length (by simp) (by rw [inn_get _ _ (by simp)]; simp)
theorem last_out {a : List IInner} {e : IInner} (h : areInn (a ++ [e]) = true) : outF e.f1 (a ++ [e]) = e.f0 := by
  rw [outF_append (last_once h), outF, if_pos rfl]
theorem last_in {a : List IInner} {e : IInner} (h : areInn (a ++ [e]) = true) : e.f1 ∈ allIn (a ++ [e]) e.f0 := by
  have hn := ain_numd h
  have hne : e.f1 ≠ e.f0 := by
    intro z
    have h1 := (hn e (by simp)).2
    refine no_round h e.f1 (by omega) 0 ?_
    rw [itN, itN, last_out h, z]
  refine allIn_mem.2 ⟨h, e, by simp, ?_, rfl⟩
  unfold inIt
  rw [Bool.and_eq_true]
  refine ⟨?_, by simpa using hne⟩
  rw [reachN, if_neg hne, if_pos last_has, last_out h]
  exact reach_self _ _ _
theorem last_take {a : List IInner} {e : IInner} (h : areInn (a ++ [e]) = true) : takeF (a ++ [e]) e.f1 = (a, true) := by
  unfold takeF
  rw [if_pos ⟨h, last_has⟩]
  have h1 := off_no (last_once h)
  unfold offF at h1 ⊢
  rw [List.filter_append, h1]
  simp
theorem top_zero {l : List IInner} (h : areInn l = true) (x : Int) : topF l x = 0 ↔ x = 0 := by
  have hn := ain_numd h
  unfold topF
  rw [if_pos h]
  have key : ∀ (n : Nat) (x : Int), stN l n x = 0 ↔ x = 0 := by
    intro n
    induction n with
    | zero => intro x; exact Iff.rfl
    | succ n ih =>
      intro x
      rw [stN, ih]
      split
      · rename_i c
        have := out_has hn c
        constructor
        · intro e; omega
        · intro e
          rw [e, out_zero hn] at this
          omega
      · exact Iff.rfl
  exact key _ x
theorem top_out {l : List IInner} (h : areInn l = true) (x : Int) : outF (topF l x) l = 0 := by
  unfold topF
  rw [if_pos h]
  exact out_no (all_stop h x)
theorem top_not {l : List IInner} (h : ¬ areInn l = true) (x : Int) : topF l x = 0 := by
  unfold topF
  rw [if_neg h]
end Go.Proofs.Ytogbajcaeelooaa.PFnBundles
