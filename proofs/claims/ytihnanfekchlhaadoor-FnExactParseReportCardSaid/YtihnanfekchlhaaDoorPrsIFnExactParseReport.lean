/- ParseInt of the program and of the reference. -/
import Derived.Test.YtihnanfekchlhaaDoorFmtSFnExactParseReport
import Derived.Lib.Join
namespace Go.Proofs.YtihnanfekchlhaaDoor.PFnExactParseReport
open Go.RowKit Go.Proofs.YtihnanfekchlhaaDoorW.PrintWords Go.Proofs.YtihnanfekchlhaaDoorW.PrintLast Go.Proofs.YtihnanfekchlhaaDoor.EvLib
def dgt (b : UInt8) : Bool := decide (48 ≤ b.toNat) && decide (b.toNat ≤ 57)
def vl (a : Nat) (l : List UInt8) : Nat := l.foldl (fun a b => 10 * a + (b.toNat - 48)) a
theorem vl_nil (a : Nat) : vl a [] = a := rfl
theorem vl_cons (a : Nat) (b : UInt8) (l : List UInt8) : vl a (b :: l) = vl (10 * a + (b.toNat - 48)) l := by unfold vl; rw [List.foldl_cons]
theorem vl_snoc (a : Nat) (l : List UInt8) (b : UInt8) : vl a (l ++ [b]) = 10 * vl a l + (b.toNat - 48) := by
  unfold vl; rw [List.foldl_append]; rfl
theorem vl_ge : ∀ (l : List UInt8) (a : Nat), a ≤ vl a l
  | [], _ => Nat.le_refl _
  | b :: l, a => by rw [vl_cons]; have := vl_ge l (10 * a + (b.toNat - 48)); omega
theorem vl_lt : ∀ (l : List UInt8) (a i : Nat), l.all dgt = true → a < 10 ^ i → vl a l < 10 ^ (i + l.length)
  | [], _, _, _, h => by simpa [vl_nil] using h
  | b :: l, a, i, hd, h => by
    rw [List.all_cons, Bool.and_eq_true] at hd
    have hb : 48 ≤ b.toNat ∧ b.toNat ≤ 57 := by simpa [dgt] using hd.1
    rw [vl_cons]
    have := vl_lt l (10 * a + (b.toNat - 48)) (i + 1) hd.2 (by rw [Nat.pow_succ]; omega)
    rwa [List.length_cons, show i + (l.length + 1) = i + 1 + l.length by omega]
def led (l : List UInt8) : Prop := l.length = 1 ∨ l.head? ≠ some 48
instance (l : List UInt8) : Decidable (led l) := by unfold led; infer_instance
theorem u8_of (b : UInt8) (n : Nat) (h : b.toNat = n) : UInt8.ofNat n = b := by
  subst h
  exact UInt8.ofNat_toNat
/-- The numeral of a numeral's value is the numeral itself, where it leads with no needless zero. -/
theorem dec_iff : ∀ (n : Nat) (l : List UInt8), l.length = n + 1 → l.all dgt = true → (Lib.decDigits (vl 0 l) = l ↔ led l) := by
  intro n
  induction n with
  | zero =>
    intro l hl hd
    match l, hl with
    | [b], _ =>
      have hb : 48 ≤ b.toNat ∧ b.toNat ≤ 57 := by simpa [dgt] using hd
      refine ⟨fun _ => Or.inl rfl, fun _ => ?_⟩
      rw [vl_cons, vl_nil, Lib.decDigits, dif_pos (by omega)]
      rw [u8_of b _ (by omega)]
  | succ n ih =>
    intro l hl hd
    have hne : l ≠ [] := fun e => by rw [e] at hl; simp at hl
    obtain ⟨m, b, rfl⟩ : ∃ m b, l = m ++ [b] := ⟨l.dropLast, l.getLast hne, (List.dropLast_concat_getLast hne).symm⟩
    have hm : m.length = n + 1 := by simp at hl; omega
    rw [List.all_append, Bool.and_eq_true] at hd
    have hb : 48 ≤ b.toNat ∧ b.toNat ≤ 57 := by simpa [dgt] using hd.2
    have h := ih m hm hd.1
    have hlen : (m ++ [b]).length ≠ 1 := by rw [List.length_append]; show m.length + 1 ≠ 1; omega
    have hhead : (m ++ [b]).head? = m.head? := by
      cases m with
      | nil => simp at hm
      | cons x r => rfl
    rw [vl_snoc]
    by_cases c : vl 0 m = 0
    · -- all zeros in front
      match m, hm with
      | x :: r, hm =>
        have h1 := vl_ge r (10 * 0 + (x.toNat - 48))
        rw [vl_cons] at c
        rw [List.all_cons, Bool.and_eq_true] at hd
        have hx : 48 ≤ x.toNat ∧ x.toNat ≤ 57 := by simpa [dgt] using hd.1.1
        have x48 : x = 48 := by
          apply UInt8.toNat_inj.1
          show x.toNat = 48
          omega
        constructor
        · intro e
          exfalso
          have := congrArg List.length e
          rw [vl_cons, c, Lib.decDigits, dif_pos (by omega)] at this
          simp at this
        · intro e
          rcases e with e | e
          · exact absurd e hlen
          · exact absurd (by rw [hhead, x48]; rfl) e
    · rw [Lib.decDigits, dif_neg (by omega), show (10 * vl 0 m + (b.toNat - 48)) / 10 = vl 0 m by omega, show (10 * vl 0 m + (b.toNat - 48)) % 10 = b.toNat - 48 by omega, u8_of b _ (by omega)]
      constructor
      · intro e
        have e1 : Lib.decDigits (vl 0 m) = m := List.append_cancel_right e
        have := h.1 e1
        rcases this with e2 | e2
        · refine Or.inr ?_
          rw [hhead]
          match m, e2 with
          | [x], _ =>
            intro e3
            have : x = 48 := by simpa using e3
            subst this
            exact c rfl
        · exact Or.inr (by rw [hhead]; exact e2)
      · intro e
        rcases e with e | e
        · exact absurd e hlen
        · rw [h.2 (Or.inr (by rw [← hhead]; exact e))]
/-- What ParseInt answers. -/
def pI (l : List UInt8) : Int × Bool := if (1 ≤ l.length ∧ l.length ≤ 13) ∧ l.all dgt = true ∧ led l ∧ vl 0 l ≤ 1000000000000 then ((vl 0 l : Int), true) else (0, false)
theorem pI_itoa {l : List UInt8} (h : (pI l).2 = true) : Lib.itoa (pI l).1 = l ∧ 0 ≤ (pI l).1 ∧ (pI l).1 ≤ 1000000000000 := by
  unfold pI at h ⊢
  split at h
  · rename_i c
    rw [if_pos c]
    refine ⟨?_, by omega, by omega⟩
    unfold Lib.itoa
    rw [if_neg (by omega), Int.toNat_natCast]
    exact (dec_iff (l.length - 1) l (by omega) c.2.1).2 c.2.2.1
  · exact absurd h (by decide)
theorem bt_nat (s : ByteArray) (i : Nat) (h : i < s.data.toList.length) : bt s (i : Int) = ((s.data.toList[i]).toNat : Int) := by
  unfold bt
  rw [Int.toNat_natCast, dif_pos (by rw [Lib.size_eq]; exact h)]
  rfl
theorem sz_nat (s : ByteArray) : s.size = s.data.toList.length := Lib.size_eq s
theorem implPI_l0 (s : ByteArray) (l : List UInt8) (hs : s.data.toList = l) (hl : l.length ≤ 13) : ∀ (d i v : Nat), i + d = l.length → v < 10 ^ i →
    Ev (fun k => impl_ParseInt.l0 k s (v : Int) (l.length : Int) (i : Int)) (if (l.drop i).all dgt = true ∧ vl v (l.drop i) ≤ 1000000000000 then ((vl v (l.drop i) : Int), true) else (0, false)) := by
  subst hs
  have hz := sz_nat s
  intro d
  induction d with
  | zero =>
    intro i v hi hv
    rw [List.drop_of_length_le (by omega)]
    refine ev_step (fun k => by simp only [impl_ParseInt.l0]; rfl) (ev_iten (by omega) (ev_ite (fun c => ev_some ?_) (fun c => ev_some ?_)))
    · rw [if_neg (by rw [vl_nil]; omega)]
    · rw [if_pos ⟨rfl, by rw [vl_nil]; omega⟩, vl_nil]
  | succ d ih =>
    intro i v hi hv
    have hlt : i < s.data.toList.length := by omega
    have hpow : 10 ^ i ≤ 10 ^ 12 := Nat.pow_le_pow_right (by omega) (by omega)
    have h12 : (10 : Nat) ^ 12 = 1000000000000 := by decide
    rw [List.drop_eq_getElem_cons hlt, vl_cons, List.all_cons]
    refine ev_step (fun k => by simp only [impl_ParseInt.l0]; rfl) (ev_itep (by omega) ?_)
    rw [bt_nat s i hlt]
    generalize s.data.toList[i] = b
    have hb : b.toNat < 256 := b.toNat_lt
    refine ev_itep (by omega) (ev_itep (by omega) (ev_ite (fun c => ev_some ?_) (fun c => ev_ite (fun c2 => ev_some ?_) (fun c2 => ?_))))
    · rw [if_neg]; intro h; have h1 := h.1; rw [Bool.and_eq_true] at h1; have : 48 ≤ b.toNat ∧ b.toNat ≤ 57 := by simpa [dgt] using h1.1
      omega
    · rw [if_neg]; intro h; have h1 := h.1; rw [Bool.and_eq_true] at h1; have : 48 ≤ b.toNat ∧ b.toNat ≤ 57 := by simpa [dgt] using h1.1
      omega
    · have hd : dgt b = true := by simp [dgt]; omega
      have e1 : wrap64 (wrap64 (10 * (v : Int)) + ((b.toNat : Int) - 48) % 256) = ((10 * v + (b.toNat - 48) : Nat) : Int) := by
        rw [wrap_id (x := 10 * (v : Int)) (by omega) (by omega), wrap_id (by omega) (by omega)]; omega
      have e2 : wrap64 ((i : Int) + 1) = ((i + 1 : Nat) : Int) := by rw [wrap_id (by omega) (by omega)]; omega
      rw [e1, e2, hd, Bool.true_and]
      exact ih (i + 1) _ (by omega) (by rw [Nat.pow_succ]; omega)
theorem bt_zero (s : ByteArray) (l : List UInt8) (hs : s.data.toList = l) (h : 1 < l.length) : (bt s 0 == 48) = decide (l.head? = some 48) := by
  subst hs
  obtain ⟨x, r, e⟩ : ∃ x r, s.data.toList = x :: r := by
    cases h2 : s.data.toList with
    | nil => rw [h2] at h; simp at h
    | cons x r => exact ⟨x, r, rfl⟩
  have hx : bt s 0 = (x.toNat : Int) := by
    have := bt_nat s 0 (by omega)
    simp only [e, List.getElem_cons_zero] at this
    exact this
  rw [hx, e, List.head?_cons]
  by_cases c : x = 48
  · subst c; rfl
  · have h3 : x.toNat ≠ 48 := fun e => c (UInt8.toNat_inj.1 e)
    rw [decide_eq_false (fun e => c (Option.some.inj e))]
    exact beq_eq_false_iff_ne.2 (by omega)
theorem implPI_j0 (s : ByteArray) (l : List UInt8) (hs : s.data.toList = l) (h1 : 1 ≤ l.length) (h2 : l.length ≤ 13) (q : Bool) (hq : q = decide (¬ led l)) : Ev (fun k => impl_ParseInt.j0 k s q) (pI l) := by
  have hz : s.size = l.length := by rw [sz_nat, hs]
  refine ev_step (fun k => by simp only [impl_ParseInt.j0]; rfl) (ev_ite (fun c => ev_some ?_) (fun c => ?_))
  · unfold pI
    rw [if_neg]
    intro h
    rw [c] at hq
    exact (of_decide_eq_true hq.symm) h.2.2.1
  · rw [hz]
    refine ev_eq (implPI_l0 s l hs h2 l.length 0 0 (by omega) (by decide)) ?_
    have hled : led l := by
      by_cases g : led l
      · exact g
      · rw [decide_eq_true g] at hq; exact absurd hq c
    unfold pI
    rw [List.drop_zero]
    by_cases g : l.all dgt = true ∧ vl 0 l ≤ 1000000000000
    · rw [if_pos g, if_pos ⟨⟨h1, h2⟩, g.1, hled, g.2⟩]
    · rw [if_neg g, if_neg (fun h => g ⟨h.2.1, h.2.2.2⟩)]
theorem implPI_ev (s : ByteArray) (l : List UInt8) (hs : s.data.toList = l) : Ev (fun k => impl_ParseInt.f k s) (pI l) := by
  have hz : s.size = l.length := by rw [sz_nat, hs]
  have bad : ¬ (1 ≤ l.length ∧ l.length ≤ 13) → Ev (fun k => impl_ParseInt.j0 k s true) (pI l) := by
    intro h
    refine ev_step (fun k => by simp only [impl_ParseInt.j0]; rfl) (ev_itep (show true = true from rfl) (ev_some ?_))
    unfold pI
    rw [if_neg (fun g => h g.1)]
  unfold impl_ParseInt.f
  refine ev_ite (fun c => bad (by omega)) (fun c => ev_ite (fun c2 => bad (by omega)) (fun c2 => ev_ite (fun c3 => ev_itep (by omega) ?_) (fun c3 => ?_)))
  · refine implPI_j0 s l hs (by omega) (by omega) _ ?_
    rw [bt_zero s l hs (by omega)]
    apply decide_eq_decide.2
    unfold led
    constructor
    · intro e h; rcases h with h | h; omega; exact h e
    · intro h; by_cases g : l.head? = some 48; exact g; exact absurd (Or.inr g) h
  · exact implPI_j0 s l hs (by omega) (by omega) _ (decide_eq_false (fun h => h (Or.inl (by omega)))).symm
theorem l1In_b (a b c : Int) : spec_l1In.f a b c = some (decide (b ≤ a ∧ a ≤ c)) := by
  unfold spec_l1In.f
  by_cases h : a ≥ b
  · rw [if_pos h]; congr 1; apply decide_eq_decide.2; omega
  · rw [if_neg h, decide_eq_false]; omega
theorem specPI_l0 (s : ByteArray) (l : List UInt8) (hs : s.data.toList = l) (h1 : 1 ≤ l.length) (hl : l.length ≤ 13) : ∀ (d i v : Nat), i + d = l.length → v < 10 ^ i → vl v (l.drop i) = vl 0 l →
    Ev (fun k => spec_ParseInt.l0 k s (v : Int) (i : Int)) (if (l.drop i).all dgt = true ∧ vl 0 l ≤ 1000000000000 ∧ Lib.decDigits (vl 0 l) = l then ((vl 0 l : Int), true) else (0, false)) := by
  subst hs
  have hz := sz_nat s
  intro d
  induction d with
  | zero =>
    intro i v hi hv hvl
    rw [List.drop_of_length_le (by omega), vl_nil] at hvl
    rw [List.drop_of_length_le (by omega)]
    subst hvl
    refine ev_step (fun k => by simp only [spec_ParseInt.l0]; rfl) (ev_iten (by omega) (ev_ite (fun c => ev_some ?_) (fun c => ?_)))
    · rw [if_neg (by omega)]
    · refine ev_bind (specFormat_ev _ (by omega) (by omega)) ?_
      have e : (fmtI ((vl 0 s.data.toList : Nat) : Int)).toList = Lib.decDigits (vl 0 s.data.toList) := by
        rw [Lib.toList_data]
        unfold fmtI Lib.itoa
        rw [if_neg (by omega), Int.toNat_natCast]; rfl
      rw [e, Lib.toList_data]
      refine ev_ite (fun g => ev_some ?_) (fun g => ev_some ?_)
      · rw [if_pos ⟨rfl, by omega, g⟩]
      · rw [if_neg (fun h => g h.2.2)]
  | succ d ih =>
    intro i v hi hv hvl
    have hlt : i < s.data.toList.length := by omega
    have hpow : 10 ^ i ≤ 10 ^ 12 := Nat.pow_le_pow_right (by omega) (by omega)
    have h12 : (10 : Nat) ^ 12 = 1000000000000 := by decide
    rw [List.drop_eq_getElem_cons hlt, vl_cons] at hvl
    rw [List.drop_eq_getElem_cons hlt, List.all_cons]
    refine ev_step (fun k => by simp only [spec_ParseInt.l0]; rfl) (ev_itep (by omega) (ev_itep (by omega) ?_))
    rw [bt_nat s i hlt]
    generalize hbb : s.data.toList[i] = b
    rw [hbb] at hvl
    have hb : b.toNat < 256 := b.toNat_lt
    refine ev_bindc (l1In_b _ _ _) (ev_ite (fun c => ?_) (fun c => ev_some ?_))
    · rw [wrap_id (by omega) (by omega)] at c
      have c2 := of_decide_eq_true c
      have hd : dgt b = true := by simp [dgt]; omega
      have e1 : wrap64 (wrap64 (10 * (v : Int)) + ((b.toNat : Int) - 48) % 256) = ((10 * v + (b.toNat - 48) : Nat) : Int) := by
        rw [wrap_id (x := 10 * (v : Int)) (by omega) (by omega), wrap_id (by omega) (by omega)]; omega
      have e2 : wrap64 ((i : Int) + 1) = ((i + 1 : Nat) : Int) := by rw [wrap_id (by omega) (by omega)]; omega
      rw [e1, e2, hd, Bool.true_and]
      exact ih (i + 1) _ (by omega) (by rw [Nat.pow_succ]; omega) hvl
    · rw [if_neg]
      intro h
      have h1 := h.1
      rw [Bool.and_eq_true] at h1
      have : 48 ≤ b.toNat ∧ b.toNat ≤ 57 := by simpa [dgt] using h1.1
      rw [wrap_id (by omega) (by omega)] at c
      exact c (decide_eq_true (by omega))
theorem specPI_ev (s : ByteArray) (l : List UInt8) (hs : s.data.toList = l) : Ev (fun k => spec_ParseInt.f k s) (pI l) := by
  have hz : s.size = l.length := by rw [sz_nat, hs]
  unfold spec_ParseInt.f
  refine ev_bindc (l1In_b _ _ _) (ev_ite (fun c => ?_) (fun c => ev_some ?_))
  · have c2 := of_decide_eq_true c
    refine ev_eq (specPI_l0 s l hs (by omega) (by omega) l.length 0 0 (by omega) (by decide) rfl) ?_
    unfold pI
    rw [List.drop_zero]
    by_cases g : l.all dgt = true
    · have hi := dec_iff (l.length - 1) l (by omega) g
      by_cases g2 : vl 0 l ≤ 1000000000000 ∧ Lib.decDigits (vl 0 l) = l
      · rw [if_pos ⟨g, g2⟩, if_pos ⟨by omega, g, hi.1 g2.2, g2.1⟩]
      · rw [if_neg (fun h => g2 h.2), if_neg (fun h => g2 ⟨h.2.2.2, hi.2 h.2.2.1⟩)]
    · rw [if_neg (fun h => g h.1), if_neg (fun h => g h.2.1)]
  · unfold pI
    rw [if_neg]
    intro h
    exact c (decide_eq_true (by omega))
end Go.Proofs.YtihnanfekchlhaaDoor.PFnExactParseReport
