/- The plain laws that this claim needs, in one text. -/
import Derived.Test.YtihnanfekchlhaaDoorStmFnForms
import Derived.Test.YtihnanfekchlhaaDoorEvLib
import Derived.Lib.ItoaNum
import Derived.Lib.Join
import Derived.Lib.SplitLaws
import Derived.Lib.CutLaws
set_option linter.unusedSimpArgs false
set_option linter.unusedVariables false
namespace Go.Proofs.YtihnanfekchlhaaDoor.PFnForms
open Go.RowKit
theorem inRange_eq (a b c : Int) : impl_InRange.f a b c = some (decide (b ≤ a ∧ a ≤ c)) := by unfold impl_InRange.f; split <;> simp [*]
end Go.Proofs.YtihnanfekchlhaaDoor.PFnForms
namespace Go.Proofs.YtihnanfekchlhaaDoor.PFnForms
open Go.RowKit
theorem l1In_eq (a b c : Int) : spec_l1In.f a b c = some (decide (b ≤ a ∧ a ≤ c)) := by unfold spec_l1In.f; split <;> simp [*]
end Go.Proofs.YtihnanfekchlhaaDoor.PFnForms
namespace Go.Proofs.YtihnanfekchlhaaDoor.PFnForms
open Go.RowKit Go.Proofs.YtihnanfekchlhaaDoorW.PrintWords Go.Proofs.YtihnanfekchlhaaDoorW.PrintLast Go.Proofs.YtihnanfekchlhaaDoor.EvLib
/-- A string of these bytes. -/
def bs (l : List UInt8) : ByteArray := ⟨l.toArray⟩
theorem bs_app (a b : List UInt8) : bs a ++ bs b = bs (a ++ b) := by
  apply ByteArray.ext
  simp [bs, ByteArray.data_append]
theorem bs_size (a : List UInt8) : (bs a).size = a.length := by simp [bs, ByteArray.size]
theorem bs_of (s : ByteArray) : s = bs s.data.toList := by apply ByteArray.ext; simp [bs]
theorem bs_one (v : Int) (_h0 : 0 ≤ v) (_h1 : v < 256) : strOfNums [v] = bs [UInt8.ofNat v.toNat] := by
  apply ByteArray.ext
  simp [bs, strOfNums]
def fmtI (n : Int) : ByteArray := bs (Lib.itoa n)
/-- The digits of u; none for 0. -/
def dd (u : Nat) : List UInt8 := if u = 0 then [] else Lib.decDigits u
theorem dd_step (u : Nat) (h : u ≠ 0) : dd u = dd (u / 10) ++ [UInt8.ofNat (48 + u % 10)] := by
  unfold dd
  rw [if_neg h, Lib.decDigits]
  by_cases c : u < 10
  · rw [dif_pos c, if_pos (by omega), Nat.mod_eq_of_lt c]; rfl
  · rw [dif_neg c, if_neg (by omega)]
theorem tdiv_nn (x : Int) (h : 0 ≤ x) : Int.tdiv x 10 = x / 10 := Int.tdiv_eq_ediv_of_nonneg h
theorem tmod_nn (x : Int) (h : 0 ≤ x) : Int.tmod x 10 = x % 10 := Int.tmod_eq_emod_of_nonneg h
theorem tdiv_neg (x : Int) (h : x ≤ 0) : Int.tdiv x 10 = -((-x) / 10) := by
  have := Int.neg_tdiv (a := -x) (b := 10)
  rw [Int.neg_neg] at this
  rw [this, tdiv_nn _ (by omega)]
theorem tmod_neg (x : Int) (h : x ≤ 0) : Int.tmod x 10 = -((-x) % 10) := by
  have := Int.neg_tmod (a := -x) (b := 10)
  rw [Int.neg_neg] at this
  rw [this, tmod_nn _ (by omega)]
theorem specFormat_l0 (n : Int) : ∀ (d : Nat) (m : Nat) (l : List UInt8) (x : Int), m < 10 ^ d → m ≤ 9223372036854775808 → l.length + d ≤ 30 → (0 ≤ n ∧ x = m ∧ x ≤ 9223372036854775807 ∨ n < 0 ∧ x = -(m : Int)) →
    Ev (fun k => spec_FormatInt.l0 k n (bs l) x) (bs ((if n < 0 then [45] else []) ++ dd m ++ l)) := by
  intro d
  induction d with
  | zero =>
    intro m l x hm hb hl hx
    have hm0 : m = 0 := by simpa using hm
    subst hm0
    have hx0 : x = 0 := by omega
    refine ev_step (fun k => by simp only [spec_FormatInt.l0]; rfl) (ev_itep hx0 ?_)
    by_cases c : n < 0
    · refine ev_itep c (ev_itep (by rw [bs_size]; omega) (ev_some ?_))
      rw [if_pos c]
      exact bs_app [45] l
    · refine ev_iten c (ev_some ?_)
      rw [if_neg c]; rfl
  | succ d ih =>
    intro m l x hm hb hl hx
    by_cases hm0 : m = 0
    · subst hm0
      have hx0 : x = 0 := by omega
      refine ev_step (fun k => by simp only [spec_FormatInt.l0]; rfl) (ev_itep hx0 ?_)
      by_cases c : n < 0
      · refine ev_itep c (ev_itep (by rw [bs_size]; omega) (ev_some ?_))
        rw [if_pos c]
        exact bs_app [45] l
      · refine ev_iten c (ev_some ?_)
        rw [if_neg c]; rfl
    · have hd : m / 10 < 10 ^ d := by rw [Nat.pow_succ] at hm; omega
      have hr := ih (m / 10) (UInt8.ofNat (48 + m % 10) :: l) (Int.tdiv x 10) hd (by omega) (by simp; omega) (by
        rcases hx with ⟨h1, h2, h3⟩ | ⟨h1, h2⟩
        · left; rw [tdiv_nn x (by omega)]; omega
        · right; rw [tdiv_neg x (by omega)]; omega)
      have e : (if n < 0 then [45] else []) ++ dd (m / 10) ++ (UInt8.ofNat (48 + m % 10) :: l) = (if n < 0 then [45] else []) ++ dd m ++ l := by
        rw [dd_step m hm0]; simp
      rw [e] at hr
      have hw : wrap64 (Int.tdiv x 10) = Int.tdiv x 10 := by
        rcases hx with ⟨h1, h2, h3⟩ | ⟨h1, h2⟩
        · rw [tdiv_nn x (by omega)]; exact wrap_id (by omega) (by omega)
        · rw [tdiv_neg x (by omega)]; exact wrap_id (by omega) (by omega)
      have hs : ∀ v : Int, v = 48 + ((m % 10 : Nat) : Int) → strOfNums [v] = bs [UInt8.ofNat (48 + m % 10)] := by
        intro v hv
        rw [bs_one v (by omega) (by omega), show v.toNat = 48 + m % 10 by omega]
      have ht : Int.tmod x 10 = ((m % 10 : Nat) : Int) ∧ 0 ≤ x ∨ Int.tmod x 10 = -((m % 10 : Nat) : Int) := by
        rcases hx with ⟨h1, h2, h3⟩ | ⟨h1, h2⟩
        · left; rw [tmod_nn x (by omega)]; omega
        · right; rw [tmod_neg x (by omega)]; omega
      refine ev_step (fun k => by simp only [spec_FormatInt.l0]; rfl) (ev_iten (by omega) (ev_ite (fun c => ?_) (fun c => ?_)))
      · have hv : wrap64 (48 + wrap64 (-(Int.tmod x 10))) % 256 = 48 + ((m % 10 : Nat) : Int) := by
          rw [wrap_id (x := -(Int.tmod x 10)) (by omega) (by omega), wrap_id (by omega) (by omega)]; omega
        refine ev_bindc rfl ?_
        rw [hv, hs _ rfl, hw]
        refine ev_itep (by rw [bs_size, bs_size]; simp; omega) ?_
        rw [bs_app]; exact hr
      · have hv : wrap64 (48 + Int.tmod x 10) % 256 = 48 + ((m % 10 : Nat) : Int) := by
          rw [wrap_id (by omega) (by omega)]; omega
        refine ev_bindc rfl ?_
        rw [hv, hs _ rfl, hw]
        refine ev_itep (by rw [bs_size, bs_size]; simp; omega) ?_
        rw [bs_app]; exact hr
theorem specFormat_ev (n : Int) (h0 : -9223372036854775808 ≤ n) (h1 : n ≤ 9223372036854775807) : Ev (fun k => spec_FormatInt.f k n) (fmtI n) := by
  unfold spec_FormatInt.f
  refine ev_ite (fun c => ev_some ?_) (fun c => ?_)
  · subst c
    unfold fmtI Lib.itoa
    rw [if_neg (by omega), Lib.decDigits]
    rfl
  · have := specFormat_l0 n 20 n.natAbs [] n (by have : n.natAbs ≤ 9223372036854775808 := by omega
                                                 omega) (by omega) (by simp) (by omega)
    have e : (if n < 0 then [45] else []) ++ dd n.natAbs ++ [] = Lib.itoa n := by
      have hn : ¬ n.natAbs = 0 := by omega
      unfold dd Lib.itoa
      by_cases g : n < 0
      · rw [if_pos g, if_pos g, if_neg hn]; simp
      · rw [if_neg g, if_neg g, if_neg hn, show n.natAbs = n.toNat by omega]; simp
    rw [e] at this
    exact this
theorem dec_len (d : Nat) : ∀ u, u < 10 ^ (d + 1) → (Lib.decDigits u).length ≤ d + 1 := by
  induction d with
  | zero => intro u h; rw [Lib.decDigits, dif_pos (by omega)]; simp
  | succ d ih =>
    intro u h
    rw [Lib.decDigits]
    split
    · simp
    · have := ih (u / 10) (by rw [Nat.pow_succ] at h; omega)
      simp; omega
theorem fmt_size (n : Int) (h0 : -9223372036854775808 ≤ n) (h1 : n ≤ 9223372036854775807) : (fmtI n).size ≤ 21 := by
  unfold fmtI
  rw [bs_size]
  unfold Lib.itoa
  split
  · have := dec_len 19 n.natAbs (by have : n.natAbs ≤ 9223372036854775808 := by omega
                                    omega)
    simp; omega
  · have := dec_len 19 n.toNat (by have : n.toNat ≤ 9223372036854775807 := by omega
                                   omega)
    omega
theorem wf64 {n : Int} (h : (Lit.int .i64 n).wf = true) : -9223372036854775808 ≤ n ∧ n ≤ 9223372036854775807 := by
  have e1 : IntKind.i64.min = -9223372036854775808 := rfl
  have e2 : IntKind.i64.max = 9223372036854775807 := rfl
  simp [Lit.wf, e1, e2] at h
  exact h
end Go.Proofs.YtihnanfekchlhaaDoor.PFnForms
namespace Go.Proofs.YtihnanfekchlhaaDoor.PFnForms
open Go.RowKit Go.Proofs.YtihnanfekchlhaaDoorW.PrintWords Go.Proofs.YtihnanfekchlhaaDoorW.PrintLast Go.Proofs.YtihnanfekchlhaaDoor.EvLib
theorem implFormat_eq (n : Int) (h0 : -9223372036854775808 ≤ n) (h1 : n ≤ 9223372036854775807) : impl_FormatInt.f n = some (fmtI n) := by
  unfold impl_FormatInt.f strconv_Itoa.f
  rw [if_pos ⟨h0, h1⟩]
  rfl
end Go.Proofs.YtihnanfekchlhaaDoor.PFnForms
namespace Go.Proofs.YtihnanfekchlhaaDoor.PFnForms
open Go.RowKit Go.Proofs.YtihnanfekchlhaaDoorW.PrintWords Go.Proofs.YtihnanfekchlhaaDoorW.PrintLast Go.Proofs.YtihnanfekchlhaaDoor.EvLib
def dgt (b : UInt8) : Bool := decide (48 ≤ b.toNat) && decide (b.toNat ≤ 57)
def vl (a : Nat) (l : List UInt8) : Nat := l.foldl (fun a b => 10 * a + (b.toNat - 48)) a
theorem vl_nil (a : Nat) : vl a [] = a := rfl
theorem vl_cons (a : Nat) (b : UInt8) (l : List UInt8) : vl a (b :: l) = vl (10 * a + (b.toNat - 48)) l := by unfold vl; rw [List.foldl_cons]
theorem vl_snoc (a : Nat) (l : List UInt8) (b : UInt8) : vl a (l ++ [b]) = 10 * vl a l + (b.toNat - 48) := by
  unfold vl; rw [List.foldl_append]; rfl
theorem vl_ge : ∀ (l : List UInt8) (a : Nat), a ≤ vl a l
  | [], _ => Nat.le_refl _
  | b :: l, a => by rw [vl_cons]; have := vl_ge l (10 * a + (b.toNat - 48)); omega
theorem vl_lt : ∀ (l : List UInt8) (a i : Nat), l.all dgt = true → a < 10 ^ i → vl a l < 10 ^ (i + l.length)
  | [], _, _, _, h => by simpa [vl_nil] using h
  | b :: l, a, i, hd, h => by
    rw [List.all_cons, Bool.and_eq_true] at hd
    have hb : 48 ≤ b.toNat ∧ b.toNat ≤ 57 := by simpa [dgt] using hd.1
    rw [vl_cons]
    have := vl_lt l (10 * a + (b.toNat - 48)) (i + 1) hd.2 (by rw [Nat.pow_succ]; omega)
    rwa [List.length_cons, show i + (l.length + 1) = i + 1 + l.length by omega]
def led (l : List UInt8) : Prop := l.length = 1 ∨ l.head? ≠ some 48
instance (l : List UInt8) : Decidable (led l) := by unfold led; infer_instance
theorem u8_of (b : UInt8) (n : Nat) (h : b.toNat = n) : UInt8.ofNat n = b := by
  subst h
  exact UInt8.ofNat_toNat
/-- The numeral of a numeral's value is the numeral itself, where it leads with no needless zero. -/
theorem dec_iff : ∀ (n : Nat) (l : List UInt8), l.length = n + 1 → l.all dgt = true → (Lib.decDigits (vl 0 l) = l ↔ led l) := by
  intro n
  induction n with
  | zero =>
    intro l hl hd
    match l, hl with
    | [b], _ =>
      have hb : 48 ≤ b.toNat ∧ b.toNat ≤ 57 := by simpa [dgt] using hd
      refine ⟨fun _ => Or.inl rfl, fun _ => ?_⟩
      rw [vl_cons, vl_nil, Lib.decDigits, dif_pos (by omega)]
      rw [u8_of b _ (by omega)]
  | succ n ih =>
    intro l hl hd
    have hne : l ≠ [] := fun e => by rw [e] at hl; simp at hl
    obtain ⟨m, b, rfl⟩ : ∃ m b, l = m ++ [b] := ⟨l.dropLast, l.getLast hne, (List.dropLast_concat_getLast hne).symm⟩
    have hm : m.length = n + 1 := by simp at hl; omega
    rw [List.all_append, Bool.and_eq_true] at hd
    have hb : 48 ≤ b.toNat ∧ b.toNat ≤ 57 := by simpa [dgt] using hd.2
    have h := ih m hm hd.1
    have hlen : (m ++ [b]).length ≠ 1 := by rw [List.length_append]; show m.length + 1 ≠ 1; omega
    have hhead : (m ++ [b]).head? = m.head? := by
      cases m with
      | nil => simp at hm
      | cons x r => rfl
    rw [vl_snoc]
    by_cases c : vl 0 m = 0
    · -- all zeros in front
      match m, hm with
      | x :: r, hm =>
        have h1 := vl_ge r (10 * 0 + (x.toNat - 48))
        rw [vl_cons] at c
        rw [List.all_cons, Bool.and_eq_true] at hd
        have hx : 48 ≤ x.toNat ∧ x.toNat ≤ 57 := by simpa [dgt] using hd.1.1
        have x48 : x = 48 := by
          apply UInt8.toNat_inj.1
          show x.toNat = 48
          omega
        constructor
        · intro e
          exfalso
          have := congrArg List.length e
          rw [vl_cons, c, Lib.decDigits, dif_pos (by omega)] at this
          simp at this
        · intro e
          rcases e with e | e
          · exact absurd e hlen
          · exact absurd (by rw [hhead, x48]; rfl) e
    · rw [Lib.decDigits, dif_neg (by omega), show (10 * vl 0 m + (b.toNat - 48)) / 10 = vl 0 m by omega, show (10 * vl 0 m + (b.toNat - 48)) % 10 = b.toNat - 48 by omega, u8_of b _ (by omega)]
      constructor
      · intro e
        have e1 : Lib.decDigits (vl 0 m) = m := List.append_cancel_right e
        have := h.1 e1
        rcases this with e2 | e2
        · refine Or.inr ?_
          rw [hhead]
          match m, e2 with
          | [x], _ =>
            intro e3
            have : x = 48 := by simpa using e3
            subst this
            exact c rfl
        · exact Or.inr (by rw [hhead]; exact e2)
      · intro e
        rcases e with e | e
        · exact absurd e hlen
        · rw [h.2 (Or.inr (by rw [← hhead]; exact e))]
/-- What ParseInt answers. -/
def pI (l : List UInt8) : Int × Bool := if (1 ≤ l.length ∧ l.length ≤ 13) ∧ l.all dgt = true ∧ led l ∧ vl 0 l ≤ 1000000000000 then ((vl 0 l : Int), true) else (0, false)
theorem pI_itoa {l : List UInt8} (h : (pI l).2 = true) : Lib.itoa (pI l).1 = l ∧ 0 ≤ (pI l).1 ∧ (pI l).1 ≤ 1000000000000 := by
  unfold pI at h ⊢
  split at h
  · rename_i c
    rw [if_pos c]
    refine ⟨?_, by omega, by omega⟩
    unfold Lib.itoa
    rw [if_neg (by omega), Int.toNat_natCast]
    exact (dec_iff (l.length - 1) l (by omega) c.2.1).2 c.2.2.1
  · exact absurd h (by decide)
theorem bt_nat (s : ByteArray) (i : Nat) (h : i < s.data.toList.length) : bt s (i : Int) = ((s.data.toList[i]).toNat : Int) := by
  unfold bt
  rw [Int.toNat_natCast, dif_pos (by rw [Lib.size_eq]; exact h)]
  rfl
theorem sz_nat (s : ByteArray) : s.size = s.data.toList.length := Lib.size_eq s
theorem implPI_l0 (s : ByteArray) (l : List UInt8) (hs : s.data.toList = l) (hl : l.length ≤ 13) : ∀ (d i v : Nat), i + d = l.length → v < 10 ^ i →
    Ev (fun k => impl_ParseInt.l0 k s (v : Int) (l.length : Int) (i : Int)) (if (l.drop i).all dgt = true ∧ vl v (l.drop i) ≤ 1000000000000 then ((vl v (l.drop i) : Int), true) else (0, false)) := by
  subst hs
  have hz := sz_nat s
  intro d
  induction d with
  | zero =>
    intro i v hi hv
    rw [List.drop_of_length_le (by omega)]
    refine ev_step (fun k => by simp only [impl_ParseInt.l0]; rfl) (ev_iten (by omega) (ev_ite (fun c => ev_some ?_) (fun c => ev_some ?_)))
    · rw [if_neg (by rw [vl_nil]; omega)]
    · rw [if_pos ⟨rfl, by rw [vl_nil]; omega⟩, vl_nil]
  | succ d ih =>
    intro i v hi hv
    have hlt : i < s.data.toList.length := by omega
    have hpow : 10 ^ i ≤ 10 ^ 12 := Nat.pow_le_pow_right (by omega) (by omega)
    have h12 : (10 : Nat) ^ 12 = 1000000000000 := by decide
    rw [List.drop_eq_getElem_cons hlt, vl_cons, List.all_cons]
    refine ev_step (fun k => by simp only [impl_ParseInt.l0]; rfl) (ev_itep (by omega) ?_)
    rw [bt_nat s i hlt]
    generalize s.data.toList[i] = b
    have hb : b.toNat < 256 := b.toNat_lt
    refine ev_itep (by omega) (ev_itep (by omega) (ev_ite (fun c => ev_some ?_) (fun c => ev_ite (fun c2 => ev_some ?_) (fun c2 => ?_))))
    · rw [if_neg]; intro h; have h1 := h.1; rw [Bool.and_eq_true] at h1; have : 48 ≤ b.toNat ∧ b.toNat ≤ 57 := by simpa [dgt] using h1.1
      omega
    · rw [if_neg]; intro h; have h1 := h.1; rw [Bool.and_eq_true] at h1; have : 48 ≤ b.toNat ∧ b.toNat ≤ 57 := by simpa [dgt] using h1.1
      omega
    · have hd : dgt b = true := by simp [dgt]; omega
      have e1 : wrap64 (wrap64 (10 * (v : Int)) + ((b.toNat : Int) - 48) % 256) = ((10 * v + (b.toNat - 48) : Nat) : Int) := by
        rw [wrap_id (x := 10 * (v : Int)) (by omega) (by omega), wrap_id (by omega) (by omega)]; omega
      have e2 : wrap64 ((i : Int) + 1) = ((i + 1 : Nat) : Int) := by rw [wrap_id (by omega) (by omega)]; omega
      rw [e1, e2, hd, Bool.true_and]
      exact ih (i + 1) _ (by omega) (by rw [Nat.pow_succ]; omega)
theorem bt_zero (s : ByteArray) (l : List UInt8) (hs : s.data.toList = l) (h : 1 < l.length) : (bt s 0 == 48) = decide (l.head? = some 48) := by
  subst hs
  obtain ⟨x, r, e⟩ : ∃ x r, s.data.toList = x :: r := by
    cases h2 : s.data.toList with
    | nil => rw [h2] at h; simp at h
    | cons x r => exact ⟨x, r, rfl⟩
  have hx : bt s 0 = (x.toNat : Int) := by
    have := bt_nat s 0 (by omega)
    simp only [e, List.getElem_cons_zero] at this
    exact this
  rw [hx, e, List.head?_cons]
  by_cases c : x = 48
  · subst c; rfl
  · have h3 : x.toNat ≠ 48 := fun e => c (UInt8.toNat_inj.1 e)
    rw [decide_eq_false (fun e => c (Option.some.inj e))]
    exact beq_eq_false_iff_ne.2 (by omega)
theorem implPI_j0 (s : ByteArray) (l : List UInt8) (hs : s.data.toList = l) (h1 : 1 ≤ l.length) (h2 : l.length ≤ 13) (q : Bool) (hq : q = decide (¬ led l)) : Ev (fun k => impl_ParseInt.j0 k s q) (pI l) := by
  have hz : s.size = l.length := by rw [sz_nat, hs]
  refine ev_step (fun k => by simp only [impl_ParseInt.j0]; rfl) (ev_ite (fun c => ev_some ?_) (fun c => ?_))
  · unfold pI
    rw [if_neg]
    intro h
    rw [c] at hq
    exact (of_decide_eq_true hq.symm) h.2.2.1
  · rw [hz]
    refine ev_eq (implPI_l0 s l hs h2 l.length 0 0 (by omega) (by decide)) ?_
    have hled : led l := by
      by_cases g : led l
      · exact g
      · rw [decide_eq_true g] at hq; exact absurd hq c
    unfold pI
    rw [List.drop_zero]
    by_cases g : l.all dgt = true ∧ vl 0 l ≤ 1000000000000
    · rw [if_pos g, if_pos ⟨⟨h1, h2⟩, g.1, hled, g.2⟩]
    · rw [if_neg g, if_neg (fun h => g ⟨h.2.1, h.2.2.2⟩)]
theorem implPI_ev (s : ByteArray) (l : List UInt8) (hs : s.data.toList = l) : Ev (fun k => impl_ParseInt.f k s) (pI l) := by
  have hz : s.size = l.length := by rw [sz_nat, hs]
  have bad : ¬ (1 ≤ l.length ∧ l.length ≤ 13) → Ev (fun k => impl_ParseInt.j0 k s true) (pI l) := by
    intro h
    refine ev_step (fun k => by simp only [impl_ParseInt.j0]; rfl) (ev_itep (show true = true from rfl) (ev_some ?_))
    unfold pI
    rw [if_neg (fun g => h g.1)]
  unfold impl_ParseInt.f
  refine ev_ite (fun c => bad (by omega)) (fun c => ev_ite (fun c2 => bad (by omega)) (fun c2 => ev_ite (fun c3 => ev_itep (by omega) ?_) (fun c3 => ?_)))
  · refine implPI_j0 s l hs (by omega) (by omega) _ ?_
    rw [bt_zero s l hs (by omega)]
    apply decide_eq_decide.2
    unfold led
    constructor
    · intro e h; rcases h with h | h; omega; exact h e
    · intro h; by_cases g : l.head? = some 48; exact g; exact absurd (Or.inr g) h
  · exact implPI_j0 s l hs (by omega) (by omega) _ (decide_eq_false (fun h => h (Or.inl (by omega)))).symm
end Go.Proofs.YtihnanfekchlhaaDoor.PFnForms
namespace Go.Proofs.YtihnanfekchlhaaDoor.PFnForms
open Go.RowKit Go.Proofs.YtihnanfekchlhaaDoorW.PrintWords Go.Proofs.YtihnanfekchlhaaDoorW.PrintLast Go.Proofs.YtihnanfekchlhaaDoor.EvLib
/-- The first part and the others. -/
def spA (c : UInt8) : List UInt8 → List UInt8 × List (List UInt8)
  | [] => ([], [])
  | x :: r => if x = c then ([], (spA c r).1 :: (spA c r).2) else (x :: (spA c r).1, (spA c r).2)
theorem spA_join (c : UInt8) : ∀ l : List UInt8, Lib.join ((spA c l).1 :: (spA c l).2) [c] = l
  | [] => by simp [spA, Lib.join_one]
  | x :: r => by
    have ih := spA_join c r
    rw [Lib.join_cons] at ih
    unfold spA
    by_cases h : x = c
    · subst h
      rw [if_pos rfl, Lib.join_cons]
      simp only [Lib.joinTail, List.map_cons, List.flatten_cons, List.nil_append] at ih ⊢
      rw [List.append_assoc, ih]; rfl
    · rw [if_neg h, Lib.join_cons]
      simp only [List.cons_append]
      rw [ih]
theorem spA_len (c : UInt8) : ∀ l : List UInt8, (spA c l).2.length ≤ l.length
  | [] => by simp [spA]
  | x :: r => by
    have ih := spA_len c r
    unfold spA
    split <;> simp <;> omega
theorem index_cons_ne (b c : UInt8) (l : List UInt8) (h : b ≠ c) : Lib.index (b :: l) [c] = if Lib.index l [c] == -1 then -1 else Lib.index l [c] + 1 := by
  have hp : ([c] : List UInt8).isPrefixOf (b :: l) = false := by simp [List.isPrefixOf, Ne.symm h]
  rw [Lib.index, hp]; simp
theorem splitK_one (c : UInt8) : ∀ l : List UInt8, Lib.splitK [c] 0 (Lib.count l [c]) l = (spA c l).1 :: (spA c l).2
  | [] => by
    rw [Lib.count_miss (by simp [Lib.index])]
    rfl
  | x :: r => by
    have ih := splitK_one c r
    by_cases h : x = c
    · subst h
      have hix : Lib.index (x :: r) [x] = ((0 : Nat) : Int) := by rw [Lib.index]; simp [List.isPrefixOf]
      rw [Lib.count_cons_eq, Nat.add_comm, Lib.splitK, hix, if_neg (by decide)]
      unfold spA
      rw [if_pos rfl]
      rw [← ih]
      rfl
    · rw [Lib.count_cons_ne x c r h]
      unfold spA
      rw [if_neg h]
      generalize Lib.count r [c] = k at ih
      have key : ∀ k, Lib.splitK [c] 0 k (x :: r) = (match Lib.splitK [c] 0 k r with | [] => [] | p :: t => (x :: p) :: t) := by
        intro k
        cases k with
        | zero => rfl
        | succ k =>
          rw [Lib.splitK, Lib.splitK, index_cons_ne x c r h]
          by_cases g : Lib.index r [c] = -1
          · have : (Lib.index r [c] == -1) = true := beq_iff_eq.2 g
            simp only [this, if_true]
            rfl
          · have hge := Lib.index_ge r [c]
            have g1 : ¬ (Lib.index r [c] == -1) = true := fun e => g (beq_iff_eq.1 e)
            have g2 : ¬ (Lib.index r [c] + 1 == -1) = true := fun e => by have := beq_iff_eq.1 e; omega
            rw [if_neg g1, if_neg g1, if_neg g2]
            have e1 : (Lib.index r [c] + 1).toNat + 0 = ((Lib.index r [c]).toNat + 0) + 1 := by omega
            have e2 : (Lib.index r [c] + 1).toNat + [c].length = ((Lib.index r [c]).toNat + [c].length) + 1 := by simp; omega
            rw [e1, e2, List.take_succ_cons, List.drop_succ_cons]
            rfl
      rw [key, ih]
theorem bs_data (l : List UInt8) : (bs l).data.toList = l := rfl
theorem map_bs_of (L : List ByteArray) (M : List (List UInt8)) (h : L.map (·.data.toList) = M) : L = M.map bs := by
  subst h
  rw [List.map_map]
  conv => lhs; rw [← List.map_id L]
  apply List.map_congr_left
  intro x _
  exact bs_of x
theorem split_eq (s : ByteArray) (c : UInt8) (hs : s.size < 4294967281) : strings_Split.f s (bs [c]) = some (((spA c s.data.toList).1 :: (spA c s.data.toList).2).map bs) := by
  unfold strings_Split.f
  rw [if_pos ⟨hs, by rw [bs_size]; simp⟩]
  congr 1
  apply map_bs_of
  rw [Lib.splitB_data]
  exact splitK_one c s.data.toList
theorem ext_bs (s : ByteArray) (a b : Nat) : s.extract a b = bs ((s.data.toList.take b).drop a) := by
  rw [bs_of (s.extract a b), Lib.extract_data, List.drop_take]
theorem bt_nat' (s : ByteArray) (i : Nat) (h : i < s.data.toList.length) : bt s (i : Int) = ((s.data.toList[i]).toNat : Int) := by
  unfold bt
  rw [Int.toNat_natCast, dif_pos (by rw [Lib.size_eq]; exact h)]
  rfl
end Go.Proofs.YtihnanfekchlhaaDoor.PFnForms
namespace Go.Proofs.YtihnanfekchlhaaDoor.PFnForms
open Go.RowKit Go.Proofs.YtihnanfekchlhaaDoorW.PrintWords Go.Proofs.YtihnanfekchlhaaDoorW.PrintLast Go.Proofs.YtihnanfekchlhaaDoor.EvLib
def I64s (l : List Int) : Prop := ∀ y ∈ l, -9223372036854775808 ≤ y ∧ y ≤ 9223372036854775807
def lstB (l : List Int) : List UInt8 := if l.length = 0 then [45] else Lib.join (l.map Lib.itoa) [44]
theorem itoa_len (n : Int) (h : -9223372036854775808 ≤ n ∧ n ≤ 9223372036854775807) : (Lib.itoa n).length ≤ 21 := by
  have := fmt_size n h.1 h.2
  unfold fmtI at this
  rwa [bs_size] at this
theorem join_snoc (xs : List (List UInt8)) (y : List UInt8) (sep : List UInt8) : Lib.join (xs ++ [y]) sep = if xs.length = 0 then y else Lib.join xs sep ++ sep ++ y := by
  cases xs with
  | nil => exact Lib.join_one y sep
  | cons x r => rw [if_neg (by simp), List.cons_append, Lib.join_cons, Lib.join_cons]; simp [Lib.joinTail, List.append_assoc]
theorem lens_itoa : ∀ l : List Int, I64s l → Lib.lens (l.map Lib.itoa) ≤ 21 * l.length
  | [], _ => by simp [Lib.lens]
  | x :: r, h => by
    have h1 := itoa_len x (h x (List.mem_cons_self ..))
    have h2 := lens_itoa r (fun y hy => h y (List.mem_cons_of_mem _ hy))
    simp only [Lib.lens, List.map_cons, List.sum_cons, List.length_cons] at h2 ⊢
    omega
theorem join_itoa_len (l : List Int) (h : I64s l) : (Lib.join (l.map Lib.itoa) [44]).length ≤ 22 * l.length := by
  cases l with
  | nil => simp [Lib.join_nil]
  | cons x r =>
    have := lens_itoa (x :: r) h
    rw [List.map_cons, Lib.join_length, ← List.map_cons]
    simp only [List.length_map, List.length_cons, List.length_nil] at *
    omega
theorem rd_at (l : List Int) (i : Nat) (h : i < l.length) : rd l (i : Int) = l[i] := by
  unfold rd
  rw [Int.toNat_natCast, List.getD_eq_getElem?_getD, List.getElem?_eq_getElem h, Option.getD_some]
theorem I64s_take {l : List Int} (h : I64s l) (i : Nat) : I64s (l.take i) := fun y hy => h y (List.mem_of_mem_take hy)
theorem specList_l0 (l : List Int) (hl : l.length ≤ 2097152) (hb : I64s l) : ∀ d i : Nat, i + d = l.length →
    Ev (fun k => spec_ListText.l0 k l (bs (Lib.join ((l.take i).map Lib.itoa) [44])) (i : Int)) (bs (lstB l)) := by
  intro d
  induction d with
  | zero =>
    intro i hi
    refine ev_step (fun k => by simp only [spec_ListText.l0]; rfl) (ev_iten (by omega) (ev_ite (fun c => ev_some ?_) (fun c => ev_some ?_)))
    · unfold lstB; rw [if_pos (by omega)]; rfl
    · unfold lstB; rw [if_neg (by omega), List.take_of_length_le (by omega)]
  | succ d ih =>
    intro i hi
    have hr := ih (i + 1) (by omega)
    have hz := join_itoa_len (l.take i) (I64s_take hb i)
    rw [List.length_take] at hz
    have hm : l[i]'(by omega) ∈ l := List.getElem_mem _
    have hf := specFormat_ev (l[i]'(by omega)) (hb _ hm).1 (hb _ hm).2
    have hs := fmt_size (l[i]'(by omega)) (hb _ hm).1 (hb _ hm).2
    have e : (l.take (i + 1)).map Lib.itoa = (l.take i).map Lib.itoa ++ [Lib.itoa (l[i]'(by omega))] := by
      rw [List.take_succ_eq_append_getElem (by omega), List.map_append]; rfl
    have hw : wrap64 ((i : Int) + 1) = ((i + 1 : Nat) : Int) := by rw [wrap_id (by omega) (by omega)]; omega
    rw [e, join_snoc] at hr
    have el : ((l.take i).map Lib.itoa).length = i := by rw [List.length_map, List.length_take]; omega
    rw [el] at hr
    refine ev_step (fun k => by simp only [spec_ListText.l0]; rfl) (ev_itep (by omega) (ev_ite (fun c => ?_) (fun c => ?_)))
    · rw [rd_at l i (by omega), hw]
      rw [if_neg (by omega), ← bs_app, ← bs_app] at hr
      exact ev_itep (by rw [bs_size]; omega) (ev_itep (by omega) (ev_bind hf (ev_itep (by rw [show (⟨#[44]⟩ : ByteArray) = bs [44] from rfl, bs_app, bs_size]; simp only [List.length_append, List.length_cons, List.length_nil]; omega) hr)))
    · obtain rfl : i = 0 := by omega
      rw [rd_at l 0 (by omega), hw]
      rw [if_pos rfl] at hr
      refine ev_itep (by omega) (ev_bind hf (ev_itep (by rw [bs_size]; omega) ?_))
      have e0 : bs (Lib.join ((l.take 0).map Lib.itoa) [44]) ++ fmtI (l[0]'(by omega)) = bs (Lib.itoa (l[0]'(by omega))) := by
        unfold fmtI; rw [bs_app]; rfl
      rw [e0]
      exact hr
theorem specList_ev (l : List Int) (hl : l.length ≤ 2097152) (hb : I64s l) : Ev (fun k => spec_ListText.f k l) (bs (lstB l)) := by
  unfold spec_ListText.f
  exact specList_l0 l hl hb l.length 0 (by omega)
end Go.Proofs.YtihnanfekchlhaaDoor.PFnForms
namespace Go.Proofs.YtihnanfekchlhaaDoor.PFnForms
open Go.RowKit Go.Proofs.YtihnanfekchlhaaDoorW.PrintWords Go.Proofs.YtihnanfekchlhaaDoorW.PrintLast Go.Proofs.YtihnanfekchlhaaDoor.EvLib
theorem implList_l0 (l : List Int) (hl : l.length ≤ 2097152) (hb : I64s l) (h0 : l.length ≠ 0) : ∀ d i : Nat, i + d = l.length →
    Ev (fun k => impl_ListText.l0 k ((l.take i).map fmtI) l (l.length : Int) (i : Int)) (bs (lstB l)) := by
  intro d
  induction d with
  | zero =>
    intro i hi
    refine ev_step (fun k => by simp only [impl_ListText.l0]; rfl) (ev_iten (by omega) ?_)
    rw [List.take_of_length_le (by omega)]
    have e : ((l.map fmtI).map (·.data.toList)) = l.map Lib.itoa := by
      rw [List.map_map]; congr 1
    have hz := join_itoa_len l hb
    refine ev_bindc (a := bs (lstB l)) ?_ (ev_some rfl)
    unfold strings_Join.f
    rw [e, show (⟨#[44]⟩ : ByteArray).data.toList = [44] from rfl, if_pos ⟨by rw [List.length_map]; omega, by omega⟩]
    unfold lstB bs
    rw [if_neg h0]
  | succ d ih =>
    intro i hi
    have hr := ih (i + 1) (by omega)
    have hm : l[i]'(by omega) ∈ l := List.getElem_mem _
    have e : (l.take (i + 1)).map fmtI = (l.take i).map fmtI ++ [fmtI (l[i]'(by omega))] := by
      rw [List.take_succ_eq_append_getElem (by omega), List.map_append]; rfl
    have hw : wrap64 ((i : Int) + 1) = ((i + 1 : Nat) : Int) := by rw [wrap_id (by omega) (by omega)]; omega
    rw [e] at hr
    refine ev_step (fun k => by simp only [impl_ListText.l0]; rfl) (ev_itep (by omega) ?_)
    rw [rd_at l i (by omega), hw]
    refine ev_itep (by omega) (ev_itep (by omega) (ev_bindc (implFormat_eq _ (hb _ hm).1 (hb _ hm).2) ?_))
    exact ev_itep (by rw [List.length_map, List.length_take]; omega) hr
theorem implList_ev (l : List Int) (hl : l.length ≤ 2097152) (hb : I64s l) : Ev (fun k => impl_ListText.f k l) (bs (lstB l)) := by
  unfold impl_ListText.f
  refine ev_ite (fun c => ev_some ?_) (fun c => ?_)
  · unfold lstB; rw [if_pos (by omega)]; rfl
  · exact implList_l0 l hl hb (by omega) l.length 0 (by omega)
end Go.Proofs.YtihnanfekchlhaaDoor.PFnForms
namespace Go.Proofs.YtihnanfekchlhaaDoor.PFnForms
open Go.RowKit Go.Proofs.YtihnanfekchlhaaDoorW.PrintWords Go.Proofs.YtihnanfekchlhaaDoorW.PrintLast Go.Proofs.YtihnanfekchlhaaDoor.EvLib
/-- The parts, each parsed; the flag: all are numerals. -/
def pL : List Int → List (List UInt8) → List Int × Bool
  | acc, [] => (acc, true)
  | acc, p :: r => if (pI p).2 = true then pL (acc ++ [(pI p).1]) r else ([], false)
def prsL (l : List UInt8) : List Int × Bool := if l = [45] then ([], true) else pL [] ((spA 44 l).1 :: (spA 44 l).2)
theorem pL_ok : ∀ (ps : List (List UInt8)) (acc : List Int), (pL acc ps).2 = true → ∃ vs : List Int, (pL acc ps).1 = acc ++ vs ∧ vs.map Lib.itoa = ps ∧ (∀ v ∈ vs, 0 ≤ v ∧ v ≤ 1000000000000)
  | [], acc, _ => ⟨[], by simp [pL], rfl, by simp⟩
  | p :: r, acc, h => by
    unfold pL at h ⊢
    by_cases c : (pI p).2 = true
    · rw [if_pos c] at h ⊢
      obtain ⟨vs, h1, h2, h3⟩ := pL_ok r _ h
      have hp := pI_itoa c
      refine ⟨(pI p).1 :: vs, by rw [h1]; simp, by rw [List.map_cons, h2, hp.1], ?_⟩
      intro v hv
      rcases List.mem_cons.1 hv with e | e
      · subst e; exact hp.2
      · exact h3 v e
    · rw [if_neg c] at h
      exact absurd h (by decide)
theorem pL_bad : ∀ (ps : List (List UInt8)) (acc : List Int), ¬ (pL acc ps).2 = true → pL acc ps = ([], false)
  | [], acc, h => absurd rfl h
  | p :: r, acc, h => by
    unfold pL at h ⊢
    by_cases c : (pI p).2 = true
    · rw [if_pos c] at h ⊢
      exact pL_bad r _ h
    · rw [if_neg c]
theorem rdOf_bs (ps : List (List UInt8)) (i : Nat) (h : i < ps.length) : rdOf ByteArray.empty (ps.map bs) (i : Int) = bs (ps[i]) := by
  unfold rdOf
  rw [Int.toNat_natCast, List.getD_eq_getElem?_getD, List.getElem?_map, List.getElem?_eq_getElem h]
  rfl
theorem implPL_l0 (ps : List (List UInt8)) (hz : ps.length ≤ 1048578) : ∀ (d i : Nat) (acc : List Int), i + d = ps.length → acc.length ≤ i →
    Ev (fun k => impl_ParseList.l0 k acc (ps.map bs) (ps.length : Int) (i : Int)) (pL acc (ps.drop i)) := by
  intro d
  induction d with
  | zero =>
    intro i acc hi hacc
    rw [List.drop_of_length_le (by omega)]
    exact ev_step (fun k => by simp only [impl_ParseList.l0]; rfl) (ev_iten (by omega) (ev_some rfl))
  | succ d ih =>
    intro i acc hi hacc
    have hlt : i < ps.length := by omega
    have e2 : wrap64 ((i : Int) + 1) = ((i + 1 : Nat) : Int) := by rw [wrap_id (by omega) (by omega)]; omega
    rw [List.drop_eq_getElem_cons hlt, pL]
    refine ev_step (fun k => by simp only [impl_ParseList.l0]; rfl) (ev_itep (by omega) ?_)
    rw [rdOf_bs ps i hlt, e2]
    refine ev_itep (by omega) (ev_itep (by rw [List.length_map]; omega) (ev_bind (implPI_ev _ _ (bs_data _)) (ev_ite (fun c => ?_) (fun c => ev_some ?_))))
    · rw [if_pos c]
      exact ev_itep (by omega) (ih (i + 1) _ (by omega) (by simp; omega))
    · rw [if_neg c]
theorem implPL_ev (s : ByteArray) (hz : s.size ≤ 1048577) : Ev (fun k => impl_ParseList.f k s) (prsL s.data.toList) := by
  unfold impl_ParseList.f prsL
  refine ev_bindc rfl ?_
  rw [Lib.toList_data]
  refine ev_ite (fun c => ev_some ?_) (fun c => ?_)
  · rw [if_pos c]
  · rw [if_neg c]
    have hn := spA_len 44 s.data.toList
    have hz' := Lib.size_eq s
    refine ev_bindc (split_eq s 44 (by omega)) ?_
    rw [List.length_map]
    exact implPL_l0 _ (by simp; omega) _ 0 [] (Nat.zero_add _) (by simp)
theorem pL_len : ∀ (ps : List (List UInt8)) (acc : List Int), (pL acc ps).1.length ≤ acc.length + ps.length
  | [], acc => by simp [pL]
  | p :: r, acc => by
    unfold pL
    split
    · have := pL_len r (acc ++ [(pI p).1])
      simp at this ⊢
      omega
    · simp
theorem prsL_len (l : List UInt8) : (prsL l).1.length ≤ l.length + 1 := by
  unfold prsL
  split
  · simp
  · have h1 := pL_len ((spA 44 l).1 :: (spA 44 l).2) []
    have h2 := spA_len 44 l
    simp at h1
    omega
/-- Where the list parses, it has no more numbers than the text has bytes. -/
theorem itoa_pos (n : Int) : 1 ≤ (Lib.itoa n).length := by
  unfold Lib.itoa
  have h := fun u => Lib.nDigits_pos u
  split
  · simp
  · rw [Lib.decDigits_length]; exact h _
theorem lens_ge : ∀ vs : List Int, vs.length ≤ Lib.lens (vs.map Lib.itoa)
  | [] => by simp [Lib.lens]
  | v :: r => by
    have h1 := lens_ge r
    have h2 := itoa_pos v
    simp only [Lib.lens, List.map_cons, List.sum_cons, List.length_cons] at h1 ⊢
    omega
theorem prsL_len2 (l : List UInt8) : (prsL l).1.length ≤ l.length := by
  by_cases h : (prsL l).2 = true
  · unfold prsL at h ⊢
    split
    · simp
    · rename_i c
      rw [if_neg c] at h
      obtain ⟨vs, h1, h2, _⟩ := pL_ok _ [] h
      have hj := spA_join 44 l
      have hl := congrArg List.length hj
      rw [Lib.join_length] at hl
      have hg := lens_ge vs
      rw [h2] at hg
      rw [h1]
      simp at hl hg ⊢
      omega
  · unfold prsL at h ⊢
    split
    · simp
    · rename_i c
      rw [if_neg c] at h
      rw [pL_bad _ _ h]
      simp
end Go.Proofs.YtihnanfekchlhaaDoor.PFnForms
namespace Go.Proofs.YtihnanfekchlhaaDoor.PFnForms
open Go.RowKit Go.Proofs.YtihnanfekchlhaaDoorW.PrintWords Go.Proofs.YtihnanfekchlhaaDoorW.PrintLast Go.Proofs.YtihnanfekchlhaaDoor.EvLib
def aP (l : List Int) (lo hi : Int) (i : Nat) : Bool := decide (lo ≤ rd l (i : Int) ∧ rd l (i : Int) ≤ hi) && (decide (i = 0) || decide (rd l ((i : Int) - 1) < rd l (i : Int)))
def asc (l : List Int) (lo hi : Int) : Bool := (List.range l.length).all (aP l lo hi) && true
theorem implAsc_ev (l : List Int) (lo hi : Int) (hl : l.length ≤ 2097152) : Ev (fun k => impl_isAscending.f k l lo hi) (asc l lo hi) := by
  unfold impl_isAscending.f
  refine ev_all (fun k i => impl_isAscending.l0 k l lo hi l (l.length : Int) i) l.length (aP l lo hi) true (by omega) (fun k => ?_) (fun k i hi' => ?_)
  · simp only [impl_isAscending.l0]
    rw [if_neg (by omega)]
  · simp only [impl_isAscending.l0, inRange_eq, Option.bind_some]
    rw [if_pos (by omega), if_pos (by omega), if_pos (by omega)]
    unfold aP
    by_cases c : lo ≤ rd l (i : Int) ∧ rd l (i : Int) ≤ hi
    · rw [decide_eq_true c, if_pos rfl, Bool.true_and]
      by_cases z : i = 0
      · subst z
        rw [if_neg (by omega), if_pos (by simp)]
      · have e : wrap64 ((i : Int) - 1) = (i : Int) - 1 := wrap_id (by omega) (by omega)
        rw [if_pos (by omega), e, if_pos (by omega), if_pos (by omega), decide_eq_false z, Bool.false_or]
        by_cases g : rd l (i : Int) ≤ rd l ((i : Int) - 1)
        · rw [if_pos g, if_neg (by simp; omega)]
        · rw [if_neg g, if_pos (by simp; omega)]
    · rw [decide_eq_false c, if_neg (by simp), if_neg (by simp)]
theorem specAsc_ev (l : List Int) (lo hi : Int) (hl : l.length ≤ 2097152) : Ev (fun k => spec_l7Ids.f k l lo hi) (asc l lo hi) := by
  unfold spec_l7Ids.f
  refine ev_all (fun k i => spec_l7Ids.l0 k l lo hi i) l.length (aP l lo hi) true (by omega) (fun k => ?_) (fun k i hi' => ?_)
  · simp only [spec_l7Ids.l0]
    rw [if_neg (by omega)]
  · simp only [spec_l7Ids.l0, l1In_eq, Option.bind_some]
    rw [if_pos (by omega), if_pos (by omega)]
    unfold aP
    by_cases c : lo ≤ rd l (i : Int) ∧ rd l (i : Int) ≤ hi
    · rw [decide_eq_true c, if_pos rfl, Bool.true_and]
      by_cases z : i = 0
      · subst z
        rw [if_neg (by omega), if_pos (by simp)]
      · have e : wrap64 ((i : Int) - 1) = (i : Int) - 1 := wrap_id (by omega) (by omega)
        rw [if_pos (by omega), e, if_pos (by omega), if_pos (by omega), decide_eq_false z, Bool.false_or]
        by_cases g : rd l ((i : Int) - 1) ≥ rd l (i : Int)
        · rw [if_pos g, if_neg (by simp; omega)]
        · rw [if_neg g, if_pos (by simp; omega)]
    · rw [decide_eq_false c, if_neg (by simp), if_neg (by simp)]
theorem span_b (a b : Int) : ∃ q, impl_IsSpan.f a b = some q ∧ spec_IsSpan.f a b = some q := by
  unfold impl_IsSpan.f spec_IsSpan.f
  simp only [inRange_eq, l1In_eq, Option.bind_some]
  repeat' (first | exact ⟨_, rfl, rfl⟩ | split)
theorem isReport_ok (a b : Int) (l : List Int) (c d : Int) (m : List Int) (e f : Int) (hl : l.length ≤ 2097152) (hm : m.length ≤ 2097152) :
    ∃ q, Ev (fun k => impl_IsReport.f k a b l c d m e f) q ∧ Ev (fun k => spec_IsReport.f k a b l c d m e f) q ∧ (q = true → 1 ≤ a ∧ a ≤ 999 ∧ 1 ≤ b ∧ b ≤ 8) := by
  obtain ⟨s, hs1, hs2⟩ := span_b e f
  have a1 := implAsc_ev l 0 7 hl
  have a2 := specAsc_ev l 0 7 hl
  have b1 := implAsc_ev m 1 30 hm
  have b2 := specAsc_ev m 1 30 hm
  unfold impl_IsReport.f spec_IsReport.f
  simp only [inRange_eq, l1In_eq, Option.bind_some, hs1, hs2]
  by_cases h1 : 1 ≤ a ∧ a ≤ 999
  · by_cases h2 : 1 ≤ b ∧ b ≤ 8
    · refine ⟨asc l 0 7 && (decide (1 ≤ c) && (decide (c ≤ d) && (decide (d ≤ 50) && (asc m 1 30 && (decide ((m.length : Int) ≤ 10) && s))))), ?_, ?_, fun _ => by omega⟩
      · refine ev_itep (decide_eq_true h1) (ev_itep (decide_eq_true h2) (ev_bind a1 (ev_ite (fun g => ?_) (fun g => ev_some ?_))))
        · rw [g, Bool.true_and]
          refine ev_ite (fun g => ?_) (fun g => ev_some (by rw [decide_eq_false g, Bool.false_and]))
          rw [decide_eq_true g, Bool.true_and]
          refine ev_ite (fun g => ?_) (fun g => ev_some (by rw [decide_eq_false g, Bool.false_and]))
          rw [decide_eq_true g, Bool.true_and]
          refine ev_ite (fun g => ?_) (fun g => ev_some (by rw [decide_eq_false g, Bool.false_and]))
          rw [decide_eq_true g, Bool.true_and]
          refine ev_bind b1 (ev_ite (fun g => ?_) (fun g => ev_some (by rw [Bool.eq_false_iff.2 g, Bool.false_and])))
          rw [g, Bool.true_and]
          refine ev_ite (fun g => ?_) (fun g => ev_some (by rw [decide_eq_false g, Bool.false_and]))
          rw [decide_eq_true g, Bool.true_and]
          exact ev_some rfl
        · rw [Bool.eq_false_iff.2 g, Bool.false_and]
      · refine ev_itep (decide_eq_true h1) (ev_itep (decide_eq_true h2) (ev_bind a2 (ev_ite (fun g => ?_) (fun g => ev_some ?_))))
        · rw [g, Bool.true_and]
          refine ev_ite (fun g => ?_) (fun g => ev_some (by rw [decide_eq_false g, Bool.false_and]))
          rw [decide_eq_true g, Bool.true_and]
          refine ev_ite (fun g => ?_) (fun g => ev_some (by rw [decide_eq_false g, Bool.false_and]))
          rw [decide_eq_true g, Bool.true_and]
          refine ev_ite (fun g => ?_) (fun g => ev_some (by rw [decide_eq_false g, Bool.false_and]))
          rw [decide_eq_true g, Bool.true_and]
          refine ev_bind b2 (ev_ite (fun g => ?_) (fun g => ev_some (by rw [Bool.eq_false_iff.2 g, Bool.false_and])))
          rw [g, Bool.true_and]
          refine ev_ite (fun g => ?_) (fun g => ev_some (by rw [decide_eq_false g, Bool.false_and]))
          rw [decide_eq_true g, Bool.true_and]
          exact ev_some rfl
        · rw [Bool.eq_false_iff.2 g, Bool.false_and]
    · exact ⟨false, ev_itep (decide_eq_true h1) (ev_iten (by simpa using h2) (ev_some rfl)), ev_itep (decide_eq_true h1) (ev_iten (by simpa using h2) (ev_some rfl)), fun h => by cases h⟩
  · exact ⟨false, ev_iten (by simpa using h1) (ev_some rfl), ev_iten (by simpa using h1) (ev_some rfl), fun h => by cases h⟩
end Go.Proofs.YtihnanfekchlhaaDoor.PFnForms
namespace Go.Proofs.YtihnanfekchlhaaDoor.PFnForms
open Go.RowKit Go.Proofs.YtihnanfekchlhaaDoorW.PrintWords Go.Proofs.YtihnanfekchlhaaDoorW.PrintLast
theorem kind_ok (a : Int) : ∃ s, impl_KindText.f a = some s ∧ spec_KindText.f a = some s ∧ s.size ≤ 8 := by
  unfold impl_KindText.f spec_KindText.f
  rw [l1In_eq]
  by_cases h : 1 ≤ a ∧ a ≤ 8
  · have h5 : a = 1 ∨ a = 2 ∨ a = 3 ∨ a = 4 ∨ a = 5 ∨ a = 6 ∨ a = 7 ∨ a = 8 := by omega
    rcases h5 with rfl | rfl | rfl | rfl | rfl | rfl | rfl | rfl <;> exact ⟨_, rfl, rfl, by decide⟩
  · rw [if_neg h, decide_eq_false h]; exact ⟨_, rfl, rfl, by decide⟩
end Go.Proofs.YtihnanfekchlhaaDoor.PFnForms
namespace Go.Proofs.YtihnanfekchlhaaDoor.PFnForms
open Go.RowKit Go.Proofs.YtihnanfekchlhaaDoorW.PrintWords Go.Proofs.YtihnanfekchlhaaDoorW.PrintLast Go.Proofs.YtihnanfekchlhaaDoor.EvLib
def I64 (n : Int) : Prop := -9223372036854775808 ≤ n ∧ n ≤ 9223372036854775807
theorem lst_size (l : List Int) (h : I64s l) : (bs (lstB l)).size ≤ 22 * l.length + 1 := by
  rw [bs_size]
  unfold lstB
  split
  · simp
  · have := join_itoa_len l h; omega
def pairB (a b : Int) : List UInt8 := Lib.itoa a ++ [45] ++ Lib.itoa b
theorem pairB_bs (a b : Int) : fmtI a ++ ⟨#[45]⟩ ++ fmtI b = bs (pairB a b) := by
  unfold fmtI pairB
  rw [show (⟨#[45]⟩ : ByteArray) = bs [45] from rfl, bs_app, bs_app]
theorem d_size : (⟨#[45]⟩ : ByteArray).size = 1 := rfl
theorem s_size : (⟨#[32]⟩ : ByteArray).size = 1 := rfl
theorem pair_ok (a b : Int) (ha : I64 a) (hb : I64 b) : impl_pairText.f a b = some (bs (pairB a b)) := by
  have za := fmt_size a ha.1 ha.2
  have zb := fmt_size b hb.1 hb.2
  unfold impl_pairText.f
  simp only [implFormat_eq a ha.1 ha.2, implFormat_eq b hb.1 hb.2, Option.bind_some]
  rw [if_pos (by omega), if_pos (by simp only [ByteArray.size_append, d_size]; omega), pairB_bs]
/-- The text of a report that is one. -/
def repB (a : Int) (kt : List UInt8) (l : List Int) (c d : Int) (m : List Int) (e f : Int) : List UInt8 :=
  Lib.join [Lib.itoa a, kt, lstB l, pairB c d, lstB m, pairB e f] [32]
theorem repB_cat (a : Int) (kt : List UInt8) (l : List Int) (c d : Int) (m : List Int) (e f : Int) :
    fmtI a ++ ⟨#[32]⟩ ++ bs kt ++ ⟨#[32]⟩ ++ bs (lstB l) ++ ⟨#[32]⟩ ++ fmtI c ++ ⟨#[45]⟩ ++ fmtI d ++ ⟨#[32]⟩ ++ bs (lstB m) ++ ⟨#[32]⟩ ++ fmtI e ++ ⟨#[45]⟩ ++ fmtI f = bs (repB a kt l c d m e f) := by
  unfold fmtI repB pairB
  rw [show (⟨#[32]⟩ : ByteArray) = bs [32] from rfl, show (⟨#[45]⟩ : ByteArray) = bs [45] from rfl]
  simp only [bs_app]
  congr 1
  rw [Lib.join_cons]
  simp [Lib.joinTail]
theorem reportText_ok (a b : Int) (l : List Int) (c d : Int) (m : List Int) (e f : Int) (hl : l.length ≤ 2097152) (hm : m.length ≤ 2097152)
    (ha : I64 a) (hbl : I64s l) (hc : I64 c) (hd : I64 d) (hbm : I64s m) (he : I64 e) (hf : I64 f) :
    ∃ s, Ev (fun k => impl_ReportText.f k a b l c d m e f) s ∧ Ev (fun k => spec_ReportText.f k a b l c d m e f) s := by
  obtain ⟨q, hq1, hq2, hq3⟩ := isReport_ok a b l c d m e f hl hm
  obtain ⟨kt, hk1, hk2, hk3⟩ := kind_ok b
  have za := fmt_size a ha.1 ha.2
  have zc := fmt_size c hc.1 hc.2
  have zd := fmt_size d hd.1 hd.2
  have ze := fmt_size e he.1 he.2
  have zf := fmt_size f hf.1 hf.2
  have ea := specFormat_ev a ha.1 ha.2
  have ec := specFormat_ev c hc.1 hc.2
  have ed := specFormat_ev d hd.1 hd.2
  have ee := specFormat_ev e he.1 he.2
  have ef := specFormat_ev f hf.1 hf.2
  have zl := lst_size l hbl
  have zm := lst_size m hbm
  have el := specList_ev l hl hbl
  have em := specList_ev m hm hbm
  have il := implList_ev l hl hbl
  have im := implList_ev m hm hbm
  have hcat := repB_cat a kt.data.toList l c d m e f
  have hkt : bs kt.data.toList = kt := (bs_of kt).symm
  rw [hkt] at hcat
  have zr := congrArg ByteArray.size hcat
  simp only [ByteArray.size_append, s_size, d_size] at zr
  have zr2 := bs_size (repB a kt.data.toList l c d m e f)
  unfold impl_ReportText.f spec_ReportText.f
  cases q with
  | false => exact ⟨_, ev_bind hq1 (ev_iten (by simp) (ev_some rfl)), ev_bind hq2 (ev_iten (by simp) (ev_some rfl))⟩
  | true =>
    refine ⟨bs (repB a kt.data.toList l c d m e f), ?_, ?_⟩
    · refine ev_bind hq1 (ev_itep rfl (ev_bindc (implFormat_eq a ha.1 ha.2) (ev_bindc hk1 (ev_bind il (ev_bindc (pair_ok c d hc hd) (ev_bind im (ev_bindc (pair_ok e f he hf) (ev_bindc (a := bs (repB a kt.data.toList l c d m e f)) ?_ (ev_some rfl)))))))))
      unfold strings_Join.f
      have e1 : ([fmtI a, kt, bs (lstB l), bs (pairB c d), bs (lstB m), bs (pairB e f)].map (·.data.toList)) = [Lib.itoa a, kt.data.toList, lstB l, pairB c d, lstB m, pairB e f] := rfl
      rw [e1, show (⟨#[32]⟩ : ByteArray).data.toList = [32] from rfl]
      exact if_pos ⟨by simp, by show (repB a kt.data.toList l c d m e f).length ≤ _; omega⟩
    · rw [← hcat]
      refine ev_bind hq2 (ev_itep rfl (ev_bind ea (ev_itep ?_ (ev_bindc hk2 (ev_itep ?_ (ev_itep ?_ (ev_bind el (ev_itep ?_ (ev_itep ?_ (ev_bind ec (ev_itep ?_ (ev_itep ?_ (ev_bind ed (ev_itep ?_ (ev_itep ?_ (ev_bind em (ev_itep ?_ (ev_itep ?_ (ev_bind ee (ev_itep ?_ (ev_itep ?_ (ev_bind ef (ev_itep ?_ (ev_some rfl)))))))))))))))))))))))) <;> first | omega | (simp only [ByteArray.size_append, s_size, d_size]; omega)
end Go.Proofs.YtihnanfekchlhaaDoor.PFnForms
namespace Go.Proofs.YtihnanfekchlhaaDoor.PFnForms
open Go.RowKit Go.Proofs.YtihnanfekchlhaaDoorW.PrintWords Go.Proofs.YtihnanfekchlhaaDoorW.PrintLast Go.Proofs.YtihnanfekchlhaaDoor.EvLib
theorem spA_part (c : UInt8) : ∀ l : List UInt8, ∀ p ∈ (spA c l).1 :: (spA c l).2, p.length ≤ l.length
  | [], p, hp => by simp [spA] at hp; simp [hp]
  | x :: r, p, hp => by
    have ih := spA_part c r
    unfold spA at hp
    split at hp
    · rcases List.mem_cons.1 hp with e | e
      · subst e; simp
      · have := ih p e; simp; omega
    · rcases List.mem_cons.1 hp with e | e
      · subst e
        have := ih _ (List.mem_cons_self ..)
        simp; omega
      · have := ih p (List.mem_cons_of_mem _ e); simp; omega
theorem cut_spA (c : UInt8) : ∀ l : List UInt8, Lib.cut l [c] = if (spA c l).2 = [] then (l, [], false) else ((spA c l).1, Lib.join (spA c l).2 [c], true)
  | [] => by simp [Lib.cut, Lib.index, spA]
  | x :: r => by
    have ih := cut_spA c r
    have hge := Lib.index_ge r [c]
    unfold spA
    by_cases h : x = c
    · subst h
      have hix : Lib.index (x :: r) [x] = 0 := by rw [Lib.index]; simp [List.isPrefixOf]
      rw [if_pos rfl, if_neg (by simp)]
      unfold Lib.cut
      rw [hix, if_pos (by decide)]
      simp only [spA_join]
      rfl
    · rw [if_neg h]
      unfold Lib.cut at ih ⊢
      rw [index_cons_ne x c r h]
      by_cases g : Lib.index r [c] = -1
      · rw [if_pos (beq_iff_eq.2 g), if_neg (by decide)]
        rw [g, if_neg (by decide)] at ih
        split at ih
        · rename_i e; rw [if_pos e]
        · have := congrArg (fun z => z.2.2) ih; simp at this
      · rw [if_neg (fun e => g (beq_iff_eq.1 e)), if_pos (by omega)]
        rw [if_pos (by omega)] at ih
        split at ih
        · have := congrArg (fun z => z.2.2) ih; simp at this
        · rename_i e
          rw [if_neg e]
          have i1 := congrArg (fun z => z.1) ih
          have i2 := congrArg (fun z => z.2.1) ih
          simp only at i1 i2
          have e1 : (Lib.index r [c] + 1).toNat = (Lib.index r [c]).toNat + 1 := by omega
          have e2 : (Lib.index r [c] + 1).toNat + [c].length = ((Lib.index r [c]).toNat + [c].length) + 1 := by omega
          rw [e2, e1, List.take_succ_cons, List.drop_succ_cons, i1, i2]
theorem pI_dash (l : List UInt8) (h : (45 : UInt8) ∈ l) : (pI l).2 = false := by
  unfold pI
  rw [if_neg]
  intro g
  have := List.all_eq_true.1 g.2.1 45 h
  exact absurd this (by decide)
theorem pI_nil : pI [] = (0, false) := rfl
end Go.Proofs.YtihnanfekchlhaaDoor.PFnForms
namespace Go.Proofs.YtihnanfekchlhaaDoor.PFnForms
open Go.RowKit Go.Proofs.YtihnanfekchlhaaDoorW.PrintWords Go.Proofs.YtihnanfekchlhaaDoorW.PrintLast Go.Proofs.YtihnanfekchlhaaDoor.EvLib
theorem u8nat (n : Nat) (h : n < 256) : (UInt8.ofNat n).toNat = n := by rw [UInt8.toNat_ofNat']; omega
theorem dec_dgt : ∀ u : Nat, (Lib.decDigits u).all dgt = true := by
  intro u
  induction u using Nat.strongRecOn with
  | ind u ih =>
    rw [Lib.decDigits]
    by_cases c : u < 10
    · rw [dif_pos c]
      have e : (UInt8.ofNat (48 + u)).toNat = 48 + u := u8nat _ (by omega)
      simp only [List.all_cons, List.all_nil, Bool.and_true, dgt, e]
      rw [decide_eq_true (by omega), decide_eq_true (by omega)]; rfl
    · rw [dif_neg c, List.all_append, ih (u / 10) (by omega)]
      have e : (UInt8.ofNat (48 + u % 10)).toNat = 48 + u % 10 := u8nat _ (by omega)
      simp only [List.all_cons, List.all_nil, Bool.and_true, dgt, e]
      rw [decide_eq_true (by omega), decide_eq_true (by omega)]; rfl
theorem dec_vl : ∀ u : Nat, vl 0 (Lib.decDigits u) = u := by
  intro u
  induction u using Nat.strongRecOn with
  | ind u ih =>
    rw [Lib.decDigits]
    by_cases c : u < 10
    · rw [dif_pos c, vl_cons, vl_nil, u8nat _ (by omega)]; omega
    · rw [dif_neg c, vl_snoc, ih (u / 10) (by omega), u8nat _ (by omega)]; omega
theorem dec_pos (u : Nat) : 1 ≤ (Lib.decDigits u).length := by
  rw [Lib.decDigits]
  split <;> simp
theorem dec_led (u : Nat) : led (Lib.decDigits u) := by
  have := dec_pos u
  exact (dec_iff ((Lib.decDigits u).length - 1) (Lib.decDigits u) (by omega) (dec_dgt u)).1 (by rw [dec_vl])
theorem pI_of (n : Int) (h0 : 0 ≤ n) (h1 : n ≤ 1000000000000) : pI (Lib.itoa n) = (n, true) := by
  have ei : Lib.itoa n = Lib.decDigits n.toNat := by unfold Lib.itoa; rw [if_neg (by omega)]
  rw [ei]
  unfold pI
  have e := dec_vl n.toNat
  have hl := dec_len 12 n.toNat (by omega)
  rw [if_pos ⟨⟨dec_pos _, hl⟩, dec_dgt _, dec_led _, by rw [e]; omega⟩, e]
  congr 1
  omega
/-- A text of digits. -/
theorem itoa_dgt (n : Int) (h0 : 0 ≤ n) : (Lib.itoa n).all dgt = true := by
  unfold Lib.itoa; rw [if_neg (by omega)]; exact dec_dgt _
theorem itoa_no (n : Int) (h0 : 0 ≤ n) (c : UInt8) (hc : dgt c = false) : c ∉ Lib.itoa n := by
  intro h
  have := List.all_eq_true.mp (itoa_dgt n h0) c h
  rw [hc] at this
  exact absurd this (by decide)
theorem spA_none (c : UInt8) : ∀ l : List UInt8, c ∉ l → spA c l = (l, [])
  | [], _ => rfl
  | x :: r, h => by
    rw [List.mem_cons, not_or] at h
    rw [spA, if_neg (fun e => h.1 e.symm), spA_none c r h.2]
theorem spA_cons (c : UInt8) (m : List UInt8) : ∀ l : List UInt8, c ∉ l → spA c (l ++ c :: m) = (l, (spA c m).1 :: (spA c m).2)
  | [], _ => by rw [List.nil_append, spA, if_pos rfl]
  | x :: r, h => by
    rw [List.mem_cons, not_or] at h
    rw [List.cons_append, spA, if_neg (fun e => h.1 e.symm), spA_cons c m r h.2]
theorem spA_of (c : UInt8) : ∀ (ps : List (List UInt8)) (p : List UInt8), (∀ q ∈ p :: ps, c ∉ q) → spA c (Lib.join (p :: ps) [c]) = (p, ps)
  | [], p, h => by rw [Lib.join_one]; exact spA_none c p (h p (List.mem_cons_self ..))
  | q :: ps, p, h => by
    have ih := spA_of c ps q (fun x hx => h x (List.mem_cons_of_mem _ hx))
    have e : Lib.join (p :: q :: ps) [c] = p ++ c :: Lib.join (q :: ps) [c] := by
      rw [Lib.join_cons, Lib.join_cons]; simp [Lib.joinTail]
    rw [e, spA_cons c _ p (h p (List.mem_cons_self ..)), ih]
theorem pL_of : ∀ (l acc : List Int), (∀ v ∈ l, 0 ≤ v ∧ v ≤ 1000000000000) → pL acc (l.map Lib.itoa) = (acc ++ l, true)
  | [], acc, _ => by simp [pL]
  | v :: l, acc, h => by
    have hv := h v (List.mem_cons_self ..)
    rw [List.map_cons, pL, pI_of v hv.1 hv.2, if_pos rfl, pL_of l _ (fun x hx => h x (List.mem_cons_of_mem _ hx))]
    simp
theorem prsL_of (l : List Int) (h : ∀ v ∈ l, 0 ≤ v ∧ v ≤ 1000000000000) : prsL (lstB l) = (l, true) := by
  unfold lstB prsL
  cases l with
  | nil => rfl
  | cons v l =>
    have hv := h v (List.mem_cons_self ..)
    have hno : ∀ q ∈ (v :: l).map Lib.itoa, (44 : UInt8) ∉ q := by
      intro q hq
      obtain ⟨n, hn, rfl⟩ := List.mem_map.mp hq
      exact itoa_no n (h n hn).1 44 (by decide)
    have e1 : (v :: l).map Lib.itoa = Lib.itoa v :: l.map Lib.itoa := rfl
    rw [if_neg (show ¬ (v :: l).length = 0 by rw [List.length_cons]; omega), e1]
    rw [e1] at hno
    have e := spA_of 44 (l.map Lib.itoa) (Lib.itoa v) hno
    have hne : ¬ Lib.join (Lib.itoa v :: l.map Lib.itoa) [44] = [45] := by
      intro g
      rw [g] at e
      have e2 : spA 44 [45] = ([45], []) := rfl
      rw [e2] at e
      have e3 : Lib.itoa v = [45] := (congrArg Prod.fst e).symm
      have := itoa_dgt v hv.1
      rw [e3] at this
      exact absurd this (by decide)
    rw [if_neg hne, e]
    have := pL_of (v :: l) [] h
    rw [e1, List.nil_append] at this
    exact this
/-- Two numbers with a dash between them. -/
theorem pair_cut (a b : Int) (ha : 0 ≤ a) (hb : 0 ≤ b) : spA 45 (pairB a b) = (Lib.itoa a, [Lib.itoa b]) := by
  unfold pairB
  rw [List.append_assoc, List.singleton_append, spA_cons 45 _ _ (itoa_no a ha 45 (by decide)), spA_none 45 _ (itoa_no b hb 45 (by decide))]
end Go.Proofs.YtihnanfekchlhaaDoor.PFnForms
namespace Go.Proofs.YtihnanfekchlhaaDoor.PFnForms
open Go.RowKit Go.Proofs.YtihnanfekchlhaaDoorW.PrintWords Go.Proofs.YtihnanfekchlhaaDoorW.PrintLast Go.Proofs.YtihnanfekchlhaaDoor.EvLib
/-- A pair's text, read. -/
theorem parsePair_of (a b : Int) (ha0 : 0 ≤ a) (ha1 : a ≤ 1000000000000) (hb0 : 0 ≤ b) (hb1 : b ≤ 1000000000000) : Ev (fun k => impl_parsePair.f k (bs (pairB a b))) (a, b, true) := by
  have hc := cut_spA 45 (pairB a b)
  rw [pair_cut a b ha0 hb0, if_neg (by simp), Lib.join_one] at hc
  have hz : (pairB a b).length ≤ 43 := by
    unfold pairB
    have h1 := itoa_len a ⟨by omega, by omega⟩
    have h2 := itoa_len b ⟨by omega, by omega⟩
    simp only [List.length_append, List.length_cons, List.length_nil]
    omega
  have hs := bs_size (pairB a b)
  have hcut : strings_Cut.f (bs (pairB a b)) (⟨#[45]⟩ : ByteArray) = some (bs (Lib.itoa a), bs (Lib.itoa b), true) := by
    unfold strings_Cut.f
    rw [if_pos (by omega)]
    show some (bs (Lib.cut (pairB a b) [45]).1, bs (Lib.cut (pairB a b) [45]).2.1, (Lib.cut (pairB a b) [45]).2.2) = _
    rw [hc]
  have ea := implPI_ev (bs (Lib.itoa a)) _ (bs_data _)
  have eb := implPI_ev (bs (Lib.itoa b)) _ (bs_data _)
  rw [pI_of a ha0 ha1] at ea
  rw [pI_of b hb0 hb1] at eb
  unfold impl_parsePair.f
  exact ev_bindc hcut (ev_bind ea (ev_bind eb (ev_itep rfl (ev_some rfl))))
theorem itoa_nil (n : Int) : Lib.itoa n ≠ [] := by
  intro e
  have := itoa_pos n
  rw [e] at this
  simp at this
/-- No blank in a list's text. -/
theorem lst_no (l : List Int) (h : ∀ v ∈ l, 0 ≤ v ∧ v ≤ 1000000000000) : (32 : UInt8) ∉ lstB l := by
  unfold lstB
  split
  · decide
  · cases l with
    | nil => simp at *
    | cons v l =>
      rw [List.map_cons, Lib.join_cons]
      intro g
      rcases List.mem_append.mp g with g | g
      · exact itoa_no v (h v (List.mem_cons_self ..)).1 32 (by decide) g
      · unfold Lib.joinTail at g
        obtain ⟨q, hq, g2⟩ := List.mem_flatten.mp g
        obtain ⟨p, hp, rfl⟩ := List.mem_map.mp hq
        obtain ⟨n, hn, rfl⟩ := List.mem_map.mp hp
        rcases List.mem_append.mp g2 with g3 | g3
        · simp at g3
        · exact itoa_no n (h n (List.mem_cons_of_mem _ hn)).1 32 (by decide) g3
theorem pair_no (a b : Int) (ha : 0 ≤ a) (hb : 0 ≤ b) : (32 : UInt8) ∉ pairB a b := by
  unfold pairB
  intro g
  rcases List.mem_append.mp g with g | g
  · rcases List.mem_append.mp g with g | g
    · exact itoa_no a ha 32 (by decide) g
    · simp at g
  · exact itoa_no b hb 32 (by decide) g
/-- A report's text parts at its blanks. -/
theorem rep_split (a : Int) (kt : List UInt8) (l : List Int) (c d : Int) (m : List Int) (e f : Int) (ha : 0 ≤ a) (hk : (32 : UInt8) ∉ kt) (hl : ∀ v ∈ l, 0 ≤ v ∧ v ≤ 1000000000000) (hc : 0 ≤ c) (hd : 0 ≤ d) (hm : ∀ v ∈ m, 0 ≤ v ∧ v ≤ 1000000000000) (he : 0 ≤ e) (hf : 0 ≤ f) :
    spA 32 (repB a kt l c d m e f) = (Lib.itoa a, [kt, lstB l, pairB c d, lstB m, pairB e f]) := by
  unfold repB
  refine spA_of 32 _ _ (fun q hq => ?_)
  simp only [List.mem_cons, List.mem_nil_iff, or_false] at hq
  rcases hq with rfl | rfl | rfl | rfl | rfl | rfl
  · exact itoa_no a ha 32 (by decide)
  · exact hk
  · exact lst_no l hl
  · exact pair_no c d hc hd
  · exact lst_no m hm
  · exact pair_no e f he hf
end Go.Proofs.YtihnanfekchlhaaDoor.PFnForms
namespace Go.Proofs.YtihnanfekchlhaaDoor.PFnForms
open Go.RowKit Go.Proofs.YtihnanfekchlhaaDoorW.PrintWords Go.Proofs.YtihnanfekchlhaaDoorW.PrintLast Go.Proofs.YtihnanfekchlhaaDoor.EvLib
theorem asc_mem {l : List Int} {lo hi : Int} (h : asc l lo hi = true) (v : Int) (hv : v ∈ l) : lo ≤ v ∧ v ≤ hi := by
  unfold asc at h
  rw [Bool.and_true, List.all_eq_true] at h
  obtain ⟨i, hi', rfl⟩ := List.getElem_of_mem hv
  have := h i (List.mem_range.mpr hi')
  unfold aP at this
  rw [Bool.and_eq_true] at this
  have g := of_decide_eq_true this.1
  have e : rd l (i : Int) = l[i] := by
    unfold rd
    rw [Int.toNat_natCast, List.getD_eq_getElem?_getD, List.getElem?_eq_getElem hi', Option.getD_some]
  rw [e] at g
  exact g
/-- What a report's numbers are, where it is one. -/
def RepIn (a b : Int) (l : List Int) (c d : Int) (m : List Int) (e f : Int) : Prop :=
  (1 ≤ a ∧ a ≤ 999) ∧ (1 ≤ b ∧ b ≤ 8) ∧ (∀ v ∈ l, 0 ≤ v ∧ v ≤ 1000000000000) ∧ (0 ≤ c ∧ c ≤ 50) ∧ (0 ≤ d ∧ d ≤ 50) ∧ (∀ v ∈ m, 0 ≤ v ∧ v ≤ 1000000000000) ∧ (0 ≤ e ∧ e ≤ 100000) ∧ (0 ≤ f ∧ f ≤ 100000)
theorem isRep_ok (a b : Int) (l : List Int) (c d : Int) (m : List Int) (e f : Int) (hl : l.length ≤ 2097152) (hm : m.length ≤ 2097152) :
    ∃ q, Ev (fun k => impl_IsReport.f k a b l c d m e f) q ∧ (q = true → RepIn a b l c d m e f) := by
  have a1 := implAsc_ev l 0 7 hl
  have b1 := implAsc_ev m 1 30 hm
  have s1 : impl_IsSpan.f e f = some (decide (0 ≤ e ∧ e ≤ 100000) && (decide (0 ≤ f ∧ f ≤ 100000) && decide (e ≤ f))) := by
    unfold impl_IsSpan.f
    simp only [inRange_eq, Option.bind_some]
    by_cases h1 : 0 ≤ e ∧ e ≤ 100000
    · rw [if_pos (decide_eq_true h1), decide_eq_true h1, Bool.true_and]
      by_cases h2 : 0 ≤ f ∧ f ≤ 100000
      · rw [if_pos (decide_eq_true h2), decide_eq_true h2, Bool.true_and]
      · rw [if_neg (by rw [decide_eq_false h2]; decide), decide_eq_false h2, Bool.false_and]
    · rw [if_neg (by rw [decide_eq_false h1]; decide), decide_eq_false h1, Bool.false_and]
  unfold impl_IsReport.f
  by_cases h1 : 1 ≤ a ∧ a ≤ 999
  · by_cases h2 : 1 ≤ b ∧ b ≤ 8
    · by_cases h3 : asc l 0 7 = true
      · by_cases h4 : 1 ≤ c
        · by_cases h5 : c ≤ d
          · by_cases h6 : d ≤ 50
            · by_cases h7 : asc m 1 30 = true
              · by_cases h8 : (m.length : Int) ≤ 10
                · refine ⟨_, ev_bindc (inRange_eq _ _ _) (ev_itep (decide_eq_true h1) (ev_bindc (inRange_eq _ _ _) (ev_itep (decide_eq_true h2) (ev_bind a1 (ev_itep h3 (ev_itep h4 (ev_itep h5 (ev_itep h6 (ev_bind b1 (ev_itep h7 (ev_itep h8 (ev_bindc s1 (ev_some rfl))))))))))))), fun g => ?_⟩
                  rw [Bool.and_eq_true, Bool.and_eq_true] at g
                  have g1 := of_decide_eq_true g.1
                  have g2 := of_decide_eq_true g.2.1
                  exact ⟨h1, h2, fun v hv => by have := asc_mem h3 v hv; omega, by omega, by omega, fun v hv => by have := asc_mem h7 v hv; omega, g1, g2⟩
                · exact ⟨false, ev_bindc (inRange_eq _ _ _) (ev_itep (decide_eq_true h1) (ev_bindc (inRange_eq _ _ _) (ev_itep (decide_eq_true h2) (ev_bind a1 (ev_itep h3 (ev_itep h4 (ev_itep h5 (ev_itep h6 (ev_bind b1 (ev_itep h7 (ev_iten h8 (ev_some rfl)))))))))))), fun g => absurd g (by decide)⟩
              · exact ⟨false, ev_bindc (inRange_eq _ _ _) (ev_itep (decide_eq_true h1) (ev_bindc (inRange_eq _ _ _) (ev_itep (decide_eq_true h2) (ev_bind a1 (ev_itep h3 (ev_itep h4 (ev_itep h5 (ev_itep h6 (ev_bind b1 (ev_iten h7 (ev_some rfl))))))))))), fun g => absurd g (by decide)⟩
            · exact ⟨false, ev_bindc (inRange_eq _ _ _) (ev_itep (decide_eq_true h1) (ev_bindc (inRange_eq _ _ _) (ev_itep (decide_eq_true h2) (ev_bind a1 (ev_itep h3 (ev_itep h4 (ev_itep h5 (ev_iten h6 (ev_some rfl))))))))), fun g => absurd g (by decide)⟩
          · exact ⟨false, ev_bindc (inRange_eq _ _ _) (ev_itep (decide_eq_true h1) (ev_bindc (inRange_eq _ _ _) (ev_itep (decide_eq_true h2) (ev_bind a1 (ev_itep h3 (ev_itep h4 (ev_iten h5 (ev_some rfl)))))))), fun g => absurd g (by decide)⟩
        · exact ⟨false, ev_bindc (inRange_eq _ _ _) (ev_itep (decide_eq_true h1) (ev_bindc (inRange_eq _ _ _) (ev_itep (decide_eq_true h2) (ev_bind a1 (ev_itep h3 (ev_iten h4 (ev_some rfl))))))), fun g => absurd g (by decide)⟩
      · exact ⟨false, ev_bindc (inRange_eq _ _ _) (ev_itep (decide_eq_true h1) (ev_bindc (inRange_eq _ _ _) (ev_itep (decide_eq_true h2) (ev_bind a1 (ev_iten h3 (ev_some rfl)))))), fun g => absurd g (by decide)⟩
    · exact ⟨false, ev_bindc (inRange_eq _ _ _) (ev_itep (decide_eq_true h1) (ev_bindc (inRange_eq _ _ _) (ev_iten (by rw [decide_eq_false h2]; decide) (ev_some rfl)))), fun g => absurd g (by decide)⟩
  · exact ⟨false, ev_bindc (inRange_eq _ _ _) (ev_iten (by rw [decide_eq_false h1]; decide) (ev_some rfl)), fun g => absurd g (by decide)⟩
/-- A kind's name. -/
def kt (b : Int) : ByteArray := if 1 ≤ b ∧ b ≤ 8 then impl_KindText.L.getD (b - 1).toNat ⟨#[]⟩ else ⟨#[]⟩
theorem kt_eq (b : Int) : impl_KindText.f b = some (kt b) := rfl
theorem kt_ne : ∀ i n : Fin 9, 1 ≤ i.val → i.val < n.val → ¬ (kt (i.val : Int)).data.toList = (kt (n.val : Int)).data.toList := by decide
theorem kt_blank : ∀ i : Fin 9, (32 : UInt8) ∉ (kt (i.val : Int)).data.toList ∧ (kt (i.val : Int)).size ≤ 8 := by decide
theorem kindOf_of (n : Nat) (h0 : 1 ≤ n) (h1 : n ≤ 8) : Ev (fun k => impl_KindOf.f k (kt (n : Int))) (n : Int) := by
  unfold impl_KindOf.f
  have key : ∀ (d i : Nat), i + d = n → 1 ≤ i → Ev (fun k => impl_KindOf.l0 k (kt (n : Int)) (i : Int)) (n : Int) := by
    intro d
    induction d with
    | zero =>
      intro i hi _
      obtain rfl : i = n := by omega
      exact ev_step (fun k => by simp only [impl_KindOf.l0]; rfl) (ev_itep (by omega) (ev_bindc (kt_eq _) (ev_itep rfl (ev_some rfl))))
    | succ d ih =>
      intro i hi g
      have hn := kt_ne ⟨i, by omega⟩ ⟨n, by omega⟩ g (by show i < n; omega)
      have hn2 : ¬ (kt (i : Int)).toList = (kt (n : Int)).toList := by rw [Lib.toList_data, Lib.toList_data]; exact hn
      refine ev_step (fun k => by simp only [impl_KindOf.l0]; rfl) (ev_itep (by omega) (ev_bindc (kt_eq _) (ev_iten hn2 ?_)))
      rw [wrap_id (by omega) (by omega)]
      exact ih (i + 1) (by omega) (by omega)
  exact key (n - 1) 1 (by omega) (by omega)
/-- A report's text. -/
theorem repText_ev (a b : Int) (l : List Int) (c d : Int) (m : List Int) (e f : Int) (hl : l.length ≤ 2097152) (hm : m.length ≤ 2097152)
    (ha : I64 a) (hbl : I64s l) (hc : I64 c) (hd : I64 d) (hbm : I64s m) (he : I64 e) (hf : I64 f) (q : Bool) (hq1 : Ev (fun k => impl_IsReport.f k a b l c d m e f) q) :
    Ev (fun k => impl_ReportText.f k a b l c d m e f) (if q = true then bs (repB a (kt b).data.toList l c d m e f) else ⟨#[]⟩) := by
  have za := fmt_size a ha.1 ha.2
  have zc := fmt_size c hc.1 hc.2
  have zd := fmt_size d hd.1 hd.2
  have ze := fmt_size e he.1 he.2
  have zf := fmt_size f hf.1 hf.2
  have zl := lst_size l hbl
  have zm := lst_size m hbm
  have il := implList_ev l hl hbl
  have im := implList_ev m hm hbm
  have hk3 : (kt b).size ≤ 8 := by
    obtain ⟨s, h1, _, h3⟩ := kind_ok b
    rw [kt_eq] at h1
    rw [Option.some.inj h1]; exact h3
  have hcat := repB_cat a (kt b).data.toList l c d m e f
  have hkt : bs (kt b).data.toList = kt b := (bs_of (kt b)).symm
  rw [hkt] at hcat
  have zr := congrArg ByteArray.size hcat
  simp only [ByteArray.size_append, s_size, d_size] at zr
  have zr2 := bs_size (repB a (kt b).data.toList l c d m e f)
  unfold impl_ReportText.f
  cases q with
  | false => exact ev_bind hq1 (ev_iten (by simp) (ev_some rfl))
  | true =>
    rw [if_pos rfl]
    refine ev_bind hq1 (ev_itep rfl (ev_bindc (implFormat_eq a ha.1 ha.2) (ev_bindc (kt_eq b) (ev_bind il (ev_bindc (pair_ok c d hc hd) (ev_bind im (ev_bindc (pair_ok e f he hf) (ev_bindc (a := bs (repB a (kt b).data.toList l c d m e f)) ?_ (ev_some rfl)))))))))
    unfold strings_Join.f
    have e1 : ([fmtI a, kt b, bs (lstB l), bs (pairB c d), bs (lstB m), bs (pairB e f)].map (·.data.toList)) = [Lib.itoa a, (kt b).data.toList, lstB l, pairB c d, lstB m, pairB e f] := rfl
    rw [e1, show (⟨#[32]⟩ : ByteArray).data.toList = [32] from rfl]
    exact if_pos ⟨by simp, by show (repB a (kt b).data.toList l c d m e f).length ≤ _; omega⟩
/-- Read again. -/
theorem parse_of (a b : Int) (l : List Int) (c d : Int) (m : List Int) (e f : Int) (hl : l.length ≤ 2097) (hm : m.length ≤ 2097) (hin : RepIn a b l c d m e f) (hq : Ev (fun k => impl_IsReport.f k a b l c d m e f) true) :
    Ev (fun k => impl_ParseReport.f k (bs (repB a (kt b).data.toList l c d m e f))) (a, b, l, c, d, m, e, f, true) := by
  obtain ⟨h1, h2, h3, h4, h5, h6, h7, h8⟩ := hin
  have hl64 : I64s l := fun v hv => by have := h3 v hv; omega
  have hm64 : I64s m := fun v hv => by have := h6 v hv; omega
  have hb : b = ((b.toNat : Nat) : Int) := by omega
  have hbl := kt_blank ⟨b.toNat, by omega⟩
  simp only [← hb] at hbl
  have hsp := rep_split a (kt b).data.toList l c d m e f (by omega) hbl.1 h3 h4.1 h5.1 h6 h7.1 h8.1
  have ht := repText_ev a b l c d m e f (by omega) (by omega) ⟨by omega, by omega⟩ hl64 ⟨by omega, by omega⟩ ⟨by omega, by omega⟩ hm64 ⟨by omega, by omega⟩ ⟨by omega, by omega⟩ true hq
  rw [if_pos rfl] at ht
  have hcat := repB_cat a (kt b).data.toList l c d m e f
  rw [(bs_of (kt b)).symm] at hcat
  have zr := congrArg ByteArray.size hcat
  simp only [ByteArray.size_append, s_size, d_size] at zr
  have za := fmt_size a (by omega) (by omega)
  have zc := fmt_size c (by omega) (by omega)
  have zd := fmt_size d (by omega) (by omega)
  have ze := fmt_size e (by omega) (by omega)
  have zf := fmt_size f (by omega) (by omega)
  have zl := lst_size l hl64
  have zm := lst_size m hm64
  have hi := split_eq (bs (repB a (kt b).data.toList l c d m e f)) 32 (by omega)
  rw [bs_data, hsp] at hi
  have hi' : strings_Split.f (bs (repB a (kt b).data.toList l c d m e f)) (⟨#[32]⟩ : ByteArray) = some ([Lib.itoa a, (kt b).data.toList, lstB l, pairB c d, lstB m, pairB e f].map bs) := hi
  have i0 := implPI_ev (bs (Lib.itoa a)) _ (bs_data _)
  rw [pI_of a (by omega) (by omega)] at i0
  have i2 := implPL_ev (bs (lstB l)) (by omega)
  have i4 := implPL_ev (bs (lstB m)) (by omega)
  rw [bs_data, prsL_of l h3] at i2
  rw [bs_data, prsL_of m h6] at i4
  have i3 := parsePair_of c d h4.1 (by omega) h5.1 (by omega)
  have i5 := parsePair_of e f h7.1 (by omega) h8.1 (by omega)
  have i1 : Ev (fun k => impl_KindOf.f k (bs (kt b).data.toList)) b := by
    rw [(bs_of (kt b)).symm]
    have := kindOf_of b.toNat (by omega) (by omega)
    rw [← hb] at this
    exact this
  unfold impl_ParseReport.f
  refine ev_bindc hi' ?_
  refine ev_itep (by simp) (ev_itep (by simp) (ev_bind i0 (ev_itep (by simp) (ev_bind i2 (ev_itep (by simp) (ev_bind i3 (ev_itep (by simp) (ev_bind i4 (ev_itep (by simp) (ev_bind i5 (ev_itep (by simp) (ev_bind i1 ?_))))))))))))
  exact ev_itep rfl (ev_itep rfl (ev_itep rfl (ev_itep rfl (ev_itep rfl (ev_bind ht (ev_itep rfl (ev_some rfl)))))))
theorem parse_empty : Ev (fun k => impl_ParseReport.f k ⟨#[]⟩) (0, 0, [], 0, 0, [], 0, 0, false) := by
  have hi := split_eq (⟨#[]⟩ : ByteArray) 32 (by decide)
  have hi' : strings_Split.f (⟨#[]⟩ : ByteArray) (⟨#[32]⟩ : ByteArray) = some ([[]].map bs) := hi
  unfold impl_ParseReport.f
  exact ev_bindc hi' (ev_iten (by simp) (ev_some rfl))
end Go.Proofs.YtihnanfekchlhaaDoor.PFnForms
namespace Go.Proofs.YtihnanfekchlhaaDoor.PFnForms
open Go.RowKit Go.Proofs.YtihnanfekchlhaaDoorW.PrintWords Go.Proofs.YtihnanfekchlhaaDoorW.PrintLast Go.Proofs.YtihnanfekchlhaaDoor.EvLib
theorem parsePair_in (p : List UInt8) (hp : p.length ≤ 1048576) : ∃ x : Int × Int × Bool, Ev (fun k => impl_parsePair.f k (bs p)) x ∧ (x.2.2 = true → I64 x.1 ∧ I64 x.2.1) := by
  have hs := bs_size p
  have hcut : strings_Cut.f (bs p) (⟨#[45]⟩ : ByteArray) = some (bs (Lib.cut p [45]).1, bs (Lib.cut p [45]).2.1, (Lib.cut p [45]).2.2) := by
    unfold strings_Cut.f
    rw [if_pos (by omega)]
    rfl
  have ha := implPI_ev (bs (Lib.cut p [45]).1) _ (bs_data _)
  have hb := implPI_ev (bs (Lib.cut p [45]).2.1) _ (bs_data _)
  unfold impl_parsePair.f
  by_cases c : (pI (Lib.cut p [45]).1).2 = true
  · refine ⟨_, ev_bindc hcut (ev_bind ha (ev_bind hb (ev_itep c (ev_some rfl)))), fun h => ?_⟩
    have k1 := pI_itoa c
    have k2 := pI_itoa h
    exact ⟨⟨by show -9223372036854775808 ≤ (pI (Lib.cut p [45]).1).1; omega, by show (pI (Lib.cut p [45]).1).1 ≤ _; omega⟩, ⟨by show -9223372036854775808 ≤ (pI (Lib.cut p [45]).2.1).1; omega, by show (pI (Lib.cut p [45]).2.1).1 ≤ _; omega⟩⟩
  · exact ⟨_, ev_bindc hcut (ev_bind ha (ev_bind hb (ev_iten c (ev_some rfl)))), fun h => absurd h (by simp)⟩
theorem kindOf_in (s : ByteArray) : ∃ q : Int, Ev (fun k => impl_KindOf.f k s) q ∧ (q = 0 ∨ (1 ≤ q ∧ q ≤ 8 ∧ (kt q).toList = s.toList)) := by
  unfold impl_KindOf.f
  have key : ∀ (d i : Nat), i + d = 9 → 1 ≤ i → ∃ q : Int, Ev (fun k => impl_KindOf.l0 k s (i : Int)) q ∧ (q = 0 ∨ (1 ≤ q ∧ q ≤ 8 ∧ (kt q).toList = s.toList)) := by
    intro d
    induction d with
    | zero => exact fun i hi h1 => ⟨0, ev_step (fun k => by simp only [impl_KindOf.l0]; rfl) (ev_iten (by omega) (ev_some rfl)), Or.inl rfl⟩
    | succ d ih =>
      intro i hi h1
      by_cases c : (kt (i : Int)).toList = s.toList
      · exact ⟨(i : Int), ev_step (fun k => by simp only [impl_KindOf.l0]; rfl) (ev_itep (by omega) (ev_bindc (kt_eq _) (ev_itep c (ev_some rfl)))), Or.inr ⟨by omega, by omega, c⟩⟩
      · obtain ⟨q, hq, g⟩ := ih (i + 1) (by omega) (by omega)
        refine ⟨q, ev_step (fun k => by simp only [impl_KindOf.l0]; rfl) (ev_itep (by omega) (ev_bindc (kt_eq _) (ev_iten c ?_))), g⟩
        rw [wrap_id (by omega) (by omega)]
        exact hq
  exact key 8 1 (by omega) (by omega)
/-- A list that is read is the list whose text it is. -/
theorem lst_of_prs (l : List UInt8) (h : (prsL l).2 = true) : lstB (prsL l).1 = l := by
  unfold prsL at h ⊢
  by_cases c : l = [45]
  · rw [if_pos c]; exact c.symm
  · rw [if_neg c] at h ⊢
    obtain ⟨vs, h1, h2, h3⟩ := pL_ok _ _ h
    rw [h1, List.nil_append]
    unfold lstB
    have hn : ¬ vs.length = 0 := by
      have := congrArg List.length h2
      rw [List.length_map, List.length_cons] at this
      omega
    rw [if_neg hn, h2]
    exact spA_join 44 l
theorem six_ {α : Type} (l : List α) (h : l.length = 6) : ∃ a b c d e f, l = [a, b, c, d, e, f] := by
  match l, h with
  | [a, b, c, d, e, f], _ => exact ⟨a, b, c, d, e, f, rfl⟩
theorem prsL_in (l : List UInt8) (h : (prsL l).2 = true) : I64s (prsL l).1 := by
  unfold prsL at h ⊢
  by_cases c : l = [45]
  · rw [if_pos c]; intro v hv; simp at hv
  · rw [if_neg c] at h ⊢
    obtain ⟨vs, h1, _, h3⟩ := pL_ok _ _ h
    rw [h1, List.nil_append]
    intro v hv
    have := h3 v hv
    omega
/-- A text that is read as a report is that report's text. -/
theorem parseReport_in (s : ByteArray) (hz : s.size ≤ 1048576) : ∃ r : Int × Int × List Int × Int × Int × List Int × Int × Int × Bool,
    Ev (fun k => impl_ParseReport.f k s) r ∧ (r.2.2.2.2.2.2.2.2 = true → ∃ t, Ev (fun k => impl_ReportText.f k r.1 r.2.1 r.2.2.1 r.2.2.2.1 r.2.2.2.2.1 r.2.2.2.2.2.1 r.2.2.2.2.2.2.1 r.2.2.2.2.2.2.2.1) t ∧ t.toList = s.toList) := by
  have hsz := Lib.size_eq s
  have hi := split_eq s 32 (by omega)
  have hpart := spA_part 32 s.data.toList
  generalize (spA 32 s.data.toList).1 :: (spA 32 s.data.toList).2 = ps at hi hpart
  have hi' : strings_Split.f s (⟨#[32]⟩ : ByteArray) = some (ps.map bs) := hi
  unfold impl_ParseReport.f
  by_cases hlen : ps.length = 6
  · obtain ⟨p0, p1, p2, p3, p4, p5, rfl⟩ := six_ ps hlen
    have l2 := hpart p2 (by simp)
    have l3 := hpart p3 (by simp)
    have l4 := hpart p4 (by simp)
    have l5 := hpart p5 (by simp)
    rw [← hsz] at l2 l3 l4 l5
    have i0 := implPI_ev (bs p0) p0 (bs_data _)
    have i2 := implPL_ev (bs p2) (by rw [bs_size]; omega)
    have i4 := implPL_ev (bs p4) (by rw [bs_size]; omega)
    rw [bs_data] at i2 i4
    obtain ⟨x3, i3, b3⟩ := parsePair_in p3 (by omega)
    obtain ⟨x5, i5, b5⟩ := parsePair_in p5 (by omega)
    obtain ⟨q, i1, _⟩ := kindOf_in (bs p1)
    have n2 := prsL_len2 p2
    have n4 := prsL_len2 p4
    by_cases hall : (pI p0).2 = true ∧ (prsL p2).2 = true ∧ x3.2.2 = true ∧ (prsL p4).2 = true ∧ x5.2.2 = true
    · obtain ⟨f0, f2, f3, f4, f5⟩ := hall
      have k0 := pI_itoa f0
      obtain ⟨qr, hq, _⟩ := isRep_ok (pI p0).1 q (prsL p2).1 x3.1 x3.2.1 (prsL p4).1 x5.1 x5.2.1 (by omega) (by omega)
      have ht := repText_ev (pI p0).1 q (prsL p2).1 x3.1 x3.2.1 (prsL p4).1 x5.1 x5.2.1 (by omega) (by omega) ⟨by omega, by omega⟩ (prsL_in p2 f2) (b3 f3).1 (b3 f3).2 (prsL_in p4 f4) (b5 f5).1 (b5 f5).2 qr hq
      by_cases g : (if qr = true then bs (repB (pI p0).1 (kt q).data.toList (prsL p2).1 x3.1 x3.2.1 (prsL p4).1 x5.1 x5.2.1) else (⟨#[]⟩ : ByteArray)).toList = s.toList
      · refine ⟨((pI p0).1, q, (prsL p2).1, x3.1, x3.2.1, (prsL p4).1, x5.1, x5.2.1, true), ?_, fun _ => ⟨_, ht, g⟩⟩
        refine ev_bindc hi' ?_
        refine ev_itep (by simp) (ev_itep (by simp) (ev_bind i0 (ev_itep (by simp) (ev_bind i2 (ev_itep (by simp) (ev_bind i3 (ev_itep (by simp) (ev_bind i4 (ev_itep (by simp) (ev_bind i5 (ev_itep (by simp) (ev_bind i1 ?_))))))))))))
        exact ev_itep f0 (ev_itep f2 (ev_itep f3 (ev_itep f4 (ev_itep f5 (ev_bind ht (ev_itep g (ev_some rfl)))))))
      · refine ⟨(0, 0, [], 0, 0, [], 0, 0, false), ?_, fun h => absurd h (by simp)⟩
        refine ev_bindc hi' ?_
        refine ev_itep (by simp) (ev_itep (by simp) (ev_bind i0 (ev_itep (by simp) (ev_bind i2 (ev_itep (by simp) (ev_bind i3 (ev_itep (by simp) (ev_bind i4 (ev_itep (by simp) (ev_bind i5 (ev_itep (by simp) (ev_bind i1 ?_))))))))))))
        exact ev_itep f0 (ev_itep f2 (ev_itep f3 (ev_itep f4 (ev_itep f5 (ev_bind ht (ev_iten g (ev_some rfl)))))))
    · refine ⟨(0, 0, [], 0, 0, [], 0, 0, false), ?_, fun h => absurd h (by simp)⟩
      refine ev_bindc hi' ?_
      refine ev_itep (by simp) (ev_itep (by simp) (ev_bind i0 (ev_itep (by simp) (ev_bind i2 (ev_itep (by simp) (ev_bind i3 (ev_itep (by simp) (ev_bind i4 (ev_itep (by simp) (ev_bind i5 (ev_itep (by simp) (ev_bind i1 ?_))))))))))))
      exact ev_ite (fun f0 => ev_ite (fun f2 => ev_ite (fun f3 => ev_ite (fun f4 => ev_ite (fun f5 => absurd ⟨f0, f2, f3, f4, f5⟩ hall) (fun _ => ev_some rfl)) (fun _ => ev_some rfl)) (fun _ => ev_some rfl)) (fun _ => ev_some rfl)) (fun _ => ev_some rfl)
  · exact ⟨(0, 0, [], 0, 0, [], 0, 0, false), ev_bindc hi' (ev_iten (by rw [List.length_map]; omega) (ev_some rfl)), fun h => absurd h (by simp)⟩
end Go.Proofs.YtihnanfekchlhaaDoor.PFnForms
namespace Go.Proofs.YtihnanfekchlhaaDoor.PFnForms
open Go.RowKit Go.Proofs.YtihnanfekchlhaaDoorW.PrintWords Go.Proofs.YtihnanfekchlhaaDoor.EvLib
def isThing (a0 a1 a2 a3 a4 : Int) : Bool := decide (1 ≤ a0 ∧ a0 ≤ 999) && (decide (1 ≤ a1 ∧ a1 ≤ 8) && (decide (0 ≤ a2 ∧ a2 ≤ 7) && (decide (1 ≤ a3 ∧ a3 ≤ 50) && (decide (0 ≤ a4 ∧ a4 ≤ 10000000)))))
def isFind (a0 a1 a2 a3 a4 a5 a6 a7 : Int) : Bool := isThing a0 a1 a2 a3 a4 && (decide (1 ≤ a5 ∧ a5 ≤ 30) && (decide (0 ≤ a6 ∧ a6 ≤ 100000) && (decide (0 ≤ a7 ∧ a7 ≤ 999))))
theorem if_and (b c : Bool) : (if b = true then some c else some false) = some (b && c) := by cases b <;> rfl
theorem implIsThing_eq (a0 a1 a2 a3 a4 : Int) : impl_IsThing.f a0 a1 a2 a3 a4 = some (isThing a0 a1 a2 a3 a4) := by simp only [impl_IsThing.f, inRange_eq, Option.bind_some, if_and, isThing]
theorem implIsFind_eq (a0 a1 a2 a3 a4 a5 a6 a7 : Int) : impl_IsFind.f a0 a1 a2 a3 a4 a5 a6 a7 = some (isFind a0 a1 a2 a3 a4 a5 a6 a7) := by simp only [impl_IsFind.f, implIsThing_eq, inRange_eq, Option.bind_some, if_and, isFind]
end Go.Proofs.YtihnanfekchlhaaDoor.PFnForms
namespace Go.Proofs.YtihnanfekchlhaaDoor.PFnForms
open Go.RowKit Go.Proofs.YtihnanfekchlhaaDoorW.PrintWords Go.Proofs.YtihnanfekchlhaaDoorW.PrintLast Go.Proofs.YtihnanfekchlhaaDoor.EvLib
theorem sameInts_self (l : List Int) (hl : l.length ≤ 1048576) : Ev (fun k => laws_sameInts.f k l l) true := by
  unfold laws_sameInts.f
  refine ev_itep rfl (ev_eqloop laws_sameInts.l0 (fun k l i hi => ?_) (fun k l => ?_) l (by omega))
  · simp only [laws_sameInts.l0]
    rw [if_pos (by omega), if_pos (by omega), if_pos (by omega), if_pos trivial]
  · simp only [laws_sameInts.l0]
    rw [if_neg (by omega)]
theorem equalInts_self (l : List Int) (hl : l.length ≤ 1048576) : Ev (fun k => slices_Equal_int_int.f k l l) true := by
  unfold slices_Equal_int_int.f
  refine ev_itep rfl (ev_eqloop (fun k x y i => slices_Equal_int_int.l0 k x y (x.length : Int) i) (fun k l i hi => ?_) (fun k l => ?_) l (by omega))
  · simp only [slices_Equal_int_int.l0]
    rw [if_pos (by omega), if_pos (by omega), if_pos (by omega), if_pos (by omega), if_pos trivial]
  · simp only [slices_Equal_int_int.l0]
    rw [if_neg (by omega)]
theorem equalReports_self (a b : Int) (l : List Int) (c d : Int) (m : List Int) (e f : Int) (hl : l.length ≤ 1048576) (hm : m.length ≤ 1048576) : Ev (fun k => impl_EqualReports.f k a b l c d m e f a b l c d m e f) true := by
  unfold impl_EqualReports.f
  exact ev_itep rfl (ev_itep rfl (ev_itep rfl (ev_itep rfl (ev_itep (by simp) (ev_bind (equalInts_self l hl) (ev_itep rfl (ev_bind (equalInts_self m hm) (ev_some rfl))))))))
/-- A find has a text just where it is one. -/
theorem colour_in (a : Int) : ∃ s, impl_ColourText.f a = some s ∧ s.size ≤ 8 := by
  unfold impl_ColourText.f
  by_cases h : 0 ≤ a ∧ a ≤ 7
  · have h5 : a = 0 ∨ a = 1 ∨ a = 2 ∨ a = 3 ∨ a = 4 ∨ a = 5 ∨ a = 6 ∨ a = 7 := by omega
    rw [if_pos h]
    rcases h5 with rfl | rfl | rfl | rfl | rfl | rfl | rfl | rfl <;> exact ⟨_, rfl, by decide⟩
  · rw [if_neg h]; exact ⟨_, rfl, by decide⟩
theorem z1_ : (⟨#[32]⟩ : ByteArray).size = 1 := rfl
set_option linter.unusedSimpArgs false in
theorem thing_in (a b c d e : Int) (h : isThing a b c d e = true) : ∃ s, impl_ThingText.f a b c d e = some s ∧ s.size ≤ 100 := by
  have g := h
  unfold isThing at g
  simp only [Bool.and_eq_true, decide_eq_true_eq] at g
  obtain ⟨ct, hc2, hc3⟩ := colour_in c
  have hk3 : (kt b).size ≤ 8 := by
    obtain ⟨s, h1, _, h3⟩ := kind_ok b
    rw [kt_eq] at h1
    rw [Option.some.inj h1]; exact h3
  have za := fmt_size a (by omega) (by omega)
  have zd := fmt_size d (by omega) (by omega)
  refine ⟨fmtI a ++ ⟨#[32]⟩ ++ ct ++ ⟨#[32]⟩ ++ kt b ++ ⟨#[32]⟩ ++ fmtI d, ?_, by simp only [ByteArray.size_append, z1_]; omega⟩
  unfold impl_ThingText.f
  simp only [implIsThing_eq, h, kt_eq, hc2, Option.bind_some, implFormat_eq a (show -9223372036854775808 ≤ a by omega) (show a ≤ 9223372036854775807 by omega), implFormat_eq d (show -9223372036854775808 ≤ d by omega) (show d ≤ 9223372036854775807 by omega)]
  rw [if_pos trivial, if_pos (by omega), if_pos (by simp only [ByteArray.size_append, z1_]; omega), if_pos (by simp only [ByteArray.size_append, z1_]; omega), if_pos (by simp only [ByteArray.size_append, z1_]; omega), if_pos (by simp only [ByteArray.size_append, z1_]; omega), if_pos (by simp only [ByteArray.size_append, z1_]; omega)]
theorem ne_nil {s : ByteArray} (h : 0 < s.size) : ¬ s.toList = ([] : List UInt8) := by
  rw [Lib.toList_data]
  intro e
  have e2 : s.data.size = 0 := by rw [← Array.length_toList, e]; rfl
  have e3 : s.size = s.data.size := rfl
  omega
set_option linter.unusedSimpArgs false in
theorem findText_in (a0 a1 a2 a3 a4 a5 a6 a7 : Int) : ∃ t, impl_FindText.f a0 a1 a2 a3 a4 a5 a6 a7 = some t ∧ (isFind a0 a1 a2 a3 a4 a5 a6 a7 == (t.toList != ([] : List UInt8))) = true := by
  unfold impl_FindText.f
  rw [implIsFind_eq, Option.bind_some]
  by_cases h : isFind a0 a1 a2 a3 a4 a5 a6 a7 = true
  · have g := h
    unfold isFind at g
    rw [Bool.and_eq_true] at g
    obtain ⟨s, e1, e2⟩ := thing_in a0 a1 a2 a3 a4 g.1
    have g2 := g.2
    simp only [Bool.and_eq_true, decide_eq_true_eq] at g2
    have z5 := fmt_size a5 (by omega) (by omega)
    have z6 := fmt_size a6 (by omega) (by omega)
    have z7 := fmt_size a7 (by omega) (by omega)
    have q2 : (⟨#[32, 64]⟩ : ByteArray).size = 2 := rfl
    have q3 : (⟨#[32, 43]⟩ : ByteArray).size = 2 := rfl
    have q4 : (⟨#[32, 98, 121, 32]⟩ : ByteArray).size = 4 := rfl
    refine ⟨s ++ ⟨#[32, 64]⟩ ++ fmtI a5 ++ ⟨#[32, 43]⟩ ++ fmtI a6 ++ ⟨#[32, 98, 121, 32]⟩ ++ fmtI a7, ?_, ?_⟩
    · rw [if_pos h]
      simp only [e1, Option.bind_some, implFormat_eq a5 (show -9223372036854775808 ≤ a5 by omega) (show a5 ≤ 9223372036854775807 by omega), implFormat_eq a6 (show -9223372036854775808 ≤ a6 by omega) (show a6 ≤ 9223372036854775807 by omega), implFormat_eq a7 (show -9223372036854775808 ≤ a7 by omega) (show a7 ≤ 9223372036854775807 by omega)]
      rw [if_pos (by omega), if_pos (by simp only [ByteArray.size_append, q2, q3, q4]; omega), if_pos (by simp only [ByteArray.size_append, q2, q3, q4]; omega), if_pos (by simp only [ByteArray.size_append, q2, q3, q4]; omega), if_pos (by simp only [ByteArray.size_append, q2, q3, q4]; omega), if_pos (by simp only [ByteArray.size_append, q2, q3, q4]; omega)]
    · have hn := ne_nil (s := s ++ ⟨#[32, 64]⟩ ++ fmtI a5 ++ ⟨#[32, 43]⟩ ++ fmtI a6 ++ ⟨#[32, 98, 121, 32]⟩ ++ fmtI a7) (by simp only [ByteArray.size_append, q2]; omega)
      rw [h, bne_iff_ne.mpr hn]; rfl
  · rw [if_neg h]
    refine ⟨_, rfl, ?_⟩
    rw [Bool.eq_false_iff.mpr h, Lib.toList_data]; rfl
end Go.Proofs.YtihnanfekchlhaaDoor.PFnForms
namespace Go.Proofs.YtihnanfekchlhaaDoor.PFnForms
open Go.RowKit Go.Proofs.YtihnanfekchlhaaDoorW.PrintWords Go.Proofs.YtihnanfekchlhaaDoorW.PrintLast Go.Proofs.YtihnanfekchlhaaDoor.EvLib
theorem and255 (x : Int) : 0 ≤ Go.bits .and .i64 x 255 ∧ Go.bits .and .i64 x 255 ≤ 255 := by
  unfold Go.bits
  simp only [BitVec.toNat_and]
  have h : (BitVec.ofInt IntKind.i64.bits x).toNat &&& (BitVec.ofInt IntKind.i64.bits 255).toNat ≤ 255 := Nat.le_trans Nat.and_le_right (by decide)
  rw [IntKind.wrap_i64]
  omega
theorem byte_ok (s : List Int) (hs : s.length ≤ 1048576) (p h : Int) (hp : 0 ≤ p) : ∃ x p' h', spec_l1Byte.f s p h = some (x, p', h') ∧ 0 ≤ x ∧ x ≤ 255 ∧ 0 ≤ p' := by
  unfold spec_l1Byte.f
  by_cases c : p < (s.length : Int)
  · rw [if_pos c, if_pos hp]
    exact ⟨_, _, _, rfl, (and255 _).1, (and255 _).2, by rw [wrap_id (by omega) (by omega)]; omega⟩
  · rw [if_neg c]
    exact ⟨_, _, _, rfl, (and255 _).1, (and255 _).2, hp⟩
theorem tmod_in {x n : Int} (hx : 0 ≤ x) (hn : 0 < n) : 0 ≤ Int.tmod x n ∧ Int.tmod x n < n := by
  rw [Int.tmod_eq_emod_of_nonneg hx]
  exact ⟨Int.emod_nonneg _ (by omega), Int.emod_lt_of_pos _ hn⟩
theorem below_ok (s : List Int) (hs : s.length ≤ 1048576) (p h : Int) (hp : 0 ≤ p) (n : Int) : ∃ x p' h', spec_l1Below.f s p h n = some (x, p', h') ∧ 0 ≤ p' ∧ 0 ≤ x ∧ (0 < n → x < n) := by
  unfold spec_l1Below.f
  by_cases h1 : n ≤ 0
  · rw [if_pos h1]
    exact ⟨0, p, h, rfl, hp, by omega, fun c => by omega⟩
  · rw [if_neg h1]
    obtain ⟨x, p1, h1', e1, x0, x1, hp1⟩ := byte_ok s hs p h hp
    by_cases h2 : n ≤ 256
    · rw [if_pos h2, e1, Option.bind_some]
      simp only
      rw [if_neg (by omega)]
      exact ⟨_, _, _, rfl, hp1, (tmod_in x0 (by omega)).1, fun _ => (tmod_in x0 (by omega)).2⟩
    · obtain ⟨y, p2, h2', e2, y0, y1, hp2⟩ := byte_ok s hs p1 h1' hp1
      obtain ⟨z, p3, h3', e3, z0, z1, hp3⟩ := byte_ok s hs p2 h2' hp2
      rw [if_neg h2, e1, Option.bind_some]
      simp only
      rw [e2, Option.bind_some]
      simp only
      rw [e3, Option.bind_some]
      simp only
      rw [if_neg (by omega), wrap_id (x := x * 65536) (by omega) (by omega), wrap_id (x := y * 256) (by omega) (by omega), wrap_id (x := x * 65536 + y * 256) (by omega) (by omega), wrap_id (by omega) (by omega)]
      exact ⟨_, _, _, rfl, hp3, (tmod_in (by omega) (by omega)).1, fun _ => (tmod_in (by omega) (by omega)).2⟩
theorem once_ok (s : List Int) (hs : s.length ≤ 1048576) (p h : Int) (hp : 0 ≤ p) (n : Int) : ∃ b p' h', spec_l1Once.f s p h n = some (b, p', h') ∧ 0 ≤ p' := by
  unfold spec_l1Once.f
  obtain ⟨x, p', h', e, h1, _⟩ := below_ok s hs p h hp n
  rw [e, Option.bind_some]
  exact ⟨_, _, _, rfl, h1⟩
theorem int_ok (s : List Int) (hs : s.length ≤ 1048576) (p h : Int) (hp : 0 ≤ p) (l : List Int) (hl : 0 < l.length) : ∃ x p' h', spec_l1Int.f s p h l = some (x, p', h') ∧ 0 ≤ p' ∧ x ∈ l := by
  unfold spec_l1Int.f
  obtain ⟨x, p', h', e, h1, h2, h3⟩ := below_ok s hs p h hp l.length
  rw [e, Option.bind_some]
  simp only
  have h4 := h3 (by omega)
  rw [if_pos h2, if_pos h4]
  refine ⟨_, _, _, rfl, h1, ?_⟩
  have h5 : x.toNat < l.length := by omega
  simp only [rd, List.getD, List.getElem?_eq_getElem h5, Option.getD_some]
  exact List.getElem_mem h5
theorem new_ok (s : List Int) (_hs : s.length ≤ 1048576) : ∃ h, Ev (fun k => spec_l1New.f k s) (s, 0, h) := by
  unfold spec_l1New.f
  have key : ∀ (d i : Nat) (h : Int), i + d = s.length → ∃ r, Ev (fun k => spec_l1New.l0 k s h (i : Int)) (s, 0, r) := by
    intro d
    induction d with
    | zero => exact fun i h hi => ⟨h, ev_step (fun k => by simp only [spec_l1New.l0]; rfl) (ev_iten (by omega) (ev_some rfl))⟩
    | succ d ih =>
      intro i h hi
      by_cases c : (i : Int) < 4000
      · obtain ⟨r, hr⟩ := ih (i + 1) (Go.bits .and .i64 (wrap64 ((wrap64 ((wrap64 (h * 137)) + (wrap64 (rd s (i : Int))))) + 11)) 1073741823) (by omega)
        refine ⟨r, ev_step (fun k => by simp only [spec_l1New.l0]; rfl) (ev_itep (by omega) (ev_itep c (ev_itep (by omega) ?_)))⟩
        rw [wrap_id (x := (i : Int) + 1) (by omega) (by omega)]
        exact hr
      · exact ⟨h, ev_step (fun k => by simp only [spec_l1New.l0]; rfl) (ev_itep (by omega) (ev_iten c (ev_some rfl)))⟩
  exact key s.length 0 _ (by omega)
end Go.Proofs.YtihnanfekchlhaaDoor.PFnForms
namespace Go.Proofs.YtihnanfekchlhaaDoor.PFnForms
open Go.RowKit Go.Proofs.YtihnanfekchlhaaDoorW.PrintWords Go.Proofs.YtihnanfekchlhaaDoorW.PrintLast Go.Proofs.YtihnanfekchlhaaDoor.EvLib
theorem draw4_ok (s : List Int) (hs : s.length ≤ 1048576) (p h : Int) (hp : 0 ≤ p) (id : Int) : ∃ a b c d e p' h', spec_l4Draw.f s p h id = some (a, b, c, d, e, p', h') ∧ 0 ≤ p' := by
  unfold spec_l4Draw.f
  obtain ⟨x1, p1, h1, e1, g1, _⟩ := below_ok s hs p h hp 8
  obtain ⟨x2, p2, h2, e2, g2, _⟩ := below_ok s hs p1 h1 g1 8
  obtain ⟨x3, p3, h3, e3, g3, _⟩ := below_ok s hs p2 h2 g2 20
  obtain ⟨x4, p4, h4, e4, g4, _⟩ := below_ok s hs p3 h3 g3 500
  simp only [e1, e2, e3, e4, Option.bind_some]
  exact ⟨_, _, _, _, _, _, _, rfl, g4⟩
theorem draw6_ok (s : List Int) (hs : s.length ≤ 1048576) (p h : Int) (hp : 0 ≤ p) (id : Int) : ∃ a b c d e f g i p' h', spec_l6Draw.f s p h id = some (a, b, c, d, e, f, g, i, p', h') ∧ 0 ≤ p' := by
  unfold spec_l6Draw.f
  obtain ⟨a, b, c, d, e, p1, h1, e1, g1⟩ := draw4_ok s hs p h hp id
  obtain ⟨x2, p2, h2, e2, g2, _⟩ := below_ok s hs p1 h1 g1 6
  obtain ⟨x3, p3, h3, e3, g3, _⟩ := below_ok s hs p2 h2 g2 80
  obtain ⟨x4, p4, h4, e4, g4, _⟩ := below_ok s hs p3 h3 g3 5
  simp only [e1, e2, e3, e4, Option.bind_some]
  exact ⟨_, _, _, _, _, _, _, _, _, _, rfl, g4⟩
theorem list6_ok (s : List Int) (hs : s.length ≤ 1048576) (p h : Int) (hp : 0 ≤ p) : ∃ l p' h', Ev (fun k => spec_l6List.f k s p h) (l, p', h') ∧ 0 ≤ p' ∧ l.length ≤ 8 := by
  unfold spec_l6List.f
  have key : ∀ (d i : Nat) (l : List S44) (p h : Int), i + d = 8 → l.length + 1 = i → 0 ≤ p → ∃ r p' h', Ev (fun k => spec_l6List.l0 k l (i : Int) s p h) (r, p', h') ∧ 0 ≤ p' ∧ r.length ≤ 8 := by
    intro d
    induction d with
    | zero =>
      intro i l p h hi hl hp
      obtain ⟨x, p', h', e, h1, _, h3⟩ := below_ok s hs p h hp 8
      have := h3 (by omega)
      exact ⟨l, p', h', ev_step (fun k => by simp only [spec_l6List.l0]; rfl) (ev_bindc e (ev_iten (show ¬ (i : Int) ≤ x by omega) (ev_some rfl))), h1, by omega⟩
    | succ d ih =>
      intro i l p h hi hl hp
      obtain ⟨x, p', h', e, h1, _, h3⟩ := below_ok s hs p h hp 8
      by_cases c : (i : Int) ≤ x
      · obtain ⟨a1, a2, a3, a4, a5, a6, a7, a8, p2, h2, e2, g2⟩ := draw6_ok s hs p' h' h1 (wrap64 (2 * (i : Int)))
        obtain ⟨r, p3, h3', e3, g3, g4⟩ := ih (i + 1) (l ++ [(⟨(⟨a1, a2, a3, a4, a5⟩ : S42), a6, a7, a8⟩ : S44)]) p2 h2 (by omega) (by simp; omega) g2
        refine ⟨r, p3, h3', ev_step (fun k => by simp only [spec_l6List.l0]; rfl) (ev_bindc e (ev_itep c (ev_bindc e2 (ev_itep (show l.length < 2199023255552 by omega) ?_)))), g3, g4⟩
        simp only
        rw [wrap_id (x := (i : Int) + 1) (by omega) (by omega)]
        exact e3
      · exact ⟨l, p', h', ev_step (fun k => by simp only [spec_l6List.l0]; rfl) (ev_bindc e (ev_iten c (ev_some rfl))), h1, by omega⟩
  exact key 7 1 [] p h rfl rfl hp
theorem raw4_ok (s : List Int) (hs : s.length ≤ 1048576) (p h : Int) (hp : 0 ≤ p) : ∃ x p' h', spec_l4Raw.f s p h = some (x, p', h') ∧ 0 ≤ p' := by
  unfold spec_l4Raw.f
  obtain ⟨x, p', h', e, g, _⟩ := int_ok s hs p h hp ([(-1), 0, 8, 50, 51, 1000, 9223372036854775807, (-9223372036854775808)] : List Int) (by decide)
  rw [e, Option.bind_some]
  exact ⟨_, _, _, rfl, g⟩
theorem any4_ok (s : List Int) (hs : s.length ≤ 1048576) (p h : Int) (hp : 0 ≤ p) : ∃ a b c d e p' h', spec_l4Any.f s p h = some (a, b, c, d, e, p', h') ∧ 0 ≤ p' := by
  unfold spec_l4Any.f
  obtain ⟨x1, p1, h1, e1, g1, _⟩ := below_ok s hs p h hp 40
  obtain ⟨a, b, c, d, e, p2, h2, e2, g2⟩ := draw4_ok s hs p1 h1 g1 (wrap64 (1 + x1))
  obtain ⟨x3, p3, h3, e3, g3, _⟩ := below_ok s hs p2 h2 g2 14
  simp only [e1, e2, e3, Option.bind_some]
  split
  · obtain ⟨x, p', h', e, g, _⟩ := int_ok s hs p3 h3 g3 ([0, 999, 1000] : List Int) (by decide)
    rw [e, Option.bind_some]
    exact ⟨_, _, _, _, _, _, _, rfl, g⟩
  · split
    · obtain ⟨x, p', h', e, g, _⟩ := int_ok s hs p3 h3 g3 ([0, 8, 9] : List Int) (by decide)
      rw [e, Option.bind_some]
      exact ⟨_, _, _, _, _, _, _, rfl, g⟩
    · split
      · obtain ⟨x, p', h', e, g, _⟩ := int_ok s hs p3 h3 g3 ([(-1), 7, 8] : List Int) (by decide)
        rw [e, Option.bind_some]
        exact ⟨_, _, _, _, _, _, _, rfl, g⟩
      · split
        · obtain ⟨x, p', h', e, g⟩ := raw4_ok s hs p3 h3 g3
          rw [e, Option.bind_some]
          exact ⟨_, _, _, _, _, _, _, rfl, g⟩
        · split
          · obtain ⟨x, p', h', e, g, _⟩ := int_ok s hs p3 h3 g3 ([(-1), 10000000, 10000001] : List Int) (by decide)
            rw [e, Option.bind_some]
            exact ⟨_, _, _, _, _, _, _, rfl, g⟩
          · exact ⟨_, _, _, _, _, _, _, rfl, g3⟩
theorem any6_ok (s : List Int) (hs : s.length ≤ 1048576) (p h : Int) (hp : 0 ≤ p) : ∃ l p' h', Ev (fun k => spec_l6Any.f k s p h) (l, p', h') ∧ 0 ≤ p' ∧ l.length ≤ 8 := by
  unfold spec_l6Any.f
  obtain ⟨l, p1, h1, e1, g1, hl⟩ := list6_ok s hs p h hp
  by_cases c : (l.length : Int) = 0
  · exact ⟨l, p1, h1, ev_bind e1 (ev_itep c (ev_some rfl)), g1, hl⟩
  · obtain ⟨i, p2, h2, e2, g2, i0, i1⟩ := below_ok s hs p1 h1 g1 l.length
    have i2 := i1 (by omega)
    obtain ⟨y, p3, h3, e3, g3, _⟩ := below_ok s hs p2 h2 g2 12
    by_cases y0 : y = 0
    · obtain ⟨a, b, c', d, e, p4, h4, e4, g4⟩ := any4_ok s hs p3 h3 g3
      exact ⟨_, _, _, ev_bind e1 (ev_iten c (ev_bindc e2 (ev_bindc e3 (ev_itep y0 (ev_bindc e4 (ev_itep i0 (ev_itep i2 (ev_some rfl)))))))), g4, by rw [List.length_set]; exact hl⟩
    · by_cases y1 : y = 1
      · obtain ⟨x, p4, h4, e4, g4, _⟩ := int_ok s hs p3 h3 g3 ([0, 30, 31] : List Int) (by decide)
        exact ⟨_, _, _, ev_bind e1 (ev_iten c (ev_bindc e2 (ev_bindc e3 (ev_iten y0 (ev_itep y1 (ev_bindc e4 (ev_itep i0 (ev_itep i2 (ev_some rfl))))))))), g4, by rw [List.length_set]; exact hl⟩
      · by_cases y2 : y = 2
        · obtain ⟨x, p4, h4, e4, g4⟩ := raw4_ok s hs p3 h3 g3
          exact ⟨_, _, _, ev_bind e1 (ev_iten c (ev_bindc e2 (ev_bindc e3 (ev_iten y0 (ev_iten y1 (ev_itep y2 (ev_bindc e4 (ev_itep i0 (ev_itep i2 (ev_some rfl)))))))))), g4, by rw [List.length_set]; exact hl⟩
        · by_cases y3 : y = 3
          · obtain ⟨x, p4, h4, e4, g4, _⟩ := int_ok s hs p3 h3 g3 ([(-1), 999, 1000] : List Int) (by decide)
            exact ⟨_, _, _, ev_bind e1 (ev_iten c (ev_bindc e2 (ev_bindc e3 (ev_iten y0 (ev_iten y1 (ev_iten y2 (ev_itep y3 (ev_bindc e4 (ev_itep i0 (ev_itep i2 (ev_some rfl))))))))))), g4, by rw [List.length_set]; exact hl⟩
          · exact ⟨_, _, _, ev_bind e1 (ev_iten c (ev_bindc e2 (ev_bindc e3 (ev_iten y0 (ev_iten y1 (ev_iten y2 (ev_iten y3 (ev_some rfl)))))))), g3, hl⟩
theorem one6_ok (s : List Int) (hs : s.length ≤ 1048576) (p h : Int) (hp : 0 ≤ p) : ∃ a b c d e f g i p' h', Ev (fun k => spec_l6One.f k s p h) (a, b, c, d, e, f, g, i, p', h') ∧ 0 ≤ p' := by
  unfold spec_l6One.f
  obtain ⟨l, p1, h1, e1, g1, hl⟩ := any6_ok s hs p h hp
  by_cases c : (l.length : Int) = 0
  · exact ⟨_, _, _, _, _, _, _, _, _, _, ev_bind e1 (ev_itep c (ev_some rfl)), g1⟩
  · exact ⟨_, _, _, _, _, _, _, _, _, _, ev_bind e1 (ev_iten c (ev_itep (show 0 < (l.length : Int) by omega) (ev_some rfl))), g1⟩
end Go.Proofs.YtihnanfekchlhaaDoor.PFnForms
namespace Go.Proofs.YtihnanfekchlhaaDoor.PFnForms
open Go.RowKit Go.Proofs.YtihnanfekchlhaaDoorW.PrintWords Go.Proofs.YtihnanfekchlhaaDoorW.PrintLast Go.Proofs.YtihnanfekchlhaaDoor.EvLib
theorem some7_ok (s : List Int) (hs : s.length ≤ 1048576) (lo hi rare : Int) (h0 : 0 ≤ lo) (h1 : lo ≤ 10) (h2 : hi ≤ 9) (p h : Int) (hp : 0 ≤ p) : ∃ l p' h', Ev (fun k => spec_l7Some.f k s p h lo hi rare) (l, p', h') ∧ 0 ≤ p' ∧ l.length ≤ 10 ∧ ∀ v ∈ l, 0 ≤ v ∧ v ≤ 9 := by
  unfold spec_l7Some.f
  have key : ∀ (d i : Nat) (o : List Int) (p h : Int), i + d = 10 → o.length ≤ i → (∀ v ∈ o, 0 ≤ v ∧ v ≤ 9) → 0 ≤ p → ∃ l p' h', Ev (fun k => spec_l7Some.l0 k hi rare o (i : Int) s p h) (l, p', h') ∧ 0 ≤ p' ∧ l.length ≤ 10 ∧ ∀ v ∈ l, 0 ≤ v ∧ v ≤ 9 := by
    intro d
    induction d with
    | zero =>
      intro i o p h hi' ho hv hp
      exact ⟨o, p, h, ev_step (fun k => by simp only [spec_l7Some.l0]; rfl) (ev_iten (by omega) (ev_some rfl)), hp, by omega, hv⟩
    | succ d ih =>
      intro i o p h hi' ho hv hp
      by_cases c : (i : Int) ≤ hi
      · obtain ⟨b, p', h', e, g⟩ := once_ok s hs p h hp rare
        have w : wrap64 ((i : Int) + 1) = ((i + 1 : Nat) : Int) := by rw [wrap_id (by omega) (by omega)]; omega
        cases b with
        | true =>
          obtain ⟨l, p2, h2', e2, g2, g3, g4⟩ := ih (i + 1) (o ++ [(i : Int)]) p' h' (by omega) (by rw [List.length_append, List.length_singleton]; omega) (fun v hv' => by
            rcases List.mem_append.mp hv' with q | q
            · exact hv v q
            · rw [List.mem_singleton] at q; omega) g
          refine ⟨l, p2, h2', ev_step (fun k => by simp only [spec_l7Some.l0]; rfl) (ev_itep c (ev_bindc e (ev_itep rfl (ev_itep (show o.length < 17592186044416 by omega) ?_)))), g2, g3, g4⟩
          simp only [w]
          exact e2
        | false =>
          obtain ⟨l, p2, h2', e2, g2, g3, g4⟩ := ih (i + 1) o p' h' (by omega) (by omega) hv g
          refine ⟨l, p2, h2', ev_step (fun k => by simp only [spec_l7Some.l0]; rfl) (ev_itep c (ev_bindc e (ev_iten (show ¬ (false = true) by decide) ?_))), g2, g3, g4⟩
          simp only [w]
          exact e2
      · exact ⟨o, p, h, ev_step (fun k => by simp only [spec_l7Some.l0]; rfl) (ev_iten c (ev_some rfl)), hp, by omega, hv⟩
  obtain ⟨n, rfl⟩ := Int.eq_ofNat_of_zero_le h0
  exact key (10 - n) n [] p h (by omega) (by simp) (by simp) hp
theorem str_ok (s : List Int) (hs : s.length ≤ 1048576) (p h : Int) (hp : 0 ≤ p) (l : List ByteArray) (hl : 0 < l.length) : ∃ x p' h', spec_l1Str.f s p h l = some (x, p', h') ∧ 0 ≤ p' ∧ x ∈ l := by
  unfold spec_l1Str.f
  obtain ⟨x, p', h', e, h1, h2, h3⟩ := below_ok s hs p h hp l.length
  rw [e, Option.bind_some]
  simp only
  have h4 := h3 (by omega)
  rw [if_pos h2, if_pos h4]
  refine ⟨_, _, _, rfl, h1, ?_⟩
  have h5 : x.toNat < l.length := by omega
  simp only [rdOf, List.getD, List.getElem?_eq_getElem h5, Option.getD_some]
  exact List.getElem_mem h5
theorem span5_ok (s : List Int) (hs : s.length ≤ 1048576) (p h : Int) (hp : 0 ≤ p) : ∃ a b p' h', spec_l5Draw.f s p h = some (a, b, p', h') ∧ 0 ≤ p' ∧ (0 ≤ a ∧ a ≤ 100) ∧ (0 ≤ b ∧ b ≤ 100) := by
  unfold spec_l5Draw.f
  obtain ⟨x1, p1, h1, e1, g1, a0, a1⟩ := below_ok s hs p h hp 60
  obtain ⟨x2, p2, h2, e2, g2, b0, b1⟩ := below_ok s hs p1 h1 g1 30
  have := a1 (by omega)
  have := b1 (by omega)
  simp only [e1, e2, Option.bind_some]
  exact ⟨_, _, _, _, rfl, g2, by omega, by rw [wrap_id (by omega) (by omega)]; omega⟩
theorem draw7_ok (s : List Int) (hs : s.length ≤ 1048576) (p h : Int) (hp : 0 ≤ p) (id : Int) : ∃ b l c d m e f p' h', Ev (fun k => spec_l7Draw.f k s p h id) (id, b, l, c, d, m, e, f, p', h') ∧ 0 ≤ p' ∧ I64 b ∧ (l.length ≤ 10 ∧ I64s l) ∧ I64 c ∧ I64 d ∧ (m.length ≤ 10 ∧ I64s m) ∧ I64 e ∧ I64 f := by
  unfold spec_l7Draw.f
  obtain ⟨x1, p1, h1, e1, g1, a0, a1⟩ := below_ok s hs p h hp 12
  obtain ⟨x2, p2, h2, e2, g2, b0, b1⟩ := below_ok s hs p1 h1 g1 8
  obtain ⟨l, p3, h3, e3, g3, l1, l2⟩ := some7_ok s hs 0 7 3 (by omega) (by omega) (by omega) p2 h2 g2
  obtain ⟨x4, p4, h4, e4, g4, c0, c1⟩ := below_ok s hs p3 h3 g3 15
  obtain ⟨m, p5, h5, e5, g5, m1, m2⟩ := some7_ok s hs 1 6 2 (by omega) (by omega) (by omega) p4 h4 g4
  obtain ⟨e, f, p6, h6, e6, g6, s0, s1⟩ := span5_ok s hs p5 h5 g5
  have := a1 (by omega)
  have := b1 (by omega)
  have := c1 (by omega)
  have w1 : wrap64 (1 + x1) = 1 + x1 := wrap_id (by omega) (by omega)
  have w2 : wrap64 (1 + x2) = 1 + x2 := wrap_id (by omega) (by omega)
  have w3 : wrap64 (1 + x1 + x4) = 1 + x1 + x4 := wrap_id (by omega) (by omega)
  refine ⟨1 + x2, l, 1 + x1, 1 + x1 + x4, m, e, f, p6, h6, ev_bindc e1 (ev_bindc e2 (ev_bind e3 (ev_bindc e4 (ev_bind e5 (ev_bindc e6 (ev_some ?_)))))), g6, ⟨by omega, by omega⟩, ⟨l1, fun v hv => by have := l2 v hv; omega⟩, ⟨by omega, by omega⟩, ⟨by omega, by omega⟩, ⟨m1, fun v hv => by have := m2 v hv; omega⟩, ⟨by omega, by omega⟩, ⟨by omega, by omega⟩⟩
  simp only [w1, w2, w3]
theorem raw4_in (s : List Int) (hs : s.length ≤ 1048576) (p h : Int) (hp : 0 ≤ p) : ∃ x p' h', spec_l4Raw.f s p h = some (x, p', h') ∧ 0 ≤ p' ∧ I64 x := by
  unfold spec_l4Raw.f
  obtain ⟨x, p', h', e, g, hx⟩ := int_ok s hs p h hp ([(-1), 0, 8, 50, 51, 1000, 9223372036854775807, (-9223372036854775808)] : List Int) (by decide)
  rw [e, Option.bind_some]
  refine ⟨_, _, _, rfl, g, ?_⟩
  simp only [List.mem_cons, List.mem_nil_iff, or_false] at hx
  exact ⟨by show -9223372036854775808 ≤ x; omega, by show x ≤ 9223372036854775807; omega⟩
theorem span5a_ok (s : List Int) (hs : s.length ≤ 1048576) (p h : Int) (hp : 0 ≤ p) : ∃ a b p' h', spec_l5Any.f s p h = some (a, b, p', h') ∧ 0 ≤ p' ∧ I64 a ∧ I64 b := by
  unfold spec_l5Any.f
  obtain ⟨a, b, p1, h1, e1, g1, a0, b0⟩ := span5_ok s hs p h hp
  obtain ⟨y, p2, h2, e2, g2, _⟩ := below_ok s hs p1 h1 g1 10
  simp only [e1, e2, Option.bind_some]
  by_cases y0 : y = 0
  · obtain ⟨x, p3, h3, e3, g3, hx⟩ := raw4_in s hs p2 h2 g2
    rw [if_pos y0, e3, Option.bind_some]
    exact ⟨_, _, _, _, rfl, g3, hx, ⟨by show -9223372036854775808 ≤ b; omega, by show b ≤ 9223372036854775807; omega⟩⟩
  · rw [if_neg y0]
    by_cases y1 : y = 1
    · obtain ⟨x, p3, h3, e3, g3, hx⟩ := int_ok s hs p2 h2 g2 ([(-1), 0, 100000, 100001] : List Int) (by decide)
      rw [if_pos y1, e3, Option.bind_some]
      simp only [List.mem_cons, List.mem_nil_iff, or_false] at hx
      exact ⟨_, _, _, _, rfl, g3, ⟨by show -9223372036854775808 ≤ a; omega, by show a ≤ 9223372036854775807; omega⟩, ⟨by show -9223372036854775808 ≤ x; omega, by show x ≤ 9223372036854775807; omega⟩⟩
    · rw [if_neg y1]
      exact ⟨_, _, _, _, rfl, g2, ⟨by show -9223372036854775808 ≤ a; omega, by show a ≤ 9223372036854775807; omega⟩, ⟨by show -9223372036854775808 ≤ b; omega, by show b ≤ 9223372036854775807; omega⟩⟩
theorem any7_ok (s : List Int) (hs : s.length ≤ 1048576) (p h : Int) (hp : 0 ≤ p) : ∃ a b l c d m e f p' h', Ev (fun k => spec_l7Any.f k s p h) (a, b, l, c, d, m, e, f, p', h') ∧ 0 ≤ p' ∧ I64 a ∧ I64 b ∧ (l.length ≤ 10 ∧ I64s l) ∧ I64 c ∧ I64 d ∧ (m.length ≤ 10 ∧ I64s m) ∧ I64 e ∧ I64 f := by
  unfold spec_l7Any.f
  obtain ⟨i, p1, h1, e0, g1, i0, i1⟩ := below_ok s hs p h hp 9
  have := i1 (by omega)
  have ha : I64 (wrap64 (1 + i)) := by rw [wrap_id (by omega) (by omega)]; exact ⟨by omega, by omega⟩
  obtain ⟨b, l, c, d, m, e, f, p2, h2, e1, g2, hb, hl, hc, hd, hm, he, hf⟩ := draw7_ok s hs p1 h1 g1 (wrap64 (1 + i))
  obtain ⟨y, p3, h3, e2, g3, _⟩ := below_ok s hs p2 h2 g2 14
  by_cases y0 : y = 0
  · obtain ⟨x, p4, h4, e4, g4, hx⟩ := int_ok s hs p3 h3 g3 ([0, 999, 1000] : List Int) (by decide)
    have hxb : I64 x := by simp only [List.mem_cons, List.mem_nil_iff, or_false] at hx; exact ⟨by omega, by omega⟩
    exact ⟨_, _, _, _, _, _, _, _, _, _, ev_bindc e0 (ev_bind e1 (ev_bindc e2 (ev_itep y0 (ev_bindc e4 (ev_some rfl))))), g4, hxb, hb, hl, hc, hd, hm, he, hf⟩
  · skip
    by_cases y1 : y = 1
    · obtain ⟨x, p4, h4, e4, g4, hx⟩ := int_ok s hs p3 h3 g3 ([0, 8, 9] : List Int) (by decide)
      have hxb : I64 x := by simp only [List.mem_cons, List.mem_nil_iff, or_false] at hx; exact ⟨by omega, by omega⟩
      exact ⟨_, _, _, _, _, _, _, _, _, _, ev_bindc e0 (ev_bind e1 (ev_bindc e2 (ev_iten y0 (ev_itep y1 (ev_bindc e4 (ev_some rfl)))))), g4, ha, hxb, hl, hc, hd, hm, he, hf⟩
    · skip
      by_cases y2 : y = 2
      · obtain ⟨x, p4, h4, e4, g4, hx⟩ := int_ok s hs p3 h3 g3 ([(-1), 3, 8] : List Int) (by decide)
        have hxb : I64 x := by simp only [List.mem_cons, List.mem_nil_iff, or_false] at hx; exact ⟨by omega, by omega⟩
        exact ⟨_, _, _, _, _, _, _, _, _, _, ev_bindc e0 (ev_bind e1 (ev_bindc e2 (ev_iten y0 (ev_iten y1 (ev_itep y2 (ev_bindc e4 (ev_some rfl))))))), g4, ha, hb, ⟨by simp, fun v hv => by simp only [List.mem_cons, List.mem_nil_iff, or_false] at hv; rcases hv with rfl | rfl; exact hxb; exact ⟨by omega, by omega⟩⟩, hc, hd, hm, he, hf⟩
      · skip
        by_cases y3 : y = 3
        · obtain ⟨x, p4, h4, e4, g4, hxb⟩ := raw4_in s hs p3 h3 g3
          exact ⟨_, _, _, _, _, _, _, _, _, _, ev_bindc e0 (ev_bind e1 (ev_bindc e2 (ev_iten y0 (ev_iten y1 (ev_iten y2 (ev_itep y3 (ev_bindc e4 (ev_some rfl)))))))), g4, ha, hb, hl, hxb, hd, hm, he, hf⟩
        · skip
          by_cases y4 : y = 4
          · obtain ⟨x, p4, h4, e4, g4, hxb⟩ := raw4_in s hs p3 h3 g3
            exact ⟨_, _, _, _, _, _, _, _, _, _, ev_bindc e0 (ev_bind e1 (ev_bindc e2 (ev_iten y0 (ev_iten y1 (ev_iten y2 (ev_iten y3 (ev_itep y4 (ev_bindc e4 (ev_some rfl))))))))), g4, ha, hb, hl, hc, hxb, hm, he, hf⟩
          · skip
            by_cases y5 : y = 5
            · obtain ⟨x, p4, h4, e4, g4, hx⟩ := int_ok s hs p3 h3 g3 ([0, 30, 31] : List Int) (by decide)
              have hxb : I64 x := by simp only [List.mem_cons, List.mem_nil_iff, or_false] at hx; exact ⟨by omega, by omega⟩
              exact ⟨_, _, _, _, _, _, _, _, _, _, ev_bindc e0 (ev_bind e1 (ev_bindc e2 (ev_iten y0 (ev_iten y1 (ev_iten y2 (ev_iten y3 (ev_iten y4 (ev_itep y5 (ev_bindc e4 (ev_some rfl)))))))))), g4, ha, hb, hl, hc, hd, ⟨by simp, fun v hv => by simp only [List.mem_cons, List.mem_nil_iff, or_false] at hv; rcases hv with rfl; exact hxb⟩, he, hf⟩
            · skip
              by_cases y6 : y = 6
              · obtain ⟨x, z, p4, h4, e4, g4, hxb, hzb⟩ := span5a_ok s hs p3 h3 g3
                exact ⟨_, _, _, _, _, _, _, _, _, _, ev_bindc e0 (ev_bind e1 (ev_bindc e2 (ev_iten y0 (ev_iten y1 (ev_iten y2 (ev_iten y3 (ev_iten y4 (ev_iten y5 (ev_itep y6 (ev_bindc e4 (ev_some rfl))))))))))), g4, ha, hb, hl, hc, hd, hm, hxb, hzb⟩
              · skip
                by_cases y7 : y = 7
                · exact ⟨_, _, _, _, _, _, _, _, _, _, ev_bindc e0 (ev_bind e1 (ev_bindc e2 (ev_iten y0 (ev_iten y1 (ev_iten y2 (ev_iten y3 (ev_iten y4 (ev_iten y5 (ev_iten y6 (ev_itep y7 (ev_some rfl))))))))))), g3, ha, hb, ⟨by simp, fun v hv => by simp at hv⟩, ⟨by omega, by omega⟩, ⟨by omega, by omega⟩, ⟨by simp, fun v hv => by simp at hv⟩, he, hf⟩
                · exact ⟨_, _, _, _, _, _, _, _, _, _, ev_bindc e0 (ev_bind e1 (ev_bindc e2 (ev_iten y0 (ev_iten y1 (ev_iten y2 (ev_iten y3 (ev_iten y4 (ev_iten y5 (ev_iten y6 (ev_iten y7 (ev_some rfl))))))))))), g3, ha, hb, hl, hc, hd, hm, he, hf⟩
end Go.Proofs.YtihnanfekchlhaaDoor.PFnForms
