/- FormatInt of the reference: decimal numerals. -/
import Derived.Test.YtihnanfekchlhaaDoorStmFnExactParseReport
import Derived.Test.YtihnanfekchlhaaDoorEvLib
import Derived.Lib.ItoaNum
namespace Go.Proofs.YtihnanfekchlhaaDoor.PFnExactParseReport
open Go.RowKit Go.Proofs.YtihnanfekchlhaaDoorW.PrintWords Go.Proofs.YtihnanfekchlhaaDoorW.PrintLast Go.Proofs.YtihnanfekchlhaaDoor.EvLib
/-- A string of these bytes. -/
def bs (l : List UInt8) : ByteArray := ⟨l.toArray⟩
theorem bs_app (a b : List UInt8) : bs a ++ bs b = bs (a ++ b) := by
  apply ByteArray.ext
  simp [bs, ByteArray.data_append]
theorem bs_size (a : List UInt8) : (bs a).size = a.length := by simp [bs, ByteArray.size]
theorem bs_of (s : ByteArray) : s = bs s.data.toList := by apply ByteArray.ext; simp [bs]
theorem bs_one (v : Int) (_h0 : 0 ≤ v) (_h1 : v < 256) : strOfNums [v] = bs [UInt8.ofNat v.toNat] := by
  apply ByteArray.ext
  simp [bs, strOfNums]
def fmtI (n : Int) : ByteArray := bs (Lib.itoa n)
/-- The digits of u; none for 0. -/
def dd (u : Nat) : List UInt8 := if u = 0 then [] else Lib.decDigits u
theorem dd_step (u : Nat) (h : u ≠ 0) : dd u = dd (u / 10) ++ [UInt8.ofNat (48 + u % 10)] := by
  unfold dd
  rw [if_neg h, Lib.decDigits]
  by_cases c : u < 10
  · rw [dif_pos c, if_pos (by omega), Nat.mod_eq_of_lt c]; rfl
  · rw [dif_neg c, if_neg (by omega)]
theorem tdiv_nn (x : Int) (h : 0 ≤ x) : Int.tdiv x 10 = x / 10 := Int.tdiv_eq_ediv_of_nonneg h
theorem tmod_nn (x : Int) (h : 0 ≤ x) : Int.tmod x 10 = x % 10 := Int.tmod_eq_emod_of_nonneg h
theorem tdiv_neg (x : Int) (h : x ≤ 0) : Int.tdiv x 10 = -((-x) / 10) := by
  have := Int.neg_tdiv (a := -x) (b := 10)
  rw [Int.neg_neg] at this
  rw [this, tdiv_nn _ (by omega)]
theorem tmod_neg (x : Int) (h : x ≤ 0) : Int.tmod x 10 = -((-x) % 10) := by
  have := Int.neg_tmod (a := -x) (b := 10)
  rw [Int.neg_neg] at this
  rw [this, tmod_nn _ (by omega)]
theorem specFormat_l0 (n : Int) : ∀ (d : Nat) (m : Nat) (l : List UInt8) (x : Int), m < 10 ^ d → m ≤ 9223372036854775808 → l.length + d ≤ 30 → (0 ≤ n ∧ x = m ∧ x ≤ 9223372036854775807 ∨ n < 0 ∧ x = -(m : Int)) →
    Ev (fun k => spec_FormatInt.l0 k n (bs l) x) (bs ((if n < 0 then [45] else []) ++ dd m ++ l)) := by
  intro d
  induction d with
  | zero =>
    intro m l x hm hb hl hx
    have hm0 : m = 0 := by simpa using hm
    subst hm0
    have hx0 : x = 0 := by omega
    refine ev_step (fun k => by simp only [spec_FormatInt.l0]; rfl) (ev_itep hx0 ?_)
    by_cases c : n < 0
    · refine ev_itep c (ev_itep (by rw [bs_size]; omega) (ev_some ?_))
      rw [if_pos c]
      exact bs_app [45] l
    · refine ev_iten c (ev_some ?_)
      rw [if_neg c]; rfl
  | succ d ih =>
    intro m l x hm hb hl hx
    by_cases hm0 : m = 0
    · subst hm0
      have hx0 : x = 0 := by omega
      refine ev_step (fun k => by simp only [spec_FormatInt.l0]; rfl) (ev_itep hx0 ?_)
      by_cases c : n < 0
      · refine ev_itep c (ev_itep (by rw [bs_size]; omega) (ev_some ?_))
        rw [if_pos c]
        exact bs_app [45] l
      · refine ev_iten c (ev_some ?_)
        rw [if_neg c]; rfl
    · have hd : m / 10 < 10 ^ d := by rw [Nat.pow_succ] at hm; omega
      have hr := ih (m / 10) (UInt8.ofNat (48 + m % 10) :: l) (Int.tdiv x 10) hd (by omega) (by simp; omega) (by
        rcases hx with ⟨h1, h2, h3⟩ | ⟨h1, h2⟩
        · left; rw [tdiv_nn x (by omega)]; omega
        · right; rw [tdiv_neg x (by omega)]; omega)
      have e : (if n < 0 then [45] else []) ++ dd (m / 10) ++ (UInt8.ofNat (48 + m % 10) :: l) = (if n < 0 then [45] else []) ++ dd m ++ l := by
        rw [dd_step m hm0]; simp
      rw [e] at hr
      have hw : wrap64 (Int.tdiv x 10) = Int.tdiv x 10 := by
        rcases hx with ⟨h1, h2, h3⟩ | ⟨h1, h2⟩
        · rw [tdiv_nn x (by omega)]; exact wrap_id (by omega) (by omega)
        · rw [tdiv_neg x (by omega)]; exact wrap_id (by omega) (by omega)
      have hs : ∀ v : Int, v = 48 + ((m % 10 : Nat) : Int) → strOfNums [v] = bs [UInt8.ofNat (48 + m % 10)] := by
        intro v hv
        rw [bs_one v (by omega) (by omega), show v.toNat = 48 + m % 10 by omega]
      have ht : Int.tmod x 10 = ((m % 10 : Nat) : Int) ∧ 0 ≤ x ∨ Int.tmod x 10 = -((m % 10 : Nat) : Int) := by
        rcases hx with ⟨h1, h2, h3⟩ | ⟨h1, h2⟩
        · left; rw [tmod_nn x (by omega)]; omega
        · right; rw [tmod_neg x (by omega)]; omega
      refine ev_step (fun k => by simp only [spec_FormatInt.l0]; rfl) (ev_iten (by omega) (ev_ite (fun c => ?_) (fun c => ?_)))
      · have hv : wrap64 (48 + wrap64 (-(Int.tmod x 10))) % 256 = 48 + ((m % 10 : Nat) : Int) := by
          rw [wrap_id (x := -(Int.tmod x 10)) (by omega) (by omega), wrap_id (by omega) (by omega)]; omega
        refine ev_bindc rfl ?_
        rw [hv, hs _ rfl, hw]
        refine ev_itep (by rw [bs_size, bs_size]; simp; omega) ?_
        rw [bs_app]; exact hr
      · have hv : wrap64 (48 + Int.tmod x 10) % 256 = 48 + ((m % 10 : Nat) : Int) := by
          rw [wrap_id (by omega) (by omega)]; omega
        refine ev_bindc rfl ?_
        rw [hv, hs _ rfl, hw]
        refine ev_itep (by rw [bs_size, bs_size]; simp; omega) ?_
        rw [bs_app]; exact hr
theorem specFormat_ev (n : Int) (h0 : -9223372036854775808 ≤ n) (h1 : n ≤ 9223372036854775807) : Ev (fun k => spec_FormatInt.f k n) (fmtI n) := by
  unfold spec_FormatInt.f
  refine ev_ite (fun c => ev_some ?_) (fun c => ?_)
  · subst c
    unfold fmtI Lib.itoa
    rw [if_neg (by omega), Lib.decDigits]
    rfl
  · have := specFormat_l0 n 20 n.natAbs [] n (by have : n.natAbs ≤ 9223372036854775808 := by omega
                                                 omega) (by omega) (by simp) (by omega)
    have e : (if n < 0 then [45] else []) ++ dd n.natAbs ++ [] = Lib.itoa n := by
      have hn : ¬ n.natAbs = 0 := by omega
      unfold dd Lib.itoa
      by_cases g : n < 0
      · rw [if_pos g, if_pos g, if_neg hn]; simp
      · rw [if_neg g, if_neg g, if_neg hn, show n.natAbs = n.toNat by omega]; simp
    rw [e] at this
    exact this
theorem dec_len (d : Nat) : ∀ u, u < 10 ^ (d + 1) → (Lib.decDigits u).length ≤ d + 1 := by
  induction d with
  | zero => intro u h; rw [Lib.decDigits, dif_pos (by omega)]; simp
  | succ d ih =>
    intro u h
    rw [Lib.decDigits]
    split
    · simp
    · have := ih (u / 10) (by rw [Nat.pow_succ] at h; omega)
      simp; omega
theorem fmt_size (n : Int) (h0 : -9223372036854775808 ≤ n) (h1 : n ≤ 9223372036854775807) : (fmtI n).size ≤ 21 := by
  unfold fmtI
  rw [bs_size]
  unfold Lib.itoa
  split
  · have := dec_len 19 n.natAbs (by have : n.natAbs ≤ 9223372036854775808 := by omega
                                    omega)
    simp; omega
  · have := dec_len 19 n.toNat (by have : n.toNat ≤ 9223372036854775807 := by omega
                                   omega)
    omega
theorem wf64 {n : Int} (h : (Lit.int .i64 n).wf = true) : -9223372036854775808 ≤ n ∧ n ≤ 9223372036854775807 := by
  have e1 : IntKind.i64.min = -9223372036854775808 := rfl
  have e2 : IntKind.i64.max = 9223372036854775807 := rfl
  simp [Lit.wf, e1, e2] at h
  exact h
end Go.Proofs.YtihnanfekchlhaaDoor.PFnExactParseReport
