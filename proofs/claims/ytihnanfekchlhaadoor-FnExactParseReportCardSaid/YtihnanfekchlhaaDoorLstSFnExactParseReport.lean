/- ListText of the reference. -/
import Derived.Test.YtihnanfekchlhaaDoorFmtSFnExactParseReport
import Derived.Lib.Join
namespace Go.Proofs.YtihnanfekchlhaaDoor.PFnExactParseReport
open Go.RowKit Go.Proofs.YtihnanfekchlhaaDoorW.PrintWords Go.Proofs.YtihnanfekchlhaaDoorW.PrintLast Go.Proofs.YtihnanfekchlhaaDoor.EvLib
def I64s (l : List Int) : Prop := ∀ y ∈ l, -9223372036854775808 ≤ y ∧ y ≤ 9223372036854775807
def lstB (l : List Int) : List UInt8 := if l.length = 0 then [45] else Lib.join (l.map Lib.itoa) [44]
theorem itoa_len (n : Int) (h : -9223372036854775808 ≤ n ∧ n ≤ 9223372036854775807) : (Lib.itoa n).length ≤ 21 := by
  have := fmt_size n h.1 h.2
  unfold fmtI at this
  rwa [bs_size] at this
theorem join_snoc (xs : List (List UInt8)) (y : List UInt8) (sep : List UInt8) : Lib.join (xs ++ [y]) sep = if xs.length = 0 then y else Lib.join xs sep ++ sep ++ y := by
  cases xs with
  | nil => exact Lib.join_one y sep
  | cons x r => rw [if_neg (by simp), List.cons_append, Lib.join_cons, Lib.join_cons]; simp [Lib.joinTail, List.append_assoc]
theorem lens_itoa : ∀ l : List Int, I64s l → Lib.lens (l.map Lib.itoa) ≤ 21 * l.length
  | [], _ => by simp [Lib.lens]
  | x :: r, h => by
    have h1 := itoa_len x (h x (List.mem_cons_self ..))
    have h2 := lens_itoa r (fun y hy => h y (List.mem_cons_of_mem _ hy))
    simp only [Lib.lens, List.map_cons, List.sum_cons, List.length_cons] at h2 ⊢
    omega
theorem join_itoa_len (l : List Int) (h : I64s l) : (Lib.join (l.map Lib.itoa) [44]).length ≤ 22 * l.length := by
  cases l with
  | nil => simp [Lib.join_nil]
  | cons x r =>
    have := lens_itoa (x :: r) h
    rw [List.map_cons, Lib.join_length, ← List.map_cons]
    simp only [List.length_map, List.length_cons, List.length_nil] at *
    omega
theorem rd_at (l : List Int) (i : Nat) (h : i < l.length) : rd l (i : Int) = l[i] := by
  unfold rd
  rw [Int.toNat_natCast, List.getD_eq_getElem?_getD, List.getElem?_eq_getElem h, Option.getD_some]
theorem I64s_take {l : List Int} (h : I64s l) (i : Nat) : I64s (l.take i) := fun y hy => h y (List.mem_of_mem_take hy)
theorem specList_l0 (l : List Int) (hl : l.length ≤ 2097152) (hb : I64s l) : ∀ d i : Nat, i + d = l.length →
    Ev (fun k => spec_ListText.l0 k l (bs (Lib.join ((l.take i).map Lib.itoa) [44])) (i : Int)) (bs (lstB l)) := by
  intro d
  induction d with
  | zero =>
    intro i hi
    refine ev_step (fun k => by simp only [spec_ListText.l0]; rfl) (ev_iten (by omega) (ev_ite (fun c => ev_some ?_) (fun c => ev_some ?_)))
    · unfold lstB; rw [if_pos (by omega)]; rfl
    · unfold lstB; rw [if_neg (by omega), List.take_of_length_le (by omega)]
  | succ d ih =>
    intro i hi
    have hr := ih (i + 1) (by omega)
    have hz := join_itoa_len (l.take i) (I64s_take hb i)
    rw [List.length_take] at hz
    have hm : l[i]'(by omega) ∈ l := List.getElem_mem _
    have hf := specFormat_ev (l[i]'(by omega)) (hb _ hm).1 (hb _ hm).2
    have hs := fmt_size (l[i]'(by omega)) (hb _ hm).1 (hb _ hm).2
    have e : (l.take (i + 1)).map Lib.itoa = (l.take i).map Lib.itoa ++ [Lib.itoa (l[i]'(by omega))] := by
      rw [List.take_succ_eq_append_getElem (by omega), List.map_append]; rfl
    have hw : wrap64 ((i : Int) + 1) = ((i + 1 : Nat) : Int) := by rw [wrap_id (by omega) (by omega)]; omega
    rw [e, join_snoc] at hr
    have el : ((l.take i).map Lib.itoa).length = i := by rw [List.length_map, List.length_take]; omega
    rw [el] at hr
    refine ev_step (fun k => by simp only [spec_ListText.l0]; rfl) (ev_itep (by omega) (ev_ite (fun c => ?_) (fun c => ?_)))
    · rw [rd_at l i (by omega), hw]
      rw [if_neg (by omega), ← bs_app, ← bs_app] at hr
      exact ev_itep (by rw [bs_size]; omega) (ev_itep (by omega) (ev_bind hf (ev_itep (by rw [show (⟨#[44]⟩ : ByteArray) = bs [44] from rfl, bs_app, bs_size]; simp only [List.length_append, List.length_cons, List.length_nil]; omega) hr)))
    · obtain rfl : i = 0 := by omega
      rw [rd_at l 0 (by omega), hw]
      rw [if_pos rfl] at hr
      refine ev_itep (by omega) (ev_bind hf (ev_itep (by rw [bs_size]; omega) ?_))
      have e0 : bs (Lib.join ((l.take 0).map Lib.itoa) [44]) ++ fmtI (l[0]'(by omega)) = bs (Lib.itoa (l[0]'(by omega))) := by
        unfold fmtI; rw [bs_app]; rfl
      rw [e0]
      exact hr
theorem specList_ev (l : List Int) (hl : l.length ≤ 2097152) (hb : I64s l) : Ev (fun k => spec_ListText.f k l) (bs (lstB l)) := by
  unfold spec_ListText.f
  exact specList_l0 l hl hb l.length 0 (by omega)
end Go.Proofs.YtihnanfekchlhaaDoor.PFnExactParseReport
