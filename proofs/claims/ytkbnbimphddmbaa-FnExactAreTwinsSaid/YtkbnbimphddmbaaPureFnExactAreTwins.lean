/- The pure statement of FnExactAreTwins. -/
import Derived.Test.YtkbnbimphddmbaaInRFnExactAreTwins
namespace Go.Proofs.Ytkbnbimphddmbaa.Pure
open Go.RowKit Go.Proofs.Ytkbnbimphddmbaa.PFnExactAreTwins Go.Proofs.YtkbnbimphddmbaaW.PrintWords Go.Proofs.YtkbnbimphddmbaaW.PrintLast
theorem sb {X Y : Type} (a : X) (f : X → Option Y) : (some a).bind f = f a := rfl
theorem bs {X : Type} (x : Option X) : (x.bind fun t => some t) = x := by cases x <;> rfl
theorem inR_same (a b c : Int) : spec_l1In.f a b c = impl_InRange.f a b c := rfl
theorem isThing_same (a b c d e : Int) : spec_IsThing.f a b c d e = impl_IsThing.f a b c d e := by
  unfold spec_IsThing.f impl_IsThing.f
  simp only [inR_same]
theorem isFind_same (a0_0 a0_1 a0_2 a0_3 a0_4 a0_5 a0_6 a0_7 : Int) : spec_IsFind.f a0_0 a0_1 a0_2 a0_3 a0_4 a0_5 a0_6 a0_7 = impl_IsFind.f a0_0 a0_1 a0_2 a0_3 a0_4 a0_5 a0_6 a0_7 := by
  unfold spec_IsFind.f impl_IsFind.f
  simp only [inR_same, isThing_same]
theorem areTwins_same (a0_0 a0_1 a0_2 a0_3 a0_4 a0_5 a0_6 a0_7 a1_0 a1_1 a1_2 a1_3 a1_4 a1_5 a1_6 a1_7 : Int) : spec_AreTwins.f a0_0 a0_1 a0_2 a0_3 a0_4 a0_5 a0_6 a0_7 a1_0 a1_1 a1_2 a1_3 a1_4 a1_5 a1_6 a1_7 = impl_AreTwins.f a0_0 a0_1 a0_2 a0_3 a0_4 a0_5 a0_6 a0_7 a1_0 a1_1 a1_2 a1_3 a1_4 a1_5 a1_6 a1_7 := by
  unfold spec_AreTwins.f impl_AreTwins.f
  simp only [inR_same, isFind_same, bs]
theorem isThing_tot (a b c d e : Int) : ∃ r, impl_IsThing.f a b c d e = some r := by
  unfold impl_IsThing.f
  simp only [inRange_eq, sb]
  repeat' (first | exact ⟨_, rfl⟩ | split)
theorem isFind_tot (a0_0 a0_1 a0_2 a0_3 a0_4 a0_5 a0_6 a0_7 : Int) : ∃ r, impl_IsFind.f a0_0 a0_1 a0_2 a0_3 a0_4 a0_5 a0_6 a0_7 = some r := by
  obtain ⟨b, hb⟩ := isThing_tot a0_0 a0_1 a0_2 a0_3 a0_4
  unfold impl_IsFind.f
  rw [hb]
  simp only [inRange_eq, sb]
  repeat' (first | exact ⟨_, rfl⟩ | split)
theorem areTwins_tot (a0_0 a0_1 a0_2 a0_3 a0_4 a0_5 a0_6 a0_7 a1_0 a1_1 a1_2 a1_3 a1_4 a1_5 a1_6 a1_7 : Int) : ∃ r, impl_AreTwins.f a0_0 a0_1 a0_2 a0_3 a0_4 a0_5 a0_6 a0_7 a1_0 a1_1 a1_2 a1_3 a1_4 a1_5 a1_6 a1_7 = some r := by
  obtain ⟨b, hb⟩ := isFind_tot a0_0 a0_1 a0_2 a0_3 a0_4 a0_5 a0_6 a0_7
  obtain ⟨c, hc⟩ := isFind_tot a1_0 a1_1 a1_2 a1_3 a1_4 a1_5 a1_6 a1_7
  unfold impl_AreTwins.f
  rw [hb, hc]
  simp only [inRange_eq, sb]
  repeat' (first | exact ⟨_, rfl⟩ | split)
theorem FnExactAreTwins : laws_FnExactAreTwins.Pure := by
  intro a0_0 a0_1 a0_2 a0_3 a0_4 a0_5 a0_6 a0_7 a1_0 a1_1 a1_2 a1_3 a1_4 a1_5 a1_6 a1_7
  intros
  obtain ⟨r, hr⟩ := areTwins_tot a0_0 a0_1 a0_2 a0_3 a0_4 a0_5 a0_6 a0_7 a1_0 a1_1 a1_2 a1_3 a1_4 a1_5 a1_6 a1_7
  unfold laws_FnExactAreTwins.f laws_toFind.f laws_toThing.f
  simp only [sb, areTwins_same, hr, bne_self_eq_false]
  rfl
end Go.Proofs.Ytkbnbimphddmbaa.Pure
