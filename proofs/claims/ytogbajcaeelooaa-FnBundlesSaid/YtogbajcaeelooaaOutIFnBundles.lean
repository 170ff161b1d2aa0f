/- OuterOf of the program. -/
import Derived.Test.YtogbajcaeelooaaOutDFnBundles
namespace Go.Proofs.Ytogbajcaeelooaa.PFnBundles
open Go.RowKit Go.Proofs.YtogbajcaeelooaaW.PrintWords Go.Proofs.YtogbajcaeelooaaW.PrintLast Go.Proofs.Ytogbajcaeelooaa.EvLib
theorem implOuterOf_eq (l : List IInner) (x : Int) : impl_OuterOf.f l x = some (outF x l) := by
  unfold impl_OuterOf.f
  obtain ⟨r, h1, h2⟩ := implInner_eq l x
  rw [h1, Option.bind_some]
  rcases h2 with ⟨_, h3, h4⟩ | ⟨_, h3, h4, h5⟩
  · rw [if_pos (by omega), h4]
  · rw [if_neg (by omega), if_pos h3, if_pos h4]
    rw [← h5]
    rfl
end Go.Proofs.Ytogbajcaeelooaa.PFnBundles
