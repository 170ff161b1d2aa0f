-- Written for this claim by a program (a printer turned to this claim); Lean checks it.
import Derived.Test.YtkbnbimphddmbaaProg
import Derived.Below
import Derived.Deep.Draws
import Derived.Deep.AppendLies
import Derived.Maps.AppendAt
import Derived.OwnWalk
import Derived.Laws.BytesArg
import Derived.Laws.MakeOwn
import Derived.Laws.OwnMore
import Derived.Deep.OwnRows
import Derived.Tactics
import Derived.Lib.ConvBytes
import Derived.Laws.Slices
import Derived.WalkKit
import Derived.KernelRfl
import Derived.RowKit3
import Derived.Deep.LoopGhost
import Derived.Deep.QuietTactic
import Derived.BigQuiet
import Derived.WideLaws
import Derived.Deep.DeepCutAuto
import Derived.Deep.CutBlock
import Derived.Deep.RegionHeld3
import Derived.Laws.Rows
import Derived.Lib.AppendStr
import Derived.ArgAppend
import Derived.Laws.IdiomCopy
import Derived.OrdersHeld
import Derived.Laws.BitsLemmas
import Derived.RowKit
import Derived.Shelf.Abstract
import Derived.Lib.SliceRun
import Derived.Deep.RegionLaw
import Derived.Test.YtkbnbimphddmbaaWWords
import Derived.Test.YtkbnbimphddmbaaWLast
import Derived.Test.YtkbnbimphddmbaaWTab
import Derived.Test.YtkbnbimphddmbaaWFour
import Derived.Test.YtkbnbimphddmbaaWQPut
import Derived.Test.YtkbnbimphddmbaaWApart
import Derived.Test.YtkbnbimphddmbaaWArr
import Derived.Test.YtkbnbimphddmbaaWZeros
import Derived.Test.YtkbnbimphddmbaaWFoot
import Derived.Test.YtkbnbimphddmbaaWKept
import Derived.Test.YtkbnbimphddmbaaWShare
import Derived.Test.YtkbnbimphddmbaaWN
import Derived.Test.YtkbnbimphddmbaaWFootNe
import Derived.Test.YtkbnbimphddmbaaWAt
import Derived.Test.YtkbnbimphddmbaaWEqStruct
import Derived.Test.YtkbnbimphddmbaaWRepsOne
import Derived.Test.YtkbnbimphddmbaaWInv
import Derived.Test.YtkbnbimphddmbaaWInvWords
import Derived.Test.YtkbnbimphddmbaaWGuard
import Derived.Test.YtkbnbimphddmbaaWNEv
import Derived.Test.YtkbnbimphddmbaaWMore
import Derived.Test.YtkbnbimphddmbaaEvLib
namespace Go.Proofs.Ytkbnbimphddmbaa.PFnExactAreTwins
open Go.RowKit Go.Proofs.YtkbnbimphddmbaaW.PrintWords Go.Proofs.YtkbnbimphddmbaaW.PrintLast Go.Proofs.YtkbnbimphddmbaaW.PrintMore
attribute [local go_sem] max2_int min2_int max_two min_two max_three min_three max_four min_four   -- for this text's walks alone
set_option linter.unusedVariables false
set_option linter.unusedSimpArgs false



def errW : Option Int → Value
  | none => .nilIface
  | some c => .iface 0 (.int .i64 c)
theorem errW_none : errW none = .nilIface := rfl
theorem errW_some (c : Int) : errW (some c) = .iface 0 (.int .i64 c) := rfl

-- the values' own types

end Go.Proofs.Ytkbnbimphddmbaa.PFnExactAreTwins
