-- Written for this claim by a program (a printer turned to this claim); Lean checks it.
import Derived.Test.YtglpmjcknhcjcaaProg
import Derived.Below
import Derived.Deep.Draws
import Derived.Deep.AppendLies
import Derived.Maps.AppendAt
import Derived.OwnWalk
import Derived.Laws.BytesArg
import Derived.Laws.MakeOwn
import Derived.Laws.OwnMore
import Derived.Deep.OwnRows
import Derived.Tactics
import Derived.Lib.ConvBytes
import Derived.Laws.Slices
import Derived.WalkKit
import Derived.KernelRfl
import Derived.RowKit3
import Derived.Deep.LoopGhost
import Derived.Deep.QuietTactic
import Derived.BigQuiet
import Derived.WideLaws
import Derived.Deep.DeepCutAuto
import Derived.Deep.CutBlock
import Derived.Deep.RegionHeld3
import Derived.Laws.Rows
import Derived.Lib.AppendStr
import Derived.ArgAppend
import Derived.Laws.IdiomCopy
import Derived.OrdersHeld
import Derived.Laws.BitsLemmas
import Derived.RowKit
import Derived.Shelf.Abstract
import Derived.Lib.SliceRun
import Derived.Deep.RegionLaw
import Derived.Test.YtglpmjcknhcjcaaWWords
import Derived.Test.YtglpmjcknhcjcaaWLast
import Derived.Test.YtglpmjcknhcjcaaWTab
import Derived.Test.YtglpmjcknhcjcaaWFour
import Derived.Test.YtglpmjcknhcjcaaWQPut
import Derived.Test.YtglpmjcknhcjcaaWApart
import Derived.Test.YtglpmjcknhcjcaaWArr
import Derived.Test.YtglpmjcknhcjcaaWZeros
import Derived.Test.YtglpmjcknhcjcaaWFoot
import Derived.Test.YtglpmjcknhcjcaaWKept
import Derived.Test.YtglpmjcknhcjcaaWShare
import Derived.Test.YtglpmjcknhcjcaaWN
import Derived.Test.YtglpmjcknhcjcaaWFootNe
import Derived.Test.YtglpmjcknhcjcaaWAt
import Derived.Test.YtglpmjcknhcjcaaWEqStruct
import Derived.Test.YtglpmjcknhcjcaaWRepsOne
import Derived.Test.YtglpmjcknhcjcaaWInv
import Derived.Test.YtglpmjcknhcjcaaWInvWords
import Derived.Test.YtglpmjcknhcjcaaWGuard
import Derived.Test.YtglpmjcknhcjcaaWNEv
import Derived.Test.YtglpmjcknhcjcaaWMore
import Derived.Test.YtglpmjcknhcjcaaEvLib
namespace Go.Proofs.Ytglpmjcknhcjcaa.PFnExactSameOwner
open Go.RowKit Go.Proofs.YtglpmjcknhcjcaaW.PrintWords Go.Proofs.YtglpmjcknhcjcaaW.PrintLast Go.Proofs.YtglpmjcknhcjcaaW.PrintMore
attribute [local go_sem] max2_int min2_int max_two min_two max_three min_three max_four min_four   -- for this text's walks alone
set_option linter.unusedVariables false
set_option linter.unusedSimpArgs false



def errW : Option Int → Value
  | none => .nilIface
  | some c => .iface 0 (.int .i64 c)
theorem errW_none : errW none = .nilIface := rfl
theorem errW_some (c : Int) : errW (some c) = .iface 0 (.int .i64 c) := rfl

theorem info3 : (Try.prog.info? 3).map (fun i => (i.zero, i.size, i.bytes)) = some (some (.int .i64 0), 1, 8) := by kernel_rfl
-- the values' own types

end Go.Proofs.Ytglpmjcknhcjcaa.PFnExactSameOwner
