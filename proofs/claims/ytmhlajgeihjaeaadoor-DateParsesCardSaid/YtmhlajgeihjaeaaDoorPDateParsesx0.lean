/- Laid for this claim by a program of this session's (wip/mkprint.py, wip/ext.py); not trusted: Lean checks it. -/
import Derived.Test.YtmhlajgeihjaeaaDoorProg
import Derived.Below
import Derived.Deep.Draws
import Derived.Deep.AppendLies
import Derived.Maps.AppendAt
import Derived.OwnWalk
import Derived.Laws.BytesArg
import Derived.Laws.MakeOwn
import Derived.Laws.OwnMore
import Derived.Deep.OwnRows
import Derived.Tactics
import Derived.Lib.ConvBytes
import Derived.Laws.Slices
import Derived.WalkKit
import Derived.KernelRfl
import Derived.RowKit3
import Derived.Deep.LoopGhost
import Derived.Deep.QuietTactic
import Derived.BigQuiet
import Derived.WideLaws
import Derived.Deep.DeepCutAuto
import Derived.Deep.CutBlock
import Derived.Deep.RegionHeld3
import Derived.Laws.Rows
import Derived.Lib.AppendStr
import Derived.ArgAppend
import Derived.Laws.IdiomCopy
import Derived.OrdersHeld
import Derived.Laws.BitsLemmas
import Derived.RowKit
import Derived.Lib.Zigzag
import Derived.WalkLawsBesides
import Derived.Lib.SlBytesConst
import Derived.Maps.Own
import Derived.Maps.RangeWalk
import Derived.Deep.RegionWith
import Derived.Test.YtmhlajgeihjaeaaDoorWWords
import Derived.Test.YtmhlajgeihjaeaaDoorWLast
import Derived.Test.YtmhlajgeihjaeaaDoorWTab
import Derived.Test.YtmhlajgeihjaeaaDoorWFour
import Derived.Test.YtmhlajgeihjaeaaDoorWQPut
import Derived.Test.YtmhlajgeihjaeaaDoorWApart
import Derived.Test.YtmhlajgeihjaeaaDoorWArr
import Derived.Test.YtmhlajgeihjaeaaDoorWZeros
import Derived.Test.YtmhlajgeihjaeaaDoorWFoot
import Derived.Test.YtmhlajgeihjaeaaDoorWKept
import Derived.Test.YtmhlajgeihjaeaaDoorWShare
import Derived.Test.YtmhlajgeihjaeaaDoorWN
import Derived.Test.YtmhlajgeihjaeaaDoorWFootNe
import Derived.Test.YtmhlajgeihjaeaaDoorWAt
import Derived.Test.YtmhlajgeihjaeaaDoorWEqStruct
import Derived.Test.YtmhlajgeihjaeaaDoorWRepsOne
import Derived.Test.YtmhlajgeihjaeaaDoorWInv
import Derived.Test.YtmhlajgeihjaeaaDoorWInvWords
import Derived.Test.YtmhlajgeihjaeaaDoorWGuard
import Derived.Test.YtmhlajgeihjaeaaDoorWNEv
import Derived.Test.YtmhlajgeihjaeaaDoorWMore
namespace Go.Proofs.YtmhlajgeihjaeaaDoor.PDateParses
open Go.RowKit Go.Proofs.YtmhlajgeihjaeaaDoorW.PrintWords Go.Proofs.YtmhlajgeihjaeaaDoorW.PrintLast Go.Proofs.YtmhlajgeihjaeaaDoorW.PrintMore
attribute [local go_sem] max2_int min2_int max_two min_two max_three min_three max_four min_four   -- for this text's walks alone
set_option linter.unusedVariables false
set_option linter.unusedSimpArgs false



def errW : Option Int → Value
  | none => .nilIface
  | some c => .iface 0 (.int .i64 c)
theorem errW_none : errW none = .nilIface := rfl
theorem errW_some (c : Int) : errW (some c) = .iface 0 (.int .i64 c) := rfl

-- the values' own types

end Go.Proofs.YtmhlajgeihjaeaaDoor.PDateParses
