/- Laid for this claim by a program of this session's (wip/mkprint.py, wip/ext.py); not trusted: Lean checks it. -/
import Derived.Test.YtpieipeppanahaaProg
import Derived.Below
import Derived.Deep.Draws
import Derived.Deep.AppendLies
import Derived.Maps.AppendAt
import Derived.OwnWalk
import Derived.Laws.BytesArg
import Derived.Laws.MakeOwn
import Derived.Laws.OwnMore
import Derived.Deep.OwnRows
import Derived.Tactics
import Derived.Lib.ConvBytes
import Derived.Laws.Slices
import Derived.WalkKit
import Derived.KernelRfl
import Derived.RowKit3
import Derived.Deep.LoopGhost
import Derived.Deep.QuietTactic
import Derived.BigQuiet
import Derived.WideLaws
import Derived.Deep.DeepCutAuto
import Derived.Deep.CutBlock
import Derived.Deep.RegionHeld3
import Derived.Laws.Rows
import Derived.Lib.AppendStr
import Derived.ArgAppend
import Derived.Laws.IdiomCopy
import Derived.OrdersHeld
import Derived.Laws.BitsLemmas
import Derived.RowKit
import Derived.Test.YtpieipeppanahaaWWords
import Derived.Test.YtpieipeppanahaaWLast
import Derived.Test.YtpieipeppanahaaWTab
import Derived.Test.YtpieipeppanahaaWFour
import Derived.Test.YtpieipeppanahaaWQPut
import Derived.Test.YtpieipeppanahaaWApart
import Derived.Test.YtpieipeppanahaaWArr
import Derived.Test.YtpieipeppanahaaWZeros
import Derived.Test.YtpieipeppanahaaWFoot
import Derived.Test.YtpieipeppanahaaWKept
import Derived.Test.YtpieipeppanahaaWShare
import Derived.Test.YtpieipeppanahaaWN
import Derived.Test.YtpieipeppanahaaWFootNe
import Derived.Test.YtpieipeppanahaaWAt
import Derived.Test.YtpieipeppanahaaWEqStruct
import Derived.Test.YtpieipeppanahaaWRepsOne
import Derived.Test.YtpieipeppanahaaWInv
import Derived.Test.YtpieipeppanahaaWInvWords
import Derived.Test.YtpieipeppanahaaWGuard
import Derived.Test.YtpieipeppanahaaWNEv
import Derived.Test.YtpieipeppanahaaWMore
namespace Go.Proofs.Ytpieipeppanahaa.PPhaseRound
open Go.RowKit Go.Proofs.YtpieipeppanahaaW.PrintWords Go.Proofs.YtpieipeppanahaaW.PrintLast Go.Proofs.YtpieipeppanahaaW.PrintMore
attribute [local go_sem] max2_int min2_int max_two min_two max_three min_three max_four min_four   -- for this text's walks alone
set_option linter.unusedVariables false
set_option linter.unusedSimpArgs false



def errW : Option Int → Value
  | none => .nilIface
  | some c => .iface 0 (.int .i64 c)
theorem errW_none : errW none = .nilIface := rfl
theorem errW_some (c : Int) : errW (some c) = .iface 0 (.int .i64 c) := rfl

theorem info3 : (Try.prog.info? 3).map (fun i => (i.zero, i.size, i.bytes)) = some (some (.int .i64 0), 1, 8) := by kernel_rfl
-- the values' own types

end Go.Proofs.Ytpieipeppanahaa.PPhaseRound
