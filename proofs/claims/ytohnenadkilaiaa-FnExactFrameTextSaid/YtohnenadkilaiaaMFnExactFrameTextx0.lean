-- Text written by a program of this session (wip/tools: the kit's printer with additions of ours).
import Derived.Test.YtohnenadkilaiaaProg
import Derived.Below
import Derived.Deep.Draws
import Derived.Deep.AppendLies
import Derived.Maps.AppendAt
import Derived.OwnWalk
import Derived.Laws.BytesArg
import Derived.Laws.MakeOwn
import Derived.Laws.OwnMore
import Derived.Deep.OwnRows
import Derived.Tactics
import Derived.Lib.ConvBytes
import Derived.Laws.Slices
import Derived.WalkKit
import Derived.KernelRfl
import Derived.RowKit3
import Derived.Deep.LoopGhost
import Derived.Deep.QuietTactic
import Derived.BigQuiet
import Derived.WideLaws
import Derived.Deep.DeepCutAuto
import Derived.Deep.CutBlock
import Derived.Deep.RegionHeld3
import Derived.Laws.Rows
import Derived.Lib.AppendStr
import Derived.ArgAppend
import Derived.Laws.IdiomCopy
import Derived.OrdersHeld
import Derived.Laws.BitsLemmas
import Derived.RowKit
import Derived.Test.YtohnenadkilaiaaWWords
import Derived.Test.YtohnenadkilaiaaWLast
import Derived.Test.YtohnenadkilaiaaWTab
import Derived.Test.YtohnenadkilaiaaWFour
import Derived.Test.YtohnenadkilaiaaWQPut
import Derived.Test.YtohnenadkilaiaaWApart
import Derived.Test.YtohnenadkilaiaaWArr
import Derived.Test.YtohnenadkilaiaaWZeros
import Derived.Test.YtohnenadkilaiaaWFoot
import Derived.Test.YtohnenadkilaiaaWKept
import Derived.Test.YtohnenadkilaiaaWShare
import Derived.Test.YtohnenadkilaiaaWN
import Derived.Test.YtohnenadkilaiaaWFootNe
import Derived.Test.YtohnenadkilaiaaWAt
import Derived.Test.YtohnenadkilaiaaWEqStruct
import Derived.Test.YtohnenadkilaiaaWRepsOne
import Derived.Test.YtohnenadkilaiaaWInv
import Derived.Test.YtohnenadkilaiaaWInvWords
import Derived.Test.YtohnenadkilaiaaWGuard
import Derived.Test.YtohnenadkilaiaaWNEv
import Derived.Test.YtohnenadkilaiaaWMore
namespace Go.Proofs.Ytohnenadkilaiaa.MFnExactFrameText
open Go.RowKit Go.Proofs.YtohnenadkilaiaaW.PrintWords Go.Proofs.YtohnenadkilaiaaW.PrintLast Go.Proofs.YtohnenadkilaiaaW.PrintMore
attribute [local go_sem] max2_int min2_int max_two min_two max_three min_three max_four min_four   -- for this text's walks alone
set_option linter.unusedVariables false
set_option linter.unusedSimpArgs false



def errW : Option Int → Value
  | none => .nilIface
  | some c => .iface 0 (.int .i64 c)
theorem errW_none : errW none = .nilIface := rfl
theorem errW_some (c : Int) : errW (some c) = .iface 0 (.int .i64 c) := rfl

theorem info3 : (Try.prog.info? 3).map (fun i => (i.zero, i.size, i.bytes)) = some (some (.int .i64 0), 1, 8) := by kernel_rfl
theorem info5 : (Try.prog.info? 5).map (fun i => (i.zero, i.size, i.bytes)) = some (some (.int .u8 0), 1, 1) := by kernel_rfl
-- the values' own types

end Go.Proofs.Ytohnenadkilaiaa.MFnExactFrameText
