-- Text written by a program of this session (wip/tools: the kit's printer with additions of ours).
import Derived.Test.YtgeenpfgkmnpeaaProg
import Derived.Below
import Derived.Deep.Draws
import Derived.Deep.AppendLies
import Derived.Maps.AppendAt
import Derived.OwnWalk
import Derived.Laws.BytesArg
import Derived.Laws.MakeOwn
import Derived.Laws.OwnMore
import Derived.Deep.OwnRows
import Derived.Tactics
import Derived.Lib.ConvBytes
import Derived.Laws.Slices
import Derived.WalkKit
import Derived.KernelRfl
import Derived.RowKit3
import Derived.Deep.LoopGhost
import Derived.Deep.QuietTactic
import Derived.BigQuiet
import Derived.WideLaws
import Derived.Deep.DeepCutAuto
import Derived.Deep.CutBlock
import Derived.Deep.RegionHeld3
import Derived.Laws.Rows
import Derived.Lib.AppendStr
import Derived.ArgAppend
import Derived.Laws.IdiomCopy
import Derived.OrdersHeld
import Derived.Laws.BitsLemmas
import Derived.RowKit
import Derived.Test.YtgeenpfgkmnpeaaWWords
import Derived.Test.YtgeenpfgkmnpeaaWLast
import Derived.Test.YtgeenpfgkmnpeaaWTab
import Derived.Test.YtgeenpfgkmnpeaaWFour
import Derived.Test.YtgeenpfgkmnpeaaWQPut
import Derived.Test.YtgeenpfgkmnpeaaWApart
import Derived.Test.YtgeenpfgkmnpeaaWArr
import Derived.Test.YtgeenpfgkmnpeaaWZeros
import Derived.Test.YtgeenpfgkmnpeaaWFoot
import Derived.Test.YtgeenpfgkmnpeaaWKept
import Derived.Test.YtgeenpfgkmnpeaaWShare
import Derived.Test.YtgeenpfgkmnpeaaWN
import Derived.Test.YtgeenpfgkmnpeaaWFootNe
import Derived.Test.YtgeenpfgkmnpeaaWAt
import Derived.Test.YtgeenpfgkmnpeaaWEqStruct
import Derived.Test.YtgeenpfgkmnpeaaWRepsOne
import Derived.Test.YtgeenpfgkmnpeaaWInv
import Derived.Test.YtgeenpfgkmnpeaaWInvWords
import Derived.Test.YtgeenpfgkmnpeaaWGuard
import Derived.Test.YtgeenpfgkmnpeaaWNEv
import Derived.Test.YtgeenpfgkmnpeaaWMore
namespace Go.Proofs.Ytgeenpfgkmnpeaa.MFnExactTakesOf
open Go.RowKit Go.Proofs.YtgeenpfgkmnpeaaW.PrintWords Go.Proofs.YtgeenpfgkmnpeaaW.PrintLast Go.Proofs.YtgeenpfgkmnpeaaW.PrintMore
attribute [local go_sem] max2_int min2_int max_two min_two max_three min_three max_four min_four   -- for this text's walks alone
set_option linter.unusedVariables false
set_option linter.unusedSimpArgs false



def errW : Option Int → Value
  | none => .nilIface
  | some c => .iface 0 (.int .i64 c)
theorem errW_none : errW none = .nilIface := rfl
theorem errW_some (c : Int) : errW (some c) = .iface 0 (.int .i64 c) := rfl

theorem info9 : (Try.prog.info? 9).map (fun i => (i.zero, i.size, i.bytes)) = some (some (.string ⟨#[]⟩), 1, 16) := by kernel_rfl
-- the values' own types

end Go.Proofs.Ytgeenpfgkmnpeaa.MFnExactTakesOf
