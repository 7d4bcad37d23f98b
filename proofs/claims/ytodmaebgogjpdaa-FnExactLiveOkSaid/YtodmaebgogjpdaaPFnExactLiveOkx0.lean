-- Laid by a program of this session, a copy of the kit's printer with additions (wip/patch_print.py): myhead. Lean checks it.
import Derived.Test.YtodmaebgogjpdaaProg
import Derived.Below
import Derived.Deep.Draws
import Derived.Deep.AppendLies
import Derived.Maps.AppendAt
import Derived.OwnWalk
import Derived.Laws.BytesArg
import Derived.Laws.MakeOwn
import Derived.Laws.OwnMore
import Derived.Deep.OwnRows
import Derived.Tactics
import Derived.Lib.ConvBytes
import Derived.Laws.Slices
import Derived.WalkKit
import Derived.KernelRfl
import Derived.RowKit3
import Derived.Deep.LoopGhost
import Derived.Deep.QuietTactic
import Derived.BigQuiet
import Derived.WideLaws
import Derived.Deep.DeepCutAuto
import Derived.Deep.CutBlock
import Derived.Deep.RegionHeld3
import Derived.Laws.Rows
import Derived.Lib.AppendStr
import Derived.ArgAppend
import Derived.Laws.IdiomCopy
import Derived.OrdersHeld
import Derived.Laws.BitsLemmas
import Derived.RowKit
import Derived.Test.YtodmaebgogjpdaaWWords
import Derived.Test.YtodmaebgogjpdaaWLast
import Derived.Test.YtodmaebgogjpdaaWTab
import Derived.Test.YtodmaebgogjpdaaWFour
import Derived.Test.YtodmaebgogjpdaaWQPut
import Derived.Test.YtodmaebgogjpdaaWApart
import Derived.Test.YtodmaebgogjpdaaWArr
import Derived.Test.YtodmaebgogjpdaaWZeros
import Derived.Test.YtodmaebgogjpdaaWFoot
import Derived.Test.YtodmaebgogjpdaaWKept
import Derived.Test.YtodmaebgogjpdaaWShare
import Derived.Test.YtodmaebgogjpdaaWN
import Derived.Test.YtodmaebgogjpdaaWFootNe
import Derived.Test.YtodmaebgogjpdaaWAt
import Derived.Test.YtodmaebgogjpdaaWEqStruct
import Derived.Test.YtodmaebgogjpdaaWRepsOne
import Derived.Test.YtodmaebgogjpdaaWInv
import Derived.Test.YtodmaebgogjpdaaWInvWords
import Derived.Test.YtodmaebgogjpdaaWGuard
import Derived.Test.YtodmaebgogjpdaaWNEv
import Derived.Test.YtodmaebgogjpdaaWMore
namespace Go.Proofs.Ytodmaebgogjpdaa.PFnExactLiveOk
open Go.RowKit Go.Proofs.YtodmaebgogjpdaaW.PrintWords Go.Proofs.YtodmaebgogjpdaaW.PrintLast Go.Proofs.YtodmaebgogjpdaaW.PrintMore
attribute [local go_sem] max2_int min2_int max_two min_two max_three min_three max_four min_four   -- for this text's walks alone
set_option linter.unusedVariables false
set_option linter.unusedSimpArgs false



def errW : Option Int → Value
 | none => .nilIface
 | some c => .iface 0 (.int .i64 c)
theorem errW_none : errW none = .nilIface := rfl
theorem errW_some (c : Int) : errW (some c) = .iface 0 (.int .i64 c) := rfl

theorem info3 : (Try.prog.info? 3).map (fun i => (i.zero, i.size, i.bytes)) = some (some (.int .i64 0), 1, 8) := by kernel_rfl
-- the values' own types

end Go.Proofs.Ytodmaebgogjpdaa.PFnExactLiveOk
