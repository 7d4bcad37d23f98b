-- Laid by a program of this session, a copy of the kit's printer with additions (wip/patch_print.py): myhead. Lean checks it.
import Derived.Test.YtodmaebgogjpdabProg
import Derived.Below
import Derived.Deep.Draws
import Derived.Deep.AppendLies
import Derived.Maps.AppendAt
import Derived.OwnWalk
import Derived.Laws.BytesArg
import Derived.Laws.MakeOwn
import Derived.Laws.OwnMore
import Derived.Deep.OwnRows
import Derived.Tactics
import Derived.Lib.ConvBytes
import Derived.Laws.Slices
import Derived.WalkKit
import Derived.KernelRfl
import Derived.RowKit3
import Derived.Deep.LoopGhost
import Derived.Deep.QuietTactic
import Derived.BigQuiet
import Derived.WideLaws
import Derived.Deep.DeepCutAuto
import Derived.Deep.CutBlock
import Derived.Deep.RegionHeld3
import Derived.Laws.Rows
import Derived.Lib.AppendStr
import Derived.ArgAppend
import Derived.Laws.IdiomCopy
import Derived.OrdersHeld
import Derived.Laws.BitsLemmas
import Derived.RowKit
import Derived.Test.YtodmaebgogjpdabWWords
import Derived.Test.YtodmaebgogjpdabWLast
import Derived.Test.YtodmaebgogjpdabWTab
import Derived.Test.YtodmaebgogjpdabWFour
import Derived.Test.YtodmaebgogjpdabWQPut
import Derived.Test.YtodmaebgogjpdabWApart
import Derived.Test.YtodmaebgogjpdabWArr
import Derived.Test.YtodmaebgogjpdabWZeros
import Derived.Test.YtodmaebgogjpdabWFoot
import Derived.Test.YtodmaebgogjpdabWKept
import Derived.Test.YtodmaebgogjpdabWShare
import Derived.Test.YtodmaebgogjpdabWN
import Derived.Test.YtodmaebgogjpdabWFootNe
import Derived.Test.YtodmaebgogjpdabWAt
import Derived.Test.YtodmaebgogjpdabWEqStruct
import Derived.Test.YtodmaebgogjpdabWRepsOne
import Derived.Test.YtodmaebgogjpdabWInv
import Derived.Test.YtodmaebgogjpdabWInvWords
import Derived.Test.YtodmaebgogjpdabWGuard
import Derived.Test.YtodmaebgogjpdabWNEv
import Derived.Test.YtodmaebgogjpdabWMore
namespace Go.Proofs.Ytodmaebgogjpdab.PFnExactShowLive
open Go.RowKit Go.Proofs.YtodmaebgogjpdabW.PrintWords Go.Proofs.YtodmaebgogjpdabW.PrintLast Go.Proofs.YtodmaebgogjpdabW.PrintMore
attribute [local go_sem] max2_int min2_int max_two min_two max_three min_three max_four min_four   -- for this text's walks alone
set_option linter.unusedVariables false
set_option linter.unusedSimpArgs false



def errW : Option Int → Value
 | none => .nilIface
 | some c => .iface 0 (.int .i64 c)
theorem errW_none : errW none = .nilIface := rfl
theorem errW_some (c : Int) : errW (some c) = .iface 0 (.int .i64 c) := rfl

theorem info3 : (Try.prog.info? 3).map (fun i => (i.zero, i.size, i.bytes)) = some (some (.int .i64 0), 1, 8) := by kernel_rfl
theorem info5 : (Try.prog.info? 5).map (fun i => (i.zero, i.size, i.bytes)) = some (some (.int .u8 0), 1, 1) := by kernel_rfl
-- the values' own types

end Go.Proofs.Ytodmaebgogjpdab.PFnExactShowLive
