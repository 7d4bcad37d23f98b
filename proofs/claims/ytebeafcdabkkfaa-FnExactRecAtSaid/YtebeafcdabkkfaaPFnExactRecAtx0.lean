-- Laid by a program of this session, a copy of the kit's printer with additions (wip/patch_print.py): myhead. Lean checks it.
import Derived.Test.YtebeafcdabkkfaaProg
import Derived.Below
import Derived.Deep.Draws
import Derived.Deep.AppendLies
import Derived.Maps.AppendAt
import Derived.OwnWalk
import Derived.Laws.BytesArg
import Derived.Laws.MakeOwn
import Derived.Laws.OwnMore
import Derived.Deep.OwnRows
import Derived.Tactics
import Derived.Lib.ConvBytes
import Derived.Laws.Slices
import Derived.WalkKit
import Derived.KernelRfl
import Derived.RowKit3
import Derived.Deep.LoopGhost
import Derived.Deep.QuietTactic
import Derived.BigQuiet
import Derived.WideLaws
import Derived.Deep.DeepCutAuto
import Derived.Deep.CutBlock
import Derived.Deep.RegionHeld3
import Derived.Laws.Rows
import Derived.Lib.AppendStr
import Derived.ArgAppend
import Derived.Laws.IdiomCopy
import Derived.OrdersHeld
import Derived.Laws.BitsLemmas
import Derived.RowKit
import Derived.Test.YtebeafcdabkkfaaWWords
import Derived.Test.YtebeafcdabkkfaaWLast
import Derived.Test.YtebeafcdabkkfaaWTab
import Derived.Test.YtebeafcdabkkfaaWFour
import Derived.Test.YtebeafcdabkkfaaWQPut
import Derived.Test.YtebeafcdabkkfaaWApart
import Derived.Test.YtebeafcdabkkfaaWArr
import Derived.Test.YtebeafcdabkkfaaWZeros
import Derived.Test.YtebeafcdabkkfaaWFoot
import Derived.Test.YtebeafcdabkkfaaWKept
import Derived.Test.YtebeafcdabkkfaaWShare
import Derived.Test.YtebeafcdabkkfaaWN
import Derived.Test.YtebeafcdabkkfaaWFootNe
import Derived.Test.YtebeafcdabkkfaaWAt
import Derived.Test.YtebeafcdabkkfaaWEqStruct
import Derived.Test.YtebeafcdabkkfaaWRepsOne
import Derived.Test.YtebeafcdabkkfaaWInv
import Derived.Test.YtebeafcdabkkfaaWInvWords
import Derived.Test.YtebeafcdabkkfaaWGuard
import Derived.Test.YtebeafcdabkkfaaWNEv
import Derived.Test.YtebeafcdabkkfaaWMore
namespace Go.Proofs.Ytebeafcdabkkfaa.PFnExactRecAt
open Go.RowKit Go.Proofs.YtebeafcdabkkfaaW.PrintWords Go.Proofs.YtebeafcdabkkfaaW.PrintLast Go.Proofs.YtebeafcdabkkfaaW.PrintMore
attribute [local go_sem] max2_int min2_int max_two min_two max_three min_three max_four min_four   -- for this text's walks alone
set_option linter.unusedVariables false
set_option linter.unusedSimpArgs false



def errW : Option Int → Value
  | none => .nilIface
  | some c => .iface 0 (.int .i64 c)
theorem errW_none : errW none = .nilIface := rfl
theorem errW_some (c : Int) : errW (some c) = .iface 0 (.int .i64 c) := rfl

theorem info5 : (Try.prog.info? 5).map (fun i => (i.zero, i.size, i.bytes)) = some (some (.int .u8 0), 1, 1) := by kernel_rfl
-- the values' own types

end Go.Proofs.Ytebeafcdabkkfaa.PFnExactRecAt
