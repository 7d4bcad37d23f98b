-- Laid by a program of this session, a copy of the kit's printer with additions (wip/patch_print.py): myhead. Lean checks it.
import Derived.Test.YtokljpgdjgphlaaProg
import Derived.Below
import Derived.Deep.Draws
import Derived.Deep.AppendLies
import Derived.Maps.AppendAt
import Derived.OwnWalk
import Derived.Laws.BytesArg
import Derived.Laws.MakeOwn
import Derived.Laws.OwnMore
import Derived.Deep.OwnRows
import Derived.Tactics
import Derived.Lib.ConvBytes
import Derived.Laws.Slices
import Derived.WalkKit
import Derived.KernelRfl
import Derived.RowKit3
import Derived.Deep.LoopGhost
import Derived.Deep.QuietTactic
import Derived.BigQuiet
import Derived.WideLaws
import Derived.Deep.DeepCutAuto
import Derived.Deep.CutBlock
import Derived.Deep.RegionHeld3
import Derived.Laws.Rows
import Derived.Lib.AppendStr
import Derived.ArgAppend
import Derived.Laws.IdiomCopy
import Derived.OrdersHeld
import Derived.Laws.BitsLemmas
import Derived.RowKit
import Derived.Test.YtokljpgdjgphlaaWWords
import Derived.Test.YtokljpgdjgphlaaWLast
import Derived.Test.YtokljpgdjgphlaaWTab
import Derived.Test.YtokljpgdjgphlaaWFour
import Derived.Test.YtokljpgdjgphlaaWQPut
import Derived.Test.YtokljpgdjgphlaaWApart
import Derived.Test.YtokljpgdjgphlaaWArr
import Derived.Test.YtokljpgdjgphlaaWZeros
import Derived.Test.YtokljpgdjgphlaaWFoot
import Derived.Test.YtokljpgdjgphlaaWKept
import Derived.Test.YtokljpgdjgphlaaWShare
import Derived.Test.YtokljpgdjgphlaaWN
import Derived.Test.YtokljpgdjgphlaaWFootNe
import Derived.Test.YtokljpgdjgphlaaWAt
import Derived.Test.YtokljpgdjgphlaaWEqStruct
import Derived.Test.YtokljpgdjgphlaaWRepsOne
import Derived.Test.YtokljpgdjgphlaaWInv
import Derived.Test.YtokljpgdjgphlaaWInvWords
import Derived.Test.YtokljpgdjgphlaaWGuard
import Derived.Test.YtokljpgdjgphlaaWNEv
import Derived.Test.YtokljpgdjgphlaaWMore
namespace Go.Proofs.Ytokljpgdjgphlaa.PFnExactRecOk
open Go.RowKit Go.Proofs.YtokljpgdjgphlaaW.PrintWords Go.Proofs.YtokljpgdjgphlaaW.PrintLast Go.Proofs.YtokljpgdjgphlaaW.PrintMore
attribute [local go_sem] max2_int min2_int max_two min_two max_three min_three max_four min_four   -- for this text's walks alone
set_option linter.unusedVariables false
set_option linter.unusedSimpArgs false



def errW : Option Int → Value
 | none => .nilIface
 | some c => .iface 0 (.int .i64 c)
theorem errW_none : errW none = .nilIface := rfl
theorem errW_some (c : Int) : errW (some c) = .iface 0 (.int .i64 c) := rfl

-- the values' own types

end Go.Proofs.Ytokljpgdjgphlaa.PFnExactRecOk
