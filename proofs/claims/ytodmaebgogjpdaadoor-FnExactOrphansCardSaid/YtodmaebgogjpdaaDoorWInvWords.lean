-- Struck down to what this claim's texts reach (wip/prune.py). Lean checks it.
import Derived.Test.YtodmaebgogjpdaaDoorWInv
import Derived.Test.YtodmaebgogjpdaaDoorWFootNe
namespace Go.Proofs.YtodmaebgogjpdaaDoorW.PrintWords
open Go.RowKit
end Go.Proofs.YtodmaebgogjpdaaDoorW.PrintWords
namespace Go.Proofs.YtodmaebgogjpdaaDoorW.PrintLast
section
variable {ops : Array Oper} {a : Act} {o og : Oper} {g : Nat} {t : Tmp} {u : Bool}
end
end Go.Proofs.YtodmaebgogjpdaaDoorW.PrintLast
