-- Struck down to what this claim's texts reach (wip/prune.py). Lean checks it.
import Derived.Test.YtjcjijkgnkifeaaWInv
import Derived.Test.YtjcjijkgnkifeaaWFootNe
namespace Go.Proofs.YtjcjijkgnkifeaaW.PrintWords
open Go.RowKit
end Go.Proofs.YtjcjijkgnkifeaaW.PrintWords
namespace Go.Proofs.YtjcjijkgnkifeaaW.PrintLast
section
variable {ops : Array Oper} {a : Act} {o og : Oper} {g : Nat} {t : Tmp} {u : Bool}
end
end Go.Proofs.YtjcjijkgnkifeaaW.PrintLast
