-- Struck down to what this claim's texts reach (wip/strike.py). Lean checks it.
import Derived.Test.YtohfcgdodgdiiaaWInv
import Derived.Test.YtohfcgdodgdiiaaWFootNe
namespace Go.Proofs.YtohfcgdodgdiiaaW.PrintWords
open Go.RowKit
end Go.Proofs.YtohfcgdodgdiiaaW.PrintWords
namespace Go.Proofs.YtohfcgdodgdiiaaW.PrintLast
section
variable {ops : Array Oper} {a : Act} {o og : Oper} {g : Nat} {t : Tmp} {u : Bool}
end
end Go.Proofs.YtohfcgdodgdiiaaW.PrintLast
