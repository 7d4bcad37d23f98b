-- Struck down to what this claim's texts reach (wip/prune.py). Lean checks it.
import Derived.Test.YtigbekefjbfopaaWInv
import Derived.Test.YtigbekefjbfopaaWFootNe
namespace Go.Proofs.YtigbekefjbfopaaW.PrintWords
open Go.RowKit
end Go.Proofs.YtigbekefjbfopaaW.PrintWords
namespace Go.Proofs.YtigbekefjbfopaaW.PrintLast
section
variable {ops : Array Oper} {a : Act} {o og : Oper} {g : Nat} {t : Tmp} {u : Bool}
end
end Go.Proofs.YtigbekefjbfopaaW.PrintLast
