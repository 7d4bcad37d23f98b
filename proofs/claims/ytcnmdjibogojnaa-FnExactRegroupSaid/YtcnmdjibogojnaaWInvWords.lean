-- Struck down to what this claim's texts reach (wip/prune.py). Lean checks it.
import Derived.Test.YtcnmdjibogojnaaWInv
import Derived.Test.YtcnmdjibogojnaaWFootNe
namespace Go.Proofs.YtcnmdjibogojnaaW.PrintWords
open Go.RowKit
end Go.Proofs.YtcnmdjibogojnaaW.PrintWords
namespace Go.Proofs.YtcnmdjibogojnaaW.PrintLast
section
variable {ops : Array Oper} {a : Act} {o og : Oper} {g : Nat} {t : Tmp} {u : Bool}
end
end Go.Proofs.YtcnmdjibogojnaaW.PrintLast
