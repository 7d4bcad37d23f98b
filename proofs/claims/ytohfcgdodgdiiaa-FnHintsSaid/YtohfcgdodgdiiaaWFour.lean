-- Struck down to what this claim's texts reach (wip/strike.py). Lean checks it.
import Derived.Test.YtohfcgdodgdiiaaWTab
namespace Go.Proofs.YtohfcgdodgdiiaaW.PrintLast
section
variable {P : Program} {ops : Array Oper} {Q : Exit → Act → World → Prop} {md : Region.Mode} {S : World → Prop} {ds : List Nat} {T : Bool × List (List Nat × List Nat)}
end
end Go.Proofs.YtohfcgdodgdiiaaW.PrintLast
