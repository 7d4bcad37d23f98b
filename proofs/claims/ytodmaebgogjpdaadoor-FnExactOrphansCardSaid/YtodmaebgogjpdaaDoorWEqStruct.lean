-- Struck down to what this claim's texts reach (wip/prune.py). Lean checks it.
import Derived.Test.YtodmaebgogjpdaaDoorWWords
import Derived.Laws.StructEq
/-! ### 53. '==' of structs as_ one Bool -/
namespace Go.Proofs.YtodmaebgogjpdaaDoorW.PrintWords
open Go.RowKit
section
variable {P : Program} {d : Nat} {xs ys : Array Value} {f : Field} {fs : List Field} {a b : Value} {r s : Bool} {w : World}
end
end Go.Proofs.YtodmaebgogjpdaaDoorW.PrintWords
