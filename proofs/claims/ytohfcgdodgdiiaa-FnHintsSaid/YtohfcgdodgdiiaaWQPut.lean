-- Struck down to what this claim's texts reach (wip/strike.py). Lean checks it.
import Derived.Test.YtohfcgdodgdiiaaWWords
import Derived.Test.YtohfcgdodgdiiaaWLast
namespace Go.Proofs.YtohfcgdodgdiiaaW.PrintWords
open Go.RowKit
namespace Kd
section
variable {α : Type} {d : Kd α} {e base g o n cap : Nat} {ok okp : Nat → Prop} {w W : World} {v : Value} {xs : List α}
end
section
variable {α : Type} {enc : α → Value} {h1 : ∀ x, (enc x).oneCell' = true} {e base g o n cap : Nat} {ok : Nat → Prop} {W : World} {xs : List α}
end
end Kd
end Go.Proofs.YtohfcgdodgdiiaaW.PrintWords
