-- Struck down to what this claim's texts reach (wip/strike.py). Lean checks it.
import Derived.Test.YtohfcgdodgdiiaaWN
namespace Go.Proofs.YtohfcgdodgdiiaaW.PrintWords
open Go.RowKit
namespace Kd
section
variable {α : Type} {d : Kd α} {W : World} {g n : Nat} {S ok : Nat → Prop} {A : Option Addr} {ad : Addr} {xs : List α}
end
end Kd
end Go.Proofs.YtohfcgdodgdiiaaW.PrintWords
