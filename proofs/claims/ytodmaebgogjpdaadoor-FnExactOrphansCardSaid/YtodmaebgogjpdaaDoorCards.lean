/-
  DERIVED. GIVEN WITH THE SEED: THE CARDS: each row of YtodmaebgogjpdaaDoorRows.lean that lists a variable, with what it lists TIED to the program's text (the seventh form; the later family's looks); each row that meets fmt, with fmt's text TOLD by the authors' own Lean function (tested against real Go, not proved from fmt's source: count such statements apart). THE CARD IS WHAT COUNTS. Prove the row's statement (the work); the ties are given (YtodmaebgogjpdaaDoorTie.lean); close each card by the builder's one call (the guide's Derived/Test/ToyasCard.lean, 'card_holds'). Laid BY PROGRAM, IN A SANDBOX (cutbox-door.mjs). By AI agents, Wed Nov 11 2026. No macro, syntax, notation, axiom, sorry.
-/
import Derived.Test.YtodmaebgogjpdaaDoorRows
import GoSem.ClaimSeven
namespace Go.Proofs.YtodmaebgogjpdaaDoor
namespace Rows

/-- THE TIED CARD OF 'laws.FnExactOrphans'. -/
def fnExactOrphansCard : Claim7 := { stood := { row := fnExactOrphansRow, standIns := [], harness := (true, "92fd10f946d0e3ac9d6a0e28aab1513cc15501858ca84bc7eb42b8ff8a2ea509"), looks := true }, kinds := [], alts := [], laidByText := true, laidKinds := [.data, .data, .data, .sentinel, .sentinel], laidTests := true, laidLooks := .later }
def FnExactOrphansCardSaid : Prop := Claim7.holds Tryd.pinned (.plain (OpenSpec.ofChange fnExactOrphansSpec)) fnExactOrphansCard

/-- THE SECOND FORM's CARD OF 'laws.FnExactOrphans'. -/
def fnExactOrphansUptoCard : Claim7 := { stood := { row := fnExactOrphansUptoRow, standIns := [], harness := (true, "92fd10f946d0e3ac9d6a0e28aab1513cc15501858ca84bc7eb42b8ff8a2ea509"), looks := true }, kinds := [], alts := [], laidByText := true, laidKinds := [.data, .data, .data, .sentinel, .sentinel], laidTests := true, laidLooks := .later }
def FnExactOrphansUptoCardSaid : Prop := Claim7.holds Tryd.pinned (.plain (OpenSpec.upto fnExactOrphansSpec)) fnExactOrphansUptoCard
end Rows
end Go.Proofs.YtodmaebgogjpdaaDoor
