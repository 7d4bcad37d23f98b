/-
  DERIVED. GIVEN WITH THE SEED: THE CARDS: each row of YtebeafcdabkkfabDoorRows.lean that lists a variable, with what it lists TIED to the program's text (the seventh form; the later family's looks); each row that meets fmt, with fmt's text TOLD by the authors' own Lean function (tested against real Go, not proved from fmt's source: count such statements apart). THE CARD IS WHAT COUNTS. Prove the row's statement (the work); the ties are given (YtebeafcdabkkfabDoorTie.lean); close each card by the builder's one call (the guide's Derived/Test/ToyasCard.lean, 'card_holds'). Laid BY PROGRAM, IN A SANDBOX (cutbox-door.mjs). By AI agents, Wed Nov 11 2026. No macro, syntax, notation, axiom, sorry.
-/
import Derived.Test.YtebeafcdabkkfabDoorRows
import GoSem.ClaimSeven
namespace Go.Proofs.YtebeafcdabkkfabDoor
namespace Rows

/-- THE TIED CARD OF 'laws.FnExactReadDec'. -/
def fnExactReadDecCard : Claim7 := { stood := { row := fnExactReadDecRow, standIns := [], harness := (true, "653435ad2ecd4dc32b82b3b42724938d9e64bcd10a288c9c65de3b7da48b52da"), looks := true }, kinds := [], alts := [], laidByText := true, laidKinds := [.data, .data, .data, .sentinel, .sentinel], laidTests := true, laidLooks := .later }
def FnExactReadDecCardSaid : Prop := Claim7.holds Tryd.pinned (.plain (OpenSpec.ofChange fnExactReadDecSpec)) fnExactReadDecCard

/-- THE TIED CARD OF 'laws.FnExactIdOf'. -/
def fnExactIdOfCard : Claim7 := { stood := { row := fnExactIdOfRow, standIns := [], harness := (true, "653435ad2ecd4dc32b82b3b42724938d9e64bcd10a288c9c65de3b7da48b52da"), looks := true }, kinds := [], alts := [], laidByText := true, laidKinds := [.data, .data, .data, .sentinel, .sentinel], laidTests := true, laidLooks := .later }
def FnExactIdOfCardSaid : Prop := Claim7.holds Tryd.pinned (.plain (OpenSpec.ofChange fnExactIdOfSpec)) fnExactIdOfCard

/-- THE SECOND FORM's CARD OF 'laws.FnExactReadDec'. -/
def fnExactReadDecUptoCard : Claim7 := { stood := { row := fnExactReadDecUptoRow, standIns := [], harness := (true, "653435ad2ecd4dc32b82b3b42724938d9e64bcd10a288c9c65de3b7da48b52da"), looks := true }, kinds := [], alts := [], laidByText := true, laidKinds := [.data, .data, .data, .sentinel, .sentinel], laidTests := true, laidLooks := .later }
def FnExactReadDecUptoCardSaid : Prop := Claim7.holds Tryd.pinned (.plain (OpenSpec.upto fnExactReadDecSpec)) fnExactReadDecUptoCard

/-- THE SECOND FORM's CARD OF 'laws.FnExactIdOf'. -/
def fnExactIdOfUptoCard : Claim7 := { stood := { row := fnExactIdOfUptoRow, standIns := [], harness := (true, "653435ad2ecd4dc32b82b3b42724938d9e64bcd10a288c9c65de3b7da48b52da"), looks := true }, kinds := [], alts := [], laidByText := true, laidKinds := [.data, .data, .data, .sentinel, .sentinel], laidTests := true, laidLooks := .later }
def FnExactIdOfUptoCardSaid : Prop := Claim7.holds Tryd.pinned (.plain (OpenSpec.upto fnExactIdOfSpec)) fnExactIdOfUptoCard
end Rows
end Go.Proofs.YtebeafcdabkkfabDoor
