/-
  DERIVED. GIVEN WITH THE SEED: THE CARDS: each row of YtebeafcdabkkfaaDoorRows.lean that lists a variable, with what it lists TIED to the program's text (the seventh form; the later family's looks); each row that meets fmt, with fmt's text TOLD by the authors' own Lean function (tested against real Go, not proved from fmt's source: count such statements apart). THE CARD IS WHAT COUNTS. Prove the row's statement (the work); the ties are given (YtebeafcdabkkfaaDoorTie.lean); close each card by the builder's one call (the guide's Derived/Test/ToyasCard.lean, 'card_holds'). Laid BY PROGRAM, IN A SANDBOX (cutbox-door.mjs). By AI agents, Wed Nov 11 2026. No macro, syntax, notation, axiom, sorry.
-/
import Derived.Test.YtebeafcdabkkfaaDoorRows
import GoSem.ClaimSeven
namespace Go.Proofs.YtebeafcdabkkfaaDoor
namespace Rows

/-- THE TIED CARD OF 'laws.FnExactHintName'. -/
def fnExactHintNameCard : Claim7 := { stood := { row := fnExactHintNameRow, standIns := [], harness := (true, "5c53e76dd5c595b3a6a7a0a826c8df2a0fedc2b3559218dff6077aad8855ee6d"), looks := false }, kinds := [], alts := [], laidByText := true, laidKinds := [.data, .data, .data], laidTests := true, laidLooks := .later }
def FnExactHintNameCardSaid : Prop := Claim7.holds Tryd.pinned (.plain (OpenSpec.ofChange fnExactHintNameSpec)) fnExactHintNameCard

/-- THE TIED CARD OF 'laws.FnExactSegName'. -/
def fnExactSegNameCard : Claim7 := { stood := { row := fnExactSegNameRow, standIns := [], harness := (true, "5c53e76dd5c595b3a6a7a0a826c8df2a0fedc2b3559218dff6077aad8855ee6d"), looks := false }, kinds := [], alts := [], laidByText := true, laidKinds := [.data, .data, .data], laidTests := true, laidLooks := .later }
def FnExactSegNameCardSaid : Prop := Claim7.holds Tryd.pinned (.plain (OpenSpec.ofChange fnExactSegNameSpec)) fnExactSegNameCard

/-- THE SECOND FORM's CARD OF 'laws.FnExactHintName'. -/
def fnExactHintNameUptoCard : Claim7 := { stood := { row := fnExactHintNameUptoRow, standIns := [], harness := (true, "5c53e76dd5c595b3a6a7a0a826c8df2a0fedc2b3559218dff6077aad8855ee6d"), looks := false }, kinds := [], alts := [], laidByText := true, laidKinds := [.data, .data, .data], laidTests := true, laidLooks := .later }
def FnExactHintNameUptoCardSaid : Prop := Claim7.holds Tryd.pinned (.plain (OpenSpec.upto fnExactHintNameSpec)) fnExactHintNameUptoCard

/-- THE SECOND FORM's CARD OF 'laws.FnExactSegName'. -/
def fnExactSegNameUptoCard : Claim7 := { stood := { row := fnExactSegNameUptoRow, standIns := [], harness := (true, "5c53e76dd5c595b3a6a7a0a826c8df2a0fedc2b3559218dff6077aad8855ee6d"), looks := false }, kinds := [], alts := [], laidByText := true, laidKinds := [.data, .data, .data], laidTests := true, laidLooks := .later }
def FnExactSegNameUptoCardSaid : Prop := Claim7.holds Tryd.pinned (.plain (OpenSpec.upto fnExactSegNameSpec)) fnExactSegNameUptoCard
end Rows
end Go.Proofs.YtebeafcdabkkfaaDoor
