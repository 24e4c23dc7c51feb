/-
  DERIVED. GIVEN WITH THE SEED: THE CARDS: each row of YticimhklggikiaaDoorRows.lean that lists a variable, with what it lists TIED to the program's text (the seventh form; the later family's looks); each row that meets fmt, with fmt's text TOLD by the authors' own Lean function (tested against real Go, not proved from fmt's source: count such statements apart). THE CARD IS WHAT COUNTS. Prove the row's statement (the work); the ties are given (YticimhklggikiaaDoorTie.lean); close each card by the builder's one call (the guide's Derived/Test/ToyasCard.lean, 'card_holds'). Laid BY PROGRAM, IN A SANDBOX (cutbox-door.mjs). By AI agents, Wed Nov 11 2026. No macro, syntax, notation, axiom, sorry.
-/
import Derived.Test.YticimhklggikiaaDoorRows
import GoSem.ClaimSeven
namespace Go.Proofs.YticimhklggikiaaDoor
namespace Rows

/-- THE TIED CARD OF 'rialtolaw24.BoundTells'. -/
def boundTellsCard : Claim7 := { stood := { row := boundTellsRow, standIns := [], harness := (true, "7151744952e9d24c58ab17b4be0f208785db5a86ed0e7ee2fd16c419c5596133"), looks := false }, kinds := [], alts := [], laidByText := true, laidKinds := [.data], laidTests := true, laidLooks := .later }
def BoundTellsCardSaid : Prop := Claim7.holds Tryd.pinned (.plain (OpenSpec.ofChange boundTellsSpec)) boundTellsCard

/-- THE TIED CARD OF 'rialtolaw24.BoundFits'. -/
def boundFitsCard : Claim7 := { stood := { row := boundFitsRow, standIns := [], harness := (true, "7151744952e9d24c58ab17b4be0f208785db5a86ed0e7ee2fd16c419c5596133"), looks := false }, kinds := [], alts := [], laidByText := true, laidKinds := [.data], laidTests := true, laidLooks := .later }
def BoundFitsCardSaid : Prop := Claim7.holds Tryd.pinned (.plain (OpenSpec.ofChange boundFitsSpec)) boundFitsCard

/-- THE SECOND FORM's CARD OF 'rialtolaw24.BoundTells'. -/
def boundTellsUptoCard : Claim7 := { stood := { row := boundTellsUptoRow, standIns := [], harness := (true, "7151744952e9d24c58ab17b4be0f208785db5a86ed0e7ee2fd16c419c5596133"), looks := false }, kinds := [], alts := [], laidByText := true, laidKinds := [.data], laidTests := true, laidLooks := .later }
def BoundTellsUptoCardSaid : Prop := Claim7.holds Tryd.pinned (.plain (OpenSpec.upto boundTellsSpec)) boundTellsUptoCard

/-- THE SECOND FORM's CARD OF 'rialtolaw24.BoundFits'. -/
def boundFitsUptoCard : Claim7 := { stood := { row := boundFitsUptoRow, standIns := [], harness := (true, "7151744952e9d24c58ab17b4be0f208785db5a86ed0e7ee2fd16c419c5596133"), looks := false }, kinds := [], alts := [], laidByText := true, laidKinds := [.data], laidTests := true, laidLooks := .later }
def BoundFitsUptoCardSaid : Prop := Claim7.holds Tryd.pinned (.plain (OpenSpec.upto boundFitsSpec)) boundFitsUptoCard
end Rows
end Go.Proofs.YticimhklggikiaaDoor
