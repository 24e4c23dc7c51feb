/-
  DERIVED. GIVEN WITH THE SEED: THE CARDS: each row of YtaokpakfhdeiiaaGreatDoorRows.lean that lists a variable, with what it lists TIED to the program's text (the seventh form; the later family's looks); each row that meets fmt, with fmt's text TOLD by the authors' own Lean function (tested against real Go, not proved from fmt's source: count such statements apart). THE CARD IS WHAT COUNTS. Prove the row's statement (the work); the ties are given (YtaokpakfhdeiiaaGreatDoorTie.lean); close each card by the builder's one call (the guide's Derived/Test/ToyasCard.lean, 'card_holds'). Laid BY PROGRAM, IN A SANDBOX (cutbox-door.mjs). By AI agents, Wed Nov 11 2026. No macro, syntax, notation, axiom, sorry.
-/
import Derived.Test.YtaokpakfhdeiiaaGreatDoorRows
import GoSem.ClaimSeven
namespace Go.Proofs.YtaokpakfhdeiiaaGreatDoor
namespace Rows

/-- THE TIED CARD OF 'rialtolaw21.StateTells'. -/
def stateTellsCard : Claim7 := { stood := { row := stateTellsRow, standIns := [], harness := (true, "1a3398d2add0bb1d5aeb834fadbd167e3da5aa31ff4b754100af7fc8f54855ac"), looks := false }, kinds := [], alts := [], laidByText := true, laidKinds := [.data, .data, .pinned], laidTests := true, laidLooks := .later }
def StateTellsCardSaid : Prop := Claim7.holds Tryz.pinned (.plain (OpenSpec.ofChange stateTellsSpec)) stateTellsCard

/-- THE TIED CARD OF 'rialtolaw21.StateSame'. -/
def stateSameCard : Claim7 := { stood := { row := stateSameRow, standIns := [], harness := (true, "1a3398d2add0bb1d5aeb834fadbd167e3da5aa31ff4b754100af7fc8f54855ac"), looks := false }, kinds := [], alts := [], laidByText := true, laidKinds := [.data, .data, .pinned], laidTests := true, laidLooks := .later }
def StateSameCardSaid : Prop := Claim7.holds Tryz.pinned (.plain (OpenSpec.ofChange stateSameSpec)) stateSameCard

/-- THE TIED CARD OF 'rialtolaw21.StateNew'. -/
def stateNewCard : Claim7 := { stood := { row := stateNewRow, standIns := [], harness := (true, "1a3398d2add0bb1d5aeb834fadbd167e3da5aa31ff4b754100af7fc8f54855ac"), looks := false }, kinds := [], alts := [], laidByText := true, laidKinds := [.data, .data, .pinned], laidTests := true, laidLooks := .later }
def StateNewCardSaid : Prop := Claim7.holds Tryz.pinned (.plain (OpenSpec.ofChange stateNewSpec)) stateNewCard

/-- THE TIED CARD OF 'rialtolaw21.StateMe'. -/
def stateMeCard : Claim7 := { stood := { row := stateMeRow, standIns := [], harness := (true, "1a3398d2add0bb1d5aeb834fadbd167e3da5aa31ff4b754100af7fc8f54855ac"), looks := false }, kinds := [], alts := [], laidByText := true, laidKinds := [.data, .data, .pinned], laidTests := true, laidLooks := .later }
def StateMeCardSaid : Prop := Claim7.holds Tryz.pinned (.plain (OpenSpec.ofChange stateMeSpec)) stateMeCard

/-- THE TIED CARD OF 'rialtolaw21.StateHolds'. -/
def stateHoldsCard : Claim7 := { stood := { row := stateHoldsRow, standIns := [], harness := (true, "1a3398d2add0bb1d5aeb834fadbd167e3da5aa31ff4b754100af7fc8f54855ac"), looks := false }, kinds := [], alts := [], laidByText := true, laidKinds := [.data, .data, .pinned], laidTests := true, laidLooks := .later }
def StateHoldsCardSaid : Prop := Claim7.holds Tryz.pinned (.plain (OpenSpec.ofChange stateHoldsSpec)) stateHoldsCard

/-- THE SECOND FORM's CARD OF 'rialtolaw21.StateTells'. -/
def stateTellsUptoCard : Claim7 := { stood := { row := stateTellsUptoRow, standIns := [], harness := (true, "1a3398d2add0bb1d5aeb834fadbd167e3da5aa31ff4b754100af7fc8f54855ac"), looks := false }, kinds := [], alts := [], laidByText := true, laidKinds := [.data, .data, .pinned], laidTests := true, laidLooks := .later }
def StateTellsUptoCardSaid : Prop := Claim7.holds Tryz.pinned (.plain (OpenSpec.upto stateTellsSpec)) stateTellsUptoCard

/-- THE SECOND FORM's CARD OF 'rialtolaw21.StateSame'. -/
def stateSameUptoCard : Claim7 := { stood := { row := stateSameUptoRow, standIns := [], harness := (true, "1a3398d2add0bb1d5aeb834fadbd167e3da5aa31ff4b754100af7fc8f54855ac"), looks := false }, kinds := [], alts := [], laidByText := true, laidKinds := [.data, .data, .pinned], laidTests := true, laidLooks := .later }
def StateSameUptoCardSaid : Prop := Claim7.holds Tryz.pinned (.plain (OpenSpec.upto stateSameSpec)) stateSameUptoCard

/-- THE SECOND FORM's CARD OF 'rialtolaw21.StateNew'. -/
def stateNewUptoCard : Claim7 := { stood := { row := stateNewUptoRow, standIns := [], harness := (true, "1a3398d2add0bb1d5aeb834fadbd167e3da5aa31ff4b754100af7fc8f54855ac"), looks := false }, kinds := [], alts := [], laidByText := true, laidKinds := [.data, .data, .pinned], laidTests := true, laidLooks := .later }
def StateNewUptoCardSaid : Prop := Claim7.holds Tryz.pinned (.plain (OpenSpec.upto stateNewSpec)) stateNewUptoCard

/-- THE SECOND FORM's CARD OF 'rialtolaw21.StateMe'. -/
def stateMeUptoCard : Claim7 := { stood := { row := stateMeUptoRow, standIns := [], harness := (true, "1a3398d2add0bb1d5aeb834fadbd167e3da5aa31ff4b754100af7fc8f54855ac"), looks := false }, kinds := [], alts := [], laidByText := true, laidKinds := [.data, .data, .pinned], laidTests := true, laidLooks := .later }
def StateMeUptoCardSaid : Prop := Claim7.holds Tryz.pinned (.plain (OpenSpec.upto stateMeSpec)) stateMeUptoCard

/-- THE SECOND FORM's CARD OF 'rialtolaw21.StateHolds'. -/
def stateHoldsUptoCard : Claim7 := { stood := { row := stateHoldsUptoRow, standIns := [], harness := (true, "1a3398d2add0bb1d5aeb834fadbd167e3da5aa31ff4b754100af7fc8f54855ac"), looks := false }, kinds := [], alts := [], laidByText := true, laidKinds := [.data, .data, .pinned], laidTests := true, laidLooks := .later }
def StateHoldsUptoCardSaid : Prop := Claim7.holds Tryz.pinned (.plain (OpenSpec.upto stateHoldsSpec)) stateHoldsUptoCard
end Rows
end Go.Proofs.YtaokpakfhdeiiaaGreatDoor
