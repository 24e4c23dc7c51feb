/-
  DERIVED. GIVEN WITH THE SEED: THE CARDS: each row of YtkcakhbkoeimdaaGreatDoorRows.lean that lists a variable, with what it lists TIED to the program's text (the seventh form; the later family's looks); each row that meets fmt, with fmt's text TOLD by the authors' own Lean function (tested against real Go, not proved from fmt's source: count such statements apart). THE CARD IS WHAT COUNTS. Prove the row's statement (the work); the ties are given (YtkcakhbkoeimdaaGreatDoorTie.lean); close each card by the builder's one call (the guide's Derived/Test/ToyasCard.lean, 'card_holds'). Laid BY PROGRAM, IN A SANDBOX (cutbox-door.mjs). By AI agents, Wed Nov 11 2026. No macro, syntax, notation, axiom, sorry.
-/
import Derived.Test.YtkcakhbkoeimdaaGreatDoorRows
import GoSem.ClaimSeven
namespace Go.Proofs.YtkcakhbkoeimdaaGreatDoor
namespace Rows

/-- THE TIED CARD OF 'rialtolaw31.TalkMails'. -/
def talkMailsCard : Claim7 := { stood := { row := talkMailsRow, standIns := [], harness := (true, "02adf9b48b4cc55bdb1887606cf5ecc14aed7a2f59c4bb0ad4b4f2eaf17bec0e"), looks := false }, kinds := [], alts := [], laidByText := true, laidKinds := [.data, .data, .pinned], laidTests := true, laidLooks := .later }
def TalkMailsCardSaid : Prop := Claim7.holds Tryz.pinned (.plain (OpenSpec.ofChange talkMailsSpec)) talkMailsCard

/-- THE TIED CARD OF 'rialtolaw31.TalkTells'. -/
def talkTellsCard : Claim7 := { stood := { row := talkTellsRow, standIns := [], harness := (true, "02adf9b48b4cc55bdb1887606cf5ecc14aed7a2f59c4bb0ad4b4f2eaf17bec0e"), looks := false }, kinds := [], alts := [], laidByText := true, laidKinds := [.data, .data, .pinned], laidTests := true, laidLooks := .later }
def TalkTellsCardSaid : Prop := Claim7.holds Tryz.pinned (.plain (OpenSpec.ofChange talkTellsSpec)) talkTellsCard

/-- THE TIED CARD OF 'rialtolaw31.TalkRests'. -/
def talkRestsCard : Claim7 := { stood := { row := talkRestsRow, standIns := [], harness := (true, "02adf9b48b4cc55bdb1887606cf5ecc14aed7a2f59c4bb0ad4b4f2eaf17bec0e"), looks := false }, kinds := [], alts := [], laidByText := true, laidKinds := [.data, .data, .pinned], laidTests := true, laidLooks := .later }
def TalkRestsCardSaid : Prop := Claim7.holds Tryz.pinned (.plain (OpenSpec.ofChange talkRestsSpec)) talkRestsCard

/-- THE TIED CARD OF 'rialtolaw31.TalkAlike'. -/
def talkAlikeCard : Claim7 := { stood := { row := talkAlikeRow, standIns := [], harness := (true, "02adf9b48b4cc55bdb1887606cf5ecc14aed7a2f59c4bb0ad4b4f2eaf17bec0e"), looks := false }, kinds := [], alts := [], laidByText := true, laidKinds := [.data, .data, .pinned], laidTests := true, laidLooks := .later }
def TalkAlikeCardSaid : Prop := Claim7.holds Tryz.pinned (.plain (OpenSpec.ofChange talkAlikeSpec)) talkAlikeCard

/-- THE SECOND FORM's CARD OF 'rialtolaw31.TalkMails'. -/
def talkMailsUptoCard : Claim7 := { stood := { row := talkMailsUptoRow, standIns := [], harness := (true, "02adf9b48b4cc55bdb1887606cf5ecc14aed7a2f59c4bb0ad4b4f2eaf17bec0e"), looks := false }, kinds := [], alts := [], laidByText := true, laidKinds := [.data, .data, .pinned], laidTests := true, laidLooks := .later }
def TalkMailsUptoCardSaid : Prop := Claim7.holds Tryz.pinned (.plain (OpenSpec.upto talkMailsSpec)) talkMailsUptoCard

/-- THE SECOND FORM's CARD OF 'rialtolaw31.TalkTells'. -/
def talkTellsUptoCard : Claim7 := { stood := { row := talkTellsUptoRow, standIns := [], harness := (true, "02adf9b48b4cc55bdb1887606cf5ecc14aed7a2f59c4bb0ad4b4f2eaf17bec0e"), looks := false }, kinds := [], alts := [], laidByText := true, laidKinds := [.data, .data, .pinned], laidTests := true, laidLooks := .later }
def TalkTellsUptoCardSaid : Prop := Claim7.holds Tryz.pinned (.plain (OpenSpec.upto talkTellsSpec)) talkTellsUptoCard

/-- THE SECOND FORM's CARD OF 'rialtolaw31.TalkRests'. -/
def talkRestsUptoCard : Claim7 := { stood := { row := talkRestsUptoRow, standIns := [], harness := (true, "02adf9b48b4cc55bdb1887606cf5ecc14aed7a2f59c4bb0ad4b4f2eaf17bec0e"), looks := false }, kinds := [], alts := [], laidByText := true, laidKinds := [.data, .data, .pinned], laidTests := true, laidLooks := .later }
def TalkRestsUptoCardSaid : Prop := Claim7.holds Tryz.pinned (.plain (OpenSpec.upto talkRestsSpec)) talkRestsUptoCard

/-- THE SECOND FORM's CARD OF 'rialtolaw31.TalkAlike'. -/
def talkAlikeUptoCard : Claim7 := { stood := { row := talkAlikeUptoRow, standIns := [], harness := (true, "02adf9b48b4cc55bdb1887606cf5ecc14aed7a2f59c4bb0ad4b4f2eaf17bec0e"), looks := false }, kinds := [], alts := [], laidByText := true, laidKinds := [.data, .data, .pinned], laidTests := true, laidLooks := .later }
def TalkAlikeUptoCardSaid : Prop := Claim7.holds Tryz.pinned (.plain (OpenSpec.upto talkAlikeSpec)) talkAlikeUptoCard
end Rows
end Go.Proofs.YtkcakhbkoeimdaaGreatDoor
