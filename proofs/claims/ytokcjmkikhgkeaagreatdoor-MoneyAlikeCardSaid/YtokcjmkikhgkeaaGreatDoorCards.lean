/-
  DERIVED. GIVEN WITH THE SEED: THE CARDS: each row of YtokcjmkikhgkeaaGreatDoorRows.lean that lists a variable, with what it lists TIED to the program's text (the seventh form; the later family's looks); each row that meets fmt, with fmt's text TOLD by the authors' own Lean function (tested against real Go, not proved from fmt's source: count such statements apart). THE CARD IS WHAT COUNTS. Prove the row's statement (the work); the ties are given (YtokcjmkikhgkeaaGreatDoorTie.lean); close each card by the builder's one call (the guide's Derived/Test/ToyasCard.lean, 'card_holds'). Laid BY PROGRAM, IN A SANDBOX (cutbox-door.mjs). By AI agents, Wed Nov 11 2026. No macro, syntax, notation, axiom, sorry.
-/
import Derived.Test.YtokcjmkikhgkeaaGreatDoorRows
import GoSem.ClaimSeven
namespace Go.Proofs.YtokcjmkikhgkeaaGreatDoor
namespace Rows

/-- THE TIED CARD OF 'rialtolaw30.MoneyUp'. -/
def moneyUpCard : Claim7 := { stood := { row := moneyUpRow, standIns := [], harness := (true, "6ba7381c9c856cf0b3293bc3924e0fb9ca3437846bcb82da9a99988b8ba03b13"), looks := false }, kinds := [], alts := [], laidByText := true, laidKinds := [.data, .pinned], laidTests := true, laidLooks := .later }
def MoneyUpCardSaid : Prop := Claim7.holds Tryz.pinned (.plain (OpenSpec.ofChange moneyUpSpec)) moneyUpCard

/-- THE TIED CARD OF 'rialtolaw30.MoneyRests'. -/
def moneyRestsCard : Claim7 := { stood := { row := moneyRestsRow, standIns := [], harness := (true, "6ba7381c9c856cf0b3293bc3924e0fb9ca3437846bcb82da9a99988b8ba03b13"), looks := false }, kinds := [], alts := [], laidByText := true, laidKinds := [.data, .pinned], laidTests := true, laidLooks := .later }
def MoneyRestsCardSaid : Prop := Claim7.holds Tryz.pinned (.plain (OpenSpec.ofChange moneyRestsSpec)) moneyRestsCard

/-- THE TIED CARD OF 'rialtolaw30.MoneyAlike'. -/
def moneyAlikeCard : Claim7 := { stood := { row := moneyAlikeRow, standIns := [], harness := (true, "6ba7381c9c856cf0b3293bc3924e0fb9ca3437846bcb82da9a99988b8ba03b13"), looks := false }, kinds := [], alts := [], laidByText := true, laidKinds := [.data, .pinned], laidTests := true, laidLooks := .later }
def MoneyAlikeCardSaid : Prop := Claim7.holds Tryz.pinned (.plain (OpenSpec.ofChange moneyAlikeSpec)) moneyAlikeCard

/-- THE SECOND FORM's CARD OF 'rialtolaw30.MoneyUp'. -/
def moneyUpUptoCard : Claim7 := { stood := { row := moneyUpUptoRow, standIns := [], harness := (true, "6ba7381c9c856cf0b3293bc3924e0fb9ca3437846bcb82da9a99988b8ba03b13"), looks := false }, kinds := [], alts := [], laidByText := true, laidKinds := [.data, .pinned], laidTests := true, laidLooks := .later }
def MoneyUpUptoCardSaid : Prop := Claim7.holds Tryz.pinned (.plain (OpenSpec.upto moneyUpSpec)) moneyUpUptoCard

/-- THE SECOND FORM's CARD OF 'rialtolaw30.MoneyRests'. -/
def moneyRestsUptoCard : Claim7 := { stood := { row := moneyRestsUptoRow, standIns := [], harness := (true, "6ba7381c9c856cf0b3293bc3924e0fb9ca3437846bcb82da9a99988b8ba03b13"), looks := false }, kinds := [], alts := [], laidByText := true, laidKinds := [.data, .pinned], laidTests := true, laidLooks := .later }
def MoneyRestsUptoCardSaid : Prop := Claim7.holds Tryz.pinned (.plain (OpenSpec.upto moneyRestsSpec)) moneyRestsUptoCard

/-- THE SECOND FORM's CARD OF 'rialtolaw30.MoneyAlike'. -/
def moneyAlikeUptoCard : Claim7 := { stood := { row := moneyAlikeUptoRow, standIns := [], harness := (true, "6ba7381c9c856cf0b3293bc3924e0fb9ca3437846bcb82da9a99988b8ba03b13"), looks := false }, kinds := [], alts := [], laidByText := true, laidKinds := [.data, .pinned], laidTests := true, laidLooks := .later }
def MoneyAlikeUptoCardSaid : Prop := Claim7.holds Tryz.pinned (.plain (OpenSpec.upto moneyAlikeSpec)) moneyAlikeUptoCard
end Rows
end Go.Proofs.YtokcjmkikhgkeaaGreatDoor
