/-
  DERIVED. GIVEN WITH THE SEED: THE CARDS: each row of YtgomalidoilgbaaGreatDoorRows.lean that lists a variable, with what it lists TIED to the program's text (the seventh form; the later family's looks); each row that meets fmt, with fmt's text TOLD by the authors' own Lean function (tested against real Go, not proved from fmt's source: count such statements apart). THE CARD IS WHAT COUNTS. Prove the row's statement (the work); the ties are given (YtgomalidoilgbaaGreatDoorTie.lean); close each card by the builder's one call (the guide's Derived/Test/ToyasCard.lean, 'card_holds'). Laid BY PROGRAM, IN A SANDBOX (cutbox-door.mjs). By AI agents, Wed Nov 11 2026. No macro, syntax, notation, axiom, sorry.
-/
import Derived.Test.YtgomalidoilgbaaGreatDoorRows
import GoSem.ClaimSeven
namespace Go.Proofs.YtgomalidoilgbaaGreatDoor
namespace Rows

/-- THE TIED CARD OF 'rialtolaw21.StateSame'. -/
def stateSameCard : Claim7 := { stood := { row := stateSameRow, standIns := [], harness := (true, "9730b79be6524511e0875212da64a8a2fdd0f2e925b6e407886a6b836d7a02e8"), looks := false }, kinds := [], alts := [], laidByText := true, laidKinds := [.data, .data, .pinned], laidTests := true, laidLooks := .later }
def StateSameCardSaid : Prop := Claim7.holds Tryz.pinned (.plain (OpenSpec.ofChange stateSameSpec)) stateSameCard

/-- THE TIED CARD OF 'rialtolaw30.MoneyTells'. -/
def moneyTellsCard : Claim7 := { stood := { row := moneyTellsRow, standIns := [], harness := (true, "9730b79be6524511e0875212da64a8a2fdd0f2e925b6e407886a6b836d7a02e8"), looks := false }, kinds := [], alts := [], laidByText := true, laidKinds := [.data, .pinned], laidTests := true, laidLooks := .later }
def MoneyTellsCardSaid : Prop := Claim7.holds Tryz.pinned (.plain (OpenSpec.ofChange moneyTellsSpec)) moneyTellsCard

/-- THE TIED CARD OF 'rialtolaw30.MoneyUp'. -/
def moneyUpCard : Claim7 := { stood := { row := moneyUpRow, standIns := [], harness := (true, "9730b79be6524511e0875212da64a8a2fdd0f2e925b6e407886a6b836d7a02e8"), looks := false }, kinds := [], alts := [], laidByText := true, laidKinds := [.data, .pinned], laidTests := true, laidLooks := .later }
def MoneyUpCardSaid : Prop := Claim7.holds Tryz.pinned (.plain (OpenSpec.ofChange moneyUpSpec)) moneyUpCard

/-- THE TIED CARD OF 'rialtolaw24.BoundHolds'. -/
def boundHoldsCard : Claim7 := { stood := { row := boundHoldsRow, standIns := [], harness := (true, "9730b79be6524511e0875212da64a8a2fdd0f2e925b6e407886a6b836d7a02e8"), looks := false }, kinds := [], alts := [], laidByText := true, laidKinds := [.data, .data, .pinned], laidTests := true, laidLooks := .later }
def BoundHoldsCardSaid : Prop := Claim7.holds Tryz.pinned (.plain (OpenSpec.ofChange boundHoldsSpec)) boundHoldsCard

/-- THE TIED CARD OF 'rialtolaw29.GoodsTells'. -/
def goodsTellsCard : Claim7 := { stood := { row := goodsTellsRow, standIns := [], harness := (true, "9730b79be6524511e0875212da64a8a2fdd0f2e925b6e407886a6b836d7a02e8"), looks := false }, kinds := [], alts := [], laidByText := true, laidKinds := [.data, .pinned], laidTests := true, laidLooks := .later }
def GoodsTellsCardSaid : Prop := Claim7.holds Tryz.pinned (.plain (OpenSpec.ofChange goodsTellsSpec)) goodsTellsCard

/-- THE TIED CARD OF 'rialtolaw30.MoneyRests'. -/
def moneyRestsCard : Claim7 := { stood := { row := moneyRestsRow, standIns := [], harness := (true, "9730b79be6524511e0875212da64a8a2fdd0f2e925b6e407886a6b836d7a02e8"), looks := false }, kinds := [], alts := [], laidByText := true, laidKinds := [.data, .pinned], laidTests := true, laidLooks := .later }
def MoneyRestsCardSaid : Prop := Claim7.holds Tryz.pinned (.plain (OpenSpec.ofChange moneyRestsSpec)) moneyRestsCard

/-- THE TIED CARD OF 'rialtolaw30.MoneyAlike'. -/
def moneyAlikeCard : Claim7 := { stood := { row := moneyAlikeRow, standIns := [], harness := (true, "9730b79be6524511e0875212da64a8a2fdd0f2e925b6e407886a6b836d7a02e8"), looks := false }, kinds := [], alts := [], laidByText := true, laidKinds := [.data, .pinned], laidTests := true, laidLooks := .later }
def MoneyAlikeCardSaid : Prop := Claim7.holds Tryz.pinned (.plain (OpenSpec.ofChange moneyAlikeSpec)) moneyAlikeCard

/-- THE TIED CARD OF 'rialtolaw29.GoodsRests'. -/
def goodsRestsCard : Claim7 := { stood := { row := goodsRestsRow, standIns := [], harness := (true, "9730b79be6524511e0875212da64a8a2fdd0f2e925b6e407886a6b836d7a02e8"), looks := false }, kinds := [], alts := [], laidByText := true, laidKinds := [.data, .pinned], laidTests := true, laidLooks := .later }
def GoodsRestsCardSaid : Prop := Claim7.holds Tryz.pinned (.plain (OpenSpec.ofChange goodsRestsSpec)) goodsRestsCard

/-- THE TIED CARD OF 'rialtolaw29.GoodsAlike'. -/
def goodsAlikeCard : Claim7 := { stood := { row := goodsAlikeRow, standIns := [], harness := (true, "9730b79be6524511e0875212da64a8a2fdd0f2e925b6e407886a6b836d7a02e8"), looks := false }, kinds := [], alts := [], laidByText := true, laidKinds := [.data, .pinned], laidTests := true, laidLooks := .later }
def GoodsAlikeCardSaid : Prop := Claim7.holds Tryz.pinned (.plain (OpenSpec.ofChange goodsAlikeSpec)) goodsAlikeCard

/-- THE SECOND FORM's CARD OF 'rialtolaw21.StateSame'. -/
def stateSameUptoCard : Claim7 := { stood := { row := stateSameUptoRow, standIns := [], harness := (true, "9730b79be6524511e0875212da64a8a2fdd0f2e925b6e407886a6b836d7a02e8"), looks := false }, kinds := [], alts := [], laidByText := true, laidKinds := [.data, .data, .pinned], laidTests := true, laidLooks := .later }
def StateSameUptoCardSaid : Prop := Claim7.holds Tryz.pinned (.plain (OpenSpec.upto stateSameSpec)) stateSameUptoCard

/-- THE SECOND FORM's CARD OF 'rialtolaw30.MoneyTells'. -/
def moneyTellsUptoCard : Claim7 := { stood := { row := moneyTellsUptoRow, standIns := [], harness := (true, "9730b79be6524511e0875212da64a8a2fdd0f2e925b6e407886a6b836d7a02e8"), looks := false }, kinds := [], alts := [], laidByText := true, laidKinds := [.data, .pinned], laidTests := true, laidLooks := .later }
def MoneyTellsUptoCardSaid : Prop := Claim7.holds Tryz.pinned (.plain (OpenSpec.upto moneyTellsSpec)) moneyTellsUptoCard

/-- THE SECOND FORM's CARD OF 'rialtolaw30.MoneyUp'. -/
def moneyUpUptoCard : Claim7 := { stood := { row := moneyUpUptoRow, standIns := [], harness := (true, "9730b79be6524511e0875212da64a8a2fdd0f2e925b6e407886a6b836d7a02e8"), looks := false }, kinds := [], alts := [], laidByText := true, laidKinds := [.data, .pinned], laidTests := true, laidLooks := .later }
def MoneyUpUptoCardSaid : Prop := Claim7.holds Tryz.pinned (.plain (OpenSpec.upto moneyUpSpec)) moneyUpUptoCard

/-- THE SECOND FORM's CARD OF 'rialtolaw24.BoundHolds'. -/
def boundHoldsUptoCard : Claim7 := { stood := { row := boundHoldsUptoRow, standIns := [], harness := (true, "9730b79be6524511e0875212da64a8a2fdd0f2e925b6e407886a6b836d7a02e8"), looks := false }, kinds := [], alts := [], laidByText := true, laidKinds := [.data, .data, .pinned], laidTests := true, laidLooks := .later }
def BoundHoldsUptoCardSaid : Prop := Claim7.holds Tryz.pinned (.plain (OpenSpec.upto boundHoldsSpec)) boundHoldsUptoCard

/-- THE SECOND FORM's CARD OF 'rialtolaw29.GoodsTells'. -/
def goodsTellsUptoCard : Claim7 := { stood := { row := goodsTellsUptoRow, standIns := [], harness := (true, "9730b79be6524511e0875212da64a8a2fdd0f2e925b6e407886a6b836d7a02e8"), looks := false }, kinds := [], alts := [], laidByText := true, laidKinds := [.data, .pinned], laidTests := true, laidLooks := .later }
def GoodsTellsUptoCardSaid : Prop := Claim7.holds Tryz.pinned (.plain (OpenSpec.upto goodsTellsSpec)) goodsTellsUptoCard

/-- THE SECOND FORM's CARD OF 'rialtolaw30.MoneyRests'. -/
def moneyRestsUptoCard : Claim7 := { stood := { row := moneyRestsUptoRow, standIns := [], harness := (true, "9730b79be6524511e0875212da64a8a2fdd0f2e925b6e407886a6b836d7a02e8"), looks := false }, kinds := [], alts := [], laidByText := true, laidKinds := [.data, .pinned], laidTests := true, laidLooks := .later }
def MoneyRestsUptoCardSaid : Prop := Claim7.holds Tryz.pinned (.plain (OpenSpec.upto moneyRestsSpec)) moneyRestsUptoCard

/-- THE SECOND FORM's CARD OF 'rialtolaw30.MoneyAlike'. -/
def moneyAlikeUptoCard : Claim7 := { stood := { row := moneyAlikeUptoRow, standIns := [], harness := (true, "9730b79be6524511e0875212da64a8a2fdd0f2e925b6e407886a6b836d7a02e8"), looks := false }, kinds := [], alts := [], laidByText := true, laidKinds := [.data, .pinned], laidTests := true, laidLooks := .later }
def MoneyAlikeUptoCardSaid : Prop := Claim7.holds Tryz.pinned (.plain (OpenSpec.upto moneyAlikeSpec)) moneyAlikeUptoCard

/-- THE SECOND FORM's CARD OF 'rialtolaw29.GoodsRests'. -/
def goodsRestsUptoCard : Claim7 := { stood := { row := goodsRestsUptoRow, standIns := [], harness := (true, "9730b79be6524511e0875212da64a8a2fdd0f2e925b6e407886a6b836d7a02e8"), looks := false }, kinds := [], alts := [], laidByText := true, laidKinds := [.data, .pinned], laidTests := true, laidLooks := .later }
def GoodsRestsUptoCardSaid : Prop := Claim7.holds Tryz.pinned (.plain (OpenSpec.upto goodsRestsSpec)) goodsRestsUptoCard

/-- THE SECOND FORM's CARD OF 'rialtolaw29.GoodsAlike'. -/
def goodsAlikeUptoCard : Claim7 := { stood := { row := goodsAlikeUptoRow, standIns := [], harness := (true, "9730b79be6524511e0875212da64a8a2fdd0f2e925b6e407886a6b836d7a02e8"), looks := false }, kinds := [], alts := [], laidByText := true, laidKinds := [.data, .pinned], laidTests := true, laidLooks := .later }
def GoodsAlikeUptoCardSaid : Prop := Claim7.holds Tryz.pinned (.plain (OpenSpec.upto goodsAlikeSpec)) goodsAlikeUptoCard
end Rows
end Go.Proofs.YtgomalidoilgbaaGreatDoor
