/-
  DERIVED. GIVEN WITH THE SEED: THE CARDS: each row of YtejbgeokcpillaaGreatDoorRows.lean that lists a variable, with what it lists TIED to the program's text (the seventh form; the later family's looks); each row that meets fmt, with fmt's text TOLD by the authors' own Lean function (tested against real Go, not proved from fmt's source: count such statements apart). THE CARD IS WHAT COUNTS. Prove the row's statement (the work); the ties are given (YtejbgeokcpillaaGreatDoorTie.lean); close each card by the builder's one call (the guide's Derived/Test/ToyasCard.lean, 'card_holds'). Laid BY PROGRAM, IN A SANDBOX (cutbox-door.mjs). By AI agents, Wed Nov 11 2026. No macro, syntax, notation, axiom, sorry.
-/
import Derived.Test.YtejbgeokcpillaaGreatDoorRows
import GoSem.ClaimSeven
namespace Go.Proofs.YtejbgeokcpillaaGreatDoor
namespace Rows

/-- THE TIED CARD OF 'rialtolaw29.GoodsTells'. -/
def goodsTellsCard : Claim7 := { stood := { row := goodsTellsRow, standIns := [], harness := (true, "d2e17cb01c7d679350b118ad678c4480586c346154307f502e69defa41a1fcd5"), looks := false }, kinds := [], alts := [], laidByText := true, laidKinds := [.data, .pinned], laidTests := true, laidLooks := .later }
def GoodsTellsCardSaid : Prop := Claim7.holds Tryz.pinned (.plain (OpenSpec.ofChange goodsTellsSpec)) goodsTellsCard

/-- THE TIED CARD OF 'rialtolaw29.GoodsRests'. -/
def goodsRestsCard : Claim7 := { stood := { row := goodsRestsRow, standIns := [], harness := (true, "d2e17cb01c7d679350b118ad678c4480586c346154307f502e69defa41a1fcd5"), looks := false }, kinds := [], alts := [], laidByText := true, laidKinds := [.data, .pinned], laidTests := true, laidLooks := .later }
def GoodsRestsCardSaid : Prop := Claim7.holds Tryz.pinned (.plain (OpenSpec.ofChange goodsRestsSpec)) goodsRestsCard

/-- THE TIED CARD OF 'rialtolaw29.GoodsAlike'. -/
def goodsAlikeCard : Claim7 := { stood := { row := goodsAlikeRow, standIns := [], harness := (true, "d2e17cb01c7d679350b118ad678c4480586c346154307f502e69defa41a1fcd5"), looks := false }, kinds := [], alts := [], laidByText := true, laidKinds := [.data, .pinned], laidTests := true, laidLooks := .later }
def GoodsAlikeCardSaid : Prop := Claim7.holds Tryz.pinned (.plain (OpenSpec.ofChange goodsAlikeSpec)) goodsAlikeCard

/-- THE SECOND FORM's CARD OF 'rialtolaw29.GoodsTells'. -/
def goodsTellsUptoCard : Claim7 := { stood := { row := goodsTellsUptoRow, standIns := [], harness := (true, "d2e17cb01c7d679350b118ad678c4480586c346154307f502e69defa41a1fcd5"), looks := false }, kinds := [], alts := [], laidByText := true, laidKinds := [.data, .pinned], laidTests := true, laidLooks := .later }
def GoodsTellsUptoCardSaid : Prop := Claim7.holds Tryz.pinned (.plain (OpenSpec.upto goodsTellsSpec)) goodsTellsUptoCard

/-- THE SECOND FORM's CARD OF 'rialtolaw29.GoodsRests'. -/
def goodsRestsUptoCard : Claim7 := { stood := { row := goodsRestsUptoRow, standIns := [], harness := (true, "d2e17cb01c7d679350b118ad678c4480586c346154307f502e69defa41a1fcd5"), looks := false }, kinds := [], alts := [], laidByText := true, laidKinds := [.data, .pinned], laidTests := true, laidLooks := .later }
def GoodsRestsUptoCardSaid : Prop := Claim7.holds Tryz.pinned (.plain (OpenSpec.upto goodsRestsSpec)) goodsRestsUptoCard

/-- THE SECOND FORM's CARD OF 'rialtolaw29.GoodsAlike'. -/
def goodsAlikeUptoCard : Claim7 := { stood := { row := goodsAlikeUptoRow, standIns := [], harness := (true, "d2e17cb01c7d679350b118ad678c4480586c346154307f502e69defa41a1fcd5"), looks := false }, kinds := [], alts := [], laidByText := true, laidKinds := [.data, .pinned], laidTests := true, laidLooks := .later }
def GoodsAlikeUptoCardSaid : Prop := Claim7.holds Tryz.pinned (.plain (OpenSpec.upto goodsAlikeSpec)) goodsAlikeUptoCard
end Rows
end Go.Proofs.YtejbgeokcpillaaGreatDoor
