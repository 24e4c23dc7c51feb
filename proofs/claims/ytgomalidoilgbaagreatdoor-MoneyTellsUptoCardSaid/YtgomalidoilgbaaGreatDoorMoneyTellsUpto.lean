/- Proved: for every realm, state, holder and deed, rialtolaw30.MoneyTells returns true, and the arguments read behind the call as they read before. Conditions: those of the given card alone (what is read is of bulk at most 1048576; the listed variables hold what the program's text lays). -/
import Derived.Test.YtgomalidoilgbaaGreatDoorMak
import Derived.Test.YtgomalidoilgbaaGreatDoorCards
import Derived.Test.YtgomalidoilgbaaGreatDoorTie
import Derived.ProofKit
import Derived.OpenShut
import Derived.Deep.DeepHandedRow
section
namespace Go.Proofs.YtgomalidoilgbaaGreatDoor.fnMoneyTells
open Go.ChangeShapes Go.WideShapes Go.ChangeAt Go.RowKit Go.Ev
theorem card : Rows.MoneyTellsUptoCardSaid :=
  Claim7.holds_tied_plain_at .later [] _ _ _ _ said (fun _ h => by cases h) cwf (fun _ h => by cases h) moneyTellsUpto_row_tie rfl ⟨rfl, rfl⟩ (by rw [peq]; exact cmain) rfl plain (by rw [peq]; exact cgoes)
end Go.Proofs.YtgomalidoilgbaaGreatDoor.fnMoneyTells
end
section
namespace Go.Proofs.YtgomalidoilgbaaGreatDoor
theorem moneyTellsUpto_holds : Rows.MoneyTellsUptoCardSaid := fnMoneyTells.card
#print axioms moneyTellsUpto_holds
end Go.Proofs.YtgomalidoilgbaaGreatDoor
end
