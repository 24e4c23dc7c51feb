/- Proved: for every realm, state, holder, deed and label, rialtolaw30.MoneyRests returns true, and the arguments read behind the call as they read before. Conditions: those of the given card alone (the listed variables hold what the program's text lays). -/
import Derived.Test.YtokcjmkikhgkeaaGreatDoorMrj
import Derived.Test.YtokcjmkikhgkeaaGreatDoorCards
import Derived.Test.YtokcjmkikhgkeaaGreatDoorTie
import Derived.ProofKit
import Derived.OpenShut
import Derived.Deep.DeepHandedRow
section
namespace Go.Proofs.YtokcjmkikhgkeaaGreatDoor.fnMoneyRests
open Go.ChangeShapes Go.WideShapes Go.ChangeAt Go.RowKit Go.Ev
theorem card : Rows.MoneyRestsCardSaid :=
  Claim7.holds_tied_plain_at .later [] _ _ _ _ said (fun _ h => by cases h) cwf (fun _ h => by cases h) moneyRests_row_tie rfl ⟨rfl, rfl⟩ (by rw [peq]; exact cmain) rfl plain (by rw [peq]; exact cgoes)
end Go.Proofs.YtokcjmkikhgkeaaGreatDoor.fnMoneyRests
end
section
namespace Go.Proofs.YtokcjmkikhgkeaaGreatDoor
theorem moneyRests_holds : Rows.MoneyRestsCardSaid := fnMoneyRests.card
#print axioms moneyRests_holds
end Go.Proofs.YtokcjmkikhgkeaaGreatDoor
end
