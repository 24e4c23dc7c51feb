/- Proved: for every realm, two states, holder, deed and label, rialtolaw30.MoneyAlike returns true, and the arguments read behind the call as they read before. Conditions: those of the given card alone (the listed variables hold what the program's text lays). -/
import Derived.Test.YtokcjmkikhgkeaaGreatDoorMak
import Derived.Test.YtokcjmkikhgkeaaGreatDoorCards
import Derived.Test.YtokcjmkikhgkeaaGreatDoorTie
import Derived.ProofKit
import Derived.OpenShut
import Derived.Deep.DeepHandedRow
section
namespace Go.Proofs.YtokcjmkikhgkeaaGreatDoor.fnMoneyAlike
open Go.ChangeShapes Go.WideShapes Go.ChangeAt Go.RowKit Go.Ev
theorem card : Rows.MoneyAlikeCardSaid :=
  Claim7.holds_tied_plain_at .later [] _ _ _ _ said (fun _ h => by cases h) cwf (fun _ h => by cases h) moneyAlike_row_tie rfl ⟨rfl, rfl⟩ (by rw [peq]; exact cmain) rfl plain (by rw [peq]; exact cgoes)
end Go.Proofs.YtokcjmkikhgkeaaGreatDoor.fnMoneyAlike
end
section
namespace Go.Proofs.YtokcjmkikhgkeaaGreatDoor
theorem moneyAlike_holds : Rows.MoneyAlikeCardSaid := fnMoneyAlike.card
#print axioms moneyAlike_holds
end Go.Proofs.YtokcjmkikhgkeaaGreatDoor
end
