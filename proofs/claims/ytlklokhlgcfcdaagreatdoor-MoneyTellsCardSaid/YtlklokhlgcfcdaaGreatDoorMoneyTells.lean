/- Proved: for every realm, state, holder and deed, rialtolaw30.MoneyTells returns true, and the arguments read behind the call as they read before. Conditions: those of the given card alone (the listed variables hold what the program's text lays). -/
import Derived.Test.YtlklokhlgcfcdaaGreatDoorMtk
import Derived.Test.YtlklokhlgcfcdaaGreatDoorCards
import Derived.Test.YtlklokhlgcfcdaaGreatDoorTie
import Derived.ProofKit
import Derived.OpenShut
import Derived.Deep.DeepHandedRow
section
namespace Go.Proofs.YtlklokhlgcfcdaaGreatDoor.fnMoneyTells
open Go.ChangeShapes Go.WideShapes Go.ChangeAt Go.RowKit Go.Ev
theorem card : Rows.MoneyTellsCardSaid :=
  Claim7.holds_tied_plain_at .later [] _ _ _ _ said (fun _ h => by cases h) cwf (fun _ h => by cases h) moneyTells_row_tie rfl ⟨rfl, rfl⟩ (by rw [peq]; exact cmain) rfl plain (by rw [peq]; exact cgoes)
end Go.Proofs.YtlklokhlgcfcdaaGreatDoor.fnMoneyTells
end
section
namespace Go.Proofs.YtlklokhlgcfcdaaGreatDoor
theorem moneyTells_holds : Rows.MoneyTellsCardSaid := fnMoneyTells.card
#print axioms moneyTells_holds
end Go.Proofs.YtlklokhlgcfcdaaGreatDoor
end
