/- Proved: for every realm, state, holder and deed, rialtolaw29.GoodsTells returns true, and the arguments read behind the call as they read before. Conditions: those of the given card alone (the listed variables hold what the program's text lays). -/
import Derived.Test.YtejbgeokcpillaaGreatDoorGsk
import Derived.Test.YtejbgeokcpillaaGreatDoorCards
import Derived.Test.YtejbgeokcpillaaGreatDoorTie
import Derived.ProofKit
import Derived.OpenShut
import Derived.Deep.DeepHandedRow
section
namespace Go.Proofs.YtejbgeokcpillaaGreatDoor.fnGoodsTells
open Go.ChangeShapes Go.WideShapes Go.ChangeAt Go.RowKit Go.Ev
theorem card : Rows.GoodsTellsCardSaid :=
  Claim7.holds_tied_plain_at .later [] _ _ _ _ said (fun _ h => by cases h) cwf (fun _ h => by cases h) goodsTells_row_tie rfl ⟨rfl, rfl⟩ (by rw [peq]; exact cmain) rfl plain (by rw [peq]; exact cgoes)
end Go.Proofs.YtejbgeokcpillaaGreatDoor.fnGoodsTells
end
section
namespace Go.Proofs.YtejbgeokcpillaaGreatDoor
theorem goodsTells_holds : Rows.GoodsTellsCardSaid := fnGoodsTells.card
#print axioms goodsTells_holds
end Go.Proofs.YtejbgeokcpillaaGreatDoor
end
