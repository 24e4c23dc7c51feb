/- Proved: for every two states, rialtolaw21.StateSame returns true, and the arguments read behind the call as they read before. Conditions: those of the given card alone (the listed variable math/bits.deBruijn64tab holds what the program's text lays). -/
import Derived.Test.YtlklokhlgcfcdaaGreatDoorSsj
import Derived.Test.YtlklokhlgcfcdaaGreatDoorCards
import Derived.Test.YtlklokhlgcfcdaaGreatDoorTie
import Derived.ProofKit
import Derived.OpenShut
import Derived.Deep.DeepHandedRow
import Derived.Lib.LaidTab
section
namespace Go.Proofs.YtlklokhlgcfcdaaGreatDoor.fnStateSame
open Go.ChangeShapes Go.WideShapes Go.ChangeAt Go.RowKit Go.Ev
theorem card : Rows.StateSameCardSaid :=
  Claim7.holds_tied_plain_at .later [] _ _ _ _ said (fun _ h => by cases h) cwf (fun _ h => by cases h) stateSame_row_tie rfl ⟨rfl, rfl⟩ (by rw [peq]; exact cmain) rfl plain (by rw [peq]; exact cgoes)
end Go.Proofs.YtlklokhlgcfcdaaGreatDoor.fnStateSame
end
section
namespace Go.Proofs.YtlklokhlgcfcdaaGreatDoor
theorem stateSame_holds : Rows.StateSameCardSaid := fnStateSame.card
#print axioms stateSame_holds
end Go.Proofs.YtlklokhlgcfcdaaGreatDoor
end
