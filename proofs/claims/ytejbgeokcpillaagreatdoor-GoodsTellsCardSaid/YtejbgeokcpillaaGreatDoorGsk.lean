import Derived.Test.YtejbgeokcpillaaGreatDoorGsj
import Derived.Test.YtejbgeokcpillaaGreatDoorCards
import Derived.Test.YtejbgeokcpillaaGreatDoorTie
import Derived.ProofKit
import Derived.OpenShut
import Derived.Deep.DeepHandedRow
section
namespace Go.Proofs.YtejbgeokcpillaaGreatDoor.fnGoodsTells
open Go.ChangeShapes Go.WideShapes Go.ChangeAt Go.RowKit Go.Ev
theorem cgoes : false = Rows.goodsTellsRow.goesBy Tryz.prog := by kernel_rfl
end Go.Proofs.YtejbgeokcpillaaGreatDoor.fnGoodsTells
end
