import Derived.Test.YtejbgeokcpillaaGreatDoorGsh
import Derived.Test.YtejbgeokcpillaaGreatDoorCards
import Derived.Test.YtejbgeokcpillaaGreatDoorTie
import Derived.ProofKit
import Derived.OpenShut
import Derived.Deep.DeepHandedRow
section
namespace Go.Proofs.YtejbgeokcpillaaGreatDoor.fnGoodsTells
open Go.ChangeShapes Go.WideShapes Go.ChangeAt Go.RowKit Go.Ev
theorem cwf : Rows.goodsTellsRow.wfByText (OpenSpec.ofChange Rows.goodsTellsSpec) = true := by kernel_rfl
end Go.Proofs.YtejbgeokcpillaaGreatDoor.fnGoodsTells
end
