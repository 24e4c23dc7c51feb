import Derived.Test.YtejbgeokcpillaaGreatDoorGth
import Derived.Test.YtejbgeokcpillaaGreatDoorCards
import Derived.Test.YtejbgeokcpillaaGreatDoorTie
import Derived.ProofKit
import Derived.OpenShut
import Derived.Deep.DeepHandedRow
section
namespace Go.Proofs.YtejbgeokcpillaaGreatDoor.fnGoodsTells
open Go.ChangeShapes Go.WideShapes Go.ChangeAt Go.RowKit Go.Ev
theorem cwf : Rows.goodsTellsUptoRow.wfByText (Rows.OpenSpec.upto Rows.goodsTellsSpec) = true := by kernel_rfl
end Go.Proofs.YtejbgeokcpillaaGreatDoor.fnGoodsTells
end
