import Derived.Test.YtejbgeokcpillaaGreatDoorGrg
import Derived.Test.YtejbgeokcpillaaGreatDoorCards
import Derived.Test.YtejbgeokcpillaaGreatDoorTie
import Derived.ProofKit
import Derived.OpenShut
import Derived.Deep.DeepHandedRow
section
namespace Go.Proofs.YtejbgeokcpillaaGreatDoor.fnGoodsRests
open Go.ChangeShapes Go.WideShapes Go.ChangeAt Go.RowKit Go.Ev
theorem cwf : Rows.goodsRestsRow.wfByText (OpenSpec.ofChange Rows.goodsRestsSpec) = true := by kernel_rfl
end Go.Proofs.YtejbgeokcpillaaGreatDoor.fnGoodsRests
end
