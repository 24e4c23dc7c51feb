import Derived.Test.YtejbgeokcpillaaGreatDoorGlg
import Derived.Test.YtejbgeokcpillaaGreatDoorCards
import Derived.Test.YtejbgeokcpillaaGreatDoorTie
import Derived.ProofKit
import Derived.OpenShut
import Derived.Deep.DeepHandedRow
section
namespace Go.Proofs.YtejbgeokcpillaaGreatDoor.fnGoodsAlike
open Go.ChangeShapes Go.WideShapes Go.ChangeAt Go.RowKit Go.Ev
theorem cwf : Rows.goodsAlikeRow.wfByText (OpenSpec.ofChange Rows.goodsAlikeSpec) = true := by kernel_rfl
end Go.Proofs.YtejbgeokcpillaaGreatDoor.fnGoodsAlike
end
