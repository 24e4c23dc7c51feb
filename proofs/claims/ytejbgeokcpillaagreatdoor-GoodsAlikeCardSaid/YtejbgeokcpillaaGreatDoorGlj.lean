import Derived.Test.YtejbgeokcpillaaGreatDoorGli
import Derived.Test.YtejbgeokcpillaaGreatDoorCards
import Derived.Test.YtejbgeokcpillaaGreatDoorTie
import Derived.ProofKit
import Derived.OpenShut
import Derived.Deep.DeepHandedRow
section
namespace Go.Proofs.YtejbgeokcpillaaGreatDoor.fnGoodsAlike
open Go.ChangeShapes Go.WideShapes Go.ChangeAt Go.RowKit Go.Ev
theorem cgoes : false = Rows.goodsAlikeRow.goesBy Tryz.prog := by kernel_rfl
end Go.Proofs.YtejbgeokcpillaaGreatDoor.fnGoodsAlike
end
