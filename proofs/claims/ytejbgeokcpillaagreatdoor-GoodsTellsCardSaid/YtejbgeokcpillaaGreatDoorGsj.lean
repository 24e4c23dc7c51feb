import Derived.Test.YtejbgeokcpillaaGreatDoorGsi
import Derived.Test.YtejbgeokcpillaaGreatDoorCards
import Derived.Test.YtejbgeokcpillaaGreatDoorTie
import Derived.ProofKit
import Derived.OpenShut
import Derived.Deep.DeepHandedRow
section
namespace Go.Proofs.YtejbgeokcpillaaGreatDoor.fnGoodsTells
open Go.ChangeShapes Go.WideShapes Go.ChangeAt Go.RowKit Go.Ev
theorem cmain : Tryz.prog.mainIs = some (true, "d2e17cb01c7d679350b118ad678c4480586c346154307f502e69defa41a1fcd5".toList) := by kernel_rfl
end Go.Proofs.YtejbgeokcpillaaGreatDoor.fnGoodsTells
end
