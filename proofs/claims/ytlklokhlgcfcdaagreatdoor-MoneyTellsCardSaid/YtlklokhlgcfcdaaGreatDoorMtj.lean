import Derived.Test.YtlklokhlgcfcdaaGreatDoorMti
import Derived.Test.YtlklokhlgcfcdaaGreatDoorCards
import Derived.Test.YtlklokhlgcfcdaaGreatDoorTie
import Derived.ProofKit
import Derived.OpenShut
import Derived.Deep.DeepHandedRow
section
namespace Go.Proofs.YtlklokhlgcfcdaaGreatDoor.fnMoneyTells
open Go.ChangeShapes Go.WideShapes Go.ChangeAt Go.RowKit Go.Ev
theorem cmain : Tryz.prog.mainIs = some (true, "6ee0cf8c3877f7ccb278a5ed621897104d7129bb8c45f9535e2c8ada45630b4e".toList) := by kernel_rfl
end Go.Proofs.YtlklokhlgcfcdaaGreatDoor.fnMoneyTells
end
