import Derived.Test.YtgomalidoilgbaaGreatDoorMai
import Derived.Test.YtgomalidoilgbaaGreatDoorCards
import Derived.Test.YtgomalidoilgbaaGreatDoorTie
import Derived.ProofKit
import Derived.OpenShut
import Derived.Deep.DeepHandedRow
section
namespace Go.Proofs.YtgomalidoilgbaaGreatDoor.fnMoneyTells
open Go.ChangeShapes Go.WideShapes Go.ChangeAt Go.RowKit Go.Ev
theorem cmain : Tryz.prog.mainIs = some (true, "9730b79be6524511e0875212da64a8a2fdd0f2e925b6e407886a6b836d7a02e8".toList) := by kernel_rfl
end Go.Proofs.YtgomalidoilgbaaGreatDoor.fnMoneyTells
end
