import Derived.Test.YtgomalidoilgbaaGreatDoorMaj
import Derived.Test.YtgomalidoilgbaaGreatDoorCards
import Derived.Test.YtgomalidoilgbaaGreatDoorTie
import Derived.ProofKit
import Derived.OpenShut
import Derived.Deep.DeepHandedRow
section
namespace Go.Proofs.YtgomalidoilgbaaGreatDoor.fnMoneyTells
open Go.ChangeShapes Go.WideShapes Go.ChangeAt Go.RowKit Go.Ev
theorem cgoes : false = Rows.moneyTellsUptoRow.goesBy Tryz.prog := by kernel_rfl
end Go.Proofs.YtgomalidoilgbaaGreatDoor.fnMoneyTells
end
