import Derived.Test.YtgomalidoilgbaaGreatDoorMah
import Derived.Test.YtgomalidoilgbaaGreatDoorCards
import Derived.Test.YtgomalidoilgbaaGreatDoorTie
import Derived.ProofKit
import Derived.OpenShut
import Derived.Deep.DeepHandedRow
section
namespace Go.Proofs.YtgomalidoilgbaaGreatDoor.fnMoneyTells
open Go.ChangeShapes Go.WideShapes Go.ChangeAt Go.RowKit Go.Ev
theorem cwf : Rows.moneyTellsUptoRow.wfByText (Rows.OpenSpec.upto Rows.moneyTellsSpec) = true := by kernel_rfl
end Go.Proofs.YtgomalidoilgbaaGreatDoor.fnMoneyTells
end
