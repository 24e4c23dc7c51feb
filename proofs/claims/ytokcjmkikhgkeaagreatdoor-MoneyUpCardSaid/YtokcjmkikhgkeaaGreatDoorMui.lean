import Derived.Test.YtokcjmkikhgkeaaGreatDoorMuh
import Derived.Test.YtokcjmkikhgkeaaGreatDoorCards
import Derived.Test.YtokcjmkikhgkeaaGreatDoorTie
import Derived.ProofKit
import Derived.OpenShut
import Derived.Deep.DeepHandedRow
section
namespace Go.Proofs.YtokcjmkikhgkeaaGreatDoor.fnMoneyUp
open Go.ChangeShapes Go.WideShapes Go.ChangeAt Go.RowKit Go.Ev
theorem cwf : Rows.moneyUpRow.wfByText (OpenSpec.ofChange Rows.moneyUpSpec) = true := by kernel_rfl
end Go.Proofs.YtokcjmkikhgkeaaGreatDoor.fnMoneyUp
end
