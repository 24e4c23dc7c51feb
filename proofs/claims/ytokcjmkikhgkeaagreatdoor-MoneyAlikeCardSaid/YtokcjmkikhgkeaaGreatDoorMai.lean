import Derived.Test.YtokcjmkikhgkeaaGreatDoorMah
import Derived.Test.YtokcjmkikhgkeaaGreatDoorCards
import Derived.Test.YtokcjmkikhgkeaaGreatDoorTie
import Derived.ProofKit
import Derived.OpenShut
import Derived.Deep.DeepHandedRow
section
namespace Go.Proofs.YtokcjmkikhgkeaaGreatDoor.fnMoneyAlike
open Go.ChangeShapes Go.WideShapes Go.ChangeAt Go.RowKit Go.Ev
theorem cwf : Rows.moneyAlikeRow.wfByText (OpenSpec.ofChange Rows.moneyAlikeSpec) = true := by kernel_rfl
end Go.Proofs.YtokcjmkikhgkeaaGreatDoor.fnMoneyAlike
end
