import Derived.Test.YtokcjmkikhgkeaaGreatDoorMuj
import Derived.Test.YtokcjmkikhgkeaaGreatDoorCards
import Derived.Test.YtokcjmkikhgkeaaGreatDoorTie
import Derived.ProofKit
import Derived.OpenShut
import Derived.Deep.DeepHandedRow
section
namespace Go.Proofs.YtokcjmkikhgkeaaGreatDoor.fnMoneyUp
open Go.ChangeShapes Go.WideShapes Go.ChangeAt Go.RowKit Go.Ev
theorem cgoes : false = Rows.moneyUpRow.goesBy Tryz.prog := by kernel_rfl
end Go.Proofs.YtokcjmkikhgkeaaGreatDoor.fnMoneyUp
end
