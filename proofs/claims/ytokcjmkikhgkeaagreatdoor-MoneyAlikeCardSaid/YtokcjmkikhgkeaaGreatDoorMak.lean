import Derived.Test.YtokcjmkikhgkeaaGreatDoorMaj
import Derived.Test.YtokcjmkikhgkeaaGreatDoorCards
import Derived.Test.YtokcjmkikhgkeaaGreatDoorTie
import Derived.ProofKit
import Derived.OpenShut
import Derived.Deep.DeepHandedRow
section
namespace Go.Proofs.YtokcjmkikhgkeaaGreatDoor.fnMoneyAlike
open Go.ChangeShapes Go.WideShapes Go.ChangeAt Go.RowKit Go.Ev
theorem cgoes : false = Rows.moneyAlikeRow.goesBy Tryz.prog := by kernel_rfl
end Go.Proofs.YtokcjmkikhgkeaaGreatDoor.fnMoneyAlike
end
