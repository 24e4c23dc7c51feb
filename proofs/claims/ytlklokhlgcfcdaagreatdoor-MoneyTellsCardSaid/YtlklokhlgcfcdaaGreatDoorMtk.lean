import Derived.Test.YtlklokhlgcfcdaaGreatDoorMtj
import Derived.Test.YtlklokhlgcfcdaaGreatDoorCards
import Derived.Test.YtlklokhlgcfcdaaGreatDoorTie
import Derived.ProofKit
import Derived.OpenShut
import Derived.Deep.DeepHandedRow
section
namespace Go.Proofs.YtlklokhlgcfcdaaGreatDoor.fnMoneyTells
open Go.ChangeShapes Go.WideShapes Go.ChangeAt Go.RowKit Go.Ev
theorem cgoes : false = Rows.moneyTellsRow.goesBy Tryz.prog := by kernel_rfl
end Go.Proofs.YtlklokhlgcfcdaaGreatDoor.fnMoneyTells
end
