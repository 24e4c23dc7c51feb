import Derived.Test.YtlklokhlgcfcdaaGreatDoorMth
import Derived.Test.YtlklokhlgcfcdaaGreatDoorCards
import Derived.Test.YtlklokhlgcfcdaaGreatDoorTie
import Derived.ProofKit
import Derived.OpenShut
import Derived.Deep.DeepHandedRow
section
namespace Go.Proofs.YtlklokhlgcfcdaaGreatDoor.fnMoneyTells
open Go.ChangeShapes Go.WideShapes Go.ChangeAt Go.RowKit Go.Ev
theorem cwf : Rows.moneyTellsRow.wfByText (OpenSpec.ofChange Rows.moneyTellsSpec) = true := by kernel_rfl
end Go.Proofs.YtlklokhlgcfcdaaGreatDoor.fnMoneyTells
end
