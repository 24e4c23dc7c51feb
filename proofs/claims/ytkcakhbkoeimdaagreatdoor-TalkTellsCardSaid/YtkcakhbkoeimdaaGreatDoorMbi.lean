import Derived.Test.YtkcakhbkoeimdaaGreatDoorMbh
import Derived.Test.YtkcakhbkoeimdaaGreatDoorCards
import Derived.Test.YtkcakhbkoeimdaaGreatDoorTie
import Derived.ProofKit
import Derived.OpenShut
import Derived.Deep.DeepHandedRow
import Derived.Lib.LaidTab
section
namespace Go.Proofs.YtkcakhbkoeimdaaGreatDoor.fnTalkTells
open Go.ChangeShapes Go.WideShapes Go.ChangeAt Go.RowKit Go.Ev
theorem cwf : Rows.talkTellsRow.wfByText (OpenSpec.ofChange Rows.talkTellsSpec) = true := by kernel_rfl
end Go.Proofs.YtkcakhbkoeimdaaGreatDoor.fnTalkTells
end
