import Derived.Test.YtkcakhbkoeimdaaGreatDoorMch
import Derived.Test.YtkcakhbkoeimdaaGreatDoorCards
import Derived.Test.YtkcakhbkoeimdaaGreatDoorTie
import Derived.ProofKit
import Derived.OpenShut
import Derived.Deep.DeepHandedRow
import Derived.Lib.LaidTab
section
namespace Go.Proofs.YtkcakhbkoeimdaaGreatDoor.fnTalkRests
open Go.ChangeShapes Go.WideShapes Go.ChangeAt Go.RowKit Go.Ev
theorem cwf : Rows.talkRestsRow.wfByText (OpenSpec.ofChange Rows.talkRestsSpec) = true := by kernel_rfl
end Go.Proofs.YtkcakhbkoeimdaaGreatDoor.fnTalkRests
end
