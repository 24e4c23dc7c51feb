import Derived.Test.YtkcakhbkoeimdaaGreatDoorMdh
import Derived.Test.YtkcakhbkoeimdaaGreatDoorCards
import Derived.Test.YtkcakhbkoeimdaaGreatDoorTie
import Derived.ProofKit
import Derived.OpenShut
import Derived.Deep.DeepHandedRow
import Derived.Lib.LaidTab
section
namespace Go.Proofs.YtkcakhbkoeimdaaGreatDoor.fnTalkAlike
open Go.ChangeShapes Go.WideShapes Go.ChangeAt Go.RowKit Go.Ev
theorem cwf : Rows.talkAlikeRow.wfByText (OpenSpec.ofChange Rows.talkAlikeSpec) = true := by kernel_rfl
end Go.Proofs.YtkcakhbkoeimdaaGreatDoor.fnTalkAlike
end
