import Derived.Test.YtkcakhbkoeimdaaGreatDoorMah
import Derived.Test.YtkcakhbkoeimdaaGreatDoorCards
import Derived.Test.YtkcakhbkoeimdaaGreatDoorTie
import Derived.ProofKit
import Derived.OpenShut
import Derived.Deep.DeepHandedRow
import Derived.Lib.LaidTab
section
namespace Go.Proofs.YtkcakhbkoeimdaaGreatDoor.fnTalkMails
open Go.ChangeShapes Go.WideShapes Go.ChangeAt Go.RowKit Go.Ev
theorem cwf : Rows.talkMailsRow.wfByText (OpenSpec.ofChange Rows.talkMailsSpec) = true := by kernel_rfl
end Go.Proofs.YtkcakhbkoeimdaaGreatDoor.fnTalkMails
end
