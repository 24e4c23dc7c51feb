import Derived.Test.YtkcakhbkoeimdaaGreatDoorMdi
import Derived.Test.YtkcakhbkoeimdaaGreatDoorCards
import Derived.Test.YtkcakhbkoeimdaaGreatDoorTie
import Derived.ProofKit
import Derived.OpenShut
import Derived.Deep.DeepHandedRow
import Derived.Lib.LaidTab
section
namespace Go.Proofs.YtkcakhbkoeimdaaGreatDoor.fnTalkAlike
open Go.ChangeShapes Go.WideShapes Go.ChangeAt Go.RowKit Go.Ev
theorem cmain : Tryz.prog.mainIs = some (true, "02adf9b48b4cc55bdb1887606cf5ecc14aed7a2f59c4bb0ad4b4f2eaf17bec0e".toList) := by kernel_rfl
end Go.Proofs.YtkcakhbkoeimdaaGreatDoor.fnTalkAlike
end
