import Derived.Test.YtokcjmkikhgkeaaGreatDoorMai
import Derived.Test.YtokcjmkikhgkeaaGreatDoorCards
import Derived.Test.YtokcjmkikhgkeaaGreatDoorTie
import Derived.ProofKit
import Derived.OpenShut
import Derived.Deep.DeepHandedRow
section
namespace Go.Proofs.YtokcjmkikhgkeaaGreatDoor.fnMoneyAlike
open Go.ChangeShapes Go.WideShapes Go.ChangeAt Go.RowKit Go.Ev
theorem cmain : Tryz.prog.mainIs = some (true, "6ba7381c9c856cf0b3293bc3924e0fb9ca3437846bcb82da9a99988b8ba03b13".toList) := by kernel_rfl
end Go.Proofs.YtokcjmkikhgkeaaGreatDoor.fnMoneyAlike
end
