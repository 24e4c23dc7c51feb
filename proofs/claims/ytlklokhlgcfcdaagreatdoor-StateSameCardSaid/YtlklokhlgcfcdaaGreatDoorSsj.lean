import Derived.Test.YtlklokhlgcfcdaaGreatDoorSsi
import Derived.Test.YtlklokhlgcfcdaaGreatDoorCards
import Derived.Test.YtlklokhlgcfcdaaGreatDoorTie
import Derived.ProofKit
import Derived.OpenShut
import Derived.Deep.DeepHandedRow
import Derived.Lib.LaidTab
section
namespace Go.Proofs.YtlklokhlgcfcdaaGreatDoor.fnStateSame
open Go.ChangeShapes Go.WideShapes Go.ChangeAt Go.RowKit Go.Ev
theorem cgoes : false = Rows.stateSameRow.goesBy Tryz.prog := by kernel_rfl
end Go.Proofs.YtlklokhlgcfcdaaGreatDoor.fnStateSame
end
