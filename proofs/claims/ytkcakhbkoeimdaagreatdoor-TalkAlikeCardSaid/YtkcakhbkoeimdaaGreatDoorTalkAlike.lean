/- Proved: for every realm, two states, holder, deed and label, rialtolaw31.TalkAlike returns true, and the arguments read behind the call as they read before. Conditions: those of the given card alone (the listed variable math/bits.deBruijn64tab holds what the program's text lays). -/
import Derived.Test.YtkcakhbkoeimdaaGreatDoorMdk
import Derived.Test.YtkcakhbkoeimdaaGreatDoorCards
import Derived.Test.YtkcakhbkoeimdaaGreatDoorTie
import Derived.ProofKit
import Derived.OpenShut
import Derived.Deep.DeepHandedRow
import Derived.Lib.LaidTab
section
namespace Go.Proofs.YtkcakhbkoeimdaaGreatDoor.fnTalkAlike
open Go.ChangeShapes Go.WideShapes Go.ChangeAt Go.RowKit Go.Ev
theorem card : Rows.TalkAlikeCardSaid :=
  Claim7.holds_tied_plain_at .later [] _ _ _ _ said (fun _ h => by cases h) cwf (fun _ h => by cases h) talkAlike_row_tie rfl ⟨rfl, rfl⟩ (by rw [peq]; exact cmain) rfl plain (by rw [peq]; exact cgoes)
end Go.Proofs.YtkcakhbkoeimdaaGreatDoor.fnTalkAlike
end
section
namespace Go.Proofs.YtkcakhbkoeimdaaGreatDoor
theorem talkAlike_holds : Rows.TalkAlikeCardSaid := fnTalkAlike.card
#print axioms talkAlike_holds
end Go.Proofs.YtkcakhbkoeimdaaGreatDoor
end
