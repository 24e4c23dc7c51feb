/- Proved: for every realm, state, holder and deed, rialtolaw31.TalkMails returns true, and the arguments read behind the call as they read before. Conditions: those of the given card alone (the listed variable math/bits.deBruijn64tab holds what the program's text lays). -/
import Derived.Test.YtkcakhbkoeimdaaGreatDoorMak
import Derived.Test.YtkcakhbkoeimdaaGreatDoorCards
import Derived.Test.YtkcakhbkoeimdaaGreatDoorTie
import Derived.ProofKit
import Derived.OpenShut
import Derived.Deep.DeepHandedRow
import Derived.Lib.LaidTab
section
namespace Go.Proofs.YtkcakhbkoeimdaaGreatDoor.fnTalkMails
open Go.ChangeShapes Go.WideShapes Go.ChangeAt Go.RowKit Go.Ev
theorem card : Rows.TalkMailsCardSaid :=
  Claim7.holds_tied_plain_at .later [] _ _ _ _ said (fun _ h => by cases h) cwf (fun _ h => by cases h) talkMails_row_tie rfl ⟨rfl, rfl⟩ (by rw [peq]; exact cmain) rfl plain (by rw [peq]; exact cgoes)
end Go.Proofs.YtkcakhbkoeimdaaGreatDoor.fnTalkMails
end
section
namespace Go.Proofs.YtkcakhbkoeimdaaGreatDoor
theorem talkMails_holds : Rows.TalkMailsCardSaid := fnTalkMails.card
#print axioms talkMails_holds
end Go.Proofs.YtkcakhbkoeimdaaGreatDoor
end
