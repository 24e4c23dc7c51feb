import Derived.Test.YtlklokhlgcfcdaaGreatDoorMtg
import Derived.Test.YtlklokhlgcfcdaaGreatDoorCards
import Derived.Test.YtlklokhlgcfcdaaGreatDoorTie
import Derived.ProofKit
import Derived.OpenShut
import Derived.Deep.DeepHandedRow
section
namespace Go.Proofs.YtlklokhlgcfcdaaGreatDoor.fnMoneyTells
open Go.ChangeShapes Go.WideShapes Go.ChangeAt Go.RowKit Go.Ev
theorem plain (f : FuncId) (fn : Func) (hf : Tryz.pinned.checked.prog.funcNamed "rialto/rialtolaw30.MoneyTells" = some f) (hfn : Tryz.pinned.checked.prog.funcs[f]? = some fn) :
    false = Tryz.pinned.checked.prog.looks [] ∧ ∀ (j : Nat) t, fn.params[j]? = some t → Tryz.pinned.checked.prog.wantsStandIn t = false := by
  obtain rfl : f = 4 := Option.some.inj ((show Tryz.prog.funcNamed "rialto/rialtolaw30.MoneyTells" = some 4 by kernel_rfl).symm.trans hf) |>.symm
  obtain rfl : fn = Tryz.f4 := (Option.some.inj (Tryz.func4.symm.trans hfn)).symm
  refine ⟨by kernel_rfl, fun j t ht => ?_⟩
  have hp : Tryz.f4.params = #[66, 29, 68, 70] := by kernel_rfl
  rw [hp] at ht
  have hm := Array.mem_of_getElem? ht
  have : t = 66 ∨ t = 29 ∨ t = 68 ∨ t = 70 := by simpa using hm
  rcases this with rfl | rfl | rfl | rfl
  · exact (show Tryz.prog.wantsStandIn 66 = false by kernel_rfl)
  · exact (show Tryz.prog.wantsStandIn 29 = false by kernel_rfl)
  · exact (show Tryz.prog.wantsStandIn 68 = false by kernel_rfl)
  · exact (show Tryz.prog.wantsStandIn 70 = false by kernel_rfl)
end Go.Proofs.YtlklokhlgcfcdaaGreatDoor.fnMoneyTells
end
