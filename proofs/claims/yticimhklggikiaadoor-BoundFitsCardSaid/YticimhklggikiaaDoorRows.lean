/-
  NARROWER THAN 'FOR EVERY INPUT', by the rows' own cells (each row's printed sentence says how): BoundTells: laid · BoundFits: laid.
  DERIVED. THE GIVEN ROWS OF THIS SEAT. 2 by the template 'for every input the law returns true; each argument reads behind the call as it read before'; 0 by the template 'total and deterministic' (their statements: YticimhklggikiaaDoorTotals.lean).
  GIVEN WITH THE SEED: the statements are not yours to turn. If you find one false, say at which input.
  Laid BY PROGRAM, IN A SANDBOX (cutbox-rows.mjs): the forced cells as the released guide's own fill.sh prints them over the translation 72140789426e1429… (all of the seat's roots in one cut). By AI agents, Wed Nov 11 2026. No macro, syntax, notation, axiom, sorry.
-/
import Derived.Test.YticimhklggikiaaDoorChecked
import GoSem.Claim
import GoSem.ClaimJoined
import GoSem.ClaimMapViews
import Derived.JoinedTies
import Derived.KernelRfl
namespace Go.Proofs.YticimhklggikiaaDoor
/- THE CELL 'sum', in the pinned program and in every row, IS THE sha256 OF THE DUMP (.gsa) THAT YticimhklggikiaaDoorProg.lean LOADS. Nothing in Lean hashes anything: it is a label: what it is worth is what the hold of that sum in a sandbox is worth. -/
noncomputable def Tryd.pinned : Pinned := { name := "yticimhklggikiaadoor", sum := "72140789426e1429b227efc7cb489df73c9d42332f97bc8b8fca1e714f725d21", checked := Tryd.checked }
namespace Rows
def none {H : Type} : Left H := { results := [], args := [] }

/- WHAT THE LISTED PACKAGE-LEVEL VARIABLES READ AS WHEN THE CALL BEGINS. Each datum BY PROGRAM (the guide's laid-datum.mjs) off the statement by which the dump's own 'gosem.cut.vars' lays the variable. In a bare row this is a premise. The card (YticimhklggikiaaDoorCards.lean) ties it to the program's text. -/
def laid_rialto_bound_sizes {H : Type} : DataW H := .agg [.lit (.int .i64 14), .lit (.int .i64 6), .lit (.int .i64 18), .lit (.int .i64 45), .lit (.int .i64 23)]

/-- 'rialtolaw24.BoundTells': WHATEVER THE INPUT: true; the input reads as it did. -/
def boundTellsSpec : ChangeSpec := { name := "boundTells", fn := fun _ => fun
  | [d] => { results := [.lit (.bool true)], args := [d] }
  | _ => none }
def boundTellsRow : OpenClaim := { program := "yticimhklggikiaadoor", sum := "72140789426e1429b227efc7cb489df73c9d42332f97bc8b8fca1e714f725d21", func := "rialto/rialtolaw24.BoundTells", spec := "boundTells", unfollowed := true, recurses := true, named := ["rialto/bound.sizes"], apart := false, laid := [("rialto/bound.sizes", laid_rialto_bound_sizes)] }
def BoundTellsSaid : Prop := boundTellsRow.holds Tryd.pinned (OpenSpec.ofChange boundTellsSpec)

/-- ITS FALSE NEIGHBOUR: 'it returns false'. Refute it at one input. -/
def boundTellsWrong : ChangeSpec := { name := "boundTells", fn := fun _ => fun
  | [d] => { results := [.lit (.bool false)], args := [d] }
  | _ => none }
def BoundTellsWrongFalsely : Prop := boundTellsRow.holds Tryd.pinned (OpenSpec.ofChange boundTellsWrong)

/-- 'rialtolaw24.BoundFits': WHATEVER THE INPUT: true; the input reads as it did. -/
def boundFitsSpec : ChangeSpec := { name := "boundFits", fn := fun _ => fun
  | [d] => { results := [.lit (.bool true)], args := [d] }
  | _ => none }
def boundFitsRow : OpenClaim := { program := "yticimhklggikiaadoor", sum := "72140789426e1429b227efc7cb489df73c9d42332f97bc8b8fca1e714f725d21", func := "rialto/rialtolaw24.BoundFits", spec := "boundFits", unfollowed := true, recurses := true, named := ["rialto/bound.sizes"], apart := false, laid := [("rialto/bound.sizes", laid_rialto_bound_sizes)] }
def BoundFitsSaid : Prop := boundFitsRow.holds Tryd.pinned (OpenSpec.ofChange boundFitsSpec)

/-- ITS FALSE NEIGHBOUR: 'it returns false'. Refute it at one input. -/
def boundFitsWrong : ChangeSpec := { name := "boundFits", fn := fun _ => fun
  | [d] => { results := [.lit (.bool false)], args := [d] }
  | _ => none }
def BoundFitsWrongFalsely : Prop := boundFitsRow.holds Tryd.pinned (OpenSpec.ofChange boundFitsWrong)

/- THE SECOND FORM. 'bulk': how many values and letters a reading holds, each counted each time it is reached (what is shared counts as often as it is met; a slice's spare places count too). A statement '..UptoSaid' is the law's where the arguments, and the package variables that the reading takes, are together of bulk at most 1048576: NARROWER than '..Said'. Prove '..Said' where nothing that the law and all that it calls make is longer than what came in: it says more and counts as full. Else prove '..UptoSaid'. A law counts once. -/
mutual
def uptoBulk {H : Type} : DataW H → Nat
  | .lit (.string bytes) => bytes.length + 1
  | .lit _ => 1
  | .nil => 1
  | .ptr d => uptoBulk d + 1
  | .slice elems spare => uptoBulkAll elems + uptoBulkAll spare + 1
  | .agg parts => uptoBulkAll parts + 1
  | .iface _ d => uptoBulk d + 1
  | .map entries => uptoBulkEntries entries + 1
  | .held _ => 1
def uptoBulkAll {H : Type} : List (DataW H) → Nat
  | [] => 0
  | d :: r => uptoBulk d + uptoBulkAll r
def uptoBulkEntries {H : Type} : List (Lit × DataW H) → Nat
  | [] => 0
  | x :: r => uptoBulkEntry x + uptoBulkEntries r
def uptoBulkEntry {H : Type} : Lit × DataW H → Nat
  | (.string bytes, d) => bytes.length + uptoBulk d + 1
  | (_, d) => uptoBulk d + 1
 end
def uptoSmall : (H : Type) → List (DataW H) → Bool := fun _ ds => decide (uptoBulkAll ds ≤ 1048576)
def OpenSpec.upto (s : _root_.Go.ChangeSpec) : _root_.Go.OpenSpec := { _root_.Go.OpenSpec.ofChange s with cond := some uptoSmall }

/-- 'rialtolaw24.BoundTells', WHERE WHAT IT READS IS OF BULK AT MOST 1048576: true; the input reads as it did. -/
def boundTellsUptoRow : OpenClaim := { program := "yticimhklggikiaadoor", sum := "72140789426e1429b227efc7cb489df73c9d42332f97bc8b8fca1e714f725d21", func := "rialto/rialtolaw24.BoundTells", spec := "boundTells", unfollowed := true, recurses := true, named := ["rialto/bound.sizes"], apart := false, laid := [("rialto/bound.sizes", laid_rialto_bound_sizes)], narrowed := true }
def BoundTellsUptoSaid : Prop := boundTellsUptoRow.holds Tryd.pinned (OpenSpec.upto boundTellsSpec)

/-- 'rialtolaw24.BoundFits', WHERE WHAT IT READS IS OF BULK AT MOST 1048576: true; the input reads as it did. -/
def boundFitsUptoRow : OpenClaim := { program := "yticimhklggikiaadoor", sum := "72140789426e1429b227efc7cb489df73c9d42332f97bc8b8fca1e714f725d21", func := "rialto/rialtolaw24.BoundFits", spec := "boundFits", unfollowed := true, recurses := true, named := ["rialto/bound.sizes"], apart := false, laid := [("rialto/bound.sizes", laid_rialto_bound_sizes)], narrowed := true }
def BoundFitsUptoSaid : Prop := boundFitsUptoRow.holds Tryd.pinned (OpenSpec.upto boundFitsSpec)

end Rows
end Go.Proofs.YticimhklggikiaaDoor
