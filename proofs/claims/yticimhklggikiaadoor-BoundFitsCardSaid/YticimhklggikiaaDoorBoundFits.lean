/- Proved: for every realm, rialtolaw24.BoundFits returns true, and the realm reads behind the call as it read before. Conditions: those of the given card alone (the listed variable rialto/bound.sizes holds what the program's text lays). -/
import Derived.Test.YticimhklggikiaaDoorCards
import Derived.Test.YticimhklggikiaaDoorTie
import Derived.ProofKit
import Derived.OpenShut
import Derived.Deep.DeepHandedRow
import Derived.Lib.LaidTab
import Derived.Test.YticimhklggikiaaDoorSeb

/-! The card. -/
namespace Go.Proofs.YticimhklggikiaaDoor.fnBoundFits
open Go.ChangeShapes Go.WideShapes Go.ChangeAt Go.RowKit Go.Ev

theorem own : ownKnob Tryd.prog.godebug = none := by kernel_rfl
theorem gTab : Tryd.prog.globalNamed "rialto/bound.sizes" = some 0 := by kernel_rfl
theorem gTabType : (Tryd.prog.globals[0]?).map (·.type) = some 60 := by kernel_rfl
theorem cells60 : Tryd.prog.cellsOf 60 = 5 := by kernel_rfl
theorem cells2 : Tryd.prog.cellsOf 3 = 1 := by kernel_rfl
theorem und60 : Tryd.prog.underlying 60 = some (.array 5 3) := by kernel_rfl
theorem und2 : Tryd.prog.underlying 3 = some (.int .i64) := by kernel_rfl
/-- What the row's list gives: the table's cells. -/
theorem table {W : World} (h : laidMetH Tryd.prog Rows.boundFitsRow.laid W) : Lib.TabIs Tryd.prog W "rialto/bound.sizes" .i64 [14, 6, 18, 45, 23] :=
  Lib.tabIs_of_head (rest := []) gTab gTabType und60 und2 cells2 cells60 h

theorem cell_FH {W : World} {j : Nat} {v : Value} (h : W.cell? ⟨0, j, none⟩ = some v) : ∃ c, FH.of W 0 = some c ∧ c[j]? = some v := by
  unfold World.cell? at h
  simp only at h
  split at h
  · rename_i c el fz hk
    exact ⟨c, by simp [FH.of, hk], by simpa using h⟩
  · cases h
theorem env {W : World} (hL : laidMetH Tryd.prog Rows.boundFitsRow.laid W) : EnvOk Tryd.prog (FH.of W) ⟨types, [], glob, 0⟩ := by
  refine EnvOk.nil (by kernel_rfl) fun g v hv => ?_
  have ht := table hL
  obtain ⟨c, hc, h0⟩ := cell_FH (ht.cell gTab 0 (by decide))
  obtain ⟨c1, hc1, h1⟩ := cell_FH (ht.cell gTab 1 (by decide))
  obtain ⟨c2, hc2, h2⟩ := cell_FH (ht.cell gTab 2 (by decide))
  obtain ⟨c3, hc3, h3⟩ := cell_FH (ht.cell gTab 3 (by decide))
  obtain ⟨c4, hc4, h4⟩ := cell_FH (ht.cell gTab 4 (by decide))
  rw [hc] at hc1 hc2 hc3 hc4
  cases hc1; cases hc2; cases hc3; cases hc4
  have hg : g = 0 := by
    cases g with
    | zero => rfl
    | succ g => cases hv
  subst hg
  have hv' : some (AV.dat (.ptr (.arr 5 (.int .i64))) (some [14, 6, 18, 45, 23])) = some v := hv
  cases hv'
  refine ⟨.arr 5 (.int .i64), [14, 6, 18, 45, 23], [.int .i64 14, .int .i64 6, .int .i64 18, .int .i64 45, .int .i64 23], rfl, ⟨rfl, c, hc, fun j v hj => ?_⟩, ⟨rfl, [.int .i64 14], _, rfl, rfl, [.int .i64 6], _, rfl, rfl, [.int .i64 18], _, rfl, rfl, [.int .i64 45], _, rfl, rfl, [.int .i64 23], _, rfl, rfl, rfl⟩⟩
  match j, hj with
  | 0, hj => cases hj; exact h0
  | 1, hj => cases hj; exact h1
  | 2, hj => cases hj; exact h2
  | 3, hj => cases hj; exact h3
  | 4, hj => cases hj; exact h4
  | j + 5, hj => cases hj

theorem okIn_of (x : A_law24_BoundFits.I) (h : InR A_law24_BoundFits x) : okIn x.1 = true := by
  obtain ⟨r, ⟨⟩⟩ := x
  have h1 : InR T_api_Realm r := h.1
  obtain ⟨hl, h2⟩ := h1
  unfold okIn
  rw [Bool.and_eq_true]
  constructor
  · unfold inLabelsB
    rw [List.all_eq_true]
    intro a ha
    have ha' := hl.2 a ha
    have h3 : (Lit.int .u64 a.2.1).wf = true := ha'.2.1
    unfold Lit.wf at h3
    simp only [Bool.and_eq_true, decide_eq_true_eq] at h3
    have e1 : IntKind.min .u64 = 0 := by decide
    have e2 : IntKind.max .u64 = 18446744073709551615 := by decide
    rw [e1, e2] at h3
    have h4 : (0 : Int) ≤ a.2.1 ∧ a.2.1 < (18446744073709551616 : Int) := ⟨h3.1, Int.lt_of_le_of_lt h3.2 (by decide)⟩
    simp only [Bool.and_eq_true, decide_eq_true_eq]
    exact h4
  · exact decide_eq_true h2.2.2.1.1

/-- What the walk gives, for every argument and every world that holds the table. -/
theorem contract (H : Type) (enc : TypeId × Value → H) (W : World) (base : Nat) (args : Array Value) (ds gs : List (DataW H)) (before : List MemPlace)
    (hval : ∀ (j : Nat) t v, Tryd.f4.params[j]? = some t → args[j]? = some v → Value.okWide Tryd.prog W .any base t v)
    (hW : DataW.Whole enc Tryd.prog Tryd.f4.params.toList Rows.boundFitsSpec.vars false W args.toList ds gs before) (hL : laidMetH Tryd.prog Rows.boundFitsRow.laid W) :
    Calls Tryd.prog 4 args W fun e W' => ∃ v, e = .returned v ∧ Rows.boundFitsSpec.post enc Tryd.prog Tryd.f4 false true false false W args v W' := by
  refine law_contract (a := A_law24_BoundFits) (tb := 4) (by kernel_rfl) (by decide +kernel) (by kernel_rfl) (by kernel_rfl) (by kernel_rfl) rfl (fun ds hd => ?_) hval hW fun x hx hr => ?_
  · have : Tryd.f4.params.size = 1 := by kernel_rfl
    rw [this] at hd
    match ds, hd with
    | [d], _ => rfl
  · have hs := c_Fits (env hL)
    have hc := hs.2 x (true, ()) (onR_some (f := fun _ => (true, ())) (r := x.1) (okIn_of x hx)) (FH.of W) W args.toList (FH.le.refl _) (FH.of_ok W) hr
    refine hc.mono fun e W' he => ?_
    obtain ⟨us, F', h1, h2, _, _, h3⟩ := he
    refine ⟨?_, h2⟩
    obtain ⟨v, r, hus, hv, hva, hnil⟩ := (show RepA Tryd.prog F' (.pair .bool .unit) (true, ()) us from h3)
    have hr0 : r = [] := hnil
    subst hr0
    have hv' : v.cells.toList = [.bool true] := hv
    rw [h1, hus]
    have hva' : isAggV v = false := hva
    have : v = .bool true := by
      cases v <;> first | (simp [isAggV] at hva'; done) | (simp [Value.cells] at hv'; exact congrArg _ hv') | (simp [Value.cells] at hv')
    rw [this]
    rfl

/-- A world for the witness. -/
noncomputable def laidWorld (os : Os) : World :=
  { World.holding Tryd.prog os ⟨#[], #[], []⟩ with heap := (World.holding Tryd.prog os ⟨#[], #[], []⟩).heap.modify 0 fun
      | .cells _ t frozen => .cells #[.int .i64 14, .int .i64 6, .int .i64 18, .int .i64 45, .int .i64 23] t frozen
      | o => o }
def arg0 : Value := .agg #[.slice none 0 0, .slice none 0 0, .slice none 0 0, .slice none 0 0, .slice none 0 0, .int .i64 0, .int .i64 0, .int .i64 0, .int .i64 0]
theorem laid_met (os : Os) : laidMet Tryd.prog Rows.boundFitsRow.laid ((laidWorld os).forCall (fun _ _ => 0) ⟨#[], #[arg0], []⟩).memory :=
  laidMet_of_run' 8 (by kernel_rfl) (by kernel_rfl)
theorem reads (os : Os) {H : Type} (enc : TypeId × Value → H) : ∃ places, DataW.whole enc Tryd.prog ((laidWorld os).forCall (fun _ _ => 0) ⟨#[], #[arg0], []⟩).memory Tryd.f4.params.toList Rows.boundFitsSpec.vars false #[arg0].toList 8 = some ([.agg [.nil, .nil, .nil, .nil, .nil, .lit (.int .i64 0), .lit (.int .i64 0), .lit (.int .i64 0), .lit (.int .i64 0)]], [], places) :=
  ⟨[], by kernel_rfl⟩

set_option maxRecDepth 100000 in
theorem lifted (os : Os) (started : os.Started) (H : Type) (enc : TypeId × Value → H) (F : Stop.Interp) :
    ReturnsInHanded {} Tryd.checked os 4 .any ((OpenSpec.ofChange Rows.boundFitsSpec).preRow enc Tryd.prog Tryd.f4 Rows.boundFitsRow.domain false Rows.boundFitsRow.laid) (((OpenSpec.ofChange Rows.boundFitsSpec).at F).post enc Tryd.prog Tryd.f4 false true false false) := by
  obtain ⟨places, hx⟩ := reads os enc
  refine returnsInHanded_of_row (C := Tryd.checked) (s := OpenSpec.ofChange Rows.boundFitsSpec) own started (by kernel_rfl) Tryd.func4
    (witness_row_at (enc := enc) (C := Tryd.checked) false (laidWorld os) #[arg0] rfl (by kernel_rfl) (by kernel_rfl) (by kernel_rfl)
      (OpenSpec.preRow_of_cond 8 hx (by kernel_rfl) (fun k hk => by cases hk) (by kernel_rfl) (laid_met os))) ?_
  intro W base args ds gs before hval hW _ _ _ hL _ _
  exact contract H enc W base args ds gs before hval hW hL

theorem said : Rows.BoundFitsSaid :=
  OpenClaim.holds_of_cond 4 Tryd.f4 rfl rfl rfl rfl rfl rfl rfl ⟨rfl, rfl, rfl, rfl, rfl⟩ rfl rfl rfl rfl rfl (by kernel_rfl) Tryd.func4 (by kernel_rfl)
    (of_decide_eq_true (by kernel_rfl)) (by unfold Func.isWrapper; first | (rw [if_pos (by decide +kernel)]; kernel_rfl) | (rw [if_neg (by decide +kernel)]; exact ⟨rfl, rfl⟩))
    (fun os started H enc _ F => by rw [OpenClaim.pre_eq_preRow]; exact lifted os started H enc F)

theorem plain (f : FuncId) (fn : Func) (hf : Tryd.pinned.checked.prog.funcNamed "rialto/rialtolaw24.BoundFits" = some f) (hfn : Tryd.pinned.checked.prog.funcs[f]? = some fn) :
    false = Tryd.pinned.checked.prog.looks [] ∧ ∀ (j : Nat) t, fn.params[j]? = some t → Tryd.pinned.checked.prog.wantsStandIn t = false := by
  obtain rfl : f = 4 := Option.some.inj ((show Tryd.prog.funcNamed "rialto/rialtolaw24.BoundFits" = some 4 by kernel_rfl).symm.trans hf) |>.symm
  obtain rfl : fn = Tryd.f4 := (Option.some.inj (Tryd.func4.symm.trans hfn)).symm
  refine ⟨by kernel_rfl, fun j t ht => ?_⟩
  have hp : Tryd.f4.params = #[28] := by kernel_rfl
  rw [hp] at ht
  obtain rfl : t = 28 := by simpa using Array.mem_of_getElem? ht
  exact (show Tryd.prog.wantsStandIn 28 = false by kernel_rfl)

/-- The card. -/
theorem card : Rows.BoundFitsCardSaid :=
  Claim7.holds_tied_plain_at .later [] _ _ _ _ said (fun _ h => by cases h) (by kernel_rfl) (fun _ h => by cases h) boundFits_row_tie rfl ⟨rfl, rfl⟩ (by kernel_rfl) rfl plain (by kernel_rfl)
end Go.Proofs.YticimhklggikiaaDoor.fnBoundFits
namespace Go.Proofs.YticimhklggikiaaDoor
theorem boundFits_holds : Rows.BoundFitsCardSaid := fnBoundFits.card
#print axioms boundFits_holds
end Go.Proofs.YticimhklggikiaaDoor
