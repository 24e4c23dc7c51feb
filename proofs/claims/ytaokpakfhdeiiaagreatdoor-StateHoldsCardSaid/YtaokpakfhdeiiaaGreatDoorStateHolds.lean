/- Proved: for every realm and state, rialtolaw21.StateHolds returns true, and the arguments read behind the call as they read before. Conditions: those of the given card alone (the listed variable math/bits.deBruijn64tab holds what the program's text lays). -/
import Derived.Test.YtaokpakfhdeiiaaGreatDoorHoe
import Derived.Test.YtaokpakfhdeiiaaGreatDoorCards
import Derived.Test.YtaokpakfhdeiiaaGreatDoorTie
import Derived.ProofKit
import Derived.OpenShut
import Derived.Deep.DeepHandedRow
import Derived.Lib.LaidTab
section
namespace Go.Proofs.YtaokpakfhdeiiaaGreatDoor.fnStateHolds
open Go.ChangeShapes Go.WideShapes Go.ChangeAt Go.RowKit Go.Ev
abbrev tab : List Int := [0, 1, 56, 2, 57, 49, 28, 3, 61, 58, 42, 50, 38, 29, 17, 4, 62, 47, 59, 36, 45, 43, 51, 22, 53, 39, 33, 30, 24, 18, 12, 5, 63, 55, 48, 27, 60, 41, 37, 16, 46, 35, 44, 21, 52, 32, 23, 11, 54, 26, 40, 15, 34, 20, 31, 10, 25, 14, 19, 9, 13, 8, 7, 6]
theorem own : ownKnob Tryz.prog.godebug = none := by kernel_rfl
theorem zWB : Tryz.prog.globalNamed "math/bits.deBruijn64tab" = some 0 := by kernel_rfl
theorem zWC : (Tryz.prog.globals[0]?).map (·.type) = some 259 := by kernel_rfl
theorem zXE : Tryz.prog.cellsOf 259 = 64 := by kernel_rfl
theorem zXF : Tryz.prog.cellsOf 5 = 1 := by kernel_rfl
theorem zXR : Tryz.prog.underlying 259 = some (.array 64 5) := by kernel_rfl
theorem zXS : Tryz.prog.underlying 5 = some (.int .u8) := by kernel_rfl
theorem table {W : World} (h : laidMetH Tryz.prog Rows.stateHoldsRow.laid W) : Lib.TabIs Tryz.prog W "math/bits.deBruijn64tab" .u8 tab :=
  Lib.tabIs_of_head zWB zWC zXR zXS zXF zXE h
theorem zTq {W : World} {j : Nat} {v : Value} (h : W.cell? ⟨0, j, none⟩ = some v) : ∃ c, FH.of W 0 = some c ∧ c[j]? = some v := by
  unfold World.cell? at h
  simp only at h
  split at h
  · rename_i c el fz hk
    exact ⟨c, by simp [FH.of, hk], by simpa using h⟩
  · cases h
def zqU : List Int → List Value := List.map (Value.int .u8)
theorem zXG (P : Program) (F : FH) : ∀ l : List Int, zB (Rep P F (.int .u8)) l (zqU l)
  | [] => rfl
  | x :: l => ⟨[.int .u8 x], zqU l, rfl, rfl, zXG P F l⟩
theorem zXO : ∀ f add, Ev.look ext f = some add → zTE Tryz.prog f add := by
  intro f add h
  have h' : (Nat.beq 124 f = true ∧ add = false) ∨ (Nat.beq 199 f = true ∧ add = true) := by
    simp only [ext, Ev.look] at h
    cases h1 : Nat.beq 124 f with
    | true => rw [h1] at h; exact .inl ⟨rfl, (Option.some.inj h).symm⟩
    | false =>
      rw [h1] at h
      cases h2 : Nat.beq 199 f with
      | true => rw [h2] at h; exact .inr ⟨rfl, (Option.some.inj h).symm⟩
      | false => rw [h2] at h; cases h
  rcases h' with ⟨h1, rfl⟩ | ⟨h1, rfl⟩
  · obtain rfl := Nat.eq_of_beq_eq_true h1
    intro x y w hx hy hy2
    obtain ⟨m, rfl⟩ := Int.eq_ofNat_of_zero_le hx
    obtain ⟨n, rfl⟩ := Int.eq_ofNat_of_zero_le hy
    rw [run_callFunc_extern (P := Tryz.prog) (f := 124) Tryz.func124 (by kernel_rfl) (by kernel_rfl) (by kernel_rfl) (e := sub64Entry) (by kernel_rfl)]
    have h0 : (sub64Entry #[.int .u64 (m : Int), .int .u64 (n : Int), .int .u64 0]).run Tryz.prog w = .ok (.tuple #[.int .u64 (((m + 18446744073709551616 - n - 0) % 18446744073709551616 : Nat) : Int), .int .u64 ((if m < n + 0 then 1 else 0 : Nat) : Int)]) w := run_sub64 m n 0 (by omega) w
    have e1 : zAx false (m : Int) (n : Int) = (((m + 18446744073709551616 - n - 0) % 18446744073709551616 : Nat) : Int) := by
      show ((m : Int) - (n : Int)) % 18446744073709551616 = _
      omega
    have e2 : zC8 false (m : Int) (n : Int) = ((if m < n + 0 then 1 else 0 : Nat) : Int) := by
      show cond (decide ((m : Int) < (n : Int))) 1 0 = _
      by_cases h : m < n
      · rw [decide_eq_true (by omega), if_pos (by omega)]; rfl
      · rw [decide_eq_false (by omega), if_neg (by omega)]; rfl
    rw [h0, e1, e2]
    rfl
  · obtain rfl := Nat.eq_of_beq_eq_true h1
    intro x y w hx hy hy2
    rw [run_callFunc_extern (P := Tryz.prog) (f := 199) Tryz.func199 (by kernel_rfl) (by kernel_rfl) (by kernel_rfl) (e := add64Entry) (by kernel_rfl), run_add64 x y 0 hx hy (by omega) (by omega), Int.add_zero]
    rfl
theorem env {W : World} (hL : laidMetH Tryz.prog Rows.stateHoldsRow.laid W) : zV Tryz.prog (FH.of W) E0 := by
  refine zV.nil (by kernel_rfl) (fun g v hv => ?_) zXO
  have ht := table hL
  obtain ⟨c, hc, -⟩ := zTq (ht.cell zWB 0 (by decide))
  have hg : g = 0 := by
    cases g with
    | zero => rfl
    | succ g => cases hv
  subst hg
  have hv' : some (AV.dat (.ptr (.arr 64 (.int .u8))) (some tab)) = some v := hv
  cases hv'
  refine ⟨.arr 64 (.int .u8), tab, zqU tab, rfl, ⟨rfl, c, hc, fun j v hj => ?_⟩, ⟨rfl, zXG _ _ tab⟩⟩
  have hj' : j < tab.length := by
    have := List.getElem?_eq_some_iff.1 hj
    obtain ⟨h, -⟩ := this
    simpa [zqU] using h
  obtain ⟨c', hc', h0⟩ := zTq (ht.cell zWB j hj')
  rw [hc] at hc'
  obtain rfl := Option.some.inj hc'
  have : (zqU tab)[j]? = some (.int .u8 (tab.getD j 0)) := by
    unfold zqU
    rw [List.getElem?_map, List.getD_eq_getElem?_getD, List.getElem?_eq_getElem hj']; rfl
  rw [this] at hj
  rw [← hj]
  show c[0 + j]? = _
  rw [Nat.zero_add]; exact h0
set_option maxRecDepth 100000 in
theorem zWD (H : Type) (enc : TypeId × Value → H) (W : World) (base : Nat) (args : Array Value) (ds gs : List (DataW H)) (before : List MemPlace)
    (hval : ∀ (j : Nat) t v, Tryz.f7.params[j]? = some t → args[j]? = some v → Value.okWide Tryz.prog W .any base t v)
    (hW : DataW.Whole enc Tryz.prog Tryz.f7.params.toList Rows.stateHoldsSpec.vars false W args.toList ds gs before) (hL : laidMetH Tryz.prog Rows.stateHoldsRow.laid W) :
    Calls Tryz.prog 7 args W fun e W' => ∃ v, e = .returned v ∧ Rows.stateHoldsSpec.post enc Tryz.prog Tryz.f7 false true false false W args v W' := by
  refine zQx (a := zeQ) (tb := 4) (by kernel_rfl) (by decide +kernel) (by kernel_rfl) (by kernel_rfl) (by kernel_rfl) rfl (fun ds hd => ?_) hval hW fun x hx hr => ?_
  · have : Tryz.f7.params.size = 2 := by kernel_rfl
    rw [this] at hd
    match ds, hd with
    | [d1, d2], _ => rfl
  · have hs := zHr (FH.of W) (env hL)
    have he : zfm x = some (true, ()) := by
      obtain ⟨r, s, ⟨⟩⟩ := x
      exact zR6 (zW9 hx.1) (zXd hx.2.1)
    have hc := hs.2 x (true, ()) he (FH.of W) W args.toList (FH.le.refl _) (FH.of_ok W) hr
    refine hc.mono fun e W' he => ?_
    obtain ⟨us, F', h1, h2, _, _, h3⟩ := he
    refine ⟨?_, h2⟩
    obtain ⟨v, r, hus, hv, hva, hnil⟩ := (show vS Tryz.prog F' (.pair .bool .unit) (true, ()) us from h3)
    have hr0 : r = [] := hnil
    subst hr0
    have hv' : v.cells.toList = [.bool true] := hv
    rw [h1, hus]
    have hva' : zhX v = false := hva
    have : v = .bool true := by
      cases v <;> first | (simp [zhX] at hva'; done) | (simp [Value.cells] at hv'; exact congrArg _ hv') | (simp [Value.cells] at hv')
    rw [this]
    rfl
def zWE (l : List Value) : Obj → Obj
  | .cells _ t frozen => .cells l.toArray t frozen
  | o => o
noncomputable def zHt (os : Os) : World :=
  { World.holding Tryz.prog os ⟨#[], #[], []⟩ with heap := (((World.holding Tryz.prog os ⟨#[], #[], []⟩).heap.modify 0 (zWE (zqU tab))).modify 1 (zWE (zqU (Pinned.utf8FirstZ.map fun n : Nat => (n : Int))))).modify 2 (zWE (zqU [128, 191, 160, 191, 128, 159, 144, 191, 128, 143, 0, 0, 0, 0, 0, 0, 0, 0, 0, 0, 0, 0, 0, 0, 0, 0, 0, 0, 0, 0, 0, 0])) }
def zUM : Value := .agg #[.slice none 0 0, .slice none 0 0, .slice none 0 0, .slice none 0 0, .slice none 0 0, .int .i64 0, .int .i64 0, .int .i64 0, .int .i64 0]
def zUN : Value := .agg #[.int .u64 0, .slice none 0 0, .slice none 0 0, .slice none 0 0, .slice none 0 0, .slice none 0 0]
theorem zWF (os : Os) : laidMet Tryz.prog Rows.stateHoldsRow.laid ((zHt os).forCall (fun _ _ => 0) ⟨#[], #[zUM, zUN], []⟩).memory :=
  laidMet_of_run' 8 (by kernel_rfl) (by kernel_rfl)
theorem reads (os : Os) {H : Type} (enc : TypeId × Value → H) : ∃ places, DataW.whole enc Tryz.prog ((zHt os).forCall (fun _ _ => 0) ⟨#[], #[zUM, zUN], []⟩).memory Tryz.f7.params.toList Rows.stateHoldsSpec.vars false #[zUM, zUN].toList 8 = some ([.agg [.nil, .nil, .nil, .nil, .nil, .lit (.int .i64 0), .lit (.int .i64 0), .lit (.int .i64 0), .lit (.int .i64 0)], .agg [.lit (.int .u64 0), .nil, .nil, .nil, .nil, .nil]], [], places) :=
  ⟨[], by kernel_rfl⟩
set_option maxRecDepth 100000 in
theorem lifted (os : Os) (started : os.Started) (H : Type) (enc : TypeId × Value → H) (F : Stop.Interp) :
    ReturnsInHanded {} Tryz.checked os 7 .any ((OpenSpec.ofChange Rows.stateHoldsSpec).preRow enc Tryz.prog Tryz.f7 Rows.stateHoldsRow.domain false Rows.stateHoldsRow.laid) (((OpenSpec.ofChange Rows.stateHoldsSpec).at F).post enc Tryz.prog Tryz.f7 false true false false) := by
  obtain ⟨places, hx⟩ := reads os enc
  refine returnsInHanded_of_row (C := Tryz.checked) (s := OpenSpec.ofChange Rows.stateHoldsSpec) own started (by kernel_rfl) Tryz.func7
    (witness_row_at (enc := enc) (C := Tryz.checked) false (zHt os) #[zUM, zUN] rfl (by kernel_rfl) (by kernel_rfl) (by kernel_rfl)
      (OpenSpec.preRow_of_cond 8 hx (by kernel_rfl) (fun k hk => by cases hk) (by kernel_rfl) (zWF os))) ?_
  intro W base args ds gs before hval hW _ _ _ hL _ _
  exact zWD H enc W base args ds gs before hval hW hL
theorem k2 : laidOutB Tryz.prog = true := by kernel_rfl
theorem k3 : mapsRowed Tryz.prog = true := by kernel_rfl
theorem k10 : (Rows.stateHoldsRow.inPlace == Tryz.prog.inPlace 7) = true := by kernel_rfl
theorem k11 : (Rows.stateHoldsRow.unfollowed == Tryz.prog.unfollowed 7) = true := by kernel_rfl
theorem k12 : (Rows.stateHoldsRow.recurses == Tryz.prog.recurses 7) = true := by kernel_rfl
theorem k13 : (Rows.stateHoldsRow.named == Tryz.prog.varsNamed 7) = true := by kernel_rfl
theorem k23 : (Rows.stateHoldsRow.plainKeys == Tryz.prog.plainKeys) = true := by kernel_rfl
theorem k24 : Tryz.prog.stopsHeard = true := by kernel_rfl
theorem k25 : Tryz.prog.mayEnter = true := by kernel_rfl
theorem k26 : (Rows.stateHoldsRow.lifted == Tryz.prog.liftsFinal) = true := by kernel_rfl
theorem k27 : (Tryz.prog.make == some Rows.stateHoldsRow.make) = true := by kernel_rfl
theorem zXf : joinedFacts Tryz.prog 7 Tryz.f7 (OpenSpec.ofChange Rows.stateHoldsSpec).bare Rows.stateHoldsRow = true := by
  unfold joinedFacts
  rw [k2, k3, k10, k11, k12, k13, k23, k24, k25, k26, k27]
  kernel_rfl
theorem peq : Tryz.pinned.checked.prog = Tryz.prog := by kernel_rfl
theorem closed : joinedFacts Tryz.pinned.checked.prog 7 Tryz.f7 (OpenSpec.ofChange Rows.stateHoldsSpec).bare Rows.stateHoldsRow = true := by
  rw [peq]; exact zXf
theorem said : Rows.StateHoldsSaid :=
  OpenClaim.holds_of_cond 7 Tryz.f7 rfl rfl rfl rfl rfl rfl rfl ⟨rfl, rfl, rfl, rfl, rfl⟩ rfl rfl rfl rfl rfl (by kernel_rfl) Tryz.func7 closed
    (of_decide_eq_true (by kernel_rfl)) (by unfold Func.isWrapper; first | (rw [if_pos (by decide +kernel)]; kernel_rfl) | (rw [if_neg (by decide +kernel)]; exact ⟨rfl, rfl⟩))
    (fun os started H enc _ F => by rw [OpenClaim.pre_eq_preRow]; exact lifted os started H enc F)
theorem plain (f : FuncId) (fn : Func) (hf : Tryz.pinned.checked.prog.funcNamed "rialto/rialtolaw21.StateHolds" = some f) (hfn : Tryz.pinned.checked.prog.funcs[f]? = some fn) :
    false = Tryz.pinned.checked.prog.looks [] ∧ ∀ (j : Nat) t, fn.params[j]? = some t → Tryz.pinned.checked.prog.wantsStandIn t = false := by
  obtain rfl : f = 7 := Option.some.inj ((show Tryz.prog.funcNamed "rialto/rialtolaw21.StateHolds" = some 7 by kernel_rfl).symm.trans hf) |>.symm
  obtain rfl : fn = Tryz.f7 := (Option.some.inj (Tryz.func7.symm.trans hfn)).symm
  refine ⟨by kernel_rfl, fun j t ht => ?_⟩
  have hp : Tryz.f7.params = #[28, 35] := by kernel_rfl
  rw [hp] at ht
  have hm := Array.mem_of_getElem? ht
  have : t = 28 ∨ t = 35 := by simpa using hm
  rcases this with rfl | rfl
  · exact (show Tryz.prog.wantsStandIn 28 = false by kernel_rfl)
  · exact (show Tryz.prog.wantsStandIn 35 = false by kernel_rfl)
theorem card : Rows.StateHoldsCardSaid :=
  Claim7.holds_tied_plain_at .later [] _ _ _ _ said (fun _ h => by cases h) (by kernel_rfl) (fun _ h => by cases h) stateHolds_row_tie rfl ⟨rfl, rfl⟩ (by kernel_rfl) rfl plain (by kernel_rfl)
end Go.Proofs.YtaokpakfhdeiiaaGreatDoor.fnStateHolds
end
section
namespace Go.Proofs.YtaokpakfhdeiiaaGreatDoor
theorem stateHolds_holds : Rows.StateHoldsCardSaid := fnStateHolds.card
#print axioms stateHolds_holds
end Go.Proofs.YtaokpakfhdeiiaaGreatDoor
end
