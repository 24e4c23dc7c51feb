/- Proved: for every realm, state, room, coin and line, rialtolaw21.StateTells returns true, and the arguments read behind the call as they read before. Conditions: those of the given card alone (what is read is of bulk at most 1048576; the listed variable math/bits.deBruijn64tab holds what the program's text lays). -/
import Derived.Test.YtaokpakfhdeiiaaGreatDoorTef
import Derived.Test.YtaokpakfhdeiiaaGreatDoorCards
import Derived.Test.YtaokpakfhdeiiaaGreatDoorTie
import Derived.ProofKit
import Derived.OpenShut
import Derived.Deep.DeepHandedRow
import Derived.Lib.LaidTab
section
namespace Go.Proofs.YtaokpakfhdeiiaaGreatDoor.fnStateTells
open Go.ChangeShapes Go.WideShapes Go.ChangeAt Go.RowKit Go.Ev
abbrev tab : List Int := [0, 1, 56, 2, 57, 49, 28, 3, 61, 58, 42, 50, 38, 29, 17, 4, 62, 47, 59, 36, 45, 43, 51, 22, 53, 39, 33, 30, 24, 18, 12, 5, 63, 55, 48, 27, 60, 41, 37, 16, 46, 35, 44, 21, 52, 32, 23, 11, 54, 26, 40, 15, 34, 20, 31, 10, 25, 14, 19, 9, 13, 8, 7, 6]
theorem own : ownKnob Tryz.prog.godebug = none := by kernel_rfl
theorem qeO : Tryz.prog.globalNamed "math/bits.deBruijn64tab" = some 0 := by kernel_rfl
theorem qeP : (Tryz.prog.globals[0]?).map (·.type) = some 259 := by kernel_rfl
theorem qfV : Tryz.prog.cellsOf 259 = 64 := by kernel_rfl
theorem qfW : Tryz.prog.cellsOf 5 = 1 := by kernel_rfl
theorem qge : Tryz.prog.underlying 259 = some (.array 64 5) := by kernel_rfl
theorem qgf : Tryz.prog.underlying 5 = some (.int .u8) := by kernel_rfl
theorem table {W : World} (h : laidMetH Tryz.prog Rows.stateTellsUptoRow.laid W) : Lib.TabIs Tryz.prog W "math/bits.deBruijn64tab" .u8 tab :=
  Lib.tabIs_of_head qeO qeP qge qgf qfW qfV h
theorem qbg {W : World} {j : Nat} {v : Value} (h : W.cell? ⟨0, j, none⟩ = some v) : ∃ c, FH.of W 0 = some c ∧ c[j]? = some v := by
  unfold World.cell? at h
  simp only at h
  split at h
  · rename_i c el fz hk
    exact ⟨c, by simp [FH.of, hk], by simpa using h⟩
  · cases h
def zyz : List Int → List Value := List.map (Value.int .u8)
theorem qfX (P : Program) (F : FH) : ∀ l : List Int, zN (Rep P F (.int .u8)) l (zyz l)
  | [] => rfl
  | x :: l => ⟨[.int .u8 x], zyz l, rfl, rfl, qfX P F l⟩
theorem qf8 : ∀ f add, Ev.look ext f = some add → qbu Tryz.prog f add := by
  intro f add h
  have h' : (Nat.beq 124 f = true ∧ add = false) ∨ (Nat.beq 199 f = true ∧ add = true) := by
    simp only [ext, Ev.look] at h
    cases h1 : Nat.beq 124 f with
    | true => rw [h1] at h; exact .inl ⟨rfl, (Option.some.inj h).symm⟩
    | false =>
      rw [h1] at h
      cases h2 : Nat.beq 199 f with
      | true => rw [h2] at h; exact .inr ⟨rfl, (Option.some.inj h).symm⟩
      | false => rw [h2] at h; cases h
  rcases h' with ⟨h1, rfl⟩ | ⟨h1, rfl⟩
  · obtain rfl := Nat.eq_of_beq_eq_true h1
    intro x y w hx hy hy2
    obtain ⟨m, rfl⟩ := Int.eq_ofNat_of_zero_le hx
    obtain ⟨n, rfl⟩ := Int.eq_ofNat_of_zero_le hy
    rw [run_callFunc_extern (P := Tryz.prog) (f := 124) Tryz.func124 (by kernel_rfl) (by kernel_rfl) (by kernel_rfl) (e := sub64Entry) (by kernel_rfl)]
    have h0 : (sub64Entry #[.int .u64 (m : Int), .int .u64 (n : Int), .int .u64 0]).run Tryz.prog w = .ok (.tuple #[.int .u64 (((m + 18446744073709551616 - n - 0) % 18446744073709551616 : Nat) : Int), .int .u64 ((if m < n + 0 then 1 else 0 : Nat) : Int)]) w := run_sub64 m n 0 (by omega) w
    have e1 : zLw false (m : Int) (n : Int) = (((m + 18446744073709551616 - n - 0) % 18446744073709551616 : Nat) : Int) := by
      show ((m : Int) - (n : Int)) % 18446744073709551616 = _
      omega
    have e2 : zPj false (m : Int) (n : Int) = ((if m < n + 0 then 1 else 0 : Nat) : Int) := by
      show cond (decide ((m : Int) < (n : Int))) 1 0 = _
      by_cases h : m < n
      · rw [decide_eq_true (by omega), if_pos (by omega)]; rfl
      · rw [decide_eq_false (by omega), if_neg (by omega)]; rfl
    rw [h0, e1, e2]
    rfl
  · obtain rfl := Nat.eq_of_beq_eq_true h1
    intro x y w hx hy hy2
    rw [run_callFunc_extern (P := Tryz.prog) (f := 199) Tryz.func199 (by kernel_rfl) (by kernel_rfl) (by kernel_rfl) (e := add64Entry) (by kernel_rfl), run_add64 x y 0 hx hy (by omega) (by omega), Int.add_zero]
    rfl
theorem env {W : World} (hL : laidMetH Tryz.prog Rows.stateTellsUptoRow.laid W) : qv Tryz.prog (FH.of W) E0 := by
  refine qv.nil (by kernel_rfl) (fun g v hv => ?_) qf8
  have ht := table hL
  obtain ⟨c, hc, -⟩ := qbg (ht.cell qeO 0 (by decide))
  have hg : g = 0 := by
    cases g with
    | zero => rfl
    | succ g => cases hv
  subst hg
  have hv' : some (AV.dat (.ptr (.arr 64 (.int .u8))) (some tab)) = some v := hv
  cases hv'
  refine ⟨.arr 64 (.int .u8), tab, zyz tab, rfl, ⟨rfl, c, hc, fun j v hj => ?_⟩, ⟨rfl, qfX _ _ tab⟩⟩
  have hj' : j < tab.length := by
    have := List.getElem?_eq_some_iff.1 hj
    obtain ⟨h, -⟩ := this
    simpa [zyz] using h
  obtain ⟨c', hc', h0⟩ := qbg (ht.cell qeO j hj')
  rw [hc] at hc'
  obtain rfl := Option.some.inj hc'
  have : (zyz tab)[j]? = some (.int .u8 (tab.getD j 0)) := by
    unfold zyz
    rw [List.getElem?_map, List.getD_eq_getElem?_getD, List.getElem?_eq_getElem hj']; rfl
  rw [this] at hj
  rw [← hj]
  show c[0 + j]? = _
  rw [Nat.zero_add]; exact h0
mutual
theorem qfY {H : Type} : ∀ d : DataW H, dbk d ≤ Rows.uptoBulk d
  | .slice e s => by have := zLv e; simp only [dbk, Rows.uptoBulk]; omega
  | .agg p => by have := zLv p; simp only [dbk, Rows.uptoBulk]; omega
  | .lit l => by cases l <;> simp [dbk, Rows.uptoBulk]
  | .nil => by simp [dbk, Rows.uptoBulk]
  | .ptr d => by simp [dbk, Rows.uptoBulk]
  | .iface t d => by simp [dbk, Rows.uptoBulk]
  | .map es => by simp [dbk, Rows.uptoBulk]
  | .held h => by simp [dbk, Rows.uptoBulk]
theorem zLv {H : Type} : ∀ l : List (DataW H), zkh l ≤ Rows.uptoBulkAll l
  | [] => Nat.zero_le _
  | d :: l => by have h1 := qfY d; have h2 := zLv l; simp only [zkh, Rows.uptoBulkAll]; omega
end
theorem qeQ {H : Type} (l r : List (DataW H)) : Rows.uptoBulkAll (l ++ r) = Rows.uptoBulkAll l + Rows.uptoBulkAll r := by
  induction l with
  | nil => simp [Rows.uptoBulkAll]
  | cons x l ih => simp only [List.cons_append, Rows.uptoBulkAll, ih]; omega
theorem small {H : Type} {n : Nat} {ds gs : List (DataW H)} (h : n ≤ zkh ds) (hk : Rows.uptoSmall H (ds ++ gs) = true) : n ≤ 1048576 := by
  have h1 := zLv ds
  have h2 := qeQ ds gs
  have h3 : Rows.uptoBulkAll (ds ++ gs) ≤ 1048576 := of_decide_eq_true hk
  omega
set_option maxRecDepth 100000 in
theorem qeR (H : Type) (enc : TypeId × Value → H) (W : World) (base : Nat) (args : Array Value) (ds gs : List (DataW H)) (before : List MemPlace)
    (hval : ∀ (j : Nat) t v, Tryz.f3.params[j]? = some t → args[j]? = some v → Value.okWide Tryz.prog W .any base t v)
    (hW : DataW.Whole enc Tryz.prog Tryz.f3.params.toList Rows.stateTellsSpec.vars false W args.toList ds gs before) (hL : laidMetH Tryz.prog Rows.stateTellsUptoRow.laid W) (hk : Rows.uptoSmall H (ds ++ gs) = true) :
    Calls Tryz.prog 3 args W fun e W' => ∃ v, e = .returned v ∧ Rows.stateTellsSpec.post enc Tryz.prog Tryz.f3 false true false false W args v W' := by
  refine z6Z (a := zby) (tb := 4) (by kernel_rfl) (by decide +kernel) (by kernel_rfl) (by kernel_rfl) (by kernel_rfl) rfl (fun ds hd => ?_) hval hW fun x hx hbk hr => ?_
  · have : Tryz.f3.params.size = 5 := by kernel_rfl
    rw [this] at hd
    match ds, hd with
    | [d1, d2, d3, d4, d5], _ => rfl
  · have hs := zUP (FH.of W) (env hL)
    have he : zjk x = some (true, ()) := by
      obtain ⟨r, s, a, c, line, ⟨⟩⟩ := x
      exact z83 (qfn hx.1) (qfT hx.1) (qfr hx.2.1) (qaS (small hbk hk) (by omega))
    have hc := hs.2 x (true, ()) he (FH.of W) W args.toList (FH.le.refl _) (FH.of_ok W) hr
    refine hc.mono fun e W' he => ?_
    obtain ⟨us, F', h1, h2, _, _, h3⟩ := he
    refine ⟨?_, h2⟩
    obtain ⟨v, r, hus, hv, hva, hnil⟩ := (show zah Tryz.prog F' (.pair .bool .unit) (true, ()) us from h3)
    have hr0 : r = [] := hnil
    subst hr0
    have hv' : v.cells.toList = [.bool true] := hv
    rw [h1, hus]
    have hva' : zmJ v = false := hva
    have : v = .bool true := by
      cases v <;> first | (simp [zmJ] at hva'; done) | (simp [Value.cells] at hv'; exact congrArg _ hv') | (simp [Value.cells] at hv')
    rw [this]
    rfl
def qeS (l : List Value) : Obj → Obj
  | .cells _ t frozen => .cells l.toArray t frozen
  | o => o
noncomputable def zUR (os : Os) : World :=
  { World.holding Tryz.prog os ⟨#[], #[], []⟩ with heap := (((World.holding Tryz.prog os ⟨#[], #[], []⟩).heap.modify 0 (qeS (zyz tab))).modify 1 (qeS (zyz (Pinned.utf8FirstZ.map fun n : Nat => (n : Int))))).modify 2 (qeS (zyz [128, 191, 160, 191, 128, 159, 144, 191, 128, 143, 0, 0, 0, 0, 0, 0, 0, 0, 0, 0, 0, 0, 0, 0, 0, 0, 0, 0, 0, 0, 0, 0])) }
def qcH : Value := .agg #[.slice none 0 0, .slice none 0 0, .slice none 0 0, .slice none 0 0, .slice none 0 0, .int .i64 0, .int .i64 0, .int .i64 0, .int .i64 0]
def qcI : Value := .agg #[.int .u64 0, .slice none 0 0, .slice none 0 0, .slice none 0 0, .slice none 0 0, .slice none 0 0]
def qcJ : Value := .agg #[.int .i64 0, .int .i64 0]
def qcK : Value := .int .i64 0
def qcL : Value := .int .i64 0
theorem qeT (os : Os) : laidMet Tryz.prog Rows.stateTellsUptoRow.laid ((zUR os).forCall (fun _ _ => 0) ⟨#[], #[qcH, qcI, qcJ, qcK, qcL], []⟩).memory :=
  laidMet_of_run' 8 (by kernel_rfl) (by kernel_rfl)
theorem reads (os : Os) {H : Type} (enc : TypeId × Value → H) : ∃ places, DataW.whole enc Tryz.prog ((zUR os).forCall (fun _ _ => 0) ⟨#[], #[qcH, qcI, qcJ, qcK, qcL], []⟩).memory Tryz.f3.params.toList Rows.stateTellsSpec.vars false #[qcH, qcI, qcJ, qcK, qcL].toList 8 = some ([.agg [.nil, .nil, .nil, .nil, .nil, .lit (.int .i64 0), .lit (.int .i64 0), .lit (.int .i64 0), .lit (.int .i64 0)], .agg [.lit (.int .u64 0), .nil, .nil, .nil, .nil, .nil], .agg [.lit (.int .i64 0), .lit (.int .i64 0)], .lit (.int .i64 0), .lit (.int .i64 0)], [], places) :=
  ⟨[], by kernel_rfl⟩
set_option maxRecDepth 100000 in
theorem lifted (os : Os) (started : os.Started) (H : Type) (enc : TypeId × Value → H) (F : Stop.Interp) :
    ReturnsInHanded {} Tryz.checked os 3 .any ((Rows.OpenSpec.upto Rows.stateTellsSpec).preRow enc Tryz.prog Tryz.f3 Rows.stateTellsUptoRow.domain false Rows.stateTellsUptoRow.laid) (((Rows.OpenSpec.upto Rows.stateTellsSpec).at F).post enc Tryz.prog Tryz.f3 false true false false) := by
  obtain ⟨places, hx⟩ := reads os enc
  refine returnsInHanded_of_row (C := Tryz.checked) (s := Rows.OpenSpec.upto Rows.stateTellsSpec) own started (by kernel_rfl) Tryz.func3
    (witness_row_at (enc := enc) (C := Tryz.checked) false (zUR os) #[qcH, qcI, qcJ, qcK, qcL] rfl (by kernel_rfl) (by kernel_rfl) (by kernel_rfl)
      (OpenSpec.preRow_of_cond 8 hx (by kernel_rfl) (fun k hk => by cases hk; kernel_rfl) (by kernel_rfl) (qeT os))) ?_
  intro W base args ds gs before hval hW _ hcond _ hL _ _
  exact qeR H enc W base args ds gs before hval hW hL (hcond _ rfl)
theorem k2 : laidOutB Tryz.prog = true := by kernel_rfl
theorem k3 : mapsRowed Tryz.prog = true := by kernel_rfl
theorem k10 : (Rows.stateTellsUptoRow.inPlace == Tryz.prog.inPlace 3) = true := by kernel_rfl
theorem k11 : (Rows.stateTellsUptoRow.unfollowed == Tryz.prog.unfollowed 3) = true := by kernel_rfl
theorem k12 : (Rows.stateTellsUptoRow.recurses == Tryz.prog.recurses 3) = true := by kernel_rfl
theorem k13 : (Rows.stateTellsUptoRow.named == Tryz.prog.varsNamed 3) = true := by kernel_rfl
theorem k23 : (Rows.stateTellsUptoRow.plainKeys == Tryz.prog.plainKeys) = true := by kernel_rfl
theorem k24 : Tryz.prog.stopsHeard = true := by kernel_rfl
theorem k25 : Tryz.prog.mayEnter = true := by kernel_rfl
theorem k26 : (Rows.stateTellsUptoRow.lifted == Tryz.prog.liftsFinal) = true := by kernel_rfl
theorem k27 : (Tryz.prog.make == some Rows.stateTellsUptoRow.make) = true := by kernel_rfl
theorem qfv : joinedFacts Tryz.prog 3 Tryz.f3 (Rows.OpenSpec.upto Rows.stateTellsSpec).bare Rows.stateTellsUptoRow = true := by
  unfold joinedFacts
  rw [k2, k3, k10, k11, k12, k13, k23, k24, k25, k26, k27]
  kernel_rfl
theorem peq : Tryz.pinned.checked.prog = Tryz.prog := by kernel_rfl
theorem closed : joinedFacts Tryz.pinned.checked.prog 3 Tryz.f3 (Rows.OpenSpec.upto Rows.stateTellsSpec).bare Rows.stateTellsUptoRow = true := by
  rw [peq]; exact qfv
theorem said : Rows.StateTellsUptoSaid :=
  OpenClaim.holds_of_cond 3 Tryz.f3 rfl rfl rfl rfl rfl rfl rfl ⟨rfl, rfl, rfl, rfl, rfl⟩ rfl rfl rfl rfl rfl (by kernel_rfl) Tryz.func3 closed
    (of_decide_eq_true (by kernel_rfl)) (by unfold Func.isWrapper; first | (rw [if_pos (by decide +kernel)]; kernel_rfl) | (rw [if_neg (by decide +kernel)]; exact ⟨rfl, rfl⟩))
    (fun os started H enc _ F => by rw [OpenClaim.pre_eq_preRow]; exact lifted os started H enc F)
theorem plain (f : FuncId) (fn : Func) (hf : Tryz.pinned.checked.prog.funcNamed "rialto/rialtolaw21.StateTells" = some f) (hfn : Tryz.pinned.checked.prog.funcs[f]? = some fn) :
    false = Tryz.pinned.checked.prog.looks [] ∧ ∀ (j : Nat) t, fn.params[j]? = some t → Tryz.pinned.checked.prog.wantsStandIn t = false := by
  obtain rfl : f = 3 := Option.some.inj ((show Tryz.prog.funcNamed "rialto/rialtolaw21.StateTells" = some 3 by kernel_rfl).symm.trans hf) |>.symm
  obtain rfl : fn = Tryz.f3 := (Option.some.inj (Tryz.func3.symm.trans hfn)).symm
  refine ⟨by kernel_rfl, fun j t ht => ?_⟩
  have hp : Tryz.f3.params = #[28, 35, 37, 3, 3] := by kernel_rfl
  rw [hp] at ht
  have hm := Array.mem_of_getElem? ht
  have : t = 28 ∨ t = 35 ∨ t = 37 ∨ t = 3 ∨ t = 3 := by simpa using hm
  rcases this with rfl | rfl | rfl | rfl | rfl
  · exact (show Tryz.prog.wantsStandIn 28 = false by kernel_rfl)
  · exact (show Tryz.prog.wantsStandIn 35 = false by kernel_rfl)
  · exact (show Tryz.prog.wantsStandIn 37 = false by kernel_rfl)
  · exact (show Tryz.prog.wantsStandIn 3 = false by kernel_rfl)
  · exact (show Tryz.prog.wantsStandIn 3 = false by kernel_rfl)
theorem card : Rows.StateTellsUptoCardSaid :=
  Claim7.holds_tied_plain_at .later [] _ _ _ _ said (fun _ h => by cases h) (by kernel_rfl) (fun _ h => by cases h) stateTellsUpto_row_tie rfl ⟨rfl, rfl⟩ (by kernel_rfl) rfl plain (by kernel_rfl)
end Go.Proofs.YtaokpakfhdeiiaaGreatDoor.fnStateTells
end
section
namespace Go.Proofs.YtaokpakfhdeiiaaGreatDoor
theorem stateTellsUpto_holds : Rows.StateTellsUptoCardSaid := fnStateTells.card
#print axioms stateTellsUpto_holds
end Go.Proofs.YtaokpakfhdeiiaaGreatDoor
end
