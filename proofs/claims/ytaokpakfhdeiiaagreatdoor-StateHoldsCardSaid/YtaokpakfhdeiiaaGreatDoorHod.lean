import Derived.Test.YtaokpakfhdeiiaaGreatDoorHoc
import Derived.RangeFuncBox
import Derived.RangeFuncLeaves
import Derived.Shelf.Abstract
import Derived.WalkKit
import Derived.OwnWalkIn
import Derived.TacticsInMore
import Derived.LoopNIn
import Derived.LoopIn
import Derived.Maps.AppendAt
import Derived.Laws.Bits64b
import Derived.Lib.TrailingZeros
section
namespace Go.Proofs.YtaokpakfhdeiiaaGreatDoor
open Go.Ev Go.RowKit Go.Shelf Go.Proofs
set_option linter.unusedVariables false
set_option linter.unusedSimpArgs false
attribute [local go_sem] Oper.semAt_some
theorem zWj (c : Nat) : (zat c).length ≤ 64 := by
  unfold zat
  have := List.length_filter_le c.testBit (List.range 64)
  simpa using this
theorem zXs {c : Nat} (h0 : c ≠ 0) : c &&& (c - 1) < c := by
  have := @Nat.and_le_right c (c - 1)
  omega
def TabAt (w : World) : Prop := ∀ j, j < Lib.deBruijn64tab.length → w.cell? ⟨0, j, none⟩ = some (.int .u8 (Lib.deBruijn64tab.getD j 0))
theorem zXt (x a : Nat) (hx : x < 18446744073709551616) (hx0 : x ≠ 0) (hlow : x &&& (18446744073709551616 - x) = a) :
    IntKind.u64.wrap (bits BinOp.and IntKind.u64 (x : Int) (IntKind.u64.wrap (-(x : Int))) * 285870213051353865) / 288230376151711744 = ((a * 285870213051353865 % 18446744073709551616 / 288230376151711744 : Nat) : Int) := by
  have e1 : IntKind.u64.wrap (-(x : Int)) = ((18446744073709551616 - x : Nat) : Int) := by rw [IntKind.wrap_u64]; omega
  rw [e1, bits_and_u64_nat x _ hx (by omega), hlow, IntKind.wrap_u64]
  omega
set_option maxRecDepth 100000 in
set_option maxHeartbeats 1000000 in
theorem zWV (n : Nat) (x k idx : Nat) (w : World) (hx1 : ((x : Int) == 0) = false)
    (key : IntKind.u64.wrap (bits BinOp.and IntKind.u64 (x : Int) (IntKind.u64.wrap (-(x : Int))) * 285870213051353865) / 288230376151711744 = (idx : Int))
    (hi : idx < 64) (hk : k < 64) (hcell : w.cell? ⟨0, idx, none⟩ = some (.int .u8 k)) :
    CallsIn Fence.wide n Tryz.prog 288 #[.int .u64 x] w fun e w' => e = .returned (.int .i64 k) ∧ w' = w := by
  refine callsIn_of_wp Tryz.func288 rfl trivial ?_ rfl
  simp only [show Tryz.f288.ntmps = 14 by kernel_rfl, List.size_toArray, List.length_cons, List.length_nil, Nat.reduceAdd, Nat.reduceSub, Array.replicate_succ, Array.replicate_zero, List.push_toArray, List.append_toArray, List.nil_append, List.cons_append]
  gi_wp2_with (simp only [key])
  go_ret
  exact ⟨rfl, rfl⟩
theorem zXI (n : Nat) (x : Nat) (hx : x < 18446744073709551616) (hx0 : x ≠ 0) (w : World) (hT : TabAt w) :
    CallsIn Fence.wide n Tryz.prog 288 #[.int .u64 x] w fun e w' => e = .returned (.int .i64 (Lib.ctz 64 x)) ∧ w' = w := by
  obtain ⟨hlow, hk⟩ := Lib.lowest_bit 64 x hx0 hx
  obtain ⟨hi, htab⟩ := Lib.deBruijn64_at _ hk
  have hcell := hT _ hi
  rw [htab] at hcell
  exact zWV n x _ _ w (by simp; omega) (zXt x _ hx hx0 hlow) hi hk hcell
theorem zQB {x : Nat} (hx : x < 18446744073709551616) : IntKind.u64.wrap (x : Int) = (x : Int) := by rw [IntKind.wrap_u64]; omega
theorem zWk (c : Nat) (h0 : c ≠ 0) (h : c < 18446744073709551616) : bits BinOp.and IntKind.u64 (c : Int) (IntKind.u64.wrap ((c : Int) - 1)) = ((c &&& (c - 1) : Nat) : Int) := by
  rw [show ((c : Int) - 1) = ((c - 1 : Nat) : Int) by omega, zQB (by omega), bits_and_u64_nat c _ h (by omega)]
def zWH (v : Value) : Nat := match v with | .int _ n => n.toNat | _ => 0
set_option maxRecDepth 100000 in
set_option maxHeartbeats 1000000 in
theorem zWW (n : Nat) (l Bn n₀ : Nat) (lev : Int) (c0 : Nat) (h64 : c0 < 18446744073709551616) (hn₀ : 1 ≤ n₀) (J Jx : List Nat → World → Prop)
    (hY : ∀ pre x W, J pre W → pre.length < (zat c0).length → YieldAt Fence.wide (n - 1) Tryz.prog l #[.int .i64 (x : Nat)] W fun e W' =>
      (e = .returned (.bool true) ∧ J (pre ++ [x]) W' ∧ Below n₀ W W') ∨ (e = .returned (.bool false) ∧ Jx (pre ++ [x]) W'))
    (W : World) (hBn : W.cell? ⟨Bn, 0, none⟩ = some (.int .i64 lev)) (hBn1 : W.cell? ⟨Bn, 1, none⟩ = some (.int .u64 c0)) (hT : TabAt W) (h0 : J [] W) :
    CallsIn Fence.wide n Tryz.prog 287 #[.func (.yield l) #[] #[], .pointer (some ⟨Bn, 0, none⟩)] W fun e W' => (∃ v, e = .returned v) ∧
      ((∃ ys, ys = zat c0 ∧ J ys W') ∨ (∃ pre, pre <+: zat c0 ∧ Jx pre W')) := by
  refine callsIn_of_wp Tryz.func287 rfl trivial ?_ rfl
  simp only [show Tryz.f287.ntmps = 17 by kernel_rfl, List.size_toArray, List.length_cons, List.length_nil, Nat.reduceAdd, Nat.reduceSub, Array.replicate_succ, Array.replicate_zero, List.push_toArray, List.append_toArray, List.nil_append, List.cons_append]
  gi_wp2
  gi_loopw [3] (fun p wr => ∃ (pre : List Nat) (c : Nat), p = .int .u64 c ∧ c < 18446744073709551616 ∧ zat c0 = pre ++ zat c ∧ TabAt wr ∧ J pre wr)
    (fun p wr => zWH p)
  case atStart =>
    exact ⟨[], c0, rfl, h64, rfl, hT, h0⟩
  case round =>
    obtain ⟨pre, c, rfl, hc, hx, hTr, hJs⟩ := hrel
    by_cases hz : c = 0
    · subst hz
      gi_wp2
      go_end0
      exact ⟨⟨_, rfl⟩, .inl ⟨pre, by rw [hx, zVt, List.append_nil], hJs⟩⟩
    · have hx' := hx
      rw [zVs hz hc] at hx'
      obtain ⟨fn, tmps, assign, body, hy, hR⟩ := hY pre (Lib.ctz 64 c) wr hJs (by rw [hx']; simp)
      have hz1 : ((c : Int) == 0) = false := by simp; omega
      gi_wp2
      refine ⟨trivial, fun h => (by cases h), (zXI (n - 1) c hc hz wr hTr).mono ?_⟩
      rintro e w' ⟨rfl, hw'⟩
      subst hw'
      gi_wp2
      refine ⟨fun h => (by cases h), hR.mono ?_⟩
      rintro e W3 (⟨rfl, hJ3, hk3⟩ | ⟨rfl, hJx3⟩)
      · have hT3 : TabAt W3 := fun j hj => (hk3.cell (p := ⟨0, j, none⟩) (Nat.lt_of_lt_of_le Nat.zero_lt_one hn₀)).trans (hTr j hj)
        have hk : bits BinOp.and IntKind.u64 (c : Int) ((c : Int) - 1) = ((c &&& (c - 1) : Nat) : Int) := by rw [← zWk c hz hc, IntKind.wrap_u64]; congr 1; omega
        gi_wp2
        go_roundw
        case rel => exact ⟨pre ++ [Lib.ctz 64 c], c &&& (c - 1), rfl, Nat.lt_of_le_of_lt Nat.and_le_left hc, by rw [hx', List.append_assoc]; rfl, hT3, hJ3⟩
        case measure => simp [zWH]; exact zXs hz
      · gi_wp2
        refine bodyPost_ret (results_none rfl _ _ _) rfl ?_
        exact ⟨⟨_, rfl⟩, .inr ⟨pre ++ [Lib.ctz 64 c], ⟨zat (c &&& (c - 1)), by rw [hx', List.append_assoc]; rfl⟩, hJx3⟩⟩
set_option maxHeartbeats 1000000 in
theorem zWl (n : Nat) (lev : Int) (c : Nat) (w : World) :
    CallsIn Fence.wide n Tryz.prog 276 #[.agg #[.int .i64 lev, .int .u64 c]] w fun e w' => e = .returned (.func (.func 287) #[] #[.pointer (some ⟨w.heap.size, 0, none⟩)]) ∧ w' = w.alloc (.cells #[.int .i64 lev, .int .u64 c] 131) := by
  refine callsIn_of_wp Tryz.func276 rfl trivial ?_ rfl
  simp only [show Tryz.f276.ntmps = 4 by kernel_rfl, List.size_toArray, List.length_cons, List.length_nil, Nat.reduceAdd, Nat.reduceSub, Array.replicate_succ, Array.replicate_zero, List.push_toArray, List.append_toArray, List.nil_append, List.cons_append]
  gi_wp2
  go_ret
  exact ⟨rfl, rfl⟩
theorem zT8 (n : Nat) (Bn n₀ : Nat) (lev : Int) (c0 : Nat) (h64 : c0 < 18446744073709551616) (w : World) (hBn : Bn < w.heap.size) (hn₀ : 1 ≤ n₀) (hn1 : n₀ ≤ w.heap.size)
    (hc : w.cell? ⟨Bn, 0, none⟩ = some (.int .i64 lev)) (hc1 : w.cell? ⟨Bn, 1, none⟩ = some (.int .u64 c0)) (hT : TabAt w) :
    SeqStopsK Fence.wide n Tryz.prog 287 #[.pointer (some ⟨Bn, 0, none⟩)] (fun x : Nat => #[Value.int .i64 x]) (Below n₀) (fun ys => ys = zat c0) (fun pre => pre <+: zat c0) (zat c0).length w := fun l J Jx W hW _ _ hY h0 =>
  zWW n l Bn n₀ lev c0 h64 hn₀ J Jx hY W ((hW.cell (p := ⟨Bn, 0, none⟩) hBn).trans hc) ((hW.cell (p := ⟨Bn, 1, none⟩) hBn).trans hc1) (fun j hj => (hW.cell (p := ⟨0, j, none⟩) (show 0 < _ by omega)).trans (hT j hj)) h0
theorem zXJ : (Tryz.prog.info? 3).map (fun i => (i.zero, i.size, i.bytes)) = some (some (.int .i64 0), 1, 8) := by kernel_rfl
theorem zXK : Tryz.prog.underlying 23 = some (.slice 3) := by kernel_rfl
set_option maxRecDepth 100000 in
set_option maxHeartbeats 2000000 in
theorem zWX (n : Nat) (hn : 1 ≤ n) (lev : Int) (c : Nat) (h64 : c < 18446744073709551616) (w : World) (hs : 1 ≤ w.heap.size) (hT : TabAt w) :
    CallsIn Fence.wide n Tryz.prog 232 #[.agg #[.int .i64 lev, .int .u64 c]] w fun e W' => ∃ v, e = .returned v ∧ W'.ownsRow w.heap.size 3 1 v (zat c).length ((zat c).map fun x => Value.int .i64 (x : Nat)) ∧ Below w.heap.size w W' := by
  obtain ⟨i0, hi, hz0, hz1, hz2⟩ := info_parts zXJ
  refine callsIn_of_wp_marks Tryz.func232 rfl trivial ?_ rfl
  simp only [show Tryz.f232.ntmps = 13 by kernel_rfl, List.size_toArray, List.length_cons, List.length_nil, Nat.reduceAdd, Nat.reduceSub, Array.replicate_succ, Array.replicate_zero, List.push_toArray, List.append_toArray, List.nil_append, List.cons_append]
  gi_wp2
  refine ⟨trivial, (zWl (n - 1) lev c _).mono ?_⟩
  rintro e w' ⟨rfl, rfl⟩
  gi_wp2
  have bO : Boxed (((w.alloc (.cells #[.int .i64 lev, .int .u64 c] 131)).alloc (.cells #[.slice none 0 0] 23)).alloc (.cells #[.int .i64 lev, .int .u64 c] 131)) (w.heap.size + 1) 23 (.slice none 0 0) := by
    have := Boxed.new (w.alloc (.cells #[.int .i64 lev, .int .u64 c] 131)) 23 (.slice none 0 0)
    rw [World.size_alloc] at this
    exact this.alloc _
  have hB0 : Below w.heap.size w (((w.alloc (.cells #[.int .i64 lev, .int .u64 c] 131)).alloc (.cells #[.slice none 0 0] 23)).alloc (.cells #[.int .i64 lev, .int .u64 c] 131)) := (((Below.refl _ w).alloc (Nat.le_refl _) _).alloc (by simp) _).alloc (by simp; omega) _
  have hz : (((w.alloc (.cells #[.int .i64 lev, .int .u64 c] 131)).alloc (.cells #[.slice none 0 0] 23)).alloc (.cells #[.int .i64 lev, .int .u64 c] 131)).heap.size = w.heap.size + 1 + 1 + 1 := by simp
  have hbx : (((w.alloc (.cells #[.int .i64 lev, .int .u64 c] 131)).alloc (.cells #[.slice none 0 0] 23)).alloc (.cells #[.int .i64 lev, .int .u64 c] 131)).heap[w.heap.size + 1 + 1]? = some (.cells #[.int .i64 lev, .int .u64 c] 131 (0, 0)) := by
    have := World.alloc_heap_new ((w.alloc (.cells #[.int .i64 lev, .int .u64 c] 131)).alloc (.cells #[.slice none 0 0] 23)) (.cells #[.int .i64 lev, .int .u64 c] 131)
    simpa [World.size_alloc] using this
  have hT1 : TabAt (((w.alloc (.cells #[.int .i64 lev, .int .u64 c] 131)).alloc (.cells #[.slice none 0 0] 23)).alloc (.cells #[.int .i64 lev, .int .u64 c] 131)) := fun j hj => (hB0.cell (p := ⟨0, j, none⟩) (Nat.lt_of_lt_of_le Nat.zero_lt_one hs)).trans (hT j hj)
  generalize (((w.alloc (.cells #[.int .i64 lev, .int .u64 c] 131)).alloc (.cells #[.slice none 0 0] 23)).alloc (.cells #[.int .i64 lev, .int .u64 c] 131)) = w1 at bO hB0 hz hbx hT1
  refine wpIn_rangeFunc_ownG rfl (n := n) hn (gf := 287) (lb := #[.pointer (some ⟨w.heap.size + 1 + 1, 0, none⟩)]) rfl trivial (enters_of Tryz.func287 (by kernel_rfl) rfl)
    (zT8 (n - 1) (w.heap.size + 1 + 1) w.heap.size lev c h64 w1 (by omega) hs (by omega) (by simp [World.cell?, hbx]) (by simp [World.cell?, hbx]) hT1) belowK_t (belowK_b (by omega)) (Below.refl _ _) (fun _ => rfl)
    (fun pre W => (∃ v, Boxed W (w.heap.size + 1) 23 v ∧ W.ownsRow w.heap.size 3 1 v pre.length (pre.map fun x => Value.int .i64 (x : Nat)) ∧ True) ∧ Below w.heap.size w W)
    (fun _ _ _ => False)
    (OwnFrom.and (Own.from (holdsRow_own w.heap.size (w.heap.size + 1) 23 3 1 (fun pre : List Nat => pre.length) (fun pre : List Nat => pre.map fun x => Value.int .i64 (x : Nat)) (fun _ _ => True)) _) (ownFrom_below (Nat.le_refl _) (by omega)))
    (fun _ _ _ _ _ hs _ _ => hs)
    ⟨⟨_, bO, World.ownsRow_nil _ _ _ _, trivial⟩, hB0⟩
    (fun x => { tmps := #[.agg #[.int .i64 lev, .int .u64 c], .pointer (some ⟨w.heap.size, 0, none⟩), .slice none 0 0, .pointer (some ⟨w.heap.size + 1, 0, none⟩), .int .i64 (x : Nat), .agg #[.int .i64 lev, .int .u64 c], .func (.func 287) #[] #[.pointer (some ⟨w.heap.size + 1 + 1, 0, none⟩)], .int .i64 (x : Nat), undef, undef, undef, undef, undef], defers := [] }) ?assign ?body ?done ?stop
  case assign =>
    intro l x W K hK
    gi_wp2
    exact hK
  case body =>
    rintro l pre x W ⟨⟨v, hv, hrow, -⟩, hB⟩ hlt
    have hc := hv.cell
    have hl64 := zWj c
    gi_wp2_with (gi_at_builtin; refine wpListIn_append_own _ rfl _ _ 23 rfl w.heap.size 3 i0 (.int .i64 0) 1 8 zXK hi hz0 hz1 hz2 rfl (by decide) _ _ _ rfl (hrow.alloc _) ⟨W.heap.size, 0, none⟩ 1 1 [.int .i64 (x : Nat)] rfl rfl (cell_one_new _ _ _) (by simp [Value.oneCell']) (by simp only [Go.maxLen]; omega) (by omega) (by have := hB.size; simp; omega) ?_; intro v' w1' hown' hgrow _; obtain ⟨g', cap', rfl⟩ := ownsRow_succ hown'; obtain ⟨hv1, hv2, hr2, hk2, hb2⟩ := hv.appended (by decide) hrow hB.size (by omega) hown' hgrow; have hc1 := hv1.cell; have hf1 := hv1.frozen)
    exact ⟨hk2.from _, hb2, ⟨_, hv2, by simpa using hr2, trivial⟩, hB.trans hb2⟩
  case done =>
    rintro D ys W hD rfl ⟨⟨v, hv, hrow, -⟩, hB⟩ hK
    have hc := hv.cell
    gi_wp2
    refine ⟨by simp, .inl ⟨_, _, rfl, run_takeDeferred hK, ?_⟩⟩
    exact ⟨_, results_tmp rfl _ _ _, v, rfl, ownsRow_putObj hrow _ hK rfl, hB.trans (belowK_b (w := w) (Nat.le_refl _) W D _ _ (by omega) hK rfl rfl)⟩
  case stop =>
    rintro D c pre W _ _ h _
    exact h.elim
def zp8 : zGq := fun x => bif decide (0 ≤ x.1.2.1 ∧ x.1.2.1 < 18446744073709551616) then some ((zat x.1.2.1.toNat).map Int.ofNat, ()) else none
theorem zWm {G F0 : FH} {w : World} (hE : zV Tryz.prog G E0) (hG : G.le F0) (hk : F0.ok w) : TabAt w ∧ 1 ≤ w.heap.size := by
  obtain ⟨τ, x, cs, h1, ⟨-, c, h2, h3⟩, h4⟩ := hE.glob 0 _ rfl
  cases h1
  obtain ⟨-, hr⟩ := h4
  obtain ⟨el, fz, hw⟩ := hk _ _ (hG _ _ h2)
  have hlt := (Array.getElem?_eq_some_iff.1 hw).1
  refine ⟨fun j hj => ?_, hlt⟩
  have key : ∀ (l : List Int) (cs : List Value) (j : Nat), zB ((RR Tryz.prog (.int .u8)).1 G) l cs → j < l.length → cs[j]? = some (.int .u8 (l.getD j 0)) := by
    intro l
    induction l with
    | nil => intro cs j _ h; simp at h
    | cons x l ih =>
      rintro cs j ⟨d, e, rfl, hd, he⟩ hj
      have hd : d = [.int .u8 x] := hd
      subst hd
      cases j with
      | zero => rfl
      | succ j => simpa using ih e j he (by simpa using hj)
  have h5 := key _ _ j hr (by simpa [Lib.deBruijn64tab] using hj)
  have h6 := h3 j _ h5
  have e : ∀ j, j < 64 → ((([0, 1, 56, 2, 57, 49, 28, 3, 61, 58, 42, 50, 38, 29, 17, 4, 62, 47, 59, 36, 45, 43, 51, 22, 53, 39, 33, 30, 24, 18, 12, 5, 63, 55, 48, 27, 60, 41, 37, 16, 46, 35, 44, 21, 52, 32, 23, 11, 54, 26, 40, 15, 34, 20, 31, 10, 25, 14, 19, 9, 13, 8, 7, 6] : List Int)).getD j 0) = ((Lib.deBruijn64tab.getD j 0 : Nat) : Int) := by decide +kernel
  rw [e j (by simpa [Lib.deBruijn64tab] using hj)] at h6
  unfold World.cell?
  simp only [hw]
  simpa using h6
theorem zOv (P : Program) (F : FH) : ∀ l : List Nat, zB (Rep P F (.int .i64)) (l.map Int.ofNat) (l.map fun x => Value.int .i64 (x : Nat))
  | [] => rfl
  | x :: l => ⟨[.int .i64 (x : Nat)], l.map fun x => Value.int .i64 (x : Nat), rfl, rfl, zOv P F l⟩
theorem zQC : Sd Tryz.prog E0 (zuz zp8) := by
  intro G hE
  refine ⟨⟨Tryz.f232, Tryz.func232, by kernel_rfl, by kernel_rfl⟩, ?_⟩
  rintro ⟨⟨(lev : Int), (comps : Int), ⟨⟩⟩, ⟨⟩⟩ y hy F0 w vs hG hk ⟨v, r, rfl, h1, h2, h3⟩
  obtain ⟨hd, hy⟩ := zd hy
  cases hy
  obtain ⟨hc0, hc1⟩ := of_decide_eq_true hd
  have hc0 : 0 ≤ comps := hc0
  have hc1 : comps < 18446744073709551616 := hc1
  clear hd
  obtain rfl : r = [] := h3
  obtain ⟨hT, hs⟩ := zWm hE hG hk
  obtain ⟨c, rfl⟩ := Int.eq_ofNat_of_zero_le hc0
  have hv : v = .agg #[.int .i64 lev, .int .u64 c] := by
    obtain ⟨d1, e1, k1, (rfl : d1 = _), d2, e2, rfl, (rfl : d2 = _), (rfl : e2 = _)⟩ := h1
    have h2 : zhX v = true := h2
    cases v with
    | agg cs =>
      have : cs.toList = [.int .i64 lev, .int .u64 c] := k1
      rw [← Array.toArray_toList (xs := cs), this]
    | _ => cases h2
  subst hv
  have hin := callsIn_wide.1 (zWX 1 (Nat.le_refl _) lev c (by omega) w hs hT)
  refine hin.mono ?_
  rintro e W' ⟨v, rfl, hrow, hB⟩
  have hlow : ∀ k c', F0 k = some c' → k < w.heap.size := fun k c' hk' => by
    obtain ⟨el, fz, hw⟩ := hk _ _ hk'
    exact (Array.getElem?_eq_some_iff.1 hw).1
  let F' : FH := fun k => if k < w.heap.size then F0 k else FH.of W' k
  have hF' : ∀ k c', F' k = some c' → ∃ el fz, W'.heap[k]? = some (.cells c' el fz) := by
    intro k c' h
    simp only [F'] at h
    split at h
    · rename_i hlt
      obtain ⟨el, fz, hw⟩ := hk _ _ h
      exact ⟨el, fz, (hB.block k hlt).trans hw⟩
    · exact FH.of_ok W' _ _ h
  refine ⟨[v], F', rfl, hB, ⟨fun k c' hk' => ?_, fun k hk' => ?_⟩, hF', ?_⟩
  · simp only [F']; rw [if_pos (hlow k c' hk')]; exact hk'
  · simp only [F']; rw [if_pos hk']
  · show vS Tryz.prog F' (.pair (.sl tI) .unit) ((zat c).map Int.ofNat, ()) [v]
    have hlen : List.length ((zat c).map Int.ofNat) = (zat c).length := List.length_map ..
    have hr := zOv Tryz.prog F' (zat c)
    generalize (zat c).map Int.ofNat = L at hlen hr ⊢
    rcases hrow.2 with ⟨rfl, h0⟩ | ⟨g, cap, cur, rfl, hgb, hw, hnc, -, -, htake⟩
    · obtain rfl : L = [] := List.eq_nil_of_length_eq_zero (by omega)
      exact ⟨_, [], rfl, ⟨none, 0, rfl, Nat.le_refl _, fun hne => absurd rfl hne⟩, rfl, rfl⟩
    · refine ⟨_, [], rfl, ⟨some ⟨g, 0, none⟩, cap, ?_, (show List.length L ≤ cap by omega), fun _ => ⟨_, _, rfl, ⟨rfl, cur, ?_, fun j u hj => ?_⟩, hr⟩⟩, rfl, rfl⟩
      · show _ = [Value.slice _ (List.length L) cap]
        rw [hlen]; rfl
      · show (if g < w.heap.size then F0 g else FH.of W' g) = some cur
        rw [if_neg (by omega)]
        simp only [FH.of, hw]
      · rw [← htake] at hj
        have := List.getElem?_eq_some_iff.1 hj
        obtain ⟨h1, h2⟩ := this
        rw [List.getElem_take] at h2
        show cur[0 + j]? = _
        rw [Nat.zero_add, ← Array.getElem?_toList, List.getElem?_eq_getElem (by rw [List.length_take] at h1; omega), h2]
end Go.Proofs.YtaokpakfhdeiiaaGreatDoor
end
section
namespace Go.Proofs.YtaokpakfhdeiiaaGreatDoor
open Go.Ev
set_option linter.unusedVariables false
noncomputable section
section
def zE1 : Unit → Option (zf × Unit) := fun () =>
  some (([(0, 0, ()), (0, 1, ()), (1, 1, ())], [0, 1, 2], [(ByteArray.mk #[97, 110, 110], ByteArray.mk #[97], 1, true, ()), (ByteArray.mk #[98, 111, 98], ByteArray.mk #[98], 0, false, ())], [(0, 0, ())], [(2, 2, 2, 2, 2, 1000, ()), (2, 2, 2, 2, 2, 1000, ()), (2, 2, 2, 2, 2, 1000, ())], 4, 6, 2, 3, ()), ())
theorem zOI (K : Nat) : evF (En E0 false []) K Tryz.f64 0 ztX ztY = zE1 := funext fun () => by kernel_rfl
end
def zeu : zEO := zE1
theorem zOJ : Sd Tryz.prog E0 (zrJ zeu) := mkS (l := []) trivial Tryz.func64 (by kernel_rfl) (zOI K0)
section
def zuI : (zM × Unit) → Option (Bool × Unit) := fun (x0, ()) =>
  bif decide (x0.1 ≥ 0) then bif decide (x0.1 < 4) then some (true, ()) else some (false, ()) else some (false, ())
theorem zOK (K : Nat) : evF (En E0 false []) K Tryz.f170 0 zum zun = zuI := funext fun (x0, ()) => by kernel_rfl
end
def zev : zEX := zuI
theorem zOL : Sd Tryz.prog E0 (zr2 zev) := mkS (l := []) trivial Tryz.func170 (by kernel_rfl) (zOK K0)
section
variable (zuJ : zEX)
def znX : (zM × Unit) → Option (Bool × Unit) := fun (x0, ()) =>
  Option.bind (zuJ (x0, ())) fun q0 => bif q0.1 then some (false, ()) else some (true, ())
theorem zJd (K : Nat) : evF (En E0 false [zr2 zuJ]) K Tryz.f169 0 znC znD = znX zuJ := funext fun (x0, ()) => by kernel_rfl
end
def zbq : zw4 := znX zev
theorem zJe : Sd Tryz.prog E0 (zlv zbq) := mkS (l := [zr2 zev]) ⟨zOL, trivial⟩ Tryz.func169 (by kernel_rfl) (zJd zev K0)
section
def zsl : (Int × (Int × (Int × Unit))) → Option (Bool × Unit) := fun (x0, x1, x2, ()) =>
  bif decide (x0 ≥ x1) then bif decide (x0 ≤ x2) then some (true, ()) else some (false, ()) else some (false, ())
theorem zM0 (K : Nat) : evF (En E0 false []) K Tryz.f171 0 zr3 zr4 = zsl := funext fun (x0, x1, x2, ()) => by kernel_rfl
end
def zJ : vp := zsl
theorem vV : Sd Tryz.prog E0 (qa zJ) := mkS (l := []) trivial Tryz.func171 (by kernel_rfl) (zM0 K0)
section
abbrev zp9 : Env := (En E0 false [])
abbrev yG : Type := (List zM) × (Option ((zM × Unit) → Option (Bool × Unit))) × Int × Int
abbrev zBf : yG → St := fun (v0, v1, v7, v8) => St.mk [(0, AV.dat (Ty.sl zS) v0), (1, AV.dat (Ty.fn (Ty.pair zS Ty.unit) (Ty.pair Ty.bool Ty.unit)) v1), (7, AV.dat tI v7), (8, AV.dat tI v8)] []
def zfD (k0 : yG → Option (Int × Unit)) : yG → Option (Int × Unit) := fun (v0, v1, v7, v8) =>
  bif decide (v8 < v7) then inR v8 ((List.length v0) : Int) (Option.bind v1 fun q0 => Option.bind (q0 (ix zcC v0 v8, ())) fun q1 => bif q1.1 then some (v8, ()) else k0 (v0, v1, v7, wI (v8 + 1))) else some ((-1), ())
abbrev zma (K : Nat) : yG → Option (Int × Unit) := iter (zfD) K
theorem zBg (K : Nat) : ∀ n, evV (zp9) K Tryz.f233 0 zcZ [1, 0, 1, 0] [] zBf n = iter (zfD) n := zG fun n0 (v0, v1, v7, v8) => by kernel_rfl
def zht (L0 : yG → Option (Int × Unit)) : ((List zM) × ((Option ((zM × Unit) → Option (Bool × Unit))) × Unit)) → Option (Int × Unit) := fun (x0, x1, ()) =>
  L0 (x0, x1, ((List.length x0) : Int), 0)
theorem zDM (K : Nat) : evF (zp9) K Tryz.f233 0 zhg zcZ = zht (zma K) := tr1 (T := zht) (zBg K K) fun (x0, x1, ()) => by kernel_rfl
end
def vW : zpT := zht (zma K0)
theorem zDN : Sd Tryz.prog E0 (zgi vW) := mkS (l := []) trivial Tryz.func233 (by kernel_rfl) (zDM K0)
section
variable (zhu : zpT)
def zkV : ((List zM) × ((Option ((zM × Unit) → Option (Bool × Unit))) × Unit)) → Option (Bool × Unit) := fun (x0, x1, ()) =>
  Option.bind (zhu (x0, x1, ())) fun q0 => bif decide (q0.1 ≥ 0) then some (true, ()) else some (false, ())
theorem zzc (K : Nat) : evF (En E0 false [zgi zhu]) K Tryz.f172 0 zd2 zd3 = zkV zhu := funext fun (x0, x1, ()) => by kernel_rfl
end
def qN : zd4 := zkV vW
theorem zkW : Sd Tryz.prog E0 (vH qN) := mkS (l := [zgi vW]) ⟨zDN, trivial⟩ Tryz.func172 (by kernel_rfl) (zzc vW K0)
section
def zqa : (Int × Unit) → Option (Bool × Unit) := fun (x0, ()) =>
  bif x0 != x0 then some (true, ()) else some (false, ())
theorem zLc (K : Nat) : evF (En E0 false []) K Tryz.f277 0 zp5 zp6 = zqa := funext fun (x0, ()) => by kernel_rfl
end
def zb7 : zzW := zqa
theorem zLd : Sd Tryz.prog E0 (znW zb7) := mkS (l := []) trivial Tryz.func277 (by kernel_rfl) (zLc K0)
section
variable (zeU : zzW)
def zlN : (Int × (Int × Unit)) → Option (Int × Unit) := fun (x0, x1, ()) =>
  Option.bind (zeU (x0, ())) fun q0 => bif q0.1 then Option.bind (zeU (x1, ())) fun q1 => bif q1.1 then some (0, ()) else some ((-1), ()) else Option.bind (zeU (x1, ())) fun q2 => bif q2.1 then some (1, ()) else bif decide (x0 < x1) then some ((-1), ()) else bif decide (x0 > x1) then some (1, ()) else some (0, ())
theorem zHW (K : Nat) : evF (En E0 false [znW zeU]) K Tryz.f235 0 zlG zlH = zlN zeU := funext fun (x0, x1, ()) => by kernel_rfl
end
def j4 : zlI := zlN zb7
theorem zvt : Sd Tryz.prog E0 (zbU j4) := mkS (l := [znW zb7]) ⟨zLd, trivial⟩ Tryz.func235 (by kernel_rfl) (zHW zb7 K0)
section
def zjT : (Int × Unit) → Option (Bool × Unit) := fun (x0, ()) =>
  bif x0 != x0 then some (true, ()) else some (false, ())
theorem zGE (K : Nat) : evF (En E0 false []) K Tryz.f278 0 zjQ zjR = zjT := funext fun (x0, ()) => by kernel_rfl
end
def y7 : ztg := zjT
theorem zGF : Sd Tryz.prog E0 (ziM y7) := mkS (l := []) trivial Tryz.func278 (by kernel_rfl) (zGE K0)
section
variable (zbV : ztg)
def zhv : (Int × (Int × Unit)) → Option (Int × Unit) := fun (x0, x1, ()) =>
  Option.bind (zbV (x0, ())) fun q0 => bif q0.1 then Option.bind (zbV (x1, ())) fun q1 => bif q1.1 then some (0, ()) else some ((-1), ()) else Option.bind (zbV (x1, ())) fun q2 => bif q2.1 then some (1, ()) else bif decide (x0 < x1) then some ((-1), ()) else bif decide (x0 > x1) then some (1, ()) else some (0, ())
theorem zDO (K : Nat) : evF (En E0 false [ziM zbV]) K Tryz.f236 0 zhh zhi = zhv zbV := funext fun (x0, x1, ()) => by kernel_rfl
end
def jh : zhj := zhv y7
theorem zqb : Sd Tryz.prog E0 (y6 jh) := mkS (l := [ziM y7]) ⟨zGF, trivial⟩ Tryz.func236 (by kernel_rfl) (zDO y7 K0)
section
abbrev zGG : Env := (En E0 false [])
abbrev zgn : Type := Int × (List Int) × Int × Int
abbrev zM1 : zgn → St := fun (v3, v6, v7, v8) => St.mk [(3, AV.dat tI v3), (6, AV.dat (Ty.sl tI) v6), (7, AV.dat tI v7), (8, AV.dat tI v8)] []
def j9 (k0 : zgn → Option (Int × Unit)) : zgn → Option (Int × Unit) := fun (v3, v6, v7, v8) =>
  bif decide (v8 < v7) then inR v8 ((List.length v6) : Int) (bif ix (0 : Int) v6 v8 != v3 then some (ix (0 : Int) v6 v8, ()) else k0 (v3, v6, v7, wI (v8 + 1))) else some (v3, ())
abbrev zCo (K : Nat) : zgn → Option (Int × Unit) := iter (j9) K
theorem zM2 (K : Nat) : ∀ n, evV (zGG) K Tryz.f234 0 zpU [1, 1, 0, 1, 0] [] zM1 n = iter (j9) n := zG fun n0 (v3, v6, v7, v8) => by kernel_rfl
def zxL (L0 : zgn → Option (Int × Unit)) : ((List Int) × Unit) → Option (Int × Unit) := fun (x0, ()) =>
  L0 (0, x0, ((List.length x0) : Int), 0)
theorem zQD (K : Nat) : evF (zGG) K Tryz.f234 0 zxl zpU = zxL (zCo K) := tr1 (T := zxL) (zM2 K K) fun (x0, ()) => by kernel_rfl
end
def yH : zxm := zxL (zCo K0)
theorem zGH : Sd Tryz.prog E0 (zh1 yH) := mkS (l := []) trivial Tryz.func234 (by kernel_rfl) (zQD K0)
section
variable (ym : zlI) (vh : zhj) (zdy : zxm)
def zBh : (zM × (zM × Unit)) → Option (Int × Unit) := fun (x0, x1, ()) =>
  Option.bind (ym (x0.1, x1.1, ())) fun q0 => Option.bind (vh (x0.2.1, x1.2.1, ())) fun q1 => Option.bind (zdy (zg (zg (List.replicate 2 (0 : Int)) 0 q0.1) 1 q1.1, ())) fun q2 => some (q2.1, ())
theorem zSr (K : Nat) : evF (En E0 false [zbU ym, y6 vh, zh1 zdy]) K Tryz.f173 0 zAX zAY = zBh ym vh zdy := funext fun (x0, x1, ()) => by kernel_rfl
end
def zfE : zIJ := zBh j4 jh yH
theorem zSs : Sd Tryz.prog E0 (zw5 zfE) := mkS (l := [zbU j4, y6 jh, zh1 yH]) ⟨zvt, zqb, zGH, trivial⟩ Tryz.func173 (by kernel_rfl) (zSr j4 jh yH K0)
section
variable (yZ : zw4) (zo : vp) (zQ : zd4) (zde : zIJ)
abbrev zCp : Env := (En E0 false [zlv yZ, qa zo, vH zQ, zw5 zde])
abbrev zdz : Type := Int × zf
abbrev zJf : zdz → St := fun (v4, o0) => St.mk [(1, AV.bp 0 []), (4, AV.dat tI v4)] [Obj.bx (AV.dat zN o0) false]
def zhw (k0 : zdz → Option (Bool × Unit)) : zdz → Option (Bool × Unit) := fun (v4, o0) =>
  bif decide (v4 < ((List.length o0.1) : Int)) then inR (wI (v4 - 1)) ((List.length o0.1) : Int) (inR v4 ((List.length o0.1) : Int) (Option.bind (zde (List.getD o0.1 (Int.toNat (wI (v4 - 1))) (zb zS), ix zcC o0.1 v4, ())) fun q2 => bif decide (q2.1 ≥ 0) then some (false, ()) else k0 (wI (v4 + 1), o0))) else some (true, ())
abbrev znY (K : Nat) : zdz → Option (Bool × Unit) := iter (zhw zde) K
theorem zJg (K : Nat) : ∀ n, evV (zCp yZ zo zQ zde) K Tryz.f84 0 zkt [1, 1, 1, 0, 1, 0] [] zJf n = iter (zhw zde) n := zG fun n0 (v4, o0) => by kernel_rfl
def zkz (L0 : zdz → Option (Bool × Unit)) : (zf × Unit) → Option (Bool × Unit) := fun (x0, ()) =>
  Option.bind (zo (((List.length x0.1) : Int), 1, 8, ())) fun q0 => bif q0.1 then bif decide (0 < ((List.length x0.1) : Int)) then bif !eqI zS (ix zcC x0.1 0) (zb zS) then some (false, ()) else Option.bind (zQ (x0.1, some yZ, ())) fun q1 => bif q1.1 then some (false, ()) else L0 (1, x0) else none else some (false, ())
theorem zM3 (K : Nat) : evF (zCp yZ zo zQ zde) K Tryz.f84 0 zrQ zkt = zkz yZ zo zQ (znY zde K) := tr1 (T := zkz yZ zo zQ) (zJg yZ zo zQ zde K K) fun (x0, ()) => by kernel_rfl
end
def vX : zCc := zkz zbq zJ qN (znY zfE K0)
theorem zM4 : Sd Tryz.prog E0 (zpb vX) := mkS (l := [zlv zbq, qa zJ, vH qN, zw5 zfE]) ⟨zJe, vV, zkW, zSs, trivial⟩ Tryz.func84 (by kernel_rfl) (zM3 zbq zJ qN zfE K0)
section
variable (zo : vp)
def zqc : (Int × ((Option zf) × Unit)) → Option (Bool × Unit) := fun (x0, x1, ()) =>
  Option.bind x1 fun q0 => Option.bind (zo (x0, 0, wI (((List.length q0.1) : Int) - 1), ())) fun q1 => bif q1.1 then some (false, ()) else some (true, ())
theorem zLe (K : Nat) : evF (En E0 false [qa zo]) K Tryz.f174 0 zpH zpI = zqc zo := funext fun (x0, x1, ()) => by kernel_rfl
end
def zaG : zzR := zqc zJ
theorem zLf : Sd Tryz.prog E0 (znE zaG) := mkS (l := [qa zJ]) ⟨vV, trivial⟩ Tryz.func174 (by kernel_rfl) (zLe zJ K0)
section
abbrev zth : Env := (En E0 false [])
abbrev zaH : Type := (List Int) × (Option ((Int × Unit) → Option (Bool × Unit))) × Int × Int
abbrev zDP : zaH → St := fun (v0, v1, v7, v8) => St.mk [(0, AV.dat (Ty.sl tI) v0), (1, AV.dat (Ty.fn (Ty.pair tI Ty.unit) (Ty.pair Ty.bool Ty.unit)) v1), (7, AV.dat tI v7), (8, AV.dat tI v8)] []
def zhx (k0 : zaH → Option (Int × Unit)) : zaH → Option (Int × Unit) := fun (v0, v1, v7, v8) =>
  bif decide (v8 < v7) then inR v8 ((List.length v0) : Int) (Option.bind v1 fun q0 => Option.bind (q0 (ix (0 : Int) v0 v8, ())) fun q1 => bif q1.1 then some (v8, ()) else k0 (v0, v1, v7, wI (v8 + 1))) else some ((-1), ())
abbrev zqd (K : Nat) : zaH → Option (Int × Unit) := iter (zhx) K
theorem zDQ (K : Nat) : ∀ n, evV (zth) K Tryz.f230 0 zeS [1, 0, 1, 0] [] zDP n = iter (zhx) n := zG fun n0 (v0, v1, v7, v8) => by kernel_rfl
def zjU (L0 : zaH → Option (Int × Unit)) : ((List Int) × ((Option ((Int × Unit) → Option (Bool × Unit))) × Unit)) → Option (Int × Unit) := fun (x0, x1, ()) =>
  L0 (x0, x1, ((List.length x0) : Int), 0)
theorem zGI (K : Nat) : evF (zth) K Tryz.f230 0 zjK zeS = zjU (zqd K) := tr1 (T := zjU) (zDQ K K) fun (x0, x1, ()) => by kernel_rfl
end
def y8 : ztd := zjU (zqd K0)
theorem zGJ : Sd Tryz.prog E0 (ziE y8) := mkS (l := []) trivial Tryz.func230 (by kernel_rfl) (zGI K0)
section
variable (zjV : ztd)
def zoo : ((List Int) × ((Option ((Int × Unit) → Option (Bool × Unit))) × Unit)) → Option (Bool × Unit) := fun (x0, x1, ()) =>
  Option.bind (zjV (x0, x1, ())) fun q0 => bif decide (q0.1 ≥ 0) then some (true, ()) else some (false, ())
theorem zCq (K : Nat) : evF (En E0 false [ziE zjV]) K Tryz.f160 0 zge zgf = zoo zjV := funext fun (x0, x1, ()) => by kernel_rfl
end
def zH : vD := zoo y8
theorem y9 : Sd Tryz.prog E0 (qt zH) := mkS (l := [ziE y8]) ⟨zGJ, trivial⟩ Tryz.func160 (by kernel_rfl) (zCq y8 K0)
section
variable (zqe : zzR) (zo : vp) (zt : vD)
def zuK : (zf × Unit) → Option (Bool × Unit) := fun (x0, ()) =>
  Option.bind (zo (((List.length x0.2.1) : Int), 1, 8, ())) fun q0 => bif q0.1 then Option.bind (zt (x0.2.1, some fun z => zqe (z.1, some x0, ()), ())) fun q1 => bif q1.1 then some (false, ()) else some (true, ()) else some (false, ())
theorem zOM (K : Nat) : evF (En E0 false [znE zqe, qa zo, qt zt]) K Tryz.f85 0 zt1 zt2 = zuK zqe zo zt := funext fun (x0, ()) => by kernel_rfl
end
def yV : zEQ := zuK zaG zJ zH
theorem zON : Sd Tryz.prog E0 (zrR yV) := mkS (l := [znE zaG, qa zJ, qt zH]) ⟨zLf, vV, y9, trivial⟩ Tryz.func85 (by kernel_rfl) (zOM zaG zJ zH K0)
section
def zxM : (Int × Unit) → Option (Bool × Unit) := fun (x0, ()) =>
  bif decide (x0 ≥ 97) then bif decide (x0 ≤ 122) then some (true, ()) else some (false, ()) else some (false, ())
theorem zQE (K : Nat) : evF (En E0 false []) K Tryz.f237 0 zxn zxo = zxM := funext fun (x0, ()) => by kernel_rfl
end
def zaI : zxp := zxM
theorem zGK : Sd Tryz.prog E0 (zh2 zaI) := mkS (l := []) trivial Tryz.func237 (by kernel_rfl) (zQE K0)
section
def zGL : (Int × ((Option (Option ((Int × Unit) → Option (Bool × Unit)))) × Unit)) → Option (Bool × Unit) := fun (x0, x1, ()) =>
  Option.bind x1 fun q0 => Option.bind q0 fun q1 => Option.bind (q1 (x0, ())) fun q2 => bif q2.1 then some (false, ()) else some (true, ())
theorem zQF (K : Nat) : evF (En E0 false []) K Tryz.f279 0 zxE zxF = zGL := funext fun (x0, x1, ()) => by kernel_rfl
end
def zgo : zGy := zGL
theorem zQG : Sd Tryz.prog E0 (zuF zgo) := mkS (l := []) trivial Tryz.func279 (by kernel_rfl) (zQF K0)
section
abbrev zq5 : Env := (En E0 false [])
abbrev zaa : Type := (List Int) × (Option ((Int × Unit) → Option (Bool × Unit))) × Int × Int
abbrev zCr : zaa → St := fun (v0, v1, v7, v8) => St.mk [(0, AV.dat (Ty.sl (Ty.int IntKind.u8)) v0), (1, AV.dat (Ty.fn (Ty.pair (Ty.int IntKind.u8) Ty.unit) (Ty.pair Ty.bool Ty.unit)) v1), (7, AV.dat tI v7), (8, AV.dat tI v8)] []
def zgp (k0 : zaa → Option (Int × Unit)) : zaa → Option (Int × Unit) := fun (v0, v1, v7, v8) =>
  bif decide (v8 < v7) then inR v8 ((List.length v0) : Int) (Option.bind v1 fun q0 => Option.bind (q0 (ix (zb (Ty.int IntKind.u8)) v0 v8, ())) fun q1 => bif q1.1 then some (v8, ()) else k0 (v0, v1, v7, wI (v8 + 1))) else some ((-1), ())
abbrev zop (K : Nat) : zaa → Option (Int × Unit) := iter (zgp) K
theorem zCs (K : Nat) : ∀ n, evV (zq5) K Tryz.f289 0 zd0 [1, 0, 1, 0] [] zCr n = iter (zgp) n := zG fun n0 (v0, v1, v7, v8) => by kernel_rfl
def ziO (L0 : zaa → Option (Int × Unit)) : ((List Int) × ((Option ((Int × Unit) → Option (Bool × Unit))) × Unit)) → Option (Int × Unit) := fun (x0, x1, ()) =>
  L0 (x0, x1, ((List.length x0) : Int), 0)
theorem zFo (K : Nat) : evF (zq5) K Tryz.f289 0 ziN zd0 = ziO (zop K) := tr1 (T := ziO) (zCs K K) fun (x0, x1, ()) => by kernel_rfl
end
def yu : zq4 := ziO (zop K0)
theorem zFp : Sd Tryz.prog E0 (zhs yu) := mkS (l := []) trivial Tryz.func289 (by kernel_rfl) (zFo K0)
section
variable (ziP : zq4)
def zmb : ((List Int) × ((Option ((Int × Unit) → Option (Bool × Unit))) × Unit)) → Option (Bool × Unit) := fun (x0, x1, ()) =>
  Option.bind (ziP (x0, x1, ())) fun q0 => bif decide (q0.1 ≥ 0) then some (true, ()) else some (false, ())
theorem zBi (K : Nat) : evF (En E0 false [zhs ziP]) K Tryz.f280 0 zfA zfB = zmb ziP := funext fun (x0, x1, ()) => by kernel_rfl
end
def jQ : zl8 := zmb yu
theorem zBj : Sd Tryz.prog E0 (zeh jQ) := mkS (l := [zhs yu]) ⟨zFp, trivial⟩ Tryz.func280 (by kernel_rfl) (zBi yu K0)
section
variable (zxN : zGy) (zfF : zl8)
def zLg : (ByteArray × ((Option ((Int × Unit) → Option (Bool × Unit))) × Unit)) → Option (Bool × Unit) := fun (x0, x1, ()) =>
  Option.bind (zfF (List.map (fun b => (↑(UInt8.toNat b) : Int)) (Array.toList (ByteArray.data x0)), some fun z => zxN (z.1, some x1, ()), ())) fun q0 => bif q0.1 then some (false, ()) else some (true, ())
theorem zT9 (K : Nat) : evF (En E0 false [zuF zxN, zeh zfF]) K Tryz.f238 0 zDy zDz = zLg zxN zfF := funext fun (x0, x1, ()) => by kernel_rfl
end
def zeV : zDA := zLg zgo jQ
theorem zLh : Sd Tryz.prog E0 (zl5 zeV) := mkS (l := [zuF zgo, zeh jQ]) ⟨zQG, zBj, trivial⟩ Tryz.func238 (by kernel_rfl) (zT9 zgo jQ K0)
section
def zxO : (Int × Unit) → Option (Bool × Unit) := fun (x0, ()) =>
  bif decide (x0 ≥ 48) then bif decide (x0 ≤ 57) then some (true, ()) else some (false, ()) else some (false, ())
theorem zQH (K : Nat) : evF (En E0 false []) K Tryz.f240 0 zxq zxr = zxO := funext fun (x0, ()) => by kernel_rfl
end
def zgq : zGr := zxO
theorem zQI : Sd Tryz.prog E0 (zuA zgq) := mkS (l := []) trivial Tryz.func240 (by kernel_rfl) (zQH K0)
section
variable (zdA : zxp) (zxP : zGr)
def zsm : (Int × Unit) → Option (Bool × Unit) := fun (x0, ()) =>
  Option.bind (zdA (x0, ())) fun q0 => bif q0.1 then some (true, ()) else Option.bind (zxP (x0, ())) fun q1 => bif q1.1 then some (true, ()) else some (false, ())
theorem zM5 (K : Nat) : evF (En E0 false [zh2 zdA, zuA zxP]) K Tryz.f239 0 zsc zsd = zsm zdA zxP := funext fun (x0, ()) => by kernel_rfl
end
def zdi : zCj := zsm zaI zgq
theorem zM6 : Sd Tryz.prog E0 (zpV zdi) := mkS (l := [zh2 zaI, zuA zgq]) ⟨zGK, zQI, trivial⟩ Tryz.func239 (by kernel_rfl) (zM5 zaI zgq K0)
section
variable (zdA : zxp) (zhy : zDA) (zsn : zCj)
def zxQ : (ByteArray × Unit) → Option (Bool × Unit) := fun (x0, ()) =>
  bif decide ((↑(ByteArray.size x0) : Int) < 1) then some (false, ()) else bif decide ((↑(ByteArray.size x0) : Int) > 12) then some (false, ()) else bif decide (0 < (↑(ByteArray.size x0) : Int)) then Option.bind (zdA ((↑(UInt8.toNat (List.getD (Array.toList (ByteArray.data x0)) (Int.toNat 0) 0)) : Int), ())) fun q0 => bif q0.1 then Option.bind (zhy (x0, some zsn, ())) fun q1 => bif q1.1 then some (true, ()) else some (false, ()) else some (false, ()) else none
theorem zQJ (K : Nat) : evF (En E0 false [zh2 zdA, zl5 zhy, zpV zsn]) K Tryz.f176 0 zw6 zw7 = zxQ zdA zhy zsn := funext fun (x0, ()) => by kernel_rfl
end
def vk : zpJ := zxQ zaI zeV zdi
theorem zxR : Sd Tryz.prog E0 (zct vk) := mkS (l := [zh2 zaI, zl5 zeV, zpV zdi]) ⟨zGK, zLh, zM6, trivial⟩ Tryz.func176 (by kernel_rfl) (zQJ zaI zeV zdi K0)
section
variable (vl : zpJ) (zo : vp)
def zjW : (jg × Unit) → Option (Bool × Unit) := fun (x0, ()) =>
  Option.bind (vl (x0.1, ())) fun q0 => bif q0.1 then Option.bind (vl (x0.2.1, ())) fun q1 => bif q1.1 then Option.bind (zo (x0.2.2.1, 0, 3, ())) fun q2 => bif q2.1 then some (false, ()) else some (true, ()) else some (true, ()) else some (true, ())
theorem zGM (K : Nat) : evF (En E0 false [zct vl, qa zo]) K Tryz.f175 0 zjy zjz = zjW vl zo := funext fun (x0, ()) => by kernel_rfl
end
def zab : zs9 := zjW vk zJ
theorem zGN : Sd Tryz.prog E0 (ziq zab) := mkS (l := [zct vk, qa zJ]) ⟨zxR, vV, trivial⟩ Tryz.func175 (by kernel_rfl) (zGM vk zJ K0)
section
abbrev zmc : Env := (En E0 false [])
abbrev vJ : Type := (List jg) × (Option ((jg × Unit) → Option (Bool × Unit))) × Int × Int
abbrev zxS : vJ → St := fun (v0, v1, v7, v8) => St.mk [(0, AV.dat (Ty.sl jP) v0), (1, AV.dat (Ty.fn (Ty.pair jP Ty.unit) (Ty.pair Ty.bool Ty.unit)) v1), (7, AV.dat tI v7), (8, AV.dat tI v8)] []
def zdB (k0 : vJ → Option (Int × Unit)) : vJ → Option (Int × Unit) := fun (v0, v1, v7, v8) =>
  bif decide (v8 < v7) then inR v8 ((List.length v0) : Int) (Option.bind v1 fun q0 => Option.bind (q0 (ix zwn v0 v8, ())) fun q1 => bif q1.1 then some (v8, ()) else k0 (v0, v1, v7, wI (v8 + 1))) else some ((-1), ())
abbrev zjX (K : Nat) : vJ → Option (Int × Unit) := iter (zdB) K
theorem zxT (K : Nat) : ∀ n, evV (zmc) K Tryz.f241 0 zbI [1, 0, 1, 0] [] zxS n = iter (zdB) n := zG fun n0 (v0, v1, v7, v8) => by kernel_rfl
def zfG (L0 : vJ → Option (Int × Unit)) : ((List jg) × ((Option ((jg × Unit) → Option (Bool × Unit))) × Unit)) → Option (Int × Unit) := fun (x0, x1, ()) =>
  L0 (x0, x1, ((List.length x0) : Int), 0)
theorem zBk (K : Nat) : evF (zmc) K Tryz.f241 0 zfz zbI = zfG (zjX K) := tr1 (T := zfG) (zxT K K) fun (x0, x1, ()) => by kernel_rfl
end
def vq : zl6 := zfG (zjX K0)
theorem zBl : Sd Tryz.prog E0 (zeg vq) := mkS (l := []) trivial Tryz.func241 (by kernel_rfl) (zBk K0)
section
variable (zfH : zl6)
def zja : ((List jg) × ((Option ((jg × Unit) → Option (Bool × Unit))) × Unit)) → Option (Bool × Unit) := fun (x0, x1, ()) =>
  Option.bind (zfH (x0, x1, ())) fun q0 => bif decide (q0.1 ≥ 0) then some (true, ()) else some (false, ())
theorem zvS (K : Nat) : evF (En E0 false [zeg zfH]) K Tryz.f177 0 zcX zcY = zja zfH := funext fun (x0, x1, ()) => by kernel_rfl
end
def vx : zi9 := zja vq
theorem zvT : Sd Tryz.prog E0 (zcu vx) := mkS (l := [zeg vq]) ⟨zBl, trivial⟩ Tryz.func177 (by kernel_rfl) (zvS vq K0)
section
abbrev zvu : Env := (En E0 false [])
abbrev zbg : Type := (List jg) × Int × Int × List ByteArray
abbrev zFq : zbg → St := fun (v7, v8, v9, o0) => St.mk [(3, AV.ow 0), (7, AV.dat (Ty.sl jP) v7), (8, AV.dat tI v8), (9, AV.dat tI v9)] [Obj.row Ty.str o0 false]
def zbh (k0 : zbg → Option ((List ByteArray) × Unit)) : zbg → Option ((List ByteArray) × Unit) := fun (v7, v8, v9, o0) =>
  bif decide (v9 < v8) then inR v9 ((List.length v7) : Int) (bif decide (List.length o0 + List.length (zg (List.replicate 1 (zb Ty.str)) 0 (ix zwn v7 v9).1) ≤ lim) then k0 (v7, v8, wI (v9 + 1), o0 ++ zg (List.replicate 1 (zb Ty.str)) 0 (ix zwn v7 v9).1) else none) else some (o0, ())
abbrev zq6 (K : Nat) : zbg → Option ((List ByteArray) × Unit) := iter (zbh) K
theorem zFr (K : Nat) : ∀ n, evV (zvu) K Tryz.f179 0 zfZ [1, 1, 0, 1, 0] [] zFq n = iter (zbh) n := zG fun n0 (v7, v8, v9, o0) => by kernel_rfl
def zlO (L0 : zbg → Option ((List ByteArray) × Unit)) : (zf × Unit) → Option ((List ByteArray) × Unit) := fun (x0, ()) =>
  L0 (x0.2.2.1, ((List.length x0.2.2.1) : Int), 0, [])
theorem zHX (K : Nat) : evF (zvu) K Tryz.f179 0 zlw zfZ = zlO (zq6 K) := tr1 (T := zlO) (zFr K K) fun (x0, ()) => by kernel_rfl
end
def zcJ : zvn := zlO (zq6 K0)
theorem zHY : Sd Tryz.prog E0 (zjA zcJ) := mkS (l := []) trivial Tryz.func179 (by kernel_rfl) (zHX K0)
section
abbrev zGO : Env := (En E0 false [])
abbrev zgr : Type := (List ByteArray) × (List ByteArray) × Int × Int × List (ByteArray × Int)
abbrev zM7 : zgr → St := fun (v0, v7, v8, v9, o0) => St.mk [(0, AV.dat (Ty.sl Ty.str) v0), (3, AV.om 0), (7, AV.dat (Ty.sl Ty.str) v7), (8, AV.dat tI v8), (9, AV.dat tI v9)] [Obj.mp Ty.str tI o0]
def zgs (k0 : zgr → Option (Bool × Unit)) : zgr → Option (Bool × Unit) := fun (v0, v7, v8, v9, o0) =>
  bif decide (v9 < v8) then inR v9 ((List.length v7) : Int) (k0 (v0, v7, v8, wI (v9 + 1), zbn Ty.str o0 (List.getD v7 (Int.toNat v9) (zb Ty.str)) (wI (zfn Ty.str (0 : Int) o0 (List.getD v7 (Int.toNat v9) (zb Ty.str)) + 1)))) else bif ((List.length o0) : Int) == ((List.length v0) : Int) then some (true, ()) else some (false, ())
abbrev zCt (K : Nat) : zgr → Option (Bool × Unit) := iter (zgs) K
theorem zM8 (K : Nat) : ∀ n, evV (zGO) K Tryz.f178 0 zpK [1, 1, 0, 1, 0] [] zM7 n = iter (zgs) n := zG fun n0 (v0, v7, v8, v9, o0) => by kernel_rfl
def zxU (L0 : zgr → Option (Bool × Unit)) : ((List ByteArray) × Unit) → Option (Bool × Unit) := fun (x0, ()) =>
  L0 (x0, x0, ((List.length x0) : Int), 0, [])
theorem zQK (K : Nat) : evF (zGO) K Tryz.f178 0 zw8 zpK = zxU (zCt K) := tr1 (T := zxU) (zM8 K K) fun (x0, ()) => by kernel_rfl
end
def zjY : zGj := zxU (zCt K0)
theorem zQL : Sd Tryz.prog E0 (zuo zjY) := mkS (l := []) trivial Tryz.func178 (by kernel_rfl) (zQK K0)
section
variable (zjZ : zs9) (zo : vp) (zc4 : zi9) (zlP : zvn) (zxV : zGj)
def znZ : (zf × Unit) → Option (Bool × Unit) := fun (x0, ()) =>
  Option.bind (zo (((List.length x0.2.2.1) : Int), 1, 8, ())) fun q0 => bif q0.1 then Option.bind (zc4 (x0.2.2.1, some zjZ, ())) fun q1 => bif q1.1 then some (false, ()) else Option.bind (zlP (x0, ())) fun q2 => Option.bind (zxV (q2.1, ())) fun q3 => bif q3.1 then some (true, ()) else some (false, ()) else some (false, ())
theorem zJh (K : Nat) : evF (En E0 false [ziq zjZ, qa zo, zcu zc4, zjA zlP, zuo zxV]) K Tryz.f86 0 zm1 zm2 = znZ zjZ zo zc4 zlP zxV := funext fun (x0, ()) => by kernel_rfl
end
def vi : zwF := znZ zab zJ vx zcJ zjY
theorem zJi : Sd Tryz.prog E0 (zla vi) := mkS (l := [ziq zab, qa zJ, zcu vx, zjA zcJ, zuo zjY]) ⟨zGN, vV, zvT, zHY, zQL, trivial⟩ Tryz.func86 (by kernel_rfl) (zJh zab zJ vx zcJ zjY K0)
section
def zxW : (Int × Unit) → Option (zM × (Int × Unit)) := fun (x0, ()) =>
  bif decide (x0 < 0) then some ((0, 0, ()), 1, ()) else bif decide (x0 ≥ 64) then some ((0, 0, ()), 1, ()) else bif decide (x0 < 0) then none else some ((0, wU (1 * 2 ^ min (Int.toNat x0) (IntKind.bits IntKind.u64)), ()), 0, ())
theorem zQM (K : Nat) : evF (En E0 false []) K Tryz.f180 0 zw9 zxa = zxW := funext fun (x0, ()) => by kernel_rfl
end
def zdC : zGk := zxW
theorem zQN : Sd Tryz.prog E0 (zup zdC) := mkS (l := []) trivial Tryz.func180 (by kernel_rfl) (zQM K0)
section
abbrev zxX : Env := (En E0 false [])
abbrev zbW : Type := (List zM) × Int × Int × zM
abbrev zGP : zbW → St := fun (v0, v7, v8, o0) => St.mk [(0, AV.dat (Ty.sl zS) v0), (3, AV.bp 0 []), (7, AV.dat tI v7), (8, AV.dat tI v8)] [Obj.bx (AV.dat zS o0) false]
def zbX (k0 : zbW → Option (Int × Unit)) : zbW → Option (Int × Unit) := fun (v0, v7, v8, o0) =>
  bif decide (v8 < v7) then inR v8 ((List.length v0) : Int) (bif eqI zS o0 (ix zcC v0 v8) then some (v8, ()) else k0 (v0, v7, wI (v8 + 1), o0)) else some ((-1), ())
abbrev zti (K : Nat) : zbW → Option (Int × Unit) := iter (zbX) K
theorem zGQ (K : Nat) : ∀ n, evV (zxX) K Tryz.f242 0 zhk [1, 0, 1, 0] [] zGP n = iter (zbX) n := zG fun n0 (v0, v7, v8, o0) => by kernel_rfl
def zn0 (L0 : zbW → Option (Int × Unit)) : ((List zM) × (zM × Unit)) → Option (Int × Unit) := fun (x0, x1, ()) =>
  L0 (x0, ((List.length x0) : Int), 0, x1)
theorem zJj (K : Nat) : evF (zxX) K Tryz.f242 0 znP zhk = zn0 (zti K) := tr1 (T := zn0) (zGQ K K) fun (x0, x1, ()) => by kernel_rfl
end
def zdD : zxs := zn0 (zti K0)
theorem zJk : Sd Tryz.prog E0 (zlJ zdD) := mkS (l := []) trivial Tryz.func242 (by kernel_rfl) (zJj K0)
section
variable (zn1 : zxs)
def ziQ : ((List zM) × (zM × Unit)) → Option (Bool × Unit) := fun (x0, x1, ()) =>
  Option.bind (zn1 (x0, x1, ())) fun q0 => bif decide (q0.1 ≥ 0) then some (true, ()) else some (false, ())
theorem zFs (K : Nat) : evF (En E0 false [zlJ zn1]) K Tryz.f181 0 zir zis = ziQ zn1 := funext fun (x0, x1, ()) => by kernel_rfl
end
def vv : zqW := ziQ zdD
theorem zFt : Sd Tryz.prog E0 (zhb vv) := mkS (l := [zlJ zdD]) ⟨zJk, trivial⟩ Tryz.func181 (by kernel_rfl) (zFs zdD K0)
section
def zxY : (zM × ((Option Int) × Unit)) → Option (Bool × Unit) := fun (x0, x1, ()) =>
  Option.bind x1 fun q0 => bif wU (↑(BitVec.toNat (BitVec.ofInt (IntKind.bits IntKind.u64) x0.2.1 &&& ~~~BitVec.ofInt (IntKind.bits IntKind.u64) q0)) : Int) != 0 then some (true, ()) else some (false, ())
theorem zJl (K : Nat) : evF (En E0 false []) K Tryz.f182 0 znF znG = zxY := funext fun (x0, x1, ()) => by kernel_rfl
end
def zbr : zxb := zxY
theorem zJm : Sd Tryz.prog E0 (zlx zbr) := mkS (l := []) trivial Tryz.func182 (by kernel_rfl) (zJl K0)
section
variable (zbY : zGk) (zo : vp) (jZ : zqW) (vK : zxb) (zQ : zd4)
abbrev zCu : Env := (En E0 false [zup zbY, qa zo, zhb jZ, zlx vK, vH zQ])
abbrev zdE : Type := Int × (List qz) × Int × Int × zf × Int
abbrev zJn : zdE → St := fun (v4, v11, v12, v13, o0, o1) => St.mk [(1, AV.bp 0 []), (3, AV.bp 1 []), (4, AV.dat tI v4), (11, AV.dat (Ty.sl zdq) v11), (12, AV.dat tI v12), (13, AV.dat tI v13)] [Obj.bx (AV.dat zN o0) false, Obj.bx (AV.dat tU o1) false]
def zdF (k0 : zdE → Option (Bool × Unit)) : zdE → Option (Bool × Unit) := fun (v4, v11, v12, v13, o0, o1) =>
  bif decide (v13 < v12) then inR v13 ((List.length v11) : Int) (Option.bind (zbY ((ix zaB v11 v13).1, ())) fun q0 => bif q0.2.1 != 0 then some (false, ()) else bif decide ((ix zaB v11 v13).1 ≤ v4) then some (false, ()) else Option.bind (zo ((ix zaB v11 v13).2.1, 0, wI (((List.length o0.2.2.1) : Int) - 1), ())) fun q1 => bif q1.1 then Option.bind (jZ (o0.1, q0.1, ())) fun q2 => bif q2.1 then k0 ((ix zaB v11 v13).1, v11, v12, wI (v13 + 1), o0, wU (↑(BitVec.toNat (BitVec.ofInt (IntKind.bits IntKind.u64) o1 ||| BitVec.ofInt (IntKind.bits IntKind.u64) q0.1.2.1)) : Int)) else some (false, ()) else some (false, ())) else bif decide (((List.length o0.2.2.2.1) : Int) ≤ 8) then Option.bind (zQ (o0.1, some fun z => vK (z.1, some o1, ()), ())) fun q3 => bif q3.1 then some (false, ()) else some (true, ()) else some (false, ())
abbrev zxZ (K : Nat) : zdE → Option (Bool × Unit) := iter (zdF zbY zo jZ vK zQ) K
theorem zJo (K : Nat) : ∀ n, evV (zCu zbY zo jZ vK zQ) K Tryz.f87 0 zku [1, 1, 1, 0, 1, 0] [] zJn n = iter (zdF zbY zo jZ vK zQ) n := zG fun n0 (v4, v11, v12, v13, o0, o1) => by kernel_rfl
def zso (L0 : zdE → Option (Bool × Unit)) : (zf × Unit) → Option (Bool × Unit) := fun (x0, ()) =>
  L0 ((-1), x0.2.2.2.1, ((List.length x0.2.2.2.1) : Int), 0, x0, 0)
theorem zM9 (K : Nat) : evF (zCu zbY zo jZ vK zQ) K Tryz.f87 0 zrS zku = zso (zxZ zbY zo jZ vK zQ K) := tr1 (T := zso) (zJo zbY zo jZ vK zQ K K) fun (x0, ()) => by kernel_rfl
end
def vY : zCd := zso (zxZ zdC zJ vv zbr qN K0)
theorem zNa : Sd Tryz.prog E0 (zpc vY) := mkS (l := [zup zdC, qa zJ, zhb vv, zlx zbr, vH qN]) ⟨zQN, vV, zFt, zJm, zkW, trivial⟩ Tryz.func87 (by kernel_rfl) (zM9 zdC zJ vv zbr qN K0)
section
variable (zo : vp)
def zn2 : (Int × Unit) → Option (Bool × Unit) := fun (x0, ()) =>
  Option.bind (zo (x0, 0, 12, ())) fun q0 => bif q0.1 then some (false, ()) else some (true, ())
theorem zJp (K : Nat) : evF (En E0 false [qa zo]) K Tryz.f183 0 znH znI = zn2 zo := funext fun (x0, ()) => by kernel_rfl
end
def y0 : zxc := zn2 zJ
theorem zJq : Sd Tryz.prog E0 (zly y0) := mkS (l := [qa zJ]) ⟨vV, trivial⟩ Tryz.func183 (by kernel_rfl) (zJp zJ K0)
section
def zzX : (zga × Unit) → Option ((List Int) × Unit) := fun (x0, ()) =>
  some ([x0.1, x0.2.1, x0.2.2.1, x0.2.2.2.1, x0.2.2.2.2.1], ())
theorem zLi (K : Nat) : evF (En E0 false []) K Tryz.f184 0 zpL zpM = zzX := funext fun (x0, ()) => by kernel_rfl
end
def zb8 : zzS := zzX
theorem zLj : Sd Tryz.prog E0 (znJ zb8) := mkS (l := []) trivial Tryz.func184 (by kernel_rfl) (zLi K0)
section
variable (vL : zxc) (yo : zzS) (zt : vD)
abbrev zCv : Env := (En E0 false [zly vL, znJ yo, qt zt])
abbrev zdG : Type := Int × (List zga) × Int × Int
abbrev zJr : zdG → St := fun (v3, v23, v24, v25) => St.mk [(3, AV.dat tU v3), (23, AV.dat (Ty.sl zhY) v23), (24, AV.dat tI v24), (25, AV.dat tI v25)] []
def zhz (k0 : zdG → Option (Bool × Unit)) : zdG → Option (Bool × Unit) := fun (v3, v23, v24, v25) =>
  bif decide (v25 < v24) then inR v25 ((List.length v23) : Int) (bif decide ((ix zbf v23 v25).2.2.2.2.2.1 > v3) then some (false, ()) else Option.bind (yo (ix zbf v23 v25, ())) fun q0 => Option.bind (zt (q0.1, some vL, ())) fun q1 => bif q1.1 then some (false, ()) else k0 (wU (v3 - (ix zbf v23 v25).2.2.2.2.2.1), v23, v24, wI (v25 + 1))) else some (true, ())
abbrev zn3 (K : Nat) : zdG → Option (Bool × Unit) := iter (zhz vL yo zt) K
theorem zJs (K : Nat) : ∀ n, evV (zCv vL yo zt) K Tryz.f88 0 zkv [1, 1, 1, 0, 1, 0] [] zJr n = iter (zhz vL yo zt) n := zG fun n0 (v3, v23, v24, v25) => by kernel_rfl
def zkA (L0 : zdG → Option (Bool × Unit)) : (zf × Unit) → Option (Bool × Unit) := fun (x0, ()) =>
  bif ((List.length x0.2.2.2.2.1) : Int) != ((List.length x0.1) : Int) then some (false, ()) else bif decide (0 < ((List.length x0.2.2.2.2.1) : Int)) then bif decide ((ix zbf x0.2.2.2.2.1 0).1 < 1) then some (false, ()) else L0 (4611686018427387904, x0.2.2.2.2.1, ((List.length x0.2.2.2.2.1) : Int), 0) else none
theorem zNb (K : Nat) : evF (zCv vL yo zt) K Tryz.f88 0 zrT zkv = zkA (zn3 vL yo zt K) := tr1 (T := zkA) (zJs vL yo zt K K) fun (x0, ()) => by kernel_rfl
end
def vZ : zCe := zkA (zn3 y0 zb8 zH K0)
theorem zNc : Sd Tryz.prog E0 (zpd vZ) := mkS (l := [zly y0, znJ zb8, qt zH]) ⟨zJq, zLj, y9, trivial⟩ Tryz.func88 (by kernel_rfl) (zNb y0 zb8 zH K0)
section
variable (zo : vp)
def zx0 : (zf × Unit) → Option (Bool × Unit) := fun (x0, ()) =>
  Option.bind (zo (x0.2.2.2.2.2.1, 0, 24, ())) fun q0 => bif q0.1 then Option.bind (zo (x0.2.2.2.2.2.2.1, 0, 48, ())) fun q1 => bif q1.1 then Option.bind (zo (x0.2.2.2.2.2.2.2.1, 1, 4, ())) fun q2 => bif q2.1 then Option.bind (zo (x0.2.2.2.2.2.2.2.2.1, 1, 16, ())) fun q3 => bif q3.1 then some (true, ()) else some (false, ()) else some (false, ()) else some (false, ()) else some (false, ())
theorem zQO (K : Nat) : evF (En E0 false [qa zo]) K Tryz.f89 0 zwG zwH = zx0 zo := funext fun (x0, ()) => by kernel_rfl
end
def zaJ : zGb := zx0 zJ
theorem zQP : Sd Tryz.prog E0 (zt3 zaJ) := mkS (l := [qa zJ]) ⟨vV, trivial⟩ Tryz.func89 (by kernel_rfl) (zQO zJ K0)
section
variable (zac : zCc) (za0 : zEQ) (vM : zwF) (zad : zCd) (zae : zCe) (zbZ : zGb)
abbrev zE2 : Env := (En E0 false [zpb zac, zrR za0, zla vM, zpc zad, zpd zae, zt3 zbZ])
abbrev zeW : Type := Int × Int × zf × List (Option ((zf × Unit) → Option (Bool × Unit)))
abbrev zLk : zeW → St := fun (v6, v7, o0, o1) => St.mk [(1, AV.bp 0 []), (5, AV.ow 1), (6, AV.dat tI v6), (7, AV.dat tI v7)] [Obj.bx (AV.dat zN o0) false, Obj.row (Ty.fn (Ty.pair zN Ty.unit) (Ty.pair Ty.bool Ty.unit)) o1 false]
def zjb (k0 : zeW → Option (Bool × Unit)) : zeW → Option (Bool × Unit) := fun (v6, v7, o0, o1) =>
  bif decide (v7 < v6) then inR v7 ((List.length o1) : Int) (Option.bind (List.getD o1 (Int.toNat v7) (zb (Ty.fn (Ty.pair zN Ty.unit) (Ty.pair Ty.bool Ty.unit)))) fun q0 => Option.bind (q0 (o0, ())) fun q1 => bif q1.1 then k0 (v6, wI (v7 + 1), o0, o1) else some (false, ())) else some (true, ())
abbrev zzY (K : Nat) : zeW → Option (Bool × Unit) := iter (zjb) K
theorem zLl (K : Nat) : ∀ n, evV (zE2 zac za0 vM zad zae zbZ) K Tryz.f25 0 zmu [1, 0, 1, 0] [] zLk n = iter (zjb) n := zG fun n0 (v6, v7, o0, o1) => by kernel_rfl
def zuL (L0 : zeW → Option (Bool × Unit)) : (zf × Unit) → Option (Bool × Unit) := fun (x0, ()) =>
  L0 (((List.length (zg (zg (zg (zg (zg (zg (List.replicate 6 (zb (Ty.fn (Ty.pair zN Ty.unit) (Ty.pair Ty.bool Ty.unit)))) 0 (some zac)) 1 (some za0)) 2 (some vM)) 3 (some zad)) 4 (some zae)) 5 (some zbZ))) : Int), 0, x0, [some zac, some za0, some vM, some zad, some zae, some zbZ])
theorem zOO (K : Nat) : evF (zE2 zac za0 vM zad zae zbZ) K Tryz.f25 0 ztK zmu = zuL zac za0 vM zad zae zbZ (zzY K) := tr1 (T := zuL zac za0 vM zad zae zbZ) (zLl zac za0 vM zad zae zbZ K K) fun (x0, ()) => by kernel_rfl
end
def qL : zet := zuL vX yV vi vY vZ zaJ (zzY K0)
theorem zh3 : Sd Tryz.prog E0 (j8 qL) := mkS (l := [zpb vX, zrR yV, zla vi, zpc vY, zpd vZ, zt3 zaJ]) ⟨zM4, zON, zJi, zNa, zNc, zQP, trivial⟩ Tryz.func25 (by kernel_rfl) (zOO vX yV vi vY vZ zaJ K0)
section
variable (zC : zet)
abbrev zLm : Env := (En E0 true [j8 zC])
abbrev zj0 : Type := (List qz) × Int × Int × zf × List (List Int) × Nat
abbrev zQQ : zj0 → St := fun (v11, v12, v13, o0, o1, c1) => St.mk [(1, AV.bp 0 []), (3, AV.ow 1), (11, AV.dat (Ty.sl zdq) v11), (12, AV.dat tI v12), (13, AV.dat tI v13)] [Obj.bx (AV.dat zN o0) false, Obj.drow (Ty.sl tI) o1 c1]
def zGR (k0 : zj0 → Option ((List (List Int)) × Unit)) : zj0 → Option ((List (List Int)) × Unit) := fun (v11, v12, v13, o0, o1, c1) =>
  bif decide (v13 < v12) then inR v13 ((List.length v11) : Int) (bif decide (((List.length o0.2.2.1) : Int) ≤ ((List.length o0.2.2.1) : Int)) then bif decide (((List.length o0.2.2.1) : Int) ≤ (↑lim : Int)) then inR (ix zaB v11 v13).2.1 ((List.length (List.replicate (Int.toNat ((List.length o0.2.2.1) : Int)) (0 : Int))) : Int) (bif decide (List.length o1 + List.length [List.set (List.replicate (Int.toNat ((List.length o0.2.2.1) : Int)) (0 : Int)) (Int.toNat (ix zaB v11 v13).2.1) 2] ≤ lim) then bif decide (c1 = List.length o1) then k0 (v11, v12, wI (v13 + 1), o0, o1 ++ [List.set (List.replicate (Int.toNat ((List.length o0.2.2.1) : Int)) (0 : Int)) (Int.toNat (ix zaB v11 v13).2.1) 2], c1 + (0 + 1)) else none else none) else none else none) else bif decide (c1 = List.length o1) then some (o1, ()) else none
abbrev zGS (K : Nat) : zj0 → Option ((List (List Int)) × Unit) := iter (zGR) K
theorem zQR (K : Nat) : ∀ n, evV (zLm zC) K Tryz.f29 4 zvQ [1, 1, 1, 0, 1, 0] [] zQQ n = iter (zGR) n := zG fun n0 (v11, v12, v13, o0, o1, c1) => by kernel_rfl
def zDR (L0 : zj0 → Option ((List (List Int)) × Unit)) : (zf × Unit) → Option ((List (List Int)) × Unit) := fun (x0, ()) =>
  Option.bind (zC (x0, ())) fun q0 => bif q0.1 then L0 (x0.2.2.2.1, ((List.length x0.2.2.2.1) : Int), 0, x0, [], 0) else some ([], ())
theorem zUa (K : Nat) : evF (zLm zC) K Tryz.f29 4 zDr zvQ = zDR zC (zGS K) := tr1 (T := zDR zC) (zQR zC K K) fun (x0, ()) => by kernel_rfl
end
def zvU : zK6 := zDR qL (zGS K0)
theorem zUb : Sd Tryz.prog E0 (zAL zvU) := mkS (l := [j8 qL]) ⟨zh3, trivial⟩ Tryz.func29 (by kernel_rfl) (zUa qL K0)
section
def zE3 : (zf × (zga × Unit)) → Option (zm × Unit) := fun (x0, x1, ()) =>
  bif decide (0 ≤ x1.1) then bif decide (x1.1 ≤ x1.1) then bif decide (x1.1 ≤ (↑lim : Int)) then bif decide (0 ≤ x1.2.1) then bif decide (x1.2.1 ≤ x1.2.1) then bif decide (x1.2.1 ≤ (↑lim : Int)) then bif decide (0 ≤ x1.2.2.1) then bif decide (x1.2.2.1 ≤ x1.2.2.1) then bif decide (x1.2.2.1 ≤ (↑lim : Int)) then bif decide (0 ≤ x1.2.2.2.1) then bif decide (x1.2.2.2.1 ≤ x1.2.2.2.1) then bif decide (x1.2.2.2.1 ≤ (↑lim : Int)) then bif decide (0 ≤ x1.2.2.2.2.1) then bif decide (x1.2.2.2.2.1 ≤ x1.2.2.2.2.1) then bif decide (x1.2.2.2.2.1 ≤ (↑lim : Int)) then bif decide (((List.length x0.2.2.1) : Int) ≤ ((List.length x0.2.2.1) : Int)) then bif decide (((List.length x0.2.2.1) : Int) ≤ (↑lim : Int)) then bif decide (((List.length x0.2.2.1) : Int) ≤ ((List.length x0.2.2.1) : Int)) then bif decide (((List.length x0.2.2.1) : Int) ≤ (↑lim : Int)) then some ((List.replicate (Int.toNat x1.1) (zb je), List.replicate (Int.toNat x1.2.1) (zb qq), List.replicate (Int.toNat x1.2.2.1) (zb qi), List.replicate (Int.toNat x1.2.2.2.1) (zb qB), List.replicate (Int.toNat x1.2.2.2.2.1) (zb zI), List.replicate (Int.toNat ((List.length x0.2.2.1) : Int)) (zb (Ty.arr 4 tU)), List.replicate (Int.toNat ((List.length x0.2.2.1) : Int)) (zb qf), [0, 0, 0, 0], [0, 0, 0, 0], ()), ()) else none else none else none else none else none else none else none else none else none else none else none else none else none else none else none else none else none else none else none
theorem zOP (K : Nat) : evF (En E0 true []) K Tryz.f30 3 ztL ztM = zE3 := funext fun (x0, x1, ()) => by kernel_rfl
end
def zmA : zEI := zE3
theorem zOQ : Sd Tryz.prog E0 (zrt zmA) := mkS (l := []) trivial Tryz.func30 (by kernel_rfl) (zOP K0)
end
end Go.Proofs.YtaokpakfhdeiiaaGreatDoor
end
section
namespace Go.Proofs.YtaokpakfhdeiiaaGreatDoor
open Go.Ev
set_option linter.unusedVariables false
noncomputable section
section
variable (zC : zet) (zbK : zK6) (j5 : zEI)
abbrev zsX : Env := (En E0 true [j8 zC, zAL zbK, zrt j5])
abbrev zh4 : Type := Int × Int × Int × Int × List zm × Nat × List (List Int) × Nat × List zp × List zK × List Int × List zm × Nat × List (List Int) × Nat × List zp × List zK × List Int
abbrev zE4 : zh4 → St := fun (v42, v43, o0_0, o1_0, o2, c2, o3, c3, o4, o5, o6, o7, c7, o8, c8, o9, o10, o11) => St.mk [(2, AV.bp 0 []), (4, AV.bp 1 []), (42, AV.dat tI v42), (43, AV.dat tI v43)] [Obj.bx (AV.fld (Ty.pair tU (Ty.pair (Ty.sl zl) (Ty.pair (Ty.sl (Ty.sl tI)) (Ty.pair (Ty.sl zv) (Ty.pair (Ty.sl zF) (Ty.pair (Ty.sl tI) Ty.unit)))))) [AV.dat tU o0_0, AV.ow 2, AV.ow 3, AV.ow 4, AV.ow 5, AV.ow 6]) false, Obj.bx (AV.fld (Ty.pair tU (Ty.pair (Ty.sl zl) (Ty.pair (Ty.sl (Ty.sl tI)) (Ty.pair (Ty.sl zv) (Ty.pair (Ty.sl zF) (Ty.pair (Ty.sl tI) Ty.unit)))))) [AV.dat tU o1_0, AV.ow 7, AV.ow 8, AV.ow 9, AV.ow 10, AV.ow 11]) false, Obj.drow zl o2 c2, Obj.drow (Ty.sl tI) o3 c3, Obj.row zv o4 false, Obj.row zF o5 false, Obj.row tI o6 false, Obj.drow zl o7 c7, Obj.drow (Ty.sl tI) o8 c8, Obj.row zv o9 false, Obj.row zF o10 false, Obj.row tI o11 false]
abbrev zh5 : Type := (List zga) × Int × Int × zf × Int × Int × List zm × Nat × List (List Int) × Nat × List zp × List zK × List Int × List zm × Nat × List (List Int) × Nat × List zp × List zK × List Int
abbrev zOR : zh5 → St := fun (v18, v19, v20, o0, o1_0, o2_0, o3, c3, o4, c4, o5, o6, o7, o8, c8, o9, c9, o10, o11, o12) => St.mk [(1, AV.bp 0 []), (2, AV.bp 1 []), (4, AV.bp 2 []), (18, AV.dat (Ty.sl zhY) v18), (19, AV.dat tI v19), (20, AV.dat tI v20)] [Obj.bx (AV.dat zN o0) false, Obj.bx (AV.fld (Ty.pair tU (Ty.pair (Ty.sl zl) (Ty.pair (Ty.sl (Ty.sl tI)) (Ty.pair (Ty.sl zv) (Ty.pair (Ty.sl zF) (Ty.pair (Ty.sl tI) Ty.unit)))))) [AV.dat tU o1_0, AV.ow 3, AV.ow 4, AV.ow 5, AV.ow 6, AV.ow 7]) false, Obj.bx (AV.fld (Ty.pair tU (Ty.pair (Ty.sl zl) (Ty.pair (Ty.sl (Ty.sl tI)) (Ty.pair (Ty.sl zv) (Ty.pair (Ty.sl zF) (Ty.pair (Ty.sl tI) Ty.unit)))))) [AV.dat tU o2_0, AV.ow 8, AV.ow 9, AV.ow 10, AV.ow 11, AV.ow 12]) false, Obj.drow zl o3 c3, Obj.drow (Ty.sl tI) o4 c4, Obj.row zv o5 false, Obj.row zF o6 false, Obj.row tI o7 false, Obj.drow zl o8 c8, Obj.drow (Ty.sl tI) o9 c9, Obj.row zv o10 false, Obj.row zF o11 false, Obj.row tI o12 false]
def zE5 (k1 : zh4 → Option (zr × (Int × Unit))) : zh4 → Option (zr × (Int × Unit)) := fun (v42, v43, o0_0, o1_0, o2, c2, o3, c3, o4, o5, o6, o7, c7, o8, c8, o9, o10, o11) =>
  bif decide (v43 < v42) then bif decide (List.length o11 + List.length (zg (List.replicate 1 (0 : Int)) 0 (-1)) ≤ lim) then k1 (v42, wI (v43 + 1), o0_0, o1_0, o2, c2, o3, c3, o4, o5, o6, o7, c7, o8, c8, o9, o10, o11 ++ zg (List.replicate 1 (0 : Int)) 0 (-1)) else none else bif decide (c7 = List.length o7) then bif decide (c8 = List.length o8) then some ((o1_0, o7, o8, o9, o10, o11, ()), 0, ()) else none else none
abbrev zuM (K : Nat) : zh4 → Option (zr × (Int × Unit)) := iter (zE5) K
theorem zOS (K : Nat) : ∀ n, evV (zsX zC zbK j5) K Tryz.f8 3 zig [1, 1, 1, 1, 1, 0, 1, 0] [] zE4 n = iter (zE5) n := zG fun n1 (v42, v43, o0_0, o1_0, o2, c2, o3, c3, o4, o5, o6, o7, c7, o8, c8, o9, o10, o11) => by kernel_rfl
def zuN (L1 : zh4 → Option (zr × (Int × Unit))) (k0 : zh5 → Option (zr × (Int × Unit))) : zh5 → Option (zr × (Int × Unit)) := fun (v18, v19, v20, o0, o1_0, o2_0, o3, c3, o4, c4, o5, o6, o7, o8, c8, o9, c9, o10, o11, o12) =>
  bif decide (v20 < v19) then inR v20 ((List.length v18) : Int) (Option.bind (j5 (o0, ix zbf v18 v20, ())) fun q2 => bif decide (List.length o8 + List.length [(q2.1.1, q2.1.2.1, q2.1.2.2.1, q2.1.2.2.2.1, q2.1.2.2.2.2.1, q2.1.2.2.2.2.2.1, q2.1.2.2.2.2.2.2.1, q2.1.2.2.2.2.2.2.2.1, q2.1.2.2.2.2.2.2.2.2.1, ())] ≤ lim) then bif decide (c8 = List.length o8) then k0 (v18, v19, wI (v20 + 1), o0, o1_0, o2_0, o3, c3, o4, c4, o5, o6, o7, o8 ++ [(q2.1.1, q2.1.2.1, q2.1.2.2.1, q2.1.2.2.2.1, q2.1.2.2.2.2.1, q2.1.2.2.2.2.2.1, q2.1.2.2.2.2.2.2.1, q2.1.2.2.2.2.2.2.2.1, q2.1.2.2.2.2.2.2.2.2.1, ())], c8 + (0 + 1), o9, c9, o10, o11, o12) else none else none) else bif decide (0 < ((List.length o8) : Int)) then bif decide (c8 ≤ Int.toNat 0) then bif decide (0 < ((List.length (ix za o8 0).1) : Int)) then none else none else bif decide (0 < ((List.length (ix za o8 0).1) : Int)) then L1 (((List.length o0.2.1) : Int), 0, o1_0, o2_0, o3, c3, o4, c4, o5, o6, o7, List.set o8 (Int.toNat 0) (List.set (ix za o8 0).1 (Int.toNat 0) (true, ByteArray.mk #[112, 108, 97, 122, 97], (zb je).2.2), (ix za o8 0).2), c8, o9, c9, o10, o11, o12) else none else none
abbrev zE6 (K : Nat) : zh5 → Option (zr × (Int × Unit)) := iter (fun k0 => zuN j5 (zuM K) k0) K
theorem zOT (K : Nat) : ∀ n, evV (zsX zC zbK j5) K Tryz.f8 3 zig [1, 1, 1, 0, 1, 0] [] zOR n = iter (fun k0 => zuN j5 (zuM K) k0) n := zeP (B := fun L1 k0 => zuN j5 L1 k0) (V1 := fun n0 => evV (zsX zC zbK j5) K Tryz.f8 3 zig [1, 1, 1, 1, 1, 0, 1, 0] [] zE4 K) (W1 := fun k0 => (zuM K)) (fun n0 => zOS zC zbK j5 K K) fun n0 (v18, v19, v20, o0, o1_0, o2_0, o3, c3, o4, c4, o5, o6, o7, o8, c8, o9, c9, o10, o11, o12) => by kernel_rfl
def zBm (L0 : zh5 → Option (zr × (Int × Unit))) : (zf × Unit) → Option (zr × (Int × Unit)) := fun (x0, ()) =>
  Option.bind (zC (x0, ())) fun q0 => bif q0.1 then Option.bind (zbK (x0, ())) fun q1 => bif decide (0 ≤ x0.2.2.2.2.2.1) then bif decide (x0.2.2.2.2.2.1 ≤ x0.2.2.2.2.2.1) then bif decide (x0.2.2.2.2.2.1 ≤ (↑lim : Int)) then L0 (x0.2.2.2.2.1, ((List.length x0.2.2.2.2.1) : Int), 0, x0, 0, 0, [], 0, [], 0, [], [], [], [], 0, q1.1, List.length q1.1, List.replicate (Int.toNat x0.2.2.2.2.2.1) (zb zv), [], []) else none else none else none else some ((0, [], [], [], [], [], ()), 1, ())
theorem zSt (K : Nat) : evF (zsX zC zbK j5) K Tryz.f8 3 zAH zig = zBm zC zbK (zE6 j5 K) := tr1 (T := zBm zC zbK) (zOT zC zbK j5 K K) fun (x0, ()) => by kernel_rfl
end
def zih : zIE := zBm qL zvU (zE6 zmA K0)
theorem zSu : Sd Tryz.prog E0 (zwo zih) := mkS (l := [j8 qL, zAL zvU, zrt zmA]) ⟨zh3, zUb, zOQ, trivial⟩ Tryz.func8 (by kernel_rfl) (zSt qL zvU zmA K0)
section
variable (zC : zet)
abbrev zE7 : Env := (En E0 false [j8 zC])
abbrev zeX : Type := Int × (List zm) × Int × Int × qv
abbrev zLn : zeX → St := fun (v3, v65, v66, v67, o0) => St.mk [(1, AV.bp 0 []), (3, AV.dat tI v3), (65, AV.dat (Ty.sl zl) v65), (66, AV.dat tI v66), (67, AV.dat tI v67)] [Obj.bx (AV.dat qF o0) false]
def zjc (k0 : zeX → Option (Bool × Unit)) : zeX → Option (Bool × Unit) := fun (v3, v65, v66, v67, o0) =>
  bif decide (v67 < v66) then inR v67 ((List.length v65) : Int) (inR v67 ((List.length o0.1.2.2.2.2.1) : Int) (bif ((List.length (ix za v65 v67).1) : Int) != (ix zbf o0.1.2.2.2.2.1 v67).1 then some (false, ()) else bif ((List.length (ix za v65 v67).2.1) : Int) != (ix zbf o0.1.2.2.2.2.1 v67).2.1 then some (false, ()) else bif ((List.length (ix za v65 v67).2.2.1) : Int) != (ix zbf o0.1.2.2.2.2.1 v67).2.2.1 then some (false, ()) else bif ((List.length (ix za v65 v67).2.2.2.1) : Int) != (ix zbf o0.1.2.2.2.2.1 v67).2.2.2.1 then some (false, ()) else bif ((List.length (ix za v65 v67).2.2.2.2.1) : Int) != (ix zbf o0.1.2.2.2.2.1 v67).2.2.2.2.1 then some (false, ()) else bif ((List.length (ix za v65 v67).2.2.2.2.2.1) : Int) != v3 then some (false, ()) else bif ((List.length (ix za v65 v67).2.2.2.2.2.2.1) : Int) != v3 then some (false, ()) else k0 (v3, v65, v66, wI (v67 + 1), o0))) else some (true, ())
abbrev zqf (K : Nat) : zeX → Option (Bool × Unit) := iter (zjc) K
theorem zLo (K : Nat) : ∀ n, evV (zE7 zC) K Tryz.f55 0 zmv [1, 1, 1, 0, 1, 0] [] zLn n = iter (zjc) n := zG fun n0 (v3, v65, v66, v67, o0) => by kernel_rfl
def zmB (L0 : zeX → Option (Bool × Unit)) : (qv × Unit) → Option (Bool × Unit) := fun (x0, ()) =>
  Option.bind (zC (x0.1, ())) fun q0 => bif q0.1 then bif ((List.length x0.2.1.2.1) : Int) != ((List.length x0.1.1) : Int) then some (false, ()) else bif ((List.length x0.2.1.2.2.2.1) : Int) != x0.1.2.2.2.2.2.1 then some (false, ()) else bif decide (((List.length x0.2.1.2.2.2.2.1) : Int) > x0.1.2.2.2.2.2.2.1) then some (false, ()) else bif ((List.length x0.2.1.2.2.2.2.2.1) : Int) != ((List.length x0.1.2.1) : Int) then some (false, ()) else bif decide (x0.2.1.1 > 4611686018427387904) then some (false, ()) else L0 (((List.length x0.1.2.2.1) : Int), x0.2.1.2.1, ((List.length x0.2.1.2.1) : Int), 0, x0) else some (false, ())
theorem zOU (K : Nat) : evF (zE7 zC) K Tryz.f55 0 ztP zmv = zmB zC (zqf K) := tr1 (T := zmB zC) (zLo zC K K) fun (x0, ()) => by kernel_rfl
end
def zcv : zEJ := zmB qL (zqf K0)
theorem zOV : Sd Tryz.prog E0 (zrz zcv) := mkS (l := [j8 qL]) ⟨zh3, trivial⟩ Tryz.func55 (by kernel_rfl) (zOU qL K0)
section
def zq7 : (zm × ((Option (Option ((zm × Unit) → Option (Bool × Unit)))) × Unit)) → Option (Bool × Unit) := fun (x0, x1, ()) =>
  Option.bind x1 fun q0 => Option.bind q0 fun q1 => Option.bind (q1 (x0, ())) fun q2 => bif q2.1 then some (false, ()) else some (true, ())
theorem zFu (K : Nat) : evF (En E0 false []) K Tryz.f201 0 zit ziu = zq7 := funext fun (x0, x1, ()) => by kernel_rfl
end
def yw : zqX := zq7
theorem zFv : Sd Tryz.prog E0 (zhc yw) := mkS (l := []) trivial Tryz.func201 (by kernel_rfl) (zFu K0)
section
abbrev zqg : Env := (En E0 false [])
abbrev yI : Type := (List zm) × (Option ((zm × Unit) → Option (Bool × Unit))) × Int × Int
abbrev zBn : yI → St := fun (v0, v1, v7, v8) => St.mk [(0, AV.dat (Ty.sl zl) v0), (1, AV.dat (Ty.fn (Ty.pair zl Ty.unit) (Ty.pair Ty.bool Ty.unit)) v1), (7, AV.dat tI v7), (8, AV.dat tI v8)] []
def zfI (k0 : yI → Option (Int × Unit)) : yI → Option (Int × Unit) := fun (v0, v1, v7, v8) =>
  bif decide (v8 < v7) then inR v8 ((List.length v0) : Int) (Option.bind v1 fun q0 => Option.bind (q0 (ix za v0 v8, ())) fun q1 => bif q1.1 then some (v8, ()) else k0 (v0, v1, v7, wI (v8 + 1))) else some ((-1), ())
abbrev zmd (K : Nat) : yI → Option (Int × Unit) := iter (zfI) K
theorem zBo (K : Nat) : ∀ n, evV (zqg) K Tryz.f253 0 zc0 [1, 0, 1, 0] [] zBn n = iter (zfI) n := zG fun n0 (v0, v1, v7, v8) => by kernel_rfl
def zhA (L0 : yI → Option (Int × Unit)) : ((List zm) × ((Option ((zm × Unit) → Option (Bool × Unit))) × Unit)) → Option (Int × Unit) := fun (x0, x1, ()) =>
  L0 (x0, x1, ((List.length x0) : Int), 0)
theorem zDS (K : Nat) : evF (zqg) K Tryz.f253 0 zhl zc0 = zhA (zmd K) := tr1 (T := zhA) (zBo K K) fun (x0, x1, ()) => by kernel_rfl
end
def ya : zpY := zhA (zmd K0)
theorem zDT : Sd Tryz.prog E0 (zgj ya) := mkS (l := []) trivial Tryz.func253 (by kernel_rfl) (zDS K0)
section
variable (zhB : zpY)
def zkX : ((List zm) × ((Option ((zm × Unit) → Option (Bool × Unit))) × Unit)) → Option (Bool × Unit) := fun (x0, x1, ()) =>
  Option.bind (zhB (x0, x1, ())) fun q0 => bif decide (q0.1 ≥ 0) then some (true, ()) else some (false, ())
theorem zzd (K : Nat) : evF (En E0 false [zgj zhB]) K Tryz.f200 0 zd5 zd6 = zkX zhB := funext fun (x0, x1, ()) => by kernel_rfl
end
def jD : zkR := zkX ya
theorem zze : Sd Tryz.prog E0 (zdu jD) := mkS (l := [zgj ya]) ⟨zDT, trivial⟩ Tryz.func200 (by kernel_rfl) (zzd ya K0)
section
variable (ziR : zqX) (zek : zkR)
def zvv : ((List zm) × ((Option ((zm × Unit) → Option (Bool × Unit))) × Unit)) → Option (Bool × Unit) := fun (x0, x1, ()) =>
  Option.bind (zek (x0, some fun z => ziR (z.1, some x1, ()), ())) fun q0 => bif q0.1 then some (false, ()) else some (true, ())
theorem zHZ (K : Nat) : evF (En E0 false [zhc ziR, zdu zek]) K Tryz.f125 0 zld zle = zvv ziR zek := funext fun (x0, x1, ()) => by kernel_rfl
end
def zcK : zvj := zvv yw jD
theorem zH0 : Sd Tryz.prog E0 (zjt zcK) := mkS (l := [zhc yw, zdu jD]) ⟨zFv, zze, trivial⟩ Tryz.func125 (by kernel_rfl) (zHZ yw jD K0)
section
abbrev zq8 : Env := (En E0 false [])
abbrev zaf : Type := (List jM) × (Option ((jM × Unit) → Option (Bool × Unit))) × Int × Int
abbrev zCw : zaf → St := fun (v0, v1, v7, v8) => St.mk [(0, AV.dat (Ty.sl je) v0), (1, AV.dat (Ty.fn (Ty.pair je Ty.unit) (Ty.pair Ty.bool Ty.unit)) v1), (7, AV.dat tI v7), (8, AV.dat tI v8)] []
def zgt (k0 : zaf → Option (Int × Unit)) : zaf → Option (Int × Unit) := fun (v0, v1, v7, v8) =>
  bif decide (v8 < v7) then inR v8 ((List.length v0) : Int) (Option.bind v1 fun q0 => Option.bind (q0 (ix zPR v0 v8, ())) fun q1 => bif q1.1 then some (v8, ()) else k0 (v0, v1, v7, wI (v8 + 1))) else some ((-1), ())
abbrev zoq (K : Nat) : zaf → Option (Int × Unit) := iter (zgt) K
theorem zCx (K : Nat) : ∀ n, evV (zq8) K Tryz.f254 0 zdW [1, 0, 1, 0] [] zCw n = iter (zgt) n := zG fun n0 (v0, v1, v7, v8) => by kernel_rfl
def ziS (L0 : zaf → Option (Int × Unit)) : ((List jM) × ((Option ((jM × Unit) → Option (Bool × Unit))) × Unit)) → Option (Int × Unit) := fun (x0, x1, ()) =>
  L0 (x0, x1, ((List.length x0) : Int), 0)
theorem zFw (K : Nat) : evF (zq8) K Tryz.f254 0 ziF zdW = ziS (zoq K) := tr1 (T := ziS) (zCx K K) fun (x0, x1, ()) => by kernel_rfl
end
def yx : zq1 := ziS (zoq K0)
theorem zFx : Sd Tryz.prog E0 (zhm yx) := mkS (l := []) trivial Tryz.func254 (by kernel_rfl) (zFw K0)
section
variable (ziT : zq1)
def zme : ((List jM) × ((Option ((jM × Unit) → Option (Bool × Unit))) × Unit)) → Option (Bool × Unit) := fun (x0, x1, ()) =>
  Option.bind (ziT (x0, x1, ())) fun q0 => bif decide (q0.1 ≥ 0) then some (true, ()) else some (false, ())
theorem zBp (K : Nat) : evF (En E0 false [zhm ziT]) K Tryz.f202 0 zfo zfp = zme ziT := funext fun (x0, x1, ()) => by kernel_rfl
end
def yJ : zl3 := zme yx
theorem zBq : Sd Tryz.prog E0 (zd7 yJ) := mkS (l := [zhm yx]) ⟨zFx, trivial⟩ Tryz.func202 (by kernel_rfl) (zBp yx K0)
section
variable (vl : zpJ)
def zsp : (jM × Unit) → Option (Bool × Unit) := fun (x0, ()) =>
  bif x0.1 then Option.bind (vl (x0.2.1, ())) fun q0 => bif q0.1 then bif x0.1 then some (false, ()) else bif !ByteArray.toList x0.2.1 == ByteArray.toList (ByteArray.mk #[]) then some (true, ()) else some (false, ()) else some (true, ()) else bif x0.1 then some (false, ()) else bif !ByteArray.toList x0.2.1 == ByteArray.toList (ByteArray.mk #[]) then some (true, ()) else some (false, ())
theorem zNd (K : Nat) : evF (En E0 false [zct vl]) K Tryz.f203 0 zr6 zr7 = zsp vl := funext fun (x0, ()) => by kernel_rfl
end
def zdj : zCh := zsp vk
theorem zNe : Sd Tryz.prog E0 (zpN zdj) := mkS (l := [zct vk]) ⟨zxR, trivial⟩ Tryz.func203 (by kernel_rfl) (zNd vk K0)
section
variable (zfJ : zl3) (zsq : zCh)
def zx1 : ((List jM) × Unit) → Option (Bool × Unit) := fun (x0, ()) =>
  Option.bind (zfJ (x0, some zsq, ())) fun q0 => bif q0.1 then some (false, ()) else some (true, ())
theorem zQS (K : Nat) : evF (En E0 false [zd7 zfJ, zpN zsq]) K Tryz.f127 0 zwM zwN = zx1 zfJ zsq := funext fun (x0, ()) => by kernel_rfl
end
def zgu : zGd := zx1 yJ zdj
theorem zQT : Sd Tryz.prog E0 (zt7 zgu) := mkS (l := [zd7 yJ, zpN zdj]) ⟨zBq, zNe, trivial⟩ Tryz.func127 (by kernel_rfl) (zQS yJ zdj K0)
section
def zx2 : (qz × Unit) → Option (Bool × Unit) := fun (x0, ()) =>
  bif decide (x0.1 ≥ 0) then bif decide (x0.1 ≤ 127) then bif decide (x0.2.1 ≥ 0) then bif decide (x0.2.1 ≤ 127) then some (true, ()) else some (false, ()) else some (false, ()) else some (false, ()) else some (false, ())
theorem zQU (K : Nat) : evF (En E0 false []) K Tryz.f255 0 zxw zxx = zx2 := funext fun (x0, ()) => by kernel_rfl
end
def zgv : zGt := zx2
theorem zQV : Sd Tryz.prog E0 (zuC zgv) := mkS (l := []) trivial Tryz.func255 (by kernel_rfl) (zQU K0)
section
def zx3 : (Int × Unit) → Option (Bool × Unit) := fun (x0, ()) =>
  bif decide (x0 ≥ 0) then bif decide (x0 < 6) then some (true, ()) else some (false, ()) else some (false, ())
theorem zQW (K : Nat) : evF (En E0 false []) K Tryz.f256 0 zxy zxz = zx3 := funext fun (x0, ()) => by kernel_rfl
end
def zgw : zGu := zx3
theorem zQX : Sd Tryz.prog E0 (zuD zgw) := mkS (l := []) trivial Tryz.func256 (by kernel_rfl) (zQW K0)
section
variable (zqh : zGt) (zx4 : zGu)
def zx5 : (z9 × Unit) → Option (Bool × Unit) := fun (x0, ()) =>
  bif x0.1 then Option.bind (zqh (x0.2.1, ())) fun q0 => bif q0.1 then Option.bind (zqh (x0.2.2.1, ())) fun q1 => bif q1.1 then Option.bind (zx4 (x0.2.2.2.1, ())) fun q2 => bif q2.1 then some (false, ()) else some (true, ()) else some (true, ()) else some (true, ()) else bif !eqI qq x0 (zb qq) then some (true, ()) else some (false, ())
theorem zQY (K : Nat) : evF (En E0 false [zuC zqh, zuD zx4]) K Tryz.f204 0 zxd zxe = zx5 zqh zx4 := funext fun (x0, ()) => by kernel_rfl
end
def zdH : zGl := zx5 zgv zgw
theorem zQZ : Sd Tryz.prog E0 (zus zdH) := mkS (l := [zuC zgv, zuD zgw]) ⟨zQV, zQX, trivial⟩ Tryz.func204 (by kernel_rfl) (zQY zgv zgw K0)
section
def zsr : (z9 × ((Option qz) × ((Option Int) × Unit))) → Option (Bool × Unit) := fun (x0, x1, x2, ()) =>
  bif x0.1 then Option.bind x1 fun q0 => bif eqI qf x0.2.1 q0 then Option.bind x2 fun q1 => bif x0.2.2.2.1 == q1 then some (true, ()) else some (false, ()) else some (false, ()) else some (false, ())
theorem zNf (K : Nat) : evF (En E0 false []) K Tryz.f258 0 zse zsf = zsr := funext fun (x0, x1, x2, ()) => by kernel_rfl
end
def zdk : zCk := zsr
theorem zNg : Sd Tryz.prog E0 (zpZ zdk) := mkS (l := []) trivial Tryz.func258 (by kernel_rfl) (zNf K0)
section
abbrev zq9 : Env := (En E0 false [])
abbrev zag : Type := (List z9) × (Option ((z9 × Unit) → Option (Bool × Unit))) × Int × Int
abbrev zCy : zag → St := fun (v0, v1, v7, v8) => St.mk [(0, AV.dat (Ty.sl qq) v0), (1, AV.dat (Ty.fn (Ty.pair qq Ty.unit) (Ty.pair Ty.bool Ty.unit)) v1), (7, AV.dat tI v7), (8, AV.dat tI v8)] []
def zgx (k0 : zag → Option (Int × Unit)) : zag → Option (Int × Unit) := fun (v0, v1, v7, v8) =>
  bif decide (v8 < v7) then inR v8 ((List.length v0) : Int) (Option.bind v1 fun q0 => Option.bind (q0 (ix zbb v0 v8, ())) fun q1 => bif q1.1 then some (v8, ()) else k0 (v0, v1, v7, wI (v8 + 1))) else some ((-1), ())
abbrev zor (K : Nat) : zag → Option (Int × Unit) := iter (zgx) K
theorem zCz (K : Nat) : ∀ n, evV (zq9) K Tryz.f257 0 zdX [1, 0, 1, 0] [] zCy n = iter (zgx) n := zG fun n0 (v0, v1, v7, v8) => by kernel_rfl
def ziU (L0 : zag → Option (Int × Unit)) : ((List z9) × ((Option ((z9 × Unit) → Option (Bool × Unit))) × Unit)) → Option (Int × Unit) := fun (x0, x1, ()) =>
  L0 (x0, x1, ((List.length x0) : Int), 0)
theorem zFy (K : Nat) : evF (zq9) K Tryz.f257 0 ziG zdX = ziU (zor K) := tr1 (T := ziU) (zCz K K) fun (x0, x1, ()) => by kernel_rfl
end
def jx : ziH := ziU (zor K0)
theorem zra : Sd Tryz.prog E0 (zaF jx) := mkS (l := []) trivial Tryz.func257 (by kernel_rfl) (zFy K0)
section
variable (zss : zCk) (vw : ziH)
def zx6 : ((List z9) × (qz × (Int × Unit))) → Option (Int × Unit) := fun (x0, x1, x2, ()) =>
  Option.bind (vw (x0, some fun z => zss (z.1, some x1, some x2, ()), ())) fun q0 => some (q0.1, ())
theorem zQ0 (K : Nat) : evF (En E0 false [zpZ zss, zaF vw]) K Tryz.f205 0 zxf zxg = zx6 zss vw := funext fun (x0, x1, x2, ()) => by kernel_rfl
end
def zdI : zGm := zx6 zdk jx
theorem zQ1 : Sd Tryz.prog E0 (zut zdI) := mkS (l := [zpZ zdk, zaF jx]) ⟨zNg, zra, trivial⟩ Tryz.func205 (by kernel_rfl) (zQ0 zdk jx K0)
section
variable (zb0 : zGl) (zb1 : zGm)
abbrev zGT : Env := (En E0 false [zus zb0, zut zb1])
abbrev zgy : Type := (List z9) × (List z9) × Int × Int
abbrev zNh : zgy → St := fun (v0, v5, v6, v7) => St.mk [(0, AV.dat (Ty.sl qq) v0), (5, AV.dat (Ty.sl qq) v5), (6, AV.dat tI v6), (7, AV.dat tI v7)] []
def zgz (k0 : zgy → Option (Bool × Unit)) : zgy → Option (Bool × Unit) := fun (v0, v5, v6, v7) =>
  bif decide (v7 < v6) then inR v7 ((List.length v5) : Int) (Option.bind (zb0 (ix zbb v5 v7, ())) fun q0 => bif q0.1 then some (false, ()) else bif (ix zbb v5 v7).1 then Option.bind (zb1 (v0, (ix zbb v5 v7).2.1, (ix zbb v5 v7).2.2.2.1, ())) fun q1 => bif q1.1 != v7 then some (false, ()) else k0 (v0, v5, v6, wI (v7 + 1)) else k0 (v0, v5, v6, wI (v7 + 1))) else some (true, ())
abbrev zCA (K : Nat) : zgy → Option (Bool × Unit) := iter (zgz zb0 zb1) K
theorem zNi (K : Nat) : ∀ n, evV (zGT zb0 zb1) K Tryz.f128 0 zpj [1, 0, 1, 0] [] zNh n = iter (zgz zb0 zb1) n := zG fun n0 (v0, v5, v6, v7) => by kernel_rfl
def zx7 (L0 : zgy → Option (Bool × Unit)) : ((List z9) × Unit) → Option (Bool × Unit) := fun (x0, ()) =>
  L0 (x0, x0, ((List.length x0) : Int), 0)
theorem zQ2 (K : Nat) : evF (zGT zb0 zb1) K Tryz.f128 0 zwO zpj = zx7 (zCA zb0 zb1 K) := tr1 (T := zx7) (zNi zb0 zb1 K K) fun (x0, ()) => by kernel_rfl
end
def zj1 : zGe := zx7 (zCA zdH zdI K0)
theorem zQ3 : Sd Tryz.prog E0 (zt8 zj1) := mkS (l := [zus zdH, zut zdI]) ⟨zQZ, zQ1, trivial⟩ Tryz.func128 (by kernel_rfl) (zQ2 zdH zdI K0)
section
abbrev zrb : Env := (En E0 false [])
abbrev zah : Type := (List zW) × (Option ((zW × Unit) → Option (Bool × Unit))) × Int × Int
abbrev zCB : zah → St := fun (v0, v1, v7, v8) => St.mk [(0, AV.dat (Ty.sl qi) v0), (1, AV.dat (Ty.fn (Ty.pair qi Ty.unit) (Ty.pair Ty.bool Ty.unit)) v1), (7, AV.dat tI v7), (8, AV.dat tI v8)] []
def zgA (k0 : zah → Option (Int × Unit)) : zah → Option (Int × Unit) := fun (v0, v1, v7, v8) =>
  bif decide (v8 < v7) then inR v8 ((List.length v0) : Int) (Option.bind v1 fun q0 => Option.bind (q0 (ix vE v0 v8, ())) fun q1 => bif q1.1 then some (v8, ()) else k0 (v0, v1, v7, wI (v8 + 1))) else some ((-1), ())
abbrev zos (K : Nat) : zah → Option (Int × Unit) := iter (zgA) K
theorem zCC (K : Nat) : ∀ n, evV (zrb) K Tryz.f259 0 zdY [1, 0, 1, 0] [] zCB n = iter (zgA) n := zG fun n0 (v0, v1, v7, v8) => by kernel_rfl
def ziV (L0 : zah → Option (Int × Unit)) : ((List zW) × ((Option ((zW × Unit) → Option (Bool × Unit))) × Unit)) → Option (Int × Unit) := fun (x0, x1, ()) =>
  L0 (x0, x1, ((List.length x0) : Int), 0)
theorem zFz (K : Nat) : evF (zrb) K Tryz.f259 0 ziI zdY = ziV (zos K) := tr1 (T := ziV) (zCC K K) fun (x0, x1, ()) => by kernel_rfl
end
def yy : zq2 := ziV (zos K0)
theorem zFA : Sd Tryz.prog E0 (zhn yy) := mkS (l := []) trivial Tryz.func259 (by kernel_rfl) (zFz K0)
section
variable (ziW : zq2)
def zmf : ((List zW) × ((Option ((zW × Unit) → Option (Bool × Unit))) × Unit)) → Option (Bool × Unit) := fun (x0, x1, ()) =>
  Option.bind (ziW (x0, x1, ())) fun q0 => bif decide (q0.1 ≥ 0) then some (true, ()) else some (false, ())
theorem zBr (K : Nat) : evF (En E0 false [zhn ziW]) K Tryz.f206 0 zfq zfr = zmf ziW := funext fun (x0, x1, ()) => by kernel_rfl
end
def qD : zfs := zmf yy
theorem zmg : Sd Tryz.prog E0 (yi qD) := mkS (l := [zhn yy]) ⟨zFA, trivial⟩ Tryz.func206 (by kernel_rfl) (zBr yy K0)
section
def zLp : (zW × Unit) → Option (zB2 × Unit) := fun (x0, ()) =>
  some ((x0.2.2.1, x0.2.2.2.1, x0.2.2.2.2.1, ()), ())
theorem zUc (K : Nat) : evF (En E0 false []) K Tryz.f260 0 zDB zDC = zLp := funext fun (x0, ()) => by kernel_rfl
end
def zqi : zK9 := zLp
theorem zUd : Sd Tryz.prog E0 (zA5 zqi) := mkS (l := []) trivial Tryz.func260 (by kernel_rfl) (zUc K0)
section
def zDU : (Int × Unit) → Option (Bool × Unit) := fun (x0, ()) =>
  bif decide (x0 ≥ 0) then bif decide (x0 ≤ 127) then some (true, ()) else some (false, ()) else some (false, ())
theorem zUe (K : Nat) : evF (En E0 false []) K Tryz.f282 0 zDJ zDK = zDU := funext fun (x0, ()) => by kernel_rfl
end
def zkB : zLb := zDU
theorem zUf : Sd Tryz.prog E0 (zBe zkB) := mkS (l := []) trivial Tryz.func282 (by kernel_rfl) (zUe K0)
section
variable (zkC : zLb)
def zj2 : (zB2 × Unit) → Option (Bool × Unit) := fun (x0, ()) =>
  bif x0.1 == 1 then Option.bind (zkC (x0.2.1, ())) fun q0 => bif q0.1 then bif eqI qf x0.2.2.1 (zb qf) then some (true, ()) else some (false, ()) else some (false, ()) else bif x0.1 == 3 then Option.bind (zkC (x0.2.1, ())) fun q1 => bif q1.1 then bif eqI qf x0.2.2.1 (zb qf) then some (true, ()) else some (false, ()) else some (false, ()) else bif x0.1 == 2 then bif x0.2.1 == 0 then Option.bind (zkC (x0.2.2.1.1, ())) fun q2 => bif q2.1 then Option.bind (zkC (x0.2.2.1.2.1, ())) fun q3 => bif q3.1 then some (true, ()) else some (false, ()) else some (false, ()) else some (false, ()) else some (false, ())
theorem zGU (K : Nat) : evF (En E0 false [zBe zkC]) K Tryz.f261 0 zjM zjN = zj2 zkC := funext fun (x0, ()) => by kernel_rfl
end
def zai : zte := zj2 zkB
theorem zGV : Sd Tryz.prog E0 (ziJ zai) := mkS (l := [zBe zkB]) ⟨zUf, trivial⟩ Tryz.func261 (by kernel_rfl) (zGU zkB K0)
section
variable (vl : zpJ) (zDV : zK9) (zj3 : zte)
def zuO : (zW × Unit) → Option (Bool × Unit) := fun (x0, ()) =>
  bif x0.1 then Option.bind (vl (x0.2.1, ())) fun q0 => bif q0.1 then Option.bind (zDV (x0, ())) fun q1 => Option.bind (zj3 (q1.1, ())) fun q2 => bif q2.1 then some (false, ()) else some (true, ()) else some (true, ()) else bif !eqI qi x0 (zb qi) then some (true, ()) else some (false, ())
theorem zOW (K : Nat) : evF (En E0 false [zct vl, zA5 zDV, ziJ zj3]) K Tryz.f207 0 zuu zuv = zuO vl zDV zj3 := funext fun (x0, ()) => by kernel_rfl
end
def zew : zEZ := zuO vk zqi zai
theorem zOX : Sd Tryz.prog E0 (zr8 zew) := mkS (l := [zct vk, zA5 zqi, ziJ zai]) ⟨zxR, zUd, zGV, trivial⟩ Tryz.func207 (by kernel_rfl) (zOW vk zqi zai K0)
section
variable (jR : zfs) (zuP : zEZ)
def zuQ : ((List zW) × Unit) → Option (Bool × Unit) := fun (x0, ()) =>
  Option.bind (jR (x0, some zuP, ())) fun q0 => bif q0.1 then some (false, ()) else some (true, ())
theorem zOY (K : Nat) : evF (En E0 false [yi jR, zr8 zuP]) K Tryz.f129 0 zt9 zua = zuQ jR zuP := funext fun (x0, ()) => by kernel_rfl
end
def zex : zES := zuQ qD zew
theorem zOZ : Sd Tryz.prog E0 (zrV zex) := mkS (l := [yi qD, zr8 zew]) ⟨zmg, zOX, trivial⟩ Tryz.func129 (by kernel_rfl) (zOY qD zew K0)
section
abbrev zrc : Env := (En E0 false [])
abbrev zaj : Type := (List qr) × (Option ((qr × Unit) → Option (Bool × Unit))) × Int × Int
abbrev zCD : zaj → St := fun (v0, v1, v7, v8) => St.mk [(0, AV.dat (Ty.sl qB) v0), (1, AV.dat (Ty.fn (Ty.pair qB Ty.unit) (Ty.pair Ty.bool Ty.unit)) v1), (7, AV.dat tI v7), (8, AV.dat tI v8)] []
def zgB (k0 : zaj → Option (Int × Unit)) : zaj → Option (Int × Unit) := fun (v0, v1, v7, v8) =>
  bif decide (v8 < v7) then inR v8 ((List.length v0) : Int) (Option.bind v1 fun q0 => Option.bind (q0 (ix zT7 v0 v8, ())) fun q1 => bif q1.1 then some (v8, ()) else k0 (v0, v1, v7, wI (v8 + 1))) else some ((-1), ())
abbrev zot (K : Nat) : zaj → Option (Int × Unit) := iter (zgB) K
theorem zCE (K : Nat) : ∀ n, evV (zrc) K Tryz.f262 0 zdZ [1, 0, 1, 0] [] zCD n = iter (zgB) n := zG fun n0 (v0, v1, v7, v8) => by kernel_rfl
def ziX (L0 : zaj → Option (Int × Unit)) : ((List qr) × ((Option ((qr × Unit) → Option (Bool × Unit))) × Unit)) → Option (Int × Unit) := fun (x0, x1, ()) =>
  L0 (x0, x1, ((List.length x0) : Int), 0)
theorem zFB (K : Nat) : evF (zrc) K Tryz.f262 0 ziK zdZ = ziX (zot K) := tr1 (T := ziX) (zCE K K) fun (x0, x1, ()) => by kernel_rfl
end
def yz : zq3 := ziX (zot K0)
theorem zFC : Sd Tryz.prog E0 (zho yz) := mkS (l := []) trivial Tryz.func262 (by kernel_rfl) (zFB K0)
section
variable (ziY : zq3)
def zmh : ((List qr) × ((Option ((qr × Unit) → Option (Bool × Unit))) × Unit)) → Option (Bool × Unit) := fun (x0, x1, ()) =>
  Option.bind (ziY (x0, x1, ())) fun q0 => bif decide (q0.1 ≥ 0) then some (true, ()) else some (false, ())
theorem zBs (K : Nat) : evF (En E0 false [zho ziY]) K Tryz.f208 0 zft zfu = zmh ziY := funext fun (x0, x1, ()) => by kernel_rfl
end
def qE : zfv := zmh yz
theorem zmi : Sd Tryz.prog E0 (yj qE) := mkS (l := [zho yz]) ⟨zFC, trivial⟩ Tryz.func208 (by kernel_rfl) (zBs yz K0)
section
def zGW : (Int × Unit) → Option (Bool × Unit) := fun (x0, ()) =>
  bif decide (x0 ≥ 0) then bif decide (x0 ≤ 127) then some (true, ()) else some (false, ()) else some (false, ())
theorem zVu (K : Nat) : evF (En E0 false []) K Tryz.f283 0 zGz zGA = zGW := funext fun (x0, ()) => by kernel_rfl
end
def zou : zOu := zGW
theorem zVv : Sd Tryz.prog E0 (zDL zou) := mkS (l := []) trivial Tryz.func283 (by kernel_rfl) (zVu K0)
section
variable (ztj : zOu)
def zst : (qr × Unit) → Option (Bool × Unit) := fun (x0, ()) =>
  Option.bind (ztj (x0.2.1, ())) fun q0 => bif q0.1 then Option.bind (ztj (x0.2.2.1, ())) fun q1 => bif q1.1 then Option.bind (ztj (x0.2.2.2.1, ())) fun q2 => bif q2.1 then some (true, ()) else some (false, ()) else some (false, ()) else some (false, ())
theorem zNj (K : Nat) : evF (En E0 false [zDL ztj]) K Tryz.f263 0 zsg zsh = zst ztj := funext fun (x0, ()) => by kernel_rfl
end
def zgC : zCl := zst zou
theorem zNk : Sd Tryz.prog E0 (zp0 zgC) := mkS (l := [zDL zou]) ⟨zVv, trivial⟩ Tryz.func263 (by kernel_rfl) (zNj zou K0)
section
def zx8 : (Int × Unit) → Option (Bool × Unit) := fun (x0, ()) =>
  bif decide (x0 ≥ 32) then bif decide (x0 ≤ 126) then some (true, ()) else some (false, ()) else some (false, ())
theorem zQ4 (K : Nat) : evF (En E0 false []) K Tryz.f284 0 zxG zxH = zx8 := funext fun (x0, ()) => by kernel_rfl
end
def zgD : zGB := zx8
theorem zQ5 : Sd Tryz.prog E0 (zuG zgD) := mkS (l := []) trivial Tryz.func284 (by kernel_rfl) (zQ4 K0)
section
abbrev zkY : Env := (En E0 false [])
abbrev vy : Type := ByteArray × Int
abbrev zvV : vy → St := fun (v0, v1) => St.mk [(0, AV.dat Ty.str v0), (1, AV.dat (Ty.int IntKind.u8) v1)] []
def zX (k0 : vy → Option (ByteArray × Unit)) : vy → Option (ByteArray × Unit) := fun (v0, v1) =>
  bif decide ((↑(ByteArray.size v0) : Int) > 0) then inR (wI ((↑(ByteArray.size v0) : Int) - 1)) (↑(ByteArray.size v0) : Int) (bif (↑(UInt8.toNat (List.getD (Array.toList (ByteArray.data v0)) (Int.toNat (wI ((↑(ByteArray.size v0) : Int) - 1))) 0)) : Int) == v1 then bif decide (0 ≤ wI ((↑(ByteArray.size v0) : Int) - 1)) then bif decide (wI ((↑(ByteArray.size v0) : Int) - 1) ≤ (↑(ByteArray.size v0) : Int)) then k0 (ByteArray.extract v0 0 (Int.toNat (wI ((↑(ByteArray.size v0) : Int) - 1))), v1) else none else none else some (v0, ())) else some (v0, ())
abbrev zjd (K : Nat) : vy → Option (ByteArray × Unit) := iter (zX) K
theorem zvW (K : Nat) : ∀ n, evV (zkY) K Tryz.f291 0 zbc [1, 0, 0] [] zvV n = iter (zX) n := zG fun n0 (v0, v1) => by kernel_rfl
def zel (L0 : vy → Option (ByteArray × Unit)) : (ByteArray × (Int × Unit)) → Option (ByteArray × Unit) := fun (x0, x1, ()) =>
  L0 (x0, x1)
theorem zzf (K : Nat) : evF (zkY) K Tryz.f291 0 zej zbc = zel (zjd K) := tr1 (T := zel) (zvW K K) fun (x0, x1, ()) => by kernel_rfl
end
def yk : zkU := zel (zjd K0)
theorem zzg : Sd Tryz.prog E0 (zdx yk) := mkS (l := []) trivial Tryz.func291 (by kernel_rfl) (zzf K0)
section
abbrev zmj : Env := (En E0 false [])
abbrev vN : Type := ByteArray × Int
abbrev zx9 : vN → St := fun (v0, v1) => St.mk [(0, AV.dat Ty.str v0), (1, AV.dat (Ty.int IntKind.u8) v1)] []
def zZ (k0 : vN → Option (ByteArray × Unit)) : vN → Option (ByteArray × Unit) := fun (v0, v1) =>
  bif decide ((↑(ByteArray.size v0) : Int) > 0) then bif decide (0 < (↑(ByteArray.size v0) : Int)) then bif (↑(UInt8.toNat (List.getD (Array.toList (ByteArray.data v0)) (Int.toNat 0) 0)) : Int) == v1 then bif decide (1 ≤ (↑(ByteArray.size v0) : Int)) then k0 (ByteArray.extract v0 (Int.toNat 1) (ByteArray.size v0), v1) else none else some (v0, ()) else none else some (v0, ())
abbrev zj4 (K : Nat) : vN → Option (ByteArray × Unit) := iter (zZ) K
theorem zya (K : Nat) : ∀ n, evV (zmj) K Tryz.f290 0 zbJ [1, 0, 0] [] zx9 n = iter (zZ) n := zG fun n0 (v0, v1) => by kernel_rfl
def zfK (L0 : vN → Option (ByteArray × Unit)) : (ByteArray × (Int × Unit)) → Option (ByteArray × Unit) := fun (x0, x1, ()) =>
  L0 (x0, x1)
theorem zBt (K : Nat) : evF (zmj) K Tryz.f290 0 zfC zbJ = zfK (zj4 K) := tr1 (T := zfK) (zya K K) fun (x0, x1, ()) => by kernel_rfl
end
def yK : zl9 := zfK (zj4 K0)
theorem zBu : Sd Tryz.prog E0 (zei yK) := mkS (l := []) trivial Tryz.func290 (by kernel_rfl) (zBt K0)
section
variable (zem : zkU) (zfL : zl9)
def zsu : (ByteArray × (ByteArray × Unit)) → Option (ByteArray × Unit) := fun (x0, x1, ()) =>
  bif ByteArray.toList x0 == ByteArray.toList (ByteArray.mk #[]) then some (x0, ()) else bif ByteArray.toList x1 == ByteArray.toList (ByteArray.mk #[]) then some (x0, ()) else bif (↑(ByteArray.size x1) : Int) == 1 then bif decide (0 < (↑(ByteArray.size x1) : Int)) then bif decide ((↑(UInt8.toNat (List.getD (Array.toList (ByteArray.data x1)) (Int.toNat 0) 0)) : Int) < 128) then bif decide (0 < (↑(ByteArray.size x1) : Int)) then Option.bind (zem (x0, (↑(UInt8.toNat (List.getD (Array.toList (ByteArray.data x1)) (Int.toNat 0) 0)) : Int), ())) fun q0 => bif decide (0 < (↑(ByteArray.size x1) : Int)) then Option.bind (zfL (q0.1, (↑(UInt8.toNat (List.getD (Array.toList (ByteArray.data x1)) (Int.toNat 0) 0)) : Int), ())) fun q1 => some (q1.1, ()) else none else none else none else none else none
theorem zNl (K : Nat) : evF (En E0 false [zdx zem, zei zfL]) K Tryz.f285 0 zsj zsk = zsu zem zfL := funext fun (x0, x1, ()) => by kernel_rfl
end
def zdl : zCn := zsu yk yK
theorem zNm : Sd Tryz.prog E0 (zp7 zdl) := mkS (l := [zdx yk, zei yK]) ⟨zzg, zBu, trivial⟩ Tryz.func285 (by kernel_rfl) (zNl yk yK K0)
section
variable (zhy : zDA) (zyb : zGB) (zsv : zCn)
def zBv : (ByteArray × Unit) → Option (Bool × Unit) := fun (x0, ()) =>
  bif decide ((↑(ByteArray.size x0) : Int) ≥ 1) then bif decide ((↑(ByteArray.size x0) : Int) ≤ 40) then Option.bind (zhy (x0, some zyb, ())) fun q0 => bif q0.1 then Option.bind (zsv (x0, ByteArray.mk #[32], ())) fun q1 => bif ByteArray.toList q1.1 == ByteArray.toList x0 then some (true, ()) else some (false, ()) else some (false, ()) else some (false, ()) else some (false, ())
theorem zSv (K : Nat) : evF (En E0 false [zl5 zhy, zuG zyb, zp7 zsv]) K Tryz.f264 0 zA6 zA7 = zBv zhy zyb zsv := funext fun (x0, ()) => by kernel_rfl
end
def zii : zIM := zBv zeV zgD zdl
theorem zSw : Sd Tryz.prog E0 (zxA zii) := mkS (l := [zl5 zeV, zuG zgD, zp7 zdl]) ⟨zLh, zQ5, zNm, trivial⟩ Tryz.func264 (by kernel_rfl) (zSv zeV zgD zdl K0)
section
variable (zsw : zCl) (zBw : zIM)
def zyc : (qr × Unit) → Option (Bool × Unit) := fun (x0, ()) =>
  bif x0.1 then Option.bind (zsw (x0, ())) fun q0 => bif q0.1 then Option.bind (zBw (x0.2.2.2.2.1, ())) fun q1 => bif q1.1 then some (false, ()) else some (true, ()) else some (true, ()) else bif !eqI qB x0 (zb qB) then some (true, ()) else some (false, ())
theorem zQ6 (K : Nat) : evF (En E0 false [zp0 zsw, zxA zBw]) K Tryz.f209 0 zxh zxi = zyc zsw zBw := funext fun (x0, ()) => by kernel_rfl
end
def zgE : zGn := zyc zgC zii
theorem zQ7 : Sd Tryz.prog E0 (zuw zgE) := mkS (l := [zp0 zgC, zxA zii]) ⟨zNk, zSw, trivial⟩ Tryz.func209 (by kernel_rfl) (zQ6 zgC zii K0)
section
variable (jS : zfv) (zyd : zGn)
def zye : ((List qr) × Unit) → Option (Bool × Unit) := fun (x0, ()) =>
  Option.bind (jS (x0, some zyd, ())) fun q0 => bif q0.1 then some (false, ()) else some (true, ())
theorem zQ8 (K : Nat) : evF (En E0 false [yj jS, zuw zyd]) K Tryz.f130 0 zwP zwQ = zye jS zyd := funext fun (x0, ()) => by kernel_rfl
end
def zgF : zGf := zye qE zgE
theorem zQ9 : Sd Tryz.prog E0 (zub zgF) := mkS (l := [yj qE, zuw zgE]) ⟨zmi, zQ7, trivial⟩ Tryz.func130 (by kernel_rfl) (zQ8 qE zgE K0)
section
abbrev zqj : Env := (En E0 false [])
abbrev yL : Type := (List zq) × (Option ((zq × Unit) → Option (Bool × Unit))) × Int × Int
abbrev zBx : yL → St := fun (v0, v1, v7, v8) => St.mk [(0, AV.dat (Ty.sl zI) v0), (1, AV.dat (Ty.fn (Ty.pair zI Ty.unit) (Ty.pair Ty.bool Ty.unit)) v1), (7, AV.dat tI v7), (8, AV.dat tI v8)] []
def zfM (k0 : yL → Option (Int × Unit)) : yL → Option (Int × Unit) := fun (v0, v1, v7, v8) =>
  bif decide (v8 < v7) then inR v8 ((List.length v0) : Int) (Option.bind v1 fun q0 => Option.bind (q0 (ix qZ v0 v8, ())) fun q1 => bif q1.1 then some (v8, ()) else k0 (v0, v1, v7, wI (v8 + 1))) else some ((-1), ())
abbrev zmk (K : Nat) : yL → Option (Int × Unit) := iter (zfM) K
theorem zBy (K : Nat) : ∀ n, evV (zqj) K Tryz.f265 0 zc1 [1, 0, 1, 0] [] zBx n = iter (zfM) n := zG fun n0 (v0, v1, v7, v8) => by kernel_rfl
def zhC (L0 : yL → Option (Int × Unit)) : ((List zq) × ((Option ((zq × Unit) → Option (Bool × Unit))) × Unit)) → Option (Int × Unit) := fun (x0, x1, ()) =>
  L0 (x0, x1, ((List.length x0) : Int), 0)
theorem zDW (K : Nat) : evF (zqj) K Tryz.f265 0 zhp zc1 = zhC (zmk K) := tr1 (T := zhC) (zBy K K) fun (x0, x1, ()) => by kernel_rfl
end
def yb : zp1 := zhC (zmk K0)
theorem zDX : Sd Tryz.prog E0 (zgk yb) := mkS (l := []) trivial Tryz.func265 (by kernel_rfl) (zDW K0)
section
variable (zhD : zp1)
def zkZ : ((List zq) × ((Option ((zq × Unit) → Option (Bool × Unit))) × Unit)) → Option (Bool × Unit) := fun (x0, x1, ()) =>
  Option.bind (zhD (x0, x1, ())) fun q0 => bif decide (q0.1 ≥ 0) then some (true, ()) else some (false, ())
theorem zzh (K : Nat) : evF (En E0 false [zgk zhD]) K Tryz.f210 0 zd8 zd9 = zkZ zhD := funext fun (x0, x1, ()) => by kernel_rfl
end
def qw : zea := zkZ yb
theorem zk0 : Sd Tryz.prog E0 (vI qw) := mkS (l := [zgk yb]) ⟨zDX, trivial⟩ Tryz.func210 (by kernel_rfl) (zzh yb K0)
section
def zDY : (Int × Unit) → Option (Bool × Unit) := fun (x0, ()) =>
  bif decide (x0 ≥ 0) then bif decide (x0 ≤ 127) then some (true, ()) else some (false, ()) else some (false, ())
theorem zUg (K : Nat) : evF (En E0 false []) K Tryz.f266 0 zDD zDE = zDY := funext fun (x0, ()) => by kernel_rfl
end
def zc5 : zDF := zDY
theorem zLq : Sd Tryz.prog E0 (zl7 zc5) := mkS (l := []) trivial Tryz.func266 (by kernel_rfl) (zUg K0)
section
def zyf : (Int × Unit) → Option (Bool × Unit) := fun (x0, ()) =>
  bif decide (x0 ≥ 0) then bif decide (x0 < 4) then some (true, ()) else some (false, ()) else some (false, ())
theorem zRa (K : Nat) : evF (En E0 false []) K Tryz.f43 0 zwv zww = zyf := funext fun (x0, ()) => by kernel_rfl
end
def qb : zbS := zyf
theorem zdJ : Sd Tryz.prog E0 (jb qb) := mkS (l := []) trivial Tryz.func43 (by kernel_rfl) (zRa K0)
section
variable (zx : zbS) (zeY : zDF)
def zBz : (zoL × Unit) → Option (Bool × Unit) := fun (x0, ()) =>
  Option.bind (zx (x0.1, ())) fun q0 => bif q0.1 then bif decide (x0.2.1 ≤ 4611686018427387904) then bif x0.2.2.1 == -1 then some (true, ()) else Option.bind (zeY (x0.2.2.1, ())) fun q1 => bif q1.1 then some (true, ()) else some (false, ()) else some (false, ()) else some (false, ())
theorem zSx (K : Nat) : evF (En E0 false [jb zx, zl7 zeY]) K Tryz.f267 0 zA8 zA9 = zBz zx zeY := funext fun (x0, ()) => by kernel_rfl
end
def zij : zIN := zBz qb zc5
theorem zSy : Sd Tryz.prog E0 (zxB zij) := mkS (l := [jb qb, zl7 zc5]) ⟨zdJ, zLq, trivial⟩ Tryz.func267 (by kernel_rfl) (zSx qb zc5 K0)
section
def zyg : (zoL × Unit) → Option (Bool × Unit) := fun (x0, ()) =>
  bif eqI zg5 x0 (x0.1, (zb zg5).2.1, -1, (zb zg5).2.2.2) then some (true, ()) else some (false, ())
theorem zRb (K : Nat) : evF (En E0 false []) K Tryz.f268 0 zxC zxD = zyg := funext fun (x0, ()) => by kernel_rfl
end
def zgG : zGv := zyg
theorem zRc : Sd Tryz.prog E0 (zuE zgG) := mkS (l := []) trivial Tryz.func268 (by kernel_rfl) (zRb K0)
section
variable (zeY : zDF) (zsY : zIN) (zqk : zGv)
def zBA : (zq × Unit) → Option (Bool × Unit) := fun (x0, ()) =>
  Option.bind (zeY (x0.2.1, ())) fun q0 => bif q0.1 then Option.bind (zeY (x0.2.2.1, ())) fun q1 => bif q1.1 then bif x0.2.1 != x0.2.2.1 then Option.bind (zsY (x0.2.2.2.1, ())) fun q2 => bif q2.1 then Option.bind (zsY (x0.2.2.2.2.1, ())) fun q3 => bif q3.1 then Option.bind (zqk (x0.2.2.2.1, ())) fun q4 => bif q4.1 then Option.bind (zqk (x0.2.2.2.2.1, ())) fun q5 => bif q5.1 then some (false, ()) else some (true, ()) else some (true, ()) else some (false, ()) else some (false, ()) else some (false, ()) else some (false, ()) else some (false, ())
theorem zSz (K : Nat) : evF (En E0 false [zl7 zeY, zxB zsY, zuE zqk]) K Tryz.f212 0 zA0 zA1 = zBA zeY zsY zqk := funext fun (x0, ()) => by kernel_rfl
end
def zik : zIK := zBA zc5 zij zgG
theorem zSA : Sd Tryz.prog E0 (zxj zik) := mkS (l := [zl7 zc5, zxB zij, zuE zgG]) ⟨zLq, zSy, zRc, trivial⟩ Tryz.func212 (by kernel_rfl) (zSz zc5 zij zgG K0)
section
variable (zBB : zIK)
def zql : (zq × Unit) → Option (Bool × Unit) := fun (x0, ()) =>
  bif x0.1 then Option.bind (zBB (x0, ())) fun q0 => bif q0.1 then some (false, ()) else some (true, ()) else bif !eqI zI x0 (zb zI) then some (true, ()) else some (false, ())
theorem zLr (K : Nat) : evF (En E0 false [zxj zBB]) K Tryz.f211 0 zpO zpP = zql zBB := funext fun (x0, ()) => by kernel_rfl
end
def zb9 : zzT := zql zik
theorem zLs : Sd Tryz.prog E0 (znN zb9) := mkS (l := [zxj zik]) ⟨zSA, trivial⟩ Tryz.func211 (by kernel_rfl) (zLr zik K0)
section
variable (jE : zea) (zqm : zzT)
def zuR : ((List zq) × Unit) → Option (Bool × Unit) := fun (x0, ()) =>
  Option.bind (jE (x0, some zqm, ())) fun q0 => bif q0.1 then some (false, ()) else some (true, ())
theorem zO0 (K : Nat) : evF (En E0 false [vI jE, znN zqm]) K Tryz.f131 0 zuc zud = zuR jE zqm := funext fun (x0, ()) => by kernel_rfl
end
def zey : zET := zuR qw zb9
theorem zO1 : Sd Tryz.prog E0 (zrW zey) := mkS (l := [vI qw, znN zb9]) ⟨zk0, zLs, trivial⟩ Tryz.func131 (by kernel_rfl) (zO0 qw zb9 K0)
end
end Go.Proofs.YtaokpakfhdeiiaaGreatDoor
end
section
namespace Go.Proofs.YtaokpakfhdeiiaaGreatDoor
open Go.Ev
set_option linter.unusedVariables false
noncomputable section
section
variable (zyh : zGd) (zyi : zGe) (zuS : zES) (zyj : zGf) (zuT : zET)
def zqn : (zm × Unit) → Option (Bool × Unit) := fun (x0, ()) =>
  Option.bind (zyh (x0.1, ())) fun q0 => bif q0.1 then Option.bind (zyi (x0.2.1, ())) fun q1 => bif q1.1 then Option.bind (zuS (x0.2.2.1, ())) fun q2 => bif q2.1 then Option.bind (zyj (x0.2.2.2.1, ())) fun q3 => bif q3.1 then Option.bind (zuT (x0.2.2.2.2.1, ())) fun q4 => bif q4.1 then some (true, ()) else some (false, ()) else some (false, ()) else some (false, ()) else some (false, ()) else some (false, ())
theorem zLt (K : Nat) : evF (En E0 false [zt7 zyh, zt8 zyi, zrV zuS, zub zyj, zrW zuT]) K Tryz.f126 0 zph zpi = zqn zyh zyi zuS zyj zuT := funext fun (x0, ()) => by kernel_rfl
end
def zca : zzH := zqn zgu zj1 zex zgF zey
theorem zLu : Sd Tryz.prog E0 (zm3 zca) := mkS (l := [zt7 zgu, zt8 zj1, zrV zex, zub zgF, zrW zey]) ⟨zQT, zQ3, zOZ, zQ9, zO1, trivial⟩ Tryz.func126 (by kernel_rfl) (zLt zgu zj1 zex zgF zey K0)
section
variable (zlQ : zvj) (zqo : zzH)
def zuU : (qv × Unit) → Option (Bool × Unit) := fun (x0, ()) =>
  Option.bind (zlQ (x0.2.1.2.1, some zqo, ())) fun q0 => bif q0.1 then some (true, ()) else some (false, ())
theorem zO2 (K : Nat) : evF (En E0 false [zjt zlQ, zm3 zqo]) K Tryz.f56 0 ztQ ztR = zuU zlQ zqo := funext fun (x0, ()) => by kernel_rfl
end
def zcw : zEK := zuU zcK zca
theorem zO3 : Sd Tryz.prog E0 (zrA zcw) := mkS (l := [zjt zcK, zm3 zca]) ⟨zH0, zLu, trivial⟩ Tryz.func56 (by kernel_rfl) (zO2 zcK zca K0)
section
def zsx : (Int × Unit) → Option (Bool × Unit) := fun (x0, ()) =>
  bif decide (x0 < 0) then some (true, ()) else bif decide (x0 > 2) then some (true, ()) else some (false, ())
theorem zNn (K : Nat) : evF (En E0 false []) K Tryz.f213 0 zr9 zsa = zsx := funext fun (x0, ()) => by kernel_rfl
end
def zak : zCi := zsx
theorem zNo : Sd Tryz.prog E0 (zpQ zak) := mkS (l := []) trivial Tryz.func213 (by kernel_rfl) (zNn K0)
section
variable (zC : zet) (zbs : zCi) (zt : vD)
abbrev zGX : Env := (En E0 false [j8 zC, zpQ zbs, qt zt])
abbrev zgH : Type := (Option ((Int × Unit) → Option (Bool × Unit))) × (List (List Int)) × Int × Int × zf
abbrev zNp : zgH → St := fun (v5, v19, v20, v21, o0) => St.mk [(2, AV.bp 0 []), (5, AV.dat (Ty.fn (Ty.pair tI Ty.unit) (Ty.pair Ty.bool Ty.unit)) v5), (19, AV.dat (Ty.sl (Ty.sl tI)) v19), (20, AV.dat tI v20), (21, AV.dat tI v21)] [Obj.bx (AV.dat zN o0) false]
def zkD (k0 : zgH → Option (Bool × Unit)) : zgH → Option (Bool × Unit) := fun (v5, v19, v20, v21, o0) =>
  bif decide (v21 < v20) then inR v21 ((List.length v19) : Int) (bif ((List.length (List.getD v19 (Int.toNat v21) ([] : List Int))) : Int) != ((List.length o0.2.2.1) : Int) then some (false, ()) else Option.bind (zt (List.getD v19 (Int.toNat v21) ([] : List Int), v5, ())) fun q1 => bif q1.1 then some (false, ()) else inR v21 ((List.length o0.2.2.2.1) : Int) (inR (ix zaB o0.2.2.2.1 v21).2.1 ((List.length (List.getD v19 (Int.toNat v21) ([] : List Int))) : Int) (bif List.getD (List.getD v19 (Int.toNat v21) ([] : List Int)) (Int.toNat (ix zaB o0.2.2.2.1 v21).2.1) (0 : Int) != 2 then some (false, ()) else k0 (v5, v19, v20, wI (v21 + 1), o0)))) else some (true, ())
abbrev zsy (K : Nat) : zgH → Option (Bool × Unit) := iter (zkD zt) K
theorem zNq (K : Nat) : ∀ n, evV (zGX zC zbs zt) K Tryz.f132 0 zpk [1, 1, 1, 0, 1, 0] [] zNp n = iter (zkD zt) n := zG fun n0 (v5, v19, v20, v21, o0) => by kernel_rfl
def zqp (L0 : zgH → Option (Bool × Unit)) : (zf × ((List (List Int)) × Unit)) → Option (Bool × Unit) := fun (x0, x1, ()) =>
  Option.bind (zC (x0, ())) fun q0 => bif q0.1 then bif ((List.length x1) : Int) != ((List.length x0.2.2.2.1) : Int) then some (false, ()) else L0 (some zbs, x1, ((List.length x1) : Int), 0, x0) else some (false, ())
theorem zRd (K : Nat) : evF (zGX zC zbs zt) K Tryz.f132 0 zwR zpk = zqp zC zbs (zsy zt K) := tr1 (T := zqp zC zbs) (zNq zC zbs zt K K) fun (x0, x1, ()) => by kernel_rfl
end
def zaK : zwS := zqp qL zak (zsy zH K0)
theorem zGY : Sd Tryz.prog E0 (zh0 zaK) := mkS (l := [j8 qL, zpQ zak, qt zH]) ⟨zh3, zNo, y9, trivial⟩ Tryz.func132 (by kernel_rfl) (zRd qL zak zH K0)
section
def zlR : (Int × (Int × Unit)) → Option (Int × (Int × Unit)) := fun (x0, x1, ()) =>
  some (wU (wU (wU (Int.fdiv x0 (2 ^ min (Int.toNat 32) (IntKind.bits IntKind.u64)) * Int.fdiv x1 (2 ^ min (Int.toNat 32) (IntKind.bits IntKind.u64))) + Int.fdiv (wU (wU (Int.fdiv x0 (2 ^ min (Int.toNat 32) (IntKind.bits IntKind.u64)) * wU (↑(BitVec.toNat (BitVec.ofInt (IntKind.bits IntKind.u64) x1 &&& BitVec.ofInt (IntKind.bits IntKind.u64) 4294967295)) : Int)) + Int.fdiv (wU (wU (↑(BitVec.toNat (BitVec.ofInt (IntKind.bits IntKind.u64) x0 &&& BitVec.ofInt (IntKind.bits IntKind.u64) 4294967295)) : Int) * wU (↑(BitVec.toNat (BitVec.ofInt (IntKind.bits IntKind.u64) x1 &&& BitVec.ofInt (IntKind.bits IntKind.u64) 4294967295)) : Int))) (2 ^ min (Int.toNat 32) (IntKind.bits IntKind.u64)))) (2 ^ min (Int.toNat 32) (IntKind.bits IntKind.u64))) + Int.fdiv (wU (wU (↑(BitVec.toNat (BitVec.ofInt (IntKind.bits IntKind.u64) (wU (wU (Int.fdiv x0 (2 ^ min (Int.toNat 32) (IntKind.bits IntKind.u64)) * wU (↑(BitVec.toNat (BitVec.ofInt (IntKind.bits IntKind.u64) x1 &&& BitVec.ofInt (IntKind.bits IntKind.u64) 4294967295)) : Int)) + Int.fdiv (wU (wU (↑(BitVec.toNat (BitVec.ofInt (IntKind.bits IntKind.u64) x0 &&& BitVec.ofInt (IntKind.bits IntKind.u64) 4294967295)) : Int) * wU (↑(BitVec.toNat (BitVec.ofInt (IntKind.bits IntKind.u64) x1 &&& BitVec.ofInt (IntKind.bits IntKind.u64) 4294967295)) : Int))) (2 ^ min (Int.toNat 32) (IntKind.bits IntKind.u64)))) &&& BitVec.ofInt (IntKind.bits IntKind.u64) 4294967295)) : Int) + wU (wU (↑(BitVec.toNat (BitVec.ofInt (IntKind.bits IntKind.u64) x0 &&& BitVec.ofInt (IntKind.bits IntKind.u64) 4294967295)) : Int) * Int.fdiv x1 (2 ^ min (Int.toNat 32) (IntKind.bits IntKind.u64))))) (2 ^ min (Int.toNat 32) (IntKind.bits IntKind.u64))), wU (x0 * x1), ())
theorem zH1 (K : Nat) : evF (En E0 false []) K Tryz.f297 0 zlL zlM = zlR := funext fun (x0, x1, ()) => by kernel_rfl
end
def zaX : zvs := zlR
theorem zH2 : Sd Tryz.prog E0 (zjS zaX) := mkS (l := []) trivial Tryz.func297 (by kernel_rfl) (zH1 K0)
section
variable (zlS : zvs)
def zyk : (Int × (Int × Unit)) → Option (Int × (Int × Unit)) := fun (x0, x1, ()) =>
  Option.bind (zlS (x0, x1, ())) fun q0 => bif q0.1 != 0 then some (0, 7, ()) else bif decide (q0.2.1 > 4611686018427387904) then some (0, 7, ()) else some (q0.2.1, 0, ())
theorem zRe (K : Nat) : evF (En E0 false [zjS zlS]) K Tryz.f286 0 zxI zxJ = zyk zlS := funext fun (x0, x1, ()) => by kernel_rfl
end
def zgI : zGC := zyk zaX
theorem zRf : Sd Tryz.prog E0 (zuH zgI) := mkS (l := [zjS zaX]) ⟨zH2, trivial⟩ Tryz.func286 (by kernel_rfl) (zRe zaX K0)
section
variable (zqq : zGC)
def zBC : (Int × (Int × (Int × Unit))) → Option (Int × (Int × Unit)) := fun (x0, x1, x2, ()) =>
  bif x0 != 1 then bif x0 != 2 then some (0, 1, ()) else bif x1 == 0 then some (0, 1, ()) else bif x2 == 0 then some (0, 1, ()) else Option.bind (zqq (x1, x2, ())) fun q0 => bif q0.2.1 != 0 then some (0, q0.2.1, ()) else bif x0 == 2 then some (x1, 0, ()) else some (q0.1, 0, ()) else bif x1 == 0 then some (0, 1, ()) else bif x2 == 0 then some (0, 1, ()) else Option.bind (zqq (x1, x2, ())) fun q1 => bif q1.2.1 != 0 then some (0, q1.2.1, ()) else bif x0 == 2 then some (x1, 0, ()) else some (q1.1, 0, ())
theorem zSB (K : Nat) : evF (En E0 false [zuH zqq]) K Tryz.f269 0 zBa zBb = zBC zqq := funext fun (x0, x1, x2, ()) => by kernel_rfl
end
def zbL : zBc := zBC zgI
theorem zIO : Sd Tryz.prog E0 (zjO zbL) := mkS (l := [zuH zgI]) ⟨zRf, trivial⟩ Tryz.func269 (by kernel_rfl) (zSB zgI K0)
section
def zGZ : (Int × Unit) → Option (Bool × Unit) := fun (x0, ()) =>
  bif decide (x0 ≥ 0) then bif decide (x0 ≤ 127) then some (true, ()) else some (false, ()) else some (false, ())
theorem zVw (K : Nat) : evF (En E0 false []) K Tryz.f270 0 zGw zGx = zGZ := funext fun (x0, ()) => by kernel_rfl
end
def zov : zOt := zGZ
theorem zVx : Sd Tryz.prog E0 (zDG zov) := mkS (l := []) trivial Tryz.func270 (by kernel_rfl) (zVw K0)
section
variable (zfN : zBc) (zzZ : zOt) (zx : zbS)
def zDZ : (zp × Unit) → Option (Bool × Unit) := fun (x0, ()) =>
  Option.bind (zfN (x0.2.2.2.1, x0.2.2.2.2.2.2.2.1, x0.2.2.2.2.2.2.1, ())) fun q0 => bif q0.2.1 == 0 then bif q0.1 == x0.2.2.2.2.2.2.2.2.1 then Option.bind (zzZ (x0.2.1, ())) fun q1 => bif q1.1 then Option.bind (zzZ (x0.2.2.1, ())) fun q2 => bif q2.1 then Option.bind (zx (x0.2.2.2.2.1, ())) fun q3 => bif q3.1 then Option.bind (zx (x0.2.2.2.2.2.1, ())) fun q4 => bif q4.1 then bif x0.2.2.2.2.1 != x0.2.2.2.2.2.1 then bif decide (x0.2.2.2.2.2.2.2.2.2.1 ≥ 0) then some (true, ()) else some (false, ()) else some (false, ()) else some (false, ()) else some (false, ()) else some (false, ()) else some (false, ()) else some (false, ()) else some (false, ())
theorem zUh (K : Nat) : evF (En E0 false [zjO zfN, zDG zzZ, jb zx]) K Tryz.f214 0 zDw zDx = zDZ zfN zzZ zx := funext fun (x0, ()) => by kernel_rfl
end
def zhE : zK8 := zDZ zbL zov qb
theorem zUi : Sd Tryz.prog E0 (zA2 zhE) := mkS (l := [zjO zbL, zDG zov, jb qb]) ⟨zIO, zVx, zdJ, trivial⟩ Tryz.func214 (by kernel_rfl) (zUh zbL zov qb K0)
section
variable (zeZ : zK8)
abbrev zG0 : Env := (En E0 false [zA2 zeZ])
abbrev zgJ : Type := Int × (List zp) × Int × Int × List (Int × Int)
abbrev zNr : zgJ → St := fun (v4, v8, v9, v10, o0) => St.mk [(3, AV.om 0), (4, AV.dat tI v4), (8, AV.dat (Ty.sl zv) v8), (9, AV.dat tI v9), (10, AV.dat tI v10)] [Obj.mp tI tI o0]
def zgK (k0 : zgJ → Option (Bool × Unit)) : zgJ → Option (Bool × Unit) := fun (v4, v8, v9, v10, o0) =>
  bif decide (v10 < v9) then inR v10 ((List.length v8) : Int) (bif (ix jm v8 v10).1 then Option.bind (zeZ (ix jm v8 v10, ())) fun q0 => bif q0.1 then bif (ix jm v8 v10).1 then bif (ix jm v8 v10).1 then k0 (wI (v4 + 1), v8, v9, wI (v10 + 1), zbn tI o0 (ix jm v8 v10).2.2.2.2.2.2.2.2.2.1 (wI (zfn tI (0 : Int) o0 (ix jm v8 v10).2.2.2.2.2.2.2.2.2.1 + 1))) else k0 (v4, v8, v9, wI (v10 + 1), o0) else bif !eqI zv (ix jm v8 v10) (zb zv) then some (false, ()) else bif (ix jm v8 v10).1 then k0 (wI (v4 + 1), v8, v9, wI (v10 + 1), zbn tI o0 (ix jm v8 v10).2.2.2.2.2.2.2.2.2.1 (wI (zfn tI (0 : Int) o0 (ix jm v8 v10).2.2.2.2.2.2.2.2.2.1 + 1))) else k0 (v4, v8, v9, wI (v10 + 1), o0) else some (false, ()) else bif (ix jm v8 v10).1 then bif (ix jm v8 v10).1 then k0 (wI (v4 + 1), v8, v9, wI (v10 + 1), zbn tI o0 (ix jm v8 v10).2.2.2.2.2.2.2.2.2.1 (wI (zfn tI (0 : Int) o0 (ix jm v8 v10).2.2.2.2.2.2.2.2.2.1 + 1))) else k0 (v4, v8, v9, wI (v10 + 1), o0) else bif !eqI zv (ix jm v8 v10) (zb zv) then some (false, ()) else bif (ix jm v8 v10).1 then k0 (wI (v4 + 1), v8, v9, wI (v10 + 1), zbn tI o0 (ix jm v8 v10).2.2.2.2.2.2.2.2.2.1 (wI (zfn tI (0 : Int) o0 (ix jm v8 v10).2.2.2.2.2.2.2.2.2.1 + 1))) else k0 (v4, v8, v9, wI (v10 + 1), o0)) else bif ((List.length o0) : Int) == v4 then some (true, ()) else some (false, ())
abbrev zCF (K : Nat) : zgJ → Option (Bool × Unit) := iter (zgK zeZ) K
theorem zNs (K : Nat) : ∀ n, evV (zG0 zeZ) K Tryz.f133 0 zpl [1, 1, 1, 0, 1, 0] [] zNr n = iter (zgK zeZ) n := zG fun n0 (v4, v8, v9, v10, o0) => by kernel_rfl
def zyl (L0 : zgJ → Option (Bool × Unit)) : ((List zp) × Unit) → Option (Bool × Unit) := fun (x0, ()) =>
  L0 (0, x0, ((List.length x0) : Int), 0, [])
theorem zRg (K : Nat) : evF (zG0 zeZ) K Tryz.f133 0 zwT zpl = zyl (zCF zeZ K) := tr1 (T := zyl) (zNs zeZ K K) fun (x0, ()) => by kernel_rfl
end
def zj5 : zGg := zyl (zCF zhE K0)
theorem zRh : Sd Tryz.prog E0 (zue zj5) := mkS (l := [zA2 zhE]) ⟨zUi, trivial⟩ Tryz.func133 (by kernel_rfl) (zRg zhE K0)
section
def zD0 : (Int × Unit) → Option (Bool × Unit) := fun (x0, ()) =>
  bif decide (x0 ≥ 0) then bif decide (x0 ≤ 127) then some (true, ()) else some (false, ()) else some (false, ())
theorem zUj (K : Nat) : evF (En E0 false []) K Tryz.f271 0 zDH zDI = zD0 := funext fun (x0, ()) => by kernel_rfl
end
def zkE : zLa := zD0
theorem zUk : Sd Tryz.prog E0 (zBd zkE) := mkS (l := []) trivial Tryz.func271 (by kernel_rfl) (zUj K0)
section
variable (zkF : zLa) (zfN : zBc) (zx : zbS)
def zBD : (zK × Unit) → Option (Bool × Unit) := fun (x0, ()) =>
  bif decide (x0.1 > 4611686018427387904) then some (false, ()) else Option.bind (zkF (x0.2.1, ())) fun q0 => bif q0.1 then Option.bind (zkF (x0.2.2.1, ())) fun q1 => bif q1.1 then Option.bind (zkF (x0.2.2.2.1, ())) fun q2 => bif q2.1 then Option.bind (zkF (x0.2.2.2.2.2.2.2.2.2.1, ())) fun q3 => bif q3.1 then bif x0.2.2.2.2.1 == 3 then bif eqI zF x0 (x0.1, x0.2.1, x0.2.2.1, x0.2.2.2.1, x0.2.2.2.2.1, (zb zF).2.2.2.2.2.1, (zb zF).2.2.2.2.2.2.1, (zb zF).2.2.2.2.2.2.2.1, (zb zF).2.2.2.2.2.2.2.2.1, x0.2.2.2.2.2.2.2.2.2.1, (zb zF).2.2.2.2.2.2.2.2.2.2) then some (true, ()) else some (false, ()) else Option.bind (zfN (x0.2.2.2.2.1, x0.2.2.2.2.2.2.2.1, x0.2.2.2.2.2.2.2.2.1, ())) fun q4 => bif q4.2.1 == 0 then bif x0.2.2.2.2.2.2.2.2.2.1 == 0 then bif x0.2.2.2.2.2.1 != x0.2.2.2.2.2.2.1 then Option.bind (zx (x0.2.2.2.2.2.1, ())) fun q5 => bif q5.1 then Option.bind (zx (x0.2.2.2.2.2.2.1, ())) fun q6 => bif q6.1 then some (true, ()) else some (false, ()) else some (false, ()) else some (false, ()) else some (false, ()) else some (false, ()) else some (false, ()) else some (false, ()) else some (false, ()) else some (false, ())
theorem zSC (K : Nat) : evF (En E0 false [zBd zkF, zjO zfN, jb zx]) K Tryz.f215 0 zA3 zA4 = zBD zkF zfN zx := funext fun (x0, ()) => by kernel_rfl
end
def zfO : zIL := zBD zkE zbL qb
theorem zSD : Sd Tryz.prog E0 (zxk zfO) := mkS (l := [zBd zkE, zjO zbL, jb qb]) ⟨zUk, zIO, zdJ, trivial⟩ Tryz.func215 (by kernel_rfl) (zSC zkE zbL qb K0)
section
variable (vh : zhj) (ym : zlI) (zdy : zxm)
def zuV : (zK × (zK × Unit)) → Option (Int × Unit) := fun (x0, x1, ()) =>
  Option.bind (vh (x0.1, x1.1, ())) fun q0 => Option.bind (ym (x0.2.1, x1.2.1, ())) fun q1 => Option.bind (zdy (zg (zg (List.replicate 2 (0 : Int)) 0 q0.1) 1 q1.1, ())) fun q2 => some (q2.1, ())
theorem zO4 (K : Nat) : evF (En E0 false [y6 vh, zbU ym, zh1 zdy]) K Tryz.f216 0 zux zuy = zuV vh ym zdy := funext fun (x0, x1, ()) => by kernel_rfl
end
def zcx : zE0 := zuV jh j4 yH
theorem zO5 : Sd Tryz.prog E0 (zsb zcx) := mkS (l := [y6 jh, zbU j4, zh1 yH]) ⟨zqb, zvt, zGH, trivial⟩ Tryz.func216 (by kernel_rfl) (zO4 jh j4 yH K0)
section
variable (zdf : zIL) (za1 : zE0)
abbrev zE8 : Env := (En E0 false [zxk zdf, zsb za1])
abbrev ze0 : Type := (List zK) × (List zK) × Int × Int
abbrev zLv : ze0 → St := fun (v0, v5, v6, v7) => St.mk [(0, AV.dat (Ty.sl zF) v0), (5, AV.dat (Ty.sl zF) v5), (6, AV.dat tI v6), (7, AV.dat tI v7)] []
def ze1 (k0 : ze0 → Option (Bool × Unit)) : ze0 → Option (Bool × Unit) := fun (v0, v5, v6, v7) =>
  bif decide (v7 < v6) then inR v7 ((List.length v5) : Int) (Option.bind (zdf (ix zoM v5 v7, ())) fun q0 => bif q0.1 then bif decide (v7 > 0) then inR (wI (v7 - 1)) ((List.length v0) : Int) (Option.bind (za1 (List.getD v0 (Int.toNat (wI (v7 - 1))) (zb zF), ix zoM v5 v7, ())) fun q1 => bif decide (q1.1 ≥ 0) then some (false, ()) else k0 (v0, v5, v6, wI (v7 + 1))) else k0 (v0, v5, v6, wI (v7 + 1)) else some (false, ())) else some (true, ())
abbrev zz0 (K : Nat) : ze0 → Option (Bool × Unit) := iter (ze1 zdf za1) K
theorem zLw (K : Nat) : ∀ n, evV (zE8 zdf za1) K Tryz.f134 0 zmy [1, 0, 1, 0] [] zLv n = iter (ze1 zdf za1) n := zG fun n0 (v0, v5, v6, v7) => by kernel_rfl
def zuW (L0 : ze0 → Option (Bool × Unit)) : ((List zK) × Unit) → Option (Bool × Unit) := fun (x0, ()) =>
  L0 (x0, x0, ((List.length x0) : Int), 0)
theorem zO6 (K : Nat) : evF (zE8 zdf za1) K Tryz.f134 0 zuf zmy = zuW (zz0 zdf za1 K) := tr1 (T := zuW) (zLw zdf za1 K K) fun (x0, ()) => by kernel_rfl
end
def zh6 : zEU := zuW (zz0 zfO zcx K0)
theorem zO7 : Sd Tryz.prog E0 (zrX zh6) := mkS (l := [zxk zfO, zsb zcx]) ⟨zSD, zO5, trivial⟩ Tryz.func134 (by kernel_rfl) (zO6 zfO zcx K0)
section
def zuX : (zr × (qz × Unit)) → Option (Bool × Unit) := fun (x0, x1, ()) =>
  bif decide (x1.1 ≥ 0) then bif decide (x1.1 < ((List.length x0.2.1) : Int)) then bif decide (x1.2.1 ≥ 0) then inR x1.1 ((List.length x0.2.1) : Int) (bif decide (x1.2.1 < ((List.length (ix za x0.2.1 x1.1).1) : Int)) then inR x1.1 ((List.length x0.2.1) : Int) (inR x1.2.1 ((List.length (ix za x0.2.1 x1.1).1) : Int) (bif (List.getD (ix za x0.2.1 x1.1).1 (Int.toNat x1.2.1) (zb je)).1 then some (true, ()) else some (false, ()))) else some (false, ())) else some (false, ()) else some (false, ()) else some (false, ())
theorem zO8 (K : Nat) : evF (En E0 false []) K Tryz.f62 0 ztV ztW = zuX := funext fun (x0, x1, ()) => by kernel_rfl
end
def j6 : zmx := zuX
theorem zuY : Sd Tryz.prog E0 (zbp j6) := mkS (l := []) trivial Tryz.func62 (by kernel_rfl) (zO8 K0)
section
def zuZ : (qv × (Int × Unit)) → Option (Bool × Unit) := fun (x0, x1, ()) =>
  bif decide (x1 ≥ 0) then bif decide (x1 < ((List.length x0.1.1) : Int)) then some (true, ()) else some (false, ()) else some (false, ())
theorem zO9 (K : Nat) : evF (En E0 false []) K Tryz.f137 0 zug zuh = zuZ := funext fun (x0, x1, ()) => by kernel_rfl
end
def yW : zui := zuZ
theorem zE9 : Sd Tryz.prog E0 (zgd yW) := mkS (l := []) trivial Tryz.func137 (by kernel_rfl) (zO9 K0)
section
def zqr : (qv × (Int × Unit)) → Option (Bool × Unit) := fun (x0, x1, ()) =>
  bif decide (x1 ≥ 0) then bif decide (x1 < ((List.length x0.1.2.2.1) : Int)) then some (true, ()) else some (false, ()) else some (false, ())
theorem zLx (K : Nat) : evF (En E0 false []) K Tryz.f138 0 zpm zpn = zqr := funext fun (x0, x1, ()) => by kernel_rfl
end
def z4 : zaE := zqr
theorem zcb : Sd Tryz.prog E0 (qW z4) := mkS (l := []) trivial Tryz.func138 (by kernel_rfl) (zLx K0)
section
variable (za2 : zui) (zT : zaE)
def zn4 : (zp × ((Option qv) × Unit)) → Option (Bool × Unit) := fun (x0, x1, ()) =>
  bif x0.1 then Option.bind x1 fun q0 => Option.bind (za2 (q0, x0.2.1, ())) fun q1 => bif q1.1 then Option.bind x1 fun q2 => Option.bind (zT (q2, x0.2.2.1, ())) fun q3 => bif q3.1 then Option.bind x1 fun q4 => bif decide (x0.2.2.2.2.2.2.2.2.2.1 < ((List.length q4.2.1.2.2.2.2.1) : Int)) then some (true, ()) else some (false, ()) else some (false, ()) else some (false, ()) else some (true, ())
theorem zJt (K : Nat) : evF (En E0 false [zgd za2, qW zT]) K Tryz.f136 0 zm4 zm5 = zn4 za2 zT := funext fun (x0, x1, ()) => by kernel_rfl
end
def zbt : zwU := zn4 yW z4
theorem zJu : Sd Tryz.prog E0 (zlh zbt) := mkS (l := [zgd yW, qW z4]) ⟨zE9, zcb, trivial⟩ Tryz.func136 (by kernel_rfl) (zJt yW z4 K0)
section
def zrd : (zp × ((Option (Option ((zp × Unit) → Option (Bool × Unit)))) × Unit)) → Option (Bool × Unit) := fun (x0, x1, ()) =>
  Option.bind x1 fun q0 => Option.bind q0 fun q1 => Option.bind (q1 (x0, ())) fun q2 => bif q2.1 then some (false, ()) else some (true, ())
theorem zFD (K : Nat) : evF (En E0 false []) K Tryz.f218 0 ziv ziw = zrd := funext fun (x0, x1, ()) => by kernel_rfl
end
def yA : zqY := zrd
theorem zFE : Sd Tryz.prog E0 (zhd yA) := mkS (l := []) trivial Tryz.func218 (by kernel_rfl) (zFD K0)
section
abbrev zqs : Env := (En E0 false [])
abbrev yM : Type := (List zp) × (Option ((zp × Unit) → Option (Bool × Unit))) × Int × Int
abbrev zBE : yM → St := fun (v0, v1, v7, v8) => St.mk [(0, AV.dat (Ty.sl zv) v0), (1, AV.dat (Ty.fn (Ty.pair zv Ty.unit) (Ty.pair Ty.bool Ty.unit)) v1), (7, AV.dat tI v7), (8, AV.dat tI v8)] []
def zfP (k0 : yM → Option (Int × Unit)) : yM → Option (Int × Unit) := fun (v0, v1, v7, v8) =>
  bif decide (v8 < v7) then inR v8 ((List.length v0) : Int) (Option.bind v1 fun q0 => Option.bind (q0 (ix jm v0 v8, ())) fun q1 => bif q1.1 then some (v8, ()) else k0 (v0, v1, v7, wI (v8 + 1))) else some ((-1), ())
abbrev zml (K : Nat) : yM → Option (Int × Unit) := iter (zfP) K
theorem zBF (K : Nat) : ∀ n, evV (zqs) K Tryz.f272 0 zc2 [1, 0, 1, 0] [] zBE n = iter (zfP) n := zG fun n0 (v0, v1, v7, v8) => by kernel_rfl
def zhF (L0 : yM → Option (Int × Unit)) : ((List zp) × ((Option ((zp × Unit) → Option (Bool × Unit))) × Unit)) → Option (Int × Unit) := fun (x0, x1, ()) =>
  L0 (x0, x1, ((List.length x0) : Int), 0)
theorem zD1 (K : Nat) : evF (zqs) K Tryz.f272 0 zhq zc2 = zhF (zml K) := tr1 (T := zhF) (zBF K K) fun (x0, x1, ()) => by kernel_rfl
end
def yc : zp2 := zhF (zml K0)
theorem zD2 : Sd Tryz.prog E0 (zgl yc) := mkS (l := []) trivial Tryz.func272 (by kernel_rfl) (zD1 K0)
section
variable (zhG : zp2)
def zk1 : ((List zp) × ((Option ((zp × Unit) → Option (Bool × Unit))) × Unit)) → Option (Bool × Unit) := fun (x0, x1, ()) =>
  Option.bind (zhG (x0, x1, ())) fun q0 => bif decide (q0.1 ≥ 0) then some (true, ()) else some (false, ())
theorem zzi (K : Nat) : evF (En E0 false [zgl zhG]) K Tryz.f217 0 zeb zec = zk1 zhG := funext fun (x0, x1, ()) => by kernel_rfl
end
def jF : zkS := zk1 yc
theorem zzj : Sd Tryz.prog E0 (zdv jF) := mkS (l := [zgl yc]) ⟨zD2, trivial⟩ Tryz.func217 (by kernel_rfl) (zzi yc K0)
section
variable (ziZ : zqY) (zen : zkS)
def zvw : ((List zp) × ((Option ((zp × Unit) → Option (Bool × Unit))) × Unit)) → Option (Bool × Unit) := fun (x0, x1, ()) =>
  Option.bind (zen (x0, some fun z => ziZ (z.1, some x1, ()), ())) fun q0 => bif q0.1 then some (false, ()) else some (true, ())
theorem zH3 (K : Nat) : evF (En E0 false [zhd ziZ, zdv zen]) K Tryz.f135 0 zlf zlg = zvw ziZ zen := funext fun (x0, x1, ()) => by kernel_rfl
end
def zcL : zvk := zvw yA jF
theorem zH4 : Sd Tryz.prog E0 (zju zcL) := mkS (l := [zhd yA, zdv jF]) ⟨zFE, zzj, trivial⟩ Tryz.func135 (by kernel_rfl) (zH3 yA jF K0)
section
variable (zT : zaE)
def zn5 : (zK × ((Option qv) × Unit)) → Option (Bool × Unit) := fun (x0, x1, ()) =>
  Option.bind x1 fun q0 => bif decide (x0.2.1 < ((List.length q0.1.2.1) : Int)) then Option.bind x1 fun q1 => inR x0.2.1 ((List.length q1.1.2.1) : Int) (bif x0.2.2.1 == ix (0 : Int) q1.1.2.1 x0.2.1 then Option.bind x1 fun q2 => Option.bind (zT (q2, x0.2.2.2.1, ())) fun q3 => bif q3.1 then Option.bind x1 fun q4 => bif decide (x0.1 ≤ q4.2.1.1) then some (true, ()) else some (false, ()) else some (false, ()) else some (false, ())) else some (false, ())
theorem zJv (K : Nat) : evF (En E0 false [qW zT]) K Tryz.f140 0 zm6 zm7 = zn5 zT := funext fun (x0, x1, ()) => by kernel_rfl
end
def zbu : zwV := zn5 z4
theorem zJw : Sd Tryz.prog E0 (zlk zbu) := mkS (l := [qW z4]) ⟨zcb, trivial⟩ Tryz.func140 (by kernel_rfl) (zJv z4 K0)
section
def zre : (zK × ((Option (Option ((zK × Unit) → Option (Bool × Unit)))) × Unit)) → Option (Bool × Unit) := fun (x0, x1, ()) =>
  Option.bind x1 fun q0 => Option.bind q0 fun q1 => Option.bind (q1 (x0, ())) fun q2 => bif q2.1 then some (false, ()) else some (true, ())
theorem zFF (K : Nat) : evF (En E0 false []) K Tryz.f220 0 zix ziy = zre := funext fun (x0, x1, ()) => by kernel_rfl
end
def yB : zqZ := zre
theorem zFG : Sd Tryz.prog E0 (zhe yB) := mkS (l := []) trivial Tryz.func220 (by kernel_rfl) (zFF K0)
section
abbrev zqt : Env := (En E0 false [])
abbrev yN : Type := (List zK) × (Option ((zK × Unit) → Option (Bool × Unit))) × Int × Int
abbrev zBG : yN → St := fun (v0, v1, v7, v8) => St.mk [(0, AV.dat (Ty.sl zF) v0), (1, AV.dat (Ty.fn (Ty.pair zF Ty.unit) (Ty.pair Ty.bool Ty.unit)) v1), (7, AV.dat tI v7), (8, AV.dat tI v8)] []
def zfQ (k0 : yN → Option (Int × Unit)) : yN → Option (Int × Unit) := fun (v0, v1, v7, v8) =>
  bif decide (v8 < v7) then inR v8 ((List.length v0) : Int) (Option.bind v1 fun q0 => Option.bind (q0 (ix zoM v0 v8, ())) fun q1 => bif q1.1 then some (v8, ()) else k0 (v0, v1, v7, wI (v8 + 1))) else some ((-1), ())
abbrev zmm (K : Nat) : yN → Option (Int × Unit) := iter (zfQ) K
theorem zBH (K : Nat) : ∀ n, evV (zqt) K Tryz.f273 0 zc3 [1, 0, 1, 0] [] zBG n = iter (zfQ) n := zG fun n0 (v0, v1, v7, v8) => by kernel_rfl
def zhH (L0 : yN → Option (Int × Unit)) : ((List zK) × ((Option ((zK × Unit) → Option (Bool × Unit))) × Unit)) → Option (Int × Unit) := fun (x0, x1, ()) =>
  L0 (x0, x1, ((List.length x0) : Int), 0)
theorem zD3 (K : Nat) : evF (zqt) K Tryz.f273 0 zhr zc3 = zhH (zmm K) := tr1 (T := zhH) (zBH K K) fun (x0, x1, ()) => by kernel_rfl
end
def yd : zp3 := zhH (zmm K0)
theorem zD4 : Sd Tryz.prog E0 (zgm yd) := mkS (l := []) trivial Tryz.func273 (by kernel_rfl) (zD3 K0)
section
variable (zhI : zp3)
def zk2 : ((List zK) × ((Option ((zK × Unit) → Option (Bool × Unit))) × Unit)) → Option (Bool × Unit) := fun (x0, x1, ()) =>
  Option.bind (zhI (x0, x1, ())) fun q0 => bif decide (q0.1 ≥ 0) then some (true, ()) else some (false, ())
theorem zzk (K : Nat) : evF (En E0 false [zgm zhI]) K Tryz.f219 0 zed zee = zk2 zhI := funext fun (x0, x1, ()) => by kernel_rfl
end
def jG : zkT := zk2 yd
theorem zzl : Sd Tryz.prog E0 (zdw jG) := mkS (l := [zgm yd]) ⟨zD4, trivial⟩ Tryz.func219 (by kernel_rfl) (zzk yd K0)
section
variable (zi0 : zqZ) (zeo : zkT)
def zvx : ((List zK) × ((Option ((zK × Unit) → Option (Bool × Unit))) × Unit)) → Option (Bool × Unit) := fun (x0, x1, ()) =>
  Option.bind (zeo (x0, some fun z => zi0 (z.1, some x1, ()), ())) fun q0 => bif q0.1 then some (false, ()) else some (true, ())
theorem zH5 (K : Nat) : evF (En E0 false [zhe zi0, zdw zeo]) K Tryz.f139 0 zli zlj = zvx zi0 zeo := funext fun (x0, x1, ()) => by kernel_rfl
end
def zcM : zvl := zvx yB jG
theorem zH6 : Sd Tryz.prog E0 (zjv zcM) := mkS (l := [zhe yB, zdw jG]) ⟨zFG, zzl, trivial⟩ Tryz.func139 (by kernel_rfl) (zH5 yB jG K0)
section
variable (zT : zaE)
def zn6 : (Int × ((Option qv) × Unit)) → Option (Bool × Unit) := fun (x0, x1, ()) =>
  bif x0 == -1 then some (true, ()) else Option.bind x1 fun q0 => Option.bind (zT (q0, x0, ())) fun q1 => bif q1.1 then some (true, ()) else some (false, ())
theorem zJx (K : Nat) : evF (En E0 false [qW zT]) K Tryz.f142 0 zm9 zna = zn6 zT := funext fun (x0, x1, ()) => by kernel_rfl
end
def zbv : zwW := zn6 z4
theorem zJy : Sd Tryz.prog E0 (zll zbv) := mkS (l := [qW z4]) ⟨zcb, trivial⟩ Tryz.func142 (by kernel_rfl) (zJx z4 K0)
section
def zvy : (Int × ((Option (Option ((Int × Unit) → Option (Bool × Unit)))) × Unit)) → Option (Bool × Unit) := fun (x0, x1, ()) =>
  Option.bind x1 fun q0 => Option.bind q0 fun q1 => Option.bind (q1 (x0, ())) fun q2 => bif q2.1 then some (false, ()) else some (true, ())
theorem zH7 (K : Nat) : evF (En E0 false []) K Tryz.f221 0 zlA zlB = zvy := funext fun (x0, x1, ()) => by kernel_rfl
end
def zaY : zvp := zvy
theorem zH8 : Sd Tryz.prog E0 (zjC zaY) := mkS (l := []) trivial Tryz.func221 (by kernel_rfl) (zH7 K0)
section
variable (zlT : zvp) (zt : vD)
def zz1 : ((List Int) × ((Option ((Int × Unit) → Option (Bool × Unit))) × Unit)) → Option (Bool × Unit) := fun (x0, x1, ()) =>
  Option.bind (zt (x0, some fun z => zlT (z.1, some x1, ()), ())) fun q0 => bif q0.1 then some (false, ()) else some (true, ())
theorem zLy (K : Nat) : evF (En E0 false [zjC zlT, qt zt]) K Tryz.f141 0 zpo zpp = zz1 zlT zt := funext fun (x0, x1, ()) => by kernel_rfl
end
def ze2 : zzI := zz1 zaY zH
theorem zLz : Sd Tryz.prog E0 (zm8 ze2) := mkS (l := [zjC zaY, qt zH]) ⟨zH8, y9, trivial⟩ Tryz.func141 (by kernel_rfl) (zLy zaY zH K0)
section
variable (zdK : zwS) (zym : zGg) (zu0 : zEU) (vm : zmx) (zn7 : zwU) (zlU : zvk) (zhJ : zwV) (zf1 : zvl) (zbw : zwW) (zcc : zzI)
def zsz : (qv × Unit) → Option (Bool × Unit) := fun (x0, ()) =>
  Option.bind (zdK (x0.1, x0.2.1.2.2.1, ())) fun q0 => bif q0.1 then Option.bind (zym (x0.2.1.2.2.2.1, ())) fun q1 => bif q1.1 then Option.bind (zu0 (x0.2.1.2.2.2.2.1, ())) fun q2 => bif q2.1 then Option.bind (vm (x0.2.1, zb qf, ())) fun q3 => bif q3.1 then Option.bind (zlU (x0.2.1.2.2.2.1, some fun z => zn7 (z.1, some x0, ()), ())) fun q4 => bif q4.1 then Option.bind (zf1 (x0.2.1.2.2.2.2.1, some fun z => zhJ (z.1, some x0, ()), ())) fun q5 => bif q5.1 then Option.bind (zcc (x0.2.1.2.2.2.2.2.1, some fun z => zbw (z.1, some x0, ()), ())) fun q6 => bif q6.1 then some (true, ()) else some (false, ()) else Option.bind (zcc (x0.2.1.2.2.2.2.2.1, some fun z => zbw (z.1, some x0, ()), ())) fun q7 => bif q7.1 then some (false, ()) else some (false, ()) else Option.bind (zf1 (x0.2.1.2.2.2.2.1, some fun z => zhJ (z.1, some x0, ()), ())) fun q8 => bif q8.1 then Option.bind (zcc (x0.2.1.2.2.2.2.2.1, some fun z => zbw (z.1, some x0, ()), ())) fun q9 => bif q9.1 then some (false, ()) else some (false, ()) else Option.bind (zcc (x0.2.1.2.2.2.2.2.1, some fun z => zbw (z.1, some x0, ()), ())) fun q10 => bif q10.1 then some (false, ()) else some (false, ()) else some (false, ()) else some (false, ()) else some (false, ()) else some (false, ())
theorem zNt (K : Nat) : evF (En E0 false [zh0 zdK, zue zym, zrX zu0, zbp vm, zlh zn7, zju zlU, zlk zhJ, zjv zf1, zll zbw, zm8 zcc]) K Tryz.f57 0 zrB zrC = zsz zdK zym zu0 vm zn7 zlU zhJ zf1 zbw zcc := funext fun (x0, ()) => by kernel_rfl
end
def zbx : zB6 := zsz zaK zj5 zh6 j6 zbt zcL zbu zcM zbv ze2
theorem zNu : Sd Tryz.prog E0 (zoU zbx) := mkS (l := [zh0 zaK, zue zj5, zrX zh6, zbp j6, zlh zbt, zju zcL, zlk zbu, zjv zcM, zll zbv, zm8 ze2]) ⟨zGY, zRh, zO7, zuY, zJu, zH4, zJw, zH6, zJy, zLz, trivial⟩ Tryz.func57 (by kernel_rfl) (zNt zaK zj5 zh6 j6 zbt zcL zbu zcM zbv ze2 K0)
section
def zBI : (zM × (zM × Unit)) → Option (Bool × Unit) := fun (x0, x1, ()) =>
  bif decide (x0.1 ≤ x1.1) then bif wU (↑(BitVec.toNat (BitVec.ofInt (IntKind.bits IntKind.u64) x0.2.1 &&& ~~~BitVec.ofInt (IntKind.bits IntKind.u64) x1.2.1)) : Int) == 0 then some (true, ()) else some (false, ()) else some (false, ())
theorem zSE (K : Nat) : evF (En E0 false []) K Tryz.f92 0 zAN zAO = zBI := funext fun (x0, x1, ()) => by kernel_rfl
end
def zbM : zAP := zBI
theorem zIP : Sd Tryz.prog E0 (zjs zbM) := mkS (l := []) trivial Tryz.func92 (by kernel_rfl) (zSE K0)
section
variable (za2 : zui) (zfR : zAP)
def zBJ : (qv × (Int × (Int × Unit))) → Option (Bool × Unit) := fun (x0, x1, x2, ()) =>
  Option.bind (za2 (x0, x1, ())) fun q0 => bif q0.1 then Option.bind (za2 (x0, x2, ())) fun q1 => bif q1.1 then inR x1 ((List.length x0.1.1) : Int) (inR x2 ((List.length x0.1.1) : Int) (Option.bind (zfR (ix zcC x0.1.1 x1, ix zcC x0.1.1 x2, ())) fun q2 => bif q2.1 then some (true, ()) else some (false, ()))) else some (false, ()) else some (false, ())
theorem zSF (K : Nat) : evF (En E0 false [zgd za2, zjs zfR]) K Tryz.f152 0 zAU zAV = zBJ za2 zfR := funext fun (x0, x1, x2, ()) => by kernel_rfl
end
def zbN : zAW := zBJ yW zbM
theorem zIQ : Sd Tryz.prog E0 (zjw zbN) := mkS (l := [zgd yW, zjs zbM]) ⟨zE9, zIP, trivial⟩ Tryz.func152 (by kernel_rfl) (zSF yW zbM K0)
section
variable (vm : zmx) (zfS : zAW)
def zqu : (qz × ((Option qv) × ((Option Int) × Unit))) → Option (Bool × Unit) := fun (x0, x1, x2, ()) =>
  Option.bind x1 fun q0 => Option.bind (vm (q0.2.1, x0, ())) fun q1 => bif q1.1 then Option.bind x1 fun q2 => Option.bind x2 fun q3 => Option.bind (zfS (q2, x0.1, q3, ())) fun q4 => bif q4.1 then some (true, ()) else some (false, ()) else some (false, ())
theorem zLA (K : Nat) : evF (En E0 false [zbp vm, zjw zfS]) K Tryz.f222 0 zpR zpS = zqu vm zfS := funext fun (x0, x1, x2, ()) => by kernel_rfl
end
def vz : zzU := zqu j6 zbN
theorem zLB : Sd Tryz.prog E0 (znO vz) := mkS (l := [zbp j6, zjw zbN]) ⟨zuY, zIQ, trivial⟩ Tryz.func222 (by kernel_rfl) (zLA j6 zbN K0)
section
variable (zqv : zzU)
def zFa : (qv × (Int × Unit)) → Option ((Option ((qz × Unit) → Option (Bool × Unit))) × Unit) := fun (x0, x1, ()) =>
  some (some fun z => zqv (z.1, some x0, some x1, ()), ())
theorem zPa (K : Nat) : evF (En E0 false [znO zqv]) K Tryz.f143 0 zuj zuk = zFa zqv := funext fun (x0, x1, ()) => by kernel_rfl
end
def zez : zEV := zFa vz
theorem zPb : Sd Tryz.prog E0 (zrY zez) := mkS (l := [znO vz]) ⟨zLB, trivial⟩ Tryz.func143 (by kernel_rfl) (zPa vz K0)
section
def zqw : (z9 × ((Option (Option ((qz × Unit) → Option (Bool × Unit)))) × Unit)) → Option (Bool × Unit) := fun (x0, x1, ()) =>
  bif x0.1 then Option.bind x1 fun q0 => Option.bind q0 fun q1 => Option.bind (q1 (x0.2.1, ())) fun q2 => bif q2.1 then Option.bind x1 fun q3 => Option.bind q3 fun q4 => Option.bind (q4 (x0.2.2.1, ())) fun q5 => bif q5.1 then some (true, ()) else some (false, ()) else some (false, ()) else some (true, ())
theorem zLC (K : Nat) : evF (En E0 false []) K Tryz.f145 0 zpq zpr = zqw := funext fun (x0, x1, ()) => by kernel_rfl
end
def zaL : zzJ := zqw
theorem zLD : Sd Tryz.prog E0 (znd zaL) := mkS (l := []) trivial Tryz.func145 (by kernel_rfl) (zLC K0)
section
def ztk : (z9 × ((Option (Option ((z9 × Unit) → Option (Bool × Unit)))) × Unit)) → Option (Bool × Unit) := fun (x0, x1, ()) =>
  Option.bind x1 fun q0 => Option.bind q0 fun q1 => Option.bind (q1 (x0, ())) fun q2 => bif q2.1 then some (false, ()) else some (true, ())
theorem zG1 (K : Nat) : evF (En E0 false []) K Tryz.f224 0 zjD zjE = ztk := funext fun (x0, x1, ()) => by kernel_rfl
end
def zal : zta := ztk
theorem zG2 : Sd Tryz.prog E0 (ziz zal) := mkS (l := []) trivial Tryz.func224 (by kernel_rfl) (zG1 K0)
section
variable (vw : ziH)
def zmn : ((List z9) × ((Option ((z9 × Unit) → Option (Bool × Unit))) × Unit)) → Option (Bool × Unit) := fun (x0, x1, ()) =>
  Option.bind (vw (x0, x1, ())) fun q0 => bif decide (q0.1 ≥ 0) then some (true, ()) else some (false, ())
theorem zBK (K : Nat) : evF (En E0 false [zaF vw]) K Tryz.f223 0 zfw zfx = zmn vw := funext fun (x0, x1, ()) => by kernel_rfl
end
def jT : zl4 := zmn jx
theorem zBL : Sd Tryz.prog E0 (zef jT) := mkS (l := [zaF jx]) ⟨zra, trivial⟩ Tryz.func223 (by kernel_rfl) (zBK jx K0)
section
variable (zj6 : zta) (zfT : zl4)
def zyn : ((List z9) × ((Option ((z9 × Unit) → Option (Bool × Unit))) × Unit)) → Option (Bool × Unit) := fun (x0, x1, ()) =>
  Option.bind (zfT (x0, some fun z => zj6 (z.1, some x1, ()), ())) fun q0 => bif q0.1 then some (false, ()) else some (true, ())
theorem zJz (K : Nat) : evF (En E0 false [ziz zj6, zef zfT]) K Tryz.f144 0 znb znc = zyn zj6 zfT := funext fun (x0, x1, ()) => by kernel_rfl
end
def zby : zwX := zyn zal jT
theorem zJA : Sd Tryz.prog E0 (zlm zby) := mkS (l := [ziz zal, zef jT]) ⟨zG2, zBL, trivial⟩ Tryz.func144 (by kernel_rfl) (zJz zal jT K0)
section
def zqx : (zW × ((Option (Option ((qz × Unit) → Option (Bool × Unit)))) × Unit)) → Option (Bool × Unit) := fun (x0, x1, ()) =>
  bif x0.2.2.1 != 2 then some (true, ()) else Option.bind x1 fun q0 => Option.bind q0 fun q1 => Option.bind (q1 (x0.2.2.2.2.1, ())) fun q2 => bif q2.1 then some (true, ()) else some (false, ())
theorem zLE (K : Nat) : evF (En E0 false []) K Tryz.f147 0 zps zpt = zqx := funext fun (x0, x1, ()) => by kernel_rfl
end
def zaM : zzK := zqx
theorem zLF : Sd Tryz.prog E0 (znh zaM) := mkS (l := []) trivial Tryz.func147 (by kernel_rfl) (zLE K0)
section
def ztl : (zW × ((Option (Option ((zW × Unit) → Option (Bool × Unit)))) × Unit)) → Option (Bool × Unit) := fun (x0, x1, ()) =>
  Option.bind x1 fun q0 => Option.bind q0 fun q1 => Option.bind (q1 (x0, ())) fun q2 => bif q2.1 then some (false, ()) else some (true, ())
theorem zG3 (K : Nat) : evF (En E0 false []) K Tryz.f225 0 zjF zjG = ztl := funext fun (x0, x1, ()) => by kernel_rfl
end
def zam : ztb := ztl
theorem zG4 : Sd Tryz.prog E0 (ziA zam) := mkS (l := []) trivial Tryz.func225 (by kernel_rfl) (zG3 K0)
section
variable (zj7 : ztb) (jR : zfs)
def zyo : ((List zW) × ((Option ((zW × Unit) → Option (Bool × Unit))) × Unit)) → Option (Bool × Unit) := fun (x0, x1, ()) =>
  Option.bind (jR (x0, some fun z => zj7 (z.1, some x1, ()), ())) fun q0 => bif q0.1 then some (false, ()) else some (true, ())
theorem zJB (K : Nat) : evF (En E0 false [ziA zj7, yi jR]) K Tryz.f146 0 zne znf = zyo zj7 jR := funext fun (x0, x1, ()) => by kernel_rfl
end
def qG : zng := zyo zam qD
theorem zyp : Sd Tryz.prog E0 (zcF qG) := mkS (l := [ziA zam, yi qD]) ⟨zG4, zmg, trivial⟩ Tryz.func146 (by kernel_rfl) (zJB zam qD K0)
section
def zvz : (qz × ((Option (Option ((qz × Unit) → Option (Bool × Unit)))) × Unit)) → Option (Bool × Unit) := fun (x0, x1, ()) =>
  Option.bind x1 fun q0 => Option.bind q0 fun q1 => Option.bind (q1 (x0, ())) fun q2 => bif q2.1 then some (false, ()) else some (true, ())
theorem zH9 (K : Nat) : evF (En E0 false []) K Tryz.f227 0 zlC zlD = zvz := funext fun (x0, x1, ()) => by kernel_rfl
end
def zaZ : zvq := zvz
theorem zIa : Sd Tryz.prog E0 (zjH zaZ) := mkS (l := []) trivial Tryz.func227 (by kernel_rfl) (zH9 K0)
section
abbrev ztm : Env := (En E0 false [])
abbrev zaN : Type := (List qz) × (Option ((qz × Unit) → Option (Bool × Unit))) × Int × Int
abbrev zD5 : zaN → St := fun (v0, v1, v7, v8) => St.mk [(0, AV.dat (Ty.sl zdq) v0), (1, AV.dat (Ty.fn (Ty.pair zdq Ty.unit) (Ty.pair Ty.bool Ty.unit)) v1), (7, AV.dat tI v7), (8, AV.dat tI v8)] []
def zhK (k0 : zaN → Option (Int × Unit)) : zaN → Option (Int × Unit) := fun (v0, v1, v7, v8) =>
  bif decide (v8 < v7) then inR v8 ((List.length v0) : Int) (Option.bind v1 fun q0 => Option.bind (q0 (ix zaB v0 v8, ())) fun q1 => bif q1.1 then some (v8, ()) else k0 (v0, v1, v7, wI (v8 + 1))) else some ((-1), ())
abbrev zqy (K : Nat) : zaN → Option (Int × Unit) := iter (zhK) K
theorem zD6 (K : Nat) : ∀ n, evV (ztm) K Tryz.f274 0 zeT [1, 0, 1, 0] [] zD5 n = iter (zhK) n := zG fun n0 (v0, v1, v7, v8) => by kernel_rfl
def zj8 (L0 : zaN → Option (Int × Unit)) : ((List qz) × ((Option ((qz × Unit) → Option (Bool × Unit))) × Unit)) → Option (Int × Unit) := fun (x0, x1, ()) =>
  L0 (x0, x1, ((List.length x0) : Int), 0)
theorem zG5 (K : Nat) : evF (ztm) K Tryz.f274 0 zjP zeT = zj8 (zqy K) := tr1 (T := zj8) (zD6 K K) fun (x0, x1, ()) => by kernel_rfl
end
def zan : ztf := zj8 (zqy K0)
theorem zG6 : Sd Tryz.prog E0 (ziL zan) := mkS (l := []) trivial Tryz.func274 (by kernel_rfl) (zG5 K0)
section
variable (zj9 : ztf)
def zow : ((List qz) × ((Option ((qz × Unit) → Option (Bool × Unit))) × Unit)) → Option (Bool × Unit) := fun (x0, x1, ()) =>
  Option.bind (zj9 (x0, x1, ())) fun q0 => bif decide (q0.1 ≥ 0) then some (true, ()) else some (false, ())
theorem zCG (K : Nat) : evF (En E0 false [ziL zj9]) K Tryz.f226 0 zgg zgh = zow zj9 := funext fun (x0, x1, ()) => by kernel_rfl
end
def va : zon := zow zan
theorem zCH : Sd Tryz.prog E0 (zfy va) := mkS (l := [ziL zan]) ⟨zG6, trivial⟩ Tryz.func226 (by kernel_rfl) (zCG zan K0)
section
variable (zlV : zvq) (zgL : zon)
def zz2 : ((List qz) × ((Option ((qz × Unit) → Option (Bool × Unit))) × Unit)) → Option (Bool × Unit) := fun (x0, x1, ()) =>
  Option.bind (zgL (x0, some fun z => zlV (z.1, some x1, ()), ())) fun q0 => bif q0.1 then some (false, ()) else some (true, ())
theorem zLG (K : Nat) : evF (En E0 false [zjH zlV, zfy zgL]) K Tryz.f148 0 zpu zpv = zz2 zlV zgL := funext fun (x0, x1, ()) => by kernel_rfl
end
def zcd : zzL := zz2 zaZ va
theorem zLH : Sd Tryz.prog E0 (zni zcd) := mkS (l := [zjH zaZ, zfy va]) ⟨zIa, zCH, trivial⟩ Tryz.func148 (by kernel_rfl) (zLG zaZ va K0)
end
end Go.Proofs.YtaokpakfhdeiiaaGreatDoor
end
section
namespace Go.Proofs.YtaokpakfhdeiiaaGreatDoor
open Go.Ev
set_option linter.unusedVariables false
noncomputable section
section
variable (za3 : zEV) (yp : zzJ) (vO : zwX) (vA : zzK) (zO : zng) (yq : zzL)
abbrev zFb : Env := (En E0 false [zrY za3, znd yp, zlm vO, znh vA, zcF zO, zni yq])
abbrev ze3 : Type := (List zm) × Int × Int × qv
abbrev zLI : ze3 → St := fun (v10, v11, v12, o0) => St.mk [(1, AV.bp 0 []), (10, AV.dat (Ty.sl zl) v10), (11, AV.dat tI v11), (12, AV.dat tI v12)] [Obj.bx (AV.dat qF o0) false]
def ze4 (k0 : ze3 → Option (Bool × Unit)) : ze3 → Option (Bool × Unit) := fun (v10, v11, v12, o0) =>
  bif decide (v12 < v11) then inR v12 ((List.length v10) : Int) (Option.bind (za3 (o0, v12, ())) fun q0 => Option.bind (vO ((ix za v10 v12).2.1, some fun z => yp (z.1, some q0.1, ()), ())) fun q1 => bif q1.1 then Option.bind (zO ((ix za v10 v12).2.2.1, some fun z => vA (z.1, some q0.1, ()), ())) fun q2 => bif q2.1 then Option.bind (yq ((ix za v10 v12).2.2.2.2.2.2.1, q0.1, ())) fun q3 => bif q3.1 then k0 (v10, v11, wI (v12 + 1), o0) else some (false, ()) else some (false, ()) else Option.bind (zO ((ix za v10 v12).2.2.1, some fun z => vA (z.1, some q0.1, ()), ())) fun q4 => bif q4.1 then some (false, ()) else some (false, ())) else some (true, ())
abbrev zz3 (K : Nat) : ze3 → Option (Bool × Unit) := iter (ze4 za3 yp vO vA zO yq) K
theorem zLJ (K : Nat) : ∀ n, evV (zFb za3 yp vO vA zO yq) K Tryz.f58 0 zmw [1, 0, 1, 0] [] zLI n = iter (ze4 za3 yp vO vA zO yq) n := zG fun n0 (v10, v11, v12, o0) => by kernel_rfl
def zu1 (L0 : ze3 → Option (Bool × Unit)) : (qv × Unit) → Option (Bool × Unit) := fun (x0, ()) =>
  L0 (x0.2.1.2.1, ((List.length x0.2.1.2.1) : Int), 0, x0)
theorem zPc (K : Nat) : evF (zFb za3 yp vO vA zO yq) K Tryz.f58 0 ztS zmw = zu1 (zz3 za3 yp vO vA zO yq K) := tr1 (T := zu1) (zLJ za3 yp vO vA zO yq K K) fun (x0, ()) => by kernel_rfl
end
def zeA : zEL := zu1 (zz3 zez zaL zby zaM qG zcd K0)
theorem zPd : Sd Tryz.prog E0 (zrD zeA) := mkS (l := [zrY zez, znd zaL, zlm zby, znh zaM, zcF qG, zni zcd]) ⟨zPb, zLD, zJA, zLF, zyp, zLH, trivial⟩ Tryz.func58 (by kernel_rfl) (zPc zez zaL zby zaM qG zcd K0)
section
variable (zT : zaE)
def zn8 : (zW × ((Option qv) × Unit)) → Option (Bool × Unit) := fun (x0, x1, ()) =>
  bif x0.2.2.1 != 1 then some (true, ()) else Option.bind x1 fun q0 => Option.bind (zT (q0, x0.2.2.2.1, ())) fun q1 => bif q1.1 then some (true, ()) else some (false, ())
theorem zJC (K : Nat) : evF (En E0 false [qW zT]) K Tryz.f149 0 znj znk = zn8 zT := funext fun (x0, x1, ()) => by kernel_rfl
end
def jo : zwY := zn8 z4
theorem zJD : Sd Tryz.prog E0 (zln jo) := mkS (l := [qW z4]) ⟨zcb, trivial⟩ Tryz.func149 (by kernel_rfl) (zJC z4 K0)
section
variable (zfS : zAW) (zT : zaE)
def zn9 : (qr × ((Option qv) × ((Option Int) × Unit))) → Option (Bool × Unit) := fun (x0, x1, x2, ()) =>
  bif x0.1 then Option.bind x1 fun q0 => Option.bind x2 fun q1 => Option.bind (zfS (q0, x0.2.1, q1, ())) fun q2 => bif q2.1 then Option.bind x1 fun q3 => Option.bind (zT (q3, x0.2.2.1, ())) fun q4 => bif q4.1 then Option.bind x1 fun q5 => Option.bind (zT (q5, x0.2.2.2.1, ())) fun q6 => bif q6.1 then some (true, ()) else some (false, ()) else some (false, ()) else some (false, ()) else some (true, ())
theorem zJE (K : Nat) : evF (En E0 false [zjw zfS, qW zT]) K Tryz.f151 0 znn zno = zn9 zfS zT := funext fun (x0, x1, x2, ()) => by kernel_rfl
end
def jp : zw0 := zn9 zbN z4
theorem zJF : Sd Tryz.prog E0 (zlp jp) := mkS (l := [zjw zbN, qW z4]) ⟨zIQ, zcb, trivial⟩ Tryz.func151 (by kernel_rfl) (zJE zbN z4 K0)
section
def ztn : (qr × ((Option (Option ((qr × Unit) → Option (Bool × Unit)))) × Unit)) → Option (Bool × Unit) := fun (x0, x1, ()) =>
  Option.bind x1 fun q0 => Option.bind q0 fun q1 => Option.bind (q1 (x0, ())) fun q2 => bif q2.1 then some (false, ()) else some (true, ())
theorem zG7 (K : Nat) : evF (En E0 false []) K Tryz.f228 0 zjI zjJ = ztn := funext fun (x0, x1, ()) => by kernel_rfl
end
def zao : ztc := ztn
theorem zG8 : Sd Tryz.prog E0 (ziB zao) := mkS (l := []) trivial Tryz.func228 (by kernel_rfl) (zG7 K0)
section
variable (zka : ztc) (jS : zfv)
def zyq : ((List qr) × ((Option ((qr × Unit) → Option (Bool × Unit))) × Unit)) → Option (Bool × Unit) := fun (x0, x1, ()) =>
  Option.bind (jS (x0, some fun z => zka (z.1, some x1, ()), ())) fun q0 => bif q0.1 then some (false, ()) else some (true, ())
theorem zJG (K : Nat) : evF (En E0 false [ziB zka, yj jS]) K Tryz.f150 0 znl znm = zyq zka jS := funext fun (x0, x1, ()) => by kernel_rfl
end
def jU : zwZ := zyq zao qE
theorem zJH : Sd Tryz.prog E0 (zlo jU) := mkS (l := [ziB zao, yj qE]) ⟨zG8, zmi, trivial⟩ Tryz.func150 (by kernel_rfl) (zJG zao qE K0)
section
variable (zT : zaE)
def zoa : (zq × ((Option qv) × Unit)) → Option (Bool × Unit) := fun (x0, x1, ()) =>
  bif x0.1 then Option.bind x1 fun q0 => Option.bind (zT (q0, x0.2.1, ())) fun q1 => bif q1.1 then Option.bind x1 fun q2 => Option.bind (zT (q2, x0.2.2.1, ())) fun q3 => bif q3.1 then some (true, ()) else some (false, ()) else some (false, ()) else some (true, ())
theorem zJI (K : Nat) : evF (En E0 false [qW zT]) K Tryz.f154 0 znp znq = zoa zT := funext fun (x0, x1, ()) => by kernel_rfl
end
def jq : zw1 := zoa z4
theorem zJJ : Sd Tryz.prog E0 (zls jq) := mkS (l := [qW z4]) ⟨zcb, trivial⟩ Tryz.func154 (by kernel_rfl) (zJI z4 K0)
section
def zrf : (zq × ((Option (Option ((zq × Unit) → Option (Bool × Unit)))) × Unit)) → Option (Bool × Unit) := fun (x0, x1, ()) =>
  Option.bind x1 fun q0 => Option.bind q0 fun q1 => Option.bind (q1 (x0, ())) fun q2 => bif q2.1 then some (false, ()) else some (true, ())
theorem zFH (K : Nat) : evF (En E0 false []) K Tryz.f229 0 ziC ziD = zrf := funext fun (x0, x1, ()) => by kernel_rfl
end
def yC : zq0 := zrf
theorem zFI : Sd Tryz.prog E0 (zhf yC) := mkS (l := []) trivial Tryz.func229 (by kernel_rfl) (zFH K0)
section
variable (zi1 : zq0) (jE : zea)
def zvA : ((List zq) × ((Option ((zq × Unit) → Option (Bool × Unit))) × Unit)) → Option (Bool × Unit) := fun (x0, x1, ()) =>
  Option.bind (jE (x0, some fun z => zi1 (z.1, some x1, ()), ())) fun q0 => bif q0.1 then some (false, ()) else some (true, ())
theorem zIb (K : Nat) : evF (En E0 false [zhf zi1, vI jE]) K Tryz.f153 0 zlq zlr = zvA zi1 jE := funext fun (x0, x1, ()) => by kernel_rfl
end
def jz : zvm := zvA yC qw
theorem zIc : Sd Tryz.prog E0 (zjx jz) := mkS (l := [zhf yC, vI qw]) ⟨zFI, zk0, trivial⟩ Tryz.func153 (by kernel_rfl) (zIb yC qw K0)
section
variable (qH : zwY) (zO : zng) (qo : zw0) (qp : zwZ) (z0 : zw1) (zU : zvm)
abbrev zsA : Env := (En E0 false [zln qH, zcF zO, zlp qo, zlo qp, zls z0, zjx zU])
abbrev y3 : Type := (List zm) × Int × Int × qv
abbrev zJK : y3 → St := fun (v10, v11, v12, o0) => St.mk [(1, AV.bp 0 []), (10, AV.dat (Ty.sl zl) v10), (11, AV.dat tI v11), (12, AV.dat tI v12)] [Obj.bx (AV.dat qF o0) true]
abbrev zhL : Type := (List zm) × Int × Int × qv
abbrev zJL : zhL → St := fun (v10, v11, v12, o0) => St.mk [(1, AV.bp 0 []), (10, AV.dat (Ty.sl zl) v10), (11, AV.dat tI v11), (12, AV.dat tI v12)] [Obj.bx (AV.dat qF o0) false]
def jV (k1 : y3 → Option (Bool × Unit)) : y3 → Option (Bool × Unit) := fun (v10, v11, v12, o0) =>
  bif decide (v12 < v11) then inR v12 ((List.length v10) : Int) (Option.bind (zO ((ix za v10 v12).2.2.1, some fun z => qH (z.1, some o0, ()), ())) fun q3 => bif q3.1 then Option.bind (qp ((ix za v10 v12).2.2.2.1, some fun z => qo (z.1, some o0, some v12, ()), ())) fun q4 => bif q4.1 then Option.bind (zU ((ix za v10 v12).2.2.2.2.1, some fun z => z0 (z.1, some o0, ()), ())) fun q5 => bif q5.1 then k1 (v10, v11, wI (v12 + 1), o0) else some (false, ()) else Option.bind (zU ((ix za v10 v12).2.2.2.2.1, some fun z => z0 (z.1, some o0, ()), ())) fun q6 => bif q6.1 then some (false, ()) else some (false, ()) else Option.bind (qp ((ix za v10 v12).2.2.2.1, some fun z => qo (z.1, some o0, some v12, ()), ())) fun q7 => bif q7.1 then Option.bind (zU ((ix za v10 v12).2.2.2.2.1, some fun z => z0 (z.1, some o0, ()), ())) fun q8 => bif q8.1 then some (false, ()) else some (false, ()) else Option.bind (zU ((ix za v10 v12).2.2.2.2.1, some fun z => z0 (z.1, some o0, ()), ())) fun q9 => bif q9.1 then some (false, ()) else some (false, ())) else some (true, ())
theorem zJM (K : Nat) : ∀ n, evV (zsA qH zO qo qp z0 zU) K Tryz.f59 0 zgb [1, 0, 1, 0] [] zJK n = iter (jV qH zO qo qp z0 zU) n := zG fun n1 (v10, v11, v12, o0) => by kernel_rfl
def zyr (k1 : y3 → Option (Bool × Unit)) : zhL → Option (Bool × Unit) := fun (v10, v11, v12, o0) =>
  bif decide (v12 < v11) then inR v12 ((List.length v10) : Int) (Option.bind (zO ((ix za v10 v12).2.2.1, some fun z => qH (z.1, some o0, ()), ())) fun q0 => bif q0.1 then Option.bind (qp ((ix za v10 v12).2.2.2.1, some fun z => qo (z.1, some o0, some v12, ()), ())) fun q1 => bif q1.1 then Option.bind (zU ((ix za v10 v12).2.2.2.2.1, some fun z => z0 (z.1, some o0, ()), ())) fun q2 => bif q2.1 then k1 (v10, v11, wI (v12 + 1), o0) else some (false, ()) else Option.bind (zU ((ix za v10 v12).2.2.2.2.1, some fun z => z0 (z.1, some o0, ()), ())) fun q10 => bif q10.1 then some (false, ()) else some (false, ()) else Option.bind (qp ((ix za v10 v12).2.2.2.1, some fun z => qo (z.1, some o0, some v12, ()), ())) fun q11 => bif q11.1 then Option.bind (zU ((ix za v10 v12).2.2.2.2.1, some fun z => z0 (z.1, some o0, ()), ())) fun q12 => bif q12.1 then some (false, ()) else some (false, ()) else Option.bind (zU ((ix za v10 v12).2.2.2.2.1, some fun z => z0 (z.1, some o0, ()), ())) fun q13 => bif q13.1 then some (false, ()) else some (false, ())) else some (true, ())
abbrev zys (K : Nat) : zhL → Option (Bool × Unit) := zK4 (zyr qH zO qo qp z0 zU) (jV qH zO qo qp z0 zU) K
theorem zJN (K : Nat) : ∀ n, evV (zsA qH zO qo qp z0 zU) K Tryz.f59 0 zgb [1, 0, 1, 0] [] zJL n = zK4 (zyr qH zO qo qp z0 zU) (jV qH zO qo qp z0 zU) n := zVp (zJM qH zO qo qp z0 zU K) fun n0 (v10, v11, v12, o0) => by kernel_rfl
def zsB (L0 : zhL → Option (Bool × Unit)) : (qv × Unit) → Option (Bool × Unit) := fun (x0, ()) =>
  L0 (x0.2.1.2.1, ((List.length x0.2.1.2.1) : Int), 0, x0)
theorem zNv (K : Nat) : evF (zsA qH zO qo qp z0 zU) K Tryz.f59 0 zrE zgb = zsB (zys qH zO qo qp z0 zU K) := tr1 (T := zsB) (zJN qH zO qo qp z0 zU K K) fun (x0, ()) => by kernel_rfl
end
def zbz : zB7 := zsB (zys jo qG jp jU jq jz K0)
theorem zNw : Sd Tryz.prog E0 (zoV zbz) := mkS (l := [zln jo, zcF qG, zlp jp, zlo jU, zls jq, zjx jz]) ⟨zJD, zyp, zJF, zJH, zJJ, zIc, trivial⟩ Tryz.func59 (by kernel_rfl) (zNv jo qG jp jU jq jz K0)
section
def zyt : ((List zq) × Unit) → Option ((List zq) × Unit) := fun (x0, ()) =>
  bif List.isEmpty x0 then both (some ([], ())) (bif decide (List.length (List.replicate 0 (zb zI)) + List.length x0 ≤ lim) then some (List.replicate 0 (zb zI) ++ x0, ()) else none) else bif decide (List.length (List.replicate 0 (zb zI)) + List.length x0 ≤ lim) then some (List.replicate 0 (zb zI) ++ x0, ()) else none
theorem zJO (K : Nat) : evF (En E0 false []) K Tryz.f75 1 zmW zmX = zyt := funext fun (x0, ()) => by kernel_rfl
end
def jW : zmY := zyt
theorem zyu : Sd Tryz.prog E0 (zcE jW) := mkS (l := []) trivial Tryz.func75 (by kernel_rfl) (zJO K0)
section
variable (z8 : zmY)
def zhM : ((List zq) × ((Option ((zq × Unit) → Option (Bool × Unit))) × Unit)) → Option ((Option yU) × Unit) := fun (x0, x1, ()) =>
  bif Option.isNone x1 then some (none, ()) else Option.bind (z8 (x0, ())) fun q0 => some (some (q0.1, x1, ()), ())
theorem zJP (K : Nat) : evF (En E0 false [zcE z8]) K Tryz.f155 0 znr zns = zhM z8 := funext fun (x0, x1, ()) => by kernel_rfl
end
def jt : znt := zhM jW
theorem zyv : Sd Tryz.prog E0 (zcG jt) := mkS (l := [zcE jW]) ⟨zyu, trivial⟩ Tryz.func155 (by kernel_rfl) (zJP jW K0)
section
def zz4 : (zq × Unit) → Option (Bool × Unit) := fun (x0, ()) =>
  bif x0.1 then some (true, ()) else some (false, ())
theorem zLK (K : Nat) : evF (En E0 false []) K Tryz.f156 0 zpw zpx = zz4 := funext fun (x0, ()) => by kernel_rfl
end
def vc : zzM := zz4
theorem zLL : Sd Tryz.prog E0 (znu vc) := mkS (l := []) trivial Tryz.func156 (by kernel_rfl) (zLK K0)
section
def zyw : ((Option yU) × Unit) → Option (Bool × Unit) := fun (x0, ()) =>
  bif Option.isSome x0 then Option.bind x0 fun q0 => bif Option.isSome q0.2.1 then some (true, ()) else some (false, ()) else some (false, ())
theorem zJQ (K : Nat) : evF (En E0 false []) K Tryz.f198 0 znK znL = zyw := funext fun (x0, ()) => by kernel_rfl
end
def vP : znM := zyw
theorem zyx : Sd Tryz.prog E0 (zcH vP) := mkS (l := []) trivial Tryz.func198 (by kernel_rfl) (zJQ K0)
section
variable (ju : znM)
def zje : ((Option yU) × (Int × Unit)) → Option (Bool × Unit) := fun (x0, x1, ()) =>
  Option.bind (ju (x0, ())) fun q0 => bif q0.1 then bif decide (x1 ≥ 0) then Option.bind x0 fun q1 => bif decide (x1 < ((List.length q1.1) : Int)) then Option.bind x0 fun q2 => Option.bind x0 fun q3 => inR x1 ((List.length q3.1) : Int) (Option.bind q2.2.1 fun q4 => Option.bind (q4 (ix qZ q3.1 x1, ())) fun q5 => bif q5.1 then some (true, ()) else some (false, ())) else some (false, ()) else some (false, ()) else some (false, ())
theorem zLM (K : Nat) : evF (En E0 false [zcH ju]) K Tryz.f157 0 zpy zpz = zje ju := funext fun (x0, x1, ()) => by kernel_rfl
end
def qI : zpA := zje vP
theorem zz5 : Sd Tryz.prog E0 (zdt qI) := mkS (l := [zcH vP]) ⟨zyx, trivial⟩ Tryz.func157 (by kernel_rfl) (zLM vP K0)
section
variable (ju : znM) (zE : zpA)
abbrev zvB : Env := (En E0 false [zcH ju, zdt zE])
abbrev zbi : Type := (Option yU) × Int × Int × List Int
abbrev zFJ : zbi → St := fun (v0, v12, v13, o0) => St.mk [(0, AV.dat (Ty.ptr zaC) v0), (3, AV.ow 0), (12, AV.dat tI v12), (13, AV.dat tI v13)] [Obj.row tI o0 false]
def zbj (k0 : zbi → Option ((List Int) × Unit)) : zbi → Option ((List Int) × Unit) := fun (v0, v12, v13, o0) =>
  bif decide (v13 < v12) then Option.bind (zE (v0, v13, ())) fun q2 => bif q2.1 then bif decide (List.length o0 + List.length (zg (List.replicate 1 (0 : Int)) 0 v13) ≤ lim) then k0 (v0, v12, wI (v13 + 1), o0 ++ zg (List.replicate 1 (0 : Int)) 0 v13) else none else k0 (v0, v12, wI (v13 + 1), o0) else some (o0, ())
abbrev zrg (K : Nat) : zbi → Option ((List Int) × Unit) := iter (zbj zE) K
theorem zFK (K : Nat) : ∀ n, evV (zvB ju zE) K Tryz.f121 0 zfY [1, 1, 1, 0, 1, 0] [] zFJ n = iter (zbj zE) n := zG fun n0 (v0, v12, v13, o0) => by kernel_rfl
def zlW (L0 : zbi → Option ((List Int) × Unit)) : ((Option yU) × Unit) → Option ((List Int) × Unit) := fun (x0, ()) =>
  Option.bind (ju (x0, ())) fun q0 => bif q0.1 then Option.bind x0 fun q1 => L0 (x0, ((List.length q1.1) : Int), 0, []) else some ([], ())
theorem zId (K : Nat) : evF (zvB ju zE) K Tryz.f121 0 zlb zfY = zlW ju (zrg zE K) := tr1 (T := zlW ju) (zFK ju zE K K) fun (x0, ()) => by kernel_rfl
end
def jf : zlc := zlW vP (zrg qI K0)
theorem zvC : Sd Tryz.prog E0 (zbT jf) := mkS (l := [zcH vP, zdt qI]) ⟨zyx, zz5, trivial⟩ Tryz.func121 (by kernel_rfl) (zId vP qI K0)
section
variable (zP : znt) (z5 : zzM) (zE : zpA) (zz : zlc)
abbrev vn : Env := (En E0 false [zcG zP, znu z5, zdt zE, zbT zz])
abbrev ze5 : Type := (List zm) × Int × Int × (List Int) × Int × Int × zm
abbrev zz6 : ze5 → St := fun (v14, v15, v16, v55, v56, v57, o0) => St.mk [(4, AV.bp 0 []), (14, AV.dat (Ty.sl zl) v14), (15, AV.dat tI v15), (16, AV.dat tI v16), (55, AV.dat (Ty.sl tI) v55), (56, AV.dat tI v56), (57, AV.dat tI v57)] [Obj.bx (AV.dat zl o0) false]
abbrev ze6 : Type := (Option yU) × (List zm) × Int × Int × (List zW) × Int × Int × zm
abbrev zz7 : ze6 → St := fun (v5, v14, v15, v16, v24, v25, v26, o0) => St.mk [(4, AV.bp 0 []), (5, AV.dat (Ty.ptr zaC) v5), (14, AV.dat (Ty.sl zl) v14), (15, AV.dat tI v15), (16, AV.dat tI v16), (24, AV.dat (Ty.sl qi) v24), (25, AV.dat tI v25), (26, AV.dat tI v26)] [Obj.bx (AV.dat zl o0) false]
abbrev vB : Type := (List zm) × Int × Int
abbrev zce : vB → St := fun (v14, v15, v16) => St.mk [(14, AV.dat (Ty.sl zl) v14), (15, AV.dat tI v15), (16, AV.dat tI v16)] []
def ze7 (k0 : vB → Option (Bool × Unit)) (k2 : ze5 → Option (Bool × Unit)) : ze5 → Option (Bool × Unit) := fun (v14, v15, v16, v55, v56, v57, o0) =>
  bif decide (v57 < v56) then inR v57 ((List.length v55) : Int) (inR (ix (0 : Int) v55 v57) ((List.length o0.2.2.2.2.1) : Int) (inR (ix (0 : Int) v55 v57) ((List.length o0.2.2.2.2.1) : Int) (bif decide ((List.getD o0.2.2.2.2.1 (Int.toNat (ix (0 : Int) v55 v57)) (zb zI)).2.2.2.1.2.2.1 ≥ ((List.length o0.2.2.1) : Int)) then some (false, ()) else bif decide ((List.getD o0.2.2.2.2.1 (Int.toNat (ix (0 : Int) v55 v57)) (zb zI)).2.2.2.2.1.2.2.1 ≥ ((List.length o0.2.2.1) : Int)) then some (false, ()) else bif decide ((List.getD o0.2.2.2.2.1 (Int.toNat (ix (0 : Int) v55 v57)) (zb zI)).2.2.2.1.2.2.1 ≥ 0) then inR (List.getD o0.2.2.2.2.1 (Int.toNat (ix (0 : Int) v55 v57)) (zb zI)).2.2.2.1.2.2.1 ((List.length o0.2.2.1) : Int) (bif (List.getD o0.2.2.1 (Int.toNat (List.getD o0.2.2.2.2.1 (Int.toNat (ix (0 : Int) v55 v57)) (zb zI)).2.2.2.1.2.2.1) (zb qi)).2.2.1 != 3 then some (false, ()) else inR (List.getD o0.2.2.2.2.1 (Int.toNat (ix (0 : Int) v55 v57)) (zb zI)).2.2.2.1.2.2.1 ((List.length o0.2.2.1) : Int) (bif (List.getD o0.2.2.1 (Int.toNat (List.getD o0.2.2.2.2.1 (Int.toNat (ix (0 : Int) v55 v57)) (zb zI)).2.2.2.1.2.2.1) (zb qi)).2.2.2.1 != ix (0 : Int) v55 v57 then some (false, ()) else k2 (v14, v15, v16, v55, v56, wI (v57 + 1), o0))) else k2 (v14, v15, v16, v55, v56, wI (v57 + 1), o0)))) else k0 (v14, v15, wI (v16 + 1))
abbrev ze8 (K : Nat) (k0 : vB → Option (Bool × Unit)) : ze5 → Option (Bool × Unit) := iter (fun k2 => ze7 k0 k2) K
theorem zLN (K : Nat) (n0 : Nat) : ∀ n, evV (vn zP z5 zE zz) K Tryz.f60 0 jJ [1, 0, 1, 0, 0, 1, 1, 0, 0, 1, 1, 1, 1, 0] [n0] zz6 n = iter (fun k2 => ze7 (evV (vn zP z5 zE zz) K Tryz.f60 0 jJ [1, 0, 1, 0] [] zce n0) k2) n := zG fun n2 (v14, v15, v16, v55, v56, v57, o0) => by kernel_rfl
def zcf (L2 : ze5 → Option (Bool × Unit)) (k0 : vB → Option (Bool × Unit)) (k1 : ze6 → Option (Bool × Unit)) : ze6 → Option (Bool × Unit) := fun (v5, v14, v15, v16, v24, v25, v26, o0) =>
  bif decide (v26 < v25) then inR v26 ((List.length v24) : Int) (bif (ix vE v24 v26).2.2.1 == 3 then Option.bind (zE (v5, (ix vE v24 v26).2.2.2.1, ())) fun q1 => bif q1.1 then inR (ix vE v24 v26).2.2.2.1 ((List.length o0.2.2.2.2.1) : Int) (bif (List.getD o0.2.2.2.2.1 (Int.toNat (ix vE v24 v26).2.2.2.1) (zb zI)).2.2.2.1.2.2.1 != v26 then some (false, ()) else k1 (v5, v14, v15, v16, v24, v25, wI (v26 + 1), o0)) else some (false, ()) else k1 (v5, v14, v15, v16, v24, v25, wI (v26 + 1), o0)) else Option.bind (zz (v5, ())) fun q2 => L2 (v14, v15, v16, q2.1, ((List.length q2.1) : Int), 0, o0)
abbrev ze9 (K : Nat) (k0 : vB → Option (Bool × Unit)) : ze6 → Option (Bool × Unit) := iter (fun k1 => zcf zE zz (ze8 K k0) k0 k1) K
theorem zLO (K : Nat) (n0 : Nat) : ∀ n, evV (vn zP z5 zE zz) K Tryz.f60 0 jJ [1, 0, 1, 0, 0, 1, 1, 0, 0, 1, 1, 0, 1, 0] [n0] zz7 n = iter (fun k1 => zcf zE zz (ze8 K (evV (vn zP z5 zE zz) K Tryz.f60 0 jJ [1, 0, 1, 0] [] zce n0)) (evV (vn zP z5 zE zz) K Tryz.f60 0 jJ [1, 0, 1, 0] [] zce n0) k1) n := zeP (B := fun L2 k1 => zcf zE zz L2 (evV (vn zP z5 zE zz) K Tryz.f60 0 jJ [1, 0, 1, 0] [] zce n0) k1) (V1 := fun n1 => evV (vn zP z5 zE zz) K Tryz.f60 0 jJ [1, 0, 1, 0, 0, 1, 1, 0, 0, 1, 1, 1, 1, 0] [n0] zz6 K) (W1 := fun k1 => (ze8 K (evV (vn zP z5 zE zz) K Tryz.f60 0 jJ [1, 0, 1, 0] [] zce n0))) (fun n1 => zLN zP z5 zE zz K n0 K) fun n1 (v5, v14, v15, v16, v24, v25, v26, o0) => by kernel_rfl
def zcg (L1 : ze6 → Option (Bool × Unit)) (k0 : vB → Option (Bool × Unit)) : vB → Option (Bool × Unit) := fun (v14, v15, v16) =>
  bif decide (v16 < v15) then inR v16 ((List.length v14) : Int) (Option.bind (zP ((ix za v14 v16).2.2.2.2.1, some z5, ())) fun q0 => L1 (q0.1, v14, v15, v16, (ix za v14 v16).2.2.1, ((List.length (ix za v14 v16).2.2.1) : Int), 0, ix za v14 v16)) else some (true, ())
abbrev zz8 (K : Nat) : vB → Option (Bool × Unit) := iter (fun k0 => zcg zP z5 (ze9 zE zz K k0) k0) K
theorem zLP (K : Nat) : ∀ n, evV (vn zP z5 zE zz) K Tryz.f60 0 jJ [1, 0, 1, 0] [] zce n = iter (fun k0 => zcg zP z5 (ze9 zE zz K k0) k0) n := zeP (B := fun L1 k0 => zcg zP z5 L1 k0) (V1 := fun n0 => evV (vn zP z5 zE zz) K Tryz.f60 0 jJ [1, 0, 1, 0, 0, 1, 1, 0, 0, 1, 1, 0, 1, 0] [n0] zz7 K) (W1 := fun k0 => (ze9 zE zz K k0)) (fun n0 => zLO zP z5 zE zz K n0 K) fun n0 (v14, v15, v16) => by kernel_rfl
def zu2 (L0 : vB → Option (Bool × Unit)) : (qv × Unit) → Option (Bool × Unit) := fun (x0, ()) =>
  L0 (x0.2.1.2.1, ((List.length x0.2.1.2.1) : Int), 0)
theorem zPe (K : Nat) : evF (vn zP z5 zE zz) K Tryz.f60 0 ztT jJ = zu2 (zz8 zP z5 zE zz K) := tr1 (T := zu2) (zLP zP z5 zE zz K K) fun (x0, ()) => by kernel_rfl
end
def zeB : zEM := zu2 (zz8 jt vc qI jf K0)
theorem zPf : Sd Tryz.prog E0 (zrF zeB) := mkS (l := [zcG jt, znu vc, zdt qI, zbT jf]) ⟨zyv, zLL, zz5, zvC, trivial⟩ Tryz.func60 (by kernel_rfl) (zPe jt vc qI jf K0)
section
def zyy : ((List zp) × Unit) → Option ((List zp) × Unit) := fun (x0, ()) =>
  bif List.isEmpty x0 then both (some ([], ())) (bif decide (List.length (List.replicate 0 (zb zv)) + List.length x0 ≤ lim) then some (List.replicate 0 (zb zv) ++ x0, ()) else none) else bif decide (List.length (List.replicate 0 (zb zv)) + List.length x0 ≤ lim) then some (List.replicate 0 (zb zv) ++ x0, ()) else none
theorem zJR (K : Nat) : evF (En E0 false []) K Tryz.f66 1 zmK zmL = zyy := funext fun (x0, ()) => by kernel_rfl
end
def jX : zmM := zyy
theorem zyz : Sd Tryz.prog E0 (zcD jX) := mkS (l := []) trivial Tryz.func66 (by kernel_rfl) (zJR K0)
section
variable (qJ : zmM)
def zob : ((List zp) × ((Option ((zp × Unit) → Option (Bool × Unit))) × Unit)) → Option ((Option zaD) × Unit) := fun (x0, x1, ()) =>
  bif Option.isNone x1 then some (none, ()) else Option.bind (qJ (x0, ())) fun q0 => some (some (q0.1, x1, ()), ())
theorem zJS (K : Nat) : evF (En E0 false [zcD qJ]) K Tryz.f249 0 znQ znR = zob qJ := funext fun (x0, x1, ()) => by kernel_rfl
end
def zdL : zxt := zob jX
theorem zJT : Sd Tryz.prog E0 (zlK zdL) := mkS (l := [zcD jX]) ⟨zyz, trivial⟩ Tryz.func249 (by kernel_rfl) (zJS jX K0)
section
def zG9 : (zp × Unit) → Option (Bool × Unit) := fun (x0, ()) =>
  bif x0.1 then some (true, ()) else some (false, ())
theorem zRi (K : Nat) : evF (En E0 false []) K Tryz.f250 0 zxu zxv = zG9 := funext fun (x0, ()) => by kernel_rfl
end
def zgM : zGs := zG9
theorem zRj : Sd Tryz.prog E0 (zuB zgM) := mkS (l := []) trivial Tryz.func250 (by kernel_rfl) (zRi K0)
section
variable (zoc : zxt) (zyA : zGs)
def zD7 : ((List zp) × Unit) → Option ((Option zaD) × Unit) := fun (x0, ()) =>
  Option.bind (zoc (x0, some zyA, ())) fun q0 => some (q0.1, ())
theorem zUl (K : Nat) : evF (En E0 false [zlK zoc, zuB zyA]) K Tryz.f195 0 zDu zDv = zD7 zoc zyA := funext fun (x0, ()) => by kernel_rfl
end
def zkG : zK7 := zD7 zdL zgM
theorem zUm : Sd Tryz.prog E0 (zAZ zkG) := mkS (l := [zlK zdL, zuB zgM]) ⟨zJT, zRj, trivial⟩ Tryz.func195 (by kernel_rfl) (zUl zdL zgM K0)
section
def zyB : ((Option zaD) × Unit) → Option (Bool × Unit) := fun (x0, ()) =>
  bif Option.isSome x0 then Option.bind x0 fun q0 => bif Option.isSome q0.2.1 then some (true, ()) else some (false, ()) else some (false, ())
theorem zJU (K : Nat) : evF (En E0 false []) K Tryz.f251 0 znS znT = zyB := funext fun (x0, ()) => by kernel_rfl
end
def vQ : znU := zyB
theorem zyC : Sd Tryz.prog E0 (zcI vQ) := mkS (l := []) trivial Tryz.func251 (by kernel_rfl) (zJU K0)
section
variable (jw : znU)
def zqz : ((Option zaD) × (Int × Unit)) → Option (Bool × Unit) := fun (x0, x1, ()) =>
  Option.bind (jw (x0, ())) fun q0 => bif q0.1 then bif decide (x1 ≥ 0) then Option.bind x0 fun q1 => bif decide (x1 < ((List.length q1.1) : Int)) then Option.bind x0 fun q2 => Option.bind x0 fun q3 => inR x1 ((List.length q3.1) : Int) (Option.bind q2.2.1 fun q4 => Option.bind (q4 (ix jm q3.1 x1, ())) fun q5 => bif q5.1 then some (true, ()) else some (false, ())) else some (false, ()) else some (false, ()) else some (false, ())
theorem zLQ (K : Nat) : evF (En E0 false [zcI jw]) K Tryz.f252 0 zpW zpX = zqz jw := funext fun (x0, x1, ()) => by kernel_rfl
end
def zaO : zzV := zqz vQ
theorem zLR : Sd Tryz.prog E0 (znV zaO) := mkS (l := [zcI vQ]) ⟨zyC, trivial⟩ Tryz.func252 (by kernel_rfl) (zLQ vQ K0)
section
variable (jw : znU) (yr : zzV)
abbrev zvD : Env := (En E0 false [zcI jw, znV yr])
abbrev zbk : Type := (Option zaD) × Int × Int × List Int
abbrev zFL : zbk → St := fun (v0, v12, v13, o0) => St.mk [(0, AV.dat (Ty.ptr zbG) v0), (3, AV.ow 0), (12, AV.dat tI v12), (13, AV.dat tI v13)] [Obj.row tI o0 false]
def zbl (k0 : zbk → Option ((List Int) × Unit)) : zbk → Option ((List Int) × Unit) := fun (v0, v12, v13, o0) =>
  bif decide (v13 < v12) then Option.bind (yr (v0, v13, ())) fun q2 => bif q2.1 then bif decide (List.length o0 + List.length (zg (List.replicate 1 (0 : Int)) 0 v13) ≤ lim) then k0 (v0, v12, wI (v13 + 1), o0 ++ zg (List.replicate 1 (0 : Int)) 0 v13) else none else k0 (v0, v12, wI (v13 + 1), o0) else some (o0, ())
abbrev zrh (K : Nat) : zbk → Option ((List Int) × Unit) := iter (zbl yr) K
theorem zFM (K : Nat) : ∀ n, evV (zvD jw yr) K Tryz.f196 0 zf0 [1, 1, 1, 0, 1, 0] [] zFL n = iter (zbl yr) n := zG fun n0 (v0, v12, v13, o0) => by kernel_rfl
def zlX (L0 : zbk → Option ((List Int) × Unit)) : ((Option zaD) × Unit) → Option ((List Int) × Unit) := fun (x0, ()) =>
  Option.bind (jw (x0, ())) fun q0 => bif q0.1 then Option.bind x0 fun q1 => L0 (x0, ((List.length q1.1) : Int), 0, []) else some ([], ())
theorem zIe (K : Nat) : evF (zvD jw yr) K Tryz.f196 0 zlz zf0 = zlX jw (zrh yr K) := tr1 (T := zlX jw) (zFM jw yr K K) fun (x0, ()) => by kernel_rfl
end
def zcN : zvo := zlX vQ (zrh zaO K0)
theorem zIf : Sd Tryz.prog E0 (zjB zcN) := mkS (l := [zcI vQ, znV zaO]) ⟨zyC, zLR, trivial⟩ Tryz.func196 (by kernel_rfl) (zIe vQ zaO K0)
section
variable (zD8 : zK7) (zlY : zvo)
def zyD : ((List zp) × Unit) → Option ((List Int) × Unit) := fun (x0, ()) =>
  Option.bind (zD8 (x0, ())) fun q0 => Option.bind (zlY (q0.1, ())) fun q1 => some (q1.1, ())
theorem zRk (K : Nat) : evF (En E0 false [zAZ zD8, zjB zlY]) K Tryz.f118 0 zwI zwJ = zyD zD8 zlY := funext fun (x0, ()) => by kernel_rfl
end
def zgN : zGc := zyD zkG zcN
theorem zRl : Sd Tryz.prog E0 (zt4 zgN) := mkS (l := [zAZ zkG, zjB zcN]) ⟨zUm, zIf, trivial⟩ Tryz.func118 (by kernel_rfl) (zRk zkG zcN K0)
section
def zu3 : (zp × Unit) → Option (Int × Unit) := fun (x0, ()) =>
  bif x0.2.2.2.1 == 2 then some (x0.2.2.2.2.1, ()) else some (x0.2.2.2.2.2.1, ())
theorem zPg (K : Nat) : evF (En E0 false []) K Tryz.f119 0 zt5 zt6 = zu3 := funext fun (x0, ()) => by kernel_rfl
end
def zcy : zER := zu3
theorem zPh : Sd Tryz.prog E0 (zrU zcy) := mkS (l := []) trivial Tryz.func119 (by kernel_rfl) (zPg K0)
section
def zBM : (Int × (Int × Unit)) → Option (Int × (Int × Unit)) := fun (x0, x1, ()) =>
  bif decide (0 ≤ x0) then bif decide (0 ≤ x1) then bif decide (x1 < 18446744073709551616) then bif zC8 true x0 x1 != 0 then some (0, 7, ()) else bif decide (zAx true x0 x1 > 4611686018427387904) then some (0, 7, ()) else some (zAx true x0 x1, 0, ()) else none else none else none
theorem zSG (K : Nat) : evF (En E0 false []) K Tryz.f122 0 zAS zAT = zBM := funext fun (x0, x1, ()) => by kernel_rfl
end
def zfU : zII := zBM
theorem zSH : Sd Tryz.prog E0 (zwL zfU) := mkS (l := []) trivial Tryz.func122 (by kernel_rfl) (zSG K0)
section
variable (zdg : zII)
abbrev zLS : Env := (En E0 false [zwL zdg])
abbrev zkb : Type := Int × (List Int) × Int × Int
abbrev zRm : zkb → St := fun (v4, v9, v10, v11) => St.mk [(4, AV.dat tU v4), (9, AV.dat (Ty.sl tU) v9), (10, AV.dat tI v10), (11, AV.dat tI v11)] []
def zkc (k0 : zkb → Option (Int × (Int × Unit))) : zkb → Option (Int × (Int × Unit)) := fun (v4, v9, v10, v11) =>
  bif decide (v11 < v10) then inR v11 ((List.length v9) : Int) (Option.bind (zdg (v4, ix (0 : Int) v9 v11, ())) fun q0 => bif q0.2.1 != 0 then some (0, q0.2.1, ()) else k0 (q0.1, v9, v10, wI (v11 + 1))) else some (v4, 0, ())
abbrev zHa (K : Nat) : zkb → Option (Int × (Int × Unit)) := iter (zkc zdg) K
theorem zRn (K : Nat) : ∀ n, evV (zLS zdg) K Tryz.f46 0 zvR [1, 1, 0, 1, 0] [] zRm n = iter (zkc zdg) n := zG fun n0 (v4, v9, v10, v11) => by kernel_rfl
def zD9 (L0 : zkb → Option (Int × (Int × Unit))) : ((List Int) × Unit) → Option (Int × (Int × Unit)) := fun (x0, ()) =>
  L0 (0, x0, ((List.length x0) : Int), 0)
theorem zUn (K : Nat) : evF (zLS zdg) K Tryz.f46 0 zDs zvR = zD9 (zHa zdg K) := tr1 (T := zD9) (zRn zdg K K) fun (x0, ()) => by kernel_rfl
end
def jy : zoQ := zD9 (zHa zfU K0)
theorem zvX : Sd Tryz.prog E0 (zbH jy) := mkS (l := [zwL zfU]) ⟨zSH, trivial⟩ Tryz.func46 (by kernel_rfl) (zUn zfU K0)
section
variable (zx : zbS) (zdM : zGc) (za4 : zER) (zL : zoQ)
abbrev zIR : Env := (En E0 false [jb zx, zt4 zdM, zrU za4, zbH zL])
abbrev zh7 : Type := (List zp) × Int × (List Int) × Int × Int × List Int
abbrev zPi : zh7 → St := fun (v0, v1, v13, v14, v15, o0) => St.mk [(0, AV.dat (Ty.sl zv) v0), (1, AV.dat tI v1), (6, AV.ow 0), (13, AV.dat (Ty.sl tI) v13), (14, AV.dat tI v14), (15, AV.dat tI v15)] [Obj.row tU o0 false]
def zh8 (k0 : zh7 → Option (Int × (Int × Unit))) : zh7 → Option (Int × (Int × Unit)) := fun (v0, v1, v13, v14, v15, o0) =>
  bif decide (v15 < v14) then inR v15 ((List.length v13) : Int) (inR (ix (0 : Int) v13 v15) ((List.length v0) : Int) (Option.bind (za4 (List.getD v0 (Int.toNat (ix (0 : Int) v13 v15)) (zb zv), ())) fun q2 => bif q2.1 == v1 then inR (ix (0 : Int) v13 v15) ((List.length v0) : Int) (bif decide (List.length o0 + List.length (zg (List.replicate 1 (0 : Int)) 0 (List.getD v0 (Int.toNat (ix (0 : Int) v13 v15)) (zb zv)).2.2.2.2.2.2.2.2.1) ≤ lim) then k0 (v0, v1, v13, v14, wI (v15 + 1), o0 ++ zg (List.replicate 1 (0 : Int)) 0 (List.getD v0 (Int.toNat (ix (0 : Int) v13 v15)) (zb zv)).2.2.2.2.2.2.2.2.1) else none) else k0 (v0, v1, v13, v14, wI (v15 + 1), o0))) else Option.bind (zL (o0, ())) fun q3 => some (q3.1, q3.2.1, ())
abbrev zFc (K : Nat) : zh7 → Option (Int × (Int × Unit)) := iter (zh8 za4 zL) K
theorem zPj (K : Nat) : ∀ n, evV (zIR zx zdM za4 zL) K Tryz.f44 0 zsW [1, 1, 1, 0, 1, 0] [] zPi n = iter (zh8 za4 zL) n := zG fun n0 (v0, v1, v13, v14, v15, o0) => by kernel_rfl
def zsZ (L0 : zh7 → Option (Int × (Int × Unit))) : ((List zp) × (Int × Unit)) → Option (Int × (Int × Unit)) := fun (x0, x1, ()) =>
  Option.bind (zx (x1, ())) fun q0 => bif q0.1 then Option.bind (zdM (x0, ())) fun q1 => L0 (x0, x1, q1.1, ((List.length q1.1) : Int), 0, []) else some (0, 1, ())
theorem zSI (K : Nat) : evF (zIR zx zdM za4 zL) K Tryz.f44 0 zAM zsW = zsZ zx zdM (zFc za4 zL K) := tr1 (T := zsZ zx zdM) (zPj zx zdM za4 zL K K) fun (x0, x1, ()) => by kernel_rfl
end
def zil : zIG := zsZ qb zgN (zFc zcy jy K0)
theorem zSJ : Sd Tryz.prog E0 (zwx zil) := mkS (l := [jb qb, zt4 zgN, zrU zcy, zbH jy]) ⟨zdJ, zRl, zPh, zvX, trivial⟩ Tryz.func44 (by kernel_rfl) (zSI qb zgN zcy jy K0)
section
def zFd : (zq × Unit) → Option (Bool × Unit) := fun (x0, ()) =>
  bif x0.1 then some (true, ()) else some (false, ())
theorem zPk (K : Nat) : evF (En E0 false []) K Tryz.f197 0 zuq zur = zFd := funext fun (x0, ()) => by kernel_rfl
end
def zeC : zEY := zFd
theorem zPl : Sd Tryz.prog E0 (zr5 zeC) := mkS (l := []) trivial Tryz.func197 (by kernel_rfl) (zPk K0)
section
variable (zP : znt) (zu4 : zEY)
def zBN : ((List zq) × Unit) → Option ((Option yU) × Unit) := fun (x0, ()) =>
  Option.bind (zP (x0, some zu4, ())) fun q0 => some (q0.1, ())
theorem zSK (K : Nat) : evF (En E0 false [zcG zP, zr5 zu4]) K Tryz.f120 0 zAQ zAR = zBN zP zu4 := funext fun (x0, ()) => by kernel_rfl
end
def zim : zIH := zBN jt zeC
theorem zSL : Sd Tryz.prog E0 (zwK zim) := mkS (l := [zcG jt, zr5 zeC]) ⟨zyv, zPl, trivial⟩ Tryz.func120 (by kernel_rfl) (zSK jt zeC K0)
section
variable (zx : zbS) (zfV : zIH) (zz : zlc) (zL : zoQ)
abbrev zHb : Env := (En E0 false [jb zx, zwK zfV, zbT zz, zbH zL])
abbrev zgO : Type := (List zq) × Int × (List Int) × Int × Int × List Int
abbrev zNx : zgO → St := fun (v0, v1, v14, v15, v16, o0) => St.mk [(0, AV.dat (Ty.sl zI) v0), (1, AV.dat tI v1), (6, AV.ow 0), (14, AV.dat (Ty.sl tI) v14), (15, AV.dat tI v15), (16, AV.dat tI v16)] [Obj.row tU o0 false]
def zgP (k0 : zgO → Option (Int × (Int × Unit))) : zgO → Option (Int × (Int × Unit)) := fun (v0, v1, v14, v15, v16, o0) =>
  bif decide (v16 < v15) then inR v16 ((List.length v14) : Int) (inR (ix (0 : Int) v14 v16) ((List.length v0) : Int) (bif (List.getD v0 (Int.toNat (ix (0 : Int) v14 v16)) (zb zI)).2.2.2.1.1 == v1 then inR (ix (0 : Int) v14 v16) ((List.length v0) : Int) (bif decide (List.length o0 + List.length (zg (List.replicate 1 (0 : Int)) 0 (List.getD v0 (Int.toNat (ix (0 : Int) v14 v16)) (zb zI)).2.2.2.1.2.1) ≤ lim) then k0 (v0, v1, v14, v15, wI (v16 + 1), o0 ++ zg (List.replicate 1 (0 : Int)) 0 (List.getD v0 (Int.toNat (ix (0 : Int) v14 v16)) (zb zI)).2.2.2.1.2.1) else none) else k0 (v0, v1, v14, v15, wI (v16 + 1), o0))) else Option.bind (zL (o0, ())) fun q3 => some (q3.1, q3.2.1, ())
abbrev zCI (K : Nat) : zgO → Option (Int × (Int × Unit)) := iter (zgP zL) K
theorem zNy (K : Nat) : ∀ n, evV (zHb zx zfV zz zL) K Tryz.f45 0 zoP [1, 1, 1, 0, 1, 0] [] zNx n = iter (zgP zL) n := zG fun n0 (v0, v1, v14, v15, v16, o0) => by kernel_rfl
def zqA (L0 : zgO → Option (Int × (Int × Unit))) : ((List zq) × (Int × Unit)) → Option (Int × (Int × Unit)) := fun (x0, x1, ()) =>
  Option.bind (zx (x1, ())) fun q0 => bif q0.1 then Option.bind (zfV (x0, ())) fun q1 => Option.bind (zz (q1.1, ())) fun q2 => L0 (x0, x1, q2.1, ((List.length q2.1) : Int), 0, []) else some (0, 1, ())
theorem zRo (K : Nat) : evF (zHb zx zfV zz zL) K Tryz.f45 0 zwy zoP = zqA zx zfV zz (zCI zL K) := tr1 (T := zqA zx zfV zz) (zNy zx zfV zz zL K K) fun (x0, x1, ()) => by kernel_rfl
end
def zdN : zF9 := zqA qb zim jf (zCI jy K0)
theorem zRp : Sd Tryz.prog E0 (ztN zdN) := mkS (l := [jb qb, zwK zim, zbT jf, zbH jy]) ⟨zdJ, zSL, zvC, zvX, trivial⟩ Tryz.func45 (by kernel_rfl) (zRo qb zim jf jy K0)
section
variable (zx : zbS) (yO : zIG) (vb : zF9) (zL : zoQ)
abbrev zkd : Env := (En E0 false [jb zx, zwx yO, ztN vb, zbH zL])
abbrev zgQ : Type := Int × (List zm) × Int × Int × (List (List Int)) × Int × Int × List Int
abbrev zCJ : zgQ → St := fun (v1, v31, v32, v33, v52, v53, v54, o0) => St.mk [(1, AV.dat tI v1), (8, AV.ow 0), (31, AV.dat (Ty.sl zl) v31), (32, AV.dat tI v32), (33, AV.dat tI v33), (52, AV.dat (Ty.sl (Ty.arr 4 tU)) v52), (53, AV.dat tI v53), (54, AV.dat tI v54)] [Obj.row tU o0 false]
abbrev zbA : Type := Int × (List zm) × Int × Int × List Int
abbrev zCK : zbA → St := fun (v1, v31, v32, v33, o0) => St.mk [(1, AV.dat tI v1), (8, AV.ow 0), (31, AV.dat (Ty.sl zl) v31), (32, AV.dat tI v32), (33, AV.dat tI v33)] [Obj.row tU o0 false]
def zgR (k0 : zbA → Option (Int × (Int × Unit))) (k1 : zgQ → Option (Int × (Int × Unit))) : zgQ → Option (Int × (Int × Unit)) := fun (v1, v31, v32, v33, v52, v53, v54, o0) =>
  bif decide (v54 < v53) then inR v54 ((List.length v52) : Int) (inR v1 (↑4 : Int) (bif decide (List.length o0 + List.length (zg (List.replicate 1 (0 : Int)) 0 (List.getD (List.getD v52 (Int.toNat v54) (zb (Ty.arr 4 tU))) (Int.toNat v1) (0 : Int))) ≤ lim) then k1 (v1, v31, v32, v33, v52, v53, wI (v54 + 1), o0 ++ zg (List.replicate 1 (0 : Int)) 0 (List.getD (List.getD v52 (Int.toNat v54) (zb (Ty.arr 4 tU))) (Int.toNat v1) (0 : Int))) else none)) else k0 (v1, v31, v32, wI (v33 + 1), o0)
abbrev zgS (K : Nat) (k0 : zbA → Option (Int × (Int × Unit))) : zgQ → Option (Int × (Int × Unit)) := iter (fun k1 => zgR k0 k1) K
theorem zNz (K : Nat) (n0 : Nat) : ∀ n, evV (zkd zx yO vb zL) K Tryz.f13 0 zdr [1, 1, 1, 1, 1, 0, 1, 0, 0, 1, 1, 0, 0, 1, 1, 1, 1, 1, 0] [n0] zCJ n = iter (fun k1 => zgR (evV (zkd zx yO vb zL) K Tryz.f13 0 zdr [1, 1, 1, 1, 1, 0, 1, 0] [] zCK n0) k1) n := zG fun n1 (v1, v31, v32, v33, v52, v53, v54, o0) => by kernel_rfl
def zdm (L1 : zgQ → Option (Int × (Int × Unit))) (k0 : zbA → Option (Int × (Int × Unit))) : zbA → Option (Int × (Int × Unit)) := fun (v1, v31, v32, v33, o0) =>
  bif decide (v33 < v32) then inR v33 ((List.length v31) : Int) (Option.bind (vb ((ix za v31 v33).2.2.2.2.1, v1, ())) fun q2 => bif q2.2.1 != 0 then some (0, q2.2.1, ()) else bif decide (List.length o0 + List.length (zg (List.replicate 1 (0 : Int)) 0 q2.1) ≤ lim) then L1 (v1, v31, v32, v33, (ix za v31 v33).2.2.2.2.2.1, ((List.length (ix za v31 v33).2.2.2.2.2.1) : Int), 0, o0 ++ zg (List.replicate 1 (0 : Int)) 0 q2.1) else none) else Option.bind (zL (o0, ())) fun q3 => some (q3.1, q3.2.1, ())
abbrev zCL (K : Nat) : zbA → Option (Int × (Int × Unit)) := iter (fun k0 => zdm vb zL (zgS K k0) k0) K
theorem zNA (K : Nat) : ∀ n, evV (zkd zx yO vb zL) K Tryz.f13 0 zdr [1, 1, 1, 1, 1, 0, 1, 0] [] zCK n = iter (fun k0 => zdm vb zL (zgS K k0) k0) n := zeP (B := fun L1 k0 => zdm vb zL L1 k0) (V1 := fun n0 => evV (zkd zx yO vb zL) K Tryz.f13 0 zdr [1, 1, 1, 1, 1, 0, 1, 0, 0, 1, 1, 0, 0, 1, 1, 1, 1, 1, 0] [n0] zCJ K) (W1 := fun k0 => (zgS K k0)) (fun n0 => zNz zx yO vb zL K n0 K) fun n0 (v1, v31, v32, v33, o0) => by kernel_rfl
def zqB (L0 : zbA → Option (Int × (Int × Unit))) : (zr × (Int × Unit)) → Option (Int × (Int × Unit)) := fun (x0, x1, ()) =>
  Option.bind (zx (x1, ())) fun q0 => bif q0.1 then Option.bind (yO (x0.2.2.2.1, x1, ())) fun q1 => bif q1.2.1 != 0 then some (0, q1.2.1, ()) else L0 (x1, x0.2.1, ((List.length x0.2.1) : Int), 0, [q1.1]) else some (0, 1, ())
theorem zRq (K : Nat) : evF (zkd zx yO vb zL) K Tryz.f13 0 zwp zdr = zqB zx yO (zCL vb zL K) := tr1 (T := zqB zx yO) (zNA zx yO vb zL K K) fun (x0, x1, ()) => by kernel_rfl
end
def qO : zoN := zqB qb zil (zCL zdN jy K0)
theorem zyE : Sd Tryz.prog E0 (zcq qO) := mkS (l := [jb qb, zwx zil, ztN zdN, zbH jy]) ⟨zdJ, zSJ, zRp, zvX, trivial⟩ Tryz.func13 (by kernel_rfl) (zRq qb zil zdN jy K0)
section
variable (zL : zoQ)
abbrev zCM : Env := (En E0 false [zbH zL])
abbrev zdO : Type := Int × (Option ((zm × Unit) → Option ((List Int) × Unit))) × (List zm) × Int × Int × List Int
abbrev zJV : zdO → St := fun (v1, v2, v12, v13, v14, o0) => St.mk [(1, AV.dat tI v1), (2, AV.dat (Ty.fn (Ty.pair zl Ty.unit) (Ty.pair (Ty.arr 4 tU) Ty.unit)) v2), (8, AV.ow 0), (12, AV.dat (Ty.sl zl) v12), (13, AV.dat tI v13), (14, AV.dat tI v14)] [Obj.row tU o0 false]
def zdP (k0 : zdO → Option (Int × (Int × Unit))) : zdO → Option (Int × (Int × Unit)) := fun (v1, v2, v12, v13, v14, o0) =>
  bif decide (v14 < v13) then inR v14 ((List.length v12) : Int) (Option.bind v2 fun q0 => Option.bind (q0 (ix za v12 v14, ())) fun q1 => inR v1 (↑4 : Int) (bif decide (List.length o0 + List.length (zg (List.replicate 1 (0 : Int)) 0 (ix (0 : Int) q1.1 v1)) ≤ lim) then k0 (v1, v2, v12, v13, wI (v14 + 1), o0 ++ zg (List.replicate 1 (0 : Int)) 0 (ix (0 : Int) q1.1 v1)) else none)) else Option.bind (zL (o0, ())) fun q2 => some (q2.1, q2.2.1, ())
abbrev zyF (K : Nat) : zdO → Option (Int × (Int × Unit)) := iter (zdP zL) K
theorem zJW (K : Nat) : ∀ n, evV (zCM zL) K Tryz.f50 0 zkr [1, 1, 0, 1, 0] [] zJV n = iter (zdP zL) n := zG fun n0 (v1, v2, v12, v13, v14, o0) => by kernel_rfl
def zsC (L0 : zdO → Option (Int × (Int × Unit))) : (zr × (Int × ((Option ((zm × Unit) → Option ((List Int) × Unit))) × Unit))) → Option (Int × (Int × Unit)) := fun (x0, x1, x2, ()) =>
  L0 (x1, x2, x0.2.1, ((List.length x0.2.1) : Int), 0, [])
theorem zNB (K : Nat) : evF (zCM zL) K Tryz.f50 0 zru zkr = zsC (zyF zL K) := tr1 (T := zsC) (zJW zL K K) fun (x0, x1, x2, ()) => by kernel_rfl
end
def zgT : zB3 := zsC (zyF jy K0)
theorem zNC : Sd Tryz.prog E0 (zoR zgT) := mkS (l := [zbH jy]) ⟨zvX, trivial⟩ Tryz.func50 (by kernel_rfl) (zNB jy K0)
end
end Go.Proofs.YtaokpakfhdeiiaaGreatDoor
end
section
namespace Go.Proofs.YtaokpakfhdeiiaaGreatDoor
open Go.Ev
set_option linter.unusedVariables false
noncomputable section
section
def zCN : (zm × Unit) → Option ((List Int) × Unit) := fun (x0, ()) =>
  some (x0.2.2.2.2.2.2.2.1, ())
theorem zND (K : Nat) : evF (En E0 false []) K Tryz.f51 0 zrv zrw = zCN := funext fun (x0, ()) => by kernel_rfl
end
def zgU : zB4 := zCN
theorem zNE : Sd Tryz.prog E0 (zoS zgU) := mkS (l := []) trivial Tryz.func51 (by kernel_rfl) (zND K0)
section
def zCO : (zm × Unit) → Option ((List Int) × Unit) := fun (x0, ()) =>
  some (x0.2.2.2.2.2.2.2.2.1, ())
theorem zNF (K : Nat) : evF (En E0 false []) K Tryz.f52 0 zrx zry = zCO := funext fun (x0, ()) => by kernel_rfl
end
def zgV : zB5 := zCO
theorem zNG : Sd Tryz.prog E0 (zoT zgV) := mkS (l := []) trivial Tryz.func52 (by kernel_rfl) (zNF K0)
section
def zyG : (Int × (Int × Unit)) → Option (Int × (Int × Unit)) := fun (x0, x1, ()) =>
  bif decide (0 ≤ x0) then bif decide (0 ≤ x1) then bif decide (x1 < 18446744073709551616) then bif zC8 false x0 x1 != 0 then some (0, 6, ()) else some (zAx false x0 x1, 0, ()) else none else none else none
theorem zRr (K : Nat) : evF (En E0 false []) K Tryz.f53 0 zwz zwA = zyG := funext fun (x0, x1, ()) => by kernel_rfl
end
def zgW : zGa := zyG
theorem zRs : Sd Tryz.prog E0 (ztO zgW) := mkS (l := []) trivial Tryz.func53 (by kernel_rfl) (zRr K0)
section
variable (zx : zbS) (zkH : zB3) (zsD : zB4) (zsE : zB5) (zyH : zGa)
def zyI : (zr × (Int × Unit)) → Option (Int × (Int × Unit)) := fun (x0, x1, ()) =>
  Option.bind (zx (x1, ())) fun q0 => bif q0.1 then Option.bind (zkH (x0, x1, some zsD, ())) fun q1 => bif q1.2.1 != 0 then some (0, q1.2.1, ()) else Option.bind (zkH (x0, x1, some zsE, ())) fun q2 => bif q2.2.1 != 0 then some (0, q2.2.1, ()) else Option.bind (zyH (q1.1, q2.1, ())) fun q3 => some (q3.1, q3.2.1, ()) else some (0, 1, ())
theorem zRt (K : Nat) : evF (En E0 false [jb zx, zoR zkH, zoS zsD, zoT zsE, ztO zyH]) K Tryz.f15 0 zwq zwr = zyI zx zkH zsD zsE zyH := funext fun (x0, x1, ()) => by kernel_rfl
end
def qP : zoO := zyI qb zgT zgU zgV zgW
theorem zyJ : Sd Tryz.prog E0 (zcr qP) := mkS (l := [jb qb, zoR zgT, zoS zgU, zoT zgV, ztO zgW]) ⟨zdJ, zNC, zNE, zNG, zRs, trivial⟩ Tryz.func15 (by kernel_rfl) (zRt qb zgT zgU zgV zgW K0)
section
variable (zj : zoN) (zk : zoO)
abbrev zh9 : Env := (En E0 false [zcq zj, zcr zk])
abbrev zfa : Type := Int × Int × (List zm) × Int × Int × qv
abbrev zz9 : zfa → St := fun (v3, v10, v15, v16, v17, o0) => St.mk [(1, AV.bp 0 []), (3, AV.dat tI v3), (10, AV.dat tI v10), (15, AV.dat (Ty.sl zl) v15), (16, AV.dat tI v16), (17, AV.dat tI v17)] [Obj.bx (AV.dat qF o0) false]
abbrev zaP : Type := Int × qv
abbrev zAa : zaP → St := fun (v10, o0) => St.mk [(1, AV.bp 0 []), (10, AV.dat tI v10)] [Obj.bx (AV.dat qF o0) false]
def zfb (k0 : zaP → Option (Bool × Unit)) (k1 : zfa → Option (Bool × Unit)) : zfa → Option (Bool × Unit) := fun (v3, v10, v15, v16, v17, o0) =>
  bif decide (v17 < v16) then inR v17 ((List.length v15) : Int) (inR v3 (↑4 : Int) (inR v17 ((List.length o0.1.2.2.2.2.1) : Int) (bif decide (List.getD (ix za v15 v17).2.2.2.2.2.2.2.1 (Int.toNat v3) (0 : Int) > (ix zbf o0.1.2.2.2.2.1 v17).2.2.2.2.2.1) then some (false, ()) else k1 (v3, v10, v15, v16, wI (v17 + 1), o0)))) else Option.bind (zj (o0.2.1, v3, ())) fun q0 => Option.bind (zk (o0.2.1, v3, ())) fun q1 => bif q0.2.1 != 0 then some (false, ()) else bif q1.2.1 != 0 then some (false, ()) else bif q0.1 != q1.1 then some (false, ()) else k0 (wI (v10 + 1), o0)
abbrev zfc (K : Nat) (k0 : zaP → Option (Bool × Unit)) : zfa → Option (Bool × Unit) := iter (fun k1 => zfb zj zk k0 k1) K
theorem zLT (K : Nat) (n0 : Nat) : ∀ n, evV (zh9 zj zk) K Tryz.f61 0 zcs [1, 0, 1, 0, 0, 1, 1, 0, 0, 1, 0, 1, 0] [n0] zz9 n = iter (fun k1 => zfb zj zk (evV (zh9 zj zk) K Tryz.f61 0 zcs [1, 0, 1, 0] [] zAa n0) k1) n := zG fun n1 (v3, v10, v15, v16, v17, o0) => by kernel_rfl
def zfd (L1 : zfa → Option (Bool × Unit)) (k0 : zaP → Option (Bool × Unit)) : zaP → Option (Bool × Unit) := fun (v10, o0) =>
  bif decide (v10 < 4) then L1 (v10, v10, o0.2.1.2.1, ((List.length o0.2.1.2.1) : Int), 0, o0) else some (true, ())
abbrev zAb (K : Nat) : zaP → Option (Bool × Unit) := iter (fun k0 => zfd (zfc zj zk K k0) k0) K
theorem zLU (K : Nat) : ∀ n, evV (zh9 zj zk) K Tryz.f61 0 zcs [1, 0, 1, 0] [] zAa n = iter (fun k0 => zfd (zfc zj zk K k0) k0) n := zeP (B := fun L1 k0 => zfd L1 k0) (V1 := fun n0 => evV (zh9 zj zk) K Tryz.f61 0 zcs [1, 0, 1, 0, 0, 1, 1, 0, 0, 1, 0, 1, 0] [n0] zz9 K) (W1 := fun k0 => (zfc zj zk K k0)) (fun n0 => zLT zj zk K n0 K) fun n0 (v10, o0) => by kernel_rfl
def zu5 (L0 : zaP → Option (Bool × Unit)) : (qv × Unit) → Option (Bool × Unit) := fun (x0, ()) =>
  L0 (0, x0)
theorem zPm (K : Nat) : evF (zh9 zj zk) K Tryz.f61 0 ztU zcs = zu5 (zAb zj zk K) := tr1 (T := zu5) (zLU zj zk K K) fun (x0, ()) => by kernel_rfl
end
def zeD : zEN := zu5 (zAb qO qP K0)
theorem zPn : Sd Tryz.prog E0 (zrG zeD) := mkS (l := [zcq qO, zcr qP]) ⟨zyE, zyJ, trivial⟩ Tryz.func61 (by kernel_rfl) (zPm qO qP K0)
section
variable (za5 : zEJ) (za6 : zEK) (zap : zB6) (za7 : zEL) (zaq : zB7) (za8 : zEM) (za9 : zEN)
abbrev zFe : Env := (En E0 false [zrz za5, zrA za6, zoU zap, zrD za7, zoV zaq, zrF za8, zrG za9])
abbrev zfe : Type := Bool × Int × Int × List (Option (Unit → Option (Bool × Unit)))
abbrev zLV : zfe → St := fun (v6, v27, v28, o0) => St.mk [(6, AV.dat Ty.bool v6), (26, AV.ow 0), (27, AV.dat tI v27), (28, AV.dat tI v28)] [Obj.row (Ty.fn Ty.unit (Ty.pair Ty.bool Ty.unit)) o0 false]
def zjf (k0 : zfe → Option (Bool × Unit)) : zfe → Option (Bool × Unit) := fun (v6, v27, v28, o0) =>
  bif decide (v28 < v27) then inR v28 ((List.length o0) : Int) (Option.bind (List.getD o0 (Int.toNat v28) (zb (Ty.fn Ty.unit (Ty.pair Ty.bool Ty.unit)))) fun q0 => Option.bind (q0 ()) fun q1 => bif q1.1 then k0 (true, v27, wI (v28 + 1), o0) else some (false, ())) else some (v6, ())
abbrev zAc (K : Nat) : zfe → Option (Bool × Unit) := iter (zjf) K
theorem zLW (K : Nat) : ∀ n, evV (zFe za5 za6 zap za7 zaq za8 za9) K Tryz.f17 0 zmt [1, 0, 1, 1, 1, 0, 1, 0] [] zLV n = iter (zjf) n := zG fun n0 (v6, v27, v28, o0) => by kernel_rfl
def zu6 (L0 : zfe → Option (Bool × Unit)) : (zf × (zr × Unit)) → Option (Bool × Unit) := fun (x0, x1, ()) =>
  L0 (true, ((List.length (zg (zg (zg (zg (zg (zg (zg (List.replicate 7 (zb (Ty.fn Ty.unit (Ty.pair Ty.bool Ty.unit)))) 0 (some fun z => za5 ((x0, x1, (zb qF).2.2), ()))) 1 (some fun z => za6 ((x0, x1, (zb qF).2.2), ()))) 2 (some fun z => zap ((x0, x1, (zb qF).2.2), ()))) 3 (some fun z => za7 ((x0, x1, (zb qF).2.2), ()))) 4 (some fun z => zaq ((x0, x1, (zb qF).2.2), ()))) 5 (some fun z => za8 ((x0, x1, (zb qF).2.2), ()))) 6 (some fun z => za9 ((x0, x1, (zb qF).2.2), ())))) : Int), 0, [some fun z => za5 ((x0, x1, (zb qF).2.2), ()), some fun z => za6 ((x0, x1, (zb qF).2.2), ()), some fun z => zap ((x0, x1, (zb qF).2.2), ()), some fun z => za7 ((x0, x1, (zb qF).2.2), ()), some fun z => zaq ((x0, x1, (zb qF).2.2), ()), some fun z => za8 ((x0, x1, (zb qF).2.2), ()), some fun z => za9 ((x0, x1, (zb qF).2.2), ())])
theorem zPo (K : Nat) : evF (zFe za5 za6 zap za7 zaq za8 za9) K Tryz.f17 0 ztE zmt = zu6 za5 za6 zap za7 zaq za8 za9 (zAc K) := tr1 (T := zu6 za5 za6 zap za7 zaq za8 za9) (zLW za5 za6 zap za7 zaq za8 za9 K K) fun (x0, x1, ()) => by kernel_rfl
end
def qM : zhZ := zu6 zcv zcw zbx zeA zbz zeB zeD (zAc K0)
theorem zmC : Sd Tryz.prog E0 (vU qM) := mkS (l := [zrz zcv, zrA zcw, zoU zbx, zrD zeA, zoV zbz, zrF zeB, zrG zeD]) ⟨zOV, zO3, zNu, zPd, zNw, zPf, zPn, trivial⟩ Tryz.func17 (by kernel_rfl) (zPo zcv zcw zbx zeA zbz zeB zeD K0)
section
variable (zn : zhZ) (vm : zmx)
def zsF : (zf × (zr × (qz × Unit))) → Option (Bool × Unit) := fun (x0, x1, x2, ()) =>
  Option.bind (zn (x0, x1, ())) fun q0 => bif q0.1 then Option.bind (vm (x1, x2, ())) fun q1 => bif q1.1 then some (true, ()) else some (false, ()) else some (false, ())
theorem zNH (K : Nat) : evF (En E0 false [vU zn, zbp vm]) K Tryz.f18 0 zro zrp = zsF zn vm := funext fun (x0, x1, x2, ()) => by kernel_rfl
end
def qj : zrq := zsF qM j6
theorem zCP : Sd Tryz.prog E0 (zeR qj) := mkS (l := [vU qM, zbp j6]) ⟨zmC, zuY, trivial⟩ Tryz.func18 (by kernel_rfl) (zNH qM j6 K0)
section
def zyK : ((List zK) × Unit) → Option ((List zK) × Unit) := fun (x0, ()) =>
  bif List.isEmpty x0 then both (some ([], ())) (bif decide (List.length (List.replicate 0 (zb zF)) + List.length x0 ≤ lim) then some (List.replicate 0 (zb zF) ++ x0, ()) else none) else bif decide (List.length (List.replicate 0 (zb zF)) + List.length x0 ≤ lim) then some (List.replicate 0 (zb zF) ++ x0, ()) else none
theorem zJX (K : Nat) : evF (En E0 false []) K Tryz.f67 1 zmN zmO = zyK := funext fun (x0, ()) => by kernel_rfl
end
def zbB : zwB := zyK
theorem zJY : Sd Tryz.prog E0 (zk4 zbB) := mkS (l := []) trivial Tryz.func67 (by kernel_rfl) (zJX K0)
section
def zCQ : ((List Int) × Unit) → Option ((List Int) × Unit) := fun (x0, ()) =>
  bif List.isEmpty x0 then both (some ([], ())) (bif decide (List.length (List.replicate 0 (0 : Int)) + List.length x0 ≤ lim) then some (List.replicate 0 (0 : Int) ++ x0, ()) else none) else bif decide (List.length (List.replicate 0 (0 : Int)) + List.length x0 ≤ lim) then some (List.replicate 0 (0 : Int) ++ x0, ()) else none
theorem zNI (K : Nat) : evF (En E0 false []) K Tryz.f68 1 zrK zrL = zCQ := funext fun (x0, ()) => by kernel_rfl
end
def zar : zB9 := zCQ
theorem zNJ : Sd Tryz.prog E0 (zoX zar) := mkS (l := []) trivial Tryz.func68 (by kernel_rfl) (zNI K0)
section
def zAd : ((List (List Int)) × Unit) → Option ((List (List Int)) × Unit) := fun (x0, ()) =>
  bif List.isEmpty x0 then both (some ([], ())) (bif decide (List.length (List.replicate 0 ([] : List Int)) + List.length x0 ≤ lim) then some (List.replicate 0 ([] : List Int) ++ x0, ()) else none) else bif decide (List.length (List.replicate 0 ([] : List Int)) + List.length x0 ≤ lim) then some (List.replicate 0 ([] : List Int) ++ x0, ()) else none
theorem zLX (K : Nat) : evF (En E0 false []) K Tryz.f69 1 zoY zoZ = zAd := funext fun (x0, ()) => by kernel_rfl
end
def zch : zzC := zAd
theorem zLY : Sd Tryz.prog E0 (zmP zch) := mkS (l := []) trivial Tryz.func69 (by kernel_rfl) (zLX K0)
section
def zyL : ((List zm) × Unit) → Option ((List zm) × Unit) := fun (x0, ()) =>
  bif List.isEmpty x0 then both (some ([], ())) (bif decide (List.length (List.replicate 0 (zb zl)) + List.length x0 ≤ lim) then some (List.replicate 0 (zb zl) ++ x0, ()) else none) else bif decide (List.length (List.replicate 0 (zb zl)) + List.length x0 ≤ lim) then some (List.replicate 0 (zb zl) ++ x0, ()) else none
theorem zJZ (K : Nat) : evF (En E0 false []) K Tryz.f70 1 zmQ zmR = zyL := funext fun (x0, ()) => by kernel_rfl
end
def zbC : zwC := zyL
theorem zJ0 : Sd Tryz.prog E0 (zk5 zbC) := mkS (l := []) trivial Tryz.func70 (by kernel_rfl) (zJZ K0)
section
def zAe : ((List jM) × Unit) → Option ((List jM) × Unit) := fun (x0, ()) =>
  bif List.isEmpty x0 then both (some ([], ())) (bif decide (List.length (List.replicate 0 (zb je)) + List.length x0 ≤ lim) then some (List.replicate 0 (zb je) ++ x0, ()) else none) else bif decide (List.length (List.replicate 0 (zb je)) + List.length x0 ≤ lim) then some (List.replicate 0 (zb je) ++ x0, ()) else none
theorem zLZ (K : Nat) : evF (En E0 false []) K Tryz.f71 1 zo0 zo1 = zAe := funext fun (x0, ()) => by kernel_rfl
end
def zci : zzD := zAe
theorem zL0 : Sd Tryz.prog E0 (zmS zci) := mkS (l := []) trivial Tryz.func71 (by kernel_rfl) (zLZ K0)
section
def zAf : ((List z9) × Unit) → Option ((List z9) × Unit) := fun (x0, ()) =>
  bif List.isEmpty x0 then both (some ([], ())) (bif decide (List.length (List.replicate 0 (zb qq)) + List.length x0 ≤ lim) then some (List.replicate 0 (zb qq) ++ x0, ()) else none) else bif decide (List.length (List.replicate 0 (zb qq)) + List.length x0 ≤ lim) then some (List.replicate 0 (zb qq) ++ x0, ()) else none
theorem zL1 (K : Nat) : evF (En E0 false []) K Tryz.f72 1 zo2 zo3 = zAf := funext fun (x0, ()) => by kernel_rfl
end
def zcj : zzE := zAf
theorem zL2 : Sd Tryz.prog E0 (zmT zcj) := mkS (l := []) trivial Tryz.func72 (by kernel_rfl) (zL1 K0)
section
def zAg : ((List zW) × Unit) → Option ((List zW) × Unit) := fun (x0, ()) =>
  bif List.isEmpty x0 then both (some ([], ())) (bif decide (List.length (List.replicate 0 (zb qi)) + List.length x0 ≤ lim) then some (List.replicate 0 (zb qi) ++ x0, ()) else none) else bif decide (List.length (List.replicate 0 (zb qi)) + List.length x0 ≤ lim) then some (List.replicate 0 (zb qi) ++ x0, ()) else none
theorem zL3 (K : Nat) : evF (En E0 false []) K Tryz.f73 1 zo4 zo5 = zAg := funext fun (x0, ()) => by kernel_rfl
end
def zck : zzF := zAg
theorem zL4 : Sd Tryz.prog E0 (zmU zck) := mkS (l := []) trivial Tryz.func73 (by kernel_rfl) (zL3 K0)
section
def zAh : ((List qr) × Unit) → Option ((List qr) × Unit) := fun (x0, ()) =>
  bif List.isEmpty x0 then both (some ([], ())) (bif decide (List.length (List.replicate 0 (zb qB)) + List.length x0 ≤ lim) then some (List.replicate 0 (zb qB) ++ x0, ()) else none) else bif decide (List.length (List.replicate 0 (zb qB)) + List.length x0 ≤ lim) then some (List.replicate 0 (zb qB) ++ x0, ()) else none
theorem zL5 (K : Nat) : evF (En E0 false []) K Tryz.f74 1 zo6 zo7 = zAh := funext fun (x0, ()) => by kernel_rfl
end
def zcl : zzG := zAh
theorem zL6 : Sd Tryz.prog E0 (zmV zcl) := mkS (l := []) trivial Tryz.func74 (by kernel_rfl) (zL5 K0)
section
def zFf : ((List (List Int)) × Unit) → Option ((List (List Int)) × Unit) := fun (x0, ()) =>
  bif List.isEmpty x0 then both (some ([], ())) (bif decide (List.length (List.replicate 0 (zb (Ty.arr 4 tU))) + List.length x0 ≤ lim) then some (List.replicate 0 (zb (Ty.arr 4 tU)) ++ x0, ()) else none) else bif decide (List.length (List.replicate 0 (zb (Ty.arr 4 tU))) + List.length x0 ≤ lim) then some (List.replicate 0 (zb (Ty.arr 4 tU)) ++ x0, ()) else none
theorem zPp (K : Nat) : evF (En E0 false []) K Tryz.f76 1 ztZ zt0 = zFf := funext fun (x0, ()) => by kernel_rfl
end
def zeE : zEP := zFf
theorem zPq : Sd Tryz.prog E0 (zrM zeE) := mkS (l := []) trivial Tryz.func76 (by kernel_rfl) (zPp K0)
section
def zCR : ((List qz) × Unit) → Option ((List qz) × Unit) := fun (x0, ()) =>
  bif List.isEmpty x0 then both (some ([], ())) (bif decide (List.length (List.replicate 0 (zb qf)) + List.length x0 ≤ lim) then some (List.replicate 0 (zb qf) ++ x0, ()) else none) else bif decide (List.length (List.replicate 0 (zb qf)) + List.length x0 ≤ lim) then some (List.replicate 0 (zb qf) ++ x0, ()) else none
theorem zNK (K : Nat) : evF (En E0 false []) K Tryz.f77 1 zrN zrO = zCR := funext fun (x0, ()) => by kernel_rfl
end
def zdn : zCa := zCR
theorem zNL : Sd Tryz.prog E0 (zo8 zdn) := mkS (l := []) trivial Tryz.func77 (by kernel_rfl) (zNK K0)
section
variable (qJ : zmM) (jY : zwB) (qX : zB9) (vd : zzC) (jc : zwC) (qQ : zzD) (qR : zzE) (qS : zzF) (qT : zzG) (z8 : zmY) (jk : zEP) (ja : zCa)
abbrev zmD : Env := (En E0 true [zcD qJ, zk4 jY, zoX qX, zmP vd, zk5 jc, zmS qQ, zmT qR, zmU qS, zmV qT, zcE z8, zrM jk, zo8 ja])
abbrev zff : Type := Int × Int × Int × Int × List zm × Nat × List (List Int) × Nat × List zp × List zK × List Int × List zm × Nat × List (List Int) × Nat × List zp × List zK × List Int
abbrev zAi : zff → St := fun (v44, v45, o0_0, o1_0, o2, c2, o3, c3, o4, o5, o6, o7, c7, o8, c8, o9, o10, o11) => St.mk [(1, AV.bp 0 []), (2, AV.bp 1 []), (43, AV.ow 2), (44, AV.dat tI v44), (45, AV.dat tI v45)] [Obj.bx (AV.fld (Ty.pair tU (Ty.pair (Ty.sl zl) (Ty.pair (Ty.sl (Ty.sl tI)) (Ty.pair (Ty.sl zv) (Ty.pair (Ty.sl zF) (Ty.pair (Ty.sl tI) Ty.unit)))))) [AV.dat tU o0_0, AV.ow 2, AV.ow 3, AV.ow 4, AV.ow 5, AV.ow 6]) false, Obj.bx (AV.fld (Ty.pair tU (Ty.pair (Ty.sl zl) (Ty.pair (Ty.sl (Ty.sl tI)) (Ty.pair (Ty.sl zv) (Ty.pair (Ty.sl zF) (Ty.pair (Ty.sl tI) Ty.unit)))))) [AV.dat tU o1_0, AV.ow 7, AV.ow 8, AV.ow 9, AV.ow 10, AV.ow 11]) false, Obj.drow zl o2 c2, Obj.drow (Ty.sl tI) o3 c3, Obj.row zv o4 false, Obj.row zF o5 false, Obj.row tI o6 false, Obj.drow zl o7 c7, Obj.drow (Ty.sl tI) o8 c8, Obj.row zv o9 false, Obj.row zF o10 false, Obj.row tI o11 false]
abbrev zfg : Type := Int × Int × Int × (List zm) × Int × List (List Int) × Nat × List zp × List zK × List Int × List zm × Nat × List (List Int) × Nat × List zp × List zK × List Int
abbrev zL7 : zfg → St := fun (v25, v26, o0_0, o0_1, o1_0, o2, c2, o3, o4, o5, o6, c6, o7, c7, o8, o9, o10) => St.mk [(1, AV.bp 0 []), (2, AV.bp 1 []), (24, AV.ow 2), (25, AV.dat tI v25), (26, AV.dat tI v26)] [Obj.bx (AV.fld (Ty.pair tU (Ty.pair (Ty.sl zl) (Ty.pair (Ty.sl (Ty.sl tI)) (Ty.pair (Ty.sl zv) (Ty.pair (Ty.sl zF) (Ty.pair (Ty.sl tI) Ty.unit)))))) [AV.dat tU o0_0, AV.dat (Ty.sl zl) o0_1, AV.ow 2, AV.ow 3, AV.ow 4, AV.ow 5]) false, Obj.bx (AV.fld (Ty.pair tU (Ty.pair (Ty.sl zl) (Ty.pair (Ty.sl (Ty.sl tI)) (Ty.pair (Ty.sl zv) (Ty.pair (Ty.sl zF) (Ty.pair (Ty.sl tI) Ty.unit)))))) [AV.dat tU o1_0, AV.ow 6, AV.ow 7, AV.ow 8, AV.ow 9, AV.ow 10]) false, Obj.drow (Ty.sl tI) o2 c2, Obj.row zv o3 false, Obj.row zF o4 false, Obj.row tI o5 false, Obj.drow zl o6 c6, Obj.drow (Ty.sl tI) o7 c7, Obj.row zv o8 false, Obj.row zF o9 false, Obj.row tI o10 false]
def zAj (k1 : zff → Option (zr × Unit)) : zff → Option (zr × Unit) := fun (v44, v45, o0_0, o1_0, o2, c2, o3, c3, o4, o5, o6, o7, c7, o8, c8, o9, o10, o11) =>
  bif decide (v45 < v44) then inR v45 ((List.length o2) : Int) (bif decide (c2 ≤ Int.toNat v45) then Option.bind (qQ ((ix za o2 v45).1, ())) fun q6 => Option.bind (qR ((ix za o2 v45).2.1, ())) fun q7 => Option.bind (qS ((ix za o2 v45).2.2.1, ())) fun q8 => Option.bind (qT ((ix za o2 v45).2.2.2.1, ())) fun q9 => Option.bind (z8 ((ix za o2 v45).2.2.2.2.1, ())) fun q10 => Option.bind (jk ((ix za o2 v45).2.2.2.2.2.1, ())) fun q11 => Option.bind (ja ((ix za o2 v45).2.2.2.2.2.2.1, ())) fun q12 => inR v45 ((List.length o2) : Int) (bif decide (Int.toNat v45 = c2) then k1 (v44, wI (v45 + 1), o0_0, o1_0, List.set o2 (Int.toNat v45) (q6.1, q7.1, q8.1, q9.1, q10.1, q11.1, q12.1, (ix za o2 v45).2.2.2.2.2.2.2.1, (ix za o2 v45).2.2.2.2.2.2.2.2.1, ()), c2 + 1, o3, c3, o4, o5, o6, o7, c7, o8, c8, o9, o10, o11) else none) else none) else bif decide (c2 = List.length o2) then bif decide (c3 = List.length o3) then some ((o0_0, o2, o3, o4, o5, o6, ()), ()) else none else none
abbrev zqC (K : Nat) : zff → Option (zr × Unit) := iter (zAj qQ qR qS qT z8 jk ja) K
theorem zL8 (K : Nat) : ∀ n, evV (zmD qJ jY qX vd jc qQ qR qS qT z8 jk ja) K Tryz.f23 3 zes [1, 1, 1, 1, 1, 0, 1, 0] [] zAi n = iter (zAj qQ qR qS qT z8 jk ja) n := zG fun n1 (v44, v45, o0_0, o1_0, o2, c2, o3, c3, o4, o5, o6, o7, c7, o8, c8, o9, o10, o11) => by kernel_rfl
def zqD (L1 : zff → Option (zr × Unit)) (k0 : zfg → Option (zr × Unit)) : zfg → Option (zr × Unit) := fun (v25, v26, o0_0, o0_1, o1_0, o2, c2, o3, o4, o5, o6, c6, o7, c7, o8, o9, o10) =>
  bif decide (v26 < v25) then inR v26 ((List.length o2) : Int) (bif decide (c2 ≤ Int.toNat v26) then Option.bind (qX (List.getD o2 (Int.toNat v26) ([] : List Int), ())) fun q4 => inR v26 ((List.length o2) : Int) (bif decide (Int.toNat v26 = c2) then k0 (v25, wI (v26 + 1), o0_0, o0_1, o1_0, List.set o2 (Int.toNat v26) q4.1, c2 + 1, o3, o4, o5, o6, c6, o7, c7, o8, o9, o10) else none) else none) else Option.bind (jc (o0_1, ())) fun q5 => L1 (((List.length q5.1) : Int), 0, o0_0, o1_0, q5.1, 0, o2, c2, o3, o4, o5, o6, c6, o7, c7, o8, o9, o10)
abbrev zjg (K : Nat) : zfg → Option (zr × Unit) := iter (fun k0 => zqD qX jc (zqC qQ qR qS qT z8 jk ja K) k0) K
theorem zL9 (K : Nat) : ∀ n, evV (zmD qJ jY qX vd jc qQ qR qS qT z8 jk ja) K Tryz.f23 3 zes [1, 1, 1, 0, 1, 0] [] zL7 n = iter (fun k0 => zqD qX jc (zqC qQ qR qS qT z8 jk ja K) k0) n := zeP (B := fun L1 k0 => zqD qX jc L1 k0) (V1 := fun n0 => evV (zmD qJ jY qX vd jc qQ qR qS qT z8 jk ja) K Tryz.f23 3 zes [1, 1, 1, 1, 1, 0, 1, 0] [] zAi K) (W1 := fun k0 => (zqC qQ qR qS qT z8 jk ja K)) (fun n0 => zL8 qJ jY qX vd jc qQ qR qS qT z8 jk ja K K) fun n0 (v25, v26, o0_0, o0_1, o1_0, o2, c2, o3, o4, o5, o6, c6, o7, c7, o8, o9, o10) => by kernel_rfl
def zia (L0 : zfg → Option (zr × Unit)) : (zr × Unit) → Option (zr × Unit) := fun (x0, ()) =>
  Option.bind (qJ (x0.2.2.2.1, ())) fun q0 => Option.bind (jY (x0.2.2.2.2.1, ())) fun q1 => Option.bind (qX (x0.2.2.2.2.2.1, ())) fun q2 => Option.bind (vd (x0.2.2.1, ())) fun q3 => L0 (((List.length q3.1) : Int), 0, x0.1, x0.2.1, 0, q3.1, 0, q0.1, q1.1, q2.1, [], 0, [], 0, [], [], [])
theorem zPr (K : Nat) : evF (zmD qJ jY qX vd jc qQ qR qS qT z8 jk ja) K Tryz.f23 3 ztH zes = zia qJ jY qX vd (zjg qX jc qQ qR qS qT z8 jk ja K) := tr1 (T := zia qJ jY qX vd) (zL9 qJ jY qX vd jc qQ qR qS qT z8 jk ja K K) fun (x0, ()) => by kernel_rfl
end
def zcz : ztI := zia jX zbB zar zch (zjg zar zbC zci zcj zck zcl jW zeE zdn K0)
theorem zPs : Sd Tryz.prog E0 (zrs zcz) := mkS (l := [zcD jX, zk4 zbB, zoX zar, zmP zch, zk5 zbC, zmS zci, zmT zcj, zmU zck, zmV zcl, zcE jW, zrM zeE, zo8 zdn]) ⟨zyz, zJY, zNJ, zLY, zJ0, zL0, zL2, zL4, zL6, zyu, zPq, zNL, trivial⟩ Tryz.func23 (by kernel_rfl) (zPr jX zbB zar zch zbC zci zcj zck zcl jW zeE zdn K0)
section
abbrev zqE : Env := (En E0 false [])
abbrev yP : Type := (List zm) × (Option ((zm × (zm × Unit)) → Option (Bool × Unit))) × (List zm) × Int × Int
abbrev zBO : yP → St := fun (v1, v2, v15, v16, v17) => St.mk [(1, AV.dat (Ty.sl zl) v1), (2, AV.dat (Ty.fn (Ty.pair zl (Ty.pair zl Ty.unit)) (Ty.pair Ty.bool Ty.unit)) v2), (15, AV.dat (Ty.sl zl) v15), (16, AV.dat tI v16), (17, AV.dat tI v17)] []
def zmo (k0 : yP → Option (Bool × Unit)) : yP → Option (Bool × Unit) := fun (v1, v2, v15, v16, v17) =>
  bif decide (v17 < v16) then inR v17 ((List.length v15) : Int) (inR v17 ((List.length v1) : Int) (Option.bind v2 fun q0 => Option.bind (q0 (ix za v15 v17, ix za v1 v17, ())) fun q1 => bif q1.1 then k0 (v1, v2, v15, v16, wI (v17 + 1)) else some (false, ()))) else some (true, ())
abbrev zmp (K : Nat) : yP → Option (Bool × Unit) := iter (zmo) K
theorem zBP (K : Nat) : ∀ n, evV (zqE) K Tryz.f78 0 zcW [1, 1, 0, 1, 0] [] zBO n = iter (zmo) n := zG fun n0 (v1, v2, v15, v16, v17) => by kernel_rfl
def zhN (L0 : yP → Option (Bool × Unit)) : ((List zm) × ((List zm) × ((Option ((zm × (zm × Unit)) → Option (Bool × Unit))) × Unit))) → Option (Bool × Unit) := fun (x0, x1, x2, ()) =>
  bif ((List.length x0) : Int) != ((List.length x1) : Int) then some (false, ()) else L0 (x1, x2, x0, ((List.length x0) : Int), 0)
theorem zEa (K : Nat) : evF (zqE) K Tryz.f78 0 zg6 zcW = zhN (zmp K) := tr1 (T := zhN) (zBP K K) fun (x0, x1, x2, ()) => by kernel_rfl
end
def zc6 : zo9 := zhN (zmp K0)
theorem zEb : Sd Tryz.prog E0 (zgc zc6) := mkS (l := []) trivial Tryz.func78 (by kernel_rfl) (zEa K0)
section
abbrev zAk : Env := (En E0 false [])
abbrev zcO : Type := (List jM) × (List jM) × Int × Int
abbrev zIg : zcO → St := fun (v0, v1, v12, v13) => St.mk [(0, AV.dat (Ty.sl je) v0), (1, AV.dat (Ty.sl je) v1), (12, AV.dat tI v12), (13, AV.dat tI v13)] []
def zvE (k0 : zcO → Option (Bool × Unit)) : zcO → Option (Bool × Unit) := fun (v0, v1, v12, v13) =>
  bif decide (v13 < v12) then inR v13 ((List.length v0) : Int) (inR v13 ((List.length v1) : Int) (bif !eqI je (ix zPR v0 v13) (ix zPR v1 v13) then some (false, ()) else k0 (v0, v1, v12, wI (v13 + 1)))) else some (true, ())
abbrev zvF (K : Nat) : zcO → Option (Bool × Unit) := iter (zvE) K
theorem zIh (K : Nat) : ∀ n, evV (zAk) K Tryz.f162 0 zi5 [1, 1, 0, 1, 0] [] zIg n = iter (zvE) n := zG fun n0 (v0, v1, v12, v13) => by kernel_rfl
def zqF (L0 : zcO → Option (Bool × Unit)) : ((List jM) × ((List jM) × Unit)) → Option (Bool × Unit) := fun (x0, x1, ()) =>
  bif ((List.length x0) : Int) != ((List.length x1) : Int) then some (false, ()) else L0 (x0, x1, ((List.length x0) : Int), 0)
theorem zMa (K : Nat) : evF (zAk) K Tryz.f162 0 zpC zi5 = zqF (zvF K) := tr1 (T := zqF) (zIh K K) fun (x0, x1, ()) => by kernel_rfl
end
def zjh : zzN := zqF (zvF K0)
theorem zMb : Sd Tryz.prog E0 (znx zjh) := mkS (l := []) trivial Tryz.func162 (by kernel_rfl) (zMa K0)
section
abbrev zAl : Env := (En E0 false [])
abbrev zcP : Type := (List z9) × (List z9) × Int × Int
abbrev zIi : zcP → St := fun (v0, v1, v12, v13) => St.mk [(0, AV.dat (Ty.sl qq) v0), (1, AV.dat (Ty.sl qq) v1), (12, AV.dat tI v12), (13, AV.dat tI v13)] []
def zvG (k0 : zcP → Option (Bool × Unit)) : zcP → Option (Bool × Unit) := fun (v0, v1, v12, v13) =>
  bif decide (v13 < v12) then inR v13 ((List.length v0) : Int) (inR v13 ((List.length v1) : Int) (bif !eqI qq (ix zbb v0 v13) (ix zbb v1 v13) then some (false, ()) else k0 (v0, v1, v12, wI (v13 + 1)))) else some (true, ())
abbrev zvH (K : Nat) : zcP → Option (Bool × Unit) := iter (zvG) K
theorem zIj (K : Nat) : ∀ n, evV (zAl) K Tryz.f163 0 zi6 [1, 1, 0, 1, 0] [] zIi n = iter (zvG) n := zG fun n0 (v0, v1, v12, v13) => by kernel_rfl
def zqG (L0 : zcP → Option (Bool × Unit)) : ((List z9) × ((List z9) × Unit)) → Option (Bool × Unit) := fun (x0, x1, ()) =>
  bif ((List.length x0) : Int) != ((List.length x1) : Int) then some (false, ()) else L0 (x0, x1, ((List.length x0) : Int), 0)
theorem zMc (K : Nat) : evF (zAl) K Tryz.f163 0 zpD zi6 = zqG (zvH K) := tr1 (T := zqG) (zIj K K) fun (x0, x1, ()) => by kernel_rfl
end
def zji : zzO := zqG (zvH K0)
theorem zMd : Sd Tryz.prog E0 (zny zji) := mkS (l := []) trivial Tryz.func163 (by kernel_rfl) (zMc K0)
section
abbrev zAm : Env := (En E0 false [])
abbrev zcQ : Type := (List zW) × (List zW) × Int × Int
abbrev zIk : zcQ → St := fun (v0, v1, v12, v13) => St.mk [(0, AV.dat (Ty.sl qi) v0), (1, AV.dat (Ty.sl qi) v1), (12, AV.dat tI v12), (13, AV.dat tI v13)] []
def zvI (k0 : zcQ → Option (Bool × Unit)) : zcQ → Option (Bool × Unit) := fun (v0, v1, v12, v13) =>
  bif decide (v13 < v12) then inR v13 ((List.length v0) : Int) (inR v13 ((List.length v1) : Int) (bif !eqI qi (ix vE v0 v13) (ix vE v1 v13) then some (false, ()) else k0 (v0, v1, v12, wI (v13 + 1)))) else some (true, ())
abbrev zvJ (K : Nat) : zcQ → Option (Bool × Unit) := iter (zvI) K
theorem zIl (K : Nat) : ∀ n, evV (zAm) K Tryz.f164 0 zi7 [1, 1, 0, 1, 0] [] zIk n = iter (zvI) n := zG fun n0 (v0, v1, v12, v13) => by kernel_rfl
def zqH (L0 : zcQ → Option (Bool × Unit)) : ((List zW) × ((List zW) × Unit)) → Option (Bool × Unit) := fun (x0, x1, ()) =>
  bif ((List.length x0) : Int) != ((List.length x1) : Int) then some (false, ()) else L0 (x0, x1, ((List.length x0) : Int), 0)
theorem zMe (K : Nat) : evF (zAm) K Tryz.f164 0 zpE zi7 = zqH (zvJ K) := tr1 (T := zqH) (zIl K K) fun (x0, x1, ()) => by kernel_rfl
end
def zjj : zzP := zqH (zvJ K0)
theorem zMf : Sd Tryz.prog E0 (znz zjj) := mkS (l := []) trivial Tryz.func164 (by kernel_rfl) (zMe K0)
section
abbrev zAn : Env := (En E0 false [])
abbrev zcR : Type := (List qr) × (List qr) × Int × Int
abbrev zIm : zcR → St := fun (v0, v1, v12, v13) => St.mk [(0, AV.dat (Ty.sl qB) v0), (1, AV.dat (Ty.sl qB) v1), (12, AV.dat tI v12), (13, AV.dat tI v13)] []
def zvK (k0 : zcR → Option (Bool × Unit)) : zcR → Option (Bool × Unit) := fun (v0, v1, v12, v13) =>
  bif decide (v13 < v12) then inR v13 ((List.length v0) : Int) (inR v13 ((List.length v1) : Int) (bif !eqI qB (ix zT7 v0 v13) (ix zT7 v1 v13) then some (false, ()) else k0 (v0, v1, v12, wI (v13 + 1)))) else some (true, ())
abbrev zvL (K : Nat) : zcR → Option (Bool × Unit) := iter (zvK) K
theorem zIn (K : Nat) : ∀ n, evV (zAn) K Tryz.f165 0 zi8 [1, 1, 0, 1, 0] [] zIm n = iter (zvK) n := zG fun n0 (v0, v1, v12, v13) => by kernel_rfl
def zqI (L0 : zcR → Option (Bool × Unit)) : ((List qr) × ((List qr) × Unit)) → Option (Bool × Unit) := fun (x0, x1, ()) =>
  bif ((List.length x0) : Int) != ((List.length x1) : Int) then some (false, ()) else L0 (x0, x1, ((List.length x0) : Int), 0)
theorem zMg (K : Nat) : evF (zAn) K Tryz.f165 0 zpF zi8 = zqI (zvL K) := tr1 (T := zqI) (zIn K K) fun (x0, x1, ()) => by kernel_rfl
end
def zjk : zzQ := zqI (zvL K0)
theorem zMh : Sd Tryz.prog E0 (znA zjk) := mkS (l := []) trivial Tryz.func165 (by kernel_rfl) (zMg K0)
section
abbrev zyM : Env := (En E0 false [])
abbrev zb2 : Type := (List zq) × (List zq) × Int × Int
abbrev zHc : zb2 → St := fun (v0, v1, v12, v13) => St.mk [(0, AV.dat (Ty.sl zI) v0), (1, AV.dat (Ty.sl zI) v1), (12, AV.dat tI v12), (13, AV.dat tI v13)] []
def zto (k0 : zb2 → Option (Bool × Unit)) : zb2 → Option (Bool × Unit) := fun (v0, v1, v12, v13) =>
  bif decide (v13 < v12) then inR v13 ((List.length v0) : Int) (inR v13 ((List.length v1) : Int) (bif !eqI zI (ix qZ v0 v13) (ix qZ v1 v13) then some (false, ()) else k0 (v0, v1, v12, wI (v13 + 1)))) else some (true, ())
abbrev ztp (K : Nat) : zb2 → Option (Bool × Unit) := iter (zto) K
theorem zHd (K : Nat) : ∀ n, evV (zyM) K Tryz.f166 0 zha [1, 1, 0, 1, 0] [] zHc n = iter (zto) n := zG fun n0 (v0, v1, v12, v13) => by kernel_rfl
def zod (L0 : zb2 → Option (Bool × Unit)) : ((List zq) × ((List zq) × Unit)) → Option (Bool × Unit) := fun (x0, x1, ()) =>
  bif ((List.length x0) : Int) != ((List.length x1) : Int) then some (false, ()) else L0 (x0, x1, ((List.length x0) : Int), 0)
theorem zJ1 (K : Nat) : evF (zyM) K Tryz.f166 0 znB zha = zod (ztp K) := tr1 (T := zod) (zHd K K) fun (x0, x1, ()) => by kernel_rfl
end
def zhO : zw3 := zod (ztp K0)
theorem zJ2 : Sd Tryz.prog E0 (zlu zhO) := mkS (l := []) trivial Tryz.func166 (by kernel_rfl) (zJ1 K0)
section
abbrev zFg : Env := (En E0 false [])
abbrev zfh : Type := (List (List Int)) × (List (List Int)) × Int × Int
abbrev zMi : zfh → St := fun (v0, v1, v12, v13) => St.mk [(0, AV.dat (Ty.sl (Ty.arr 4 tU)) v0), (1, AV.dat (Ty.sl (Ty.arr 4 tU)) v1), (12, AV.dat tI v12), (13, AV.dat tI v13)] []
def zAo (k0 : zfh → Option (Bool × Unit)) : zfh → Option (Bool × Unit) := fun (v0, v1, v12, v13) =>
  bif decide (v13 < v12) then inR v13 ((List.length v0) : Int) (inR v13 ((List.length v1) : Int) (bif !eqI (Ty.arr 4 tU) (List.getD v0 (Int.toNat v13) (zb (Ty.arr 4 tU))) (List.getD v1 (Int.toNat v13) (zb (Ty.arr 4 tU))) then some (false, ()) else k0 (v0, v1, v12, wI (v13 + 1)))) else some (true, ())
abbrev zAp (K : Nat) : zfh → Option (Bool × Unit) := iter (zAo) K
theorem zMj (K : Nat) : ∀ n, evV (zFg) K Tryz.f167 0 zmz [1, 1, 0, 1, 0] [] zMi n = iter (zAo) n := zG fun n0 (v0, v1, v12, v13) => by kernel_rfl
def zu7 (L0 : zfh → Option (Bool × Unit)) : ((List (List Int)) × ((List (List Int)) × Unit)) → Option (Bool × Unit) := fun (x0, x1, ()) =>
  bif ((List.length x0) : Int) != ((List.length x1) : Int) then some (false, ()) else L0 (x0, x1, ((List.length x0) : Int), 0)
theorem zPt (K : Nat) : evF (zFg) K Tryz.f167 0 zul zmz = zu7 (zAp K) := tr1 (T := zu7) (zMj K K) fun (x0, x1, ()) => by kernel_rfl
end
def zmE : zEW := zu7 (zAp K0)
theorem zPu : Sd Tryz.prog E0 (zr0 zmE) := mkS (l := []) trivial Tryz.func167 (by kernel_rfl) (zPt K0)
section
abbrev zCS : Env := (En E0 false [])
abbrev zdQ : Type := (List qz) × (List qz) × Int × Int
abbrev zJ3 : zdQ → St := fun (v0, v1, v12, v13) => St.mk [(0, AV.dat (Ty.sl zdq) v0), (1, AV.dat (Ty.sl zdq) v1), (12, AV.dat tI v12), (13, AV.dat tI v13)] []
def zyN (k0 : zdQ → Option (Bool × Unit)) : zdQ → Option (Bool × Unit) := fun (v0, v1, v12, v13) =>
  bif decide (v13 < v12) then inR v13 ((List.length v0) : Int) (inR v13 ((List.length v1) : Int) (bif !eqI zdq (ix zaB v0 v13) (ix zaB v1 v13) then some (false, ()) else k0 (v0, v1, v12, wI (v13 + 1)))) else some (true, ())
abbrev zyO (K : Nat) : zdQ → Option (Bool × Unit) := iter (zyN) K
theorem zJ4 (K : Nat) : ∀ n, evV (zCS) K Tryz.f168 0 zkx [1, 1, 0, 1, 0] [] zJ3 n = iter (zyN) n := zG fun n0 (v0, v1, v12, v13) => by kernel_rfl
def zsG (L0 : zdQ → Option (Bool × Unit)) : ((List qz) × ((List qz) × Unit)) → Option (Bool × Unit) := fun (x0, x1, ()) =>
  bif ((List.length x0) : Int) != ((List.length x1) : Int) then some (false, ()) else L0 (x0, x1, ((List.length x0) : Int), 0)
theorem zNM (K : Nat) : evF (zCS) K Tryz.f168 0 zr1 zkx = zsG (zyO K) := tr1 (T := zsG) (zJ4 K K) fun (x0, x1, ()) => by kernel_rfl
end
def zkI : zCg := zsG (zyO K0)
theorem zNN : Sd Tryz.prog E0 (zpG zkI) := mkS (l := []) trivial Tryz.func168 (by kernel_rfl) (zNM K0)
section
variable (zqJ : zzN) (zqK : zzO) (zqL : zzP) (zqM : zzQ) (zoe : zw3) (zu8 : zEW) (zsH : zCg)
def zvM : (zm × (zm × Unit)) → Option (Bool × Unit) := fun (x0, x1, ()) =>
  Option.bind (zqJ (x0.1, x1.1, ())) fun q0 => bif q0.1 then Option.bind (zqK (x0.2.1, x1.2.1, ())) fun q1 => bif q1.1 then Option.bind (zqL (x0.2.2.1, x1.2.2.1, ())) fun q2 => bif q2.1 then Option.bind (zqM (x0.2.2.2.1, x1.2.2.2.1, ())) fun q3 => bif q3.1 then Option.bind (zoe (x0.2.2.2.2.1, x1.2.2.2.2.1, ())) fun q4 => bif q4.1 then Option.bind (zu8 (x0.2.2.2.2.2.1, x1.2.2.2.2.2.1, ())) fun q5 => bif q5.1 then Option.bind (zsH (x0.2.2.2.2.2.2.1, x1.2.2.2.2.2.2.1, ())) fun q6 => bif q6.1 then bif eqI (Ty.arr 4 tU) x0.2.2.2.2.2.2.2.1 x1.2.2.2.2.2.2.2.1 then bif eqI (Ty.arr 4 tU) x0.2.2.2.2.2.2.2.2.1 x1.2.2.2.2.2.2.2.2.1 then some (true, ()) else some (false, ()) else some (false, ()) else some (false, ()) else some (false, ()) else some (false, ()) else some (false, ()) else some (false, ()) else some (false, ()) else some (false, ())
theorem zIo (K : Nat) : evF (En E0 false [znx zqJ, zny zqK, znz zqL, znA zqM, zlu zoe, zr0 zu8, zpG zsH]) K Tryz.f79 0 zk6 zk7 = zvM zqJ zqK zqL zqM zoe zu8 zsH := funext fun (x0, x1, ()) => by kernel_rfl
end
def zf2 : zvi := zvM zjh zji zjj zjk zhO zmE zkI
theorem zIp : Sd Tryz.prog E0 (zjr zf2) := mkS (l := [znx zjh, zny zji, znz zjj, znA zjk, zlu zhO, zr0 zmE, zpG zkI]) ⟨zMb, zMd, zMf, zMh, zJ2, zPu, zNN, trivial⟩ Tryz.func79 (by kernel_rfl) (zIo zjh zji zjj zjk zhO zmE zkI K0)
section
abbrev zri : Env := (En E0 false [])
abbrev zas : Type := (List (List Int)) × (Option (((List Int) × ((List Int) × Unit)) → Option (Bool × Unit))) × (List (List Int)) × Int × Int
abbrev zCT : zas → St := fun (v1, v2, v15, v16, v17) => St.mk [(1, AV.dat (Ty.sl (Ty.sl tI)) v1), (2, AV.dat (Ty.fn (Ty.pair (Ty.sl tI) (Ty.pair (Ty.sl tI) Ty.unit)) (Ty.pair Ty.bool Ty.unit)) v2), (15, AV.dat (Ty.sl (Ty.sl tI)) v15), (16, AV.dat tI v16), (17, AV.dat tI v17)] []
def zox (k0 : zas → Option (Bool × Unit)) : zas → Option (Bool × Unit) := fun (v1, v2, v15, v16, v17) =>
  bif decide (v17 < v16) then inR v17 ((List.length v15) : Int) (inR v17 ((List.length v1) : Int) (Option.bind v2 fun q0 => Option.bind (q0 (List.getD v15 (Int.toNat v17) ([] : List Int), List.getD v1 (Int.toNat v17) ([] : List Int), ())) fun q1 => bif q1.1 then k0 (v1, v2, v15, v16, wI (v17 + 1)) else some (false, ()))) else some (true, ())
abbrev zoy (K : Nat) : zas → Option (Bool × Unit) := iter (zox) K
theorem zCU (K : Nat) : ∀ n, evV (zri) K Tryz.f80 0 zdV [1, 1, 0, 1, 0] [] zCT n = iter (zox) n := zG fun n0 (v1, v2, v15, v16, v17) => by kernel_rfl
def zi2 (L0 : zas → Option (Bool × Unit)) : ((List (List Int)) × ((List (List Int)) × ((Option (((List Int) × ((List Int) × Unit)) → Option (Bool × Unit))) × Unit))) → Option (Bool × Unit) := fun (x0, x1, x2, ()) =>
  bif ((List.length x0) : Int) != ((List.length x1) : Int) then some (false, ()) else L0 (x1, x2, x0, ((List.length x0) : Int), 0)
theorem zFN (K : Nat) : evF (zri) K Tryz.f80 0 zio zdV = zi2 (zoy K) := tr1 (T := zi2) (zCU K K) fun (x0, x1, x2, ()) => by kernel_rfl
end
def zd1 : zqV := zi2 (zoy K0)
theorem zFO : Sd Tryz.prog E0 (zg7 zd1) := mkS (l := []) trivial Tryz.func80 (by kernel_rfl) (zFN K0)
section
abbrev zCV : Env := (En E0 false [])
abbrev zdR : Type := (List Int) × (List Int) × Int × Int
abbrev zJ5 : zdR → St := fun (v0, v1, v12, v13) => St.mk [(0, AV.dat (Ty.sl tI) v0), (1, AV.dat (Ty.sl tI) v1), (12, AV.dat tI v12), (13, AV.dat tI v13)] []
def zyP (k0 : zdR → Option (Bool × Unit)) : zdR → Option (Bool × Unit) := fun (v0, v1, v12, v13) =>
  bif decide (v13 < v12) then inR v13 ((List.length v0) : Int) (inR v13 ((List.length v1) : Int) (bif ix (0 : Int) v0 v13 != ix (0 : Int) v1 v13 then some (false, ()) else k0 (v0, v1, v12, wI (v13 + 1)))) else some (true, ())
abbrev zyQ (K : Nat) : zdR → Option (Bool × Unit) := iter (zyP) K
theorem zJ6 (K : Nat) : ∀ n, evV (zCV) K Tryz.f81 0 zks [1, 1, 0, 1, 0] [] zJ5 n = iter (zyP) n := zG fun n0 (v0, v1, v12, v13) => by kernel_rfl
def zsI (L0 : zdR → Option (Bool × Unit)) : ((List Int) × ((List Int) × Unit)) → Option (Bool × Unit) := fun (x0, x1, ()) =>
  bif ((List.length x0) : Int) != ((List.length x1) : Int) then some (false, ()) else L0 (x0, x1, ((List.length x0) : Int), 0)
theorem zNO (K : Nat) : evF (zCV) K Tryz.f81 0 zrP zks = zsI (zyQ K) := tr1 (T := zsI) (zJ6 K K) fun (x0, x1, ()) => by kernel_rfl
end
def zkJ : zCb := zsI (zyQ K0)
theorem zNP : Sd Tryz.prog E0 (zpa zkJ) := mkS (l := []) trivial Tryz.func81 (by kernel_rfl) (zNO K0)
section
abbrev zyR : Env := (En E0 false [])
abbrev zb3 : Type := (List zp) × (List zp) × Int × Int
abbrev zHe : zb3 → St := fun (v0, v1, v12, v13) => St.mk [(0, AV.dat (Ty.sl zv) v0), (1, AV.dat (Ty.sl zv) v1), (12, AV.dat tI v12), (13, AV.dat tI v13)] []
def ztq (k0 : zb3 → Option (Bool × Unit)) : zb3 → Option (Bool × Unit) := fun (v0, v1, v12, v13) =>
  bif decide (v13 < v12) then inR v13 ((List.length v0) : Int) (inR v13 ((List.length v1) : Int) (bif !eqI zv (ix jm v0 v13) (ix jm v1 v13) then some (false, ()) else k0 (v0, v1, v12, wI (v13 + 1)))) else some (true, ())
abbrev ztr (K : Nat) : zb3 → Option (Bool × Unit) := iter (ztq) K
theorem zHf (K : Nat) : ∀ n, evV (zyR) K Tryz.f82 0 zg8 [1, 1, 0, 1, 0] [] zHe n = iter (ztq) n := zG fun n0 (v0, v1, v12, v13) => by kernel_rfl
def zof (L0 : zb3 → Option (Bool × Unit)) : ((List zp) × ((List zp) × Unit)) → Option (Bool × Unit) := fun (x0, x1, ()) =>
  bif ((List.length x0) : Int) != ((List.length x1) : Int) then some (false, ()) else L0 (x0, x1, ((List.length x0) : Int), 0)
theorem zJ7 (K : Nat) : evF (zyR) K Tryz.f82 0 zmZ zg8 = zof (ztr K) := tr1 (T := zof) (zHf K K) fun (x0, x1, ()) => by kernel_rfl
end
def zhP : zwD := zof (ztr K0)
theorem zJ8 : Sd Tryz.prog E0 (zk8 zhP) := mkS (l := []) trivial Tryz.func82 (by kernel_rfl) (zJ7 K0)
section
abbrev zyS : Env := (En E0 false [])
abbrev zb4 : Type := (List zK) × (List zK) × Int × Int
abbrev zHg : zb4 → St := fun (v0, v1, v12, v13) => St.mk [(0, AV.dat (Ty.sl zF) v0), (1, AV.dat (Ty.sl zF) v1), (12, AV.dat tI v12), (13, AV.dat tI v13)] []
def zts (k0 : zb4 → Option (Bool × Unit)) : zb4 → Option (Bool × Unit) := fun (v0, v1, v12, v13) =>
  bif decide (v13 < v12) then inR v13 ((List.length v0) : Int) (inR v13 ((List.length v1) : Int) (bif !eqI zF (ix zoM v0 v13) (ix zoM v1 v13) then some (false, ()) else k0 (v0, v1, v12, wI (v13 + 1)))) else some (true, ())
abbrev ztt (K : Nat) : zb4 → Option (Bool × Unit) := iter (zts) K
theorem zHh (K : Nat) : ∀ n, evV (zyS) K Tryz.f83 0 zg9 [1, 1, 0, 1, 0] [] zHg n = iter (zts) n := zG fun n0 (v0, v1, v12, v13) => by kernel_rfl
def zog (L0 : zb4 → Option (Bool × Unit)) : ((List zK) × ((List zK) × Unit)) → Option (Bool × Unit) := fun (x0, x1, ()) =>
  bif ((List.length x0) : Int) != ((List.length x1) : Int) then some (false, ()) else L0 (x0, x1, ((List.length x0) : Int), 0)
theorem zJ9 (K : Nat) : evF (zyS) K Tryz.f83 0 zm0 zg9 = zog (ztt K) := tr1 (T := zog) (zHh K K) fun (x0, x1, ()) => by kernel_rfl
end
def zhQ : zwE := zog (ztt K0)
theorem zKa : Sd Tryz.prog E0 (zk9 zhQ) := mkS (l := []) trivial Tryz.func83 (by kernel_rfl) (zJ9 K0)
section
variable (zhR : zo9) (zlZ : zvi) (zi3 : zqV) (zkK : zCb) (zoh : zwD) (zoi : zwE)
def zHi : (zr × (zr × Unit)) → Option (Bool × Unit) := fun (x0, x1, ()) =>
  bif x0.1 == x1.1 then Option.bind (zhR (x0.2.1, x1.2.1, some zlZ, ())) fun q0 => bif q0.1 then Option.bind (zi3 (x0.2.2.1, x1.2.2.1, some zkK, ())) fun q1 => bif q1.1 then Option.bind (zoh (x0.2.2.2.1, x1.2.2.2.1, ())) fun q2 => bif q2.1 then Option.bind (zoi (x0.2.2.2.2.1, x1.2.2.2.2.1, ())) fun q3 => bif q3.1 then Option.bind (zkK (x0.2.2.2.2.2.1, x1.2.2.2.2.2.1, ())) fun q4 => bif q4.1 then some (true, ()) else some (false, ()) else some (false, ()) else some (false, ()) else some (false, ()) else some (false, ()) else some (false, ())
theorem zRu (K : Nat) : evF (En E0 false [zgc zhR, zjr zlZ, zg7 zi3, zpa zkK, zk8 zoh, zk9 zoi]) K Tryz.f24 0 zws zwt = zHi zhR zlZ zi3 zkK zoh zoi := funext fun (x0, x1, ()) => by kernel_rfl
end
def zgX : zF8 := zHi zc6 zf2 zd1 zkJ zhP zhQ
theorem zRv : Sd Tryz.prog E0 (ztJ zgX) := mkS (l := [zgc zc6, zjr zf2, zg7 zd1, zpa zkJ, zk8 zhP, zk9 zhQ]) ⟨zEb, zIp, zFO, zNP, zJ8, zKa, trivial⟩ Tryz.func24 (by kernel_rfl) (zRu zc6 zf2 zd1 zkJ zhP zhQ K0)
section
def zOw : (Int × (Int × Unit)) → Option (Bool × Unit) := fun (x0, x1, ()) =>
  bif decide (x0 ≥ 0) then bif decide (x0 < x1) then some (true, ()) else some (false, ()) else some (false, ())
theorem zVy (K : Nat) : evF (En E0 false []) K Tryz.f158 0 zGh zGi = zOw := funext fun (x0, x1, ()) => by kernel_rfl
end
def zAq : zOs := zOw
theorem zVz : Sd Tryz.prog E0 (zDt zAq) := mkS (l := []) trivial Tryz.func158 (by kernel_rfl) (zVy K0)
end
end Go.Proofs.YtaokpakfhdeiiaaGreatDoor
end
section
namespace Go.Proofs.YtaokpakfhdeiiaaGreatDoor
open Go.Ev
set_option linter.unusedVariables false
noncomputable section
section
def zyT : (Int × ((Option (List (List Int))) × ((Option Int) × Unit))) → Option (Bool × Unit) := fun (x0, x1, x2, ()) =>
  Option.bind x1 fun q0 => inR x0 ((List.length q0) : Int) (Option.bind x2 fun q1 => inR q1 ((List.length (List.getD q0 (Int.toNat x0) ([] : List Int))) : Int) (bif List.getD (List.getD q0 (Int.toNat x0) ([] : List Int)) (Int.toNat q1) (0 : Int) == 0 then some (true, ()) else some (false, ())))
theorem zKb (K : Nat) : evF (En E0 false []) K Tryz.f159 0 znv znw = zyT := funext fun (x0, x1, x2, ()) => by kernel_rfl
end
def zhS : zw2 := zyT
theorem zKc : Sd Tryz.prog E0 (zlt zhS) := mkS (l := []) trivial Tryz.func159 (by kernel_rfl) (zKb K0)
section
variable (zC : zet) (zo : vp)
def zqN : (zf × (Int × Unit)) → Option (Bool × Unit) := fun (x0, x1, ()) =>
  Option.bind (zC (x0, ())) fun q0 => bif q0.1 then Option.bind (zo (x1, 0, wI (((List.length x0.1) : Int) - 1), ())) fun q1 => bif q1.1 then some (true, ()) else some (false, ()) else some (false, ())
theorem zMk (K : Nat) : evF (En E0 false [j8 zC, qa zo]) K Tryz.f91 0 zpe zpf = zqN zC zo := funext fun (x0, x1, ()) => by kernel_rfl
end
def vC : zpg := zqN qL zJ
theorem zAr : Sd Tryz.prog E0 (zds vC) := mkS (l := [j8 qL, qa zJ]) ⟨zh3, vV, trivial⟩ Tryz.func91 (by kernel_rfl) (zMk qL zJ K0)
section
abbrev zCW : Env := (En E0 false [])
abbrev zdS : Type := (List Int) × Int × Int × Int
abbrev zKd : zdS → St := fun (v0, v1, v7, v8) => St.mk [(0, AV.dat (Ty.sl tI) v0), (1, AV.dat tI v1), (7, AV.dat tI v7), (8, AV.dat tI v8)] []
def zyU (k0 : zdS → Option (Int × Unit)) : zdS → Option (Int × Unit) := fun (v0, v1, v7, v8) =>
  bif decide (v8 < v7) then inR v8 ((List.length v0) : Int) (bif v1 == ix (0 : Int) v0 v8 then some (v8, ()) else k0 (v0, v1, v7, wI (v8 + 1))) else some ((-1), ())
abbrev zyV (K : Nat) : zdS → Option (Int × Unit) := iter (zyU) K
theorem zKe (K : Nat) : ∀ n, evV (zCW) K Tryz.f275 0 zky [1, 0, 1, 0] [] zKd n = iter (zyU) n := zG fun n0 (v0, v1, v7, v8) => by kernel_rfl
def zsJ (L0 : zdS → Option (Int × Unit)) : ((List Int) × (Int × Unit)) → Option (Int × Unit) := fun (x0, x1, ()) =>
  L0 (x0, x1, ((List.length x0) : Int), 0)
theorem zNQ (K : Nat) : evF (zCW) K Tryz.f275 0 zsi zky = zsJ (zyV K) := tr1 (T := zsJ) (zKe K K) fun (x0, x1, ()) => by kernel_rfl
end
def zkL : zCm := zsJ (zyV K0)
theorem zNR : Sd Tryz.prog E0 (zp4 zkL) := mkS (l := []) trivial Tryz.func275 (by kernel_rfl) (zNQ K0)
section
variable (zsK : zCm)
def zvN : ((List Int) × (Int × Unit)) → Option (Bool × Unit) := fun (x0, x1, ()) =>
  Option.bind (zsK (x0, x1, ())) fun q0 => bif decide (q0.1 ≥ 0) then some (true, ()) else some (false, ())
theorem zIq (K : Nat) : evF (En E0 false [zp4 zsK]) K Tryz.f231 0 zlE zlF = zvN zsK := funext fun (x0, x1, ()) => by kernel_rfl
end
def zf3 : zvr := zvN zkL
theorem zIr : Sd Tryz.prog E0 (zjL zf3) := mkS (l := [zp4 zkL]) ⟨zNR, trivial⟩ Tryz.func231 (by kernel_rfl) (zIq zkL K0)
section
variable (jl : zpg) (zb5 : zGq) (vu : zvr)
abbrev zCX : Env := (En E0 false [zds jl, zuz zb5, zjL vu])
abbrev zdT : Type := Int × (List qz) × Int × Int × zf × List Int
abbrev zKf : zdT → St := fun (v1, v14, v15, v16, o0, o1) => St.mk [(1, AV.dat tI v1), (2, AV.bp 0 []), (5, AV.ow 1), (14, AV.dat (Ty.sl zdq) v14), (15, AV.dat tI v15), (16, AV.dat tI v16)] [Obj.bx (AV.dat zN o0) false, Obj.row tI o1 false]
def zyW (k0 : zdT → Option ((List Int) × Unit)) : zdT → Option ((List Int) × Unit) := fun (v1, v14, v15, v16, o0, o1) =>
  bif decide (v16 < v15) then inR v16 ((List.length v14) : Int) (inR v1 ((List.length o0.1) : Int) (Option.bind (zb5 (ix zcC o0.1 v1, ())) fun q1 => Option.bind (vu (q1.1, (ix zaB v14 v16).1, ())) fun q2 => bif q2.1 then bif decide (List.length o1 + List.length (zg (List.replicate 1 (0 : Int)) 0 v16) ≤ lim) then k0 (v1, v14, v15, wI (v16 + 1), o0, o1 ++ zg (List.replicate 1 (0 : Int)) 0 v16) else none else k0 (v1, v14, v15, wI (v16 + 1), o0, o1))) else some (o1, ())
abbrev zyX (K : Nat) : zdT → Option ((List Int) × Unit) := iter (zyW zb5 vu) K
theorem zKg (K : Nat) : ∀ n, evV (zCX jl zb5 vu) K Tryz.f161 0 zkw [1, 1, 1, 0, 1, 0] [] zKf n = iter (zyW zb5 vu) n := zG fun n0 (v1, v14, v15, v16, o0, o1) => by kernel_rfl
def zsL (L0 : zdT → Option ((List Int) × Unit)) : (zf × (Int × Unit)) → Option ((List Int) × Unit) := fun (x0, x1, ()) =>
  Option.bind (jl (x0, x1, ())) fun q0 => bif q0.1 then L0 (x1, x0.2.2.2.1, ((List.length x0.2.2.2.1) : Int), 0, x0, []) else some ([], ())
theorem zNS (K : Nat) : evF (zCX jl zb5 vu) K Tryz.f161 0 zrZ zkw = zsL jl (zyX zb5 vu K) := tr1 (T := zsL jl) (zKg jl zb5 vu K K) fun (x0, x1, ()) => by kernel_rfl
end
def zkM : zCf := zsL vC (zyX zp8 zf3 K0)
theorem zNT : Sd Tryz.prog E0 (zpB zkM) := mkS (l := [zds vC, zuz zp8, zjL zf3]) ⟨zAr, zQC, zIr, trivial⟩ Tryz.func161 (by kernel_rfl) (zNS vC zp8 zf3 K0)
section
variable (zdK : zwS) (zAs : zOs) (zoj : zw2) (zsM : zCf) (zt : vD)
def zCY : (zf × ((List (List Int)) × (Int × (Int × Unit)))) → Option (Bool × Unit) := fun (x0, x1, x2, x3, ()) =>
  Option.bind (zdK (x0, x1, ())) fun q0 => bif q0.1 then Option.bind (zAs (x2, ((List.length x0.2.2.1) : Int), ())) fun q1 => bif q1.1 then Option.bind (zAs (x3, ((List.length x0.1) : Int), ())) fun q2 => bif q2.1 then inR x2 ((List.length x0.2.2.1) : Int) (inR x3 ((List.length x0.1) : Int) (bif decide ((ix zwn x0.2.2.1 x2).2.2.1 ≥ (ix zcC x0.1 x3).1) then Option.bind (zsM (x0, x3, ())) fun q3 => Option.bind (zt (q3.1, some fun z => zoj (z.1, some x1, some x2, ()), ())) fun q4 => bif q4.1 then some (false, ()) else some (true, ()) else some (false, ()))) else some (false, ()) else some (false, ()) else some (false, ())
theorem zNU (K : Nat) : evF (En E0 false [zh0 zdK, zDt zAs, zlt zoj, zpB zsM, qt zt]) K Tryz.f63 0 zrH zrI = zCY zdK zAs zoj zsM zt := funext fun (x0, x1, x2, x3, ()) => by kernel_rfl
end
def zkN : zB8 := zCY zaK zAq zhS zkM zH
theorem zNV : Sd Tryz.prog E0 (zoW zkN) := mkS (l := [zh0 zaK, zDt zAq, zlt zhS, zpB zkM, qt zH]) ⟨zGY, zVz, zKc, zNT, y9, trivial⟩ Tryz.func63 (by kernel_rfl) (zNU zaK zAq zhS zkM zH K0)
section
variable (zn : zhZ) (zsN : zB8)
def zMl : (zf × (zr × (Int × Unit))) → Option (pMe × (Int × Unit)) := fun (x0, x1, x2, ()) =>
  Option.bind (zn (x0, x1, ())) fun q0 => bif q0.1 then bif decide (x2 < 0) then some ((0, 0, 0, ()), 1, ()) else bif decide (x2 ≥ ((List.length x0.2.1) : Int)) then some ((0, 0, 0, ()), 1, ()) else inR x2 ((List.length x0.2.1) : Int) (inR x2 ((List.length x1.2.2.2.2.2.1) : Int) (bif ix (0 : Int) x1.2.2.2.2.2.1 x2 == -1 then some ((0, 0, 0, ()), 10, ()) else Option.bind (zsN (x0, x1.2.2.1, ix (0 : Int) x1.2.2.2.2.2.1 x2, ix (0 : Int) x0.2.1 x2, ())) fun q1 => bif q1.1 then some ((x2, ix (0 : Int) x0.2.1 x2, ix (0 : Int) x1.2.2.2.2.2.1 x2, ()), 0, ()) else some ((0, 0, 0, ()), 5, ()))) else some ((0, 0, 0, ()), 1, ())
theorem zUo (K : Nat) : evF (En E0 false [vU zn, zoW zsN]) K Tryz.f20 0 zDp zDq = zMl zn zsN := funext fun (x0, x1, x2, ()) => by kernel_rfl
end
def zkO : zK5 := zMl qM zkN
theorem zUp : Sd Tryz.prog E0 (zAI zkO) := mkS (l := [vU qM, zoW zkN]) ⟨zmC, zNV, trivial⟩ Tryz.func20 (by kernel_rfl) (zUo qM zkN K0)
section
variable (zu9 : zEO) (zs0 : zIE) (zn : zhZ) (zh : zrq) (zva : ztI) (zqO : zF8) (zj : zoN) (zk : zoO) (zvY : zK5)
def zmF : Unit → Option (Bool × Unit) := fun () =>
  Option.bind (zu9 ()) fun q0 => Option.bind (zs0 ((q0.1.1, q0.1.2.1, q0.1.2.2.1, q0.1.2.2.2.1, q0.1.2.2.2.2.1, q0.1.2.2.2.2.2.1, q0.1.2.2.2.2.2.2.1, q0.1.2.2.2.2.2.2.2.1, q0.1.2.2.2.2.2.2.2.2.1, ()), ())) fun q1 => Option.bind (zs0 (([], [], [], [], [], zb tI, zb tI, zb tI, zb tI, ()), ())) fun q2 => bif q1.2.1 != 0 then some (false, ()) else bif q2.2.1 != 1 then some (false, ()) else Option.bind (zn ((q0.1.1, q0.1.2.1, q0.1.2.2.1, q0.1.2.2.2.1, q0.1.2.2.2.2.1, q0.1.2.2.2.2.2.1, q0.1.2.2.2.2.2.2.1, q0.1.2.2.2.2.2.2.2.1, q0.1.2.2.2.2.2.2.2.2.1, ()), (q1.1.1, q1.1.2.1, q1.1.2.2.1, q1.1.2.2.2.1, q1.1.2.2.2.2.1, q1.1.2.2.2.2.2.1, ()), ())) fun q3 => bif q3.1 then Option.bind (zh ((q0.1.1, q0.1.2.1, q0.1.2.2.1, q0.1.2.2.2.1, q0.1.2.2.2.2.1, q0.1.2.2.2.2.2.1, q0.1.2.2.2.2.2.2.1, q0.1.2.2.2.2.2.2.2.1, q0.1.2.2.2.2.2.2.2.2.1, ()), (q1.1.1, q1.1.2.1, q1.1.2.2.1, q1.1.2.2.2.1, q1.1.2.2.2.2.1, q1.1.2.2.2.2.2.1, ()), zb qf, ())) fun q4 => bif q4.1 then Option.bind (zh ((q0.1.1, q0.1.2.1, q0.1.2.2.1, q0.1.2.2.2.1, q0.1.2.2.2.2.1, q0.1.2.2.2.2.2.1, q0.1.2.2.2.2.2.2.1, q0.1.2.2.2.2.2.2.2.1, q0.1.2.2.2.2.2.2.2.2.1, ()), (q1.1.1, q1.1.2.1, q1.1.2.2.1, q1.1.2.2.2.1, q1.1.2.2.2.2.1, q1.1.2.2.2.2.2.1, ()), ((zb qf).1, 1, (zb qf).2.2), ())) fun q5 => bif q5.1 then some (false, ()) else Option.bind (zva ((q1.1.1, q1.1.2.1, q1.1.2.2.1, q1.1.2.2.2.1, q1.1.2.2.2.2.1, q1.1.2.2.2.2.2.1, ()), ())) fun q6 => Option.bind (zqO ((q1.1.1, q1.1.2.1, q1.1.2.2.1, q1.1.2.2.2.1, q1.1.2.2.2.2.1, q1.1.2.2.2.2.2.1, ()), (q6.1.1, q6.1.2.1, q6.1.2.2.1, q6.1.2.2.2.1, q6.1.2.2.2.2.1, q6.1.2.2.2.2.2.1, ()), ())) fun q7 => bif q7.1 then bif ((List.length q6.1.2.1) : Int) != 3 then some (false, ()) else bif ((List.length q6.1.2.2.2.2.2.1) : Int) != 3 then some (false, ()) else bif decide (1 < ((List.length q6.1.2.1) : Int)) then bif decide (List.length q6.1.2.1 ≤ Int.toNat 1) then bif decide (0 < ((List.length (ix za q6.1.2.1 1).2.2.2.2.2.1) : Int)) then none else none else bif decide (0 < ((List.length (ix za q6.1.2.1 1).2.2.2.2.2.1) : Int)) then bif decide (1 < ((List.length q6.1.2.2.2.2.2.1) : Int)) then Option.bind (zj ((q6.1.1, List.set q6.1.2.1 (Int.toNat 1) ((ix za q6.1.2.1 1).1, (ix za q6.1.2.1 1).2.1, (ix za q6.1.2.1 1).2.2.1, (ix za q6.1.2.1 1).2.2.2.1, (ix za q6.1.2.1 1).2.2.2.2.1, List.set (ix za q6.1.2.1 1).2.2.2.2.2.1 (Int.toNat 0) (List.set (List.getD (ix za q6.1.2.1 1).2.2.2.2.2.1 (Int.toNat 0) (zb (Ty.arr 4 tU))) (Int.toNat 2) 5), (ix za q6.1.2.1 1).2.2.2.2.2.2), q6.1.2.2.1, q6.1.2.2.2.1, q6.1.2.2.2.2.1, List.set q6.1.2.2.2.2.2.1 (Int.toNat 1) 0, ()), 2, ())) fun q8 => Option.bind (zk ((q6.1.1, List.set q6.1.2.1 (Int.toNat 1) ((ix za q6.1.2.1 1).1, (ix za q6.1.2.1 1).2.1, (ix za q6.1.2.1 1).2.2.1, (ix za q6.1.2.1 1).2.2.2.1, (ix za q6.1.2.1 1).2.2.2.2.1, List.set (ix za q6.1.2.1 1).2.2.2.2.2.1 (Int.toNat 0) (List.set (List.getD (ix za q6.1.2.1 1).2.2.2.2.2.1 (Int.toNat 0) (zb (Ty.arr 4 tU))) (Int.toNat 2) 5), (ix za q6.1.2.1 1).2.2.2.2.2.2), q6.1.2.2.1, q6.1.2.2.2.1, q6.1.2.2.2.2.1, List.set q6.1.2.2.2.2.2.1 (Int.toNat 1) 0, ()), 2, ())) fun q9 => Option.bind (zvY ((q0.1.1, q0.1.2.1, q0.1.2.2.1, q0.1.2.2.2.1, q0.1.2.2.2.2.1, q0.1.2.2.2.2.2.1, q0.1.2.2.2.2.2.2.1, q0.1.2.2.2.2.2.2.2.1, q0.1.2.2.2.2.2.2.2.2.1, ()), (q1.1.1, q1.1.2.1, q1.1.2.2.1, q1.1.2.2.2.1, q1.1.2.2.2.2.1, q1.1.2.2.2.2.2.1, ()), 1, ())) fun q10 => bif decide (1 < ((List.length (List.set q6.1.2.1 (Int.toNat 1) ((ix za q6.1.2.1 1).1, (ix za q6.1.2.1 1).2.1, (ix za q6.1.2.1 1).2.2.1, (ix za q6.1.2.1 1).2.2.2.1, (ix za q6.1.2.1 1).2.2.2.2.1, List.set (ix za q6.1.2.1 1).2.2.2.2.2.1 (Int.toNat 0) (List.set (List.getD (ix za q6.1.2.1 1).2.2.2.2.2.1 (Int.toNat 0) (zb (Ty.arr 4 tU))) (Int.toNat 2) 5), (ix za q6.1.2.1 1).2.2.2.2.2.2))) : Int)) then Option.bind (zvY ((q0.1.1, q0.1.2.1, q0.1.2.2.1, q0.1.2.2.2.1, q0.1.2.2.2.2.1, q0.1.2.2.2.2.2.1, q0.1.2.2.2.2.2.2.1, q0.1.2.2.2.2.2.2.2.1, q0.1.2.2.2.2.2.2.2.2.1, ()), (q6.1.1, List.set (List.set q6.1.2.1 (Int.toNat 1) ((ix za q6.1.2.1 1).1, (ix za q6.1.2.1 1).2.1, (ix za q6.1.2.1 1).2.2.1, (ix za q6.1.2.1 1).2.2.2.1, (ix za q6.1.2.1 1).2.2.2.2.1, List.set (ix za q6.1.2.1 1).2.2.2.2.2.1 (Int.toNat 0) (List.set (List.getD (ix za q6.1.2.1 1).2.2.2.2.2.1 (Int.toNat 0) (zb (Ty.arr 4 tU))) (Int.toNat 2) 5), (ix za q6.1.2.1 1).2.2.2.2.2.2)) (Int.toNat 1) ((List.getD (List.set q6.1.2.1 (Int.toNat 1) ((ix za q6.1.2.1 1).1, (ix za q6.1.2.1 1).2.1, (ix za q6.1.2.1 1).2.2.1, (ix za q6.1.2.1 1).2.2.2.1, (ix za q6.1.2.1 1).2.2.2.2.1, List.set (ix za q6.1.2.1 1).2.2.2.2.2.1 (Int.toNat 0) (List.set (List.getD (ix za q6.1.2.1 1).2.2.2.2.2.1 (Int.toNat 0) (zb (Ty.arr 4 tU))) (Int.toNat 2) 5), (ix za q6.1.2.1 1).2.2.2.2.2.2)) (Int.toNat 1) (zb zl)).1, (List.getD (List.set q6.1.2.1 (Int.toNat 1) ((ix za q6.1.2.1 1).1, (ix za q6.1.2.1 1).2.1, (ix za q6.1.2.1 1).2.2.1, (ix za q6.1.2.1 1).2.2.2.1, (ix za q6.1.2.1 1).2.2.2.2.1, List.set (ix za q6.1.2.1 1).2.2.2.2.2.1 (Int.toNat 0) (List.set (List.getD (ix za q6.1.2.1 1).2.2.2.2.2.1 (Int.toNat 0) (zb (Ty.arr 4 tU))) (Int.toNat 2) 5), (ix za q6.1.2.1 1).2.2.2.2.2.2)) (Int.toNat 1) (zb zl)).2.1, (List.getD (List.set q6.1.2.1 (Int.toNat 1) ((ix za q6.1.2.1 1).1, (ix za q6.1.2.1 1).2.1, (ix za q6.1.2.1 1).2.2.1, (ix za q6.1.2.1 1).2.2.2.1, (ix za q6.1.2.1 1).2.2.2.2.1, List.set (ix za q6.1.2.1 1).2.2.2.2.2.1 (Int.toNat 0) (List.set (List.getD (ix za q6.1.2.1 1).2.2.2.2.2.1 (Int.toNat 0) (zb (Ty.arr 4 tU))) (Int.toNat 2) 5), (ix za q6.1.2.1 1).2.2.2.2.2.2)) (Int.toNat 1) (zb zl)).2.2.1, (List.getD (List.set q6.1.2.1 (Int.toNat 1) ((ix za q6.1.2.1 1).1, (ix za q6.1.2.1 1).2.1, (ix za q6.1.2.1 1).2.2.1, (ix za q6.1.2.1 1).2.2.2.1, (ix za q6.1.2.1 1).2.2.2.2.1, List.set (ix za q6.1.2.1 1).2.2.2.2.2.1 (Int.toNat 0) (List.set (List.getD (ix za q6.1.2.1 1).2.2.2.2.2.1 (Int.toNat 0) (zb (Ty.arr 4 tU))) (Int.toNat 2) 5), (ix za q6.1.2.1 1).2.2.2.2.2.2)) (Int.toNat 1) (zb zl)).2.2.2.1, (List.getD (List.set q6.1.2.1 (Int.toNat 1) ((ix za q6.1.2.1 1).1, (ix za q6.1.2.1 1).2.1, (ix za q6.1.2.1 1).2.2.1, (ix za q6.1.2.1 1).2.2.2.1, (ix za q6.1.2.1 1).2.2.2.2.1, List.set (ix za q6.1.2.1 1).2.2.2.2.2.1 (Int.toNat 0) (List.set (List.getD (ix za q6.1.2.1 1).2.2.2.2.2.1 (Int.toNat 0) (zb (Ty.arr 4 tU))) (Int.toNat 2) 5), (ix za q6.1.2.1 1).2.2.2.2.2.2)) (Int.toNat 1) (zb zl)).2.2.2.2.1, (List.getD (List.set q6.1.2.1 (Int.toNat 1) ((ix za q6.1.2.1 1).1, (ix za q6.1.2.1 1).2.1, (ix za q6.1.2.1 1).2.2.1, (ix za q6.1.2.1 1).2.2.2.1, (ix za q6.1.2.1 1).2.2.2.2.1, List.set (ix za q6.1.2.1 1).2.2.2.2.2.1 (Int.toNat 0) (List.set (List.getD (ix za q6.1.2.1 1).2.2.2.2.2.1 (Int.toNat 0) (zb (Ty.arr 4 tU))) (Int.toNat 2) 5), (ix za q6.1.2.1 1).2.2.2.2.2.2)) (Int.toNat 1) (zb zl)).2.2.2.2.2.1, (List.getD (List.set q6.1.2.1 (Int.toNat 1) ((ix za q6.1.2.1 1).1, (ix za q6.1.2.1 1).2.1, (ix za q6.1.2.1 1).2.2.1, (ix za q6.1.2.1 1).2.2.2.1, (ix za q6.1.2.1 1).2.2.2.2.1, List.set (ix za q6.1.2.1 1).2.2.2.2.2.1 (Int.toNat 0) (List.set (List.getD (ix za q6.1.2.1 1).2.2.2.2.2.1 (Int.toNat 0) (zb (Ty.arr 4 tU))) (Int.toNat 2) 5), (ix za q6.1.2.1 1).2.2.2.2.2.2)) (Int.toNat 1) (zb zl)).2.2.2.2.2.2.1, List.set (List.getD (List.set q6.1.2.1 (Int.toNat 1) ((ix za q6.1.2.1 1).1, (ix za q6.1.2.1 1).2.1, (ix za q6.1.2.1 1).2.2.1, (ix za q6.1.2.1 1).2.2.2.1, (ix za q6.1.2.1 1).2.2.2.2.1, List.set (ix za q6.1.2.1 1).2.2.2.2.2.1 (Int.toNat 0) (List.set (List.getD (ix za q6.1.2.1 1).2.2.2.2.2.1 (Int.toNat 0) (zb (Ty.arr 4 tU))) (Int.toNat 2) 5), (ix za q6.1.2.1 1).2.2.2.2.2.2)) (Int.toNat 1) (zb zl)).2.2.2.2.2.2.2.1 (Int.toNat 2) 5, (List.getD (List.set q6.1.2.1 (Int.toNat 1) ((ix za q6.1.2.1 1).1, (ix za q6.1.2.1 1).2.1, (ix za q6.1.2.1 1).2.2.1, (ix za q6.1.2.1 1).2.2.2.1, (ix za q6.1.2.1 1).2.2.2.2.1, List.set (ix za q6.1.2.1 1).2.2.2.2.2.1 (Int.toNat 0) (List.set (List.getD (ix za q6.1.2.1 1).2.2.2.2.2.1 (Int.toNat 0) (zb (Ty.arr 4 tU))) (Int.toNat 2) 5), (ix za q6.1.2.1 1).2.2.2.2.2.2)) (Int.toNat 1) (zb zl)).2.2.2.2.2.2.2.2), q6.1.2.2.1, q6.1.2.2.2.1, q6.1.2.2.2.2.1, List.set q6.1.2.2.2.2.2.1 (Int.toNat 1) 0, ()), 1, ())) fun q11 => Option.bind (zqO ((q1.1.1, q1.1.2.1, q1.1.2.2.1, q1.1.2.2.2.1, q1.1.2.2.2.2.1, q1.1.2.2.2.2.2.1, ()), (q6.1.1, List.set (List.set q6.1.2.1 (Int.toNat 1) ((ix za q6.1.2.1 1).1, (ix za q6.1.2.1 1).2.1, (ix za q6.1.2.1 1).2.2.1, (ix za q6.1.2.1 1).2.2.2.1, (ix za q6.1.2.1 1).2.2.2.2.1, List.set (ix za q6.1.2.1 1).2.2.2.2.2.1 (Int.toNat 0) (List.set (List.getD (ix za q6.1.2.1 1).2.2.2.2.2.1 (Int.toNat 0) (zb (Ty.arr 4 tU))) (Int.toNat 2) 5), (ix za q6.1.2.1 1).2.2.2.2.2.2)) (Int.toNat 1) ((List.getD (List.set q6.1.2.1 (Int.toNat 1) ((ix za q6.1.2.1 1).1, (ix za q6.1.2.1 1).2.1, (ix za q6.1.2.1 1).2.2.1, (ix za q6.1.2.1 1).2.2.2.1, (ix za q6.1.2.1 1).2.2.2.2.1, List.set (ix za q6.1.2.1 1).2.2.2.2.2.1 (Int.toNat 0) (List.set (List.getD (ix za q6.1.2.1 1).2.2.2.2.2.1 (Int.toNat 0) (zb (Ty.arr 4 tU))) (Int.toNat 2) 5), (ix za q6.1.2.1 1).2.2.2.2.2.2)) (Int.toNat 1) (zb zl)).1, (List.getD (List.set q6.1.2.1 (Int.toNat 1) ((ix za q6.1.2.1 1).1, (ix za q6.1.2.1 1).2.1, (ix za q6.1.2.1 1).2.2.1, (ix za q6.1.2.1 1).2.2.2.1, (ix za q6.1.2.1 1).2.2.2.2.1, List.set (ix za q6.1.2.1 1).2.2.2.2.2.1 (Int.toNat 0) (List.set (List.getD (ix za q6.1.2.1 1).2.2.2.2.2.1 (Int.toNat 0) (zb (Ty.arr 4 tU))) (Int.toNat 2) 5), (ix za q6.1.2.1 1).2.2.2.2.2.2)) (Int.toNat 1) (zb zl)).2.1, (List.getD (List.set q6.1.2.1 (Int.toNat 1) ((ix za q6.1.2.1 1).1, (ix za q6.1.2.1 1).2.1, (ix za q6.1.2.1 1).2.2.1, (ix za q6.1.2.1 1).2.2.2.1, (ix za q6.1.2.1 1).2.2.2.2.1, List.set (ix za q6.1.2.1 1).2.2.2.2.2.1 (Int.toNat 0) (List.set (List.getD (ix za q6.1.2.1 1).2.2.2.2.2.1 (Int.toNat 0) (zb (Ty.arr 4 tU))) (Int.toNat 2) 5), (ix za q6.1.2.1 1).2.2.2.2.2.2)) (Int.toNat 1) (zb zl)).2.2.1, (List.getD (List.set q6.1.2.1 (Int.toNat 1) ((ix za q6.1.2.1 1).1, (ix za q6.1.2.1 1).2.1, (ix za q6.1.2.1 1).2.2.1, (ix za q6.1.2.1 1).2.2.2.1, (ix za q6.1.2.1 1).2.2.2.2.1, List.set (ix za q6.1.2.1 1).2.2.2.2.2.1 (Int.toNat 0) (List.set (List.getD (ix za q6.1.2.1 1).2.2.2.2.2.1 (Int.toNat 0) (zb (Ty.arr 4 tU))) (Int.toNat 2) 5), (ix za q6.1.2.1 1).2.2.2.2.2.2)) (Int.toNat 1) (zb zl)).2.2.2.1, (List.getD (List.set q6.1.2.1 (Int.toNat 1) ((ix za q6.1.2.1 1).1, (ix za q6.1.2.1 1).2.1, (ix za q6.1.2.1 1).2.2.1, (ix za q6.1.2.1 1).2.2.2.1, (ix za q6.1.2.1 1).2.2.2.2.1, List.set (ix za q6.1.2.1 1).2.2.2.2.2.1 (Int.toNat 0) (List.set (List.getD (ix za q6.1.2.1 1).2.2.2.2.2.1 (Int.toNat 0) (zb (Ty.arr 4 tU))) (Int.toNat 2) 5), (ix za q6.1.2.1 1).2.2.2.2.2.2)) (Int.toNat 1) (zb zl)).2.2.2.2.1, (List.getD (List.set q6.1.2.1 (Int.toNat 1) ((ix za q6.1.2.1 1).1, (ix za q6.1.2.1 1).2.1, (ix za q6.1.2.1 1).2.2.1, (ix za q6.1.2.1 1).2.2.2.1, (ix za q6.1.2.1 1).2.2.2.2.1, List.set (ix za q6.1.2.1 1).2.2.2.2.2.1 (Int.toNat 0) (List.set (List.getD (ix za q6.1.2.1 1).2.2.2.2.2.1 (Int.toNat 0) (zb (Ty.arr 4 tU))) (Int.toNat 2) 5), (ix za q6.1.2.1 1).2.2.2.2.2.2)) (Int.toNat 1) (zb zl)).2.2.2.2.2.1, (List.getD (List.set q6.1.2.1 (Int.toNat 1) ((ix za q6.1.2.1 1).1, (ix za q6.1.2.1 1).2.1, (ix za q6.1.2.1 1).2.2.1, (ix za q6.1.2.1 1).2.2.2.1, (ix za q6.1.2.1 1).2.2.2.2.1, List.set (ix za q6.1.2.1 1).2.2.2.2.2.1 (Int.toNat 0) (List.set (List.getD (ix za q6.1.2.1 1).2.2.2.2.2.1 (Int.toNat 0) (zb (Ty.arr 4 tU))) (Int.toNat 2) 5), (ix za q6.1.2.1 1).2.2.2.2.2.2)) (Int.toNat 1) (zb zl)).2.2.2.2.2.2.1, List.set (List.getD (List.set q6.1.2.1 (Int.toNat 1) ((ix za q6.1.2.1 1).1, (ix za q6.1.2.1 1).2.1, (ix za q6.1.2.1 1).2.2.1, (ix za q6.1.2.1 1).2.2.2.1, (ix za q6.1.2.1 1).2.2.2.2.1, List.set (ix za q6.1.2.1 1).2.2.2.2.2.1 (Int.toNat 0) (List.set (List.getD (ix za q6.1.2.1 1).2.2.2.2.2.1 (Int.toNat 0) (zb (Ty.arr 4 tU))) (Int.toNat 2) 5), (ix za q6.1.2.1 1).2.2.2.2.2.2)) (Int.toNat 1) (zb zl)).2.2.2.2.2.2.2.1 (Int.toNat 2) 5, (List.getD (List.set q6.1.2.1 (Int.toNat 1) ((ix za q6.1.2.1 1).1, (ix za q6.1.2.1 1).2.1, (ix za q6.1.2.1 1).2.2.1, (ix za q6.1.2.1 1).2.2.2.1, (ix za q6.1.2.1 1).2.2.2.2.1, List.set (ix za q6.1.2.1 1).2.2.2.2.2.1 (Int.toNat 0) (List.set (List.getD (ix za q6.1.2.1 1).2.2.2.2.2.1 (Int.toNat 0) (zb (Ty.arr 4 tU))) (Int.toNat 2) 5), (ix za q6.1.2.1 1).2.2.2.2.2.2)) (Int.toNat 1) (zb zl)).2.2.2.2.2.2.2.2), q6.1.2.2.1, q6.1.2.2.2.1, q6.1.2.2.2.2.1, List.set q6.1.2.2.2.2.2.1 (Int.toNat 1) 0, ()), ())) fun q12 => bif q12.1 then some (false, ()) else bif decide (1 < ((List.length q1.1.2.2.2.2.2.1) : Int)) then bif ix (0 : Int) q1.1.2.2.2.2.2.1 1 == -1 then bif decide (1 < ((List.length q1.1.2.1) : Int)) then bif decide (0 < ((List.length (ix za q1.1.2.1 1).2.2.2.2.2.1) : Int)) then bif List.getD (List.getD (ix za q1.1.2.1 1).2.2.2.2.2.1 (Int.toNat 0) (zb (Ty.arr 4 tU))) (Int.toNat 2) (0 : Int) == 0 then bif q8.1 == 5 then bif q8.2.1 == 0 then bif q9.1 == 0 then bif q9.2.1 == 0 then bif q10.2.1 == 10 then bif q11.2.1 == 0 then bif eqI tMe q11.1 (1, 1, (zb tMe).2.2) then Option.bind (zn ((q0.1.1, q0.1.2.1, q0.1.2.2.1, q0.1.2.2.2.1, q0.1.2.2.2.2.1, q0.1.2.2.2.2.2.1, q0.1.2.2.2.2.2.2.1, q0.1.2.2.2.2.2.2.2.1, q0.1.2.2.2.2.2.2.2.2.1, ()), (q6.1.1, List.set (List.set q6.1.2.1 (Int.toNat 1) ((ix za q6.1.2.1 1).1, (ix za q6.1.2.1 1).2.1, (ix za q6.1.2.1 1).2.2.1, (ix za q6.1.2.1 1).2.2.2.1, (ix za q6.1.2.1 1).2.2.2.2.1, List.set (ix za q6.1.2.1 1).2.2.2.2.2.1 (Int.toNat 0) (List.set (List.getD (ix za q6.1.2.1 1).2.2.2.2.2.1 (Int.toNat 0) (zb (Ty.arr 4 tU))) (Int.toNat 2) 5), (ix za q6.1.2.1 1).2.2.2.2.2.2)) (Int.toNat 1) ((List.getD (List.set q6.1.2.1 (Int.toNat 1) ((ix za q6.1.2.1 1).1, (ix za q6.1.2.1 1).2.1, (ix za q6.1.2.1 1).2.2.1, (ix za q6.1.2.1 1).2.2.2.1, (ix za q6.1.2.1 1).2.2.2.2.1, List.set (ix za q6.1.2.1 1).2.2.2.2.2.1 (Int.toNat 0) (List.set (List.getD (ix za q6.1.2.1 1).2.2.2.2.2.1 (Int.toNat 0) (zb (Ty.arr 4 tU))) (Int.toNat 2) 5), (ix za q6.1.2.1 1).2.2.2.2.2.2)) (Int.toNat 1) (zb zl)).1, (List.getD (List.set q6.1.2.1 (Int.toNat 1) ((ix za q6.1.2.1 1).1, (ix za q6.1.2.1 1).2.1, (ix za q6.1.2.1 1).2.2.1, (ix za q6.1.2.1 1).2.2.2.1, (ix za q6.1.2.1 1).2.2.2.2.1, List.set (ix za q6.1.2.1 1).2.2.2.2.2.1 (Int.toNat 0) (List.set (List.getD (ix za q6.1.2.1 1).2.2.2.2.2.1 (Int.toNat 0) (zb (Ty.arr 4 tU))) (Int.toNat 2) 5), (ix za q6.1.2.1 1).2.2.2.2.2.2)) (Int.toNat 1) (zb zl)).2.1, (List.getD (List.set q6.1.2.1 (Int.toNat 1) ((ix za q6.1.2.1 1).1, (ix za q6.1.2.1 1).2.1, (ix za q6.1.2.1 1).2.2.1, (ix za q6.1.2.1 1).2.2.2.1, (ix za q6.1.2.1 1).2.2.2.2.1, List.set (ix za q6.1.2.1 1).2.2.2.2.2.1 (Int.toNat 0) (List.set (List.getD (ix za q6.1.2.1 1).2.2.2.2.2.1 (Int.toNat 0) (zb (Ty.arr 4 tU))) (Int.toNat 2) 5), (ix za q6.1.2.1 1).2.2.2.2.2.2)) (Int.toNat 1) (zb zl)).2.2.1, (List.getD (List.set q6.1.2.1 (Int.toNat 1) ((ix za q6.1.2.1 1).1, (ix za q6.1.2.1 1).2.1, (ix za q6.1.2.1 1).2.2.1, (ix za q6.1.2.1 1).2.2.2.1, (ix za q6.1.2.1 1).2.2.2.2.1, List.set (ix za q6.1.2.1 1).2.2.2.2.2.1 (Int.toNat 0) (List.set (List.getD (ix za q6.1.2.1 1).2.2.2.2.2.1 (Int.toNat 0) (zb (Ty.arr 4 tU))) (Int.toNat 2) 5), (ix za q6.1.2.1 1).2.2.2.2.2.2)) (Int.toNat 1) (zb zl)).2.2.2.1, (List.getD (List.set q6.1.2.1 (Int.toNat 1) ((ix za q6.1.2.1 1).1, (ix za q6.1.2.1 1).2.1, (ix za q6.1.2.1 1).2.2.1, (ix za q6.1.2.1 1).2.2.2.1, (ix za q6.1.2.1 1).2.2.2.2.1, List.set (ix za q6.1.2.1 1).2.2.2.2.2.1 (Int.toNat 0) (List.set (List.getD (ix za q6.1.2.1 1).2.2.2.2.2.1 (Int.toNat 0) (zb (Ty.arr 4 tU))) (Int.toNat 2) 5), (ix za q6.1.2.1 1).2.2.2.2.2.2)) (Int.toNat 1) (zb zl)).2.2.2.2.1, (List.getD (List.set q6.1.2.1 (Int.toNat 1) ((ix za q6.1.2.1 1).1, (ix za q6.1.2.1 1).2.1, (ix za q6.1.2.1 1).2.2.1, (ix za q6.1.2.1 1).2.2.2.1, (ix za q6.1.2.1 1).2.2.2.2.1, List.set (ix za q6.1.2.1 1).2.2.2.2.2.1 (Int.toNat 0) (List.set (List.getD (ix za q6.1.2.1 1).2.2.2.2.2.1 (Int.toNat 0) (zb (Ty.arr 4 tU))) (Int.toNat 2) 5), (ix za q6.1.2.1 1).2.2.2.2.2.2)) (Int.toNat 1) (zb zl)).2.2.2.2.2.1, (List.getD (List.set q6.1.2.1 (Int.toNat 1) ((ix za q6.1.2.1 1).1, (ix za q6.1.2.1 1).2.1, (ix za q6.1.2.1 1).2.2.1, (ix za q6.1.2.1 1).2.2.2.1, (ix za q6.1.2.1 1).2.2.2.2.1, List.set (ix za q6.1.2.1 1).2.2.2.2.2.1 (Int.toNat 0) (List.set (List.getD (ix za q6.1.2.1 1).2.2.2.2.2.1 (Int.toNat 0) (zb (Ty.arr 4 tU))) (Int.toNat 2) 5), (ix za q6.1.2.1 1).2.2.2.2.2.2)) (Int.toNat 1) (zb zl)).2.2.2.2.2.2.1, List.set (List.getD (List.set q6.1.2.1 (Int.toNat 1) ((ix za q6.1.2.1 1).1, (ix za q6.1.2.1 1).2.1, (ix za q6.1.2.1 1).2.2.1, (ix za q6.1.2.1 1).2.2.2.1, (ix za q6.1.2.1 1).2.2.2.2.1, List.set (ix za q6.1.2.1 1).2.2.2.2.2.1 (Int.toNat 0) (List.set (List.getD (ix za q6.1.2.1 1).2.2.2.2.2.1 (Int.toNat 0) (zb (Ty.arr 4 tU))) (Int.toNat 2) 5), (ix za q6.1.2.1 1).2.2.2.2.2.2)) (Int.toNat 1) (zb zl)).2.2.2.2.2.2.2.1 (Int.toNat 2) 5, (List.getD (List.set q6.1.2.1 (Int.toNat 1) ((ix za q6.1.2.1 1).1, (ix za q6.1.2.1 1).2.1, (ix za q6.1.2.1 1).2.2.1, (ix za q6.1.2.1 1).2.2.2.1, (ix za q6.1.2.1 1).2.2.2.2.1, List.set (ix za q6.1.2.1 1).2.2.2.2.2.1 (Int.toNat 0) (List.set (List.getD (ix za q6.1.2.1 1).2.2.2.2.2.1 (Int.toNat 0) (zb (Ty.arr 4 tU))) (Int.toNat 2) 5), (ix za q6.1.2.1 1).2.2.2.2.2.2)) (Int.toNat 1) (zb zl)).2.2.2.2.2.2.2.2), q6.1.2.2.1, q6.1.2.2.2.1, q6.1.2.2.2.2.1, List.set q6.1.2.2.2.2.2.1 (Int.toNat 1) 0, ()), ())) fun q13 => bif q13.1 then some (true, ()) else some (false, ()) else some (false, ()) else some (false, ()) else some (false, ()) else some (false, ()) else some (false, ()) else some (false, ()) else some (false, ()) else some (false, ()) else none else none else some (false, ()) else none else none else none else none else none else some (false, ()) else some (false, ()) else some (false, ())
theorem zPv (K : Nat) : evF (En E0 true [zrJ zu9, zwo zs0, vU zn, zeR zh, zrs zva, ztJ zqO, zcq zj, zcr zk, zAI zvY]) K Tryz.f21 0 ztF ztG = zmF zu9 zs0 zn zh zva zqO zj zk zvY := funext fun () => by kernel_rfl
end
def vR : zEH := zmF zeu zih qM qj zcz zgX qO qP zkO
theorem zPw : Sd Tryz.prog E0 (zrr vR) := mkS (l := [zrJ zeu, zwo zih, vU qM, zeR qj, zrs zcz, ztJ zgX, zcq qO, zcr qP, zAI zkO]) ⟨zOJ, zSu, zmC, zCP, zPs, zRv, zyE, zyJ, zUp, trivial⟩ Tryz.func21 (by kernel_rfl) (zPv zeu zih qM qj zcz zgX qO qP zkO K0)
end
end Go.Proofs.YtaokpakfhdeiiaaGreatDoor
end
section
namespace Go.Proofs.YtaokpakfhdeiiaaGreatDoor
open Go.Ev
set_option linter.unusedVariables false
noncomputable section
section
variable (jl : zpg) (zfR : zAP)
def zBQ : (zf × (Int × (Int × Unit))) → Option (Bool × Unit) := fun (x0, x1, x2, ()) =>
  Option.bind (jl (x0, x1, ())) fun q0 => bif q0.1 then Option.bind (jl (x0, x2, ())) fun q1 => bif q1.1 then inR x1 ((List.length x0.1) : Int) (inR x2 ((List.length x0.1) : Int) (Option.bind (zfR (ix zcC x0.1 x1, ix zcC x0.1 x2, ())) fun q2 => bif q2.1 then some (true, ()) else some (false, ()))) else some (false, ()) else some (false, ())
theorem zSM (K : Nat) : evF (En E0 false [zds jl, zjs zfR]) K Tryz.f28 0 zAJ zAK = zBQ jl zfR := funext fun (x0, x1, x2, ()) => by kernel_rfl
end
def ve : zIF := zBQ vC zbM
theorem zSN : Sd Tryz.prog E0 (zwu ve) := mkS (l := [zds vC, zjs zbM]) ⟨zAr, zIP, trivial⟩ Tryz.func28 (by kernel_rfl) (zSM vC zbM K0)
end
end Go.Proofs.YtaokpakfhdeiiaaGreatDoor
end
section
namespace Go.Proofs.YtaokpakfhdeiiaaGreatDoor
open Go.Ev
set_option linter.unusedVariables false
theorem zMm {l : List Int} {g : Int × Unit → Option (Bool × Unit)} {p : Int → Bool} (hl : l.length ≤ Go.maxLen) (hp : ∀ x ∈ l, g (x, ()) = some (p x, ())) : y8 (l, some g, ()) = some (zaz p l 0, ()) := jI (τ := tI) (B := zhx) (fun _ _ _ _ _ => rfl) hl hp
theorem zfi {l : List Int} {g : Int × Unit → Option (Bool × Unit)} {p : Int → Bool} (hl : l.length ≤ Go.maxLen) (hp : ∀ x ∈ l, g (x, ()) = some (p x, ())) : zH (l, some g, ()) = some (l.any p, ()) := qV (τ := tI) (f := y8) (zMm hl hp)
theorem zIs {l : List zM} {g : zM × Unit → Option (Bool × Unit)} {p : zM → Bool} (hl : l.length ≤ Go.maxLen) (hp : ∀ x ∈ l, g (x, ()) = some (p x, ())) : vW (l, some g, ()) = some (zaz p l 0, ()) := jI (τ := zS) (B := zfD) (fun _ _ _ _ _ => rfl) hl hp
theorem zqP {l : List zM} {g : zM × Unit → Option (Bool × Unit)} {p : zM → Bool} (hl : l.length ≤ Go.maxLen) (hp : ∀ x ∈ l, g (x, ()) = some (p x, ())) : qN (l, some g, ()) = some (l.any p, ()) := qV (τ := zS) (f := vW) (zIs hl hp)
theorem zFP {l : List jg} {g : jg × Unit → Option (Bool × Unit)} {p : jg → Bool} (hl : l.length ≤ Go.maxLen) (hp : ∀ x ∈ l, g (x, ()) = some (p x, ())) : vq (l, some g, ()) = some (zaz p l 0, ()) := jI (τ := jP) (B := zdB) (fun _ _ _ _ _ => rfl) hl hp
theorem zBR {l : List jg} {g : jg × Unit → Option (Bool × Unit)} {p : jg → Bool} (hl : l.length ≤ Go.maxLen) (hp : ∀ x ∈ l, g (x, ()) = some (p x, ())) : vx (l, some g, ()) = some (l.any p, ()) := qV (τ := jP) (f := vq) (zFP hl hp)
theorem zIt {l : List zm} {g : zm × Unit → Option (Bool × Unit)} {p : zm → Bool} (hl : l.length ≤ Go.maxLen) (hp : ∀ x ∈ l, g (x, ()) = some (p x, ())) : ya (l, some g, ()) = some (zaz p l 0, ()) := jI (τ := zl) (B := zfI) (fun _ _ _ _ _ => rfl) hl hp
theorem zEc {l : List zm} {g : zm × Unit → Option (Bool × Unit)} {p : zm → Bool} (hl : l.length ≤ Go.maxLen) (hp : ∀ x ∈ l, g (x, ()) = some (p x, ())) : jD (l, some g, ()) = some (l.any p, ()) := qV (τ := zl) (f := ya) (zIt hl hp)
theorem zKh {l : List jM} {g : jM × Unit → Option (Bool × Unit)} {p : jM → Bool} (hl : l.length ≤ Go.maxLen) (hp : ∀ x ∈ l, g (x, ()) = some (p x, ())) : yx (l, some g, ()) = some (zaz p l 0, ()) := jI (τ := je) (B := zgt) (fun _ _ _ _ _ => rfl) hl hp
theorem zFQ {l : List jM} {g : jM × Unit → Option (Bool × Unit)} {p : jM → Bool} (hl : l.length ≤ Go.maxLen) (hp : ∀ x ∈ l, g (x, ()) = some (p x, ())) : yJ (l, some g, ()) = some (l.any p, ()) := qV (τ := je) (f := yx) (zKh hl hp)
theorem zKi {l : List zW} {g : zW × Unit → Option (Bool × Unit)} {p : zW → Bool} (hl : l.length ≤ Go.maxLen) (hp : ∀ x ∈ l, g (x, ()) = some (p x, ())) : yy (l, some g, ()) = some (zaz p l 0, ()) := jI (τ := qi) (B := zgA) (fun _ _ _ _ _ => rfl) hl hp
theorem zrj {l : List zW} {g : zW × Unit → Option (Bool × Unit)} {p : zW → Bool} (hl : l.length ≤ Go.maxLen) (hp : ∀ x ∈ l, g (x, ()) = some (p x, ())) : qD (l, some g, ()) = some (l.any p, ()) := qV (τ := qi) (f := yy) (zKi hl hp)
theorem zKj {l : List qr} {g : qr × Unit → Option (Bool × Unit)} {p : qr → Bool} (hl : l.length ≤ Go.maxLen) (hp : ∀ x ∈ l, g (x, ()) = some (p x, ())) : yz (l, some g, ()) = some (zaz p l 0, ()) := jI (τ := qB) (B := zgB) (fun _ _ _ _ _ => rfl) hl hp
theorem zrk {l : List qr} {g : qr × Unit → Option (Bool × Unit)} {p : qr → Bool} (hl : l.length ≤ Go.maxLen) (hp : ∀ x ∈ l, g (x, ()) = some (p x, ())) : qE (l, some g, ()) = some (l.any p, ()) := qV (τ := qB) (f := yz) (zKj hl hp)
theorem zIu {l : List zq} {g : zq × Unit → Option (Bool × Unit)} {p : zq → Bool} (hl : l.length ≤ Go.maxLen) (hp : ∀ x ∈ l, g (x, ()) = some (p x, ())) : yb (l, some g, ()) = some (zaz p l 0, ()) := jI (τ := zI) (B := zfM) (fun _ _ _ _ _ => rfl) hl hp
theorem zqQ {l : List zq} {g : zq × Unit → Option (Bool × Unit)} {p : zq → Bool} (hl : l.length ≤ Go.maxLen) (hp : ∀ x ∈ l, g (x, ()) = some (p x, ())) : qw (l, some g, ()) = some (l.any p, ()) := qV (τ := zI) (f := yb) (zIu hl hp)
theorem zIv {l : List zp} {g : zp × Unit → Option (Bool × Unit)} {p : zp → Bool} (hl : l.length ≤ Go.maxLen) (hp : ∀ x ∈ l, g (x, ()) = some (p x, ())) : yc (l, some g, ()) = some (zaz p l 0, ()) := jI (τ := zv) (B := zfP) (fun _ _ _ _ _ => rfl) hl hp
theorem zEd {l : List zp} {g : zp × Unit → Option (Bool × Unit)} {p : zp → Bool} (hl : l.length ≤ Go.maxLen) (hp : ∀ x ∈ l, g (x, ()) = some (p x, ())) : jF (l, some g, ()) = some (l.any p, ()) := qV (τ := zv) (f := yc) (zIv hl hp)
theorem zIw {l : List zK} {g : zK × Unit → Option (Bool × Unit)} {p : zK → Bool} (hl : l.length ≤ Go.maxLen) (hp : ∀ x ∈ l, g (x, ()) = some (p x, ())) : yd (l, some g, ()) = some (zaz p l 0, ()) := jI (τ := zF) (B := zfQ) (fun _ _ _ _ _ => rfl) hl hp
theorem zEe {l : List zK} {g : zK × Unit → Option (Bool × Unit)} {p : zK → Bool} (hl : l.length ≤ Go.maxLen) (hp : ∀ x ∈ l, g (x, ()) = some (p x, ())) : jG (l, some g, ()) = some (l.any p, ()) := qV (τ := zF) (f := yd) (zIw hl hp)
theorem zyY {l : List z9} {g : z9 × Unit → Option (Bool × Unit)} {p : z9 → Bool} (hl : l.length ≤ Go.maxLen) (hp : ∀ x ∈ l, g (x, ()) = some (p x, ())) : jx (l, some g, ()) = some (zaz p l 0, ()) := jI (τ := qq) (B := zgx) (fun _ _ _ _ _ => rfl) hl hp
theorem zFR {l : List z9} {g : z9 × Unit → Option (Bool × Unit)} {p : z9 → Bool} (hl : l.length ≤ Go.maxLen) (hp : ∀ x ∈ l, g (x, ()) = some (p x, ())) : jT (l, some g, ()) = some (l.any p, ()) := qV (τ := qq) (f := jx) (zyY hl hp)
theorem zMn {l : List jC} {g : jC × Unit → Option (Bool × Unit)} {p : jC → Bool} (hl : l.length ≤ Go.maxLen) (hp : ∀ x ∈ l, g (x, ()) = some (p x, ())) : zan (l, some g, ()) = some (zaz p l 0, ()) := jI (τ := qf) (B := zhK) (fun _ _ _ _ _ => rfl) hl hp
theorem zHj {l : List jC} {g : jC × Unit → Option (Bool × Unit)} {p : jC → Bool} (hl : l.length ≤ Go.maxLen) (hp : ∀ x ∈ l, g (x, ()) = some (p x, ())) : va (l, some g, ()) = some (l.any p, ()) := qV (τ := qf) (f := zan) (zMn hl hp)
theorem zKk {l : List Int} {g : Int × Unit → Option (Bool × Unit)} {p : Int → Bool} (hl : l.length ≤ Go.maxLen) (hp : ∀ x ∈ l, g (x, ()) = some (p x, ())) : yu (l, some g, ()) = some (zaz p l 0, ()) := jI (τ := (Ty.int .u8)) (B := zgp) (fun _ _ _ _ _ => rfl) hl hp
theorem zFS {l : List Int} {g : Int × Unit → Option (Bool × Unit)} {p : Int → Bool} (hl : l.length ≤ Go.maxLen) (hp : ∀ x ∈ l, g (x, ()) = some (p x, ())) : jQ (l, some g, ()) = some (l.any p, ()) := qV (τ := (Ty.int .u8)) (f := yu) (zKk hl hp)
theorem zSO {l : List zm} {g : zm × Unit → Option (Bool × Unit)} {p : zm → Bool} (hl : l.length ≤ Go.maxLen) (hp : ∀ x ∈ l, g (x, ()) = some (p x, ())) : zcK (l, some g, ()) = some (l.all p, ()) := by
  have h : jD (l, some fun z => yw (z.1, some (some g), ()), ()) = some (l.any fun x => !p x, ()) := zEc hl fun x hx => by
    show Option.bind (g (x, ())) (fun q => bif q.1 then some (false, ()) else some (true, ())) = _
    rw [hp x hx]; cases p x <;> rfl
  show Option.bind (jD (l, some fun z => yw (z.1, some (some g), ()), ())) (fun q => bif q.1 then some (false, ()) else some (true, ())) = _
  rw [h, ← yt]; cases l.any fun x => !p x <;> rfl
theorem zSP {l : List zp} {g : zp × Unit → Option (Bool × Unit)} {p : zp → Bool} (hl : l.length ≤ Go.maxLen) (hp : ∀ x ∈ l, g (x, ()) = some (p x, ())) : zcL (l, some g, ()) = some (l.all p, ()) := by
  have h : jF (l, some fun z => yA (z.1, some (some g), ()), ()) = some (l.any fun x => !p x, ()) := zEd hl fun x hx => by
    show Option.bind (g (x, ())) (fun q => bif q.1 then some (false, ()) else some (true, ())) = _
    rw [hp x hx]; cases p x <;> rfl
  show Option.bind (jF (l, some fun z => yA (z.1, some (some g), ()), ())) (fun q => bif q.1 then some (false, ()) else some (true, ())) = _
  rw [h, ← yt]; cases l.any fun x => !p x <;> rfl
theorem zSQ {l : List zK} {g : zK × Unit → Option (Bool × Unit)} {p : zK → Bool} (hl : l.length ≤ Go.maxLen) (hp : ∀ x ∈ l, g (x, ()) = some (p x, ())) : zcM (l, some g, ()) = some (l.all p, ()) := by
  have h : jG (l, some fun z => yB (z.1, some (some g), ()), ()) = some (l.any fun x => !p x, ()) := zEe hl fun x hx => by
    show Option.bind (g (x, ())) (fun q => bif q.1 then some (false, ()) else some (true, ())) = _
    rw [hp x hx]; cases p x <;> rfl
  show Option.bind (jG (l, some fun z => yB (z.1, some (some g), ()), ())) (fun q => bif q.1 then some (false, ()) else some (true, ())) = _
  rw [h, ← yt]; cases l.any fun x => !p x <;> rfl
theorem zVA {l : List Int} {g : Int × Unit → Option (Bool × Unit)} {p : Int → Bool} (hl : l.length ≤ Go.maxLen) (hp : ∀ x ∈ l, g (x, ()) = some (p x, ())) : ze2 (l, some g, ()) = some (l.all p, ()) := by
  have h : zH (l, some fun z => zaY (z.1, some (some g), ()), ()) = some (l.any fun x => !p x, ()) := zfi hl fun x hx => by
    show Option.bind (g (x, ())) (fun q => bif q.1 then some (false, ()) else some (true, ())) = _
    rw [hp x hx]; cases p x <;> rfl
  show Option.bind (zH (l, some fun z => zaY (z.1, some (some g), ()), ())) (fun q => bif q.1 then some (false, ()) else some (true, ())) = _
  rw [h, ← yt]; cases l.any fun x => !p x <;> rfl
theorem zUq {l : List z9} {g : z9 × Unit → Option (Bool × Unit)} {p : z9 → Bool} (hl : l.length ≤ Go.maxLen) (hp : ∀ x ∈ l, g (x, ()) = some (p x, ())) : zby (l, some g, ()) = some (l.all p, ()) := by
  have h : jT (l, some fun z => zal (z.1, some (some g), ()), ()) = some (l.any fun x => !p x, ()) := zFR hl fun x hx => by
    show Option.bind (g (x, ())) (fun q => bif q.1 then some (false, ()) else some (true, ())) = _
    rw [hp x hx]; cases p x <;> rfl
  show Option.bind (jT (l, some fun z => zal (z.1, some (some g), ()), ())) (fun q => bif q.1 then some (false, ()) else some (true, ())) = _
  rw [h, ← yt]; cases l.any fun x => !p x <;> rfl
theorem zMo {l : List zW} {g : zW × Unit → Option (Bool × Unit)} {p : zW → Bool} (hl : l.length ≤ Go.maxLen) (hp : ∀ x ∈ l, g (x, ()) = some (p x, ())) : qG (l, some g, ()) = some (l.all p, ()) := by
  have h : qD (l, some fun z => zam (z.1, some (some g), ()), ()) = some (l.any fun x => !p x, ()) := zrj hl fun x hx => by
    show Option.bind (g (x, ())) (fun q => bif q.1 then some (false, ()) else some (true, ())) = _
    rw [hp x hx]; cases p x <;> rfl
  show Option.bind (qD (l, some fun z => zam (z.1, some (some g), ()), ())) (fun q => bif q.1 then some (false, ()) else some (true, ())) = _
  rw [h, ← yt]; cases l.any fun x => !p x <;> rfl
theorem zVB {l : List jC} {g : jC × Unit → Option (Bool × Unit)} {p : jC → Bool} (hl : l.length ≤ Go.maxLen) (hp : ∀ x ∈ l, g (x, ()) = some (p x, ())) : zcd (l, some g, ()) = some (l.all p, ()) := by
  have h : va (l, some fun z => zaZ (z.1, some (some g), ()), ()) = some (l.any fun x => !p x, ()) := zHj hl fun x hx => by
    show Option.bind (g (x, ())) (fun q => bif q.1 then some (false, ()) else some (true, ())) = _
    rw [hp x hx]; cases p x <;> rfl
  show Option.bind (va (l, some fun z => zaZ (z.1, some (some g), ()), ())) (fun q => bif q.1 then some (false, ()) else some (true, ())) = _
  rw [h, ← yt]; cases l.any fun x => !p x <;> rfl
theorem zUr {l : List qr} {g : qr × Unit → Option (Bool × Unit)} {p : qr → Bool} (hl : l.length ≤ Go.maxLen) (hp : ∀ x ∈ l, g (x, ()) = some (p x, ())) : jU (l, some g, ()) = some (l.all p, ()) := by
  have h : qE (l, some fun z => zao (z.1, some (some g), ()), ()) = some (l.any fun x => !p x, ()) := zrk hl fun x hx => by
    show Option.bind (g (x, ())) (fun q => bif q.1 then some (false, ()) else some (true, ())) = _
    rw [hp x hx]; cases p x <;> rfl
  show Option.bind (qE (l, some fun z => zao (z.1, some (some g), ()), ())) (fun q => bif q.1 then some (false, ()) else some (true, ())) = _
  rw [h, ← yt]; cases l.any fun x => !p x <;> rfl
theorem zSR {l : List zq} {g : zq × Unit → Option (Bool × Unit)} {p : zq → Bool} (hl : l.length ≤ Go.maxLen) (hp : ∀ x ∈ l, g (x, ()) = some (p x, ())) : jz (l, some g, ()) = some (l.all p, ()) := by
  have h : qw (l, some fun z => yC (z.1, some (some g), ()), ()) = some (l.any fun x => !p x, ()) := zqQ hl fun x hx => by
    show Option.bind (g (x, ())) (fun q => bif q.1 then some (false, ()) else some (true, ())) = _
    rw [hp x hx]; cases p x <;> rfl
  show Option.bind (qw (l, some fun z => yC (z.1, some (some g), ()), ())) (fun q => bif q.1 then some (false, ()) else some (true, ())) = _
  rw [h, ← yt]; cases l.any fun x => !p x <;> rfl
theorem zPx {l : List zp} (hl : l.length ≤ lim) : jX (l, ()) = some (l, ()) := zOr (τ := zv) hl rfl
theorem zFh {l : List zq} (hl : l.length ≤ lim) : jW (l, ()) = some (l, ()) := zOr (τ := zI) hl rfl
end Go.Proofs.YtaokpakfhdeiiaaGreatDoor
end
section
namespace Go.Proofs.YtaokpakfhdeiiaaGreatDoor
open Go.Ev
set_option linter.unusedVariables false
set_option linter.unusedSimpArgs false
theorem zHI : ∃ m, K0 = m + 8 := ⟨Go.maxLen - 6, by unfold K0 Go.maxLen; omega⟩
def within (x a b : Int) : Bool := decide (a ≤ x ∧ x ≤ b)
theorem zhT (x a b : Int) : zJ (x, a, b, ()) = some (within x a b, ()) := by
  simp only [zJ, zsl, within]; grind
def zv7 (a : zM) : Bool := within a.1 0 3
theorem zPy (a : zM) : zev (a, ()) = some (zv7 a, ()) := by
  simp only [zev, zuI, zv7, within]; grind
theorem zUs (a : zM) : zbq (a, ()) = some (!zv7 a, ()) := by
  simp only [zbq, znX, zPy, Option.bind_some]; grind
def zvb (x y : Int) : Int := bif decide (x < y) then -1 else bif decide (y < x) then 1 else 0
theorem zSS (x : Int) : zb7 (x, ()) = some (false, ()) := by
  simp only [zb7, zqa]; grind
theorem zNW (x : Int) : y7 (x, ()) = some (false, ()) := by
  simp only [y7, zjT]; grind
theorem zFi (x y : Int) : j4 (x, y, ()) = some (zvb x y, ()) := by
  simp only [j4, zlN, zSS, Option.bind_some, zvb]; grind
theorem zyZ (x y : Int) : jh (x, y, ()) = some (zvb x y, ()) := by
  simp only [jh, zhv, zNW, Option.bind_some, zvb]; grind
def orV (a b : Int) : Int := bif a != 0 then a else b
theorem zXu (a b : Int) : yH ([a, b], ()) = some (orV a b, ()) := by
  show iter j9 K0 (0, [a, b], 2, 0) = _
  obtain ⟨m, hm⟩ := zHI
  rw [hm]
  show j9 (j9 (j9 (iter j9 (m + 5)))) (0, [a, b], 2, 0) = _
  have h : j9 (j9 (j9 (iter j9 (m + 5)))) (0, [a, b], 2, 0) = bif a != 0 then some (a, ()) else bif b != 0 then some (b, ()) else some (0, ()) := by kernel_rfl
  rw [h]; unfold orV; grind
def zKl (a b : zM) : Int := orV (zvb a.1 b.1) (zvb a.2.1 b.2.1)
theorem zST (a b : zM) : zfE (a, b, ()) = some (zKl a b, ()) := by
  simp only [zfE, zBh, zFi, zyZ, Option.bind_some]
  show Option.bind (yH ([zvb a.1 b.1, zvb a.2.1 b.2.1], ())) _ = _
  rw [zXu]; rfl
def zsO (l : List zM) : Bool := within (l.length : Int) 1 8 && (eqI zS (l.getD 0 (zb zS)) (zb zS) && (l.all zv7 && qU (fun i => decide (zKl (l.getD (i - 1) (zb zS)) (l.getD i (zb zS)) < 0)) 1 (l.length - 1)))
theorem zXv {α : Type} {d : α} {l : List α} : ix d l 0 = l.getD 0 d := rfl
theorem zWn (r : zf) : vX (r, ()) = some (zsO r.1, ()) := by
  simp only [vX, zkz, zhT, Option.bind_some]
  by_cases hw : within (List.length r.1 : Int) 1 8 = true
  · have hb : 1 ≤ List.length r.1 ∧ List.length r.1 ≤ 8 := by unfold within at hw; grind
    have hl : List.length r.1 ≤ Go.maxLen := by unfold Go.maxLen; omega
    have hloop : znY zfE K0 (1, r) = bif qU (fun i => decide (zKl (List.getD r.1 (i - 1) (zb zS)) (List.getD r.1 i (zb zS)) < 0)) 1 (List.length r.1 - 1) then some (true, ()) else some (false, ()) :=
      yT (i0 := 1) hl hb.1 (fun i => (i, r)) (fun k i h1 h2 => by
        simp only [zhw]
        rw [ltT h2, zHF h1 (by omega), qu (by omega), qu h2, vT, Int.toNat_natCast, zST]
        simp only [cond_true, Option.bind_some]; grind) (fun k => by simp only [zhw]; rw [ltF]; rfl)
    rw [zqP (p := fun a => !zv7 a) hl fun x _ => zUs x, hloop, zXv]
    have := yt (l := r.1) (p := zv7)
    unfold zsO
    simp only [Option.bind_some]
    grind
  · unfold zsO; grind
end Go.Proofs.YtaokpakfhdeiiaaGreatDoor
end
section
namespace Go.Proofs.YtaokpakfhdeiiaaGreatDoor
open Go.Ev
set_option linter.unusedVariables false
set_option linter.unusedSimpArgs false
def small (c : Int) : Bool := decide (97 ≤ c ∧ c ≤ 122)
def digit (c : Int) : Bool := decide (48 ≤ c ∧ c ≤ 57)
theorem zTl (c : Int) : zaI (c, ()) = some (small c, ()) := by
  simp only [zaI, zxM, small]; grind
theorem zWY (c : Int) : zgq (c, ()) = some (digit c, ()) := by
  simp only [zgq, zxO, digit]; grind
def zPS (c : Int) : Bool := small c || digit c
theorem zXw (c : Int) : zdi (c, ()) = some (zPS c, ()) := by
  simp only [zdi, zsm, zTl, zWY, Option.bind_some, zPS]; grind
def zke (s : ByteArray) : List Int := List.map (fun b : UInt8 => (b.toNat : Int)) s.data.toList
def chr (s : ByteArray) (i : Nat) : Int := (((s.data.toList).getD i 0).toNat : Int)
theorem zvc (s : ByteArray) : (zke s).length = s.size := by unfold zke; rw [List.length_map]; rfl
theorem size_eq (s : ByteArray) : s.data.toList.length = s.size := rfl
theorem zMp (s : ByteArray) (p : Int → Bool) : (zke s).all p = qU (fun i => p (chr s i)) 0 s.size := by
  rw [Bool.eq_iff_iff, zaA, List.all_eq_true]
  have key : ∀ i, i < s.size → (zke s)[i]? = some (chr s i) := fun i hi => by
    unfold zke chr
    rw [List.getElem?_map, List.getElem?_eq_getElem (by rw [size_eq]; exact hi)]
    simp [List.getD, size_eq, hi]
  constructor
  · intro h j _ hj
    exact h _ (List.mem_of_getElem? (key j (by omega)))
  · intro h x hx
    obtain ⟨i, hi, rfl⟩ := List.mem_iff_getElem.1 hx
    rw [zvc] at hi
    have := key i hi
    rw [List.getElem?_eq_getElem (by rw [zvc]; exact hi)] at this
    rw [Option.some.inj this]
    exact h i (by omega) (by omega)
theorem zMq {s : ByteArray} {g : Int × Unit → Option (Bool × Unit)} {p : Int → Bool} (hl : s.size ≤ Go.maxLen) (hp : ∀ c, g (c, ()) = some (p c, ())) : zeV (s, some g, ()) = some ((zke s).all p, ()) := by
  have h : jQ (zke s, some fun z => zgo (z.1, some (some g), ()), ()) = some ((zke s).any fun x => !p x, ()) := zFS (by rw [zvc]; exact hl) fun x hx => by
    show Option.bind (g (x, ())) (fun q => bif q.1 then some (false, ()) else some (true, ())) = _
    rw [hp x]; cases p x <;> rfl
  show Option.bind (jQ (zke s, some fun z => zgo (z.1, some (some g), ()), ())) (fun q => bif q.1 then some (false, ()) else some (true, ())) = _
  rw [h, ← yt]; cases (zke s).any fun x => !p x <;> rfl
def zEf (s : ByteArray) : Bool := decide (1 ≤ s.size) && (decide (s.size ≤ 12) && qU (fun i => small (chr s i) || (decide (i ≠ 0) && digit (chr s i))) 0 s.size)
theorem zWo (s : ByteArray) : zEf s = (decide (1 ≤ s.size) && (decide (s.size ≤ 12) && (small (chr s 0) && (zke s).all zPS))) := by
  rw [zMp, zEf, Bool.eq_iff_iff]
  simp only [Bool.and_eq_true, decide_eq_true_eq, zaA, zPS]
  constructor
  · rintro ⟨h1, h2, h3⟩
    have := h3 0 (by omega) (by omega)
    refine ⟨h1, h2, by grind, fun j h4 h5 => ?_⟩
    have := h3 j h4 h5
    grind
  · rintro ⟨h1, h2, h3, h4⟩
    refine ⟨h1, h2, fun j h5 h6 => ?_⟩
    have := h4 j h5 h6
    by_cases e : j = 0
    · subst e; grind
    · grind
theorem zy0 (s : ByteArray) : vk (s, ()) = some (zEf s, ()) := by
  rw [qh]
  simp only [vk, zxQ]
  rw [zWo]
  by_cases h1 : s.size < 1
  · grind
  by_cases h2 : s.size > 12
  · grind
  rw [zMq (by unfold Go.maxLen; omega) zXw]
  have hc : ((UInt8.toNat (List.getD s.data.toList (Int.toNat 0) 0) : Nat) : Int) = chr s 0 := rfl
  rw [hc, zTl]
  simp only [Option.bind_some]
  grind
def ztu (a : jg) : Bool := zEf a.1 && (zEf a.2.1 && within a.2.2.1 0 3)
theorem zRw (a : jg) : zab (a, ()) = some (!ztu a, ()) := by
  simp only [zab, zjW, zy0, zhT, Option.bind_some, ztu]; grind
theorem set1 {α : Type} (d x : α) : zg (List.replicate 1 d) 0 x = [x] := rfl
theorem zXx {n : Nat} (h : n ≤ 1000000) : decide (n ≤ lim) = true := decide_eq_true (by unfold lim; omega)
theorem zSU (r : zf) (h : r.2.2.1.length ≤ 1000) : zcJ (r, ()) = some (r.2.2.1.map (·.1), ()) := by
  have hl : r.2.2.1.length ≤ Go.maxLen := by unfold Go.maxLen; omega
  have := zom (B := zbh) (α := List ByteArray) (len := r.2.2.1.length) hl (fun i o => (r.2.2.1, (r.2.2.1.length : Int), i, o)) (fun i o => some (o ++ (r.2.2.1.drop i).map (·.1), ())) (fun i o => o.length ≤ i) (fun k i s hi hI hk => by
    simp only [zbh]
    rw [ltT hi, qu hi, vT, set1, zXx (by simp; omega)]
    simp only [cond_true]
    rw [hk _ (by simp; omega), zeO zwn hi]
    simp) (fun k s _ => by
    simp only [zbh]
    rw [ltF, List.drop_of_length_le (Nat.le_refl _)]
    simp) [] (Nat.le_refl _)
  exact this
def zy1 : List ByteArray → Bool
  | [] => true
  | x :: l => !(l.any fun y => eqI .str x y) && zy1 l
theorem zHJ (x y : ByteArray) : eqI .str x y = (x.toList == y.toList) := rfl
theorem zVC (o : List (ByteArray × Int)) (x z : ByteArray) (v : Int) : zcT .str (zbn .str o x v) z = (zcT .str o z || eqI .str z x) := by
  induction o with
  | nil => simp only [zbn, zcT]; cases eqI .str z x <;> rfl
  | cons e o ih =>
    simp only [zbn, zcT]
    cases h : eqI .str x e.1 with
    | true =>
      simp only [cond_true, zcT]
      have : eqI .str z e.1 = eqI .str z x := by rw [zHJ] at *; rw [zHJ]; have := eq_of_beq h; rw [this]
      cases h2 : eqI .str z e.1 with
      | true => rfl
      | false => rw [← this, h2]; simp
    | false =>
      simp only [cond_false, zcT, ih]
      cases eqI .str z e.1 <;> rfl
theorem zRx (o : List (ByteArray × Int)) (x : ByteArray) (v : Int) : (zbn .str o x v).length = o.length + (bif zcT .str o x then 0 else 1) := by
  induction o with
  | nil => rfl
  | cons e o ih =>
    simp only [zbn, zcT]
    cases h : eqI .str x e.1 with
    | true => simp only [cond_true, List.length_cons, Nat.add_zero]
    | false =>
      simp only [cond_false, List.length_cons, ih]
      generalize (bif zcT .str o x then 0 else 1) = n
      omega
def zEg : List ByteArray → List (ByteArray × Int) → Nat
  | [], o => o.length
  | x :: l, o => zEg l (zbn .str o x (wI (zfn .str (0 : Int) o x + 1)))
theorem zTm : ∀ (l : List ByteArray) (o : List (ByteArray × Int)), zEg l o ≤ o.length + l.length
  | [], o => Nat.le_refl _
  | x :: l, o => by
    have h := zTm l (zbn .str o x (wI (zfn .str (0 : Int) o x + 1)))
    rw [zRx] at h
    simp only [zEg, List.length_cons]
    cases hm : zcT .str o x <;> (rw [hm] at h; simp only [cond_true, cond_false] at h; omega)
theorem zTn : ∀ (l : List ByteArray) (o : List (ByteArray × Int)), (zEg l o == o.length + l.length) = (zy1 l && l.all fun x => !zcT .str o x)
  | [], o => by simp [zEg, zy1]
  | x :: l, o => by
    have h := zTm l (zbn .str o x (wI (zfn .str (0 : Int) o x + 1)))
    have ih := zTn l (zbn .str o x (wI (zfn .str (0 : Int) o x + 1)))
    rw [zRx] at h ih
    simp only [zEg, List.length_cons, zy1, List.all_cons]
    cases hm : zcT .str o x with
    | true =>
      rw [hm] at h
      simp only [cond_true] at h
      have : (zEg l (zbn .str o x (wI (zfn .str (0 : Int) o x + 1))) == o.length + (l.length + 1)) = false := by
        simp only [beq_eq_false_iff_ne]; omega
      rw [this]
      simp
    | false =>
      rw [hm] at ih
      simp only [cond_false] at ih
      rw [show o.length + (l.length + 1) = o.length + 1 + l.length by omega, ih]
      simp only [zVC, Bool.not_or, Bool.not_false, Bool.true_and]
      have : (l.all fun z => !zcT .str o z && !eqI .str z x) = ((l.all fun z => !zcT .str o z) && !(l.any fun y => eqI .str x y)) := by
        rw [Bool.eq_iff_iff]
        simp only [List.all_eq_true, Bool.and_eq_true, Bool.not_eq_true', List.any_eq_false, Bool.not_eq_true]
        have hs : ∀ z, eqI .str z x = eqI .str x z := fun z => by rw [zHJ, zHJ]; exact Bool.beq_comm
        grind
      rw [this]
      cases zy1 l <;> cases (l.all fun z => !zcT .str o z) <;> cases (l.any fun y => eqI .str x y) <;> rfl
theorem zVD (m n : Nat) : (((m : Nat) : Int) == ((n : Nat) : Int)) = (m == n) := by
  rw [Bool.eq_iff_iff]; simp only [beq_iff_eq]; omega
theorem zWZ (l : List ByteArray) (h : l.length ≤ 1000) : zjY (l, ()) = some (zy1 l, ()) := by
  have := zF6 (B := zgs) (l := l) (α := List (ByteArray × Int)) (zb .str) (fun i o => (l, l, (l.length : Int), i, o)) (fun rest o => some (zEg rest o == l.length, ())) (by unfold Go.maxLen; omega) (fun k i x rest s hi hx _ hr hk => by
    simp only [zgs]
    rw [ltT hi, qu hi, Int.toNat_natCast, hx]
    simp only [cond_true]
    exact hk _) (fun k s => by
    simp only [zgs]
    rw [ltF]
    simp only [cond_false, zEg]
    rw [zVD]
    cases s.length == l.length <;> rfl) []
  refine this.trans ?_
  have h2 := zTn l []
  simp only [List.length_nil, Nat.zero_add] at h2
  rw [h2]
  simp [zcT]
def zoz (l : List jg) : Bool := within (l.length : Int) 1 8 && (l.all ztu && zy1 (l.map (·.1)))
theorem zUt (r : zf) : vi (r, ()) = some (zoz r.2.2.1, ()) := by
  rw [qh]
  simp only [vi, znZ, zhT, Option.bind_some]
  unfold zoz
  by_cases hw : within (List.length r.2.2.1 : Int) 1 8 = true
  · have hb : 1 ≤ List.length r.2.2.1 ∧ List.length r.2.2.1 ≤ 8 := by unfold within at hw; grind
    rw [zBR (p := fun a => !ztu a) (by unfold Go.maxLen; omega) fun x _ => zRw x, zSU r (by omega)]
    simp only [Option.bind_some]
    rw [zWZ _ (by simp; omega)]
    simp only [Option.bind_some]
    have := yt (l := r.2.2.1) (p := ztu)
    grind
  · grind
def zHk (r : zf) : Bool := within (r.2.1.length : Int) 1 8 && r.2.1.all fun i => decide (0 ≤ i) && decide (i < (r.1.length : Int))
theorem zW0 (r : zf) (h : r.1.length ≤ 1000) : yV (r, ()) = some (zHk r, ()) := by
  rw [qh]
  simp only [yV, zuK, zhT, Option.bind_some]
  unfold zHk
  by_cases hw : within (List.length r.2.1 : Int) 1 8 = true
  · have hb : 1 ≤ List.length r.2.1 ∧ List.length r.2.1 ≤ 8 := by unfold within at hw; grind
    have hq : ∀ x : Int, (fun z : Int × Unit => zaG (z.1, some r, ())) (x, ()) = some (!(decide (0 ≤ x) && decide (x < (r.1.length : Int))), ()) := fun x => by
      show zaG _ = _
      simp only [zaG, zqc, zhT, Option.bind_some]
      have : wI (((List.length r.1 : Nat) : Int) - 1) = (r.1.length : Int) - 1 := by
        unfold wI
        exact IntWalk.i64_in _ (by omega)
      rw [this]
      unfold within
      grind
    rw [zfi (by unfold Go.maxLen; omega) fun x _ => hq x]
    simp only [Option.bind_some]
    have := yt (l := r.2.1) (p := fun i => decide (0 ≤ i) && decide (i < (r.1.length : Int)))
    grind
  · grind
def zPT (r : zf) : Bool := within r.2.2.2.2.2.1 0 24 && (within r.2.2.2.2.2.2.1 0 48 && (within r.2.2.2.2.2.2.2.1 1 4 && within r.2.2.2.2.2.2.2.2.1 1 16))
theorem zXy (r : zf) : zaJ (r, ()) = some (zPT r, ()) := by
  simp only [zaJ, zx0, zhT, Option.bind_some, zPT]; grind
def zHK (q : zga) : Bool := within q.1 0 12 && (within q.2.1 0 12 && (within q.2.2.1 0 12 && (within q.2.2.2.1 0 12 && within q.2.2.2.2.1 0 12)))
def zEh : Int → List zga → Bool
  | _, [] => true
  | left, q :: l => zHK q && (decide (q.2.2.2.2.2.1 ≤ left) && zEh (wU (left - q.2.2.2.2.2.1)) l)
theorem zUu (x : Int) : y0 (x, ()) = some (!within x 0 12, ()) := by
  simp only [y0, zn2, zhT, Option.bind_some]; grind
def zCZ (n : Nat) (l : List zga) : Bool := decide (l.length = n) && (decide (0 < l.length) && (decide (1 ≤ (l.getD 0 zbf).1) && zEh 4611686018427387904 l))
theorem zWp (r : zf) (h : 1 ≤ r.1.length ∧ r.1.length ≤ 1000) : vZ (r, ()) = some (zCZ r.1.length r.2.2.2.2.1, ()) := by
  rw [qh]
  simp only [vZ, zkA]
  unfold zCZ
  by_cases hn : r.2.2.2.2.1.length = r.1.length
  · have hl : r.2.2.2.2.1.length ≤ Go.maxLen := by unfold Go.maxLen; omega
    have hloop : zn3 y0 zb8 zH K0 (4611686018427387904, r.2.2.2.2.1, (r.2.2.2.2.1.length : Int), 0) = some (zEh 4611686018427387904 r.2.2.2.2.1, ()) :=
      zF6 (l := r.2.2.2.2.1) (α := Int) zbf (fun i s => (s, r.2.2.2.2.1, (r.2.2.2.2.1.length : Int), i)) (fun rest s => some (zEh s rest, ())) hl (fun k i x rest s hi hx _ hr hk => by
        simp only [zhz]
        rw [ltT hi, qu hi]
        simp only [vT, hx, cond_true]
        have hnum : zb8 (x, ()) = some ([x.1, x.2.1, x.2.2.1, x.2.2.2.1, x.2.2.2.2.1], ()) := rfl
        rw [hnum]
        simp only [Option.bind_some]
        rw [zfi (p := fun n => !within n 0 12) (l := [x.1, x.2.1, x.2.2.1, x.2.2.2.1, x.2.2.2.2.1]) (by unfold Go.maxLen; simp) fun n _ => zUu n]
        simp only [Option.bind_some, hk, zEh, zHK, List.any_cons, List.any_nil]
        grind) (fun k s => by simp only [zhz]; rw [ltF]; rfl) _
    rw [hloop, zXv]
    have h1 : (((List.length r.2.2.2.2.1 : Nat) : Int) != ((List.length r.1 : Nat) : Int)) = false := by rw [zHG]; simp [hn]
    rw [h1]
    grind
  · have h1 : (((List.length r.2.2.2.2.1 : Nat) : Int) != ((List.length r.1 : Nat) : Int)) = true := by rw [zHG]; simp [hn]
    rw [h1]
    grind
end Go.Proofs.YtaokpakfhdeiiaaGreatDoor
end
section
namespace Go.Proofs.YtaokpakfhdeiiaaGreatDoor
open Go.Ev
set_option linter.unusedVariables false
set_option linter.unusedSimpArgs false
def zKm (b : Int) : Int := ((2 ^ b.toNat : Nat) : Int)
def zgY (b : Int) : Bool := decide (0 ≤ b) && decide (b < 64)
theorem zXz {b : Int} (h : zgY b = true) : Go.IntKind.wrap .u64 (1 * 2 ^ (min (Int.toNat b) (Go.IntKind.bits .u64))) = zKm b := by
  unfold zgY at h
  simp only [Bool.and_eq_true, decide_eq_true_eq] at h
  obtain ⟨n, rfl⟩ := Int.eq_ofNat_of_zero_le h.1
  have hn : n < 64 := by omega
  unfold zKm
  rw [Int.toNat_natCast]
  have hm : min n (Go.IntKind.bits .u64) = n := Nat.min_eq_left (by show n ≤ 64; omega)
  rw [hm]
  have : ∀ n : Fin 64, Go.IntKind.wrap .u64 (1 * 2 ^ n.val) = ((2 ^ n.val : Nat) : Int) := by decide +kernel
  exact this ⟨n, hn⟩
theorem zPU {n : Int} (h : 0 ≤ n ∧ n < 18446744073709551616) : Go.IntKind.wrap .u64 n = n := by
  show n % ((2 ^ 64 : Nat) : Int) = n
  exact Int.emod_eq_of_lt h.1 (by have : ((2 ^ 64 : Nat) : Int) = 18446744073709551616 := by decide
                                  omega)
def hasB (c : Int) (b : Nat) : Bool := c.toNat.testBit b
theorem has_eq (c b : Int) (hc : 0 ≤ c) (hb : 0 ≤ b ∧ b < 64) : (Int.tmod (Int.fdiv c (2 ^ min (Int.toNat (Go.IntKind.wrap .u64 b)) (Go.IntKind.bits .u64))) 2 == 1) = hasB c b.toNat := by
  obtain ⟨n, rfl⟩ := Int.eq_ofNat_of_zero_le hc
  obtain ⟨m, rfl⟩ := Int.eq_ofNat_of_zero_le hb.1
  rw [zPU (by omega)]
  have hm : min (Int.toNat (m : Int)) (Go.IntKind.bits .u64) = m := Nat.min_eq_left (by show (m : Int).toNat ≤ 64; omega)
  rw [hm]
  unfold hasB
  have h2 : Int.fdiv (n : Int) (2 ^ m) = ((n / 2 ^ m : Nat) : Int) := by
    rw [show ((2 : Int) ^ m) = ((2 ^ m : Nat) : Int) by simp]
    rw [Int.fdiv_eq_ediv_of_nonneg _ (Int.natCast_nonneg _)]
    rfl
  have h3 : Int.tmod ((n / 2 ^ m : Nat) : Int) 2 = ((n / 2 ^ m % 2 : Nat) : Int) := by
    rw [Int.tmod_eq_emod_of_nonneg (Int.natCast_nonneg _)]
    rfl
  rw [h2, h3, Int.toNat_natCast, Int.toNat_natCast, Nat.testBit_eq_decide_div_mod_eq]
  have : (((n / 2 ^ m % 2 : Nat) : Int) == 1) = decide (n / 2 ^ m % 2 = 1) := by
    by_cases h : n / 2 ^ m % 2 = 1
    · rw [h]; rfl
    · rw [decide_eq_false h]
      cases hx : (((n / 2 ^ m % 2 : Nat) : Int) == 1) with
      | false => rfl
      | true => exact absurd (Int.ofNat.inj (by simpa using hx)) h
  exact this
def zkP (a b : Int) : Int := Go.IntKind.wrap .u64 (BitVec.toNat (BitVec.ofInt (Go.IntKind.bits .u64) a &&& ~~~BitVec.ofInt (Go.IntKind.bits .u64) b) : Int)
def orI (a b : Int) : Int := Go.IntKind.wrap .u64 (BitVec.toNat (BitVec.ofInt (Go.IntKind.bits .u64) a ||| BitVec.ofInt (Go.IntKind.bits .u64) b) : Int)
def zvZ : Int → List qz → Int
  | a, [] => a
  | a, g :: gs => zvZ (orI a (zKm g.1)) gs
theorem ztv (n : Nat) : BitVec.ofInt (Go.IntKind.bits .u64) (n : Int) = BitVec.ofNat 64 n := by
  show BitVec.ofInt 64 (n : Int) = BitVec.ofNat 64 n
  apply BitVec.eq_of_toNat_eq
  rw [BitVec.toNat_ofInt, BitVec.toNat_ofNat]
  omega
theorem zWI (x : BitVec 64) : Go.IntKind.wrap .u64 (x.toNat : Int) = (x.toNat : Int) := by
  have := x.isLt
  exact zPU (by omega)
theorem zW1 (a b : Nat) (ha : a < 2 ^ 64) (hb : b < 2 ^ 64) : orI (a : Int) (b : Int) = ((a ||| b : Nat) : Int) := by
  unfold orI
  rw [ztv, ztv]
  show Go.IntKind.wrap .u64 ((BitVec.ofNat 64 a ||| BitVec.ofNat 64 b).toNat : Int) = _
  rw [zWI, BitVec.toNat_or, BitVec.toNat_ofNat, BitVec.toNat_ofNat, Nat.mod_eq_of_lt ha, Nat.mod_eq_of_lt hb]
theorem zIS (c m : Nat) (hc : c < 2 ^ 64) (hm : m < 2 ^ 64) : (zkP (c : Int) (m : Int) != 0) = !((List.range' 0 64).all fun i => !c.testBit i || m.testBit i) := by
  unfold zkP
  rw [ztv, ztv]
  show (Go.IntKind.wrap .u64 ((BitVec.ofNat 64 c &&& ~~~BitVec.ofNat 64 m).toNat : Int) != 0) = _
  rw [zWI]
  have hbit : ∀ i, i < 64 → (BitVec.ofNat 64 c &&& ~~~BitVec.ofNat 64 m).getLsbD i = (c.testBit i && !m.testBit i) := by
    intro i hi
    rw [BitVec.getLsbD_and, BitVec.getLsbD_not, BitVec.getLsbD_ofNat, BitVec.getLsbD_ofNat]
    simp [hi]
  by_cases h : ((List.range' 0 64).all fun i => !c.testBit i || m.testBit i) = true
  · rw [h]
    have h0 : (BitVec.ofNat 64 c &&& ~~~BitVec.ofNat 64 m) = 0#64 := by
      apply BitVec.eq_of_getLsbD_eq
      intro i hi
      rw [hbit i hi]
      have := List.all_eq_true.1 h i (by simp [List.mem_range'_1]; omega)
      revert this
      cases c.testBit i <;> cases m.testBit i <;> simp
    rw [h0]
    rfl
  · have h' := h
    simp only [Bool.not_eq_true] at h'
    rw [h']
    have : (BitVec.ofNat 64 c &&& ~~~BitVec.ofNat 64 m).toNat ≠ 0 := by
      intro h0
      apply h
      rw [List.all_eq_true]
      intro i hi
      simp only [List.mem_range'_1] at hi
      have hb := hbit i (by omega)
      have e0 : (BitVec.ofNat 64 c &&& ~~~BitVec.ofNat 64 m) = 0#64 := BitVec.eq_of_toNat_eq (by rw [h0]; rfl)
      rw [e0] at hb
      revert hb
      cases c.testBit i <;> cases m.testBit i <;> simp
    rw [Bool.not_false, bne_iff_ne]
    omega
theorem zWq {b : Int} (h : zgY b = true) : ∃ n : Nat, b = n ∧ n < 64 ∧ zKm b = ((2 ^ n : Nat) : Int) := by
  unfold zgY at h
  simp only [Bool.and_eq_true, decide_eq_true_eq] at h
  obtain ⟨n, rfl⟩ := Int.eq_ofNat_of_zero_le h.1
  exact ⟨n, rfl, by omega, rfl⟩
theorem zMr : ∀ (l : List qz) (m : Nat), m < 2 ^ 64 → (∀ g ∈ l, zgY g.1 = true) → ∃ k : Nat, zvZ (m : Int) l = (k : Int) ∧ k < 2 ^ 64 ∧ ∀ i : Nat, k.testBit i = (m.testBit i || l.any fun g => g.1 == (i : Int))
  | [], m, hm, _ => ⟨m, rfl, hm, fun i => by simp⟩
  | g :: l, m, hm, h => by
    obtain ⟨n, hn, hn64, hv⟩ := zWq (h g (by simp))
    have hp : 2 ^ n < 2 ^ 64 := Nat.pow_lt_pow_right (by omega) hn64
    obtain ⟨k, hk, hk64, hb⟩ := zMr l (m ||| 2 ^ n) (Nat.or_lt_two_pow hm hp) fun g hg => h g (by simp [hg])
    refine ⟨k, ?_, hk64, fun i => ?_⟩
    · simp only [zvZ]
      rw [hv, zW1 m (2 ^ n) hm hp]
      exact hk
    · rw [hb i, Nat.testBit_or, Nat.testBit_two_pow, List.any_cons, hn, Bool.or_assoc]
      congr 2
      by_cases e : n = i
      · subst e; simp
      · rw [decide_eq_false e]
        symm
        simp only [beq_eq_false_iff_ne, ne_eq]
        omega
def zUv (l : List qz) (c : Int) (i k : Nat) : Bool := (List.range' i k).all fun b => !hasB c b || l.any fun g => g.1 == (b : Int)
def zRy (labels : List zM) (l : List qz) : Bool := labels.all fun a => zUv l a.2.1 0 64
def zEi (l : List zM) : Prop := ∀ a ∈ l, 0 ≤ a.2.1 ∧ a.2.1 < 18446744073709551616
theorem zXA (labels : List zM) (l : List qz) (hl : zEi labels) (h : ∀ g ∈ l, zgY g.1 = true) : (labels.any fun a => zkP a.2.1 (zvZ 0 l) != 0) = !zRy labels l := by
  obtain ⟨k, hk, hk64, hb⟩ := zMr l 0 (by decide) h
  have hk' : zvZ 0 l = (k : Int) := hk
  rw [hk']
  unfold zRy
  have key : ∀ ls : List zM, zEi ls → (ls.any fun a => zkP a.2.1 (k : Int) != 0) = !(ls.all fun a => zUv l a.2.1 0 64) := by
    intro ls
    induction ls with
    | nil => intro _; rfl
    | cons a ls ih =>
      intro ha
      have h1 := ha a (by simp)
      rw [List.any_cons, List.all_cons, ih fun b hb => ha b (by simp [hb]), Bool.not_and]
      congr 1
      obtain ⟨c, hc⟩ := Int.eq_ofNat_of_zero_le h1.1
      rw [hc, zIS c k (by omega) hk64]
      congr 1
      unfold zUv
      congr 1
      funext i
      rw [hb i]
      unfold hasB
      simp
  exact key labels hl
def zPV (b : Int) : zM := (0, zKm b, ())
theorem zRz (b : Int) : zdC (b, ()) = some (bif zgY b then (zPV b, 0, ()) else ((0, 0, ()), 1, ())) := by
  simp only [zdC, zxW]
  cases h : zgY b with
  | true =>
    have hs : wU (1 * 2 ^ min (Int.toNat b) (Go.IntKind.bits .u64)) = zKm b := zXz h
    rw [hs]
    simp only [zgY, Bool.and_eq_true, decide_eq_true_eq] at h
    simp only [zPV]
    grind
  | false =>
    simp only [zgY, Bool.and_eq_false_iff, decide_eq_false_iff_not] at h
    grind
theorem zUw (a : zM) (c : Int) : zbr (a, some c, ()) = some (zkP a.2.1 c != 0, ()) := by
  rw [qh]; rfl
theorem zWr {σ α : Type} {B : (σ → Option (Int × Unit)) → σ → Option (Int × Unit)} {l : List α} (d : α) {p : α → Bool} (st : Int → σ) (hl : l.length ≤ Go.maxLen)
    (hin : ∀ k (i : Nat) x, i < l.length → l.getD i d = x → x ∈ l → B k (st i) = bif p x then some ((i : Int), ()) else k (st (wI (i + 1)))) (hout : ∀ k, B k (st l.length) = some (-1, ())) : iter B K0 (st 0) = some (zaz p l 0, ()) := by
  have := zom (α := Unit) (B := B) hl (fun i _ => st i) (fun i _ => some (zaz p (l.drop i) i, ())) (fun _ _ => True) (fun k i s hi _ h => ?_) (fun k s _ => ?_) () trivial
  · simpa using this
  · rw [hin k i _ hi rfl (yl hi), h () trivial, zeO d hi]
    simp only [zaz]
    cases p (l.getD i d) <;> rfl
  · rw [hout, List.drop_of_length_le (Nat.le_refl _)]; rfl
theorem zKn {l : List zM} {a : zM} (hl : l.length ≤ Go.maxLen) : vv (l, a, ()) = some (l.any fun y => eqI zS a y, ()) := by
  have h : zdD (l, a, ()) = some (zaz (fun y => eqI zS a y) l 0, ()) :=
    zWr (B := zbX) (l := l) zcC (fun i => (l, (l.length : Int), i, a)) hl (fun k i x hi hx _ => by
      simp only [zbX]
      rw [ltT hi, qu hi, vT, hx]; rfl) (fun k => by simp only [zbX]; rw [ltF]; rfl)
  rw [qh]
  simp only [vv, ziQ, h, Option.bind_some]
  rw [zJc (p := fun y => eqI zS a y) l 0 (Int.le_refl 0)]
def zRA (labels : List zM) (n : Nat) (last : Int) (g : qz) : Bool := zgY g.1 && (decide (last < g.1) && (within g.2.1 0 ((n : Int) - 1) && labels.any fun y => eqI zS (zPV g.1) y))
def zkf (labels : List zM) (n : Nat) : Int → List qz → Bool
  | _, [] => true
  | last, g :: gs => zRA labels n last g && zkf labels n g.1 gs
def zHL (labels : List zM) (n : Nat) (l : List qz) : Bool := decide (l.length ≤ 8) && (zkf labels n (-1) l && zRy labels l)
theorem zOx {labels : List zM} {m : Nat} : ∀ (l : List qz) (last : Int), zkf labels m last l = true → ∀ g ∈ l, zgY g.1 = true
  | [], _, _, g, hg => by cases hg
  | a :: l, last, h, g, hg => by
    simp only [zkf, zRA, Bool.and_eq_true] at h
    rcases List.mem_cons.1 hg with rfl | hg
    · exact h.1.1
    · exact zOx l a.1 h.2 g hg
theorem zWs (r : zf) (h1 : r.1.length ≤ Go.maxLen) (h2 : r.2.2.1.length ≤ 1000000) (h3 : r.2.2.2.1.length ≤ Go.maxLen) (hL : zEi r.1) : vY (r, ()) = some (zHL r.1 r.2.2.1.length r.2.2.2.1, ()) := by
  have hloop : vY (r, ()) = some (zkf r.1 r.2.2.1.length (-1) r.2.2.2.1 && (decide (r.2.2.2.1.length ≤ 8) && !(r.1.any fun a => zkP a.2.1 (zvZ 0 r.2.2.2.1) != 0)), ()) :=
    zF6 (B := zdF zdC zJ vv zbr qN) (l := r.2.2.2.1) (α := Int × Int) zaB (fun i s => (s.1, r.2.2.2.1, (r.2.2.2.1.length : Int), i, r, s.2))
      (fun rest s => some (zkf r.1 r.2.2.1.length s.1 rest && (decide (r.2.2.2.1.length ≤ 8) && !(r.1.any fun a => zkP a.2.1 (zvZ s.2 rest) != 0)), ())) h3 (fun k i x rest s hi hx _ hr hk => by
        simp only [zdF]
        have hw : wI (((List.length r.2.2.1 : Nat) : Int) - 1) = (r.2.2.1.length : Int) - 1 := by
          unfold wI
          exact IntWalk.i64_in _ (by omega)
        rw [ltT hi, qu hi, hw]
        simp only [vT, hx, cond_true, zRz, Option.bind_some, zkf, zRA, zvZ]
        cases hb : zgY x.1 with
        | false => rfl
        | true =>
          simp only [cond_true, zhT, Option.bind_some, Bool.true_and, zKn h1]
          have hk' := hk (x.1, orI s.2 (zKm x.1))
          have e : decide (s.1 < x.1) = !decide ((x.1 : Int) ≤ s.1) := by grind
          rw [e]
          cases decide ((x.1 : Int) ≤ s.1) with
          | true => rfl
          | false =>
            cases within x.2.1 0 ((r.2.2.1.length : Int) - 1) with
            | false => rfl
            | true =>
              cases (r.1.any fun y => eqI zS (zPV x.1) y) with
              | false => rfl
              | true => exact hk') (fun k s => by
        simp only [zdF]
        rw [ltF]
        simp only [cond_false, zkf, zvZ, Bool.true_and]
        rw [zqP (p := fun a => zkP a.2.1 s.2 != 0) h1 fun x _ => zUw x s.2, Option.bind_some]
        grind) (-1, 0)
  rw [hloop]
  unfold zHL
  cases hr : zkf r.1 r.2.2.1.length (-1) r.2.2.2.1 with
  | false => simp
  | true =>
    rw [zXA r.1 r.2.2.2.1 hL (zOx _ _ hr)]
    simp
end Go.Proofs.YtaokpakfhdeiiaaGreatDoor
end
