import Derived.Test.YtaokpakfhdeiiaaGreatDoorNec
import Derived.RangeFuncBox
import Derived.RangeFuncLeaves
import Derived.Shelf.Abstract
import Derived.WalkKit
import Derived.OwnWalkIn
import Derived.TacticsInMore
import Derived.LoopNIn
import Derived.LoopIn
import Derived.Maps.AppendAt
import Derived.Laws.Bits64b
import Derived.Lib.TrailingZeros
section
namespace Go.Proofs.YtaokpakfhdeiiaaGreatDoor
open Go.Ev Go.RowKit Go.Shelf Go.Proofs
set_option linter.unusedVariables false
set_option linter.unusedSimpArgs false
attribute [local go_sem] Oper.semAt_some
theorem zQk {x : Nat} (hx : x < 18446744073709551616) : IntKind.u64.wrap (x : Int) = (x : Int) := by rw [IntKind.wrap_u64]; omega
theorem zV4 (c : Nat) (h0 : c ≠ 0) (h : c < 18446744073709551616) : bits BinOp.and IntKind.u64 (c : Int) (IntKind.u64.wrap ((c : Int) - 1)) = ((c &&& (c - 1) : Nat) : Int) := by
  rw [show ((c : Int) - 1) = ((c - 1 : Nat) : Int) by omega, zQk (by omega), bits_and_u64_nat c _ h (by omega)]
def zWu (v : Value) : Nat := match v with | .int _ n => n.toNat | _ => 0
set_option maxRecDepth 100000 in
set_option maxHeartbeats 1000000 in
theorem zWK (n : Nat) (l Bn n₀ : Nat) (lev : Int) (c0 : Nat) (h64 : c0 < 18446744073709551616) (hn₀ : 1 ≤ n₀) (J Jx : List Nat → World → Prop)
    (hY : ∀ pre x W, J pre W → pre.length < (zal c0).length → YieldAt Fence.wide (n - 1) Tryz.prog l #[.int .i64 (x : Nat)] W fun e W' =>
      (e = .returned (.bool true) ∧ J (pre ++ [x]) W' ∧ Below n₀ W W') ∨ (e = .returned (.bool false) ∧ Jx (pre ++ [x]) W'))
    (W : World) (hBn : W.cell? ⟨Bn, 0, none⟩ = some (.int .i64 lev)) (hBn1 : W.cell? ⟨Bn, 1, none⟩ = some (.int .u64 c0)) (hT : TabAt W) (h0 : J [] W) :
    CallsIn Fence.wide n Tryz.prog 287 #[.func (.yield l) #[] #[], .pointer (some ⟨Bn, 0, none⟩)] W fun e W' => (∃ v, e = .returned v) ∧
      ((∃ ys, ys = zal c0 ∧ J ys W') ∨ (∃ pre, pre <+: zal c0 ∧ Jx pre W')) := by
  refine callsIn_of_wp Tryz.func287 rfl trivial ?_ rfl
  simp only [show Tryz.f287.ntmps = 17 by kernel_rfl, List.size_toArray, List.length_cons, List.length_nil, Nat.reduceAdd, Nat.reduceSub, Array.replicate_succ, Array.replicate_zero, List.push_toArray, List.append_toArray, List.nil_append, List.cons_append]
  gi_wp2
  gi_loopw [3] (fun p wr => ∃ (pre : List Nat) (c : Nat), p = .int .u64 c ∧ c < 18446744073709551616 ∧ zal c0 = pre ++ zal c ∧ TabAt wr ∧ J pre wr)
    (fun p wr => zWu p)
  case atStart =>
    exact ⟨[], c0, rfl, h64, rfl, hT, h0⟩
  case round =>
    obtain ⟨pre, c, rfl, hc, hx, hTr, hJs⟩ := hrel
    by_cases hz : c = 0
    · subst hz
      gi_wp2
      go_end0
      exact ⟨⟨_, rfl⟩, .inl ⟨pre, by rw [hx, zVa, List.append_nil], hJs⟩⟩
    · have hx' := hx
      rw [zU9 hz hc] at hx'
      obtain ⟨fn, tmps, assign, body, hy, hR⟩ := hY pre (Lib.ctz 64 c) wr hJs (by rw [hx']; simp)
      have hz1 : ((c : Int) == 0) = false := by simp; omega
      gi_wp2
      refine ⟨trivial, fun h => (by cases h), (zXu (n - 1) c hc hz wr hTr).mono ?_⟩
      rintro e w' ⟨rfl, hw'⟩
      subst hw'
      gi_wp2
      refine ⟨fun h => (by cases h), hR.mono ?_⟩
      rintro e W3 (⟨rfl, hJ3, hk3⟩ | ⟨rfl, hJx3⟩)
      · have hT3 : TabAt W3 := fun j hj => (hk3.cell (p := ⟨0, j, none⟩) (Nat.lt_of_lt_of_le Nat.zero_lt_one hn₀)).trans (hTr j hj)
        have hk : bits BinOp.and IntKind.u64 (c : Int) ((c : Int) - 1) = ((c &&& (c - 1) : Nat) : Int) := by rw [← zV4 c hz hc, IntKind.wrap_u64]; congr 1; omega
        gi_wp2
        go_roundw
        case rel => exact ⟨pre ++ [Lib.ctz 64 c], c &&& (c - 1), rfl, Nat.lt_of_le_of_lt Nat.and_le_left hc, by rw [hx', List.append_assoc]; rfl, hT3, hJ3⟩
        case measure => simp [zWu]; exact zXe hz
      · gi_wp2
        refine bodyPost_ret (results_none rfl _ _ _) rfl ?_
        exact ⟨⟨_, rfl⟩, .inr ⟨pre ++ [Lib.ctz 64 c], ⟨zal (c &&& (c - 1)), by rw [hx', List.append_assoc]; rfl⟩, hJx3⟩⟩
set_option maxHeartbeats 1000000 in
theorem zV5 (n : Nat) (lev : Int) (c : Nat) (w : World) :
    CallsIn Fence.wide n Tryz.prog 276 #[.agg #[.int .i64 lev, .int .u64 c]] w fun e w' => e = .returned (.func (.func 287) #[] #[.pointer (some ⟨w.heap.size, 0, none⟩)]) ∧ w' = w.alloc (.cells #[.int .i64 lev, .int .u64 c] 131) := by
  refine callsIn_of_wp Tryz.func276 rfl trivial ?_ rfl
  simp only [show Tryz.f276.ntmps = 4 by kernel_rfl, List.size_toArray, List.length_cons, List.length_nil, Nat.reduceAdd, Nat.reduceSub, Array.replicate_succ, Array.replicate_zero, List.push_toArray, List.append_toArray, List.nil_append, List.cons_append]
  gi_wp2
  go_ret
  exact ⟨rfl, rfl⟩
theorem zTJ (n : Nat) (Bn n₀ : Nat) (lev : Int) (c0 : Nat) (h64 : c0 < 18446744073709551616) (w : World) (hBn : Bn < w.heap.size) (hn₀ : 1 ≤ n₀) (hn1 : n₀ ≤ w.heap.size)
    (hc : w.cell? ⟨Bn, 0, none⟩ = some (.int .i64 lev)) (hc1 : w.cell? ⟨Bn, 1, none⟩ = some (.int .u64 c0)) (hT : TabAt w) :
    SeqStopsK Fence.wide n Tryz.prog 287 #[.pointer (some ⟨Bn, 0, none⟩)] (fun x : Nat => #[Value.int .i64 x]) (Below n₀) (fun ys => ys = zal c0) (fun pre => pre <+: zal c0) (zal c0).length w := fun l J Jx W hW _ _ hY h0 =>
  zWK n l Bn n₀ lev c0 h64 hn₀ J Jx hY W ((hW.cell (p := ⟨Bn, 0, none⟩) hBn).trans hc) ((hW.cell (p := ⟨Bn, 1, none⟩) hBn).trans hc1) (fun j hj => (hW.cell (p := ⟨0, j, none⟩) (show 0 < _ by omega)).trans (hT j hj)) h0
theorem zXv : (Tryz.prog.info? 3).map (fun i => (i.zero, i.size, i.bytes)) = some (some (.int .i64 0), 1, 8) := by kernel_rfl
theorem zXw : Tryz.prog.underlying 23 = some (.slice 3) := by kernel_rfl
set_option maxRecDepth 100000 in
set_option maxHeartbeats 2000000 in
theorem zWL (n : Nat) (hn : 1 ≤ n) (lev : Int) (c : Nat) (h64 : c < 18446744073709551616) (w : World) (hs : 1 ≤ w.heap.size) (hT : TabAt w) :
    CallsIn Fence.wide n Tryz.prog 232 #[.agg #[.int .i64 lev, .int .u64 c]] w fun e W' => ∃ v, e = .returned v ∧ W'.ownsRow w.heap.size 3 1 v (zal c).length ((zal c).map fun x => Value.int .i64 (x : Nat)) ∧ Below w.heap.size w W' := by
  obtain ⟨i0, hi, hz0, hz1, hz2⟩ := info_parts zXv
  refine callsIn_of_wp_marks Tryz.func232 rfl trivial ?_ rfl
  simp only [show Tryz.f232.ntmps = 13 by kernel_rfl, List.size_toArray, List.length_cons, List.length_nil, Nat.reduceAdd, Nat.reduceSub, Array.replicate_succ, Array.replicate_zero, List.push_toArray, List.append_toArray, List.nil_append, List.cons_append]
  gi_wp2
  refine ⟨trivial, (zV5 (n - 1) lev c _).mono ?_⟩
  rintro e w' ⟨rfl, rfl⟩
  gi_wp2
  have bO : Boxed (((w.alloc (.cells #[.int .i64 lev, .int .u64 c] 131)).alloc (.cells #[.slice none 0 0] 23)).alloc (.cells #[.int .i64 lev, .int .u64 c] 131)) (w.heap.size + 1) 23 (.slice none 0 0) := by
    have := Boxed.new (w.alloc (.cells #[.int .i64 lev, .int .u64 c] 131)) 23 (.slice none 0 0)
    rw [World.size_alloc] at this
    exact this.alloc _
  have hB0 : Below w.heap.size w (((w.alloc (.cells #[.int .i64 lev, .int .u64 c] 131)).alloc (.cells #[.slice none 0 0] 23)).alloc (.cells #[.int .i64 lev, .int .u64 c] 131)) := (((Below.refl _ w).alloc (Nat.le_refl _) _).alloc (by simp) _).alloc (by simp; omega) _
  have hz : (((w.alloc (.cells #[.int .i64 lev, .int .u64 c] 131)).alloc (.cells #[.slice none 0 0] 23)).alloc (.cells #[.int .i64 lev, .int .u64 c] 131)).heap.size = w.heap.size + 1 + 1 + 1 := by simp
  have hbx : (((w.alloc (.cells #[.int .i64 lev, .int .u64 c] 131)).alloc (.cells #[.slice none 0 0] 23)).alloc (.cells #[.int .i64 lev, .int .u64 c] 131)).heap[w.heap.size + 1 + 1]? = some (.cells #[.int .i64 lev, .int .u64 c] 131 (0, 0)) := by
    have := World.alloc_heap_new ((w.alloc (.cells #[.int .i64 lev, .int .u64 c] 131)).alloc (.cells #[.slice none 0 0] 23)) (.cells #[.int .i64 lev, .int .u64 c] 131)
    simpa [World.size_alloc] using this
  have hT1 : TabAt (((w.alloc (.cells #[.int .i64 lev, .int .u64 c] 131)).alloc (.cells #[.slice none 0 0] 23)).alloc (.cells #[.int .i64 lev, .int .u64 c] 131)) := fun j hj => (hB0.cell (p := ⟨0, j, none⟩) (Nat.lt_of_lt_of_le Nat.zero_lt_one hs)).trans (hT j hj)
  generalize (((w.alloc (.cells #[.int .i64 lev, .int .u64 c] 131)).alloc (.cells #[.slice none 0 0] 23)).alloc (.cells #[.int .i64 lev, .int .u64 c] 131)) = w1 at bO hB0 hz hbx hT1
  refine wpIn_rangeFunc_ownG rfl (n := n) hn (gf := 287) (lb := #[.pointer (some ⟨w.heap.size + 1 + 1, 0, none⟩)]) rfl trivial (enters_of Tryz.func287 (by kernel_rfl) rfl)
    (zTJ (n - 1) (w.heap.size + 1 + 1) w.heap.size lev c h64 w1 (by omega) hs (by omega) (by simp [World.cell?, hbx]) (by simp [World.cell?, hbx]) hT1) belowK_t (belowK_b (by omega)) (Below.refl _ _) (fun _ => rfl)
    (fun pre W => (∃ v, Boxed W (w.heap.size + 1) 23 v ∧ W.ownsRow w.heap.size 3 1 v pre.length (pre.map fun x => Value.int .i64 (x : Nat)) ∧ True) ∧ Below w.heap.size w W)
    (fun _ _ _ => False)
    (OwnFrom.and (Own.from (holdsRow_own w.heap.size (w.heap.size + 1) 23 3 1 (fun pre : List Nat => pre.length) (fun pre : List Nat => pre.map fun x => Value.int .i64 (x : Nat)) (fun _ _ => True)) _) (ownFrom_below (Nat.le_refl _) (by omega)))
    (fun _ _ _ _ _ hs _ _ => hs)
    ⟨⟨_, bO, World.ownsRow_nil _ _ _ _, trivial⟩, hB0⟩
    (fun x => { tmps := #[.agg #[.int .i64 lev, .int .u64 c], .pointer (some ⟨w.heap.size, 0, none⟩), .slice none 0 0, .pointer (some ⟨w.heap.size + 1, 0, none⟩), .int .i64 (x : Nat), .agg #[.int .i64 lev, .int .u64 c], .func (.func 287) #[] #[.pointer (some ⟨w.heap.size + 1 + 1, 0, none⟩)], .int .i64 (x : Nat), undef, undef, undef, undef, undef], defers := [] }) ?assign ?body ?done ?stop
  case assign =>
    intro l x W K hK
    gi_wp2
    exact hK
  case body =>
    rintro l pre x W ⟨⟨v, hv, hrow, -⟩, hB⟩ hlt
    have hc := hv.cell
    have hl64 := zV3 c
    gi_wp2_with (gi_at_builtin; refine wpListIn_append_own _ rfl _ _ 23 rfl w.heap.size 3 i0 (.int .i64 0) 1 8 zXw hi hz0 hz1 hz2 rfl (by decide) _ _ _ rfl (hrow.alloc _) ⟨W.heap.size, 0, none⟩ 1 1 [.int .i64 (x : Nat)] rfl rfl (cell_one_new _ _ _) (by simp [Value.oneCell']) (by simp only [Go.maxLen]; omega) (by omega) (by have := hB.size; simp; omega) ?_; intro v' w1' hown' hgrow _; obtain ⟨g', cap', rfl⟩ := ownsRow_succ hown'; obtain ⟨hv1, hv2, hr2, hk2, hb2⟩ := hv.appended (by decide) hrow hB.size (by omega) hown' hgrow; have hc1 := hv1.cell; have hf1 := hv1.frozen)
    exact ⟨hk2.from _, hb2, ⟨_, hv2, by simpa using hr2, trivial⟩, hB.trans hb2⟩
  case done =>
    rintro D ys W hD rfl ⟨⟨v, hv, hrow, -⟩, hB⟩ hK
    have hc := hv.cell
    gi_wp2
    refine ⟨by simp, .inl ⟨_, _, rfl, run_takeDeferred hK, ?_⟩⟩
    exact ⟨_, results_tmp rfl _ _ _, v, rfl, ownsRow_putObj hrow _ hK rfl, hB.trans (belowK_b (w := w) (Nat.le_refl _) W D _ _ (by omega) hK rfl rfl)⟩
  case stop =>
    rintro D c pre W _ _ h _
    exact h.elim
def zpV : zF4 := fun x => bif decide (0 ≤ x.1.2.1 ∧ x.1.2.1 < 18446744073709551616) then some ((zal x.1.2.1.toNat).map Int.ofNat, ()) else none
theorem zV6 {G F0 : FH} {w : World} (hE : zQ Tryz.prog G E0) (hG : G.le F0) (hk : F0.ok w) : TabAt w ∧ 1 ≤ w.heap.size := by
  obtain ⟨τ, x, cs, h1, ⟨-, c, h2, h3⟩, h4⟩ := hE.glob 0 _ rfl
  cases h1
  obtain ⟨-, hr⟩ := h4
  obtain ⟨el, fz, hw⟩ := hk _ _ (hG _ _ h2)
  have hlt := (Array.getElem?_eq_some_iff.1 hw).1
  refine ⟨fun j hj => ?_, hlt⟩
  have key : ∀ (l : List Int) (cs : List Value) (j : Nat), zu ((RR Tryz.prog (.int .u8)).1 G) l cs → j < l.length → cs[j]? = some (.int .u8 (l.getD j 0)) := by
    intro l
    induction l with
    | nil => intro cs j _ h; simp at h
    | cons x l ih =>
      rintro cs j ⟨d, e, rfl, hd, he⟩ hj
      have hd : d = [.int .u8 x] := hd
      subst hd
      cases j with
      | zero => rfl
      | succ j => simpa using ih e j he (by simpa using hj)
  have h5 := key _ _ j hr (by simpa [Lib.deBruijn64tab] using hj)
  have h6 := h3 j _ h5
  have e : ∀ j, j < 64 → ((([0, 1, 56, 2, 57, 49, 28, 3, 61, 58, 42, 50, 38, 29, 17, 4, 62, 47, 59, 36, 45, 43, 51, 22, 53, 39, 33, 30, 24, 18, 12, 5, 63, 55, 48, 27, 60, 41, 37, 16, 46, 35, 44, 21, 52, 32, 23, 11, 54, 26, 40, 15, 34, 20, 31, 10, 25, 14, 19, 9, 13, 8, 7, 6] : List Int)).getD j 0) = ((Lib.deBruijn64tab.getD j 0 : Nat) : Int) := by decide +kernel
  rw [e j (by simpa [Lib.deBruijn64tab] using hj)] at h6
  unfold World.cell?
  simp only [hw]
  simpa using h6
theorem zOf (P : Program) (F : FH) : ∀ l : List Nat, zu (Rep P F (.int .i64)) (l.map Int.ofNat) (l.map fun x => Value.int .i64 (x : Nat))
  | [] => rfl
  | x :: l => ⟨[.int .i64 (x : Nat)], l.map fun x => Value.int .i64 (x : Nat), rfl, rfl, zOf P F l⟩
theorem zQl : Sd Tryz.prog E0 (zur zpV) := by
  intro G hE
  refine ⟨⟨Tryz.f232, Tryz.func232, by kernel_rfl, by kernel_rfl⟩, ?_⟩
  rintro ⟨⟨(lev : Int), (comps : Int), ⟨⟩⟩, ⟨⟩⟩ y hy F0 w vs hG hk ⟨v, r, rfl, h1, h2, h3⟩
  obtain ⟨hd, hy⟩ := zd hy
  cases hy
  obtain ⟨hc0, hc1⟩ := of_decide_eq_true hd
  have hc0 : 0 ≤ comps := hc0
  have hc1 : comps < 18446744073709551616 := hc1
  clear hd
  obtain rfl : r = [] := h3
  obtain ⟨hT, hs⟩ := zV6 hE hG hk
  obtain ⟨c, rfl⟩ := Int.eq_ofNat_of_zero_le hc0
  have hv : v = .agg #[.int .i64 lev, .int .u64 c] := by
    obtain ⟨d1, e1, k1, (rfl : d1 = _), d2, e2, rfl, (rfl : d2 = _), (rfl : e2 = _)⟩ := h1
    have h2 : zhH v = true := h2
    cases v with
    | agg cs =>
      have : cs.toList = [.int .i64 lev, .int .u64 c] := k1
      rw [← Array.toArray_toList (xs := cs), this]
    | _ => cases h2
  subst hv
  have hin := callsIn_wide.1 (zWL 1 (Nat.le_refl _) lev c (by omega) w hs hT)
  refine hin.mono ?_
  rintro e W' ⟨v, rfl, hrow, hB⟩
  have hlow : ∀ k c', F0 k = some c' → k < w.heap.size := fun k c' hk' => by
    obtain ⟨el, fz, hw⟩ := hk _ _ hk'
    exact (Array.getElem?_eq_some_iff.1 hw).1
  let F' : FH := fun k => if k < w.heap.size then F0 k else FH.of W' k
  have hF' : ∀ k c', F' k = some c' → ∃ el fz, W'.heap[k]? = some (.cells c' el fz) := by
    intro k c' h
    simp only [F'] at h
    split at h
    · rename_i hlt
      obtain ⟨el, fz, hw⟩ := hk _ _ h
      exact ⟨el, fz, (hB.block k hlt).trans hw⟩
    · exact FH.of_ok W' _ _ h
  refine ⟨[v], F', rfl, hB, ⟨fun k c' hk' => ?_, fun k hk' => ?_⟩, hF', ?_⟩
  · simp only [F']; rw [if_pos (hlow k c' hk')]; exact hk'
  · simp only [F']; rw [if_pos hk']
  · show vL Tryz.prog F' (.pair (.sl tI) .unit) ((zal c).map Int.ofNat, ()) [v]
    have hlen : List.length ((zal c).map Int.ofNat) = (zal c).length := List.length_map ..
    have hr := zOf Tryz.prog F' (zal c)
    generalize (zal c).map Int.ofNat = L at hlen hr ⊢
    rcases hrow.2 with ⟨rfl, h0⟩ | ⟨g, cap, cur, rfl, hgb, hw, hnc, -, -, htake⟩
    · obtain rfl : L = [] := List.eq_nil_of_length_eq_zero (by omega)
      exact ⟨_, [], rfl, ⟨none, 0, rfl, Nat.le_refl _, fun hne => absurd rfl hne⟩, rfl, rfl⟩
    · refine ⟨_, [], rfl, ⟨some ⟨g, 0, none⟩, cap, ?_, (show List.length L ≤ cap by omega), fun _ => ⟨_, _, rfl, ⟨rfl, cur, ?_, fun j u hj => ?_⟩, hr⟩⟩, rfl, rfl⟩
      · show _ = [Value.slice _ (List.length L) cap]
        rw [hlen]; rfl
      · show (if g < w.heap.size then F0 g else FH.of W' g) = some cur
        rw [if_neg (by omega)]
        simp only [FH.of, hw]
      · rw [← htake] at hj
        have := List.getElem?_eq_some_iff.1 hj
        obtain ⟨h1, h2⟩ := this
        rw [List.getElem_take] at h2
        show cur[0 + j]? = _
        rw [Nat.zero_add, ← Array.getElem?_toList, List.getElem?_eq_getElem (by rw [List.length_take] at h1; omega), h2]
end Go.Proofs.YtaokpakfhdeiiaaGreatDoor
end
section
namespace Go.Proofs.YtaokpakfhdeiiaaGreatDoor
open Go.Ev
set_option linter.unusedVariables false
noncomputable section
section
def zEJ : Unit → Option (ze × Unit) := fun () =>
  some (([(0, 0, ()), (0, 1, ()), (1, 1, ())], [0, 1, 2], [(ByteArray.mk #[97, 110, 110], ByteArray.mk #[97], 1, true, ()), (ByteArray.mk #[98, 111, 98], ByteArray.mk #[98], 0, false, ())], [(0, 0, ())], [(2, 2, 2, 2, 2, 1000, ()), (2, 2, 2, 2, 2, 1000, ()), (2, 2, 2, 2, 2, 1000, ())], 4, 6, 2, 3, ()), ())
theorem zOt (K : Nat) : evF (En E0 false []) K Tryz.f64 0 ztP ztQ = zEJ := funext fun () => by kernel_rfl
end
def zec : zEw := zEJ
theorem zOu : Sd Tryz.prog E0 (zrz zec) := mkS (l := []) trivial Tryz.func64 (by kernel_rfl) (zOt K0)
section
def zuA : (zD × Unit) → Option (Bool × Unit) := fun (x0, ()) =>
  bif decide (x0.1 ≥ 0) then bif decide (x0.1 < 4) then some (true, ()) else some (false, ()) else some (false, ())
theorem zOv (K : Nat) : evF (En E0 false []) K Tryz.f170 0 zue zuf = zuA := funext fun (x0, ()) => by kernel_rfl
end
def zed : zEF := zuA
theorem zOw : Sd Tryz.prog E0 (zrS zed) := mkS (l := []) trivial Tryz.func170 (by kernel_rfl) (zOv K0)
section
variable (zuB : zEF)
def znQ : (zD × Unit) → Option (Bool × Unit) := fun (x0, ()) =>
  Option.bind (zuB (x0, ())) fun q0 => bif q0.1 then some (false, ()) else some (true, ())
theorem zIL (K : Nat) : evF (En E0 false [zrS zuB]) K Tryz.f169 0 znv znw = znQ zuB := funext fun (x0, ()) => by kernel_rfl
end
def zbb : zwR := znQ zed
theorem zIM : Sd Tryz.prog E0 (zln zbb) := mkS (l := [zrS zed]) ⟨zOw, trivial⟩ Tryz.func169 (by kernel_rfl) (zIL zed K0)
section
def zsb : (Int × (Int × (Int × Unit))) → Option (Bool × Unit) := fun (x0, x1, x2, ()) =>
  bif decide (x0 ≥ x1) then bif decide (x0 ≤ x2) then some (true, ()) else some (false, ()) else some (false, ())
theorem zMH (K : Nat) : evF (En E0 false []) K Tryz.f171 0 zrT zrU = zsb := funext fun (x0, x1, x2, ()) => by kernel_rfl
end
def zB : vi := zsb
theorem vO : Sd Tryz.prog E0 (z4 zB) := mkS (l := []) trivial Tryz.func171 (by kernel_rfl) (zMH K0)
section
abbrev zpW : Env := (En E0 false [])
abbrev yw : Type := (List zD) × (Option ((zD × Unit) → Option (Bool × Unit))) × Int × Int
abbrev zA2 : yw → St := fun (v0, v1, v7, v8) => St.mk [(0, AV.dat (Ty.sl zJ) v0), (1, AV.dat (Ty.fn (Ty.pair zJ Ty.unit) (Ty.pair Ty.bool Ty.unit)) v1), (7, AV.dat tI v7), (8, AV.dat tI v8)] []
def zfj (k0 : yw → Option (Int × Unit)) : yw → Option (Int × Unit) := fun (v0, v1, v7, v8) =>
  bif decide (v8 < v7) then inR v8 ((List.length v0) : Int) (Option.bind v1 fun q0 => Option.bind (q0 (ix za1 v0 v8, ())) fun q1 => bif q1.1 then some (v8, ()) else k0 (v0, v1, v7, wI (v8 + 1))) else some ((-1), ())
abbrev zl2 (K : Nat) : yw → Option (Int × Unit) := iter (zfj) K
theorem zA3 (K : Nat) : ∀ n, evV (zpW) K Tryz.f233 0 zcM [1, 0, 1, 0] [] zA2 n = iter (zfj) n := zx fun n0 (v0, v1, v7, v8) => by kernel_rfl
def zhc (L0 : yw → Option (Int × Unit)) : ((List zD) × ((Option ((zD × Unit) → Option (Bool × Unit))) × Unit)) → Option (Int × Unit) := fun (x0, x1, ()) =>
  L0 (x0, x1, ((List.length x0) : Int), 0)
theorem zDD (K : Nat) : evF (zpW) K Tryz.f233 0 zgZ zcM = zhc (zl2 K) := tr1 (T := zhc) (zA3 K K) fun (x0, x1, ()) => by kernel_rfl
end
def vP : zpG := zhc (zl2 K0)
theorem zDE : Sd Tryz.prog E0 (zfY vP) := mkS (l := []) trivial Tryz.func233 (by kernel_rfl) (zDD K0)
section
variable (zhd : zpG)
def zkN : ((List zD) × ((Option ((zD × Unit) → Option (Bool × Unit))) × Unit)) → Option (Bool × Unit) := fun (x0, x1, ()) =>
  Option.bind (zhd (x0, x1, ())) fun q0 => bif decide (q0.1 ≥ 0) then some (true, ()) else some (false, ())
theorem zyZ (K : Nat) : evF (En E0 false [zfY zhd]) K Tryz.f172 0 zdL zdM = zkN zhd := funext fun (x0, x1, ()) => by kernel_rfl
end
def qE : zdN := zkN vP
theorem zkO : Sd Tryz.prog E0 (vA qE) := mkS (l := [zfY vP]) ⟨zDE, trivial⟩ Tryz.func172 (by kernel_rfl) (zyZ vP K0)
section
def zpX : (Int × Unit) → Option (Bool × Unit) := fun (x0, ()) =>
  bif x0 != x0 then some (true, ()) else some (false, ())
theorem zKN (K : Nat) : evF (En E0 false []) K Tryz.f277 0 zpS zpT = zpX := funext fun (x0, ()) => by kernel_rfl
end
def zbT : zzK := zpX
theorem zKO : Sd Tryz.prog E0 (znP zbT) := mkS (l := []) trivial Tryz.func277 (by kernel_rfl) (zKN K0)
section
variable (zeB : zzK)
def zlF : (Int × (Int × Unit)) → Option (Int × Unit) := fun (x0, x1, ()) =>
  Option.bind (zeB (x0, ())) fun q0 => bif q0.1 then Option.bind (zeB (x1, ())) fun q1 => bif q1.1 then some (0, ()) else some ((-1), ()) else Option.bind (zeB (x1, ())) fun q2 => bif q2.1 then some (1, ()) else bif decide (x0 < x1) then some ((-1), ()) else bif decide (x0 > x1) then some (1, ()) else some (0, ())
theorem zHv (K : Nat) : evF (En E0 false [znP zeB]) K Tryz.f235 0 zly zlz = zlF zeB := funext fun (x0, x1, ()) => by kernel_rfl
end
def jT : zlA := zlF zbT
theorem zvj : Sd Tryz.prog E0 (zbE jT) := mkS (l := [znP zbT]) ⟨zKO, trivial⟩ Tryz.func235 (by kernel_rfl) (zHv zbT K0)
section
def zjE : (Int × Unit) → Option (Bool × Unit) := fun (x0, ()) =>
  bif x0 != x0 then some (true, ()) else some (false, ())
theorem zGi (K : Nat) : evF (En E0 false []) K Tryz.f278 0 zjB zjC = zjE := funext fun (x0, ()) => by kernel_rfl
end
def yV : zs9 := zjE
theorem zGj : Sd Tryz.prog E0 (ziw yV) := mkS (l := []) trivial Tryz.func278 (by kernel_rfl) (zGi K0)
section
variable (zbF : zs9)
def zhe : (Int × (Int × Unit)) → Option (Int × Unit) := fun (x0, x1, ()) =>
  Option.bind (zbF (x0, ())) fun q0 => bif q0.1 then Option.bind (zbF (x1, ())) fun q1 => bif q1.1 then some (0, ()) else some ((-1), ()) else Option.bind (zbF (x1, ())) fun q2 => bif q2.1 then some (1, ()) else bif decide (x0 < x1) then some ((-1), ()) else bif decide (x0 > x1) then some (1, ()) else some (0, ())
theorem zDF (K : Nat) : evF (En E0 false [ziw zbF]) K Tryz.f236 0 zg0 zg1 = zhe zbF := funext fun (x0, x1, ()) => by kernel_rfl
end
def qZ : zg2 := zhe yV
theorem zpY : Sd Tryz.prog E0 (yU qZ) := mkS (l := [ziw yV]) ⟨zGj, trivial⟩ Tryz.func236 (by kernel_rfl) (zDF yV K0)
section
abbrev zGk : Env := (En E0 false [])
abbrev zf3 : Type := Int × (List Int) × Int × Int
abbrev zMI : zf3 → St := fun (v3, v6, v7, v8) => St.mk [(3, AV.dat tI v3), (6, AV.dat (Ty.sl tI) v6), (7, AV.dat tI v7), (8, AV.dat tI v8)] []
def jY (k0 : zf3 → Option (Int × Unit)) : zf3 → Option (Int × Unit) := fun (v3, v6, v7, v8) =>
  bif decide (v8 < v7) then inR v8 ((List.length v6) : Int) (bif ix (0 : Int) v6 v8 != v3 then some (ix (0 : Int) v6 v8, ()) else k0 (v3, v6, v7, wI (v8 + 1))) else some (v3, ())
abbrev zCd (K : Nat) : zf3 → Option (Int × Unit) := iter (jY) K
theorem zMJ (K : Nat) : ∀ n, evV (zGk) K Tryz.f234 0 zpH [1, 1, 0, 1, 0] [] zMI n = iter (jY) n := zx fun n0 (v3, v6, v7, v8) => by kernel_rfl
def zxy (L0 : zf3 → Option (Int × Unit)) : ((List Int) × Unit) → Option (Int × Unit) := fun (x0, ()) =>
  L0 (0, x0, ((List.length x0) : Int), 0)
theorem zQm (K : Nat) : evF (zGk) K Tryz.f234 0 zw8 zpH = zxy (zCd K) := tr1 (T := zxy) (zMJ K K) fun (x0, ()) => by kernel_rfl
end
def yx : zw9 := zxy (zCd K0)
theorem zGl : Sd Tryz.prog E0 (zhK yx) := mkS (l := []) trivial Tryz.func234 (by kernel_rfl) (zQm K0)
section
variable (yc : zlA) (j8 : zg2) (zdh : zw9)
def zA4 : (zD × (zD × Unit)) → Option (Int × Unit) := fun (x0, x1, ()) =>
  Option.bind (yc (x0.1, x1.1, ())) fun q0 => Option.bind (j8 (x0.2.1, x1.2.1, ())) fun q1 => Option.bind (zdh (zg (zg (List.replicate 2 (0 : Int)) 0 q0.1) 1 q1.1, ())) fun q2 => some (q2.1, ())
theorem zR8 (K : Nat) : evF (En E0 false [zbE yc, yU j8, zhK zdh]) K Tryz.f173 0 zAK zAL = zA4 yc j8 zdh := funext fun (x0, x1, ()) => by kernel_rfl
end
def zfk : zIh := zA4 jT qZ yx
theorem zR9 : Sd Tryz.prog E0 (zwS zfk) := mkS (l := [zbE jT, yU qZ, zhK yx]) ⟨zvj, zpY, zGl, trivial⟩ Tryz.func173 (by kernel_rfl) (zR8 jT qZ yx K0)
section
variable (yO : zwR) (zk : vi) (zH : zdN) (zcY : zIh)
abbrev zCe : Env := (En E0 false [zln yO, z4 zk, vA zH, zwS zcY])
abbrev zdi : Type := Int × ze
abbrev zIN : zdi → St := fun (v4, o0) => St.mk [(1, AV.bp 0 []), (4, AV.dat tI v4)] [Obj.bx (AV.dat zL o0) false]
def zhf (k0 : zdi → Option (Bool × Unit)) : zdi → Option (Bool × Unit) := fun (v4, o0) =>
  bif decide (v4 < ((List.length o0.1) : Int)) then inR (wI (v4 - 1)) ((List.length o0.1) : Int) (inR v4 ((List.length o0.1) : Int) (Option.bind (zcY (List.getD o0.1 (Int.toNat (wI (v4 - 1))) (zb zJ), ix za1 o0.1 v4, ())) fun q2 => bif decide (q2.1 ≥ 0) then some (false, ()) else k0 (wI (v4 + 1), o0))) else some (true, ())
abbrev znR (K : Nat) : zdi → Option (Bool × Unit) := iter (zhf zcY) K
theorem zIO (K : Nat) : ∀ n, evV (zCe yO zk zH zcY) K Tryz.f84 0 zkg [1, 1, 1, 0, 1, 0] [] zIN n = iter (zhf zcY) n := zx fun n0 (v4, o0) => by kernel_rfl
def zkm (L0 : zdi → Option (Bool × Unit)) : (ze × Unit) → Option (Bool × Unit) := fun (x0, ()) =>
  Option.bind (zk (((List.length x0.1) : Int), 1, 8, ())) fun q0 => bif q0.1 then bif decide (0 < ((List.length x0.1) : Int)) then bif !eqI zJ (ix za1 x0.1 0) (zb zJ) then some (false, ()) else Option.bind (zH (x0.1, some yO, ())) fun q1 => bif q1.1 then some (false, ()) else L0 (1, x0) else none else some (false, ())
theorem zMK (K : Nat) : evF (zCe yO zk zH zcY) K Tryz.f84 0 zrG zkg = zkm yO zk zH (znR zcY K) := tr1 (T := zkm yO zk zH) (zIO yO zk zH zcY K K) fun (x0, ()) => by kernel_rfl
end
def vQ : zB1 := zkm zbb zB qE (znR zfk K0)
theorem zML : Sd Tryz.prog E0 (zoZ vQ) := mkS (l := [zln zbb, z4 zB, vA qE, zwS zfk]) ⟨zIM, vO, zkO, zR9, trivial⟩ Tryz.func84 (by kernel_rfl) (zMK zbb zB qE zfk K0)
section
variable (zk : vi)
def zpZ : (Int × ((Option ze) × Unit)) → Option (Bool × Unit) := fun (x0, x1, ()) =>
  Option.bind x1 fun q0 => Option.bind (zk (x0, 0, wI (((List.length q0.1) : Int) - 1), ())) fun q1 => bif q1.1 then some (false, ()) else some (true, ())
theorem zKP (K : Nat) : evF (En E0 false [z4 zk]) K Tryz.f174 0 zpu zpv = zpZ zk := funext fun (x0, x1, ()) => by kernel_rfl
end
def zax : zzF := zpZ zB
theorem zKQ : Sd Tryz.prog E0 (znx zax) := mkS (l := [z4 zB]) ⟨vO, trivial⟩ Tryz.func174 (by kernel_rfl) (zKP zB K0)
section
abbrev zta : Env := (En E0 false [])
abbrev zay : Type := (List Int) × (Option ((Int × Unit) → Option (Bool × Unit))) × Int × Int
abbrev zDG : zay → St := fun (v0, v1, v7, v8) => St.mk [(0, AV.dat (Ty.sl tI) v0), (1, AV.dat (Ty.fn (Ty.pair tI Ty.unit) (Ty.pair Ty.bool Ty.unit)) v1), (7, AV.dat tI v7), (8, AV.dat tI v8)] []
def zhg (k0 : zay → Option (Int × Unit)) : zay → Option (Int × Unit) := fun (v0, v1, v7, v8) =>
  bif decide (v8 < v7) then inR v8 ((List.length v0) : Int) (Option.bind v1 fun q0 => Option.bind (q0 (ix (0 : Int) v0 v8, ())) fun q1 => bif q1.1 then some (v8, ()) else k0 (v0, v1, v7, wI (v8 + 1))) else some ((-1), ())
abbrev zp0 (K : Nat) : zay → Option (Int × Unit) := iter (zhg) K
theorem zDH (K : Nat) : ∀ n, evV (zta) K Tryz.f230 0 zez [1, 0, 1, 0] [] zDG n = iter (zhg) n := zx fun n0 (v0, v1, v7, v8) => by kernel_rfl
def zjF (L0 : zay → Option (Int × Unit)) : ((List Int) × ((Option ((Int × Unit) → Option (Bool × Unit))) × Unit)) → Option (Int × Unit) := fun (x0, x1, ()) =>
  L0 (x0, x1, ((List.length x0) : Int), 0)
theorem zGm (K : Nat) : evF (zta) K Tryz.f230 0 zjv zez = zjF (zp0 K) := tr1 (T := zjF) (zDH K K) fun (x0, x1, ()) => by kernel_rfl
end
def yW : zs6 := zjF (zp0 K0)
theorem zGn : Sd Tryz.prog E0 (zin yW) := mkS (l := []) trivial Tryz.func230 (by kernel_rfl) (zGm K0)
section
variable (zjG : zs6)
def zog : ((List Int) × ((Option ((Int × Unit) → Option (Bool × Unit))) × Unit)) → Option (Bool × Unit) := fun (x0, x1, ()) =>
  Option.bind (zjG (x0, x1, ())) fun q0 => bif decide (q0.1 ≥ 0) then some (true, ()) else some (false, ())
theorem zCf (K : Nat) : evF (En E0 false [zin zjG]) K Tryz.f160 0 zfU zfV = zog zjG := funext fun (x0, x1, ()) => by kernel_rfl
end
def zz : vw := zog yW
theorem yX : Sd Tryz.prog E0 (qn zz) := mkS (l := [zin yW]) ⟨zGn, trivial⟩ Tryz.func160 (by kernel_rfl) (zCf yW K0)
section
variable (zp1 : zzF) (zk : vi) (zn : vw)
def zuC : (ze × Unit) → Option (Bool × Unit) := fun (x0, ()) =>
  Option.bind (zk (((List.length x0.2.1) : Int), 1, 8, ())) fun q0 => bif q0.1 then Option.bind (zn (x0.2.1, some fun z => zp1 (z.1, some x0, ()), ())) fun q1 => bif q1.1 then some (false, ()) else some (true, ()) else some (false, ())
theorem zOx (K : Nat) : evF (En E0 false [znx zp1, z4 zk, qn zn]) K Tryz.f85 0 ztT ztU = zuC zp1 zk zn := funext fun (x0, ()) => by kernel_rfl
end
def yK : zEy := zuC zax zB zz
theorem zOy : Sd Tryz.prog E0 (zrH yK) := mkS (l := [znx zax, z4 zB, qn zz]) ⟨zKQ, vO, yX, trivial⟩ Tryz.func85 (by kernel_rfl) (zOx zax zB zz K0)
section
def zxz : (Int × Unit) → Option (Bool × Unit) := fun (x0, ()) =>
  bif decide (x0 ≥ 97) then bif decide (x0 ≤ 122) then some (true, ()) else some (false, ()) else some (false, ())
theorem zQn (K : Nat) : evF (En E0 false []) K Tryz.f237 0 zxa zxb = zxz := funext fun (x0, ()) => by kernel_rfl
end
def zaz : zxc := zxz
theorem zGo : Sd Tryz.prog E0 (zhL zaz) := mkS (l := []) trivial Tryz.func237 (by kernel_rfl) (zQn K0)
section
def zGp : (Int × ((Option (Option ((Int × Unit) → Option (Bool × Unit)))) × Unit)) → Option (Bool × Unit) := fun (x0, x1, ()) =>
  Option.bind x1 fun q0 => Option.bind q0 fun q1 => Option.bind (q1 (x0, ())) fun q2 => bif q2.1 then some (false, ()) else some (true, ())
theorem zQo (K : Nat) : evF (En E0 false []) K Tryz.f279 0 zxr zxs = zGp := funext fun (x0, x1, ()) => by kernel_rfl
end
def zf4 : zGc := zGp
theorem zQp : Sd Tryz.prog E0 (zux zf4) := mkS (l := []) trivial Tryz.func279 (by kernel_rfl) (zQo K0)
section
abbrev zqU : Env := (En E0 false [])
abbrev yY : Type := (List Int) × (Option ((Int × Unit) → Option (Bool × Unit))) × Int × Int
abbrev zCg : yY → St := fun (v0, v1, v7, v8) => St.mk [(0, AV.dat (Ty.sl (Ty.int IntKind.u8)) v0), (1, AV.dat (Ty.fn (Ty.pair (Ty.int IntKind.u8) Ty.unit) (Ty.pair Ty.bool Ty.unit)) v1), (7, AV.dat tI v7), (8, AV.dat tI v8)] []
def zf5 (k0 : yY → Option (Int × Unit)) : yY → Option (Int × Unit) := fun (v0, v1, v7, v8) =>
  bif decide (v8 < v7) then inR v8 ((List.length v0) : Int) (Option.bind v1 fun q0 => Option.bind (q0 (ix (zb (Ty.int IntKind.u8)) v0 v8, ())) fun q1 => bif q1.1 then some (v8, ()) else k0 (v0, v1, v7, wI (v8 + 1))) else some ((-1), ())
abbrev zoh (K : Nat) : yY → Option (Int × Unit) := iter (zf5) K
theorem zCh (K : Nat) : ∀ n, evV (zqU) K Tryz.f289 0 zdJ [1, 0, 1, 0] [] zCg n = iter (zf5) n := zx fun n0 (v0, v1, v7, v8) => by kernel_rfl
def ziy (L0 : yY → Option (Int × Unit)) : ((List Int) × ((Option ((Int × Unit) → Option (Bool × Unit))) × Unit)) → Option (Int × Unit) := fun (x0, x1, ()) =>
  L0 (x0, x1, ((List.length x0) : Int), 0)
theorem zE3 (K : Nat) : evF (zqU) K Tryz.f289 0 zix zdJ = ziy (zoh K) := tr1 (T := ziy) (zCh K K) fun (x0, x1, ()) => by kernel_rfl
end
def yj : zqT := ziy (zoh K0)
theorem zE4 : Sd Tryz.prog E0 (zhb yj) := mkS (l := []) trivial Tryz.func289 (by kernel_rfl) (zE3 K0)
section
variable (ziz : zqT)
def zl3 : ((List Int) × ((Option ((Int × Unit) → Option (Bool × Unit))) × Unit)) → Option (Bool × Unit) := fun (x0, x1, ()) =>
  Option.bind (ziz (x0, x1, ())) fun q0 => bif decide (q0.1 ≥ 0) then some (true, ()) else some (false, ())
theorem zA5 (K : Nat) : evF (En E0 false [zhb ziz]) K Tryz.f280 0 zfg zfh = zl3 ziz := funext fun (x0, x1, ()) => by kernel_rfl
end
def jH : zl0 := zl3 yj
theorem zA6 : Sd Tryz.prog E0 (zd0 jH) := mkS (l := [zhb yj]) ⟨zE4, trivial⟩ Tryz.func280 (by kernel_rfl) (zA5 yj K0)
section
variable (zxA : zGc) (zfl : zl0)
def zKR : (ByteArray × ((Option ((Int × Unit) → Option (Bool × Unit))) × Unit)) → Option (Bool × Unit) := fun (x0, x1, ()) =>
  Option.bind (zfl (List.map (fun b => (↑(UInt8.toNat b) : Int)) (Array.toList (ByteArray.data x0)), some fun z => zxA (z.1, some x1, ()), ())) fun q0 => bif q0.1 then some (false, ()) else some (true, ())
theorem zTK (K : Nat) : evF (En E0 false [zux zxA, zd0 zfl]) K Tryz.f238 0 zDp zDq = zKR zxA zfl := funext fun (x0, x1, ()) => by kernel_rfl
end
def zeC : zDr := zKR zf4 jH
theorem zKS : Sd Tryz.prog E0 (zlX zeC) := mkS (l := [zux zf4, zd0 jH]) ⟨zQp, zA6, trivial⟩ Tryz.func238 (by kernel_rfl) (zTK zf4 jH K0)
section
def zxB : (Int × Unit) → Option (Bool × Unit) := fun (x0, ()) =>
  bif decide (x0 ≥ 48) then bif decide (x0 ≤ 57) then some (true, ()) else some (false, ()) else some (false, ())
theorem zQq (K : Nat) : evF (En E0 false []) K Tryz.f240 0 zxd zxe = zxB := funext fun (x0, ()) => by kernel_rfl
end
def zf6 : zF5 := zxB
theorem zQr : Sd Tryz.prog E0 (zus zf6) := mkS (l := []) trivial Tryz.func240 (by kernel_rfl) (zQq K0)
section
variable (zdj : zxc) (zxC : zF5)
def zsc : (Int × Unit) → Option (Bool × Unit) := fun (x0, ()) =>
  Option.bind (zdj (x0, ())) fun q0 => bif q0.1 then some (true, ()) else Option.bind (zxC (x0, ())) fun q1 => bif q1.1 then some (true, ()) else some (false, ())
theorem zMM (K : Nat) : evF (En E0 false [zhL zdj, zus zxC]) K Tryz.f239 0 zr2 zr3 = zsc zdj zxC := funext fun (x0, ()) => by kernel_rfl
end
def zc2 : zB8 := zsc zaz zf6
theorem zMN : Sd Tryz.prog E0 (zpI zc2) := mkS (l := [zhL zaz, zus zf6]) ⟨zGo, zQr, trivial⟩ Tryz.func239 (by kernel_rfl) (zMM zaz zf6 K0)
section
variable (zdj : zxc) (zhh : zDr) (zsd : zB8)
def zxD : (ByteArray × Unit) → Option (Bool × Unit) := fun (x0, ()) =>
  bif decide ((↑(ByteArray.size x0) : Int) < 1) then some (false, ()) else bif decide ((↑(ByteArray.size x0) : Int) > 12) then some (false, ()) else bif decide (0 < (↑(ByteArray.size x0) : Int)) then Option.bind (zdj ((↑(UInt8.toNat (List.getD (Array.toList (ByteArray.data x0)) (Int.toNat 0) 0)) : Int), ())) fun q0 => bif q0.1 then Option.bind (zhh (x0, some zsd, ())) fun q1 => bif q1.1 then some (true, ()) else some (false, ()) else some (false, ()) else none
theorem zQs (K : Nat) : evF (En E0 false [zhL zdj, zlX zhh, zpI zsd]) K Tryz.f176 0 zwT zwU = zxD zdj zhh zsd := funext fun (x0, ()) => by kernel_rfl
end
def vb : zpw := zxD zaz zeC zc2
theorem zxE : Sd Tryz.prog E0 (zcg vb) := mkS (l := [zhL zaz, zlX zeC, zpI zc2]) ⟨zGo, zKS, zMN, trivial⟩ Tryz.func176 (by kernel_rfl) (zQs zaz zeC zc2 K0)
section
variable (vc : zpw) (zk : vi)
def zjH : (qY × Unit) → Option (Bool × Unit) := fun (x0, ()) =>
  Option.bind (vc (x0.1, ())) fun q0 => bif q0.1 then Option.bind (vc (x0.2.1, ())) fun q1 => bif q1.1 then Option.bind (zk (x0.2.2.1, 0, 3, ())) fun q2 => bif q2.1 then some (false, ()) else some (true, ()) else some (true, ()) else some (true, ())
theorem zGq (K : Nat) : evF (En E0 false [zcg vc, z4 zk]) K Tryz.f175 0 zjj zjk = zjH vc zk := funext fun (x0, ()) => by kernel_rfl
end
def yZ : zs2 := zjH vb zB
theorem zGr : Sd Tryz.prog E0 (zh9 yZ) := mkS (l := [zcg vb, z4 zB]) ⟨zxE, vO, trivial⟩ Tryz.func175 (by kernel_rfl) (zGq vb zB K0)
section
abbrev zl4 : Env := (En E0 false [])
abbrev vC : Type := (List qY) × (Option ((qY × Unit) → Option (Bool × Unit))) × Int × Int
abbrev zxF : vC → St := fun (v0, v1, v7, v8) => St.mk [(0, AV.dat (Ty.sl jG) v0), (1, AV.dat (Ty.fn (Ty.pair jG Ty.unit) (Ty.pair Ty.bool Ty.unit)) v1), (7, AV.dat tI v7), (8, AV.dat tI v8)] []
def zdk (k0 : vC → Option (Int × Unit)) : vC → Option (Int × Unit) := fun (v0, v1, v7, v8) =>
  bif decide (v8 < v7) then inR v8 ((List.length v0) : Int) (Option.bind v1 fun q0 => Option.bind (q0 (ix zwb v0 v8, ())) fun q1 => bif q1.1 then some (v8, ()) else k0 (v0, v1, v7, wI (v8 + 1))) else some ((-1), ())
abbrev zjI (K : Nat) : vC → Option (Int × Unit) := iter (zdk) K
theorem zxG (K : Nat) : ∀ n, evV (zl4) K Tryz.f241 0 zbt [1, 0, 1, 0] [] zxF n = iter (zdk) n := zx fun n0 (v0, v1, v7, v8) => by kernel_rfl
def zfm (L0 : vC → Option (Int × Unit)) : ((List qY) × ((Option ((qY × Unit) → Option (Bool × Unit))) × Unit)) → Option (Int × Unit) := fun (x0, x1, ()) =>
  L0 (x0, x1, ((List.length x0) : Int), 0)
theorem zA7 (K : Nat) : evF (zl4) K Tryz.f241 0 zff zbt = zfm (zjI K) := tr1 (T := zfm) (zxG K K) fun (x0, x1, ()) => by kernel_rfl
end
def vj : zlY := zfm (zjI K0)
theorem zA8 : Sd Tryz.prog E0 (zdZ vj) := mkS (l := []) trivial Tryz.func241 (by kernel_rfl) (zA7 K0)
section
variable (zfn : zlY)
def ziV : ((List qY) × ((Option ((qY × Unit) → Option (Bool × Unit))) × Unit)) → Option (Bool × Unit) := fun (x0, x1, ()) =>
  Option.bind (zfn (x0, x1, ())) fun q0 => bif decide (q0.1 ≥ 0) then some (true, ()) else some (false, ())
theorem zvJ (K : Nat) : evF (En E0 false [zdZ zfn]) K Tryz.f177 0 zcK zcL = ziV zfn := funext fun (x0, x1, ()) => by kernel_rfl
end
def vp : ziU := ziV vj
theorem zvK : Sd Tryz.prog E0 (zch vp) := mkS (l := [zdZ vj]) ⟨zA8, trivial⟩ Tryz.func177 (by kernel_rfl) (zvJ vj K0)
section
abbrev zvk : Env := (En E0 false [])
abbrev za2 : Type := (List qY) × Int × Int × List ByteArray
abbrev zE5 : za2 → St := fun (v7, v8, v9, o0) => St.mk [(3, AV.ow 0), (7, AV.dat (Ty.sl jG) v7), (8, AV.dat tI v8), (9, AV.dat tI v9)] [Obj.row Ty.str o0 false]
def za3 (k0 : za2 → Option ((List ByteArray) × Unit)) : za2 → Option ((List ByteArray) × Unit) := fun (v7, v8, v9, o0) =>
  bif decide (v9 < v8) then inR v9 ((List.length v7) : Int) (bif decide (List.length o0 + List.length (zg (List.replicate 1 (zb Ty.str)) 0 (ix zwb v7 v9).1) ≤ lim) then k0 (v7, v8, wI (v9 + 1), o0 ++ zg (List.replicate 1 (zb Ty.str)) 0 (ix zwb v7 v9).1) else none) else some (o0, ())
abbrev zqV (K : Nat) : za2 → Option ((List ByteArray) × Unit) := iter (za3) K
theorem zE6 (K : Nat) : ∀ n, evV (zvk) K Tryz.f179 0 zfF [1, 1, 0, 1, 0] [] zE5 n = iter (za3) n := zx fun n0 (v7, v8, v9, o0) => by kernel_rfl
def zlG (L0 : za2 → Option ((List ByteArray) × Unit)) : (ze × Unit) → Option ((List ByteArray) × Unit) := fun (x0, ()) =>
  L0 (x0.2.2.1, ((List.length x0.2.2.1) : Int), 0, [])
theorem zHw (K : Nat) : evF (zvk) K Tryz.f179 0 zlo zfF = zlG (zqV K) := tr1 (T := zlG) (zE6 K K) fun (x0, ()) => by kernel_rfl
end
def zcv : zvd := zlG (zqV K0)
theorem zHx : Sd Tryz.prog E0 (zjl zcv) := mkS (l := []) trivial Tryz.func179 (by kernel_rfl) (zHw K0)
section
abbrev zGs : Env := (En E0 false [])
abbrev zf7 : Type := (List ByteArray) × (List ByteArray) × Int × Int × List (ByteArray × Int)
abbrev zMO : zf7 → St := fun (v0, v7, v8, v9, o0) => St.mk [(0, AV.dat (Ty.sl Ty.str) v0), (3, AV.om 0), (7, AV.dat (Ty.sl Ty.str) v7), (8, AV.dat tI v8), (9, AV.dat tI v9)] [Obj.mp Ty.str tI o0]
def zf8 (k0 : zf7 → Option (Bool × Unit)) : zf7 → Option (Bool × Unit) := fun (v0, v7, v8, v9, o0) =>
  bif decide (v9 < v8) then inR v9 ((List.length v7) : Int) (k0 (v0, v7, v8, wI (v9 + 1), za8 Ty.str o0 (List.getD v7 (Int.toNat v9) (zb Ty.str)) (wI (ze3 Ty.str (0 : Int) o0 (List.getD v7 (Int.toNat v9) (zb Ty.str)) + 1)))) else bif ((List.length o0) : Int) == ((List.length v0) : Int) then some (true, ()) else some (false, ())
abbrev zCi (K : Nat) : zf7 → Option (Bool × Unit) := iter (zf8) K
theorem zMP (K : Nat) : ∀ n, evV (zGs) K Tryz.f178 0 zpx [1, 1, 0, 1, 0] [] zMO n = iter (zf8) n := zx fun n0 (v0, v7, v8, v9, o0) => by kernel_rfl
def zxH (L0 : zf7 → Option (Bool × Unit)) : ((List ByteArray) × Unit) → Option (Bool × Unit) := fun (x0, ()) =>
  L0 (x0, x0, ((List.length x0) : Int), 0, [])
theorem zQt (K : Nat) : evF (zGs) K Tryz.f178 0 zwV zpx = zxH (zCi K) := tr1 (T := zxH) (zMP K K) fun (x0, ()) => by kernel_rfl
end
def zjJ : zFX := zxH (zCi K0)
theorem zQu : Sd Tryz.prog E0 (zug zjJ) := mkS (l := []) trivial Tryz.func178 (by kernel_rfl) (zQt K0)
section
variable (zjK : zs2) (zk : vi) (zcR : ziU) (zlH : zvd) (zxI : zFX)
def znS : (ze × Unit) → Option (Bool × Unit) := fun (x0, ()) =>
  Option.bind (zk (((List.length x0.2.2.1) : Int), 1, 8, ())) fun q0 => bif q0.1 then Option.bind (zcR (x0.2.2.1, some zjK, ())) fun q1 => bif q1.1 then some (false, ()) else Option.bind (zlH (x0, ())) fun q2 => Option.bind (zxI (q2.1, ())) fun q3 => bif q3.1 then some (true, ()) else some (false, ()) else some (false, ())
theorem zIP (K : Nat) : evF (En E0 false [zh9 zjK, z4 zk, zch zcR, zjl zlH, zug zxI]) K Tryz.f86 0 zmT zmU = znS zjK zk zcR zlH zxI := funext fun (x0, ()) => by kernel_rfl
end
def j9 : zwr := znS yZ zB vp zcv zjJ
theorem zIQ : Sd Tryz.prog E0 (zk2 j9) := mkS (l := [zh9 yZ, z4 zB, zch vp, zjl zcv, zug zjJ]) ⟨zGr, vO, zvK, zHx, zQu, trivial⟩ Tryz.func86 (by kernel_rfl) (zIP yZ zB vp zcv zjJ K0)
section
def zxJ : (Int × Unit) → Option (zD × (Int × Unit)) := fun (x0, ()) =>
  bif decide (x0 < 0) then some ((0, 0, ()), 1, ()) else bif decide (x0 ≥ 64) then some ((0, 0, ()), 1, ()) else bif decide (x0 < 0) then none else some ((0, wU (1 * 2 ^ min (Int.toNat x0) (IntKind.bits IntKind.u64)), ()), 0, ())
theorem zQv (K : Nat) : evF (En E0 false []) K Tryz.f180 0 zwW zwX = zxJ := funext fun (x0, ()) => by kernel_rfl
end
def zdl : zFY := zxJ
theorem zQw : Sd Tryz.prog E0 (zuh zdl) := mkS (l := []) trivial Tryz.func180 (by kernel_rfl) (zQv K0)
section
abbrev zxK : Env := (En E0 false [])
abbrev zbG : Type := (List zD) × Int × Int × zD
abbrev zGt : zbG → St := fun (v0, v7, v8, o0) => St.mk [(0, AV.dat (Ty.sl zJ) v0), (3, AV.bp 0 []), (7, AV.dat tI v7), (8, AV.dat tI v8)] [Obj.bx (AV.dat zJ o0) false]
def zbH (k0 : zbG → Option (Int × Unit)) : zbG → Option (Int × Unit) := fun (v0, v7, v8, o0) =>
  bif decide (v8 < v7) then inR v8 ((List.length v0) : Int) (bif eqI zJ o0 (ix za1 v0 v8) then some (v8, ()) else k0 (v0, v7, wI (v8 + 1), o0)) else some ((-1), ())
abbrev ztb (K : Nat) : zbG → Option (Int × Unit) := iter (zbH) K
theorem zGu (K : Nat) : ∀ n, evV (zxK) K Tryz.f242 0 zg3 [1, 0, 1, 0] [] zGt n = iter (zbH) n := zx fun n0 (v0, v7, v8, o0) => by kernel_rfl
def znT (L0 : zbG → Option (Int × Unit)) : ((List zD) × (zD × Unit)) → Option (Int × Unit) := fun (x0, x1, ()) =>
  L0 (x0, ((List.length x0) : Int), 0, x1)
theorem zIR (K : Nat) : evF (zxK) K Tryz.f242 0 znI zg3 = znT (ztb K) := tr1 (T := znT) (zGu K K) fun (x0, x1, ()) => by kernel_rfl
end
def zdm : zxf := znT (ztb K0)
theorem zIS : Sd Tryz.prog E0 (zlB zdm) := mkS (l := []) trivial Tryz.func242 (by kernel_rfl) (zIR K0)
section
variable (znU : zxf)
def ziA : ((List zD) × (zD × Unit)) → Option (Bool × Unit) := fun (x0, x1, ()) =>
  Option.bind (znU (x0, x1, ())) fun q0 => bif decide (q0.1 ≥ 0) then some (true, ()) else some (false, ())
theorem zE7 (K : Nat) : evF (En E0 false [zlB znU]) K Tryz.f181 0 zia zib = ziA znU := funext fun (x0, x1, ()) => by kernel_rfl
end
def vn : zqL := ziA zdm
theorem zE8 : Sd Tryz.prog E0 (zgU vn) := mkS (l := [zlB zdm]) ⟨zIS, trivial⟩ Tryz.func181 (by kernel_rfl) (zE7 zdm K0)
section
def zxL : (zD × ((Option Int) × Unit)) → Option (Bool × Unit) := fun (x0, x1, ()) =>
  Option.bind x1 fun q0 => bif wU (↑(BitVec.toNat (BitVec.ofInt (IntKind.bits IntKind.u64) x0.2.1 &&& ~~~BitVec.ofInt (IntKind.bits IntKind.u64) q0)) : Int) != 0 then some (true, ()) else some (false, ())
theorem zIT (K : Nat) : evF (En E0 false []) K Tryz.f182 0 zny znz = zxL := funext fun (x0, x1, ()) => by kernel_rfl
end
def zbc : zwY := zxL
theorem zIU : Sd Tryz.prog E0 (zlp zbc) := mkS (l := []) trivial Tryz.func182 (by kernel_rfl) (zIT K0)
section
variable (zbI : zFY) (zk : vi) (jR : zqL) (vD : zwY) (zH : zdN)
abbrev zCj : Env := (En E0 false [zuh zbI, z4 zk, zgU jR, zlp vD, vA zH])
abbrev zdn : Type := Int × (List qm) × Int × Int × ze × Int
abbrev zIV : zdn → St := fun (v4, v11, v12, v13, o0, o1) => St.mk [(1, AV.bp 0 []), (3, AV.bp 1 []), (4, AV.dat tI v4), (11, AV.dat (Ty.sl yT) v11), (12, AV.dat tI v12), (13, AV.dat tI v13)] [Obj.bx (AV.dat zL o0) false, Obj.bx (AV.dat tU o1) false]
def zdo (k0 : zdn → Option (Bool × Unit)) : zdn → Option (Bool × Unit) := fun (v4, v11, v12, v13, o0, o1) =>
  bif decide (v13 < v12) then inR v13 ((List.length v11) : Int) (Option.bind (zbI ((ix vz v11 v13).1, ())) fun q0 => bif q0.2.1 != 0 then some (false, ()) else bif decide ((ix vz v11 v13).1 ≤ v4) then some (false, ()) else Option.bind (zk ((ix vz v11 v13).2.1, 0, wI (((List.length o0.2.2.1) : Int) - 1), ())) fun q1 => bif q1.1 then Option.bind (jR (o0.1, q0.1, ())) fun q2 => bif q2.1 then k0 ((ix vz v11 v13).1, v11, v12, wI (v13 + 1), o0, wU (↑(BitVec.toNat (BitVec.ofInt (IntKind.bits IntKind.u64) o1 ||| BitVec.ofInt (IntKind.bits IntKind.u64) q0.1.2.1)) : Int)) else some (false, ()) else some (false, ())) else bif decide (((List.length o0.2.2.2.1) : Int) ≤ 8) then Option.bind (zH (o0.1, some fun z => vD (z.1, some o1, ()), ())) fun q3 => bif q3.1 then some (false, ()) else some (true, ()) else some (false, ())
abbrev zxM (K : Nat) : zdn → Option (Bool × Unit) := iter (zdo zbI zk jR vD zH) K
theorem zIW (K : Nat) : ∀ n, evV (zCj zbI zk jR vD zH) K Tryz.f87 0 zkh [1, 1, 1, 0, 1, 0] [] zIV n = iter (zdo zbI zk jR vD zH) n := zx fun n0 (v4, v11, v12, v13, o0, o1) => by kernel_rfl
def zse (L0 : zdn → Option (Bool × Unit)) : (ze × Unit) → Option (Bool × Unit) := fun (x0, ()) =>
  L0 ((-1), x0.2.2.2.1, ((List.length x0.2.2.2.1) : Int), 0, x0, 0)
theorem zMQ (K : Nat) : evF (zCj zbI zk jR vD zH) K Tryz.f87 0 zrI zkh = zse (zxM zbI zk jR vD zH K) := tr1 (T := zse) (zIW zbI zk jR vD zH K K) fun (x0, ()) => by kernel_rfl
end
def vR : zB2 := zse (zxM zdl zB vn zbc qE K0)
theorem zMR : Sd Tryz.prog E0 (zo0 vR) := mkS (l := [zuh zdl, z4 zB, zgU vn, zlp zbc, vA qE]) ⟨zQw, vO, zE8, zIU, zkO, trivial⟩ Tryz.func87 (by kernel_rfl) (zMQ zdl zB vn zbc qE K0)
section
variable (zk : vi)
def znV : (Int × Unit) → Option (Bool × Unit) := fun (x0, ()) =>
  Option.bind (zk (x0, 0, 12, ())) fun q0 => bif q0.1 then some (false, ()) else some (true, ())
theorem zIX (K : Nat) : evF (En E0 false [z4 zk]) K Tryz.f183 0 znA znB = znV zk := funext fun (x0, ()) => by kernel_rfl
end
def yP : zwZ := znV zB
theorem zIY : Sd Tryz.prog E0 (zlq yP) := mkS (l := [z4 zB]) ⟨vO, trivial⟩ Tryz.func183 (by kernel_rfl) (zIX zB K0)
section
def zzL : (za0 × Unit) → Option ((List Int) × Unit) := fun (x0, ()) =>
  some ([x0.1, x0.2.1, x0.2.2.1, x0.2.2.2.1, x0.2.2.2.2.1], ())
theorem zKT (K : Nat) : evF (En E0 false []) K Tryz.f184 0 zpy zpz = zzL := funext fun (x0, ()) => by kernel_rfl
end
def zbU : zzG := zzL
theorem zKU : Sd Tryz.prog E0 (znC zbU) := mkS (l := []) trivial Tryz.func184 (by kernel_rfl) (zKT K0)
section
variable (vE : zwZ) (ye : zzG) (zn : vw)
abbrev zCk : Env := (En E0 false [zlq vE, znC ye, qn zn])
abbrev zdp : Type := Int × (List za0) × Int × Int
abbrev zIZ : zdp → St := fun (v3, v23, v24, v25) => St.mk [(3, AV.dat tU v3), (23, AV.dat (Ty.sl zfQ) v23), (24, AV.dat tI v24), (25, AV.dat tI v25)] []
def zhi (k0 : zdp → Option (Bool × Unit)) : zdp → Option (Bool × Unit) := fun (v3, v23, v24, v25) =>
  bif decide (v25 < v24) then inR v25 ((List.length v23) : Int) (bif decide ((ix jQ v23 v25).2.2.2.2.2.1 > v3) then some (false, ()) else Option.bind (ye (ix jQ v23 v25, ())) fun q0 => Option.bind (zn (q0.1, some vE, ())) fun q1 => bif q1.1 then some (false, ()) else k0 (wU (v3 - (ix jQ v23 v25).2.2.2.2.2.1), v23, v24, wI (v25 + 1))) else some (true, ())
abbrev znW (K : Nat) : zdp → Option (Bool × Unit) := iter (zhi vE ye zn) K
theorem zI0 (K : Nat) : ∀ n, evV (zCk vE ye zn) K Tryz.f88 0 zki [1, 1, 1, 0, 1, 0] [] zIZ n = iter (zhi vE ye zn) n := zx fun n0 (v3, v23, v24, v25) => by kernel_rfl
def zkn (L0 : zdp → Option (Bool × Unit)) : (ze × Unit) → Option (Bool × Unit) := fun (x0, ()) =>
  bif ((List.length x0.2.2.2.2.1) : Int) != ((List.length x0.1) : Int) then some (false, ()) else bif decide (0 < ((List.length x0.2.2.2.2.1) : Int)) then bif decide ((ix jQ x0.2.2.2.2.1 0).1 < 1) then some (false, ()) else L0 (4611686018427387904, x0.2.2.2.2.1, ((List.length x0.2.2.2.2.1) : Int), 0) else none
theorem zMS (K : Nat) : evF (zCk vE ye zn) K Tryz.f88 0 zrJ zki = zkn (znW vE ye zn K) := tr1 (T := zkn) (zI0 vE ye zn K K) fun (x0, ()) => by kernel_rfl
end
def vS : zB3 := zkn (znW yP zbU zz K0)
theorem zMT : Sd Tryz.prog E0 (zo1 vS) := mkS (l := [zlq yP, znC zbU, qn zz]) ⟨zIY, zKU, yX, trivial⟩ Tryz.func88 (by kernel_rfl) (zMS yP zbU zz K0)
section
variable (zk : vi)
def zxN : (ze × Unit) → Option (Bool × Unit) := fun (x0, ()) =>
  Option.bind (zk (x0.2.2.2.2.2.1, 0, 24, ())) fun q0 => bif q0.1 then Option.bind (zk (x0.2.2.2.2.2.2.1, 0, 48, ())) fun q1 => bif q1.1 then Option.bind (zk (x0.2.2.2.2.2.2.2.1, 1, 4, ())) fun q2 => bif q2.1 then Option.bind (zk (x0.2.2.2.2.2.2.2.2.1, 1, 16, ())) fun q3 => bif q3.1 then some (true, ()) else some (false, ()) else some (false, ()) else some (false, ()) else some (false, ())
theorem zQx (K : Nat) : evF (En E0 false [z4 zk]) K Tryz.f89 0 zws zwt = zxN zk := funext fun (x0, ()) => by kernel_rfl
end
def zaA : zFP := zxN zB
theorem zQy : Sd Tryz.prog E0 (ztV zaA) := mkS (l := [z4 zB]) ⟨vO, trivial⟩ Tryz.func89 (by kernel_rfl) (zQx zB K0)
section
variable (y0 : zB1) (zaL : zEy) (vF : zwr) (y3 : zB2) (y4 : zB3) (zbJ : zFP)
abbrev zEK : Env := (En E0 false [zoZ y0, zrH zaL, zk2 vF, zo0 y3, zo1 y4, ztV zbJ])
abbrev zeD : Type := Int × Int × ze × List (Option ((ze × Unit) → Option (Bool × Unit)))
abbrev zKV : zeD → St := fun (v6, v7, o0, o1) => St.mk [(1, AV.bp 0 []), (5, AV.ow 1), (6, AV.dat tI v6), (7, AV.dat tI v7)] [Obj.bx (AV.dat zL o0) false, Obj.row (Ty.fn (Ty.pair zL Ty.unit) (Ty.pair Ty.bool Ty.unit)) o1 false]
def ziW (k0 : zeD → Option (Bool × Unit)) : zeD → Option (Bool × Unit) := fun (v6, v7, o0, o1) =>
  bif decide (v7 < v6) then inR v7 ((List.length o1) : Int) (Option.bind (List.getD o1 (Int.toNat v7) (zb (Ty.fn (Ty.pair zL Ty.unit) (Ty.pair Ty.bool Ty.unit)))) fun q0 => Option.bind (q0 (o0, ())) fun q1 => bif q1.1 then k0 (v6, wI (v7 + 1), o0, o1) else some (false, ())) else some (true, ())
abbrev zzM (K : Nat) : zeD → Option (Bool × Unit) := iter (ziW) K
theorem zKW (K : Nat) : ∀ n, evV (zEK y0 zaL vF y3 y4 zbJ) K Tryz.f25 0 zmm [1, 0, 1, 0] [] zKV n = iter (ziW) n := zx fun n0 (v6, v7, o0, o1) => by kernel_rfl
def zuD (L0 : zeD → Option (Bool × Unit)) : (ze × Unit) → Option (Bool × Unit) := fun (x0, ()) =>
  L0 (((List.length (zg (zg (zg (zg (zg (zg (List.replicate 6 (zb (Ty.fn (Ty.pair zL Ty.unit) (Ty.pair Ty.bool Ty.unit)))) 0 (some y0)) 1 (some zaL)) 2 (some vF)) 3 (some y3)) 4 (some y4)) 5 (some zbJ))) : Int), 0, x0, [some y0, some zaL, some vF, some y3, some y4, some zbJ])
theorem zOz (K : Nat) : evF (zEK y0 zaL vF y3 y4 zbJ) K Tryz.f25 0 ztC zmm = zuD y0 zaL vF y3 y4 zbJ (zzM K) := tr1 (T := zuD y0 zaL vF y3 y4 zbJ) (zKW y0 zaL vF y3 y4 zbJ K K) fun (x0, ()) => by kernel_rfl
end
def qe : zce := zuD vQ yK j9 vR vS zaA (zzM K0)
theorem zee : Sd Tryz.prog E0 (ja qe) := mkS (l := [zoZ vQ, zrH yK, zk2 j9, zo0 vR, zo1 vS, ztV zaA]) ⟨zML, zOy, zIQ, zMR, zMT, zQy, trivial⟩ Tryz.func25 (by kernel_rfl) (zOz vQ yK j9 vR vS zaA K0)
section
variable (zo : zce)
abbrev zKX : Env := (En E0 true [ja zo])
abbrev zjL : Type := (List qm) × Int × Int × ze × List (List Int) × Nat
abbrev zQz : zjL → St := fun (v11, v12, v13, o0, o1, c1) => St.mk [(1, AV.bp 0 []), (3, AV.ow 1), (11, AV.dat (Ty.sl yT) v11), (12, AV.dat tI v12), (13, AV.dat tI v13)] [Obj.bx (AV.dat zL o0) false, Obj.drow (Ty.sl tI) o1 c1]
def zjM (k0 : zjL → Option ((List (List Int)) × Unit)) : zjL → Option ((List (List Int)) × Unit) := fun (v11, v12, v13, o0, o1, c1) =>
  bif decide (v13 < v12) then inR v13 ((List.length v11) : Int) (bif decide (((List.length o0.2.2.1) : Int) ≤ ((List.length o0.2.2.1) : Int)) then bif decide (((List.length o0.2.2.1) : Int) ≤ (↑lim : Int)) then inR (ix vz v11 v13).2.1 ((List.length (List.replicate (Int.toNat ((List.length o0.2.2.1) : Int)) (0 : Int))) : Int) (bif decide (List.length o1 + List.length [List.set (List.replicate (Int.toNat ((List.length o0.2.2.1) : Int)) (0 : Int)) (Int.toNat (ix vz v11 v13).2.1) 2] ≤ lim) then bif decide (c1 = List.length o1) then k0 (v11, v12, wI (v13 + 1), o0, o1 ++ [List.set (List.replicate (Int.toNat ((List.length o0.2.2.1) : Int)) (0 : Int)) (Int.toNat (ix vz v11 v13).2.1) 2], c1 + (0 + 1)) else none else none) else none else none) else bif decide (c1 = List.length o1) then some (o1, ()) else none
abbrev zGv (K : Nat) : zjL → Option ((List (List Int)) × Unit) := iter (zjM) K
theorem zQA (K : Nat) : ∀ n, evV (zKX zo) K Tryz.f29 4 zvH [1, 1, 1, 0, 1, 0] [] zQz n = iter (zjM) n := zx fun n0 (v11, v12, v13, o0, o1, c1) => by kernel_rfl
def zvL (L0 : zjL → Option ((List (List Int)) × Unit)) : (ze × Unit) → Option ((List (List Int)) × Unit) := fun (x0, ()) =>
  Option.bind (zo (x0, ())) fun q0 => bif q0.1 then L0 (x0.2.2.2.1, ((List.length x0.2.2.2.1) : Int), 0, x0, [], 0) else some ([], ())
theorem zTL (K : Nat) : evF (zKX zo) K Tryz.f29 4 zDi zvH = zvL zo (zGv K) := tr1 (T := zvL zo) (zQA zo K K) fun (x0, ()) => by kernel_rfl
end
def zko : zKH := zvL qe (zGv K0)
theorem zTM : Sd Tryz.prog E0 (zAz zko) := mkS (l := [ja qe]) ⟨zee, trivial⟩ Tryz.func29 (by kernel_rfl) (zTL qe K0)
section
def zuE : (ze × (za0 × Unit)) → Option (zj × Unit) := fun (x0, x1, ()) =>
  bif decide (0 ≤ x1.1) then bif decide (x1.1 ≤ x1.1) then bif decide (x1.1 ≤ (↑lim : Int)) then bif decide (0 ≤ x1.2.1) then bif decide (x1.2.1 ≤ x1.2.1) then bif decide (x1.2.1 ≤ (↑lim : Int)) then bif decide (0 ≤ x1.2.2.1) then bif decide (x1.2.2.1 ≤ x1.2.2.1) then bif decide (x1.2.2.1 ≤ (↑lim : Int)) then bif decide (0 ≤ x1.2.2.2.1) then bif decide (x1.2.2.2.1 ≤ x1.2.2.2.1) then bif decide (x1.2.2.2.1 ≤ (↑lim : Int)) then bif decide (0 ≤ x1.2.2.2.2.1) then bif decide (x1.2.2.2.2.1 ≤ x1.2.2.2.2.1) then bif decide (x1.2.2.2.2.1 ≤ (↑lim : Int)) then bif decide (((List.length x0.2.2.1) : Int) ≤ ((List.length x0.2.2.1) : Int)) then bif decide (((List.length x0.2.2.1) : Int) ≤ (↑lim : Int)) then bif decide (((List.length x0.2.2.1) : Int) ≤ ((List.length x0.2.2.1) : Int)) then bif decide (((List.length x0.2.2.1) : Int) ≤ (↑lim : Int)) then some ((List.replicate (Int.toNat x1.1) (zb qU), List.replicate (Int.toNat x1.2.1) (zb qj), List.replicate (Int.toNat x1.2.2.1) (zb qi), List.replicate (Int.toNat x1.2.2.2.1) (zb qu), List.replicate (Int.toNat x1.2.2.2.2.1) (zb zA), List.replicate (Int.toNat ((List.length x0.2.2.1) : Int)) (zb (Ty.arr 4 tU)), List.replicate (Int.toNat ((List.length x0.2.2.1) : Int)) (zb zW), [0, 0, 0, 0], [0, 0, 0, 0], ()), ()) else none else none else none else none else none else none else none else none else none else none else none else none else none else none else none else none else none else none else none
theorem zOA (K : Nat) : evF (En E0 true []) K Tryz.f30 3 ztD ztE = zuE := funext fun (x0, x1, ()) => by kernel_rfl
end
def zci : zEq := zuE
theorem zOB : Sd Tryz.prog E0 (zrj zci) := mkS (l := []) trivial Tryz.func30 (by kernel_rfl) (zOA K0)
end
end Go.Proofs.YtaokpakfhdeiiaaGreatDoor
end
section
namespace Go.Proofs.YtaokpakfhdeiiaaGreatDoor
open Go.Ev
set_option linter.unusedVariables false
noncomputable section
section
variable (zo : zce) (zbv : zKH) (jU : zEq)
abbrev zsQ : Env := (En E0 true [ja zo, zAz zbv, zrj jU])
abbrev zhM : Type := Int × Int × Int × Int × List zj × Nat × List (List Int) × Nat × List zl × List zC × List Int × List zj × Nat × List (List Int) × Nat × List zl × List zC × List Int
abbrev zEL : zhM → St := fun (v42, v43, o0_0, o1_0, o2, c2, o3, c3, o4, o5, o6, o7, c7, o8, c8, o9, o10, o11) => St.mk [(2, AV.bp 0 []), (4, AV.bp 1 []), (42, AV.dat tI v42), (43, AV.dat tI v43)] [Obj.bx (AV.fld (Ty.pair tU (Ty.pair (Ty.sl zi) (Ty.pair (Ty.sl (Ty.sl tI)) (Ty.pair (Ty.sl zp) (Ty.pair (Ty.sl zy) (Ty.pair (Ty.sl tI) Ty.unit)))))) [AV.dat tU o0_0, AV.ow 2, AV.ow 3, AV.ow 4, AV.ow 5, AV.ow 6]) false, Obj.bx (AV.fld (Ty.pair tU (Ty.pair (Ty.sl zi) (Ty.pair (Ty.sl (Ty.sl tI)) (Ty.pair (Ty.sl zp) (Ty.pair (Ty.sl zy) (Ty.pair (Ty.sl tI) Ty.unit)))))) [AV.dat tU o1_0, AV.ow 7, AV.ow 8, AV.ow 9, AV.ow 10, AV.ow 11]) false, Obj.drow zi o2 c2, Obj.drow (Ty.sl tI) o3 c3, Obj.row zp o4 false, Obj.row zy o5 false, Obj.row tI o6 false, Obj.drow zi o7 c7, Obj.drow (Ty.sl tI) o8 c8, Obj.row zp o9 false, Obj.row zy o10 false, Obj.row tI o11 false]
abbrev zhN : Type := (List za0) × Int × Int × ze × Int × Int × List zj × Nat × List (List Int) × Nat × List zl × List zC × List Int × List zj × Nat × List (List Int) × Nat × List zl × List zC × List Int
abbrev zOC : zhN → St := fun (v18, v19, v20, o0, o1_0, o2_0, o3, c3, o4, c4, o5, o6, o7, o8, c8, o9, c9, o10, o11, o12) => St.mk [(1, AV.bp 0 []), (2, AV.bp 1 []), (4, AV.bp 2 []), (18, AV.dat (Ty.sl zfQ) v18), (19, AV.dat tI v19), (20, AV.dat tI v20)] [Obj.bx (AV.dat zL o0) false, Obj.bx (AV.fld (Ty.pair tU (Ty.pair (Ty.sl zi) (Ty.pair (Ty.sl (Ty.sl tI)) (Ty.pair (Ty.sl zp) (Ty.pair (Ty.sl zy) (Ty.pair (Ty.sl tI) Ty.unit)))))) [AV.dat tU o1_0, AV.ow 3, AV.ow 4, AV.ow 5, AV.ow 6, AV.ow 7]) false, Obj.bx (AV.fld (Ty.pair tU (Ty.pair (Ty.sl zi) (Ty.pair (Ty.sl (Ty.sl tI)) (Ty.pair (Ty.sl zp) (Ty.pair (Ty.sl zy) (Ty.pair (Ty.sl tI) Ty.unit)))))) [AV.dat tU o2_0, AV.ow 8, AV.ow 9, AV.ow 10, AV.ow 11, AV.ow 12]) false, Obj.drow zi o3 c3, Obj.drow (Ty.sl tI) o4 c4, Obj.row zp o5 false, Obj.row zy o6 false, Obj.row tI o7 false, Obj.drow zi o8 c8, Obj.drow (Ty.sl tI) o9 c9, Obj.row zp o10 false, Obj.row zy o11 false, Obj.row tI o12 false]
def zhO (k1 : zhM → Option (zq × (Int × Unit))) : zhM → Option (zq × (Int × Unit)) := fun (v42, v43, o0_0, o1_0, o2, c2, o3, c3, o4, o5, o6, o7, c7, o8, c8, o9, o10, o11) =>
  bif decide (v43 < v42) then bif decide (List.length o11 + List.length (zg (List.replicate 1 (0 : Int)) 0 (-1)) ≤ lim) then k1 (v42, wI (v43 + 1), o0_0, o1_0, o2, c2, o3, c3, o4, o5, o6, o7, c7, o8, c8, o9, o10, o11 ++ zg (List.replicate 1 (0 : Int)) 0 (-1)) else none else bif decide (c7 = List.length o7) then bif decide (c8 = List.length o8) then some ((o1_0, o7, o8, o9, o10, o11, ()), 0, ()) else none else none
abbrev zhP (K : Nat) : zhM → Option (zq × (Int × Unit)) := iter (zhO) K
theorem zOD (K : Nat) : ∀ n, evV (zsQ zo zbv jU) K Tryz.f8 3 zh0 [1, 1, 1, 1, 1, 0, 1, 0] [] zEL n = iter (zhO) n := zx fun n1 (v42, v43, o0_0, o1_0, o2, c2, o3, c3, o4, o5, o6, o7, c7, o8, c8, o9, o10, o11) => by kernel_rfl
def zef (L1 : zhM → Option (zq × (Int × Unit))) (k0 : zhN → Option (zq × (Int × Unit))) : zhN → Option (zq × (Int × Unit)) := fun (v18, v19, v20, o0, o1_0, o2_0, o3, c3, o4, c4, o5, o6, o7, o8, c8, o9, c9, o10, o11, o12) =>
  bif decide (v20 < v19) then inR v20 ((List.length v18) : Int) (Option.bind (jU (o0, ix jQ v18 v20, ())) fun q2 => bif decide (List.length o8 + List.length [(q2.1.1, q2.1.2.1, q2.1.2.2.1, q2.1.2.2.2.1, q2.1.2.2.2.2.1, q2.1.2.2.2.2.2.1, q2.1.2.2.2.2.2.2.1, q2.1.2.2.2.2.2.2.2.1, q2.1.2.2.2.2.2.2.2.2.1, ())] ≤ lim) then bif decide (c8 = List.length o8) then k0 (v18, v19, wI (v20 + 1), o0, o1_0, o2_0, o3, c3, o4, c4, o5, o6, o7, o8 ++ [(q2.1.1, q2.1.2.1, q2.1.2.2.1, q2.1.2.2.2.1, q2.1.2.2.2.2.1, q2.1.2.2.2.2.2.1, q2.1.2.2.2.2.2.2.1, q2.1.2.2.2.2.2.2.2.1, q2.1.2.2.2.2.2.2.2.2.1, ())], c8 + (0 + 1), o9, c9, o10, o11, o12) else none else none) else bif decide (0 < ((List.length o8) : Int)) then bif decide (c8 ≤ Int.toNat 0) then bif decide (0 < ((List.length (ix za o8 0).1) : Int)) then none else none else bif decide (0 < ((List.length (ix za o8 0).1) : Int)) then L1 (((List.length o0.2.1) : Int), 0, o1_0, o2_0, o3, c3, o4, c4, o5, o6, o7, List.set o8 (Int.toNat 0) (List.set (ix za o8 0).1 (Int.toNat 0) (true, ByteArray.mk #[112, 108, 97, 122, 97], (zb qU).2.2), (ix za o8 0).2), c8, o9, c9, o10, o11, o12) else none else none
abbrev zEM (K : Nat) : zhN → Option (zq × (Int × Unit)) := iter (fun k0 => zef jU (zhP K) k0) K
theorem zOE (K : Nat) : ∀ n, evV (zsQ zo zbv jU) K Tryz.f8 3 zh0 [1, 1, 1, 0, 1, 0] [] zOC n = iter (fun k0 => zef jU (zhP K) k0) n := zoe (B := fun L1 k0 => zef jU L1 k0) (V1 := fun n0 => evV (zsQ zo zbv jU) K Tryz.f8 3 zh0 [1, 1, 1, 1, 1, 0, 1, 0] [] zEL K) (W1 := fun k0 => (zhP K)) (fun n0 => zOD zo zbv jU K K) fun n0 (v18, v19, v20, o0, o1_0, o2_0, o3, c3, o4, c4, o5, o6, o7, o8, c8, o9, c9, o10, o11, o12) => by kernel_rfl
def zsR (L0 : zhN → Option (zq × (Int × Unit))) : (ze × Unit) → Option (zq × (Int × Unit)) := fun (x0, ()) =>
  Option.bind (zo (x0, ())) fun q0 => bif q0.1 then Option.bind (zbv (x0, ())) fun q1 => bif decide (0 ≤ x0.2.2.2.2.2.1) then bif decide (x0.2.2.2.2.2.1 ≤ x0.2.2.2.2.2.1) then bif decide (x0.2.2.2.2.2.1 ≤ (↑lim : Int)) then L0 (x0.2.2.2.2.1, ((List.length x0.2.2.2.2.1) : Int), 0, x0, 0, 0, [], 0, [], 0, [], [], [], [], 0, q1.1, List.length q1.1, List.replicate (Int.toNat x0.2.2.2.2.2.1) (zb zp), [], []) else none else none else none else some ((0, [], [], [], [], [], ()), 1, ())
theorem zSa (K : Nat) : evF (zsQ zo zbv jU) K Tryz.f8 3 zAw zh0 = zsR zo zbv (zEM jU K) := tr1 (T := zsR zo zbv) (zOE zo zbv jU K K) fun (x0, ()) => by kernel_rfl
end
def yy : zAx := zsR qe zko (zEM zci K0)
theorem zIm : Sd Tryz.prog E0 (zjc yy) := mkS (l := [ja qe, zAz zko, zrj zci]) ⟨zee, zTM, zOB, trivial⟩ Tryz.func8 (by kernel_rfl) (zSa qe zko zci K0)
section
variable (zo : zce)
abbrev zEN : Env := (En E0 false [ja zo])
abbrev zeE : Type := Int × (List zj) × Int × Int × qp
abbrev zKY : zeE → St := fun (v3, v65, v66, v67, o0) => St.mk [(1, AV.bp 0 []), (3, AV.dat tI v3), (65, AV.dat (Ty.sl zi) v65), (66, AV.dat tI v66), (67, AV.dat tI v67)] [Obj.bx (AV.dat qy o0) false]
def ziX (k0 : zeE → Option (Bool × Unit)) : zeE → Option (Bool × Unit) := fun (v3, v65, v66, v67, o0) =>
  bif decide (v67 < v66) then inR v67 ((List.length v65) : Int) (inR v67 ((List.length o0.1.2.2.2.2.1) : Int) (bif ((List.length (ix za v65 v67).1) : Int) != (ix jQ o0.1.2.2.2.2.1 v67).1 then some (false, ()) else bif ((List.length (ix za v65 v67).2.1) : Int) != (ix jQ o0.1.2.2.2.2.1 v67).2.1 then some (false, ()) else bif ((List.length (ix za v65 v67).2.2.1) : Int) != (ix jQ o0.1.2.2.2.2.1 v67).2.2.1 then some (false, ()) else bif ((List.length (ix za v65 v67).2.2.2.1) : Int) != (ix jQ o0.1.2.2.2.2.1 v67).2.2.2.1 then some (false, ()) else bif ((List.length (ix za v65 v67).2.2.2.2.1) : Int) != (ix jQ o0.1.2.2.2.2.1 v67).2.2.2.2.1 then some (false, ()) else bif ((List.length (ix za v65 v67).2.2.2.2.2.1) : Int) != v3 then some (false, ()) else bif ((List.length (ix za v65 v67).2.2.2.2.2.2.1) : Int) != v3 then some (false, ()) else k0 (v3, v65, v66, wI (v67 + 1), o0))) else some (true, ())
abbrev zp2 (K : Nat) : zeE → Option (Bool × Unit) := iter (ziX) K
theorem zKZ (K : Nat) : ∀ n, evV (zEN zo) K Tryz.f55 0 zmn [1, 1, 1, 0, 1, 0] [] zKY n = iter (ziX) n := zx fun n0 (v3, v65, v66, v67, o0) => by kernel_rfl
def zms (L0 : zeE → Option (Bool × Unit)) : (qp × Unit) → Option (Bool × Unit) := fun (x0, ()) =>
  Option.bind (zo (x0.1, ())) fun q0 => bif q0.1 then bif ((List.length x0.2.1.2.1) : Int) != ((List.length x0.1.1) : Int) then some (false, ()) else bif ((List.length x0.2.1.2.2.2.1) : Int) != x0.1.2.2.2.2.2.1 then some (false, ()) else bif decide (((List.length x0.2.1.2.2.2.2.1) : Int) > x0.1.2.2.2.2.2.2.1) then some (false, ()) else bif ((List.length x0.2.1.2.2.2.2.2.1) : Int) != ((List.length x0.1.2.1) : Int) then some (false, ()) else bif decide (x0.2.1.1 > 4611686018427387904) then some (false, ()) else L0 (((List.length x0.1.2.2.1) : Int), x0.2.1.2.1, ((List.length x0.2.1.2.1) : Int), 0, x0) else some (false, ())
theorem zOF (K : Nat) : evF (zEN zo) K Tryz.f55 0 ztH zmn = zms zo (zp2 K) := tr1 (T := zms zo) (zKZ zo K K) fun (x0, ()) => by kernel_rfl
end
def zcj : zEr := zms qe (zp2 K0)
theorem zOG : Sd Tryz.prog E0 (zrp zcj) := mkS (l := [ja qe]) ⟨zee, trivial⟩ Tryz.func55 (by kernel_rfl) (zOF qe K0)
section
def zqW : (zj × ((Option (Option ((zj × Unit) → Option (Bool × Unit)))) × Unit)) → Option (Bool × Unit) := fun (x0, x1, ()) =>
  Option.bind x1 fun q0 => Option.bind q0 fun q1 => Option.bind (q1 (x0, ())) fun q2 => bif q2.1 then some (false, ()) else some (true, ())
theorem zE9 (K : Nat) : evF (En E0 false []) K Tryz.f201 0 zic zid = zqW := funext fun (x0, x1, ()) => by kernel_rfl
end
def yk : zqM := zqW
theorem zFa : Sd Tryz.prog E0 (zgV yk) := mkS (l := []) trivial Tryz.func201 (by kernel_rfl) (zE9 K0)
section
abbrev zp3 : Env := (En E0 false [])
abbrev yz : Type := (List zj) × (Option ((zj × Unit) → Option (Bool × Unit))) × Int × Int
abbrev zA9 : yz → St := fun (v0, v1, v7, v8) => St.mk [(0, AV.dat (Ty.sl zi) v0), (1, AV.dat (Ty.fn (Ty.pair zi Ty.unit) (Ty.pair Ty.bool Ty.unit)) v1), (7, AV.dat tI v7), (8, AV.dat tI v8)] []
def zfo (k0 : yz → Option (Int × Unit)) : yz → Option (Int × Unit) := fun (v0, v1, v7, v8) =>
  bif decide (v8 < v7) then inR v8 ((List.length v0) : Int) (Option.bind v1 fun q0 => Option.bind (q0 (ix za v0 v8, ())) fun q1 => bif q1.1 then some (v8, ()) else k0 (v0, v1, v7, wI (v8 + 1))) else some ((-1), ())
abbrev zl5 (K : Nat) : yz → Option (Int × Unit) := iter (zfo) K
theorem zBa (K : Nat) : ∀ n, evV (zp3) K Tryz.f253 0 zcN [1, 0, 1, 0] [] zA9 n = iter (zfo) n := zx fun n0 (v0, v1, v7, v8) => by kernel_rfl
def zhj (L0 : yz → Option (Int × Unit)) : ((List zj) × ((Option ((zj × Unit) → Option (Bool × Unit))) × Unit)) → Option (Int × Unit) := fun (x0, x1, ()) =>
  L0 (x0, x1, ((List.length x0) : Int), 0)
theorem zDI (K : Nat) : evF (zp3) K Tryz.f253 0 zg4 zcN = zhj (zl5 K) := tr1 (T := zhj) (zBa K K) fun (x0, x1, ()) => by kernel_rfl
end
def vT : zpL := zhj (zl5 K0)
theorem zDJ : Sd Tryz.prog E0 (zfZ vT) := mkS (l := []) trivial Tryz.func253 (by kernel_rfl) (zDI K0)
section
variable (zhk : zpL)
def zkP : ((List zj) × ((Option ((zj × Unit) → Option (Bool × Unit))) × Unit)) → Option (Bool × Unit) := fun (x0, x1, ()) =>
  Option.bind (zhk (x0, x1, ())) fun q0 => bif decide (q0.1 ≥ 0) then some (true, ()) else some (false, ())
theorem zy0 (K : Nat) : evF (En E0 false [zfZ zhk]) K Tryz.f200 0 zdO zdP = zkP zhk := funext fun (x0, x1, ()) => by kernel_rfl
end
def jt : zkJ := zkP vT
theorem zy1 : Sd Tryz.prog E0 (zdd jt) := mkS (l := [zfZ vT]) ⟨zDJ, trivial⟩ Tryz.func200 (by kernel_rfl) (zy0 vT K0)
section
variable (ziB : zqM) (zd3 : zkJ)
def zvl : ((List zj) × ((Option ((zj × Unit) → Option (Bool × Unit))) × Unit)) → Option (Bool × Unit) := fun (x0, x1, ()) =>
  Option.bind (zd3 (x0, some fun z => ziB (z.1, some x1, ()), ())) fun q0 => bif q0.1 then some (false, ()) else some (true, ())
theorem zHy (K : Nat) : evF (En E0 false [zgV ziB, zdd zd3]) K Tryz.f125 0 zk5 zk6 = zvl ziB zd3 := funext fun (x0, x1, ()) => by kernel_rfl
end
def zcw : zu9 := zvl yk jt
theorem zHz : Sd Tryz.prog E0 (zje zcw) := mkS (l := [zgV yk, zdd jt]) ⟨zFa, zy1, trivial⟩ Tryz.func125 (by kernel_rfl) (zHy yk jt K0)
section
abbrev zqX : Env := (En E0 false [])
abbrev y5 : Type := (List jm) × (Option ((jm × Unit) → Option (Bool × Unit))) × Int × Int
abbrev zCl : y5 → St := fun (v0, v1, v7, v8) => St.mk [(0, AV.dat (Ty.sl qU) v0), (1, AV.dat (Ty.fn (Ty.pair qU Ty.unit) (Ty.pair Ty.bool Ty.unit)) v1), (7, AV.dat tI v7), (8, AV.dat tI v8)] []
def zf9 (k0 : y5 → Option (Int × Unit)) : y5 → Option (Int × Unit) := fun (v0, v1, v7, v8) =>
  bif decide (v8 < v7) then inR v8 ((List.length v0) : Int) (Option.bind v1 fun q0 => Option.bind (q0 (ix zvG v0 v8, ())) fun q1 => bif q1.1 then some (v8, ()) else k0 (v0, v1, v7, wI (v8 + 1))) else some ((-1), ())
abbrev zoi (K : Nat) : y5 → Option (Int × Unit) := iter (zf9) K
theorem zCm (K : Nat) : ∀ n, evV (zqX) K Tryz.f254 0 zdF [1, 0, 1, 0] [] zCl n = iter (zf9) n := zx fun n0 (v0, v1, v7, v8) => by kernel_rfl
def ziC (L0 : y5 → Option (Int × Unit)) : ((List jm) × ((Option ((jm × Unit) → Option (Bool × Unit))) × Unit)) → Option (Int × Unit) := fun (x0, x1, ()) =>
  L0 (x0, x1, ((List.length x0) : Int), 0)
theorem zFb (K : Nat) : evF (zqX) K Tryz.f254 0 zio zdF = ziC (zoi K) := tr1 (T := ziC) (zCm K K) fun (x0, x1, ()) => by kernel_rfl
end
def yl : zqQ := ziC (zoi K0)
theorem zFc : Sd Tryz.prog E0 (zg5 yl) := mkS (l := []) trivial Tryz.func254 (by kernel_rfl) (zFb K0)
section
variable (ziD : zqQ)
def zl6 : ((List jm) × ((Option ((jm × Unit) → Option (Bool × Unit))) × Unit)) → Option (Bool × Unit) := fun (x0, x1, ()) =>
  Option.bind (ziD (x0, x1, ())) fun q0 => bif decide (q0.1 ≥ 0) then some (true, ()) else some (false, ())
theorem zBb (K : Nat) : evF (En E0 false [zg5 ziD]) K Tryz.f202 0 ze4 ze5 = zl6 ziD := funext fun (x0, x1, ()) => by kernel_rfl
end
def yA : zlV := zl6 yl
theorem zBc : Sd Tryz.prog E0 (zdQ yA) := mkS (l := [zg5 yl]) ⟨zFc, trivial⟩ Tryz.func202 (by kernel_rfl) (zBb yl K0)
section
variable (vc : zpw)
def zsf : (jm × Unit) → Option (Bool × Unit) := fun (x0, ()) =>
  bif x0.1 then Option.bind (vc (x0.2.1, ())) fun q0 => bif q0.1 then bif x0.1 then some (false, ()) else bif !ByteArray.toList x0.2.1 == ByteArray.toList (ByteArray.mk #[]) then some (true, ()) else some (false, ()) else some (true, ()) else bif x0.1 then some (false, ()) else bif !ByteArray.toList x0.2.1 == ByteArray.toList (ByteArray.mk #[]) then some (true, ()) else some (false, ())
theorem zMU (K : Nat) : evF (En E0 false [zcg vc]) K Tryz.f203 0 zrW zrX = zsf vc := funext fun (x0, ()) => by kernel_rfl
end
def zc3 : zB6 := zsf vb
theorem zMV : Sd Tryz.prog E0 (zpA zc3) := mkS (l := [zcg vb]) ⟨zxE, trivial⟩ Tryz.func203 (by kernel_rfl) (zMU vb K0)
section
variable (zfp : zlV) (zsg : zB6)
def zxO : ((List jm) × Unit) → Option (Bool × Unit) := fun (x0, ()) =>
  Option.bind (zfp (x0, some zsg, ())) fun q0 => bif q0.1 then some (false, ()) else some (true, ())
theorem zQB (K : Nat) : evF (En E0 false [zdQ zfp, zpA zsg]) K Tryz.f127 0 zwz zwA = zxO zfp zsg := funext fun (x0, ()) => by kernel_rfl
end
def zga : zFR := zxO yA zc3
theorem zQC : Sd Tryz.prog E0 (ztZ zga) := mkS (l := [zdQ yA, zpA zc3]) ⟨zBc, zMV, trivial⟩ Tryz.func127 (by kernel_rfl) (zQB yA zc3 K0)
section
def zxP : (qm × Unit) → Option (Bool × Unit) := fun (x0, ()) =>
  bif decide (x0.1 ≥ 0) then bif decide (x0.1 ≤ 127) then bif decide (x0.2.1 ≥ 0) then bif decide (x0.2.1 ≤ 127) then some (true, ()) else some (false, ()) else some (false, ()) else some (false, ()) else some (false, ())
theorem zQD (K : Nat) : evF (En E0 false []) K Tryz.f255 0 zxj zxk = zxP := funext fun (x0, ()) => by kernel_rfl
end
def zgb : zF7 := zxP
theorem zQE : Sd Tryz.prog E0 (zuu zgb) := mkS (l := []) trivial Tryz.func255 (by kernel_rfl) (zQD K0)
section
def zxQ : (Int × Unit) → Option (Bool × Unit) := fun (x0, ()) =>
  bif decide (x0 ≥ 0) then bif decide (x0 < 6) then some (true, ()) else some (false, ()) else some (false, ())
theorem zQF (K : Nat) : evF (En E0 false []) K Tryz.f256 0 zxl zxm = zxQ := funext fun (x0, ()) => by kernel_rfl
end
def zgc : zF8 := zxQ
theorem zQG : Sd Tryz.prog E0 (zuv zgc) := mkS (l := []) trivial Tryz.func256 (by kernel_rfl) (zQF K0)
section
variable (zp4 : zF7) (zxR : zF8)
def zxS : (z3 × Unit) → Option (Bool × Unit) := fun (x0, ()) =>
  bif x0.1 then Option.bind (zp4 (x0.2.1, ())) fun q0 => bif q0.1 then Option.bind (zp4 (x0.2.2.1, ())) fun q1 => bif q1.1 then Option.bind (zxR (x0.2.2.2.1, ())) fun q2 => bif q2.1 then some (false, ()) else some (true, ()) else some (true, ()) else some (true, ()) else bif !eqI qj x0 (zb qj) then some (true, ()) else some (false, ())
theorem zQH (K : Nat) : evF (En E0 false [zuu zp4, zuv zxR]) K Tryz.f204 0 zw0 zw1 = zxS zp4 zxR := funext fun (x0, ()) => by kernel_rfl
end
def zdq : zFZ := zxS zgb zgc
theorem zQI : Sd Tryz.prog E0 (zuk zdq) := mkS (l := [zuu zgb, zuv zgc]) ⟨zQE, zQG, trivial⟩ Tryz.func204 (by kernel_rfl) (zQH zgb zgc K0)
section
def zsh : (z3 × ((Option qm) × ((Option Int) × Unit))) → Option (Bool × Unit) := fun (x0, x1, x2, ()) =>
  bif x0.1 then Option.bind x1 fun q0 => bif eqI zW x0.2.1 q0 then Option.bind x2 fun q1 => bif x0.2.2.2.1 == q1 then some (true, ()) else some (false, ()) else some (false, ()) else some (false, ())
theorem zMW (K : Nat) : evF (En E0 false []) K Tryz.f258 0 zr4 zr5 = zsh := funext fun (x0, x1, x2, ()) => by kernel_rfl
end
def zc4 : zB9 := zsh
theorem zMX : Sd Tryz.prog E0 (zpM zc4) := mkS (l := []) trivial Tryz.func258 (by kernel_rfl) (zMW K0)
section
abbrev zqY : Env := (En E0 false [])
abbrev y6 : Type := (List z3) × (Option ((z3 × Unit) → Option (Bool × Unit))) × Int × Int
abbrev zCn : y6 → St := fun (v0, v1, v7, v8) => St.mk [(0, AV.dat (Ty.sl qj) v0), (1, AV.dat (Ty.fn (Ty.pair qj Ty.unit) (Ty.pair Ty.bool Ty.unit)) v1), (7, AV.dat tI v7), (8, AV.dat tI v8)] []
def zgd (k0 : y6 → Option (Int × Unit)) : y6 → Option (Int × Unit) := fun (v0, v1, v7, v8) =>
  bif decide (v8 < v7) then inR v8 ((List.length v0) : Int) (Option.bind v1 fun q0 => Option.bind (q0 (ix zak v0 v8, ())) fun q1 => bif q1.1 then some (v8, ()) else k0 (v0, v1, v7, wI (v8 + 1))) else some ((-1), ())
abbrev zoj (K : Nat) : y6 → Option (Int × Unit) := iter (zgd) K
theorem zCo (K : Nat) : ∀ n, evV (zqY) K Tryz.f257 0 zdG [1, 0, 1, 0] [] zCn n = iter (zgd) n := zx fun n0 (v0, v1, v7, v8) => by kernel_rfl
def ziE (L0 : y6 → Option (Int × Unit)) : ((List z3) × ((Option ((z3 × Unit) → Option (Bool × Unit))) × Unit)) → Option (Int × Unit) := fun (x0, x1, ()) =>
  L0 (x0, x1, ((List.length x0) : Int), 0)
theorem zFd (K : Nat) : evF (zqY) K Tryz.f257 0 ziq zdG = ziE (zoj K) := tr1 (T := ziE) (zCo K K) fun (x0, x1, ()) => by kernel_rfl
end
def jo : zir := ziE (zoj K0)
theorem zqZ : Sd Tryz.prog E0 (zaw jo) := mkS (l := []) trivial Tryz.func257 (by kernel_rfl) (zFd K0)
section
variable (zsi : zB9) (vo : zir)
def zxT : ((List z3) × (qm × (Int × Unit))) → Option (Int × Unit) := fun (x0, x1, x2, ()) =>
  Option.bind (vo (x0, some fun z => zsi (z.1, some x1, some x2, ()), ())) fun q0 => some (q0.1, ())
theorem zQJ (K : Nat) : evF (En E0 false [zpM zsi, zaw vo]) K Tryz.f205 0 zw2 zw3 = zxT zsi vo := funext fun (x0, x1, x2, ()) => by kernel_rfl
end
def zdr : zF0 := zxT zc4 jo
theorem zQK : Sd Tryz.prog E0 (zul zdr) := mkS (l := [zpM zc4, zaw jo]) ⟨zMX, zqZ, trivial⟩ Tryz.func205 (by kernel_rfl) (zQJ zc4 jo K0)
section
variable (zbK : zFZ) (zbL : zF0)
abbrev zGw : Env := (En E0 false [zuk zbK, zul zbL])
abbrev zge : Type := (List z3) × (List z3) × Int × Int
abbrev zMY : zge → St := fun (v0, v5, v6, v7) => St.mk [(0, AV.dat (Ty.sl qj) v0), (5, AV.dat (Ty.sl qj) v5), (6, AV.dat tI v6), (7, AV.dat tI v7)] []
def zgf (k0 : zge → Option (Bool × Unit)) : zge → Option (Bool × Unit) := fun (v0, v5, v6, v7) =>
  bif decide (v7 < v6) then inR v7 ((List.length v5) : Int) (Option.bind (zbK (ix zak v5 v7, ())) fun q0 => bif q0.1 then some (false, ()) else bif (ix zak v5 v7).1 then Option.bind (zbL (v0, (ix zak v5 v7).2.1, (ix zak v5 v7).2.2.2.1, ())) fun q1 => bif q1.1 != v7 then some (false, ()) else k0 (v0, v5, v6, wI (v7 + 1)) else k0 (v0, v5, v6, wI (v7 + 1))) else some (true, ())
abbrev zCp (K : Nat) : zge → Option (Bool × Unit) := iter (zgf zbK zbL) K
theorem zMZ (K : Nat) : ∀ n, evV (zGw zbK zbL) K Tryz.f128 0 zo6 [1, 0, 1, 0] [] zMY n = iter (zgf zbK zbL) n := zx fun n0 (v0, v5, v6, v7) => by kernel_rfl
def zxU (L0 : zge → Option (Bool × Unit)) : ((List z3) × Unit) → Option (Bool × Unit) := fun (x0, ()) =>
  L0 (x0, x0, ((List.length x0) : Int), 0)
theorem zQL (K : Nat) : evF (zGw zbK zbL) K Tryz.f128 0 zwB zo6 = zxU (zCp zbK zbL K) := tr1 (T := zxU) (zMZ zbK zbL K K) fun (x0, ()) => by kernel_rfl
end
def zjN : zFS := zxU (zCp zdq zdr K0)
theorem zQM : Sd Tryz.prog E0 (zt0 zjN) := mkS (l := [zuk zdq, zul zdr]) ⟨zQI, zQK, trivial⟩ Tryz.func128 (by kernel_rfl) (zQL zdq zdr K0)
section
abbrev zq0 : Env := (En E0 false [])
abbrev y7 : Type := (List z8) × (Option ((z8 × Unit) → Option (Bool × Unit))) × Int × Int
abbrev zCq : y7 → St := fun (v0, v1, v7, v8) => St.mk [(0, AV.dat (Ty.sl qi) v0), (1, AV.dat (Ty.fn (Ty.pair qi Ty.unit) (Ty.pair Ty.bool Ty.unit)) v1), (7, AV.dat tI v7), (8, AV.dat tI v8)] []
def zgg (k0 : y7 → Option (Int × Unit)) : y7 → Option (Int × Unit) := fun (v0, v1, v7, v8) =>
  bif decide (v8 < v7) then inR v8 ((List.length v0) : Int) (Option.bind v1 fun q0 => Option.bind (q0 (ix zgM v0 v8, ())) fun q1 => bif q1.1 then some (v8, ()) else k0 (v0, v1, v7, wI (v8 + 1))) else some ((-1), ())
abbrev zok (K : Nat) : y7 → Option (Int × Unit) := iter (zgg) K
theorem zCr (K : Nat) : ∀ n, evV (zq0) K Tryz.f259 0 zdH [1, 0, 1, 0] [] zCq n = iter (zgg) n := zx fun n0 (v0, v1, v7, v8) => by kernel_rfl
def ziF (L0 : y7 → Option (Int × Unit)) : ((List z8) × ((Option ((z8 × Unit) → Option (Bool × Unit))) × Unit)) → Option (Int × Unit) := fun (x0, x1, ()) =>
  L0 (x0, x1, ((List.length x0) : Int), 0)
theorem zFe (K : Nat) : evF (zq0) K Tryz.f259 0 zis zdH = ziF (zok K) := tr1 (T := ziF) (zCr K K) fun (x0, x1, ()) => by kernel_rfl
end
def ym : zqR := ziF (zok K0)
theorem zFf : Sd Tryz.prog E0 (zg6 ym) := mkS (l := []) trivial Tryz.func259 (by kernel_rfl) (zFe K0)
section
variable (ziG : zqR)
def zl7 : ((List z8) × ((Option ((z8 × Unit) → Option (Bool × Unit))) × Unit)) → Option (Bool × Unit) := fun (x0, x1, ()) =>
  Option.bind (ziG (x0, x1, ())) fun q0 => bif decide (q0.1 ≥ 0) then some (true, ()) else some (false, ())
theorem zBd (K : Nat) : evF (En E0 false [zg6 ziG]) K Tryz.f206 0 ze6 ze7 = zl7 ziG := funext fun (x0, x1, ()) => by kernel_rfl
end
def qw : ze8 := zl7 ym
theorem zl8 : Sd Tryz.prog E0 (vX qw) := mkS (l := [zg6 ym]) ⟨zFf, trivial⟩ Tryz.func206 (by kernel_rfl) (zBd ym K0)
section
def zK0 : (z8 × Unit) → Option (zBR × Unit) := fun (x0, ()) =>
  some ((x0.2.2.1, x0.2.2.2.1, x0.2.2.2.2.1, ()), ())
theorem zTN (K : Nat) : evF (En E0 false []) K Tryz.f260 0 zDs zDt = zK0 := funext fun (x0, ()) => by kernel_rfl
end
def zp5 : zKK := zK0
theorem zTO : Sd Tryz.prog E0 (zAS zp5) := mkS (l := []) trivial Tryz.func260 (by kernel_rfl) (zTN K0)
section
def zDK : (Int × Unit) → Option (Bool × Unit) := fun (x0, ()) =>
  bif decide (x0 ≥ 0) then bif decide (x0 ≤ 127) then some (true, ()) else some (false, ()) else some (false, ())
theorem zTP (K : Nat) : evF (En E0 false []) K Tryz.f282 0 zDA zDB = zDK := funext fun (x0, ()) => by kernel_rfl
end
def zkp : zKM := zDK
theorem zTQ : Sd Tryz.prog E0 (zA1 zkp) := mkS (l := []) trivial Tryz.func282 (by kernel_rfl) (zTP K0)
section
variable (zkq : zKM)
def zjO : (zBR × Unit) → Option (Bool × Unit) := fun (x0, ()) =>
  bif x0.1 == 1 then Option.bind (zkq (x0.2.1, ())) fun q0 => bif q0.1 then bif eqI zW x0.2.2.1 (zb zW) then some (true, ()) else some (false, ()) else some (false, ()) else bif x0.1 == 3 then Option.bind (zkq (x0.2.1, ())) fun q1 => bif q1.1 then bif eqI zW x0.2.2.1 (zb zW) then some (true, ()) else some (false, ()) else some (false, ()) else bif x0.1 == 2 then bif x0.2.1 == 0 then Option.bind (zkq (x0.2.2.1.1, ())) fun q2 => bif q2.1 then Option.bind (zkq (x0.2.2.1.2.1, ())) fun q3 => bif q3.1 then some (true, ()) else some (false, ()) else some (false, ()) else some (false, ()) else some (false, ())
theorem zGx (K : Nat) : evF (En E0 false [zA1 zkq]) K Tryz.f261 0 zjx zjy = zjO zkq := funext fun (x0, ()) => by kernel_rfl
end
def y8 : zs7 := zjO zkp
theorem zGy : Sd Tryz.prog E0 (zit y8) := mkS (l := [zA1 zkp]) ⟨zTQ, trivial⟩ Tryz.func261 (by kernel_rfl) (zGx zkp K0)
section
variable (vc : zpw) (zDL : zKK) (zjP : zs7)
def zuF : (z8 × Unit) → Option (Bool × Unit) := fun (x0, ()) =>
  bif x0.1 then Option.bind (vc (x0.2.1, ())) fun q0 => bif q0.1 then Option.bind (zDL (x0, ())) fun q1 => Option.bind (zjP (q1.1, ())) fun q2 => bif q2.1 then some (false, ()) else some (true, ()) else some (true, ()) else bif !eqI qi x0 (zb qi) then some (true, ()) else some (false, ())
theorem zOH (K : Nat) : evF (En E0 false [zcg vc, zAS zDL, zit zjP]) K Tryz.f207 0 zum zun = zuF vc zDL zjP := funext fun (x0, ()) => by kernel_rfl
end
def zeg : zEH := zuF vb zp5 y8
theorem zOI : Sd Tryz.prog E0 (zrY zeg) := mkS (l := [zcg vb, zAS zp5, zit y8]) ⟨zxE, zTO, zGy, trivial⟩ Tryz.func207 (by kernel_rfl) (zOH vb zp5 y8 K0)
section
variable (jI : ze8) (zuG : zEH)
def zuH : ((List z8) × Unit) → Option (Bool × Unit) := fun (x0, ()) =>
  Option.bind (jI (x0, some zuG, ())) fun q0 => bif q0.1 then some (false, ()) else some (true, ())
theorem zOJ (K : Nat) : evF (En E0 false [vX jI, zrY zuG]) K Tryz.f129 0 zt1 zt2 = zuH jI zuG := funext fun (x0, ()) => by kernel_rfl
end
def zeh : zEA := zuH qw zeg
theorem zOK : Sd Tryz.prog E0 (zrL zeh) := mkS (l := [vX qw, zrY zeg]) ⟨zl8, zOI, trivial⟩ Tryz.func129 (by kernel_rfl) (zOJ qw zeg K0)
section
abbrev zq1 : Env := (En E0 false [])
abbrev y9 : Type := (List qk) × (Option ((qk × Unit) → Option (Bool × Unit))) × Int × Int
abbrev zCs : y9 → St := fun (v0, v1, v7, v8) => St.mk [(0, AV.dat (Ty.sl qu) v0), (1, AV.dat (Ty.fn (Ty.pair qu Ty.unit) (Ty.pair Ty.bool Ty.unit)) v1), (7, AV.dat tI v7), (8, AV.dat tI v8)] []
def zgh (k0 : y9 → Option (Int × Unit)) : y9 → Option (Int × Unit) := fun (v0, v1, v7, v8) =>
  bif decide (v8 < v7) then inR v8 ((List.length v0) : Int) (Option.bind v1 fun q0 => Option.bind (q0 (ix zPD v0 v8, ())) fun q1 => bif q1.1 then some (v8, ()) else k0 (v0, v1, v7, wI (v8 + 1))) else some ((-1), ())
abbrev zol (K : Nat) : y9 → Option (Int × Unit) := iter (zgh) K
theorem zCt (K : Nat) : ∀ n, evV (zq1) K Tryz.f262 0 zdI [1, 0, 1, 0] [] zCs n = iter (zgh) n := zx fun n0 (v0, v1, v7, v8) => by kernel_rfl
def ziH (L0 : y9 → Option (Int × Unit)) : ((List qk) × ((Option ((qk × Unit) → Option (Bool × Unit))) × Unit)) → Option (Int × Unit) := fun (x0, x1, ()) =>
  L0 (x0, x1, ((List.length x0) : Int), 0)
theorem zFg (K : Nat) : evF (zq1) K Tryz.f262 0 ziu zdI = ziH (zol K) := tr1 (T := ziH) (zCt K K) fun (x0, x1, ()) => by kernel_rfl
end
def yn : zqS := ziH (zol K0)
theorem zFh : Sd Tryz.prog E0 (zg7 yn) := mkS (l := []) trivial Tryz.func262 (by kernel_rfl) (zFg K0)
section
variable (ziI : zqS)
def zl9 : ((List qk) × ((Option ((qk × Unit) → Option (Bool × Unit))) × Unit)) → Option (Bool × Unit) := fun (x0, x1, ()) =>
  Option.bind (ziI (x0, x1, ())) fun q0 => bif decide (q0.1 ≥ 0) then some (true, ()) else some (false, ())
theorem zBe (K : Nat) : evF (En E0 false [zg7 ziI]) K Tryz.f208 0 ze9 zfa = zl9 ziI := funext fun (x0, x1, ()) => by kernel_rfl
end
def qx : zfb := zl9 yn
theorem zma : Sd Tryz.prog E0 (vY qx) := mkS (l := [zg7 yn]) ⟨zFh, trivial⟩ Tryz.func208 (by kernel_rfl) (zBe yn K0)
section
def zGz : (Int × Unit) → Option (Bool × Unit) := fun (x0, ()) =>
  bif decide (x0 ≥ 0) then bif decide (x0 ≤ 127) then some (true, ()) else some (false, ()) else some (false, ())
theorem zVb (K : Nat) : evF (En E0 false []) K Tryz.f283 0 zGd zGe = zGz := funext fun (x0, ()) => by kernel_rfl
end
def zom : zOe := zGz
theorem zVc : Sd Tryz.prog E0 (zDC zom) := mkS (l := []) trivial Tryz.func283 (by kernel_rfl) (zVb K0)
section
variable (ztc : zOe)
def zsj : (qk × Unit) → Option (Bool × Unit) := fun (x0, ()) =>
  Option.bind (ztc (x0.2.1, ())) fun q0 => bif q0.1 then Option.bind (ztc (x0.2.2.1, ())) fun q1 => bif q1.1 then Option.bind (ztc (x0.2.2.2.1, ())) fun q2 => bif q2.1 then some (true, ()) else some (false, ()) else some (false, ()) else some (false, ())
theorem zM0 (K : Nat) : evF (En E0 false [zDC ztc]) K Tryz.f263 0 zr6 zr7 = zsj ztc := funext fun (x0, ()) => by kernel_rfl
end
def zgi : zCa := zsj zom
theorem zM1 : Sd Tryz.prog E0 (zpN zgi) := mkS (l := [zDC zom]) ⟨zVc, trivial⟩ Tryz.func263 (by kernel_rfl) (zM0 zom K0)
section
def zxV : (Int × Unit) → Option (Bool × Unit) := fun (x0, ()) =>
  bif decide (x0 ≥ 32) then bif decide (x0 ≤ 126) then some (true, ()) else some (false, ()) else some (false, ())
theorem zQN (K : Nat) : evF (En E0 false []) K Tryz.f284 0 zxt zxu = zxV := funext fun (x0, ()) => by kernel_rfl
end
def zgj : zGf := zxV
theorem zQO : Sd Tryz.prog E0 (zuy zgj) := mkS (l := []) trivial Tryz.func284 (by kernel_rfl) (zQN K0)
section
abbrev zkQ : Env := (En E0 false [])
abbrev vq : Type := ByteArray × Int
abbrev zvM : vq → St := fun (v0, v1) => St.mk [(0, AV.dat Ty.str v0), (1, AV.dat (Ty.int IntKind.u8) v1)] []
def zN (k0 : vq → Option (ByteArray × Unit)) : vq → Option (ByteArray × Unit) := fun (v0, v1) =>
  bif decide ((↑(ByteArray.size v0) : Int) > 0) then inR (wI ((↑(ByteArray.size v0) : Int) - 1)) (↑(ByteArray.size v0) : Int) (bif (↑(UInt8.toNat (List.getD (Array.toList (ByteArray.data v0)) (Int.toNat (wI ((↑(ByteArray.size v0) : Int) - 1))) 0)) : Int) == v1 then bif decide (0 ≤ wI ((↑(ByteArray.size v0) : Int) - 1)) then bif decide (wI ((↑(ByteArray.size v0) : Int) - 1) ≤ (↑(ByteArray.size v0) : Int)) then k0 (ByteArray.extract v0 0 (Int.toNat (wI ((↑(ByteArray.size v0) : Int) - 1))), v1) else none else none else some (v0, ())) else some (v0, ())
abbrev ziY (K : Nat) : vq → Option (ByteArray × Unit) := iter (zN) K
theorem zvN (K : Nat) : ∀ n, evV (zkQ) K Tryz.f291 0 zaX [1, 0, 0] [] zvM n = iter (zN) n := zx fun n0 (v0, v1) => by kernel_rfl
def zd4 (L0 : vq → Option (ByteArray × Unit)) : (ByteArray × (Int × Unit)) → Option (ByteArray × Unit) := fun (x0, x1, ()) =>
  L0 (x0, x1)
theorem zy2 (K : Nat) : evF (zkQ) K Tryz.f291 0 zd2 zaX = zd4 (ziY K) := tr1 (T := zd4) (zvN K K) fun (x0, x1, ()) => by kernel_rfl
end
def vZ : zkM := zd4 (ziY K0)
theorem zy3 : Sd Tryz.prog E0 (zdg vZ) := mkS (l := []) trivial Tryz.func291 (by kernel_rfl) (zy2 K0)
section
abbrev zmb : Env := (En E0 false [])
abbrev vG : Type := ByteArray × Int
abbrev zxW : vG → St := fun (v0, v1) => St.mk [(0, AV.dat Ty.str v0), (1, AV.dat (Ty.int IntKind.u8) v1)] []
def zS (k0 : vG → Option (ByteArray × Unit)) : vG → Option (ByteArray × Unit) := fun (v0, v1) =>
  bif decide ((↑(ByteArray.size v0) : Int) > 0) then bif decide (0 < (↑(ByteArray.size v0) : Int)) then bif (↑(UInt8.toNat (List.getD (Array.toList (ByteArray.data v0)) (Int.toNat 0) 0)) : Int) == v1 then bif decide (1 ≤ (↑(ByteArray.size v0) : Int)) then k0 (ByteArray.extract v0 (Int.toNat 1) (ByteArray.size v0), v1) else none else some (v0, ()) else none else some (v0, ())
abbrev zjQ (K : Nat) : vG → Option (ByteArray × Unit) := iter (zS) K
theorem zxX (K : Nat) : ∀ n, evV (zmb) K Tryz.f290 0 zbu [1, 0, 0] [] zxW n = iter (zS) n := zx fun n0 (v0, v1) => by kernel_rfl
def zfq (L0 : vG → Option (ByteArray × Unit)) : (ByteArray × (Int × Unit)) → Option (ByteArray × Unit) := fun (x0, x1, ()) =>
  L0 (x0, x1)
theorem zBf (K : Nat) : evF (zmb) K Tryz.f290 0 zfi zbu = zfq (zjQ K) := tr1 (T := zfq) (zxX K K) fun (x0, x1, ()) => by kernel_rfl
end
def yB : zl1 := zfq (zjQ K0)
theorem zBg : Sd Tryz.prog E0 (zd1 yB) := mkS (l := []) trivial Tryz.func290 (by kernel_rfl) (zBf K0)
section
variable (zd5 : zkM) (zfr : zl1)
def zsk : (ByteArray × (ByteArray × Unit)) → Option (ByteArray × Unit) := fun (x0, x1, ()) =>
  bif ByteArray.toList x0 == ByteArray.toList (ByteArray.mk #[]) then some (x0, ()) else bif ByteArray.toList x1 == ByteArray.toList (ByteArray.mk #[]) then some (x0, ()) else bif (↑(ByteArray.size x1) : Int) == 1 then bif decide (0 < (↑(ByteArray.size x1) : Int)) then bif decide ((↑(UInt8.toNat (List.getD (Array.toList (ByteArray.data x1)) (Int.toNat 0) 0)) : Int) < 128) then bif decide (0 < (↑(ByteArray.size x1) : Int)) then Option.bind (zd5 (x0, (↑(UInt8.toNat (List.getD (Array.toList (ByteArray.data x1)) (Int.toNat 0) 0)) : Int), ())) fun q0 => bif decide (0 < (↑(ByteArray.size x1) : Int)) then Option.bind (zfr (q0.1, (↑(UInt8.toNat (List.getD (Array.toList (ByteArray.data x1)) (Int.toNat 0) 0)) : Int), ())) fun q1 => some (q1.1, ()) else none else none else none else none else none
theorem zM2 (K : Nat) : evF (En E0 false [zdg zd5, zd1 zfr]) K Tryz.f285 0 zr9 zsa = zsk zd5 zfr := funext fun (x0, x1, ()) => by kernel_rfl
end
def zc5 : zCc := zsk vZ yB
theorem zM3 : Sd Tryz.prog E0 (zpU zc5) := mkS (l := [zdg vZ, zd1 yB]) ⟨zy3, zBg, trivial⟩ Tryz.func285 (by kernel_rfl) (zM2 vZ yB K0)
section
variable (zhh : zDr) (zxY : zGf) (zsl : zCc)
def zBh : (ByteArray × Unit) → Option (Bool × Unit) := fun (x0, ()) =>
  bif decide ((↑(ByteArray.size x0) : Int) ≥ 1) then bif decide ((↑(ByteArray.size x0) : Int) ≤ 40) then Option.bind (zhh (x0, some zxY, ())) fun q0 => bif q0.1 then Option.bind (zsl (x0, ByteArray.mk #[32], ())) fun q1 => bif ByteArray.toList q1.1 == ByteArray.toList x0 then some (true, ()) else some (false, ()) else some (false, ()) else some (false, ()) else some (false, ())
theorem zSb (K : Nat) : evF (En E0 false [zlX zhh, zuy zxY, zpU zsl]) K Tryz.f264 0 zAT zAU = zBh zhh zxY zsl := funext fun (x0, ()) => by kernel_rfl
end
def zh1 : zIk := zBh zeC zgj zc5
theorem zSc : Sd Tryz.prog E0 (zxn zh1) := mkS (l := [zlX zeC, zuy zgj, zpU zc5]) ⟨zKS, zQO, zM3, trivial⟩ Tryz.func264 (by kernel_rfl) (zSb zeC zgj zc5 K0)
section
variable (zsm : zCa) (zBi : zIk)
def zxZ : (qk × Unit) → Option (Bool × Unit) := fun (x0, ()) =>
  bif x0.1 then Option.bind (zsm (x0, ())) fun q0 => bif q0.1 then Option.bind (zBi (x0.2.2.2.2.1, ())) fun q1 => bif q1.1 then some (false, ()) else some (true, ()) else some (true, ()) else bif !eqI qu x0 (zb qu) then some (true, ()) else some (false, ())
theorem zQP (K : Nat) : evF (En E0 false [zpN zsm, zxn zBi]) K Tryz.f209 0 zw4 zw5 = zxZ zsm zBi := funext fun (x0, ()) => by kernel_rfl
end
def zgk : zF1 := zxZ zgi zh1
theorem zQQ : Sd Tryz.prog E0 (zuo zgk) := mkS (l := [zpN zgi, zxn zh1]) ⟨zM1, zSc, trivial⟩ Tryz.func209 (by kernel_rfl) (zQP zgi zh1 K0)
section
variable (jJ : zfb) (zx0 : zF1)
def zx1 : ((List qk) × Unit) → Option (Bool × Unit) := fun (x0, ()) =>
  Option.bind (jJ (x0, some zx0, ())) fun q0 => bif q0.1 then some (false, ()) else some (true, ())
theorem zQR (K : Nat) : evF (En E0 false [vY jJ, zuo zx0]) K Tryz.f130 0 zwC zwD = zx1 jJ zx0 := funext fun (x0, ()) => by kernel_rfl
end
def zgl : zFT := zx1 qx zgk
theorem zQS : Sd Tryz.prog E0 (zt3 zgl) := mkS (l := [vY qx, zuo zgk]) ⟨zma, zQQ, trivial⟩ Tryz.func130 (by kernel_rfl) (zQR qx zgk K0)
section
abbrev zp6 : Env := (En E0 false [])
abbrev yC : Type := (List zm) × (Option ((zm × Unit) → Option (Bool × Unit))) × Int × Int
abbrev zBj : yC → St := fun (v0, v1, v7, v8) => St.mk [(0, AV.dat (Ty.sl zA) v0), (1, AV.dat (Ty.fn (Ty.pair zA Ty.unit) (Ty.pair Ty.bool Ty.unit)) v1), (7, AV.dat tI v7), (8, AV.dat tI v8)] []
def zfs (k0 : yC → Option (Int × Unit)) : yC → Option (Int × Unit) := fun (v0, v1, v7, v8) =>
  bif decide (v8 < v7) then inR v8 ((List.length v0) : Int) (Option.bind v1 fun q0 => Option.bind (q0 (ix jX v0 v8, ())) fun q1 => bif q1.1 then some (v8, ()) else k0 (v0, v1, v7, wI (v8 + 1))) else some ((-1), ())
abbrev zmc (K : Nat) : yC → Option (Int × Unit) := iter (zfs) K
theorem zBk (K : Nat) : ∀ n, evV (zp6) K Tryz.f265 0 zcO [1, 0, 1, 0] [] zBj n = iter (zfs) n := zx fun n0 (v0, v1, v7, v8) => by kernel_rfl
def zhl (L0 : yC → Option (Int × Unit)) : ((List zm) × ((Option ((zm × Unit) → Option (Bool × Unit))) × Unit)) → Option (Int × Unit) := fun (x0, x1, ()) =>
  L0 (x0, x1, ((List.length x0) : Int), 0)
theorem zDM (K : Nat) : evF (zp6) K Tryz.f265 0 zg8 zcO = zhl (zmc K) := tr1 (T := zhl) (zBk K K) fun (x0, x1, ()) => by kernel_rfl
end
def vU : zpO := zhl (zmc K0)
theorem zDN : Sd Tryz.prog E0 (zf0 vU) := mkS (l := []) trivial Tryz.func265 (by kernel_rfl) (zDM K0)
section
variable (zhm : zpO)
def zkR : ((List zm) × ((Option ((zm × Unit) → Option (Bool × Unit))) × Unit)) → Option (Bool × Unit) := fun (x0, x1, ()) =>
  Option.bind (zhm (x0, x1, ())) fun q0 => bif decide (q0.1 ≥ 0) then some (true, ()) else some (false, ())
theorem zy4 (K : Nat) : evF (En E0 false [zf0 zhm]) K Tryz.f210 0 zdR zdS = zkR zhm := funext fun (x0, x1, ()) => by kernel_rfl
end
def qq : zdT := zkR vU
theorem zkS : Sd Tryz.prog E0 (vB qq) := mkS (l := [zf0 vU]) ⟨zDN, trivial⟩ Tryz.func210 (by kernel_rfl) (zy4 vU K0)
section
def zDO : (Int × Unit) → Option (Bool × Unit) := fun (x0, ()) =>
  bif decide (x0 ≥ 0) then bif decide (x0 ≤ 127) then some (true, ()) else some (false, ()) else some (false, ())
theorem zTR (K : Nat) : evF (En E0 false []) K Tryz.f266 0 zDu zDv = zDO := funext fun (x0, ()) => by kernel_rfl
end
def zcS : zDw := zDO
theorem zK1 : Sd Tryz.prog E0 (zlZ zcS) := mkS (l := []) trivial Tryz.func266 (by kernel_rfl) (zTR K0)
section
def zx2 : (Int × Unit) → Option (Bool × Unit) := fun (x0, ()) =>
  bif decide (x0 ≥ 0) then bif decide (x0 < 4) then some (true, ()) else some (false, ()) else some (false, ())
theorem zQT (K : Nat) : evF (En E0 false []) K Tryz.f43 0 zwh zwi = zx2 := funext fun (x0, ()) => by kernel_rfl
end
def z5 : zbC := zx2
theorem zds : Sd Tryz.prog E0 (qS z5) := mkS (l := []) trivial Tryz.func43 (by kernel_rfl) (zQT K0)
section
variable (zr : zbC) (zeF : zDw)
def zBl : (zsO × Unit) → Option (Bool × Unit) := fun (x0, ()) =>
  Option.bind (zr (x0.1, ())) fun q0 => bif q0.1 then bif decide (x0.2.1 ≤ 4611686018427387904) then bif x0.2.2.1 == -1 then some (true, ()) else Option.bind (zeF (x0.2.2.1, ())) fun q1 => bif q1.1 then some (true, ()) else some (false, ()) else some (false, ()) else some (false, ())
theorem zSd (K : Nat) : evF (En E0 false [qS zr, zlZ zeF]) K Tryz.f267 0 zAV zAW = zBl zr zeF := funext fun (x0, ()) => by kernel_rfl
end
def zh2 : zIl := zBl z5 zcS
theorem zSe : Sd Tryz.prog E0 (zxo zh2) := mkS (l := [qS z5, zlZ zcS]) ⟨zds, zK1, trivial⟩ Tryz.func267 (by kernel_rfl) (zSd z5 zcS K0)
section
def zx3 : (zsO × Unit) → Option (Bool × Unit) := fun (x0, ()) =>
  bif eqI ziP x0 (x0.1, (zb ziP).2.1, -1, (zb ziP).2.2.2) then some (true, ()) else some (false, ())
theorem zQU (K : Nat) : evF (En E0 false []) K Tryz.f268 0 zxp zxq = zx3 := funext fun (x0, ()) => by kernel_rfl
end
def zgm : zF9 := zx3
theorem zQV : Sd Tryz.prog E0 (zuw zgm) := mkS (l := []) trivial Tryz.func268 (by kernel_rfl) (zQU K0)
section
variable (zeF : zDw) (zsS : zIl) (zp7 : zF9)
def zBm : (zm × Unit) → Option (Bool × Unit) := fun (x0, ()) =>
  Option.bind (zeF (x0.2.1, ())) fun q0 => bif q0.1 then Option.bind (zeF (x0.2.2.1, ())) fun q1 => bif q1.1 then bif x0.2.1 != x0.2.2.1 then Option.bind (zsS (x0.2.2.2.1, ())) fun q2 => bif q2.1 then Option.bind (zsS (x0.2.2.2.2.1, ())) fun q3 => bif q3.1 then Option.bind (zp7 (x0.2.2.2.1, ())) fun q4 => bif q4.1 then Option.bind (zp7 (x0.2.2.2.2.1, ())) fun q5 => bif q5.1 then some (false, ()) else some (true, ()) else some (true, ()) else some (false, ()) else some (false, ()) else some (false, ()) else some (false, ()) else some (false, ())
theorem zSf (K : Nat) : evF (En E0 false [zlZ zeF, zxo zsS, zuw zp7]) K Tryz.f212 0 zAN zAO = zBm zeF zsS zp7 := funext fun (x0, ()) => by kernel_rfl
end
def zh3 : zIi := zBm zcS zh2 zgm
theorem zSg : Sd Tryz.prog E0 (zw6 zh3) := mkS (l := [zlZ zcS, zxo zh2, zuw zgm]) ⟨zK1, zSe, zQV, trivial⟩ Tryz.func212 (by kernel_rfl) (zSf zcS zh2 zgm K0)
section
variable (zBn : zIi)
def zp8 : (zm × Unit) → Option (Bool × Unit) := fun (x0, ()) =>
  bif x0.1 then Option.bind (zBn (x0, ())) fun q0 => bif q0.1 then some (false, ()) else some (true, ()) else bif !eqI zA x0 (zb zA) then some (true, ()) else some (false, ())
theorem zK2 (K : Nat) : evF (En E0 false [zw6 zBn]) K Tryz.f211 0 zpB zpC = zp8 zBn := funext fun (x0, ()) => by kernel_rfl
end
def zbV : zzH := zp8 zh3
theorem zK3 : Sd Tryz.prog E0 (znG zbV) := mkS (l := [zw6 zh3]) ⟨zSg, trivial⟩ Tryz.func211 (by kernel_rfl) (zK2 zh3 K0)
section
variable (ju : zdT) (zp9 : zzH)
def zuI : ((List zm) × Unit) → Option (Bool × Unit) := fun (x0, ()) =>
  Option.bind (ju (x0, some zp9, ())) fun q0 => bif q0.1 then some (false, ()) else some (true, ())
theorem zOL (K : Nat) : evF (En E0 false [vB ju, znG zp9]) K Tryz.f131 0 zt4 zt5 = zuI ju zp9 := funext fun (x0, ()) => by kernel_rfl
end
def zei : zEB := zuI qq zbV
theorem zOM : Sd Tryz.prog E0 (zrM zei) := mkS (l := [vB qq, znG zbV]) ⟨zkS, zK3, trivial⟩ Tryz.func131 (by kernel_rfl) (zOL qq zbV K0)
end
end Go.Proofs.YtaokpakfhdeiiaaGreatDoor
end
section
namespace Go.Proofs.YtaokpakfhdeiiaaGreatDoor
open Go.Ev
set_option linter.unusedVariables false
noncomputable section
section
variable (zx4 : zFR) (zx5 : zFS) (zuJ : zEA) (zx6 : zFT) (zuK : zEB)
def zqa : (zj × Unit) → Option (Bool × Unit) := fun (x0, ()) =>
  Option.bind (zx4 (x0.1, ())) fun q0 => bif q0.1 then Option.bind (zx5 (x0.2.1, ())) fun q1 => bif q1.1 then Option.bind (zuJ (x0.2.2.1, ())) fun q2 => bif q2.1 then Option.bind (zx6 (x0.2.2.2.1, ())) fun q3 => bif q3.1 then Option.bind (zuK (x0.2.2.2.2.1, ())) fun q4 => bif q4.1 then some (true, ()) else some (false, ()) else some (false, ()) else some (false, ()) else some (false, ()) else some (false, ())
theorem zK4 (K : Nat) : evF (En E0 false [ztZ zx4, zt0 zx5, zrL zuJ, zt3 zx6, zrM zuK]) K Tryz.f126 0 zo4 zo5 = zqa zx4 zx5 zuJ zx6 zuK := funext fun (x0, ()) => by kernel_rfl
end
def zbW : zzv := zqa zga zjN zeh zgl zei
theorem zK5 : Sd Tryz.prog E0 (zmW zbW) := mkS (l := [ztZ zga, zt0 zjN, zrL zeh, zt3 zgl, zrM zei]) ⟨zQC, zQM, zOK, zQS, zOM, trivial⟩ Tryz.func126 (by kernel_rfl) (zK4 zga zjN zeh zgl zei K0)
section
variable (zlI : zu9) (zqb : zzv)
def zuL : (qp × Unit) → Option (Bool × Unit) := fun (x0, ()) =>
  Option.bind (zlI (x0.2.1.2.1, some zqb, ())) fun q0 => bif q0.1 then some (true, ()) else some (false, ())
theorem zON (K : Nat) : evF (En E0 false [zje zlI, zmW zqb]) K Tryz.f56 0 ztI ztJ = zuL zlI zqb := funext fun (x0, ()) => by kernel_rfl
end
def zck : zEs := zuL zcw zbW
theorem zOO : Sd Tryz.prog E0 (zrq zck) := mkS (l := [zje zcw, zmW zbW]) ⟨zHz, zK5, trivial⟩ Tryz.func56 (by kernel_rfl) (zON zcw zbW K0)
section
def zsn : (Int × Unit) → Option (Bool × Unit) := fun (x0, ()) =>
  bif decide (x0 < 0) then some (true, ()) else bif decide (x0 > 2) then some (true, ()) else some (false, ())
theorem zM4 (K : Nat) : evF (En E0 false []) K Tryz.f213 0 zrZ zr0 = zsn := funext fun (x0, ()) => by kernel_rfl
end
def zaa : zB7 := zsn
theorem zM5 : Sd Tryz.prog E0 (zpD zaa) := mkS (l := []) trivial Tryz.func213 (by kernel_rfl) (zM4 K0)
section
variable (zo : zce) (zbd : zB7) (zn : vw)
abbrev zGA : Env := (En E0 false [ja zo, zpD zbd, qn zn])
abbrev zgn : Type := (Option ((Int × Unit) → Option (Bool × Unit))) × (List (List Int)) × Int × Int × ze
abbrev zM6 : zgn → St := fun (v5, v19, v20, v21, o0) => St.mk [(2, AV.bp 0 []), (5, AV.dat (Ty.fn (Ty.pair tI Ty.unit) (Ty.pair Ty.bool Ty.unit)) v5), (19, AV.dat (Ty.sl (Ty.sl tI)) v19), (20, AV.dat tI v20), (21, AV.dat tI v21)] [Obj.bx (AV.dat zL o0) false]
def zkr (k0 : zgn → Option (Bool × Unit)) : zgn → Option (Bool × Unit) := fun (v5, v19, v20, v21, o0) =>
  bif decide (v21 < v20) then inR v21 ((List.length v19) : Int) (bif ((List.length (List.getD v19 (Int.toNat v21) ([] : List Int))) : Int) != ((List.length o0.2.2.1) : Int) then some (false, ()) else Option.bind (zn (List.getD v19 (Int.toNat v21) ([] : List Int), v5, ())) fun q1 => bif q1.1 then some (false, ()) else inR v21 ((List.length o0.2.2.2.1) : Int) (inR (ix vz o0.2.2.2.1 v21).2.1 ((List.length (List.getD v19 (Int.toNat v21) ([] : List Int))) : Int) (bif List.getD (List.getD v19 (Int.toNat v21) ([] : List Int)) (Int.toNat (ix vz o0.2.2.2.1 v21).2.1) (0 : Int) != 2 then some (false, ()) else k0 (v5, v19, v20, wI (v21 + 1), o0)))) else some (true, ())
abbrev zso (K : Nat) : zgn → Option (Bool × Unit) := iter (zkr zn) K
theorem zM7 (K : Nat) : ∀ n, evV (zGA zo zbd zn) K Tryz.f132 0 zo7 [1, 1, 1, 0, 1, 0] [] zM6 n = iter (zkr zn) n := zx fun n0 (v5, v19, v20, v21, o0) => by kernel_rfl
def zqc (L0 : zgn → Option (Bool × Unit)) : (ze × ((List (List Int)) × Unit)) → Option (Bool × Unit) := fun (x0, x1, ()) =>
  Option.bind (zo (x0, ())) fun q0 => bif q0.1 then bif ((List.length x1) : Int) != ((List.length x0.2.2.2.1) : Int) then some (false, ()) else L0 (some zbd, x1, ((List.length x1) : Int), 0, x0) else some (false, ())
theorem zQW (K : Nat) : evF (zGA zo zbd zn) K Tryz.f132 0 zwE zo7 = zqc zo zbd (zso zn K) := tr1 (T := zqc zo zbd) (zM7 zo zbd zn K K) fun (x0, x1, ()) => by kernel_rfl
end
def zaB : zwF := zqc qe zaa (zso zz K0)
theorem zGB : Sd Tryz.prog E0 (zhJ zaB) := mkS (l := [ja qe, zpD zaa, qn zz]) ⟨zee, zM5, yX, trivial⟩ Tryz.func132 (by kernel_rfl) (zQW qe zaa zz K0)
section
def zlJ : (Int × (Int × Unit)) → Option (Int × (Int × Unit)) := fun (x0, x1, ()) =>
  some (wU (wU (wU (Int.fdiv x0 (2 ^ min (Int.toNat 32) (IntKind.bits IntKind.u64)) * Int.fdiv x1 (2 ^ min (Int.toNat 32) (IntKind.bits IntKind.u64))) + Int.fdiv (wU (wU (Int.fdiv x0 (2 ^ min (Int.toNat 32) (IntKind.bits IntKind.u64)) * wU (↑(BitVec.toNat (BitVec.ofInt (IntKind.bits IntKind.u64) x1 &&& BitVec.ofInt (IntKind.bits IntKind.u64) 4294967295)) : Int)) + Int.fdiv (wU (wU (↑(BitVec.toNat (BitVec.ofInt (IntKind.bits IntKind.u64) x0 &&& BitVec.ofInt (IntKind.bits IntKind.u64) 4294967295)) : Int) * wU (↑(BitVec.toNat (BitVec.ofInt (IntKind.bits IntKind.u64) x1 &&& BitVec.ofInt (IntKind.bits IntKind.u64) 4294967295)) : Int))) (2 ^ min (Int.toNat 32) (IntKind.bits IntKind.u64)))) (2 ^ min (Int.toNat 32) (IntKind.bits IntKind.u64))) + Int.fdiv (wU (wU (↑(BitVec.toNat (BitVec.ofInt (IntKind.bits IntKind.u64) (wU (wU (Int.fdiv x0 (2 ^ min (Int.toNat 32) (IntKind.bits IntKind.u64)) * wU (↑(BitVec.toNat (BitVec.ofInt (IntKind.bits IntKind.u64) x1 &&& BitVec.ofInt (IntKind.bits IntKind.u64) 4294967295)) : Int)) + Int.fdiv (wU (wU (↑(BitVec.toNat (BitVec.ofInt (IntKind.bits IntKind.u64) x0 &&& BitVec.ofInt (IntKind.bits IntKind.u64) 4294967295)) : Int) * wU (↑(BitVec.toNat (BitVec.ofInt (IntKind.bits IntKind.u64) x1 &&& BitVec.ofInt (IntKind.bits IntKind.u64) 4294967295)) : Int))) (2 ^ min (Int.toNat 32) (IntKind.bits IntKind.u64)))) &&& BitVec.ofInt (IntKind.bits IntKind.u64) 4294967295)) : Int) + wU (wU (↑(BitVec.toNat (BitVec.ofInt (IntKind.bits IntKind.u64) x0 &&& BitVec.ofInt (IntKind.bits IntKind.u64) 4294967295)) : Int) * Int.fdiv x1 (2 ^ min (Int.toNat 32) (IntKind.bits IntKind.u64))))) (2 ^ min (Int.toNat 32) (IntKind.bits IntKind.u64))), wU (x0 * x1), ())
theorem zHA (K : Nat) : evF (En E0 false []) K Tryz.f297 0 zlD zlE = zlJ := funext fun (x0, x1, ()) => by kernel_rfl
end
def zaI : zvi := zlJ
theorem zHB : Sd Tryz.prog E0 (zjD zaI) := mkS (l := []) trivial Tryz.func297 (by kernel_rfl) (zHA K0)
section
variable (zlK : zvi)
def zx7 : (Int × (Int × Unit)) → Option (Int × (Int × Unit)) := fun (x0, x1, ()) =>
  Option.bind (zlK (x0, x1, ())) fun q0 => bif q0.1 != 0 then some (0, 7, ()) else bif decide (q0.2.1 > 4611686018427387904) then some (0, 7, ()) else some (q0.2.1, 0, ())
theorem zQX (K : Nat) : evF (En E0 false [zjD zlK]) K Tryz.f286 0 zxv zxw = zx7 zlK := funext fun (x0, x1, ()) => by kernel_rfl
end
def zgo : zGg := zx7 zaI
theorem zQY : Sd Tryz.prog E0 (zuz zgo) := mkS (l := [zjD zaI]) ⟨zHB, trivial⟩ Tryz.func286 (by kernel_rfl) (zQX zaI K0)
section
variable (zqd : zGg)
def zBo : (Int × (Int × (Int × Unit))) → Option (Int × (Int × Unit)) := fun (x0, x1, x2, ()) =>
  bif x0 != 1 then bif x0 != 2 then some (0, 1, ()) else bif x1 == 0 then some (0, 1, ()) else bif x2 == 0 then some (0, 1, ()) else Option.bind (zqd (x1, x2, ())) fun q0 => bif q0.2.1 != 0 then some (0, q0.2.1, ()) else bif x0 == 2 then some (x1, 0, ()) else some (q0.1, 0, ()) else bif x1 == 0 then some (0, 1, ()) else bif x2 == 0 then some (0, 1, ()) else Option.bind (zqd (x1, x2, ())) fun q1 => bif q1.2.1 != 0 then some (0, q1.2.1, ()) else bif x0 == 2 then some (x1, 0, ()) else some (q1.1, 0, ())
theorem zSh (K : Nat) : evF (En E0 false [zuz zqd]) K Tryz.f269 0 zAX zAY = zBo zqd := funext fun (x0, x1, x2, ()) => by kernel_rfl
end
def zbw : zAZ := zBo zgo
theorem zIn : Sd Tryz.prog E0 (zjz zbw) := mkS (l := [zuz zgo]) ⟨zQY, trivial⟩ Tryz.func269 (by kernel_rfl) (zSh zgo K0)
section
def zGC : (Int × Unit) → Option (Bool × Unit) := fun (x0, ()) =>
  bif decide (x0 ≥ 0) then bif decide (x0 ≤ 127) then some (true, ()) else some (false, ()) else some (false, ())
theorem zVd (K : Nat) : evF (En E0 false []) K Tryz.f270 0 zGa zGb = zGC := funext fun (x0, ()) => by kernel_rfl
end
def zon : zOd := zGC
theorem zVe : Sd Tryz.prog E0 (zDx zon) := mkS (l := []) trivial Tryz.func270 (by kernel_rfl) (zVd K0)
section
variable (zft : zAZ) (zzN : zOd) (zr : zbC)
def zDP : (zl × Unit) → Option (Bool × Unit) := fun (x0, ()) =>
  Option.bind (zft (x0.2.2.2.1, x0.2.2.2.2.2.2.2.1, x0.2.2.2.2.2.2.1, ())) fun q0 => bif q0.2.1 == 0 then bif q0.1 == x0.2.2.2.2.2.2.2.2.1 then Option.bind (zzN (x0.2.1, ())) fun q1 => bif q1.1 then Option.bind (zzN (x0.2.2.1, ())) fun q2 => bif q2.1 then Option.bind (zr (x0.2.2.2.2.1, ())) fun q3 => bif q3.1 then Option.bind (zr (x0.2.2.2.2.2.1, ())) fun q4 => bif q4.1 then bif x0.2.2.2.2.1 != x0.2.2.2.2.2.1 then bif decide (x0.2.2.2.2.2.2.2.2.2.1 ≥ 0) then some (true, ()) else some (false, ()) else some (false, ()) else some (false, ()) else some (false, ()) else some (false, ()) else some (false, ()) else some (false, ()) else some (false, ())
theorem zTS (K : Nat) : evF (En E0 false [zjz zft, zDx zzN, qS zr]) K Tryz.f214 0 zDn zDo = zDP zft zzN zr := funext fun (x0, ()) => by kernel_rfl
end
def zhn : zKJ := zDP zbw zon z5
theorem zTT : Sd Tryz.prog E0 (zAP zhn) := mkS (l := [zjz zbw, zDx zon, qS z5]) ⟨zIn, zVe, zds, trivial⟩ Tryz.func214 (by kernel_rfl) (zTS zbw zon z5 K0)
section
variable (zeG : zKJ)
abbrev zGD : Env := (En E0 false [zAP zeG])
abbrev zgp : Type := Int × (List zl) × Int × Int × List (Int × Int)
abbrev zM8 : zgp → St := fun (v4, v8, v9, v10, o0) => St.mk [(3, AV.om 0), (4, AV.dat tI v4), (8, AV.dat (Ty.sl zp) v8), (9, AV.dat tI v9), (10, AV.dat tI v10)] [Obj.mp tI tI o0]
def zgq (k0 : zgp → Option (Bool × Unit)) : zgp → Option (Bool × Unit) := fun (v4, v8, v9, v10, o0) =>
  bif decide (v10 < v9) then inR v10 ((List.length v8) : Int) (bif (ix qD v8 v10).1 then Option.bind (zeG (ix qD v8 v10, ())) fun q0 => bif q0.1 then bif (ix qD v8 v10).1 then bif (ix qD v8 v10).1 then k0 (wI (v4 + 1), v8, v9, wI (v10 + 1), za8 tI o0 (ix qD v8 v10).2.2.2.2.2.2.2.2.2.1 (wI (ze3 tI (0 : Int) o0 (ix qD v8 v10).2.2.2.2.2.2.2.2.2.1 + 1))) else k0 (v4, v8, v9, wI (v10 + 1), o0) else bif !eqI zp (ix qD v8 v10) (zb zp) then some (false, ()) else bif (ix qD v8 v10).1 then k0 (wI (v4 + 1), v8, v9, wI (v10 + 1), za8 tI o0 (ix qD v8 v10).2.2.2.2.2.2.2.2.2.1 (wI (ze3 tI (0 : Int) o0 (ix qD v8 v10).2.2.2.2.2.2.2.2.2.1 + 1))) else k0 (v4, v8, v9, wI (v10 + 1), o0) else some (false, ()) else bif (ix qD v8 v10).1 then bif (ix qD v8 v10).1 then k0 (wI (v4 + 1), v8, v9, wI (v10 + 1), za8 tI o0 (ix qD v8 v10).2.2.2.2.2.2.2.2.2.1 (wI (ze3 tI (0 : Int) o0 (ix qD v8 v10).2.2.2.2.2.2.2.2.2.1 + 1))) else k0 (v4, v8, v9, wI (v10 + 1), o0) else bif !eqI zp (ix qD v8 v10) (zb zp) then some (false, ()) else bif (ix qD v8 v10).1 then k0 (wI (v4 + 1), v8, v9, wI (v10 + 1), za8 tI o0 (ix qD v8 v10).2.2.2.2.2.2.2.2.2.1 (wI (ze3 tI (0 : Int) o0 (ix qD v8 v10).2.2.2.2.2.2.2.2.2.1 + 1))) else k0 (v4, v8, v9, wI (v10 + 1), o0)) else bif ((List.length o0) : Int) == v4 then some (true, ()) else some (false, ())
abbrev zCu (K : Nat) : zgp → Option (Bool × Unit) := iter (zgq zeG) K
theorem zM9 (K : Nat) : ∀ n, evV (zGD zeG) K Tryz.f133 0 zo8 [1, 1, 1, 0, 1, 0] [] zM8 n = iter (zgq zeG) n := zx fun n0 (v4, v8, v9, v10, o0) => by kernel_rfl
def zx8 (L0 : zgp → Option (Bool × Unit)) : ((List zl) × Unit) → Option (Bool × Unit) := fun (x0, ()) =>
  L0 (0, x0, ((List.length x0) : Int), 0, [])
theorem zQZ (K : Nat) : evF (zGD zeG) K Tryz.f133 0 zwG zo8 = zx8 (zCu zeG K) := tr1 (T := zx8) (zM9 zeG K K) fun (x0, ()) => by kernel_rfl
end
def zjR : zFU := zx8 (zCu zhn K0)
theorem zQ0 : Sd Tryz.prog E0 (zt6 zjR) := mkS (l := [zAP zhn]) ⟨zTT, trivial⟩ Tryz.func133 (by kernel_rfl) (zQZ zhn K0)
section
def zDQ : (Int × Unit) → Option (Bool × Unit) := fun (x0, ()) =>
  bif decide (x0 ≥ 0) then bif decide (x0 ≤ 127) then some (true, ()) else some (false, ()) else some (false, ())
theorem zTU (K : Nat) : evF (En E0 false []) K Tryz.f271 0 zDy zDz = zDQ := funext fun (x0, ()) => by kernel_rfl
end
def zks : zKL := zDQ
theorem zTV : Sd Tryz.prog E0 (zA0 zks) := mkS (l := []) trivial Tryz.func271 (by kernel_rfl) (zTU K0)
section
variable (zkt : zKL) (zft : zAZ) (zr : zbC)
def zBp : (zC × Unit) → Option (Bool × Unit) := fun (x0, ()) =>
  bif decide (x0.1 > 4611686018427387904) then some (false, ()) else Option.bind (zkt (x0.2.1, ())) fun q0 => bif q0.1 then Option.bind (zkt (x0.2.2.1, ())) fun q1 => bif q1.1 then Option.bind (zkt (x0.2.2.2.1, ())) fun q2 => bif q2.1 then Option.bind (zkt (x0.2.2.2.2.2.2.2.2.2.1, ())) fun q3 => bif q3.1 then bif x0.2.2.2.2.1 == 3 then bif eqI zy x0 (x0.1, x0.2.1, x0.2.2.1, x0.2.2.2.1, x0.2.2.2.2.1, (zb zy).2.2.2.2.2.1, (zb zy).2.2.2.2.2.2.1, (zb zy).2.2.2.2.2.2.2.1, (zb zy).2.2.2.2.2.2.2.2.1, x0.2.2.2.2.2.2.2.2.2.1, (zb zy).2.2.2.2.2.2.2.2.2.2) then some (true, ()) else some (false, ()) else Option.bind (zft (x0.2.2.2.2.1, x0.2.2.2.2.2.2.2.1, x0.2.2.2.2.2.2.2.2.1, ())) fun q4 => bif q4.2.1 == 0 then bif x0.2.2.2.2.2.2.2.2.2.1 == 0 then bif x0.2.2.2.2.2.1 != x0.2.2.2.2.2.2.1 then Option.bind (zr (x0.2.2.2.2.2.1, ())) fun q5 => bif q5.1 then Option.bind (zr (x0.2.2.2.2.2.2.1, ())) fun q6 => bif q6.1 then some (true, ()) else some (false, ()) else some (false, ()) else some (false, ()) else some (false, ()) else some (false, ()) else some (false, ()) else some (false, ()) else some (false, ()) else some (false, ())
theorem zSi (K : Nat) : evF (En E0 false [zA0 zkt, zjz zft, qS zr]) K Tryz.f215 0 zAQ zAR = zBp zkt zft zr := funext fun (x0, ()) => by kernel_rfl
end
def zfu : zIj := zBp zks zbw z5
theorem zSj : Sd Tryz.prog E0 (zw7 zfu) := mkS (l := [zA0 zks, zjz zbw, qS z5]) ⟨zTV, zIn, zds, trivial⟩ Tryz.func215 (by kernel_rfl) (zSi zks zbw z5 K0)
section
variable (j8 : zg2) (yc : zlA) (zdh : zw9)
def zuM : (zC × (zC × Unit)) → Option (Int × Unit) := fun (x0, x1, ()) =>
  Option.bind (j8 (x0.1, x1.1, ())) fun q0 => Option.bind (yc (x0.2.1, x1.2.1, ())) fun q1 => Option.bind (zdh (zg (zg (List.replicate 2 (0 : Int)) 0 q0.1) 1 q1.1, ())) fun q2 => some (q2.1, ())
theorem zOP (K : Nat) : evF (En E0 false [yU j8, zbE yc, zhK zdh]) K Tryz.f216 0 zup zuq = zuM j8 yc zdh := funext fun (x0, x1, ()) => by kernel_rfl
end
def zcl : zEI := zuM qZ jT yx
theorem zOQ : Sd Tryz.prog E0 (zr1 zcl) := mkS (l := [yU qZ, zbE jT, zhK yx]) ⟨zpY, zvj, zGl, trivial⟩ Tryz.func216 (by kernel_rfl) (zOP qZ jT yx K0)
section
variable (zcZ : zIj) (zaM : zEI)
abbrev zEO : Env := (En E0 false [zw7 zcZ, zr1 zaM])
abbrev zeH : Type := (List zC) × (List zC) × Int × Int
abbrev zK6 : zeH → St := fun (v0, v5, v6, v7) => St.mk [(0, AV.dat (Ty.sl zy) v0), (5, AV.dat (Ty.sl zy) v5), (6, AV.dat tI v6), (7, AV.dat tI v7)] []
def zeI (k0 : zeH → Option (Bool × Unit)) : zeH → Option (Bool × Unit) := fun (v0, v5, v6, v7) =>
  bif decide (v7 < v6) then inR v7 ((List.length v5) : Int) (Option.bind (zcZ (ix zoA v5 v7, ())) fun q0 => bif q0.1 then bif decide (v7 > 0) then inR (wI (v7 - 1)) ((List.length v0) : Int) (Option.bind (zaM (List.getD v0 (Int.toNat (wI (v7 - 1))) (zb zy), ix zoA v5 v7, ())) fun q1 => bif decide (q1.1 ≥ 0) then some (false, ()) else k0 (v0, v5, v6, wI (v7 + 1))) else k0 (v0, v5, v6, wI (v7 + 1)) else some (false, ())) else some (true, ())
abbrev zzO (K : Nat) : zeH → Option (Bool × Unit) := iter (zeI zcZ zaM) K
theorem zK7 (K : Nat) : ∀ n, evV (zEO zcZ zaM) K Tryz.f134 0 zmq [1, 0, 1, 0] [] zK6 n = iter (zeI zcZ zaM) n := zx fun n0 (v0, v5, v6, v7) => by kernel_rfl
def zuN (L0 : zeH → Option (Bool × Unit)) : ((List zC) × Unit) → Option (Bool × Unit) := fun (x0, ()) =>
  L0 (x0, x0, ((List.length x0) : Int), 0)
theorem zOR (K : Nat) : evF (zEO zcZ zaM) K Tryz.f134 0 zt7 zmq = zuN (zzO zcZ zaM K) := tr1 (T := zuN) (zK7 zcZ zaM K K) fun (x0, ()) => by kernel_rfl
end
def zhQ : zEC := zuN (zzO zfu zcl K0)
theorem zOS : Sd Tryz.prog E0 (zrN zhQ) := mkS (l := [zw7 zfu, zr1 zcl]) ⟨zSj, zOQ, trivial⟩ Tryz.func134 (by kernel_rfl) (zOR zfu zcl K0)
section
def zuO : (zq × (qm × Unit)) → Option (Bool × Unit) := fun (x0, x1, ()) =>
  bif decide (x1.1 ≥ 0) then bif decide (x1.1 < ((List.length x0.2.1) : Int)) then bif decide (x1.2.1 ≥ 0) then inR x1.1 ((List.length x0.2.1) : Int) (bif decide (x1.2.1 < ((List.length (ix za x0.2.1 x1.1).1) : Int)) then inR x1.1 ((List.length x0.2.1) : Int) (inR x1.2.1 ((List.length (ix za x0.2.1 x1.1).1) : Int) (bif (List.getD (ix za x0.2.1 x1.1).1 (Int.toNat x1.2.1) (zb qU)).1 then some (true, ()) else some (false, ()))) else some (false, ())) else some (false, ()) else some (false, ()) else some (false, ())
theorem zOT (K : Nat) : evF (En E0 false []) K Tryz.f62 0 ztN ztO = zuO := funext fun (x0, x1, ()) => by kernel_rfl
end
def jV : zmp := zuO
theorem zuP : Sd Tryz.prog E0 (zba jV) := mkS (l := []) trivial Tryz.func62 (by kernel_rfl) (zOT K0)
section
def zuQ : (qp × (Int × Unit)) → Option (Bool × Unit) := fun (x0, x1, ()) =>
  bif decide (x1 ≥ 0) then bif decide (x1 < ((List.length x0.1.1) : Int)) then some (true, ()) else some (false, ()) else some (false, ())
theorem zOU (K : Nat) : evF (En E0 false []) K Tryz.f137 0 zt8 zt9 = zuQ := funext fun (x0, x1, ()) => by kernel_rfl
end
def yL : zua := zuQ
theorem zEP : Sd Tryz.prog E0 (zfT yL) := mkS (l := []) trivial Tryz.func137 (by kernel_rfl) (zOU K0)
section
def zqe : (qp × (Int × Unit)) → Option (Bool × Unit) := fun (x0, x1, ()) =>
  bif decide (x1 ≥ 0) then bif decide (x1 < ((List.length x0.1.2.2.1) : Int)) then some (true, ()) else some (false, ()) else some (false, ())
theorem zK8 (K : Nat) : evF (En E0 false []) K Tryz.f138 0 zo9 zpa = zqe := funext fun (x0, x1, ()) => by kernel_rfl
end
def zV : zav := zqe
theorem zbX : Sd Tryz.prog E0 (qO zV) := mkS (l := []) trivial Tryz.func138 (by kernel_rfl) (zK8 K0)
section
variable (zaN : zua) (zK : zav)
def znX : (zl × ((Option qp) × Unit)) → Option (Bool × Unit) := fun (x0, x1, ()) =>
  bif x0.1 then Option.bind x1 fun q0 => Option.bind (zaN (q0, x0.2.1, ())) fun q1 => bif q1.1 then Option.bind x1 fun q2 => Option.bind (zK (q2, x0.2.2.1, ())) fun q3 => bif q3.1 then Option.bind x1 fun q4 => bif decide (x0.2.2.2.2.2.2.2.2.2.1 < ((List.length q4.2.1.2.2.2.2.1) : Int)) then some (true, ()) else some (false, ()) else some (false, ()) else some (false, ()) else some (true, ())
theorem zI1 (K : Nat) : evF (En E0 false [zfT zaN, qO zK]) K Tryz.f136 0 zmX zmY = znX zaN zK := funext fun (x0, x1, ()) => by kernel_rfl
end
def zbe : zwH := znX yL zV
theorem zI2 : Sd Tryz.prog E0 (zk9 zbe) := mkS (l := [zfT yL, qO zV]) ⟨zEP, zbX, trivial⟩ Tryz.func136 (by kernel_rfl) (zI1 yL zV K0)
section
def zq2 : (zl × ((Option (Option ((zl × Unit) → Option (Bool × Unit)))) × Unit)) → Option (Bool × Unit) := fun (x0, x1, ()) =>
  Option.bind x1 fun q0 => Option.bind q0 fun q1 => Option.bind (q1 (x0, ())) fun q2 => bif q2.1 then some (false, ()) else some (true, ())
theorem zFi (K : Nat) : evF (En E0 false []) K Tryz.f218 0 zie zif = zq2 := funext fun (x0, x1, ()) => by kernel_rfl
end
def yo : zqN := zq2
theorem zFj : Sd Tryz.prog E0 (zgW yo) := mkS (l := []) trivial Tryz.func218 (by kernel_rfl) (zFi K0)
section
abbrev zqf : Env := (En E0 false [])
abbrev yD : Type := (List zl) × (Option ((zl × Unit) → Option (Bool × Unit))) × Int × Int
abbrev zBq : yD → St := fun (v0, v1, v7, v8) => St.mk [(0, AV.dat (Ty.sl zp) v0), (1, AV.dat (Ty.fn (Ty.pair zp Ty.unit) (Ty.pair Ty.bool Ty.unit)) v1), (7, AV.dat tI v7), (8, AV.dat tI v8)] []
def zfv (k0 : yD → Option (Int × Unit)) : yD → Option (Int × Unit) := fun (v0, v1, v7, v8) =>
  bif decide (v8 < v7) then inR v8 ((List.length v0) : Int) (Option.bind v1 fun q0 => Option.bind (q0 (ix qD v0 v8, ())) fun q1 => bif q1.1 then some (v8, ()) else k0 (v0, v1, v7, wI (v8 + 1))) else some ((-1), ())
abbrev zmd (K : Nat) : yD → Option (Int × Unit) := iter (zfv) K
theorem zBr (K : Nat) : ∀ n, evV (zqf) K Tryz.f272 0 zcP [1, 0, 1, 0] [] zBq n = iter (zfv) n := zx fun n0 (v0, v1, v7, v8) => by kernel_rfl
def zho (L0 : yD → Option (Int × Unit)) : ((List zl) × ((Option ((zl × Unit) → Option (Bool × Unit))) × Unit)) → Option (Int × Unit) := fun (x0, x1, ()) =>
  L0 (x0, x1, ((List.length x0) : Int), 0)
theorem zDR (K : Nat) : evF (zqf) K Tryz.f272 0 zg9 zcP = zho (zmd K) := tr1 (T := zho) (zBr K K) fun (x0, x1, ()) => by kernel_rfl
end
def vV : zpP := zho (zmd K0)
theorem zDS : Sd Tryz.prog E0 (zf1 vV) := mkS (l := []) trivial Tryz.func272 (by kernel_rfl) (zDR K0)
section
variable (zhp : zpP)
def zkT : ((List zl) × ((Option ((zl × Unit) → Option (Bool × Unit))) × Unit)) → Option (Bool × Unit) := fun (x0, x1, ()) =>
  Option.bind (zhp (x0, x1, ())) fun q0 => bif decide (q0.1 ≥ 0) then some (true, ()) else some (false, ())
theorem zy5 (K : Nat) : evF (En E0 false [zf1 zhp]) K Tryz.f217 0 zdU zdV = zkT zhp := funext fun (x0, x1, ()) => by kernel_rfl
end
def jw : zkK := zkT vV
theorem zy6 : Sd Tryz.prog E0 (zde jw) := mkS (l := [zf1 vV]) ⟨zDS, trivial⟩ Tryz.func217 (by kernel_rfl) (zy5 vV K0)
section
variable (ziJ : zqN) (zd6 : zkK)
def zvm : ((List zl) × ((Option ((zl × Unit) → Option (Bool × Unit))) × Unit)) → Option (Bool × Unit) := fun (x0, x1, ()) =>
  Option.bind (zd6 (x0, some fun z => ziJ (z.1, some x1, ()), ())) fun q0 => bif q0.1 then some (false, ()) else some (true, ())
theorem zHC (K : Nat) : evF (En E0 false [zgW ziJ, zde zd6]) K Tryz.f135 0 zk7 zk8 = zvm ziJ zd6 := funext fun (x0, x1, ()) => by kernel_rfl
end
def zcx : zva := zvm yo jw
theorem zHD : Sd Tryz.prog E0 (zjf zcx) := mkS (l := [zgW yo, zde jw]) ⟨zFj, zy6, trivial⟩ Tryz.func135 (by kernel_rfl) (zHC yo jw K0)
section
variable (zK : zav)
def znY : (zC × ((Option qp) × Unit)) → Option (Bool × Unit) := fun (x0, x1, ()) =>
  Option.bind x1 fun q0 => bif decide (x0.2.1 < ((List.length q0.1.2.1) : Int)) then Option.bind x1 fun q1 => inR x0.2.1 ((List.length q1.1.2.1) : Int) (bif x0.2.2.1 == ix (0 : Int) q1.1.2.1 x0.2.1 then Option.bind x1 fun q2 => Option.bind (zK (q2, x0.2.2.2.1, ())) fun q3 => bif q3.1 then Option.bind x1 fun q4 => bif decide (x0.1 ≤ q4.2.1.1) then some (true, ()) else some (false, ()) else some (false, ()) else some (false, ())) else some (false, ())
theorem zI3 (K : Nat) : evF (En E0 false [qO zK]) K Tryz.f140 0 zmZ zm0 = znY zK := funext fun (x0, x1, ()) => by kernel_rfl
end
def zbf : zwI := znY zV
theorem zI4 : Sd Tryz.prog E0 (zlc zbf) := mkS (l := [qO zV]) ⟨zbX, trivial⟩ Tryz.func140 (by kernel_rfl) (zI3 zV K0)
section
def zq3 : (zC × ((Option (Option ((zC × Unit) → Option (Bool × Unit)))) × Unit)) → Option (Bool × Unit) := fun (x0, x1, ()) =>
  Option.bind x1 fun q0 => Option.bind q0 fun q1 => Option.bind (q1 (x0, ())) fun q2 => bif q2.1 then some (false, ()) else some (true, ())
theorem zFk (K : Nat) : evF (En E0 false []) K Tryz.f220 0 zig zih = zq3 := funext fun (x0, x1, ()) => by kernel_rfl
end
def yp : zqO := zq3
theorem zFl : Sd Tryz.prog E0 (zgX yp) := mkS (l := []) trivial Tryz.func220 (by kernel_rfl) (zFk K0)
section
abbrev zqg : Env := (En E0 false [])
abbrev yE : Type := (List zC) × (Option ((zC × Unit) → Option (Bool × Unit))) × Int × Int
abbrev zBs : yE → St := fun (v0, v1, v7, v8) => St.mk [(0, AV.dat (Ty.sl zy) v0), (1, AV.dat (Ty.fn (Ty.pair zy Ty.unit) (Ty.pair Ty.bool Ty.unit)) v1), (7, AV.dat tI v7), (8, AV.dat tI v8)] []
def zfw (k0 : yE → Option (Int × Unit)) : yE → Option (Int × Unit) := fun (v0, v1, v7, v8) =>
  bif decide (v8 < v7) then inR v8 ((List.length v0) : Int) (Option.bind v1 fun q0 => Option.bind (q0 (ix zoA v0 v8, ())) fun q1 => bif q1.1 then some (v8, ()) else k0 (v0, v1, v7, wI (v8 + 1))) else some ((-1), ())
abbrev zme (K : Nat) : yE → Option (Int × Unit) := iter (zfw) K
theorem zBt (K : Nat) : ∀ n, evV (zqg) K Tryz.f273 0 zcQ [1, 0, 1, 0] [] zBs n = iter (zfw) n := zx fun n0 (v0, v1, v7, v8) => by kernel_rfl
def zhq (L0 : yE → Option (Int × Unit)) : ((List zC) × ((Option ((zC × Unit) → Option (Bool × Unit))) × Unit)) → Option (Int × Unit) := fun (x0, x1, ()) =>
  L0 (x0, x1, ((List.length x0) : Int), 0)
theorem zDT (K : Nat) : evF (zqg) K Tryz.f273 0 zha zcQ = zhq (zme K) := tr1 (T := zhq) (zBt K K) fun (x0, x1, ()) => by kernel_rfl
end
def vW : zpQ := zhq (zme K0)
theorem zDU : Sd Tryz.prog E0 (zf2 vW) := mkS (l := []) trivial Tryz.func273 (by kernel_rfl) (zDT K0)
section
variable (zhr : zpQ)
def zkU : ((List zC) × ((Option ((zC × Unit) → Option (Bool × Unit))) × Unit)) → Option (Bool × Unit) := fun (x0, x1, ()) =>
  Option.bind (zhr (x0, x1, ())) fun q0 => bif decide (q0.1 ≥ 0) then some (true, ()) else some (false, ())
theorem zy7 (K : Nat) : evF (En E0 false [zf2 zhr]) K Tryz.f219 0 zdW zdX = zkU zhr := funext fun (x0, x1, ()) => by kernel_rfl
end
def jx : zkL := zkU vW
theorem zy8 : Sd Tryz.prog E0 (zdf jx) := mkS (l := [zf2 vW]) ⟨zDU, trivial⟩ Tryz.func219 (by kernel_rfl) (zy7 vW K0)
section
variable (ziK : zqO) (zd7 : zkL)
def zvn : ((List zC) × ((Option ((zC × Unit) → Option (Bool × Unit))) × Unit)) → Option (Bool × Unit) := fun (x0, x1, ()) =>
  Option.bind (zd7 (x0, some fun z => ziK (z.1, some x1, ()), ())) fun q0 => bif q0.1 then some (false, ()) else some (true, ())
theorem zHE (K : Nat) : evF (En E0 false [zgX ziK, zdf zd7]) K Tryz.f139 0 zla zlb = zvn ziK zd7 := funext fun (x0, x1, ()) => by kernel_rfl
end
def zcy : zvb := zvn yp jx
theorem zHF : Sd Tryz.prog E0 (zjg zcy) := mkS (l := [zgX yp, zdf jx]) ⟨zFl, zy8, trivial⟩ Tryz.func139 (by kernel_rfl) (zHE yp jx K0)
section
variable (zK : zav)
def znZ : (Int × ((Option qp) × Unit)) → Option (Bool × Unit) := fun (x0, x1, ()) =>
  bif x0 == -1 then some (true, ()) else Option.bind x1 fun q0 => Option.bind (zK (q0, x0, ())) fun q1 => bif q1.1 then some (true, ()) else some (false, ())
theorem zI5 (K : Nat) : evF (En E0 false [qO zK]) K Tryz.f142 0 zm2 zm3 = znZ zK := funext fun (x0, x1, ()) => by kernel_rfl
end
def zbg : zwJ := znZ zV
theorem zI6 : Sd Tryz.prog E0 (zld zbg) := mkS (l := [qO zV]) ⟨zbX, trivial⟩ Tryz.func142 (by kernel_rfl) (zI5 zV K0)
section
def zvo : (Int × ((Option (Option ((Int × Unit) → Option (Bool × Unit)))) × Unit)) → Option (Bool × Unit) := fun (x0, x1, ()) =>
  Option.bind x1 fun q0 => Option.bind q0 fun q1 => Option.bind (q1 (x0, ())) fun q2 => bif q2.1 then some (false, ()) else some (true, ())
theorem zHG (K : Nat) : evF (En E0 false []) K Tryz.f221 0 zls zlt = zvo := funext fun (x0, x1, ()) => by kernel_rfl
end
def zaJ : zvf := zvo
theorem zHH : Sd Tryz.prog E0 (zjn zaJ) := mkS (l := []) trivial Tryz.func221 (by kernel_rfl) (zHG K0)
section
variable (zlL : zvf) (zn : vw)
def zzP : ((List Int) × ((Option ((Int × Unit) → Option (Bool × Unit))) × Unit)) → Option (Bool × Unit) := fun (x0, x1, ()) =>
  Option.bind (zn (x0, some fun z => zlL (z.1, some x1, ()), ())) fun q0 => bif q0.1 then some (false, ()) else some (true, ())
theorem zK9 (K : Nat) : evF (En E0 false [zjn zlL, qn zn]) K Tryz.f141 0 zpb zpc = zzP zlL zn := funext fun (x0, x1, ()) => by kernel_rfl
end
def zeJ : zzw := zzP zaJ zz
theorem zLa : Sd Tryz.prog E0 (zm1 zeJ) := mkS (l := [zjn zaJ, qn zz]) ⟨zHH, yX, trivial⟩ Tryz.func141 (by kernel_rfl) (zK9 zaJ zz K0)
section
variable (zdt : zwF) (zx9 : zFU) (zuR : zEC) (vd : zmp) (zn0 : zwH) (zlM : zva) (zhs : zwI) (zfH : zvb) (zbh : zwJ) (zbY : zzw)
def zsp : (qp × Unit) → Option (Bool × Unit) := fun (x0, ()) =>
  Option.bind (zdt (x0.1, x0.2.1.2.2.1, ())) fun q0 => bif q0.1 then Option.bind (zx9 (x0.2.1.2.2.2.1, ())) fun q1 => bif q1.1 then Option.bind (zuR (x0.2.1.2.2.2.2.1, ())) fun q2 => bif q2.1 then Option.bind (vd (x0.2.1, zb zW, ())) fun q3 => bif q3.1 then Option.bind (zlM (x0.2.1.2.2.2.1, some fun z => zn0 (z.1, some x0, ()), ())) fun q4 => bif q4.1 then Option.bind (zfH (x0.2.1.2.2.2.2.1, some fun z => zhs (z.1, some x0, ()), ())) fun q5 => bif q5.1 then Option.bind (zbY (x0.2.1.2.2.2.2.2.1, some fun z => zbh (z.1, some x0, ()), ())) fun q6 => bif q6.1 then some (true, ()) else some (false, ()) else Option.bind (zbY (x0.2.1.2.2.2.2.2.1, some fun z => zbh (z.1, some x0, ()), ())) fun q7 => bif q7.1 then some (false, ()) else some (false, ()) else Option.bind (zfH (x0.2.1.2.2.2.2.1, some fun z => zhs (z.1, some x0, ()), ())) fun q8 => bif q8.1 then Option.bind (zbY (x0.2.1.2.2.2.2.2.1, some fun z => zbh (z.1, some x0, ()), ())) fun q9 => bif q9.1 then some (false, ()) else some (false, ()) else Option.bind (zbY (x0.2.1.2.2.2.2.2.1, some fun z => zbh (z.1, some x0, ()), ())) fun q10 => bif q10.1 then some (false, ()) else some (false, ()) else some (false, ()) else some (false, ()) else some (false, ()) else some (false, ())
theorem zNa (K : Nat) : evF (En E0 false [zhJ zdt, zt6 zx9, zrN zuR, zba vd, zk9 zn0, zjf zlM, zlc zhs, zjg zfH, zld zbh, zm1 zbY]) K Tryz.f57 0 zrr zrs = zsp zdt zx9 zuR vd zn0 zlM zhs zfH zbh zbY := funext fun (x0, ()) => by kernel_rfl
end
def zbi : zBV := zsp zaB zjR zhQ jV zbe zcx zbf zcy zbg zeJ
theorem zNb : Sd Tryz.prog E0 (zoI zbi) := mkS (l := [zhJ zaB, zt6 zjR, zrN zhQ, zba jV, zk9 zbe, zjf zcx, zlc zbf, zjg zcy, zld zbg, zm1 zeJ]) ⟨zGB, zQ0, zOS, zuP, zI2, zHD, zI4, zHF, zI6, zLa, trivial⟩ Tryz.func57 (by kernel_rfl) (zNa zaB zjR zhQ jV zbe zcx zbf zcy zbg zeJ K0)
section
def zBu : (zD × (zD × Unit)) → Option (Bool × Unit) := fun (x0, x1, ()) =>
  bif decide (x0.1 ≤ x1.1) then bif wU (↑(BitVec.toNat (BitVec.ofInt (IntKind.bits IntKind.u64) x0.2.1 &&& ~~~BitVec.ofInt (IntKind.bits IntKind.u64) x1.2.1)) : Int) == 0 then some (true, ()) else some (false, ()) else some (false, ())
theorem zSk (K : Nat) : evF (En E0 false []) K Tryz.f92 0 zAB zAC = zBu := funext fun (x0, x1, ()) => by kernel_rfl
end
def zh4 : zIe := zBu
theorem zSl : Sd Tryz.prog E0 (zwu zh4) := mkS (l := []) trivial Tryz.func92 (by kernel_rfl) (zSk K0)
section
variable (zaN : zua) (zBv : zIe)
def zBw : (qp × (Int × (Int × Unit))) → Option (Bool × Unit) := fun (x0, x1, x2, ()) =>
  Option.bind (zaN (x0, x1, ())) fun q0 => bif q0.1 then Option.bind (zaN (x0, x2, ())) fun q1 => bif q1.1 then inR x1 ((List.length x0.1.1) : Int) (inR x2 ((List.length x0.1.1) : Int) (Option.bind (zBv (ix za1 x0.1.1 x1, ix za1 x0.1.1 x2, ())) fun q2 => bif q2.1 then some (true, ()) else some (false, ()))) else some (false, ()) else some (false, ())
theorem zSm (K : Nat) : evF (En E0 false [zfT zaN, zwu zBv]) K Tryz.f152 0 zAH zAI = zBw zaN zBv := funext fun (x0, x1, x2, ()) => by kernel_rfl
end
def zbx : zAJ := zBw yL zh4
theorem zIo : Sd Tryz.prog E0 (zjh zbx) := mkS (l := [zfT yL, zwu zh4]) ⟨zEP, zSl, trivial⟩ Tryz.func152 (by kernel_rfl) (zSm yL zh4 K0)
section
variable (vd : zmp) (zfx : zAJ)
def zqh : (qm × ((Option qp) × ((Option Int) × Unit))) → Option (Bool × Unit) := fun (x0, x1, x2, ()) =>
  Option.bind x1 fun q0 => Option.bind (vd (q0.2.1, x0, ())) fun q1 => bif q1.1 then Option.bind x1 fun q2 => Option.bind x2 fun q3 => Option.bind (zfx (q2, x0.1, q3, ())) fun q4 => bif q4.1 then some (true, ()) else some (false, ()) else some (false, ())
theorem zLb (K : Nat) : evF (En E0 false [zba vd, zjh zfx]) K Tryz.f222 0 zpE zpF = zqh vd zfx := funext fun (x0, x1, x2, ()) => by kernel_rfl
end
def vt : zzI := zqh jV zbx
theorem zLc : Sd Tryz.prog E0 (znH vt) := mkS (l := [zba jV, zjh zbx]) ⟨zuP, zIo, trivial⟩ Tryz.func222 (by kernel_rfl) (zLb jV zbx K0)
section
variable (zqi : zzI)
def zEQ : (qp × (Int × Unit)) → Option ((Option ((qm × Unit) → Option (Bool × Unit))) × Unit) := fun (x0, x1, ()) =>
  some (some fun z => zqi (z.1, some x0, some x1, ()), ())
theorem zOV (K : Nat) : evF (En E0 false [znH zqi]) K Tryz.f143 0 zub zuc = zEQ zqi := funext fun (x0, x1, ()) => by kernel_rfl
end
def zej : zED := zEQ vt
theorem zOW : Sd Tryz.prog E0 (zrO zej) := mkS (l := [znH vt]) ⟨zLc, trivial⟩ Tryz.func143 (by kernel_rfl) (zOV vt K0)
section
def zqj : (z3 × ((Option (Option ((qm × Unit) → Option (Bool × Unit)))) × Unit)) → Option (Bool × Unit) := fun (x0, x1, ()) =>
  bif x0.1 then Option.bind x1 fun q0 => Option.bind q0 fun q1 => Option.bind (q1 (x0.2.1, ())) fun q2 => bif q2.1 then Option.bind x1 fun q3 => Option.bind q3 fun q4 => Option.bind (q4 (x0.2.2.1, ())) fun q5 => bif q5.1 then some (true, ()) else some (false, ()) else some (false, ()) else some (true, ())
theorem zLd (K : Nat) : evF (En E0 false []) K Tryz.f145 0 zpd zpe = zqj := funext fun (x0, x1, ()) => by kernel_rfl
end
def zaC : zzx := zqj
theorem zLe : Sd Tryz.prog E0 (zm6 zaC) := mkS (l := []) trivial Tryz.func145 (by kernel_rfl) (zLd K0)
section
def ztd : (z3 × ((Option (Option ((z3 × Unit) → Option (Bool × Unit)))) × Unit)) → Option (Bool × Unit) := fun (x0, x1, ()) =>
  Option.bind x1 fun q0 => Option.bind q0 fun q1 => Option.bind (q1 (x0, ())) fun q2 => bif q2.1 then some (false, ()) else some (true, ())
theorem zGE (K : Nat) : evF (En E0 false []) K Tryz.f224 0 zjo zjp = ztd := funext fun (x0, x1, ()) => by kernel_rfl
end
def zab : zs3 := ztd
theorem zGF : Sd Tryz.prog E0 (zii zab) := mkS (l := []) trivial Tryz.func224 (by kernel_rfl) (zGE K0)
section
variable (vo : zir)
def zmf : ((List z3) × ((Option ((z3 × Unit) → Option (Bool × Unit))) × Unit)) → Option (Bool × Unit) := fun (x0, x1, ()) =>
  Option.bind (vo (x0, x1, ())) fun q0 => bif decide (q0.1 ≥ 0) then some (true, ()) else some (false, ())
theorem zBx (K : Nat) : evF (En E0 false [zaw vo]) K Tryz.f223 0 zfc zfd = zmf vo := funext fun (x0, x1, ()) => by kernel_rfl
end
def jK : zlW := zmf jo
theorem zBy : Sd Tryz.prog E0 (zdY jK) := mkS (l := [zaw jo]) ⟨zqZ, trivial⟩ Tryz.func223 (by kernel_rfl) (zBx jo K0)
section
variable (zjS : zs3) (zfy : zlW)
def zya : ((List z3) × ((Option ((z3 × Unit) → Option (Bool × Unit))) × Unit)) → Option (Bool × Unit) := fun (x0, x1, ()) =>
  Option.bind (zfy (x0, some fun z => zjS (z.1, some x1, ()), ())) fun q0 => bif q0.1 then some (false, ()) else some (true, ())
theorem zI7 (K : Nat) : evF (En E0 false [zii zjS, zdY zfy]) K Tryz.f144 0 zm4 zm5 = zya zjS zfy := funext fun (x0, x1, ()) => by kernel_rfl
end
def zbj : zwK := zya zab jK
theorem zI8 : Sd Tryz.prog E0 (zle zbj) := mkS (l := [zii zab, zdY jK]) ⟨zGF, zBy, trivial⟩ Tryz.func144 (by kernel_rfl) (zI7 zab jK K0)
section
def zqk : (z8 × ((Option (Option ((qm × Unit) → Option (Bool × Unit)))) × Unit)) → Option (Bool × Unit) := fun (x0, x1, ()) =>
  bif x0.2.2.1 != 2 then some (true, ()) else Option.bind x1 fun q0 => Option.bind q0 fun q1 => Option.bind (q1 (x0.2.2.2.2.1, ())) fun q2 => bif q2.1 then some (true, ()) else some (false, ())
theorem zLf (K : Nat) : evF (En E0 false []) K Tryz.f147 0 zpf zpg = zqk := funext fun (x0, x1, ()) => by kernel_rfl
end
def zaD : zzy := zqk
theorem zLg : Sd Tryz.prog E0 (zna zaD) := mkS (l := []) trivial Tryz.func147 (by kernel_rfl) (zLf K0)
section
def zte : (z8 × ((Option (Option ((z8 × Unit) → Option (Bool × Unit)))) × Unit)) → Option (Bool × Unit) := fun (x0, x1, ()) =>
  Option.bind x1 fun q0 => Option.bind q0 fun q1 => Option.bind (q1 (x0, ())) fun q2 => bif q2.1 then some (false, ()) else some (true, ())
theorem zGG (K : Nat) : evF (En E0 false []) K Tryz.f225 0 zjq zjr = zte := funext fun (x0, x1, ()) => by kernel_rfl
end
def zac : zs4 := zte
theorem zGH : Sd Tryz.prog E0 (zij zac) := mkS (l := []) trivial Tryz.func225 (by kernel_rfl) (zGG K0)
section
variable (zjT : zs4) (jI : ze8)
def zyb : ((List z8) × ((Option ((z8 × Unit) → Option (Bool × Unit))) × Unit)) → Option (Bool × Unit) := fun (x0, x1, ()) =>
  Option.bind (jI (x0, some fun z => zjT (z.1, some x1, ()), ())) fun q0 => bif q0.1 then some (false, ()) else some (true, ())
theorem zI9 (K : Nat) : evF (En E0 false [zij zjT, vX jI]) K Tryz.f146 0 zm7 zm8 = zyb zjT jI := funext fun (x0, x1, ()) => by kernel_rfl
end
def qz : zm9 := zyb zac qw
theorem zyc : Sd Tryz.prog E0 (zcr qz) := mkS (l := [zij zac, vX qw]) ⟨zGH, zl8, trivial⟩ Tryz.func146 (by kernel_rfl) (zI9 zac qw K0)
section
def zvp : (qm × ((Option (Option ((qm × Unit) → Option (Bool × Unit)))) × Unit)) → Option (Bool × Unit) := fun (x0, x1, ()) =>
  Option.bind x1 fun q0 => Option.bind q0 fun q1 => Option.bind (q1 (x0, ())) fun q2 => bif q2.1 then some (false, ()) else some (true, ())
theorem zHI (K : Nat) : evF (En E0 false []) K Tryz.f227 0 zlu zlv = zvp := funext fun (x0, x1, ()) => by kernel_rfl
end
def zaK : zvg := zvp
theorem zHJ : Sd Tryz.prog E0 (zjs zaK) := mkS (l := []) trivial Tryz.func227 (by kernel_rfl) (zHI K0)
section
abbrev ztf : Env := (En E0 false [])
abbrev zaE : Type := (List qm) × (Option ((qm × Unit) → Option (Bool × Unit))) × Int × Int
abbrev zDV : zaE → St := fun (v0, v1, v7, v8) => St.mk [(0, AV.dat (Ty.sl yT) v0), (1, AV.dat (Ty.fn (Ty.pair yT Ty.unit) (Ty.pair Ty.bool Ty.unit)) v1), (7, AV.dat tI v7), (8, AV.dat tI v8)] []
def zht (k0 : zaE → Option (Int × Unit)) : zaE → Option (Int × Unit) := fun (v0, v1, v7, v8) =>
  bif decide (v8 < v7) then inR v8 ((List.length v0) : Int) (Option.bind v1 fun q0 => Option.bind (q0 (ix vz v0 v8, ())) fun q1 => bif q1.1 then some (v8, ()) else k0 (v0, v1, v7, wI (v8 + 1))) else some ((-1), ())
abbrev zql (K : Nat) : zaE → Option (Int × Unit) := iter (zht) K
theorem zDW (K : Nat) : ∀ n, evV (ztf) K Tryz.f274 0 zeA [1, 0, 1, 0] [] zDV n = iter (zht) n := zx fun n0 (v0, v1, v7, v8) => by kernel_rfl
def zjU (L0 : zaE → Option (Int × Unit)) : ((List qm) × ((Option ((qm × Unit) → Option (Bool × Unit))) × Unit)) → Option (Int × Unit) := fun (x0, x1, ()) =>
  L0 (x0, x1, ((List.length x0) : Int), 0)
theorem zGI (K : Nat) : evF (ztf) K Tryz.f274 0 zjA zeA = zjU (zql K) := tr1 (T := zjU) (zDW K K) fun (x0, x1, ()) => by kernel_rfl
end
def zad : zs8 := zjU (zql K0)
theorem zGJ : Sd Tryz.prog E0 (ziv zad) := mkS (l := []) trivial Tryz.func274 (by kernel_rfl) (zGI K0)
section
variable (zjV : zs8)
def zoo : ((List qm) × ((Option ((qm × Unit) → Option (Bool × Unit))) × Unit)) → Option (Bool × Unit) := fun (x0, x1, ()) =>
  Option.bind (zjV (x0, x1, ())) fun q0 => bif decide (q0.1 ≥ 0) then some (true, ()) else some (false, ())
theorem zCv (K : Nat) : evF (En E0 false [ziv zjV]) K Tryz.f226 0 zfW zfX = zoo zjV := funext fun (x0, x1, ()) => by kernel_rfl
end
def jZ : zof := zoo zad
theorem zCw : Sd Tryz.prog E0 (zfe jZ) := mkS (l := [ziv zad]) ⟨zGJ, trivial⟩ Tryz.func226 (by kernel_rfl) (zCv zad K0)
section
variable (zlN : zvg) (zgr : zof)
def zzQ : ((List qm) × ((Option ((qm × Unit) → Option (Bool × Unit))) × Unit)) → Option (Bool × Unit) := fun (x0, x1, ()) =>
  Option.bind (zgr (x0, some fun z => zlN (z.1, some x1, ()), ())) fun q0 => bif q0.1 then some (false, ()) else some (true, ())
theorem zLh (K : Nat) : evF (En E0 false [zjs zlN, zfe zgr]) K Tryz.f148 0 zph zpi = zzQ zlN zgr := funext fun (x0, x1, ()) => by kernel_rfl
end
def zbZ : zzz := zzQ zaK jZ
theorem zLi : Sd Tryz.prog E0 (znb zbZ) := mkS (l := [zjs zaK, zfe jZ]) ⟨zHJ, zCw, trivial⟩ Tryz.func148 (by kernel_rfl) (zLh zaK jZ K0)
end
end Go.Proofs.YtaokpakfhdeiiaaGreatDoor
end
section
namespace Go.Proofs.YtaokpakfhdeiiaaGreatDoor
open Go.Ev
set_option linter.unusedVariables false
noncomputable section
section
variable (zaO : zED) (yf : zzx) (vH : zwK) (vu : zzy) (zF : zm9) (yg : zzz)
abbrev zER : Env := (En E0 false [zrO zaO, zm6 yf, zle vH, zna vu, zcr zF, znb yg])
abbrev zeK : Type := (List zj) × Int × Int × qp
abbrev zLj : zeK → St := fun (v10, v11, v12, o0) => St.mk [(1, AV.bp 0 []), (10, AV.dat (Ty.sl zi) v10), (11, AV.dat tI v11), (12, AV.dat tI v12)] [Obj.bx (AV.dat qy o0) false]
def zeL (k0 : zeK → Option (Bool × Unit)) : zeK → Option (Bool × Unit) := fun (v10, v11, v12, o0) =>
  bif decide (v12 < v11) then inR v12 ((List.length v10) : Int) (Option.bind (zaO (o0, v12, ())) fun q0 => Option.bind (vH ((ix za v10 v12).2.1, some fun z => yf (z.1, some q0.1, ()), ())) fun q1 => bif q1.1 then Option.bind (zF ((ix za v10 v12).2.2.1, some fun z => vu (z.1, some q0.1, ()), ())) fun q2 => bif q2.1 then Option.bind (yg ((ix za v10 v12).2.2.2.2.2.2.1, q0.1, ())) fun q3 => bif q3.1 then k0 (v10, v11, wI (v12 + 1), o0) else some (false, ()) else some (false, ()) else Option.bind (zF ((ix za v10 v12).2.2.1, some fun z => vu (z.1, some q0.1, ()), ())) fun q4 => bif q4.1 then some (false, ()) else some (false, ())) else some (true, ())
abbrev zzR (K : Nat) : zeK → Option (Bool × Unit) := iter (zeL zaO yf vH vu zF yg) K
theorem zLk (K : Nat) : ∀ n, evV (zER zaO yf vH vu zF yg) K Tryz.f58 0 zmo [1, 0, 1, 0] [] zLj n = iter (zeL zaO yf vH vu zF yg) n := zx fun n0 (v10, v11, v12, o0) => by kernel_rfl
def zuS (L0 : zeK → Option (Bool × Unit)) : (qp × Unit) → Option (Bool × Unit) := fun (x0, ()) =>
  L0 (x0.2.1.2.1, ((List.length x0.2.1.2.1) : Int), 0, x0)
theorem zOX (K : Nat) : evF (zER zaO yf vH vu zF yg) K Tryz.f58 0 ztK zmo = zuS (zzR zaO yf vH vu zF yg K) := tr1 (T := zuS) (zLk zaO yf vH vu zF yg K K) fun (x0, ()) => by kernel_rfl
end
def zek : zEt := zuS (zzR zej zaC zbj zaD qz zbZ K0)
theorem zOY : Sd Tryz.prog E0 (zrt zek) := mkS (l := [zrO zej, zm6 zaC, zle zbj, zna zaD, zcr qz, znb zbZ]) ⟨zOW, zLe, zI8, zLg, zyc, zLi, trivial⟩ Tryz.func58 (by kernel_rfl) (zOX zej zaC zbj zaD qz zbZ K0)
section
variable (zK : zav)
def zn1 : (z8 × ((Option qp) × Unit)) → Option (Bool × Unit) := fun (x0, x1, ()) =>
  bif x0.2.2.1 != 1 then some (true, ()) else Option.bind x1 fun q0 => Option.bind (zK (q0, x0.2.2.2.1, ())) fun q1 => bif q1.1 then some (true, ()) else some (false, ())
theorem zJa (K : Nat) : evF (En E0 false [qO zK]) K Tryz.f149 0 znc znd = zn1 zK := funext fun (x0, x1, ()) => by kernel_rfl
end
def je : zwL := zn1 zV
theorem zJb : Sd Tryz.prog E0 (zlf je) := mkS (l := [qO zV]) ⟨zbX, trivial⟩ Tryz.func149 (by kernel_rfl) (zJa zV K0)
section
variable (zfx : zAJ) (zK : zav)
def zn2 : (qk × ((Option qp) × ((Option Int) × Unit))) → Option (Bool × Unit) := fun (x0, x1, x2, ()) =>
  bif x0.1 then Option.bind x1 fun q0 => Option.bind x2 fun q1 => Option.bind (zfx (q0, x0.2.1, q1, ())) fun q2 => bif q2.1 then Option.bind x1 fun q3 => Option.bind (zK (q3, x0.2.2.1, ())) fun q4 => bif q4.1 then Option.bind x1 fun q5 => Option.bind (zK (q5, x0.2.2.2.1, ())) fun q6 => bif q6.1 then some (true, ()) else some (false, ()) else some (false, ()) else some (false, ()) else some (true, ())
theorem zJc (K : Nat) : evF (En E0 false [zjh zfx, qO zK]) K Tryz.f151 0 zng znh = zn2 zfx zK := funext fun (x0, x1, x2, ()) => by kernel_rfl
end
def jf : zwN := zn2 zbx zV
theorem zJd : Sd Tryz.prog E0 (zlh jf) := mkS (l := [zjh zbx, qO zV]) ⟨zIo, zbX, trivial⟩ Tryz.func151 (by kernel_rfl) (zJc zbx zV K0)
section
def ztg : (qk × ((Option (Option ((qk × Unit) → Option (Bool × Unit)))) × Unit)) → Option (Bool × Unit) := fun (x0, x1, ()) =>
  Option.bind x1 fun q0 => Option.bind q0 fun q1 => Option.bind (q1 (x0, ())) fun q2 => bif q2.1 then some (false, ()) else some (true, ())
theorem zGK (K : Nat) : evF (En E0 false []) K Tryz.f228 0 zjt zju = ztg := funext fun (x0, x1, ()) => by kernel_rfl
end
def zae : zs5 := ztg
theorem zGL : Sd Tryz.prog E0 (zik zae) := mkS (l := []) trivial Tryz.func228 (by kernel_rfl) (zGK K0)
section
variable (zjW : zs5) (jJ : zfb)
def zyd : ((List qk) × ((Option ((qk × Unit) → Option (Bool × Unit))) × Unit)) → Option (Bool × Unit) := fun (x0, x1, ()) =>
  Option.bind (jJ (x0, some fun z => zjW (z.1, some x1, ()), ())) fun q0 => bif q0.1 then some (false, ()) else some (true, ())
theorem zJe (K : Nat) : evF (En E0 false [zik zjW, vY jJ]) K Tryz.f150 0 zne znf = zyd zjW jJ := funext fun (x0, x1, ()) => by kernel_rfl
end
def jL : zwM := zyd zae qx
theorem zJf : Sd Tryz.prog E0 (zlg jL) := mkS (l := [zik zae, vY qx]) ⟨zGL, zma, trivial⟩ Tryz.func150 (by kernel_rfl) (zJe zae qx K0)
section
variable (zK : zav)
def zn3 : (zm × ((Option qp) × Unit)) → Option (Bool × Unit) := fun (x0, x1, ()) =>
  bif x0.1 then Option.bind x1 fun q0 => Option.bind (zK (q0, x0.2.1, ())) fun q1 => bif q1.1 then Option.bind x1 fun q2 => Option.bind (zK (q2, x0.2.2.1, ())) fun q3 => bif q3.1 then some (true, ()) else some (false, ()) else some (false, ()) else some (true, ())
theorem zJg (K : Nat) : evF (En E0 false [qO zK]) K Tryz.f154 0 zni znj = zn3 zK := funext fun (x0, x1, ()) => by kernel_rfl
end
def jg : zwO := zn3 zV
theorem zJh : Sd Tryz.prog E0 (zlk jg) := mkS (l := [qO zV]) ⟨zbX, trivial⟩ Tryz.func154 (by kernel_rfl) (zJg zV K0)
section
def zq4 : (zm × ((Option (Option ((zm × Unit) → Option (Bool × Unit)))) × Unit)) → Option (Bool × Unit) := fun (x0, x1, ()) =>
  Option.bind x1 fun q0 => Option.bind q0 fun q1 => Option.bind (q1 (x0, ())) fun q2 => bif q2.1 then some (false, ()) else some (true, ())
theorem zFm (K : Nat) : evF (En E0 false []) K Tryz.f229 0 zil zim = zq4 := funext fun (x0, x1, ()) => by kernel_rfl
end
def yq : zqP := zq4
theorem zFn : Sd Tryz.prog E0 (zgY yq) := mkS (l := []) trivial Tryz.func229 (by kernel_rfl) (zFm K0)
section
variable (ziL : zqP) (ju : zdT)
def zvq : ((List zm) × ((Option ((zm × Unit) → Option (Bool × Unit))) × Unit)) → Option (Bool × Unit) := fun (x0, x1, ()) =>
  Option.bind (ju (x0, some fun z => ziL (z.1, some x1, ()), ())) fun q0 => bif q0.1 then some (false, ()) else some (true, ())
theorem zHK (K : Nat) : evF (En E0 false [zgY ziL, vB ju]) K Tryz.f153 0 zli zlj = zvq ziL ju := funext fun (x0, x1, ()) => by kernel_rfl
end
def jq : zvc := zvq yq qq
theorem zHL : Sd Tryz.prog E0 (zji jq) := mkS (l := [zgY yq, vB qq]) ⟨zFn, zkS, trivial⟩ Tryz.func153 (by kernel_rfl) (zHK yq qq K0)
section
variable (qA : zwL) (zF : zm9) (qg : zwN) (qh : zwM) (zT : zwO) (zM : zvc)
abbrev zsq : Env := (En E0 false [zlf qA, zcr zF, zlh qg, zlg qh, zlk zT, zji zM])
abbrev yQ : Type := (List zj) × Int × Int × qp
abbrev zJi : yQ → St := fun (v10, v11, v12, o0) => St.mk [(1, AV.bp 0 []), (10, AV.dat (Ty.sl zi) v10), (11, AV.dat tI v11), (12, AV.dat tI v12)] [Obj.bx (AV.dat qy o0) true]
abbrev zhu : Type := (List zj) × Int × Int × qp
abbrev zJj : zhu → St := fun (v10, v11, v12, o0) => St.mk [(1, AV.bp 0 []), (10, AV.dat (Ty.sl zi) v10), (11, AV.dat tI v11), (12, AV.dat tI v12)] [Obj.bx (AV.dat qy o0) false]
def jM (k1 : yQ → Option (Bool × Unit)) : yQ → Option (Bool × Unit) := fun (v10, v11, v12, o0) =>
  bif decide (v12 < v11) then inR v12 ((List.length v10) : Int) (Option.bind (zF ((ix za v10 v12).2.2.1, some fun z => qA (z.1, some o0, ()), ())) fun q3 => bif q3.1 then Option.bind (qh ((ix za v10 v12).2.2.2.1, some fun z => qg (z.1, some o0, some v12, ()), ())) fun q4 => bif q4.1 then Option.bind (zM ((ix za v10 v12).2.2.2.2.1, some fun z => zT (z.1, some o0, ()), ())) fun q5 => bif q5.1 then k1 (v10, v11, wI (v12 + 1), o0) else some (false, ()) else Option.bind (zM ((ix za v10 v12).2.2.2.2.1, some fun z => zT (z.1, some o0, ()), ())) fun q6 => bif q6.1 then some (false, ()) else some (false, ()) else Option.bind (qh ((ix za v10 v12).2.2.2.1, some fun z => qg (z.1, some o0, some v12, ()), ())) fun q7 => bif q7.1 then Option.bind (zM ((ix za v10 v12).2.2.2.2.1, some fun z => zT (z.1, some o0, ()), ())) fun q8 => bif q8.1 then some (false, ()) else some (false, ()) else Option.bind (zM ((ix za v10 v12).2.2.2.2.1, some fun z => zT (z.1, some o0, ()), ())) fun q9 => bif q9.1 then some (false, ()) else some (false, ())) else some (true, ())
theorem zJk (K : Nat) : ∀ n, evV (zsq qA zF qg qh zT zM) K Tryz.f59 0 zfR [1, 0, 1, 0] [] zJi n = iter (jM qA zF qg qh zT zM) n := zx fun n1 (v10, v11, v12, o0) => by kernel_rfl
def zye (k1 : yQ → Option (Bool × Unit)) : zhu → Option (Bool × Unit) := fun (v10, v11, v12, o0) =>
  bif decide (v12 < v11) then inR v12 ((List.length v10) : Int) (Option.bind (zF ((ix za v10 v12).2.2.1, some fun z => qA (z.1, some o0, ()), ())) fun q0 => bif q0.1 then Option.bind (qh ((ix za v10 v12).2.2.2.1, some fun z => qg (z.1, some o0, some v12, ()), ())) fun q1 => bif q1.1 then Option.bind (zM ((ix za v10 v12).2.2.2.2.1, some fun z => zT (z.1, some o0, ()), ())) fun q2 => bif q2.1 then k1 (v10, v11, wI (v12 + 1), o0) else some (false, ()) else Option.bind (zM ((ix za v10 v12).2.2.2.2.1, some fun z => zT (z.1, some o0, ()), ())) fun q10 => bif q10.1 then some (false, ()) else some (false, ()) else Option.bind (qh ((ix za v10 v12).2.2.2.1, some fun z => qg (z.1, some o0, some v12, ()), ())) fun q11 => bif q11.1 then Option.bind (zM ((ix za v10 v12).2.2.2.2.1, some fun z => zT (z.1, some o0, ()), ())) fun q12 => bif q12.1 then some (false, ()) else some (false, ()) else Option.bind (zM ((ix za v10 v12).2.2.2.2.1, some fun z => zT (z.1, some o0, ()), ())) fun q13 => bif q13.1 then some (false, ()) else some (false, ())) else some (true, ())
abbrev zyf (K : Nat) : zhu → Option (Bool × Unit) := zKF (zye qA zF qg qh zT zM) (jM qA zF qg qh zT zM) K
theorem zJl (K : Nat) : ∀ n, evV (zsq qA zF qg qh zT zM) K Tryz.f59 0 zfR [1, 0, 1, 0] [] zJj n = zKF (zye qA zF qg qh zT zM) (jM qA zF qg qh zT zM) n := zU7 (zJk qA zF qg qh zT zM K) fun n0 (v10, v11, v12, o0) => by kernel_rfl
def zsr (L0 : zhu → Option (Bool × Unit)) : (qp × Unit) → Option (Bool × Unit) := fun (x0, ()) =>
  L0 (x0.2.1.2.1, ((List.length x0.2.1.2.1) : Int), 0, x0)
theorem zNc (K : Nat) : evF (zsq qA zF qg qh zT zM) K Tryz.f59 0 zru zfR = zsr (zyf qA zF qg qh zT zM K) := tr1 (T := zsr) (zJl qA zF qg qh zT zM K K) fun (x0, ()) => by kernel_rfl
end
def zbk : zBW := zsr (zyf je qz jf jL jg jq K0)
theorem zNd : Sd Tryz.prog E0 (zoJ zbk) := mkS (l := [zlf je, zcr qz, zlh jf, zlg jL, zlk jg, zji jq]) ⟨zJb, zyc, zJd, zJf, zJh, zHL, trivial⟩ Tryz.func59 (by kernel_rfl) (zNc je qz jf jL jg jq K0)
section
def zyg : ((List zm) × Unit) → Option ((List zm) × Unit) := fun (x0, ()) =>
  bif List.isEmpty x0 then both (some ([], ())) (bif decide (List.length (List.replicate 0 (zb zA)) + List.length x0 ≤ lim) then some (List.replicate 0 (zb zA) ++ x0, ()) else none) else bif decide (List.length (List.replicate 0 (zb zA)) + List.length x0 ≤ lim) then some (List.replicate 0 (zb zA) ++ x0, ()) else none
theorem zJm (K : Nat) : evF (En E0 false []) K Tryz.f75 1 zmO zmP = zyg := funext fun (x0, ()) => by kernel_rfl
end
def jN : zmQ := zyg
theorem zyh : Sd Tryz.prog E0 (zcq jN) := mkS (l := []) trivial Tryz.func75 (by kernel_rfl) (zJm K0)
section
variable (z0 : zmQ)
def zhv : ((List zm) × ((Option ((zm × Unit) → Option (Bool × Unit))) × Unit)) → Option ((Option yJ) × Unit) := fun (x0, x1, ()) =>
  bif Option.isNone x1 then some (none, ()) else Option.bind (z0 (x0, ())) fun q0 => some (some (q0.1, x1, ()), ())
theorem zJn (K : Nat) : evF (En E0 false [zcq z0]) K Tryz.f155 0 znk znl = zhv z0 := funext fun (x0, x1, ()) => by kernel_rfl
end
def jh : znm := zhv jN
theorem zyi : Sd Tryz.prog E0 (zcs jh) := mkS (l := [zcq jN]) ⟨zyh, trivial⟩ Tryz.func155 (by kernel_rfl) (zJn jN K0)
section
def zzS : (zm × Unit) → Option (Bool × Unit) := fun (x0, ()) =>
  bif x0.1 then some (true, ()) else some (false, ())
theorem zLl (K : Nat) : evF (En E0 false []) K Tryz.f156 0 zpj zpk = zzS := funext fun (x0, ()) => by kernel_rfl
end
def j4 : zzA := zzS
theorem zLm : Sd Tryz.prog E0 (znn j4) := mkS (l := []) trivial Tryz.func156 (by kernel_rfl) (zLl K0)
section
def zyj : ((Option yJ) × Unit) → Option (Bool × Unit) := fun (x0, ()) =>
  bif Option.isSome x0 then Option.bind x0 fun q0 => bif Option.isSome q0.2.1 then some (true, ()) else some (false, ()) else some (false, ())
theorem zJo (K : Nat) : evF (En E0 false []) K Tryz.f198 0 znD znE = zyj := funext fun (x0, ()) => by kernel_rfl
end
def vI : znF := zyj
theorem zyk : Sd Tryz.prog E0 (zct vI) := mkS (l := []) trivial Tryz.func198 (by kernel_rfl) (zJo K0)
section
variable (ji : znF)
def ziZ : ((Option yJ) × (Int × Unit)) → Option (Bool × Unit) := fun (x0, x1, ()) =>
  Option.bind (ji (x0, ())) fun q0 => bif q0.1 then bif decide (x1 ≥ 0) then Option.bind x0 fun q1 => bif decide (x1 < ((List.length q1.1) : Int)) then Option.bind x0 fun q2 => Option.bind x0 fun q3 => inR x1 ((List.length q3.1) : Int) (Option.bind q2.2.1 fun q4 => Option.bind (q4 (ix jX q3.1 x1, ())) fun q5 => bif q5.1 then some (true, ()) else some (false, ())) else some (false, ()) else some (false, ()) else some (false, ())
theorem zLn (K : Nat) : evF (En E0 false [zct ji]) K Tryz.f157 0 zpl zpm = ziZ ji := funext fun (x0, x1, ()) => by kernel_rfl
end
def qB : zpn := ziZ vI
theorem zzT : Sd Tryz.prog E0 (zdc qB) := mkS (l := [zct vI]) ⟨zyk, trivial⟩ Tryz.func157 (by kernel_rfl) (zLn vI K0)
section
variable (ji : znF) (zw : zpn)
abbrev zvr : Env := (En E0 false [zct ji, zdc zw])
abbrev za4 : Type := (Option yJ) × Int × Int × List Int
abbrev zFo : za4 → St := fun (v0, v12, v13, o0) => St.mk [(0, AV.dat (Ty.ptr zat) v0), (3, AV.ow 0), (12, AV.dat tI v12), (13, AV.dat tI v13)] [Obj.row tI o0 false]
def za5 (k0 : za4 → Option ((List Int) × Unit)) : za4 → Option ((List Int) × Unit) := fun (v0, v12, v13, o0) =>
  bif decide (v13 < v12) then Option.bind (zw (v0, v13, ())) fun q2 => bif q2.1 then bif decide (List.length o0 + List.length (zg (List.replicate 1 (0 : Int)) 0 v13) ≤ lim) then k0 (v0, v12, wI (v13 + 1), o0 ++ zg (List.replicate 1 (0 : Int)) 0 v13) else none else k0 (v0, v12, wI (v13 + 1), o0) else some (o0, ())
abbrev zq5 (K : Nat) : za4 → Option ((List Int) × Unit) := iter (za5 zw) K
theorem zFp (K : Nat) : ∀ n, evV (zvr ji zw) K Tryz.f121 0 zfE [1, 1, 1, 0, 1, 0] [] zFo n = iter (za5 zw) n := zx fun n0 (v0, v12, v13, o0) => by kernel_rfl
def zlO (L0 : za4 → Option ((List Int) × Unit)) : ((Option yJ) × Unit) → Option ((List Int) × Unit) := fun (x0, ()) =>
  Option.bind (ji (x0, ())) fun q0 => bif q0.1 then Option.bind x0 fun q1 => L0 (x0, ((List.length q1.1) : Int), 0, []) else some ([], ())
theorem zHM (K : Nat) : evF (zvr ji zw) K Tryz.f121 0 zk3 zfE = zlO ji (zq5 zw K) := tr1 (T := zlO ji) (zFp ji zw K K) fun (x0, ()) => by kernel_rfl
end
def qW : zk4 := zlO vI (zq5 qB K0)
theorem zvs : Sd Tryz.prog E0 (zbD qW) := mkS (l := [zct vI, zdc qB]) ⟨zyk, zzT, trivial⟩ Tryz.func121 (by kernel_rfl) (zHM vI qB K0)
section
variable (zG : znm) (zX : zzA) (zw : zpn) (zt : zk4)
abbrev ve : Env := (En E0 false [zcs zG, znn zX, zdc zw, zbD zt])
abbrev zeM : Type := (List zj) × Int × Int × (List Int) × Int × Int × zj
abbrev zzU : zeM → St := fun (v14, v15, v16, v55, v56, v57, o0) => St.mk [(4, AV.bp 0 []), (14, AV.dat (Ty.sl zi) v14), (15, AV.dat tI v15), (16, AV.dat tI v16), (55, AV.dat (Ty.sl tI) v55), (56, AV.dat tI v56), (57, AV.dat tI v57)] [Obj.bx (AV.dat zi o0) false]
abbrev zeN : Type := (Option yJ) × (List zj) × Int × Int × (List z8) × Int × Int × zj
abbrev zzV : zeN → St := fun (v5, v14, v15, v16, v24, v25, v26, o0) => St.mk [(4, AV.bp 0 []), (5, AV.dat (Ty.ptr zat) v5), (14, AV.dat (Ty.sl zi) v14), (15, AV.dat tI v15), (16, AV.dat tI v16), (24, AV.dat (Ty.sl qi) v24), (25, AV.dat tI v25), (26, AV.dat tI v26)] [Obj.bx (AV.dat zi o0) false]
abbrev vv : Type := (List zj) × Int × Int
abbrev zb0 : vv → St := fun (v14, v15, v16) => St.mk [(14, AV.dat (Ty.sl zi) v14), (15, AV.dat tI v15), (16, AV.dat tI v16)] []
def zeO (k0 : vv → Option (Bool × Unit)) (k2 : zeM → Option (Bool × Unit)) : zeM → Option (Bool × Unit) := fun (v14, v15, v16, v55, v56, v57, o0) =>
  bif decide (v57 < v56) then inR v57 ((List.length v55) : Int) (inR (ix (0 : Int) v55 v57) ((List.length o0.2.2.2.2.1) : Int) (inR (ix (0 : Int) v55 v57) ((List.length o0.2.2.2.2.1) : Int) (bif decide ((List.getD o0.2.2.2.2.1 (Int.toNat (ix (0 : Int) v55 v57)) (zb zA)).2.2.2.1.2.2.1 ≥ ((List.length o0.2.2.1) : Int)) then some (false, ()) else bif decide ((List.getD o0.2.2.2.2.1 (Int.toNat (ix (0 : Int) v55 v57)) (zb zA)).2.2.2.2.1.2.2.1 ≥ ((List.length o0.2.2.1) : Int)) then some (false, ()) else bif decide ((List.getD o0.2.2.2.2.1 (Int.toNat (ix (0 : Int) v55 v57)) (zb zA)).2.2.2.1.2.2.1 ≥ 0) then inR (List.getD o0.2.2.2.2.1 (Int.toNat (ix (0 : Int) v55 v57)) (zb zA)).2.2.2.1.2.2.1 ((List.length o0.2.2.1) : Int) (bif (List.getD o0.2.2.1 (Int.toNat (List.getD o0.2.2.2.2.1 (Int.toNat (ix (0 : Int) v55 v57)) (zb zA)).2.2.2.1.2.2.1) (zb qi)).2.2.1 != 3 then some (false, ()) else inR (List.getD o0.2.2.2.2.1 (Int.toNat (ix (0 : Int) v55 v57)) (zb zA)).2.2.2.1.2.2.1 ((List.length o0.2.2.1) : Int) (bif (List.getD o0.2.2.1 (Int.toNat (List.getD o0.2.2.2.2.1 (Int.toNat (ix (0 : Int) v55 v57)) (zb zA)).2.2.2.1.2.2.1) (zb qi)).2.2.2.1 != ix (0 : Int) v55 v57 then some (false, ()) else k2 (v14, v15, v16, v55, v56, wI (v57 + 1), o0))) else k2 (v14, v15, v16, v55, v56, wI (v57 + 1), o0)))) else k0 (v14, v15, wI (v16 + 1))
abbrev zeP (K : Nat) (k0 : vv → Option (Bool × Unit)) : zeM → Option (Bool × Unit) := iter (fun k2 => zeO k0 k2) K
theorem zLo (K : Nat) (n0 : Nat) : ∀ n, evV (ve zG zX zw zt) K Tryz.f60 0 jA [1, 0, 1, 0, 0, 1, 1, 0, 0, 1, 1, 1, 1, 0] [n0] zzU n = iter (fun k2 => zeO (evV (ve zG zX zw zt) K Tryz.f60 0 jA [1, 0, 1, 0] [] zb0 n0) k2) n := zx fun n2 (v14, v15, v16, v55, v56, v57, o0) => by kernel_rfl
def zb1 (L2 : zeM → Option (Bool × Unit)) (k0 : vv → Option (Bool × Unit)) (k1 : zeN → Option (Bool × Unit)) : zeN → Option (Bool × Unit) := fun (v5, v14, v15, v16, v24, v25, v26, o0) =>
  bif decide (v26 < v25) then inR v26 ((List.length v24) : Int) (bif (ix zgM v24 v26).2.2.1 == 3 then Option.bind (zw (v5, (ix zgM v24 v26).2.2.2.1, ())) fun q1 => bif q1.1 then inR (ix zgM v24 v26).2.2.2.1 ((List.length o0.2.2.2.2.1) : Int) (bif (List.getD o0.2.2.2.2.1 (Int.toNat (ix zgM v24 v26).2.2.2.1) (zb zA)).2.2.2.1.2.2.1 != v26 then some (false, ()) else k1 (v5, v14, v15, v16, v24, v25, wI (v26 + 1), o0)) else some (false, ()) else k1 (v5, v14, v15, v16, v24, v25, wI (v26 + 1), o0)) else Option.bind (zt (v5, ())) fun q2 => L2 (v14, v15, v16, q2.1, ((List.length q2.1) : Int), 0, o0)
abbrev zeQ (K : Nat) (k0 : vv → Option (Bool × Unit)) : zeN → Option (Bool × Unit) := iter (fun k1 => zb1 zw zt (zeP K k0) k0 k1) K
theorem zLp (K : Nat) (n0 : Nat) : ∀ n, evV (ve zG zX zw zt) K Tryz.f60 0 jA [1, 0, 1, 0, 0, 1, 1, 0, 0, 1, 1, 0, 1, 0] [n0] zzV n = iter (fun k1 => zb1 zw zt (zeP K (evV (ve zG zX zw zt) K Tryz.f60 0 jA [1, 0, 1, 0] [] zb0 n0)) (evV (ve zG zX zw zt) K Tryz.f60 0 jA [1, 0, 1, 0] [] zb0 n0) k1) n := zoe (B := fun L2 k1 => zb1 zw zt L2 (evV (ve zG zX zw zt) K Tryz.f60 0 jA [1, 0, 1, 0] [] zb0 n0) k1) (V1 := fun n1 => evV (ve zG zX zw zt) K Tryz.f60 0 jA [1, 0, 1, 0, 0, 1, 1, 0, 0, 1, 1, 1, 1, 0] [n0] zzU K) (W1 := fun k1 => (zeP K (evV (ve zG zX zw zt) K Tryz.f60 0 jA [1, 0, 1, 0] [] zb0 n0))) (fun n1 => zLo zG zX zw zt K n0 K) fun n1 (v5, v14, v15, v16, v24, v25, v26, o0) => by kernel_rfl
def zb2 (L1 : zeN → Option (Bool × Unit)) (k0 : vv → Option (Bool × Unit)) : vv → Option (Bool × Unit) := fun (v14, v15, v16) =>
  bif decide (v16 < v15) then inR v16 ((List.length v14) : Int) (Option.bind (zG ((ix za v14 v16).2.2.2.2.1, some zX, ())) fun q0 => L1 (q0.1, v14, v15, v16, (ix za v14 v16).2.2.1, ((List.length (ix za v14 v16).2.2.1) : Int), 0, ix za v14 v16)) else some (true, ())
abbrev zzW (K : Nat) : vv → Option (Bool × Unit) := iter (fun k0 => zb2 zG zX (zeQ zw zt K k0) k0) K
theorem zLq (K : Nat) : ∀ n, evV (ve zG zX zw zt) K Tryz.f60 0 jA [1, 0, 1, 0] [] zb0 n = iter (fun k0 => zb2 zG zX (zeQ zw zt K k0) k0) n := zoe (B := fun L1 k0 => zb2 zG zX L1 k0) (V1 := fun n0 => evV (ve zG zX zw zt) K Tryz.f60 0 jA [1, 0, 1, 0, 0, 1, 1, 0, 0, 1, 1, 0, 1, 0] [n0] zzV K) (W1 := fun k0 => (zeQ zw zt K k0)) (fun n0 => zLp zG zX zw zt K n0 K) fun n0 (v14, v15, v16) => by kernel_rfl
def zuT (L0 : vv → Option (Bool × Unit)) : (qp × Unit) → Option (Bool × Unit) := fun (x0, ()) =>
  L0 (x0.2.1.2.1, ((List.length x0.2.1.2.1) : Int), 0)
theorem zOZ (K : Nat) : evF (ve zG zX zw zt) K Tryz.f60 0 ztL jA = zuT (zzW zG zX zw zt K) := tr1 (T := zuT) (zLq zG zX zw zt K K) fun (x0, ()) => by kernel_rfl
end
def zel : zEu := zuT (zzW jh j4 qB qW K0)
theorem zO0 : Sd Tryz.prog E0 (zrv zel) := mkS (l := [zcs jh, znn j4, zdc qB, zbD qW]) ⟨zyi, zLm, zzT, zvs, trivial⟩ Tryz.func60 (by kernel_rfl) (zOZ jh j4 qB qW K0)
section
def zyl : ((List zl) × Unit) → Option ((List zl) × Unit) := fun (x0, ()) =>
  bif List.isEmpty x0 then both (some ([], ())) (bif decide (List.length (List.replicate 0 (zb zp)) + List.length x0 ≤ lim) then some (List.replicate 0 (zb zp) ++ x0, ()) else none) else bif decide (List.length (List.replicate 0 (zb zp)) + List.length x0 ≤ lim) then some (List.replicate 0 (zb zp) ++ x0, ()) else none
theorem zJp (K : Nat) : evF (En E0 false []) K Tryz.f66 1 zmC zmD = zyl := funext fun (x0, ()) => by kernel_rfl
end
def jO : zmE := zyl
theorem zym : Sd Tryz.prog E0 (zcp jO) := mkS (l := []) trivial Tryz.func66 (by kernel_rfl) (zJp K0)
section
variable (qC : zmE)
def zn4 : ((List zl) × ((Option ((zl × Unit) → Option (Bool × Unit))) × Unit)) → Option ((Option zau) × Unit) := fun (x0, x1, ()) =>
  bif Option.isNone x1 then some (none, ()) else Option.bind (qC (x0, ())) fun q0 => some (some (q0.1, x1, ()), ())
theorem zJq (K : Nat) : evF (En E0 false [zcp qC]) K Tryz.f249 0 znJ znK = zn4 qC := funext fun (x0, x1, ()) => by kernel_rfl
end
def zdu : zxg := zn4 jO
theorem zJr : Sd Tryz.prog E0 (zlC zdu) := mkS (l := [zcp jO]) ⟨zym, trivial⟩ Tryz.func249 (by kernel_rfl) (zJq jO K0)
section
def zGM : (zl × Unit) → Option (Bool × Unit) := fun (x0, ()) =>
  bif x0.1 then some (true, ()) else some (false, ())
theorem zQ1 (K : Nat) : evF (En E0 false []) K Tryz.f250 0 zxh zxi = zGM := funext fun (x0, ()) => by kernel_rfl
end
def zgs : zF6 := zGM
theorem zQ2 : Sd Tryz.prog E0 (zut zgs) := mkS (l := []) trivial Tryz.func250 (by kernel_rfl) (zQ1 K0)
section
variable (zn5 : zxg) (zyn : zF6)
def zDX : ((List zl) × Unit) → Option ((Option zau) × Unit) := fun (x0, ()) =>
  Option.bind (zn5 (x0, some zyn, ())) fun q0 => some (q0.1, ())
theorem zTW (K : Nat) : evF (En E0 false [zlC zn5, zut zyn]) K Tryz.f195 0 zDl zDm = zDX zn5 zyn := funext fun (x0, ()) => by kernel_rfl
end
def zku : zKI := zDX zdu zgs
theorem zTX : Sd Tryz.prog E0 (zAM zku) := mkS (l := [zlC zdu, zut zgs]) ⟨zJr, zQ2, trivial⟩ Tryz.func195 (by kernel_rfl) (zTW zdu zgs K0)
section
def zyo : ((Option zau) × Unit) → Option (Bool × Unit) := fun (x0, ()) =>
  bif Option.isSome x0 then Option.bind x0 fun q0 => bif Option.isSome q0.2.1 then some (true, ()) else some (false, ()) else some (false, ())
theorem zJs (K : Nat) : evF (En E0 false []) K Tryz.f251 0 znL znM = zyo := funext fun (x0, ()) => by kernel_rfl
end
def vJ : znN := zyo
theorem zyp : Sd Tryz.prog E0 (zcu vJ) := mkS (l := []) trivial Tryz.func251 (by kernel_rfl) (zJs K0)
section
variable (jl : znN)
def zqm : ((Option zau) × (Int × Unit)) → Option (Bool × Unit) := fun (x0, x1, ()) =>
  Option.bind (jl (x0, ())) fun q0 => bif q0.1 then bif decide (x1 ≥ 0) then Option.bind x0 fun q1 => bif decide (x1 < ((List.length q1.1) : Int)) then Option.bind x0 fun q2 => Option.bind x0 fun q3 => inR x1 ((List.length q3.1) : Int) (Option.bind q2.2.1 fun q4 => Option.bind (q4 (ix qD q3.1 x1, ())) fun q5 => bif q5.1 then some (true, ()) else some (false, ())) else some (false, ()) else some (false, ()) else some (false, ())
theorem zLr (K : Nat) : evF (En E0 false [zcu jl]) K Tryz.f252 0 zpJ zpK = zqm jl := funext fun (x0, x1, ()) => by kernel_rfl
end
def zaF : zzJ := zqm vJ
theorem zLs : Sd Tryz.prog E0 (znO zaF) := mkS (l := [zcu vJ]) ⟨zyp, trivial⟩ Tryz.func252 (by kernel_rfl) (zLr vJ K0)
section
variable (jl : znN) (yh : zzJ)
abbrev zvt : Env := (En E0 false [zcu jl, znO yh])
abbrev za6 : Type := (Option zau) × Int × Int × List Int
abbrev zFq : za6 → St := fun (v0, v12, v13, o0) => St.mk [(0, AV.dat (Ty.ptr zbr) v0), (3, AV.ow 0), (12, AV.dat tI v12), (13, AV.dat tI v13)] [Obj.row tI o0 false]
def za7 (k0 : za6 → Option ((List Int) × Unit)) : za6 → Option ((List Int) × Unit) := fun (v0, v12, v13, o0) =>
  bif decide (v13 < v12) then Option.bind (yh (v0, v13, ())) fun q2 => bif q2.1 then bif decide (List.length o0 + List.length (zg (List.replicate 1 (0 : Int)) 0 v13) ≤ lim) then k0 (v0, v12, wI (v13 + 1), o0 ++ zg (List.replicate 1 (0 : Int)) 0 v13) else none else k0 (v0, v12, wI (v13 + 1), o0) else some (o0, ())
abbrev zq6 (K : Nat) : za6 → Option ((List Int) × Unit) := iter (za7 yh) K
theorem zFr (K : Nat) : ∀ n, evV (zvt jl yh) K Tryz.f196 0 zfG [1, 1, 1, 0, 1, 0] [] zFq n = iter (za7 yh) n := zx fun n0 (v0, v12, v13, o0) => by kernel_rfl
def zlP (L0 : za6 → Option ((List Int) × Unit)) : ((Option zau) × Unit) → Option ((List Int) × Unit) := fun (x0, ()) =>
  Option.bind (jl (x0, ())) fun q0 => bif q0.1 then Option.bind x0 fun q1 => L0 (x0, ((List.length q1.1) : Int), 0, []) else some ([], ())
theorem zHN (K : Nat) : evF (zvt jl yh) K Tryz.f196 0 zlr zfG = zlP jl (zq6 yh K) := tr1 (T := zlP jl) (zFr jl yh K K) fun (x0, ()) => by kernel_rfl
end
def zcz : zve := zlP vJ (zq6 zaF K0)
theorem zHO : Sd Tryz.prog E0 (zjm zcz) := mkS (l := [zcu vJ, znO zaF]) ⟨zyp, zLs, trivial⟩ Tryz.func196 (by kernel_rfl) (zHN vJ zaF K0)
section
variable (zDY : zKI) (zlQ : zve)
def zyq : ((List zl) × Unit) → Option ((List Int) × Unit) := fun (x0, ()) =>
  Option.bind (zDY (x0, ())) fun q0 => Option.bind (zlQ (q0.1, ())) fun q1 => some (q1.1, ())
theorem zQ3 (K : Nat) : evF (En E0 false [zAM zDY, zjm zlQ]) K Tryz.f118 0 zwv zww = zyq zDY zlQ := funext fun (x0, ()) => by kernel_rfl
end
def zgt : zFQ := zyq zku zcz
theorem zQ4 : Sd Tryz.prog E0 (ztW zgt) := mkS (l := [zAM zku, zjm zcz]) ⟨zTX, zHO, trivial⟩ Tryz.func118 (by kernel_rfl) (zQ3 zku zcz K0)
section
def zuU : (zl × Unit) → Option (Int × Unit) := fun (x0, ()) =>
  bif x0.2.2.2.1 == 2 then some (x0.2.2.2.2.1, ()) else some (x0.2.2.2.2.2.1, ())
theorem zO1 (K : Nat) : evF (En E0 false []) K Tryz.f119 0 ztX ztY = zuU := funext fun (x0, ()) => by kernel_rfl
end
def zcm : zEz := zuU
theorem zO2 : Sd Tryz.prog E0 (zrK zcm) := mkS (l := []) trivial Tryz.func119 (by kernel_rfl) (zO1 K0)
section
def zBz : (Int × (Int × Unit)) → Option (Int × (Int × Unit)) := fun (x0, x1, ()) =>
  bif decide (0 ≤ x0) then bif decide (0 ≤ x1) then bif decide (x1 < 18446744073709551616) then bif zCY true x0 x1 != 0 then some (0, 7, ()) else bif decide (zAn true x0 x1 > 4611686018427387904) then some (0, 7, ()) else some (zAn true x0 x1, 0, ()) else none else none else none
theorem zSn (K : Nat) : evF (En E0 false []) K Tryz.f122 0 zAF zAG = zBz := funext fun (x0, x1, ()) => by kernel_rfl
end
def zfz : zIg := zBz
theorem zSo : Sd Tryz.prog E0 (zwy zfz) := mkS (l := []) trivial Tryz.func122 (by kernel_rfl) (zSn K0)
section
variable (zc0 : zIg)
abbrev zLt : Env := (En E0 false [zwy zc0])
abbrev zjX : Type := Int × (List Int) × Int × Int
abbrev zQ5 : zjX → St := fun (v4, v9, v10, v11) => St.mk [(4, AV.dat tU v4), (9, AV.dat (Ty.sl tU) v9), (10, AV.dat tI v10), (11, AV.dat tI v11)] []
def zjY (k0 : zjX → Option (Int × (Int × Unit))) : zjX → Option (Int × (Int × Unit)) := fun (v4, v9, v10, v11) =>
  bif decide (v11 < v10) then inR v11 ((List.length v9) : Int) (Option.bind (zc0 (v4, ix (0 : Int) v9 v11, ())) fun q0 => bif q0.2.1 != 0 then some (0, q0.2.1, ()) else k0 (q0.1, v9, v10, wI (v11 + 1))) else some (v4, 0, ())
abbrev zGN (K : Nat) : zjX → Option (Int × (Int × Unit)) := iter (zjY zc0) K
theorem zQ6 (K : Nat) : ∀ n, evV (zLt zc0) K Tryz.f46 0 zvI [1, 1, 0, 1, 0] [] zQ5 n = iter (zjY zc0) n := zx fun n0 (v4, v9, v10, v11) => by kernel_rfl
def zDZ (L0 : zjX → Option (Int × (Int × Unit))) : ((List Int) × Unit) → Option (Int × (Int × Unit)) := fun (x0, ()) =>
  L0 (0, x0, ((List.length x0) : Int), 0)
theorem zTY (K : Nat) : evF (zLt zc0) K Tryz.f46 0 zDj zvI = zDZ (zGN zc0 K) := tr1 (T := zDZ) (zQ6 zc0 K K) fun (x0, ()) => by kernel_rfl
end
def jp : zoE := zDZ (zGN zfz K0)
theorem zvO : Sd Tryz.prog E0 (zbs jp) := mkS (l := [zwy zfz]) ⟨zSo, trivial⟩ Tryz.func46 (by kernel_rfl) (zTY zfz K0)
section
variable (zr : zbC) (zdv : zFQ) (zaP : zEz) (zE : zoE)
abbrev zIp : Env := (En E0 false [qS zr, ztW zdv, zrK zaP, zbs zE])
abbrev zhR : Type := (List zl) × Int × (List Int) × Int × Int × List Int
abbrev zO3 : zhR → St := fun (v0, v1, v13, v14, v15, o0) => St.mk [(0, AV.dat (Ty.sl zp) v0), (1, AV.dat tI v1), (6, AV.ow 0), (13, AV.dat (Ty.sl tI) v13), (14, AV.dat tI v14), (15, AV.dat tI v15)] [Obj.row tU o0 false]
def zhS (k0 : zhR → Option (Int × (Int × Unit))) : zhR → Option (Int × (Int × Unit)) := fun (v0, v1, v13, v14, v15, o0) =>
  bif decide (v15 < v14) then inR v15 ((List.length v13) : Int) (inR (ix (0 : Int) v13 v15) ((List.length v0) : Int) (Option.bind (zaP (List.getD v0 (Int.toNat (ix (0 : Int) v13 v15)) (zb zp), ())) fun q2 => bif q2.1 == v1 then inR (ix (0 : Int) v13 v15) ((List.length v0) : Int) (bif decide (List.length o0 + List.length (zg (List.replicate 1 (0 : Int)) 0 (List.getD v0 (Int.toNat (ix (0 : Int) v13 v15)) (zb zp)).2.2.2.2.2.2.2.2.1) ≤ lim) then k0 (v0, v1, v13, v14, wI (v15 + 1), o0 ++ zg (List.replicate 1 (0 : Int)) 0 (List.getD v0 (Int.toNat (ix (0 : Int) v13 v15)) (zb zp)).2.2.2.2.2.2.2.2.1) else none) else k0 (v0, v1, v13, v14, wI (v15 + 1), o0))) else Option.bind (zE (o0, ())) fun q3 => some (q3.1, q3.2.1, ())
abbrev zES (K : Nat) : zhR → Option (Int × (Int × Unit)) := iter (zhS zaP zE) K
theorem zO4 (K : Nat) : ∀ n, evV (zIp zr zdv zaP zE) K Tryz.f44 0 zsP [1, 1, 1, 0, 1, 0] [] zO3 n = iter (zhS zaP zE) n := zx fun n0 (v0, v1, v13, v14, v15, o0) => by kernel_rfl
def zsT (L0 : zhR → Option (Int × (Int × Unit))) : ((List zl) × (Int × Unit)) → Option (Int × (Int × Unit)) := fun (x0, x1, ()) =>
  Option.bind (zr (x1, ())) fun q0 => bif q0.1 then Option.bind (zdv (x0, ())) fun q1 => L0 (x0, x1, q1.1, ((List.length q1.1) : Int), 0, []) else some (0, 1, ())
theorem zSp (K : Nat) : evF (zIp zr zdv zaP zE) K Tryz.f44 0 zAA zsP = zsT zr zdv (zES zaP zE K) := tr1 (T := zsT zr zdv) (zO4 zr zdv zaP zE K K) fun (x0, x1, ()) => by kernel_rfl
end
def zh5 : zId := zsT z5 zgt (zES zcm jp K0)
theorem zSq : Sd Tryz.prog E0 (zwj zh5) := mkS (l := [qS z5, ztW zgt, zrK zcm, zbs jp]) ⟨zds, zQ4, zO2, zvO, trivial⟩ Tryz.func44 (by kernel_rfl) (zSp z5 zgt zcm jp K0)
section
def zET : (zm × Unit) → Option (Bool × Unit) := fun (x0, ()) =>
  bif x0.1 then some (true, ()) else some (false, ())
theorem zO5 (K : Nat) : evF (En E0 false []) K Tryz.f197 0 zui zuj = zET := funext fun (x0, ()) => by kernel_rfl
end
def zem : zEG := zET
theorem zO6 : Sd Tryz.prog E0 (zrV zem) := mkS (l := []) trivial Tryz.func197 (by kernel_rfl) (zO5 K0)
section
variable (zG : znm) (zuV : zEG)
def zBA : ((List zm) × Unit) → Option ((Option yJ) × Unit) := fun (x0, ()) =>
  Option.bind (zG (x0, some zuV, ())) fun q0 => some (q0.1, ())
theorem zSr (K : Nat) : evF (En E0 false [zcs zG, zrV zuV]) K Tryz.f120 0 zAD zAE = zBA zG zuV := funext fun (x0, ()) => by kernel_rfl
end
def zh6 : zIf := zBA jh zem
theorem zSs : Sd Tryz.prog E0 (zwx zh6) := mkS (l := [zcs jh, zrV zem]) ⟨zyi, zO6, trivial⟩ Tryz.func120 (by kernel_rfl) (zSr jh zem K0)
section
variable (zr : zbC) (zfA : zIf) (zt : zk4) (zE : zoE)
abbrev zGO : Env := (En E0 false [qS zr, zwx zfA, zbD zt, zbs zE])
abbrev zgu : Type := (List zm) × Int × (List Int) × Int × Int × List Int
abbrev zNe : zgu → St := fun (v0, v1, v14, v15, v16, o0) => St.mk [(0, AV.dat (Ty.sl zA) v0), (1, AV.dat tI v1), (6, AV.ow 0), (14, AV.dat (Ty.sl tI) v14), (15, AV.dat tI v15), (16, AV.dat tI v16)] [Obj.row tU o0 false]
def zgv (k0 : zgu → Option (Int × (Int × Unit))) : zgu → Option (Int × (Int × Unit)) := fun (v0, v1, v14, v15, v16, o0) =>
  bif decide (v16 < v15) then inR v16 ((List.length v14) : Int) (inR (ix (0 : Int) v14 v16) ((List.length v0) : Int) (bif (List.getD v0 (Int.toNat (ix (0 : Int) v14 v16)) (zb zA)).2.2.2.1.1 == v1 then inR (ix (0 : Int) v14 v16) ((List.length v0) : Int) (bif decide (List.length o0 + List.length (zg (List.replicate 1 (0 : Int)) 0 (List.getD v0 (Int.toNat (ix (0 : Int) v14 v16)) (zb zA)).2.2.2.1.2.1) ≤ lim) then k0 (v0, v1, v14, v15, wI (v16 + 1), o0 ++ zg (List.replicate 1 (0 : Int)) 0 (List.getD v0 (Int.toNat (ix (0 : Int) v14 v16)) (zb zA)).2.2.2.1.2.1) else none) else k0 (v0, v1, v14, v15, wI (v16 + 1), o0))) else Option.bind (zE (o0, ())) fun q3 => some (q3.1, q3.2.1, ())
abbrev zCx (K : Nat) : zgu → Option (Int × (Int × Unit)) := iter (zgv zE) K
theorem zNf (K : Nat) : ∀ n, evV (zGO zr zfA zt zE) K Tryz.f45 0 zoD [1, 1, 1, 0, 1, 0] [] zNe n = iter (zgv zE) n := zx fun n0 (v0, v1, v14, v15, v16, o0) => by kernel_rfl
def zqn (L0 : zgu → Option (Int × (Int × Unit))) : ((List zm) × (Int × Unit)) → Option (Int × (Int × Unit)) := fun (x0, x1, ()) =>
  Option.bind (zr (x1, ())) fun q0 => bif q0.1 then Option.bind (zfA (x0, ())) fun q1 => Option.bind (zt (q1.1, ())) fun q2 => L0 (x0, x1, q2.1, ((List.length q2.1) : Int), 0, []) else some (0, 1, ())
theorem zQ7 (K : Nat) : evF (zGO zr zfA zt zE) K Tryz.f45 0 zwk zoD = zqn zr zfA zt (zCx zE K) := tr1 (T := zqn zr zfA zt) (zNf zr zfA zt zE K K) fun (x0, x1, ()) => by kernel_rfl
end
def zdw : zFN := zqn z5 zh6 qW (zCx jp K0)
theorem zQ8 : Sd Tryz.prog E0 (ztF zdw) := mkS (l := [qS z5, zwx zh6, zbD qW, zbs jp]) ⟨zds, zSs, zvs, zvO, trivial⟩ Tryz.func45 (by kernel_rfl) (zQ7 z5 zh6 qW jp K0)
section
variable (zr : zbC) (yF : zId) (j3 : zFN) (zE : zoE)
abbrev zjZ : Env := (En E0 false [qS zr, zwj yF, ztF j3, zbs zE])
abbrev zgw : Type := Int × (List zj) × Int × Int × (List (List Int)) × Int × Int × List Int
abbrev zCy : zgw → St := fun (v1, v31, v32, v33, v52, v53, v54, o0) => St.mk [(1, AV.dat tI v1), (8, AV.ow 0), (31, AV.dat (Ty.sl zi) v31), (32, AV.dat tI v32), (33, AV.dat tI v33), (52, AV.dat (Ty.sl (Ty.arr 4 tU)) v52), (53, AV.dat tI v53), (54, AV.dat tI v54)] [Obj.row tU o0 false]
abbrev zbl : Type := Int × (List zj) × Int × Int × List Int
abbrev zCz : zbl → St := fun (v1, v31, v32, v33, o0) => St.mk [(1, AV.dat tI v1), (8, AV.ow 0), (31, AV.dat (Ty.sl zi) v31), (32, AV.dat tI v32), (33, AV.dat tI v33)] [Obj.row tU o0 false]
def zgx (k0 : zbl → Option (Int × (Int × Unit))) (k1 : zgw → Option (Int × (Int × Unit))) : zgw → Option (Int × (Int × Unit)) := fun (v1, v31, v32, v33, v52, v53, v54, o0) =>
  bif decide (v54 < v53) then inR v54 ((List.length v52) : Int) (inR v1 (↑4 : Int) (bif decide (List.length o0 + List.length (zg (List.replicate 1 (0 : Int)) 0 (List.getD (List.getD v52 (Int.toNat v54) (zb (Ty.arr 4 tU))) (Int.toNat v1) (0 : Int))) ≤ lim) then k1 (v1, v31, v32, v33, v52, v53, wI (v54 + 1), o0 ++ zg (List.replicate 1 (0 : Int)) 0 (List.getD (List.getD v52 (Int.toNat v54) (zb (Ty.arr 4 tU))) (Int.toNat v1) (0 : Int))) else none)) else k0 (v1, v31, v32, wI (v33 + 1), o0)
abbrev zgy (K : Nat) (k0 : zbl → Option (Int × (Int × Unit))) : zgw → Option (Int × (Int × Unit)) := iter (fun k1 => zgx k0 k1) K
theorem zNg (K : Nat) (n0 : Nat) : ∀ n, evV (zjZ zr yF j3 zE) K Tryz.f13 0 zdb [1, 1, 1, 1, 1, 0, 1, 0, 0, 1, 1, 0, 0, 1, 1, 1, 1, 1, 0] [n0] zCy n = iter (fun k1 => zgx (evV (zjZ zr yF j3 zE) K Tryz.f13 0 zdb [1, 1, 1, 1, 1, 0, 1, 0] [] zCz n0) k1) n := zx fun n1 (v1, v31, v32, v33, v52, v53, v54, o0) => by kernel_rfl
def zc6 (L1 : zgw → Option (Int × (Int × Unit))) (k0 : zbl → Option (Int × (Int × Unit))) : zbl → Option (Int × (Int × Unit)) := fun (v1, v31, v32, v33, o0) =>
  bif decide (v33 < v32) then inR v33 ((List.length v31) : Int) (Option.bind (j3 ((ix za v31 v33).2.2.2.2.1, v1, ())) fun q2 => bif q2.2.1 != 0 then some (0, q2.2.1, ()) else bif decide (List.length o0 + List.length (zg (List.replicate 1 (0 : Int)) 0 q2.1) ≤ lim) then L1 (v1, v31, v32, v33, (ix za v31 v33).2.2.2.2.2.1, ((List.length (ix za v31 v33).2.2.2.2.2.1) : Int), 0, o0 ++ zg (List.replicate 1 (0 : Int)) 0 q2.1) else none) else Option.bind (zE (o0, ())) fun q3 => some (q3.1, q3.2.1, ())
abbrev zCA (K : Nat) : zbl → Option (Int × (Int × Unit)) := iter (fun k0 => zc6 j3 zE (zgy K k0) k0) K
theorem zNh (K : Nat) : ∀ n, evV (zjZ zr yF j3 zE) K Tryz.f13 0 zdb [1, 1, 1, 1, 1, 0, 1, 0] [] zCz n = iter (fun k0 => zc6 j3 zE (zgy K k0) k0) n := zoe (B := fun L1 k0 => zc6 j3 zE L1 k0) (V1 := fun n0 => evV (zjZ zr yF j3 zE) K Tryz.f13 0 zdb [1, 1, 1, 1, 1, 0, 1, 0, 0, 1, 1, 0, 0, 1, 1, 1, 1, 1, 0] [n0] zCy K) (W1 := fun k0 => (zgy K k0)) (fun n0 => zNg zr yF j3 zE K n0 K) fun n0 (v1, v31, v32, v33, o0) => by kernel_rfl
def zqo (L0 : zbl → Option (Int × (Int × Unit))) : (zq × (Int × Unit)) → Option (Int × (Int × Unit)) := fun (x0, x1, ()) =>
  Option.bind (zr (x1, ())) fun q0 => bif q0.1 then Option.bind (yF (x0.2.2.2.1, x1, ())) fun q1 => bif q1.2.1 != 0 then some (0, q1.2.1, ()) else L0 (x1, x0.2.1, ((List.length x0.2.1) : Int), 0, [q1.1]) else some (0, 1, ())
theorem zQ9 (K : Nat) : evF (zjZ zr yF j3 zE) K Tryz.f13 0 zwc zdb = zqo zr yF (zCA j3 zE K) := tr1 (T := zqo zr yF) (zNh zr yF j3 zE K K) fun (x0, x1, ()) => by kernel_rfl
end
def qF : zoB := zqo z5 zh5 (zCA zdw jp K0)
theorem zyr : Sd Tryz.prog E0 (zcc qF) := mkS (l := [qS z5, zwj zh5, ztF zdw, zbs jp]) ⟨zds, zSq, zQ8, zvO, trivial⟩ Tryz.func13 (by kernel_rfl) (zQ9 z5 zh5 zdw jp K0)
section
variable (zE : zoE)
abbrev zCB : Env := (En E0 false [zbs zE])
abbrev zdx : Type := Int × (Option ((zj × Unit) → Option ((List Int) × Unit))) × (List zj) × Int × Int × List Int
abbrev zJt : zdx → St := fun (v1, v2, v12, v13, v14, o0) => St.mk [(1, AV.dat tI v1), (2, AV.dat (Ty.fn (Ty.pair zi Ty.unit) (Ty.pair (Ty.arr 4 tU) Ty.unit)) v2), (8, AV.ow 0), (12, AV.dat (Ty.sl zi) v12), (13, AV.dat tI v13), (14, AV.dat tI v14)] [Obj.row tU o0 false]
def zdy (k0 : zdx → Option (Int × (Int × Unit))) : zdx → Option (Int × (Int × Unit)) := fun (v1, v2, v12, v13, v14, o0) =>
  bif decide (v14 < v13) then inR v14 ((List.length v12) : Int) (Option.bind v2 fun q0 => Option.bind (q0 (ix za v12 v14, ())) fun q1 => inR v1 (↑4 : Int) (bif decide (List.length o0 + List.length (zg (List.replicate 1 (0 : Int)) 0 (ix (0 : Int) q1.1 v1)) ≤ lim) then k0 (v1, v2, v12, v13, wI (v14 + 1), o0 ++ zg (List.replicate 1 (0 : Int)) 0 (ix (0 : Int) q1.1 v1)) else none)) else Option.bind (zE (o0, ())) fun q2 => some (q2.1, q2.2.1, ())
abbrev zys (K : Nat) : zdx → Option (Int × (Int × Unit)) := iter (zdy zE) K
theorem zJu (K : Nat) : ∀ n, evV (zCB zE) K Tryz.f50 0 zke [1, 1, 0, 1, 0] [] zJt n = iter (zdy zE) n := zx fun n0 (v1, v2, v12, v13, v14, o0) => by kernel_rfl
def zss (L0 : zdx → Option (Int × (Int × Unit))) : (zq × (Int × ((Option ((zj × Unit) → Option ((List Int) × Unit))) × Unit))) → Option (Int × (Int × Unit)) := fun (x0, x1, x2, ()) =>
  L0 (x1, x2, x0.2.1, ((List.length x0.2.1) : Int), 0, [])
theorem zNi (K : Nat) : evF (zCB zE) K Tryz.f50 0 zrk zke = zss (zys zE K) := tr1 (T := zss) (zJu zE K K) fun (x0, x1, x2, ()) => by kernel_rfl
end
def zgz : zBS := zss (zys jp K0)
theorem zNj : Sd Tryz.prog E0 (zoF zgz) := mkS (l := [zbs jp]) ⟨zvO, trivial⟩ Tryz.func50 (by kernel_rfl) (zNi jp K0)
end
end Go.Proofs.YtaokpakfhdeiiaaGreatDoor
end
section
namespace Go.Proofs.YtaokpakfhdeiiaaGreatDoor
open Go.Ev
set_option linter.unusedVariables false
noncomputable section
section
def zCC : (zj × Unit) → Option ((List Int) × Unit) := fun (x0, ()) =>
  some (x0.2.2.2.2.2.2.2.1, ())
theorem zNk (K : Nat) : evF (En E0 false []) K Tryz.f51 0 zrl zrm = zCC := funext fun (x0, ()) => by kernel_rfl
end
def zgA : zBT := zCC
theorem zNl : Sd Tryz.prog E0 (zoG zgA) := mkS (l := []) trivial Tryz.func51 (by kernel_rfl) (zNk K0)
section
def zCD : (zj × Unit) → Option ((List Int) × Unit) := fun (x0, ()) =>
  some (x0.2.2.2.2.2.2.2.2.1, ())
theorem zNm (K : Nat) : evF (En E0 false []) K Tryz.f52 0 zrn zro = zCD := funext fun (x0, ()) => by kernel_rfl
end
def zgB : zBU := zCD
theorem zNn : Sd Tryz.prog E0 (zoH zgB) := mkS (l := []) trivial Tryz.func52 (by kernel_rfl) (zNm K0)
section
def zyt : (Int × (Int × Unit)) → Option (Int × (Int × Unit)) := fun (x0, x1, ()) =>
  bif decide (0 ≤ x0) then bif decide (0 ≤ x1) then bif decide (x1 < 18446744073709551616) then bif zCY false x0 x1 != 0 then some (0, 6, ()) else some (zAn false x0 x1, 0, ()) else none else none else none
theorem zRa (K : Nat) : evF (En E0 false []) K Tryz.f53 0 zwl zwm = zyt := funext fun (x0, x1, ()) => by kernel_rfl
end
def zgC : zFO := zyt
theorem zRb : Sd Tryz.prog E0 (ztG zgC) := mkS (l := []) trivial Tryz.func53 (by kernel_rfl) (zRa K0)
section
variable (zr : zbC) (zkv : zBS) (zst : zBT) (zsu : zBU) (zyu : zFO)
def zyv : (zq × (Int × Unit)) → Option (Int × (Int × Unit)) := fun (x0, x1, ()) =>
  Option.bind (zr (x1, ())) fun q0 => bif q0.1 then Option.bind (zkv (x0, x1, some zst, ())) fun q1 => bif q1.2.1 != 0 then some (0, q1.2.1, ()) else Option.bind (zkv (x0, x1, some zsu, ())) fun q2 => bif q2.2.1 != 0 then some (0, q2.2.1, ()) else Option.bind (zyu (q1.1, q2.1, ())) fun q3 => some (q3.1, q3.2.1, ()) else some (0, 1, ())
theorem zRc (K : Nat) : evF (En E0 false [qS zr, zoF zkv, zoG zst, zoH zsu, ztG zyu]) K Tryz.f15 0 zwd zwe = zyv zr zkv zst zsu zyu := funext fun (x0, x1, ()) => by kernel_rfl
end
def qG : zoC := zyv z5 zgz zgA zgB zgC
theorem zyw : Sd Tryz.prog E0 (zcd qG) := mkS (l := [qS z5, zoF zgz, zoG zgA, zoH zgB, ztG zgC]) ⟨zds, zNj, zNl, zNn, zRb, trivial⟩ Tryz.func15 (by kernel_rfl) (zRc z5 zgz zgA zgB zgC K0)
section
variable (zO : zoB) (zP : zoC)
abbrev zhT : Env := (En E0 false [zcc zO, zcd zP])
abbrev zeR : Type := Int × Int × (List zj) × Int × Int × qp
abbrev zzX : zeR → St := fun (v3, v10, v15, v16, v17, o0) => St.mk [(1, AV.bp 0 []), (3, AV.dat tI v3), (10, AV.dat tI v10), (15, AV.dat (Ty.sl zi) v15), (16, AV.dat tI v16), (17, AV.dat tI v17)] [Obj.bx (AV.dat qy o0) false]
abbrev zaG : Type := Int × qp
abbrev zzY : zaG → St := fun (v10, o0) => St.mk [(1, AV.bp 0 []), (10, AV.dat tI v10)] [Obj.bx (AV.dat qy o0) false]
def zeS (k0 : zaG → Option (Bool × Unit)) (k1 : zeR → Option (Bool × Unit)) : zeR → Option (Bool × Unit) := fun (v3, v10, v15, v16, v17, o0) =>
  bif decide (v17 < v16) then inR v17 ((List.length v15) : Int) (inR v3 (↑4 : Int) (inR v17 ((List.length o0.1.2.2.2.2.1) : Int) (bif decide (List.getD (ix za v15 v17).2.2.2.2.2.2.2.1 (Int.toNat v3) (0 : Int) > (ix jQ o0.1.2.2.2.2.1 v17).2.2.2.2.2.1) then some (false, ()) else k1 (v3, v10, v15, v16, wI (v17 + 1), o0)))) else Option.bind (zO (o0.2.1, v3, ())) fun q0 => Option.bind (zP (o0.2.1, v3, ())) fun q1 => bif q0.2.1 != 0 then some (false, ()) else bif q1.2.1 != 0 then some (false, ()) else bif q0.1 != q1.1 then some (false, ()) else k0 (wI (v10 + 1), o0)
abbrev zeT (K : Nat) (k0 : zaG → Option (Bool × Unit)) : zeR → Option (Bool × Unit) := iter (fun k1 => zeS zO zP k0 k1) K
theorem zLu (K : Nat) (n0 : Nat) : ∀ n, evV (zhT zO zP) K Tryz.f61 0 zcf [1, 0, 1, 0, 0, 1, 1, 0, 0, 1, 0, 1, 0] [n0] zzX n = iter (fun k1 => zeS zO zP (evV (zhT zO zP) K Tryz.f61 0 zcf [1, 0, 1, 0] [] zzY n0) k1) n := zx fun n1 (v3, v10, v15, v16, v17, o0) => by kernel_rfl
def zeU (L1 : zeR → Option (Bool × Unit)) (k0 : zaG → Option (Bool × Unit)) : zaG → Option (Bool × Unit) := fun (v10, o0) =>
  bif decide (v10 < 4) then L1 (v10, v10, o0.2.1.2.1, ((List.length o0.2.1.2.1) : Int), 0, o0) else some (true, ())
abbrev zzZ (K : Nat) : zaG → Option (Bool × Unit) := iter (fun k0 => zeU (zeT zO zP K k0) k0) K
theorem zLv (K : Nat) : ∀ n, evV (zhT zO zP) K Tryz.f61 0 zcf [1, 0, 1, 0] [] zzY n = iter (fun k0 => zeU (zeT zO zP K k0) k0) n := zoe (B := fun L1 k0 => zeU L1 k0) (V1 := fun n0 => evV (zhT zO zP) K Tryz.f61 0 zcf [1, 0, 1, 0, 0, 1, 1, 0, 0, 1, 0, 1, 0] [n0] zzX K) (W1 := fun k0 => (zeT zO zP K k0)) (fun n0 => zLu zO zP K n0 K) fun n0 (v10, o0) => by kernel_rfl
def zuW (L0 : zaG → Option (Bool × Unit)) : (qp × Unit) → Option (Bool × Unit) := fun (x0, ()) =>
  L0 (0, x0)
theorem zO7 (K : Nat) : evF (zhT zO zP) K Tryz.f61 0 ztM zcf = zuW (zzZ zO zP K) := tr1 (T := zuW) (zLv zO zP K K) fun (x0, ()) => by kernel_rfl
end
def zen : zEv := zuW (zzZ qF qG K0)
theorem zO8 : Sd Tryz.prog E0 (zrw zen) := mkS (l := [zcc qF, zcd qG]) ⟨zyr, zyw, trivial⟩ Tryz.func61 (by kernel_rfl) (zO7 qF qG K0)
section
variable (zaQ : zEr) (zaR : zEs) (zaf : zBV) (zaS : zEt) (zag : zBW) (zaT : zEu) (zaU : zEv)
abbrev zEU : Env := (En E0 false [zrp zaQ, zrq zaR, zoI zaf, zrt zaS, zoJ zag, zrv zaT, zrw zaU])
abbrev zeV : Type := Bool × Int × Int × List (Option (Unit → Option (Bool × Unit)))
abbrev zLw : zeV → St := fun (v6, v27, v28, o0) => St.mk [(6, AV.dat Ty.bool v6), (26, AV.ow 0), (27, AV.dat tI v27), (28, AV.dat tI v28)] [Obj.row (Ty.fn Ty.unit (Ty.pair Ty.bool Ty.unit)) o0 false]
def zi0 (k0 : zeV → Option (Bool × Unit)) : zeV → Option (Bool × Unit) := fun (v6, v27, v28, o0) =>
  bif decide (v28 < v27) then inR v28 ((List.length o0) : Int) (Option.bind (List.getD o0 (Int.toNat v28) (zb (Ty.fn Ty.unit (Ty.pair Ty.bool Ty.unit)))) fun q0 => Option.bind (q0 ()) fun q1 => bif q1.1 then k0 (true, v27, wI (v28 + 1), o0) else some (false, ())) else some (v6, ())
abbrev zz0 (K : Nat) : zeV → Option (Bool × Unit) := iter (zi0) K
theorem zLx (K : Nat) : ∀ n, evV (zEU zaQ zaR zaf zaS zag zaT zaU) K Tryz.f17 0 zml [1, 0, 1, 1, 1, 0, 1, 0] [] zLw n = iter (zi0) n := zx fun n0 (v6, v27, v28, o0) => by kernel_rfl
def zuX (L0 : zeV → Option (Bool × Unit)) : (ze × (zq × Unit)) → Option (Bool × Unit) := fun (x0, x1, ()) =>
  L0 (true, ((List.length (zg (zg (zg (zg (zg (zg (zg (List.replicate 7 (zb (Ty.fn Ty.unit (Ty.pair Ty.bool Ty.unit)))) 0 (some fun z => zaQ ((x0, x1, (zb qy).2.2), ()))) 1 (some fun z => zaR ((x0, x1, (zb qy).2.2), ()))) 2 (some fun z => zaf ((x0, x1, (zb qy).2.2), ()))) 3 (some fun z => zaS ((x0, x1, (zb qy).2.2), ()))) 4 (some fun z => zag ((x0, x1, (zb qy).2.2), ()))) 5 (some fun z => zaT ((x0, x1, (zb qy).2.2), ()))) 6 (some fun z => zaU ((x0, x1, (zb qy).2.2), ())))) : Int), 0, [some fun z => zaQ ((x0, x1, (zb qy).2.2), ()), some fun z => zaR ((x0, x1, (zb qy).2.2), ()), some fun z => zaf ((x0, x1, (zb qy).2.2), ()), some fun z => zaS ((x0, x1, (zb qy).2.2), ()), some fun z => zag ((x0, x1, (zb qy).2.2), ()), some fun z => zaT ((x0, x1, (zb qy).2.2), ()), some fun z => zaU ((x0, x1, (zb qy).2.2), ())])
theorem zO9 (K : Nat) : evF (zEU zaQ zaR zaf zaS zag zaT zaU) K Tryz.f17 0 ztw zml = zuX zaQ zaR zaf zaS zag zaT zaU (zz0 K) := tr1 (T := zuX zaQ zaR zaf zaS zag zaT zaU) (zLx zaQ zaR zaf zaS zag zaT zaU K K) fun (x0, x1, ()) => by kernel_rfl
end
def qt : zhI := zuX zcj zck zbi zek zbk zel zen (zz0 K0)
theorem zmt : Sd Tryz.prog E0 (vN qt) := mkS (l := [zrp zcj, zrq zck, zoI zbi, zrt zek, zoJ zbk, zrv zel, zrw zen]) ⟨zOG, zOO, zNb, zOY, zNd, zO0, zO8, trivial⟩ Tryz.func17 (by kernel_rfl) (zO9 zcj zck zbi zek zbk zel zen K0)
section
variable (qb : zhI) (vd : zmp)
def zsv : (ze × (zq × (qm × Unit))) → Option (Bool × Unit) := fun (x0, x1, x2, ()) =>
  Option.bind (qb (x0, x1, ())) fun q0 => bif q0.1 then Option.bind (vd (x1, x2, ())) fun q1 => bif q1.1 then some (true, ()) else some (false, ()) else some (false, ())
theorem zNo (K : Nat) : evF (En E0 false [vN qb, zba vd]) K Tryz.f18 0 zre zrf = zsv qb vd := funext fun (x0, x1, x2, ()) => by kernel_rfl
end
def jB : zrg := zsv qt jV
theorem zCE : Sd Tryz.prog E0 (zey jB) := mkS (l := [vN qt, zba jV]) ⟨zmt, zuP, trivial⟩ Tryz.func18 (by kernel_rfl) (zNo qt jV K0)
section
def zyx : ((List zC) × Unit) → Option ((List zC) × Unit) := fun (x0, ()) =>
  bif List.isEmpty x0 then both (some ([], ())) (bif decide (List.length (List.replicate 0 (zb zy)) + List.length x0 ≤ lim) then some (List.replicate 0 (zb zy) ++ x0, ()) else none) else bif decide (List.length (List.replicate 0 (zb zy)) + List.length x0 ≤ lim) then some (List.replicate 0 (zb zy) ++ x0, ()) else none
theorem zJv (K : Nat) : evF (En E0 false []) K Tryz.f67 1 zmF zmG = zyx := funext fun (x0, ()) => by kernel_rfl
end
def zbm : zwn := zyx
theorem zJw : Sd Tryz.prog E0 (zkW zbm) := mkS (l := []) trivial Tryz.func67 (by kernel_rfl) (zJv K0)
section
def zCF : ((List Int) × Unit) → Option ((List Int) × Unit) := fun (x0, ()) =>
  bif List.isEmpty x0 then both (some ([], ())) (bif decide (List.length (List.replicate 0 (0 : Int)) + List.length x0 ≤ lim) then some (List.replicate 0 (0 : Int) ++ x0, ()) else none) else bif decide (List.length (List.replicate 0 (0 : Int)) + List.length x0 ≤ lim) then some (List.replicate 0 (0 : Int) ++ x0, ()) else none
theorem zNp (K : Nat) : evF (En E0 false []) K Tryz.f68 1 zrA zrB = zCF := funext fun (x0, ()) => by kernel_rfl
end
def zah : zBY := zCF
theorem zNq : Sd Tryz.prog E0 (zoL zah) := mkS (l := []) trivial Tryz.func68 (by kernel_rfl) (zNp K0)
section
def zz1 : ((List (List Int)) × Unit) → Option ((List (List Int)) × Unit) := fun (x0, ()) =>
  bif List.isEmpty x0 then both (some ([], ())) (bif decide (List.length (List.replicate 0 ([] : List Int)) + List.length x0 ≤ lim) then some (List.replicate 0 ([] : List Int) ++ x0, ()) else none) else bif decide (List.length (List.replicate 0 ([] : List Int)) + List.length x0 ≤ lim) then some (List.replicate 0 ([] : List Int) ++ x0, ()) else none
theorem zLy (K : Nat) : evF (En E0 false []) K Tryz.f69 1 zoM zoN = zz1 := funext fun (x0, ()) => by kernel_rfl
end
def zb3 : zzp := zz1
theorem zLz : Sd Tryz.prog E0 (zmH zb3) := mkS (l := []) trivial Tryz.func69 (by kernel_rfl) (zLy K0)
section
def zyy : ((List zj) × Unit) → Option ((List zj) × Unit) := fun (x0, ()) =>
  bif List.isEmpty x0 then both (some ([], ())) (bif decide (List.length (List.replicate 0 (zb zi)) + List.length x0 ≤ lim) then some (List.replicate 0 (zb zi) ++ x0, ()) else none) else bif decide (List.length (List.replicate 0 (zb zi)) + List.length x0 ≤ lim) then some (List.replicate 0 (zb zi) ++ x0, ()) else none
theorem zJx (K : Nat) : evF (En E0 false []) K Tryz.f70 1 zmI zmJ = zyy := funext fun (x0, ()) => by kernel_rfl
end
def zbn : zwo := zyy
theorem zJy : Sd Tryz.prog E0 (zkX zbn) := mkS (l := []) trivial Tryz.func70 (by kernel_rfl) (zJx K0)
section
def zz2 : ((List jm) × Unit) → Option ((List jm) × Unit) := fun (x0, ()) =>
  bif List.isEmpty x0 then both (some ([], ())) (bif decide (List.length (List.replicate 0 (zb qU)) + List.length x0 ≤ lim) then some (List.replicate 0 (zb qU) ++ x0, ()) else none) else bif decide (List.length (List.replicate 0 (zb qU)) + List.length x0 ≤ lim) then some (List.replicate 0 (zb qU) ++ x0, ()) else none
theorem zLA (K : Nat) : evF (En E0 false []) K Tryz.f71 1 zoO zoP = zz2 := funext fun (x0, ()) => by kernel_rfl
end
def zb4 : zzq := zz2
theorem zLB : Sd Tryz.prog E0 (zmK zb4) := mkS (l := []) trivial Tryz.func71 (by kernel_rfl) (zLA K0)
section
def zz3 : ((List z3) × Unit) → Option ((List z3) × Unit) := fun (x0, ()) =>
  bif List.isEmpty x0 then both (some ([], ())) (bif decide (List.length (List.replicate 0 (zb qj)) + List.length x0 ≤ lim) then some (List.replicate 0 (zb qj) ++ x0, ()) else none) else bif decide (List.length (List.replicate 0 (zb qj)) + List.length x0 ≤ lim) then some (List.replicate 0 (zb qj) ++ x0, ()) else none
theorem zLC (K : Nat) : evF (En E0 false []) K Tryz.f72 1 zoQ zoR = zz3 := funext fun (x0, ()) => by kernel_rfl
end
def zb5 : zzr := zz3
theorem zLD : Sd Tryz.prog E0 (zmL zb5) := mkS (l := []) trivial Tryz.func72 (by kernel_rfl) (zLC K0)
section
def zz4 : ((List z8) × Unit) → Option ((List z8) × Unit) := fun (x0, ()) =>
  bif List.isEmpty x0 then both (some ([], ())) (bif decide (List.length (List.replicate 0 (zb qi)) + List.length x0 ≤ lim) then some (List.replicate 0 (zb qi) ++ x0, ()) else none) else bif decide (List.length (List.replicate 0 (zb qi)) + List.length x0 ≤ lim) then some (List.replicate 0 (zb qi) ++ x0, ()) else none
theorem zLE (K : Nat) : evF (En E0 false []) K Tryz.f73 1 zoS zoT = zz4 := funext fun (x0, ()) => by kernel_rfl
end
def zb6 : zzs := zz4
theorem zLF : Sd Tryz.prog E0 (zmM zb6) := mkS (l := []) trivial Tryz.func73 (by kernel_rfl) (zLE K0)
section
def zz5 : ((List qk) × Unit) → Option ((List qk) × Unit) := fun (x0, ()) =>
  bif List.isEmpty x0 then both (some ([], ())) (bif decide (List.length (List.replicate 0 (zb qu)) + List.length x0 ≤ lim) then some (List.replicate 0 (zb qu) ++ x0, ()) else none) else bif decide (List.length (List.replicate 0 (zb qu)) + List.length x0 ≤ lim) then some (List.replicate 0 (zb qu) ++ x0, ()) else none
theorem zLG (K : Nat) : evF (En E0 false []) K Tryz.f74 1 zoU zoV = zz5 := funext fun (x0, ()) => by kernel_rfl
end
def zb7 : zzt := zz5
theorem zLH : Sd Tryz.prog E0 (zmN zb7) := mkS (l := []) trivial Tryz.func74 (by kernel_rfl) (zLG K0)
section
def zEV : ((List (List Int)) × Unit) → Option ((List (List Int)) × Unit) := fun (x0, ()) =>
  bif List.isEmpty x0 then both (some ([], ())) (bif decide (List.length (List.replicate 0 (zb (Ty.arr 4 tU))) + List.length x0 ≤ lim) then some (List.replicate 0 (zb (Ty.arr 4 tU)) ++ x0, ()) else none) else bif decide (List.length (List.replicate 0 (zb (Ty.arr 4 tU))) + List.length x0 ≤ lim) then some (List.replicate 0 (zb (Ty.arr 4 tU)) ++ x0, ()) else none
theorem zPa (K : Nat) : evF (En E0 false []) K Tryz.f76 1 ztR ztS = zEV := funext fun (x0, ()) => by kernel_rfl
end
def zeo : zEx := zEV
theorem zPb : Sd Tryz.prog E0 (zrC zeo) := mkS (l := []) trivial Tryz.func76 (by kernel_rfl) (zPa K0)
section
def zCG : ((List qm) × Unit) → Option ((List qm) × Unit) := fun (x0, ()) =>
  bif List.isEmpty x0 then both (some ([], ())) (bif decide (List.length (List.replicate 0 (zb zW)) + List.length x0 ≤ lim) then some (List.replicate 0 (zb zW) ++ x0, ()) else none) else bif decide (List.length (List.replicate 0 (zb zW)) + List.length x0 ≤ lim) then some (List.replicate 0 (zb zW) ++ x0, ()) else none
theorem zNr (K : Nat) : evF (En E0 false []) K Tryz.f77 1 zrD zrE = zCG := funext fun (x0, ()) => by kernel_rfl
end
def zc7 : zBZ := zCG
theorem zNs : Sd Tryz.prog E0 (zoW zc7) := mkS (l := []) trivial Tryz.func77 (by kernel_rfl) (zNr K0)
section
variable (qC : zmE) (jP : zwn) (qP : zBY) (j5 : zzp) (qT : zwo) (qI : zzq) (qJ : zzr) (qK : zzs) (qL : zzt) (z0 : zmQ) (jc : zEx) (qR : zBZ)
abbrev zmu : Env := (En E0 true [zcp qC, zkW jP, zoL qP, zmH j5, zkX qT, zmK qI, zmL qJ, zmM qK, zmN qL, zcq z0, zrC jc, zoW qR])
abbrev zeW : Type := Int × Int × Int × Int × List zj × Nat × List (List Int) × Nat × List zl × List zC × List Int × List zj × Nat × List (List Int) × Nat × List zl × List zC × List Int
abbrev zz6 : zeW → St := fun (v44, v45, o0_0, o1_0, o2, c2, o3, c3, o4, o5, o6, o7, c7, o8, c8, o9, o10, o11) => St.mk [(1, AV.bp 0 []), (2, AV.bp 1 []), (43, AV.ow 2), (44, AV.dat tI v44), (45, AV.dat tI v45)] [Obj.bx (AV.fld (Ty.pair tU (Ty.pair (Ty.sl zi) (Ty.pair (Ty.sl (Ty.sl tI)) (Ty.pair (Ty.sl zp) (Ty.pair (Ty.sl zy) (Ty.pair (Ty.sl tI) Ty.unit)))))) [AV.dat tU o0_0, AV.ow 2, AV.ow 3, AV.ow 4, AV.ow 5, AV.ow 6]) false, Obj.bx (AV.fld (Ty.pair tU (Ty.pair (Ty.sl zi) (Ty.pair (Ty.sl (Ty.sl tI)) (Ty.pair (Ty.sl zp) (Ty.pair (Ty.sl zy) (Ty.pair (Ty.sl tI) Ty.unit)))))) [AV.dat tU o1_0, AV.ow 7, AV.ow 8, AV.ow 9, AV.ow 10, AV.ow 11]) false, Obj.drow zi o2 c2, Obj.drow (Ty.sl tI) o3 c3, Obj.row zp o4 false, Obj.row zy o5 false, Obj.row tI o6 false, Obj.drow zi o7 c7, Obj.drow (Ty.sl tI) o8 c8, Obj.row zp o9 false, Obj.row zy o10 false, Obj.row tI o11 false]
abbrev zeX : Type := Int × Int × Int × (List zj) × Int × List (List Int) × Nat × List zl × List zC × List Int × List zj × Nat × List (List Int) × Nat × List zl × List zC × List Int
abbrev zLI : zeX → St := fun (v25, v26, o0_0, o0_1, o1_0, o2, c2, o3, o4, o5, o6, c6, o7, c7, o8, o9, o10) => St.mk [(1, AV.bp 0 []), (2, AV.bp 1 []), (24, AV.ow 2), (25, AV.dat tI v25), (26, AV.dat tI v26)] [Obj.bx (AV.fld (Ty.pair tU (Ty.pair (Ty.sl zi) (Ty.pair (Ty.sl (Ty.sl tI)) (Ty.pair (Ty.sl zp) (Ty.pair (Ty.sl zy) (Ty.pair (Ty.sl tI) Ty.unit)))))) [AV.dat tU o0_0, AV.dat (Ty.sl zi) o0_1, AV.ow 2, AV.ow 3, AV.ow 4, AV.ow 5]) false, Obj.bx (AV.fld (Ty.pair tU (Ty.pair (Ty.sl zi) (Ty.pair (Ty.sl (Ty.sl tI)) (Ty.pair (Ty.sl zp) (Ty.pair (Ty.sl zy) (Ty.pair (Ty.sl tI) Ty.unit)))))) [AV.dat tU o1_0, AV.ow 6, AV.ow 7, AV.ow 8, AV.ow 9, AV.ow 10]) false, Obj.drow (Ty.sl tI) o2 c2, Obj.row zp o3 false, Obj.row zy o4 false, Obj.row tI o5 false, Obj.drow zi o6 c6, Obj.drow (Ty.sl tI) o7 c7, Obj.row zp o8 false, Obj.row zy o9 false, Obj.row tI o10 false]
def zz7 (k1 : zeW → Option (zq × Unit)) : zeW → Option (zq × Unit) := fun (v44, v45, o0_0, o1_0, o2, c2, o3, c3, o4, o5, o6, o7, c7, o8, c8, o9, o10, o11) =>
  bif decide (v45 < v44) then inR v45 ((List.length o2) : Int) (bif decide (c2 ≤ Int.toNat v45) then Option.bind (qI ((ix za o2 v45).1, ())) fun q6 => Option.bind (qJ ((ix za o2 v45).2.1, ())) fun q7 => Option.bind (qK ((ix za o2 v45).2.2.1, ())) fun q8 => Option.bind (qL ((ix za o2 v45).2.2.2.1, ())) fun q9 => Option.bind (z0 ((ix za o2 v45).2.2.2.2.1, ())) fun q10 => Option.bind (jc ((ix za o2 v45).2.2.2.2.2.1, ())) fun q11 => Option.bind (qR ((ix za o2 v45).2.2.2.2.2.2.1, ())) fun q12 => inR v45 ((List.length o2) : Int) (bif decide (Int.toNat v45 = c2) then k1 (v44, wI (v45 + 1), o0_0, o1_0, List.set o2 (Int.toNat v45) (q6.1, q7.1, q8.1, q9.1, q10.1, q11.1, q12.1, (ix za o2 v45).2.2.2.2.2.2.2.1, (ix za o2 v45).2.2.2.2.2.2.2.2.1, ()), c2 + 1, o3, c3, o4, o5, o6, o7, c7, o8, c8, o9, o10, o11) else none) else none) else bif decide (c2 = List.length o2) then bif decide (c3 = List.length o3) then some ((o0_0, o2, o3, o4, o5, o6, ()), ()) else none else none
abbrev zqp (K : Nat) : zeW → Option (zq × Unit) := iter (zz7 qI qJ qK qL z0 jc qR) K
theorem zLJ (K : Nat) : ∀ n, evV (zmu qC jP qP j5 qT qI qJ qK qL z0 jc qR) K Tryz.f23 3 zeb [1, 1, 1, 1, 1, 0, 1, 0] [] zz6 n = iter (zz7 qI qJ qK qL z0 jc qR) n := zx fun n1 (v44, v45, o0_0, o1_0, o2, c2, o3, c3, o4, o5, o6, o7, c7, o8, c8, o9, o10, o11) => by kernel_rfl
def zqq (L1 : zeW → Option (zq × Unit)) (k0 : zeX → Option (zq × Unit)) : zeX → Option (zq × Unit) := fun (v25, v26, o0_0, o0_1, o1_0, o2, c2, o3, o4, o5, o6, c6, o7, c7, o8, o9, o10) =>
  bif decide (v26 < v25) then inR v26 ((List.length o2) : Int) (bif decide (c2 ≤ Int.toNat v26) then Option.bind (qP (List.getD o2 (Int.toNat v26) ([] : List Int), ())) fun q4 => inR v26 ((List.length o2) : Int) (bif decide (Int.toNat v26 = c2) then k0 (v25, wI (v26 + 1), o0_0, o0_1, o1_0, List.set o2 (Int.toNat v26) q4.1, c2 + 1, o3, o4, o5, o6, c6, o7, c7, o8, o9, o10) else none) else none) else Option.bind (qT (o0_1, ())) fun q5 => L1 (((List.length q5.1) : Int), 0, o0_0, o1_0, q5.1, 0, o2, c2, o3, o4, o5, o6, c6, o7, c7, o8, o9, o10)
abbrev zi1 (K : Nat) : zeX → Option (zq × Unit) := iter (fun k0 => zqq qP qT (zqp qI qJ qK qL z0 jc qR K) k0) K
theorem zLK (K : Nat) : ∀ n, evV (zmu qC jP qP j5 qT qI qJ qK qL z0 jc qR) K Tryz.f23 3 zeb [1, 1, 1, 0, 1, 0] [] zLI n = iter (fun k0 => zqq qP qT (zqp qI qJ qK qL z0 jc qR K) k0) n := zoe (B := fun L1 k0 => zqq qP qT L1 k0) (V1 := fun n0 => evV (zmu qC jP qP j5 qT qI qJ qK qL z0 jc qR) K Tryz.f23 3 zeb [1, 1, 1, 1, 1, 0, 1, 0] [] zz6 K) (W1 := fun k0 => (zqp qI qJ qK qL z0 jc qR K)) (fun n0 => zLJ qC jP qP j5 qT qI qJ qK qL z0 jc qR K K) fun n0 (v25, v26, o0_0, o0_1, o1_0, o2, c2, o3, o4, o5, o6, c6, o7, c7, o8, o9, o10) => by kernel_rfl
def zhU (L0 : zeX → Option (zq × Unit)) : (zq × Unit) → Option (zq × Unit) := fun (x0, ()) =>
  Option.bind (qC (x0.2.2.2.1, ())) fun q0 => Option.bind (jP (x0.2.2.2.2.1, ())) fun q1 => Option.bind (qP (x0.2.2.2.2.2.1, ())) fun q2 => Option.bind (j5 (x0.2.2.1, ())) fun q3 => L0 (((List.length q3.1) : Int), 0, x0.1, x0.2.1, 0, q3.1, 0, q0.1, q1.1, q2.1, [], 0, [], 0, [], [], [])
theorem zPc (K : Nat) : evF (zmu qC jP qP j5 qT qI qJ qK qL z0 jc qR) K Tryz.f23 3 ztz zeb = zhU qC jP qP j5 (zi1 qP qT qI qJ qK qL z0 jc qR K) := tr1 (T := zhU qC jP qP j5) (zLK qC jP qP j5 qT qI qJ qK qL z0 jc qR K K) fun (x0, ()) => by kernel_rfl
end
def zcn : ztA := zhU jO zbm zah zb3 (zi1 zah zbn zb4 zb5 zb6 zb7 jN zeo zc7 K0)
theorem zPd : Sd Tryz.prog E0 (zri zcn) := mkS (l := [zcp jO, zkW zbm, zoL zah, zmH zb3, zkX zbn, zmK zb4, zmL zb5, zmM zb6, zmN zb7, zcq jN, zrC zeo, zoW zc7]) ⟨zym, zJw, zNq, zLz, zJy, zLB, zLD, zLF, zLH, zyh, zPb, zNs, trivial⟩ Tryz.func23 (by kernel_rfl) (zPc jO zbm zah zb3 zbn zb4 zb5 zb6 zb7 jN zeo zc7 K0)
section
abbrev zqr : Env := (En E0 false [])
abbrev yG : Type := (List zj) × (Option ((zj × (zj × Unit)) → Option (Bool × Unit))) × (List zj) × Int × Int
abbrev zBB : yG → St := fun (v1, v2, v15, v16, v17) => St.mk [(1, AV.dat (Ty.sl zi) v1), (2, AV.dat (Ty.fn (Ty.pair zi (Ty.pair zi Ty.unit)) (Ty.pair Ty.bool Ty.unit)) v2), (15, AV.dat (Ty.sl zi) v15), (16, AV.dat tI v16), (17, AV.dat tI v17)] []
def zmg (k0 : yG → Option (Bool × Unit)) : yG → Option (Bool × Unit) := fun (v1, v2, v15, v16, v17) =>
  bif decide (v17 < v16) then inR v17 ((List.length v15) : Int) (inR v17 ((List.length v1) : Int) (Option.bind v2 fun q0 => Option.bind (q0 (ix za v15 v17, ix za v1 v17, ())) fun q1 => bif q1.1 then k0 (v1, v2, v15, v16, wI (v17 + 1)) else some (false, ()))) else some (true, ())
abbrev zmh (K : Nat) : yG → Option (Bool × Unit) := iter (zmg) K
theorem zBC (K : Nat) : ∀ n, evV (zqr) K Tryz.f78 0 zcJ [1, 1, 0, 1, 0] [] zBB n = iter (zmg) n := zx fun n0 (v1, v2, v15, v16, v17) => by kernel_rfl
def zhw (L0 : yG → Option (Bool × Unit)) : ((List zj) × ((List zj) × ((Option ((zj × (zj × Unit)) → Option (Bool × Unit))) × Unit))) → Option (Bool × Unit) := fun (x0, x1, x2, ()) =>
  bif ((List.length x0) : Int) != ((List.length x1) : Int) then some (false, ()) else L0 (x1, x2, x0, ((List.length x0) : Int), 0)
theorem zD0 (K : Nat) : evF (zqr) K Tryz.f78 0 zgP zcJ = zhw (zmh K) := tr1 (T := zhw) (zBC K K) fun (x0, x1, x2, ()) => by kernel_rfl
end
def zcT : zoX := zhw (zmh K0)
theorem zD1 : Sd Tryz.prog E0 (zfS zcT) := mkS (l := []) trivial Tryz.func78 (by kernel_rfl) (zD0 K0)
section
abbrev zz8 : Env := (En E0 false [])
abbrev zcA : Type := (List jm) × (List jm) × Int × Int
abbrev zHP : zcA → St := fun (v0, v1, v12, v13) => St.mk [(0, AV.dat (Ty.sl qU) v0), (1, AV.dat (Ty.sl qU) v1), (12, AV.dat tI v12), (13, AV.dat tI v13)] []
def zvu (k0 : zcA → Option (Bool × Unit)) : zcA → Option (Bool × Unit) := fun (v0, v1, v12, v13) =>
  bif decide (v13 < v12) then inR v13 ((List.length v0) : Int) (inR v13 ((List.length v1) : Int) (bif !eqI qU (ix zvG v0 v13) (ix zvG v1 v13) then some (false, ()) else k0 (v0, v1, v12, wI (v13 + 1)))) else some (true, ())
abbrev zvv (K : Nat) : zcA → Option (Bool × Unit) := iter (zvu) K
theorem zHQ (K : Nat) : ∀ n, evV (zz8) K Tryz.f162 0 ziQ [1, 1, 0, 1, 0] [] zHP n = iter (zvu) n := zx fun n0 (v0, v1, v12, v13) => by kernel_rfl
def zqs (L0 : zcA → Option (Bool × Unit)) : ((List jm) × ((List jm) × Unit)) → Option (Bool × Unit) := fun (x0, x1, ()) =>
  bif ((List.length x0) : Int) != ((List.length x1) : Int) then some (false, ()) else L0 (x0, x1, ((List.length x0) : Int), 0)
theorem zLL (K : Nat) : evF (zz8) K Tryz.f162 0 zpp ziQ = zqs (zvv K) := tr1 (T := zqs) (zHQ K K) fun (x0, x1, ()) => by kernel_rfl
end
def zi2 : zzB := zqs (zvv K0)
theorem zLM : Sd Tryz.prog E0 (znq zi2) := mkS (l := []) trivial Tryz.func162 (by kernel_rfl) (zLL K0)
section
abbrev zz9 : Env := (En E0 false [])
abbrev zcC : Type := (List z3) × (List z3) × Int × Int
abbrev zHR : zcC → St := fun (v0, v1, v12, v13) => St.mk [(0, AV.dat (Ty.sl qj) v0), (1, AV.dat (Ty.sl qj) v1), (12, AV.dat tI v12), (13, AV.dat tI v13)] []
def zvw (k0 : zcC → Option (Bool × Unit)) : zcC → Option (Bool × Unit) := fun (v0, v1, v12, v13) =>
  bif decide (v13 < v12) then inR v13 ((List.length v0) : Int) (inR v13 ((List.length v1) : Int) (bif !eqI qj (ix zak v0 v13) (ix zak v1 v13) then some (false, ()) else k0 (v0, v1, v12, wI (v13 + 1)))) else some (true, ())
abbrev zvx (K : Nat) : zcC → Option (Bool × Unit) := iter (zvw) K
theorem zHS (K : Nat) : ∀ n, evV (zz9) K Tryz.f163 0 ziR [1, 1, 0, 1, 0] [] zHR n = iter (zvw) n := zx fun n0 (v0, v1, v12, v13) => by kernel_rfl
def zqt (L0 : zcC → Option (Bool × Unit)) : ((List z3) × ((List z3) × Unit)) → Option (Bool × Unit) := fun (x0, x1, ()) =>
  bif ((List.length x0) : Int) != ((List.length x1) : Int) then some (false, ()) else L0 (x0, x1, ((List.length x0) : Int), 0)
theorem zLN (K : Nat) : evF (zz9) K Tryz.f163 0 zpq ziR = zqt (zvx K) := tr1 (T := zqt) (zHS K K) fun (x0, x1, ()) => by kernel_rfl
end
def zi3 : zzC := zqt (zvx K0)
theorem zLO : Sd Tryz.prog E0 (znr zi3) := mkS (l := []) trivial Tryz.func163 (by kernel_rfl) (zLN K0)
section
abbrev zAa : Env := (En E0 false [])
abbrev zcD : Type := (List z8) × (List z8) × Int × Int
abbrev zHT : zcD → St := fun (v0, v1, v12, v13) => St.mk [(0, AV.dat (Ty.sl qi) v0), (1, AV.dat (Ty.sl qi) v1), (12, AV.dat tI v12), (13, AV.dat tI v13)] []
def zvy (k0 : zcD → Option (Bool × Unit)) : zcD → Option (Bool × Unit) := fun (v0, v1, v12, v13) =>
  bif decide (v13 < v12) then inR v13 ((List.length v0) : Int) (inR v13 ((List.length v1) : Int) (bif !eqI qi (ix zgM v0 v13) (ix zgM v1 v13) then some (false, ()) else k0 (v0, v1, v12, wI (v13 + 1)))) else some (true, ())
abbrev zvz (K : Nat) : zcD → Option (Bool × Unit) := iter (zvy) K
theorem zHU (K : Nat) : ∀ n, evV (zAa) K Tryz.f164 0 ziS [1, 1, 0, 1, 0] [] zHT n = iter (zvy) n := zx fun n0 (v0, v1, v12, v13) => by kernel_rfl
def zqu (L0 : zcD → Option (Bool × Unit)) : ((List z8) × ((List z8) × Unit)) → Option (Bool × Unit) := fun (x0, x1, ()) =>
  bif ((List.length x0) : Int) != ((List.length x1) : Int) then some (false, ()) else L0 (x0, x1, ((List.length x0) : Int), 0)
theorem zLP (K : Nat) : evF (zAa) K Tryz.f164 0 zpr ziS = zqu (zvz K) := tr1 (T := zqu) (zHU K K) fun (x0, x1, ()) => by kernel_rfl
end
def zi4 : zzD := zqu (zvz K0)
theorem zLQ : Sd Tryz.prog E0 (zns zi4) := mkS (l := []) trivial Tryz.func164 (by kernel_rfl) (zLP K0)
section
abbrev zAb : Env := (En E0 false [])
abbrev zcE : Type := (List qk) × (List qk) × Int × Int
abbrev zHV : zcE → St := fun (v0, v1, v12, v13) => St.mk [(0, AV.dat (Ty.sl qu) v0), (1, AV.dat (Ty.sl qu) v1), (12, AV.dat tI v12), (13, AV.dat tI v13)] []
def zvA (k0 : zcE → Option (Bool × Unit)) : zcE → Option (Bool × Unit) := fun (v0, v1, v12, v13) =>
  bif decide (v13 < v12) then inR v13 ((List.length v0) : Int) (inR v13 ((List.length v1) : Int) (bif !eqI qu (ix zPD v0 v13) (ix zPD v1 v13) then some (false, ()) else k0 (v0, v1, v12, wI (v13 + 1)))) else some (true, ())
abbrev zvB (K : Nat) : zcE → Option (Bool × Unit) := iter (zvA) K
theorem zHW (K : Nat) : ∀ n, evV (zAb) K Tryz.f165 0 ziT [1, 1, 0, 1, 0] [] zHV n = iter (zvA) n := zx fun n0 (v0, v1, v12, v13) => by kernel_rfl
def zqv (L0 : zcE → Option (Bool × Unit)) : ((List qk) × ((List qk) × Unit)) → Option (Bool × Unit) := fun (x0, x1, ()) =>
  bif ((List.length x0) : Int) != ((List.length x1) : Int) then some (false, ()) else L0 (x0, x1, ((List.length x0) : Int), 0)
theorem zLR (K : Nat) : evF (zAb) K Tryz.f165 0 zps ziT = zqv (zvB K) := tr1 (T := zqv) (zHW K K) fun (x0, x1, ()) => by kernel_rfl
end
def zi5 : zzE := zqv (zvB K0)
theorem zLS : Sd Tryz.prog E0 (znt zi5) := mkS (l := []) trivial Tryz.func165 (by kernel_rfl) (zLR K0)
section
abbrev zyz : Env := (En E0 false [])
abbrev zbM : Type := (List zm) × (List zm) × Int × Int
abbrev zGP : zbM → St := fun (v0, v1, v12, v13) => St.mk [(0, AV.dat (Ty.sl zA) v0), (1, AV.dat (Ty.sl zA) v1), (12, AV.dat tI v12), (13, AV.dat tI v13)] []
def zth (k0 : zbM → Option (Bool × Unit)) : zbM → Option (Bool × Unit) := fun (v0, v1, v12, v13) =>
  bif decide (v13 < v12) then inR v13 ((List.length v0) : Int) (inR v13 ((List.length v1) : Int) (bif !eqI zA (ix jX v0 v13) (ix jX v1 v13) then some (false, ()) else k0 (v0, v1, v12, wI (v13 + 1)))) else some (true, ())
abbrev zti (K : Nat) : zbM → Option (Bool × Unit) := iter (zth) K
theorem zGQ (K : Nat) : ∀ n, evV (zyz) K Tryz.f166 0 zgT [1, 1, 0, 1, 0] [] zGP n = iter (zth) n := zx fun n0 (v0, v1, v12, v13) => by kernel_rfl
def zn6 (L0 : zbM → Option (Bool × Unit)) : ((List zm) × ((List zm) × Unit)) → Option (Bool × Unit) := fun (x0, x1, ()) =>
  bif ((List.length x0) : Int) != ((List.length x1) : Int) then some (false, ()) else L0 (x0, x1, ((List.length x0) : Int), 0)
theorem zJz (K : Nat) : evF (zyz) K Tryz.f166 0 znu zgT = zn6 (zti K) := tr1 (T := zn6) (zGQ K K) fun (x0, x1, ()) => by kernel_rfl
end
def zhx : zwQ := zn6 (zti K0)
theorem zJA : Sd Tryz.prog E0 (zlm zhx) := mkS (l := []) trivial Tryz.func166 (by kernel_rfl) (zJz K0)
section
abbrev zEW : Env := (En E0 false [])
abbrev zeY : Type := (List (List Int)) × (List (List Int)) × Int × Int
abbrev zLT : zeY → St := fun (v0, v1, v12, v13) => St.mk [(0, AV.dat (Ty.sl (Ty.arr 4 tU)) v0), (1, AV.dat (Ty.sl (Ty.arr 4 tU)) v1), (12, AV.dat tI v12), (13, AV.dat tI v13)] []
def zAc (k0 : zeY → Option (Bool × Unit)) : zeY → Option (Bool × Unit) := fun (v0, v1, v12, v13) =>
  bif decide (v13 < v12) then inR v13 ((List.length v0) : Int) (inR v13 ((List.length v1) : Int) (bif !eqI (Ty.arr 4 tU) (List.getD v0 (Int.toNat v13) (zb (Ty.arr 4 tU))) (List.getD v1 (Int.toNat v13) (zb (Ty.arr 4 tU))) then some (false, ()) else k0 (v0, v1, v12, wI (v13 + 1)))) else some (true, ())
abbrev zAd (K : Nat) : zeY → Option (Bool × Unit) := iter (zAc) K
theorem zLU (K : Nat) : ∀ n, evV (zEW) K Tryz.f167 0 zmr [1, 1, 0, 1, 0] [] zLT n = iter (zAc) n := zx fun n0 (v0, v1, v12, v13) => by kernel_rfl
def zuY (L0 : zeY → Option (Bool × Unit)) : ((List (List Int)) × ((List (List Int)) × Unit)) → Option (Bool × Unit) := fun (x0, x1, ()) =>
  bif ((List.length x0) : Int) != ((List.length x1) : Int) then some (false, ()) else L0 (x0, x1, ((List.length x0) : Int), 0)
theorem zPe (K : Nat) : evF (zEW) K Tryz.f167 0 zud zmr = zuY (zAd K) := tr1 (T := zuY) (zLU K K) fun (x0, x1, ()) => by kernel_rfl
end
def zmv : zEE := zuY (zAd K0)
theorem zPf : Sd Tryz.prog E0 (zrQ zmv) := mkS (l := []) trivial Tryz.func167 (by kernel_rfl) (zPe K0)
section
abbrev zCH : Env := (En E0 false [])
abbrev zdz : Type := (List qm) × (List qm) × Int × Int
abbrev zJB : zdz → St := fun (v0, v1, v12, v13) => St.mk [(0, AV.dat (Ty.sl yT) v0), (1, AV.dat (Ty.sl yT) v1), (12, AV.dat tI v12), (13, AV.dat tI v13)] []
def zyA (k0 : zdz → Option (Bool × Unit)) : zdz → Option (Bool × Unit) := fun (v0, v1, v12, v13) =>
  bif decide (v13 < v12) then inR v13 ((List.length v0) : Int) (inR v13 ((List.length v1) : Int) (bif !eqI yT (ix vz v0 v13) (ix vz v1 v13) then some (false, ()) else k0 (v0, v1, v12, wI (v13 + 1)))) else some (true, ())
abbrev zyB (K : Nat) : zdz → Option (Bool × Unit) := iter (zyA) K
theorem zJC (K : Nat) : ∀ n, evV (zCH) K Tryz.f168 0 zkk [1, 1, 0, 1, 0] [] zJB n = iter (zyA) n := zx fun n0 (v0, v1, v12, v13) => by kernel_rfl
def zsw (L0 : zdz → Option (Bool × Unit)) : ((List qm) × ((List qm) × Unit)) → Option (Bool × Unit) := fun (x0, x1, ()) =>
  bif ((List.length x0) : Int) != ((List.length x1) : Int) then some (false, ()) else L0 (x0, x1, ((List.length x0) : Int), 0)
theorem zNt (K : Nat) : evF (zCH) K Tryz.f168 0 zrR zkk = zsw (zyB K) := tr1 (T := zsw) (zJC K K) fun (x0, x1, ()) => by kernel_rfl
end
def zkw : zB5 := zsw (zyB K0)
theorem zNu : Sd Tryz.prog E0 (zpt zkw) := mkS (l := []) trivial Tryz.func168 (by kernel_rfl) (zNt K0)
section
variable (zqw : zzB) (zqx : zzC) (zqy : zzD) (zqz : zzE) (zn7 : zwQ) (zuZ : zEE) (zsx : zB5)
def zvC : (zj × (zj × Unit)) → Option (Bool × Unit) := fun (x0, x1, ()) =>
  Option.bind (zqw (x0.1, x1.1, ())) fun q0 => bif q0.1 then Option.bind (zqx (x0.2.1, x1.2.1, ())) fun q1 => bif q1.1 then Option.bind (zqy (x0.2.2.1, x1.2.2.1, ())) fun q2 => bif q2.1 then Option.bind (zqz (x0.2.2.2.1, x1.2.2.2.1, ())) fun q3 => bif q3.1 then Option.bind (zn7 (x0.2.2.2.2.1, x1.2.2.2.2.1, ())) fun q4 => bif q4.1 then Option.bind (zuZ (x0.2.2.2.2.2.1, x1.2.2.2.2.2.1, ())) fun q5 => bif q5.1 then Option.bind (zsx (x0.2.2.2.2.2.2.1, x1.2.2.2.2.2.2.1, ())) fun q6 => bif q6.1 then bif eqI (Ty.arr 4 tU) x0.2.2.2.2.2.2.2.1 x1.2.2.2.2.2.2.2.1 then bif eqI (Ty.arr 4 tU) x0.2.2.2.2.2.2.2.2.1 x1.2.2.2.2.2.2.2.2.1 then some (true, ()) else some (false, ()) else some (false, ()) else some (false, ()) else some (false, ()) else some (false, ()) else some (false, ()) else some (false, ()) else some (false, ()) else some (false, ())
theorem zHX (K : Nat) : evF (En E0 false [znq zqw, znr zqx, zns zqy, znt zqz, zlm zn7, zrQ zuZ, zpt zsx]) K Tryz.f79 0 zkY zkZ = zvC zqw zqx zqy zqz zn7 zuZ zsx := funext fun (x0, x1, ()) => by kernel_rfl
end
def zfI : zu8 := zvC zi2 zi3 zi4 zi5 zhx zmv zkw
theorem zHY : Sd Tryz.prog E0 (zjd zfI) := mkS (l := [znq zi2, znr zi3, zns zi4, znt zi5, zlm zhx, zrQ zmv, zpt zkw]) ⟨zLM, zLO, zLQ, zLS, zJA, zPf, zNu, trivial⟩ Tryz.func79 (by kernel_rfl) (zHX zi2 zi3 zi4 zi5 zhx zmv zkw K0)
section
abbrev zq7 : Env := (En E0 false [])
abbrev zai : Type := (List (List Int)) × (Option (((List Int) × ((List Int) × Unit)) → Option (Bool × Unit))) × (List (List Int)) × Int × Int
abbrev zCI : zai → St := fun (v1, v2, v15, v16, v17) => St.mk [(1, AV.dat (Ty.sl (Ty.sl tI)) v1), (2, AV.dat (Ty.fn (Ty.pair (Ty.sl tI) (Ty.pair (Ty.sl tI) Ty.unit)) (Ty.pair Ty.bool Ty.unit)) v2), (15, AV.dat (Ty.sl (Ty.sl tI)) v15), (16, AV.dat tI v16), (17, AV.dat tI v17)] []
def zop (k0 : zai → Option (Bool × Unit)) : zai → Option (Bool × Unit) := fun (v1, v2, v15, v16, v17) =>
  bif decide (v17 < v16) then inR v17 ((List.length v15) : Int) (inR v17 ((List.length v1) : Int) (Option.bind v2 fun q0 => Option.bind (q0 (List.getD v15 (Int.toNat v17) ([] : List Int), List.getD v1 (Int.toNat v17) ([] : List Int), ())) fun q1 => bif q1.1 then k0 (v1, v2, v15, v16, wI (v17 + 1)) else some (false, ()))) else some (true, ())
abbrev zoq (K : Nat) : zai → Option (Bool × Unit) := iter (zop) K
theorem zCJ (K : Nat) : ∀ n, evV (zq7) K Tryz.f80 0 zdE [1, 1, 0, 1, 0] [] zCI n = iter (zop) n := zx fun n0 (v1, v2, v15, v16, v17) => by kernel_rfl
def ziM (L0 : zai → Option (Bool × Unit)) : ((List (List Int)) × ((List (List Int)) × ((Option (((List Int) × ((List Int) × Unit)) → Option (Bool × Unit))) × Unit))) → Option (Bool × Unit) := fun (x0, x1, x2, ()) =>
  bif ((List.length x0) : Int) != ((List.length x1) : Int) then some (false, ()) else L0 (x1, x2, x0, ((List.length x0) : Int), 0)
theorem zFs (K : Nat) : evF (zq7) K Tryz.f80 0 zh8 zdE = ziM (zoq K) := tr1 (T := ziM) (zCJ K K) fun (x0, x1, x2, ()) => by kernel_rfl
end
def zdK : zqK := ziM (zoq K0)
theorem zFt : Sd Tryz.prog E0 (zgQ zdK) := mkS (l := []) trivial Tryz.func80 (by kernel_rfl) (zFs K0)
section
abbrev zCK : Env := (En E0 false [])
abbrev zdA : Type := (List Int) × (List Int) × Int × Int
abbrev zJD : zdA → St := fun (v0, v1, v12, v13) => St.mk [(0, AV.dat (Ty.sl tI) v0), (1, AV.dat (Ty.sl tI) v1), (12, AV.dat tI v12), (13, AV.dat tI v13)] []
def zyC (k0 : zdA → Option (Bool × Unit)) : zdA → Option (Bool × Unit) := fun (v0, v1, v12, v13) =>
  bif decide (v13 < v12) then inR v13 ((List.length v0) : Int) (inR v13 ((List.length v1) : Int) (bif ix (0 : Int) v0 v13 != ix (0 : Int) v1 v13 then some (false, ()) else k0 (v0, v1, v12, wI (v13 + 1)))) else some (true, ())
abbrev zyD (K : Nat) : zdA → Option (Bool × Unit) := iter (zyC) K
theorem zJE (K : Nat) : ∀ n, evV (zCK) K Tryz.f81 0 zkf [1, 1, 0, 1, 0] [] zJD n = iter (zyC) n := zx fun n0 (v0, v1, v12, v13) => by kernel_rfl
def zsy (L0 : zdA → Option (Bool × Unit)) : ((List Int) × ((List Int) × Unit)) → Option (Bool × Unit) := fun (x0, x1, ()) =>
  bif ((List.length x0) : Int) != ((List.length x1) : Int) then some (false, ()) else L0 (x0, x1, ((List.length x0) : Int), 0)
theorem zNv (K : Nat) : evF (zCK) K Tryz.f81 0 zrF zkf = zsy (zyD K) := tr1 (T := zsy) (zJE K K) fun (x0, x1, ()) => by kernel_rfl
end
def zkx : zB0 := zsy (zyD K0)
theorem zNw : Sd Tryz.prog E0 (zoY zkx) := mkS (l := []) trivial Tryz.func81 (by kernel_rfl) (zNv K0)
section
abbrev zyE : Env := (En E0 false [])
abbrev zbN : Type := (List zl) × (List zl) × Int × Int
abbrev zGR : zbN → St := fun (v0, v1, v12, v13) => St.mk [(0, AV.dat (Ty.sl zp) v0), (1, AV.dat (Ty.sl zp) v1), (12, AV.dat tI v12), (13, AV.dat tI v13)] []
def ztj (k0 : zbN → Option (Bool × Unit)) : zbN → Option (Bool × Unit) := fun (v0, v1, v12, v13) =>
  bif decide (v13 < v12) then inR v13 ((List.length v0) : Int) (inR v13 ((List.length v1) : Int) (bif !eqI zp (ix qD v0 v13) (ix qD v1 v13) then some (false, ()) else k0 (v0, v1, v12, wI (v13 + 1)))) else some (true, ())
abbrev ztk (K : Nat) : zbN → Option (Bool × Unit) := iter (ztj) K
theorem zGS (K : Nat) : ∀ n, evV (zyE) K Tryz.f82 0 zgR [1, 1, 0, 1, 0] [] zGR n = iter (ztj) n := zx fun n0 (v0, v1, v12, v13) => by kernel_rfl
def zn8 (L0 : zbN → Option (Bool × Unit)) : ((List zl) × ((List zl) × Unit)) → Option (Bool × Unit) := fun (x0, x1, ()) =>
  bif ((List.length x0) : Int) != ((List.length x1) : Int) then some (false, ()) else L0 (x0, x1, ((List.length x0) : Int), 0)
theorem zJF (K : Nat) : evF (zyE) K Tryz.f82 0 zmR zgR = zn8 (ztk K) := tr1 (T := zn8) (zGS K K) fun (x0, x1, ()) => by kernel_rfl
end
def zhy : zwp := zn8 (ztk K0)
theorem zJG : Sd Tryz.prog E0 (zk0 zhy) := mkS (l := []) trivial Tryz.func82 (by kernel_rfl) (zJF K0)
section
abbrev zyF : Env := (En E0 false [])
abbrev zbO : Type := (List zC) × (List zC) × Int × Int
abbrev zGT : zbO → St := fun (v0, v1, v12, v13) => St.mk [(0, AV.dat (Ty.sl zy) v0), (1, AV.dat (Ty.sl zy) v1), (12, AV.dat tI v12), (13, AV.dat tI v13)] []
def ztl (k0 : zbO → Option (Bool × Unit)) : zbO → Option (Bool × Unit) := fun (v0, v1, v12, v13) =>
  bif decide (v13 < v12) then inR v13 ((List.length v0) : Int) (inR v13 ((List.length v1) : Int) (bif !eqI zy (ix zoA v0 v13) (ix zoA v1 v13) then some (false, ()) else k0 (v0, v1, v12, wI (v13 + 1)))) else some (true, ())
abbrev ztm (K : Nat) : zbO → Option (Bool × Unit) := iter (ztl) K
theorem zGU (K : Nat) : ∀ n, evV (zyF) K Tryz.f83 0 zgS [1, 1, 0, 1, 0] [] zGT n = iter (ztl) n := zx fun n0 (v0, v1, v12, v13) => by kernel_rfl
def zn9 (L0 : zbO → Option (Bool × Unit)) : ((List zC) × ((List zC) × Unit)) → Option (Bool × Unit) := fun (x0, x1, ()) =>
  bif ((List.length x0) : Int) != ((List.length x1) : Int) then some (false, ()) else L0 (x0, x1, ((List.length x0) : Int), 0)
theorem zJH (K : Nat) : evF (zyF) K Tryz.f83 0 zmS zgS = zn9 (ztm K) := tr1 (T := zn9) (zGU K K) fun (x0, x1, ()) => by kernel_rfl
end
def zhz : zwq := zn9 (ztm K0)
theorem zJI : Sd Tryz.prog E0 (zk1 zhz) := mkS (l := []) trivial Tryz.func83 (by kernel_rfl) (zJH K0)
section
variable (zhA : zoX) (zlR : zu8) (ziN : zqK) (zky : zB0) (zoa : zwp) (zob : zwq)
def zGV : (zq × (zq × Unit)) → Option (Bool × Unit) := fun (x0, x1, ()) =>
  bif x0.1 == x1.1 then Option.bind (zhA (x0.2.1, x1.2.1, some zlR, ())) fun q0 => bif q0.1 then Option.bind (ziN (x0.2.2.1, x1.2.2.1, some zky, ())) fun q1 => bif q1.1 then Option.bind (zoa (x0.2.2.2.1, x1.2.2.2.1, ())) fun q2 => bif q2.1 then Option.bind (zob (x0.2.2.2.2.1, x1.2.2.2.2.1, ())) fun q3 => bif q3.1 then Option.bind (zky (x0.2.2.2.2.2.1, x1.2.2.2.2.2.1, ())) fun q4 => bif q4.1 then some (true, ()) else some (false, ()) else some (false, ()) else some (false, ()) else some (false, ()) else some (false, ()) else some (false, ())
theorem zRd (K : Nat) : evF (En E0 false [zfS zhA, zjd zlR, zgQ ziN, zoY zky, zk0 zoa, zk1 zob]) K Tryz.f24 0 zwf zwg = zGV zhA zlR ziN zky zoa zob := funext fun (x0, x1, ()) => by kernel_rfl
end
def zgD : zFM := zGV zcT zfI zdK zkx zhy zhz
theorem zRe : Sd Tryz.prog E0 (ztB zgD) := mkS (l := [zfS zcT, zjd zfI, zgQ zdK, zoY zkx, zk0 zhy, zk1 zhz]) ⟨zD1, zHY, zFt, zNw, zJG, zJI, trivial⟩ Tryz.func24 (by kernel_rfl) (zRd zcT zfI zdK zkx zhy zhz K0)
section
def zOg : (Int × (Int × Unit)) → Option (Bool × Unit) := fun (x0, x1, ()) =>
  bif decide (x0 ≥ 0) then bif decide (x0 < x1) then some (true, ()) else some (false, ()) else some (false, ())
theorem zVf (K : Nat) : evF (En E0 false []) K Tryz.f158 0 zFV zFW = zOg := funext fun (x0, x1, ()) => by kernel_rfl
end
def zAe : zOc := zOg
theorem zVg : Sd Tryz.prog E0 (zDk zAe) := mkS (l := []) trivial Tryz.func158 (by kernel_rfl) (zVf K0)
end
end Go.Proofs.YtaokpakfhdeiiaaGreatDoor
end
section
namespace Go.Proofs.YtaokpakfhdeiiaaGreatDoor
open Go.Ev
set_option linter.unusedVariables false
noncomputable section
section
def zyG : (Int × ((Option (List (List Int))) × ((Option Int) × Unit))) → Option (Bool × Unit) := fun (x0, x1, x2, ()) =>
  Option.bind x1 fun q0 => inR x0 ((List.length q0) : Int) (Option.bind x2 fun q1 => inR q1 ((List.length (List.getD q0 (Int.toNat x0) ([] : List Int))) : Int) (bif List.getD (List.getD q0 (Int.toNat x0) ([] : List Int)) (Int.toNat q1) (0 : Int) == 0 then some (true, ()) else some (false, ())))
theorem zJJ (K : Nat) : evF (En E0 false []) K Tryz.f159 0 zno znp = zyG := funext fun (x0, x1, x2, ()) => by kernel_rfl
end
def zhB : zwP := zyG
theorem zJK : Sd Tryz.prog E0 (zll zhB) := mkS (l := []) trivial Tryz.func159 (by kernel_rfl) (zJJ K0)
section
variable (zo : zce) (zk : vi)
def zAf : (ze × (Int × Unit)) → Option (Bool × Unit) := fun (x0, x1, ()) =>
  Option.bind (zo (x0, ())) fun q0 => bif q0.1 then Option.bind (zk (x1, 0, wI (((List.length x0.1) : Int) - 1), ())) fun q1 => bif q1.1 then some (true, ()) else some (false, ()) else some (false, ())
theorem zLV (K : Nat) : evF (En E0 false [ja zo, z4 zk]) K Tryz.f91 0 zo2 zo3 = zAf zo zk := funext fun (x0, x1, ()) => by kernel_rfl
end
def zi6 : zzu := zAf qe zB
theorem zLW : Sd Tryz.prog E0 (zmV zi6) := mkS (l := [ja qe, z4 zB]) ⟨zee, vO, trivial⟩ Tryz.func91 (by kernel_rfl) (zLV qe zB K0)
section
abbrev zCL : Env := (En E0 false [])
abbrev zdB : Type := (List Int) × Int × Int × Int
abbrev zJL : zdB → St := fun (v0, v1, v7, v8) => St.mk [(0, AV.dat (Ty.sl tI) v0), (1, AV.dat tI v1), (7, AV.dat tI v7), (8, AV.dat tI v8)] []
def zyH (k0 : zdB → Option (Int × Unit)) : zdB → Option (Int × Unit) := fun (v0, v1, v7, v8) =>
  bif decide (v8 < v7) then inR v8 ((List.length v0) : Int) (bif v1 == ix (0 : Int) v0 v8 then some (v8, ()) else k0 (v0, v1, v7, wI (v8 + 1))) else some ((-1), ())
abbrev zyI (K : Nat) : zdB → Option (Int × Unit) := iter (zyH) K
theorem zJM (K : Nat) : ∀ n, evV (zCL) K Tryz.f275 0 zkl [1, 0, 1, 0] [] zJL n = iter (zyH) n := zx fun n0 (v0, v1, v7, v8) => by kernel_rfl
def zsz (L0 : zdB → Option (Int × Unit)) : ((List Int) × (Int × Unit)) → Option (Int × Unit) := fun (x0, x1, ()) =>
  L0 (x0, x1, ((List.length x0) : Int), 0)
theorem zNx (K : Nat) : evF (zCL) K Tryz.f275 0 zr8 zkl = zsz (zyI K) := tr1 (T := zsz) (zJM K K) fun (x0, x1, ()) => by kernel_rfl
end
def zkz : zCb := zsz (zyI K0)
theorem zNy : Sd Tryz.prog E0 (zpR zkz) := mkS (l := []) trivial Tryz.func275 (by kernel_rfl) (zNx K0)
section
variable (zsA : zCb)
def zvD : ((List Int) × (Int × Unit)) → Option (Bool × Unit) := fun (x0, x1, ()) =>
  Option.bind (zsA (x0, x1, ())) fun q0 => bif decide (q0.1 ≥ 0) then some (true, ()) else some (false, ())
theorem zHZ (K : Nat) : evF (En E0 false [zpR zsA]) K Tryz.f231 0 zlw zlx = zvD zsA := funext fun (x0, x1, ()) => by kernel_rfl
end
def zfJ : zvh := zvD zkz
theorem zH0 : Sd Tryz.prog E0 (zjw zfJ) := mkS (l := [zpR zkz]) ⟨zNy, trivial⟩ Tryz.func231 (by kernel_rfl) (zHZ zkz K0)
section
variable (zaH : zzu) (zbP : zF4) (vl : zvh)
abbrev zCM : Env := (En E0 false [zmV zaH, zur zbP, zjw vl])
abbrev zdC : Type := Int × (List qm) × Int × Int × ze × List Int
abbrev zJN : zdC → St := fun (v1, v14, v15, v16, o0, o1) => St.mk [(1, AV.dat tI v1), (2, AV.bp 0 []), (5, AV.ow 1), (14, AV.dat (Ty.sl yT) v14), (15, AV.dat tI v15), (16, AV.dat tI v16)] [Obj.bx (AV.dat zL o0) false, Obj.row tI o1 false]
def zyJ (k0 : zdC → Option ((List Int) × Unit)) : zdC → Option ((List Int) × Unit) := fun (v1, v14, v15, v16, o0, o1) =>
  bif decide (v16 < v15) then inR v16 ((List.length v14) : Int) (inR v1 ((List.length o0.1) : Int) (Option.bind (zbP (ix za1 o0.1 v1, ())) fun q1 => Option.bind (vl (q1.1, (ix vz v14 v16).1, ())) fun q2 => bif q2.1 then bif decide (List.length o1 + List.length (zg (List.replicate 1 (0 : Int)) 0 v16) ≤ lim) then k0 (v1, v14, v15, wI (v16 + 1), o0, o1 ++ zg (List.replicate 1 (0 : Int)) 0 v16) else none else k0 (v1, v14, v15, wI (v16 + 1), o0, o1))) else some (o1, ())
abbrev zyK (K : Nat) : zdC → Option ((List Int) × Unit) := iter (zyJ zbP vl) K
theorem zJO (K : Nat) : ∀ n, evV (zCM zaH zbP vl) K Tryz.f161 0 zkj [1, 1, 1, 0, 1, 0] [] zJN n = iter (zyJ zbP vl) n := zx fun n0 (v1, v14, v15, v16, o0, o1) => by kernel_rfl
def zsB (L0 : zdC → Option ((List Int) × Unit)) : (ze × (Int × Unit)) → Option ((List Int) × Unit) := fun (x0, x1, ()) =>
  Option.bind (zaH (x0, x1, ())) fun q0 => bif q0.1 then L0 (x1, x0.2.2.2.1, ((List.length x0.2.2.2.1) : Int), 0, x0, []) else some ([], ())
theorem zNz (K : Nat) : evF (zCM zaH zbP vl) K Tryz.f161 0 zrP zkj = zsB zaH (zyK zbP vl K) := tr1 (T := zsB zaH) (zJO zaH zbP vl K K) fun (x0, x1, ()) => by kernel_rfl
end
def zkA : zB4 := zsB zi6 (zyK zpV zfJ K0)
theorem zNA : Sd Tryz.prog E0 (zpo zkA) := mkS (l := [zmV zi6, zur zpV, zjw zfJ]) ⟨zLW, zQl, zH0, trivial⟩ Tryz.func161 (by kernel_rfl) (zNz zi6 zpV zfJ K0)
section
variable (zdt : zwF) (zAg : zOc) (zoc : zwP) (zsC : zB4) (zn : vw)
def zCN : (ze × ((List (List Int)) × (Int × (Int × Unit)))) → Option (Bool × Unit) := fun (x0, x1, x2, x3, ()) =>
  Option.bind (zdt (x0, x1, ())) fun q0 => bif q0.1 then Option.bind (zAg (x2, ((List.length x0.2.2.1) : Int), ())) fun q1 => bif q1.1 then Option.bind (zAg (x3, ((List.length x0.1) : Int), ())) fun q2 => bif q2.1 then inR x2 ((List.length x0.2.2.1) : Int) (inR x3 ((List.length x0.1) : Int) (bif decide ((ix zwb x0.2.2.1 x2).2.2.1 ≥ (ix za1 x0.1 x3).1) then Option.bind (zsC (x0, x3, ())) fun q3 => Option.bind (zn (q3.1, some fun z => zoc (z.1, some x1, some x2, ()), ())) fun q4 => bif q4.1 then some (false, ()) else some (true, ()) else some (false, ()))) else some (false, ()) else some (false, ()) else some (false, ())
theorem zNB (K : Nat) : evF (En E0 false [zhJ zdt, zDk zAg, zll zoc, zpo zsC, qn zn]) K Tryz.f63 0 zrx zry = zCN zdt zAg zoc zsC zn := funext fun (x0, x1, x2, x3, ()) => by kernel_rfl
end
def zkB : zBX := zCN zaB zAe zhB zkA zz
theorem zNC : Sd Tryz.prog E0 (zoK zkB) := mkS (l := [zhJ zaB, zDk zAe, zll zhB, zpo zkA, qn zz]) ⟨zGB, zVg, zJK, zNA, yX, trivial⟩ Tryz.func63 (by kernel_rfl) (zNB zaB zAe zhB zkA zz K0)
section
variable (qb : zhI) (zsD : zBX)
def zLX : (ze × (zq × (Int × Unit))) → Option (pMe × (Int × Unit)) := fun (x0, x1, x2, ()) =>
  Option.bind (qb (x0, x1, ())) fun q0 => bif q0.1 then bif decide (x2 < 0) then some ((0, 0, 0, ()), 1, ()) else bif decide (x2 ≥ ((List.length x0.2.1) : Int)) then some ((0, 0, 0, ()), 1, ()) else inR x2 ((List.length x0.2.1) : Int) (inR x2 ((List.length x1.2.2.2.2.2.1) : Int) (bif ix (0 : Int) x1.2.2.2.2.2.1 x2 == -1 then some ((0, 0, 0, ()), 10, ()) else Option.bind (zsD (x0, x1.2.2.1, ix (0 : Int) x1.2.2.2.2.2.1 x2, ix (0 : Int) x0.2.1 x2, ())) fun q1 => bif q1.1 then some ((x2, ix (0 : Int) x0.2.1 x2, ix (0 : Int) x1.2.2.2.2.2.1 x2, ()), 0, ()) else some ((0, 0, 0, ()), 5, ()))) else some ((0, 0, 0, ()), 1, ())
theorem zTZ (K : Nat) : evF (En E0 false [vN qb, zoK zsD]) K Tryz.f20 0 zDg zDh = zLX qb zsD := funext fun (x0, x1, x2, ()) => by kernel_rfl
end
def zkC : zKG := zLX qt zkB
theorem zT0 : Sd Tryz.prog E0 (zAy zkC) := mkS (l := [vN qt, zoK zkB]) ⟨zmt, zNC, trivial⟩ Tryz.func20 (by kernel_rfl) (zTZ qt zkB K0)
section
variable (zu0 : zEw) (vK : zAx) (qb : zhI) (jb : zrg) (zu1 : ztA) (zqA : zFM) (zO : zoB) (zP : zoC) (zvP : zKG)
def zmw : Unit → Option (Bool × Unit) := fun () =>
  Option.bind (zu0 ()) fun q0 => Option.bind (vK ((q0.1.1, q0.1.2.1, q0.1.2.2.1, q0.1.2.2.2.1, q0.1.2.2.2.2.1, q0.1.2.2.2.2.2.1, q0.1.2.2.2.2.2.2.1, q0.1.2.2.2.2.2.2.2.1, q0.1.2.2.2.2.2.2.2.2.1, ()), ())) fun q1 => Option.bind (vK (([], [], [], [], [], zb tI, zb tI, zb tI, zb tI, ()), ())) fun q2 => bif q1.2.1 != 0 then some (false, ()) else bif q2.2.1 != 1 then some (false, ()) else Option.bind (qb ((q0.1.1, q0.1.2.1, q0.1.2.2.1, q0.1.2.2.2.1, q0.1.2.2.2.2.1, q0.1.2.2.2.2.2.1, q0.1.2.2.2.2.2.2.1, q0.1.2.2.2.2.2.2.2.1, q0.1.2.2.2.2.2.2.2.2.1, ()), (q1.1.1, q1.1.2.1, q1.1.2.2.1, q1.1.2.2.2.1, q1.1.2.2.2.2.1, q1.1.2.2.2.2.2.1, ()), ())) fun q3 => bif q3.1 then Option.bind (jb ((q0.1.1, q0.1.2.1, q0.1.2.2.1, q0.1.2.2.2.1, q0.1.2.2.2.2.1, q0.1.2.2.2.2.2.1, q0.1.2.2.2.2.2.2.1, q0.1.2.2.2.2.2.2.2.1, q0.1.2.2.2.2.2.2.2.2.1, ()), (q1.1.1, q1.1.2.1, q1.1.2.2.1, q1.1.2.2.2.1, q1.1.2.2.2.2.1, q1.1.2.2.2.2.2.1, ()), zb zW, ())) fun q4 => bif q4.1 then Option.bind (jb ((q0.1.1, q0.1.2.1, q0.1.2.2.1, q0.1.2.2.2.1, q0.1.2.2.2.2.1, q0.1.2.2.2.2.2.1, q0.1.2.2.2.2.2.2.1, q0.1.2.2.2.2.2.2.2.1, q0.1.2.2.2.2.2.2.2.2.1, ()), (q1.1.1, q1.1.2.1, q1.1.2.2.1, q1.1.2.2.2.1, q1.1.2.2.2.2.1, q1.1.2.2.2.2.2.1, ()), ((zb zW).1, 1, (zb zW).2.2), ())) fun q5 => bif q5.1 then some (false, ()) else Option.bind (zu1 ((q1.1.1, q1.1.2.1, q1.1.2.2.1, q1.1.2.2.2.1, q1.1.2.2.2.2.1, q1.1.2.2.2.2.2.1, ()), ())) fun q6 => Option.bind (zqA ((q1.1.1, q1.1.2.1, q1.1.2.2.1, q1.1.2.2.2.1, q1.1.2.2.2.2.1, q1.1.2.2.2.2.2.1, ()), (q6.1.1, q6.1.2.1, q6.1.2.2.1, q6.1.2.2.2.1, q6.1.2.2.2.2.1, q6.1.2.2.2.2.2.1, ()), ())) fun q7 => bif q7.1 then bif ((List.length q6.1.2.1) : Int) != 3 then some (false, ()) else bif ((List.length q6.1.2.2.2.2.2.1) : Int) != 3 then some (false, ()) else bif decide (1 < ((List.length q6.1.2.1) : Int)) then bif decide (List.length q6.1.2.1 ≤ Int.toNat 1) then bif decide (0 < ((List.length (ix za q6.1.2.1 1).2.2.2.2.2.1) : Int)) then none else none else bif decide (0 < ((List.length (ix za q6.1.2.1 1).2.2.2.2.2.1) : Int)) then bif decide (1 < ((List.length q6.1.2.2.2.2.2.1) : Int)) then Option.bind (zO ((q6.1.1, List.set q6.1.2.1 (Int.toNat 1) ((ix za q6.1.2.1 1).1, (ix za q6.1.2.1 1).2.1, (ix za q6.1.2.1 1).2.2.1, (ix za q6.1.2.1 1).2.2.2.1, (ix za q6.1.2.1 1).2.2.2.2.1, List.set (ix za q6.1.2.1 1).2.2.2.2.2.1 (Int.toNat 0) (List.set (List.getD (ix za q6.1.2.1 1).2.2.2.2.2.1 (Int.toNat 0) (zb (Ty.arr 4 tU))) (Int.toNat 2) 5), (ix za q6.1.2.1 1).2.2.2.2.2.2), q6.1.2.2.1, q6.1.2.2.2.1, q6.1.2.2.2.2.1, List.set q6.1.2.2.2.2.2.1 (Int.toNat 1) 0, ()), 2, ())) fun q8 => Option.bind (zP ((q6.1.1, List.set q6.1.2.1 (Int.toNat 1) ((ix za q6.1.2.1 1).1, (ix za q6.1.2.1 1).2.1, (ix za q6.1.2.1 1).2.2.1, (ix za q6.1.2.1 1).2.2.2.1, (ix za q6.1.2.1 1).2.2.2.2.1, List.set (ix za q6.1.2.1 1).2.2.2.2.2.1 (Int.toNat 0) (List.set (List.getD (ix za q6.1.2.1 1).2.2.2.2.2.1 (Int.toNat 0) (zb (Ty.arr 4 tU))) (Int.toNat 2) 5), (ix za q6.1.2.1 1).2.2.2.2.2.2), q6.1.2.2.1, q6.1.2.2.2.1, q6.1.2.2.2.2.1, List.set q6.1.2.2.2.2.2.1 (Int.toNat 1) 0, ()), 2, ())) fun q9 => Option.bind (zvP ((q0.1.1, q0.1.2.1, q0.1.2.2.1, q0.1.2.2.2.1, q0.1.2.2.2.2.1, q0.1.2.2.2.2.2.1, q0.1.2.2.2.2.2.2.1, q0.1.2.2.2.2.2.2.2.1, q0.1.2.2.2.2.2.2.2.2.1, ()), (q1.1.1, q1.1.2.1, q1.1.2.2.1, q1.1.2.2.2.1, q1.1.2.2.2.2.1, q1.1.2.2.2.2.2.1, ()), 1, ())) fun q10 => bif decide (1 < ((List.length (List.set q6.1.2.1 (Int.toNat 1) ((ix za q6.1.2.1 1).1, (ix za q6.1.2.1 1).2.1, (ix za q6.1.2.1 1).2.2.1, (ix za q6.1.2.1 1).2.2.2.1, (ix za q6.1.2.1 1).2.2.2.2.1, List.set (ix za q6.1.2.1 1).2.2.2.2.2.1 (Int.toNat 0) (List.set (List.getD (ix za q6.1.2.1 1).2.2.2.2.2.1 (Int.toNat 0) (zb (Ty.arr 4 tU))) (Int.toNat 2) 5), (ix za q6.1.2.1 1).2.2.2.2.2.2))) : Int)) then Option.bind (zvP ((q0.1.1, q0.1.2.1, q0.1.2.2.1, q0.1.2.2.2.1, q0.1.2.2.2.2.1, q0.1.2.2.2.2.2.1, q0.1.2.2.2.2.2.2.1, q0.1.2.2.2.2.2.2.2.1, q0.1.2.2.2.2.2.2.2.2.1, ()), (q6.1.1, List.set (List.set q6.1.2.1 (Int.toNat 1) ((ix za q6.1.2.1 1).1, (ix za q6.1.2.1 1).2.1, (ix za q6.1.2.1 1).2.2.1, (ix za q6.1.2.1 1).2.2.2.1, (ix za q6.1.2.1 1).2.2.2.2.1, List.set (ix za q6.1.2.1 1).2.2.2.2.2.1 (Int.toNat 0) (List.set (List.getD (ix za q6.1.2.1 1).2.2.2.2.2.1 (Int.toNat 0) (zb (Ty.arr 4 tU))) (Int.toNat 2) 5), (ix za q6.1.2.1 1).2.2.2.2.2.2)) (Int.toNat 1) ((List.getD (List.set q6.1.2.1 (Int.toNat 1) ((ix za q6.1.2.1 1).1, (ix za q6.1.2.1 1).2.1, (ix za q6.1.2.1 1).2.2.1, (ix za q6.1.2.1 1).2.2.2.1, (ix za q6.1.2.1 1).2.2.2.2.1, List.set (ix za q6.1.2.1 1).2.2.2.2.2.1 (Int.toNat 0) (List.set (List.getD (ix za q6.1.2.1 1).2.2.2.2.2.1 (Int.toNat 0) (zb (Ty.arr 4 tU))) (Int.toNat 2) 5), (ix za q6.1.2.1 1).2.2.2.2.2.2)) (Int.toNat 1) (zb zi)).1, (List.getD (List.set q6.1.2.1 (Int.toNat 1) ((ix za q6.1.2.1 1).1, (ix za q6.1.2.1 1).2.1, (ix za q6.1.2.1 1).2.2.1, (ix za q6.1.2.1 1).2.2.2.1, (ix za q6.1.2.1 1).2.2.2.2.1, List.set (ix za q6.1.2.1 1).2.2.2.2.2.1 (Int.toNat 0) (List.set (List.getD (ix za q6.1.2.1 1).2.2.2.2.2.1 (Int.toNat 0) (zb (Ty.arr 4 tU))) (Int.toNat 2) 5), (ix za q6.1.2.1 1).2.2.2.2.2.2)) (Int.toNat 1) (zb zi)).2.1, (List.getD (List.set q6.1.2.1 (Int.toNat 1) ((ix za q6.1.2.1 1).1, (ix za q6.1.2.1 1).2.1, (ix za q6.1.2.1 1).2.2.1, (ix za q6.1.2.1 1).2.2.2.1, (ix za q6.1.2.1 1).2.2.2.2.1, List.set (ix za q6.1.2.1 1).2.2.2.2.2.1 (Int.toNat 0) (List.set (List.getD (ix za q6.1.2.1 1).2.2.2.2.2.1 (Int.toNat 0) (zb (Ty.arr 4 tU))) (Int.toNat 2) 5), (ix za q6.1.2.1 1).2.2.2.2.2.2)) (Int.toNat 1) (zb zi)).2.2.1, (List.getD (List.set q6.1.2.1 (Int.toNat 1) ((ix za q6.1.2.1 1).1, (ix za q6.1.2.1 1).2.1, (ix za q6.1.2.1 1).2.2.1, (ix za q6.1.2.1 1).2.2.2.1, (ix za q6.1.2.1 1).2.2.2.2.1, List.set (ix za q6.1.2.1 1).2.2.2.2.2.1 (Int.toNat 0) (List.set (List.getD (ix za q6.1.2.1 1).2.2.2.2.2.1 (Int.toNat 0) (zb (Ty.arr 4 tU))) (Int.toNat 2) 5), (ix za q6.1.2.1 1).2.2.2.2.2.2)) (Int.toNat 1) (zb zi)).2.2.2.1, (List.getD (List.set q6.1.2.1 (Int.toNat 1) ((ix za q6.1.2.1 1).1, (ix za q6.1.2.1 1).2.1, (ix za q6.1.2.1 1).2.2.1, (ix za q6.1.2.1 1).2.2.2.1, (ix za q6.1.2.1 1).2.2.2.2.1, List.set (ix za q6.1.2.1 1).2.2.2.2.2.1 (Int.toNat 0) (List.set (List.getD (ix za q6.1.2.1 1).2.2.2.2.2.1 (Int.toNat 0) (zb (Ty.arr 4 tU))) (Int.toNat 2) 5), (ix za q6.1.2.1 1).2.2.2.2.2.2)) (Int.toNat 1) (zb zi)).2.2.2.2.1, (List.getD (List.set q6.1.2.1 (Int.toNat 1) ((ix za q6.1.2.1 1).1, (ix za q6.1.2.1 1).2.1, (ix za q6.1.2.1 1).2.2.1, (ix za q6.1.2.1 1).2.2.2.1, (ix za q6.1.2.1 1).2.2.2.2.1, List.set (ix za q6.1.2.1 1).2.2.2.2.2.1 (Int.toNat 0) (List.set (List.getD (ix za q6.1.2.1 1).2.2.2.2.2.1 (Int.toNat 0) (zb (Ty.arr 4 tU))) (Int.toNat 2) 5), (ix za q6.1.2.1 1).2.2.2.2.2.2)) (Int.toNat 1) (zb zi)).2.2.2.2.2.1, (List.getD (List.set q6.1.2.1 (Int.toNat 1) ((ix za q6.1.2.1 1).1, (ix za q6.1.2.1 1).2.1, (ix za q6.1.2.1 1).2.2.1, (ix za q6.1.2.1 1).2.2.2.1, (ix za q6.1.2.1 1).2.2.2.2.1, List.set (ix za q6.1.2.1 1).2.2.2.2.2.1 (Int.toNat 0) (List.set (List.getD (ix za q6.1.2.1 1).2.2.2.2.2.1 (Int.toNat 0) (zb (Ty.arr 4 tU))) (Int.toNat 2) 5), (ix za q6.1.2.1 1).2.2.2.2.2.2)) (Int.toNat 1) (zb zi)).2.2.2.2.2.2.1, List.set (List.getD (List.set q6.1.2.1 (Int.toNat 1) ((ix za q6.1.2.1 1).1, (ix za q6.1.2.1 1).2.1, (ix za q6.1.2.1 1).2.2.1, (ix za q6.1.2.1 1).2.2.2.1, (ix za q6.1.2.1 1).2.2.2.2.1, List.set (ix za q6.1.2.1 1).2.2.2.2.2.1 (Int.toNat 0) (List.set (List.getD (ix za q6.1.2.1 1).2.2.2.2.2.1 (Int.toNat 0) (zb (Ty.arr 4 tU))) (Int.toNat 2) 5), (ix za q6.1.2.1 1).2.2.2.2.2.2)) (Int.toNat 1) (zb zi)).2.2.2.2.2.2.2.1 (Int.toNat 2) 5, (List.getD (List.set q6.1.2.1 (Int.toNat 1) ((ix za q6.1.2.1 1).1, (ix za q6.1.2.1 1).2.1, (ix za q6.1.2.1 1).2.2.1, (ix za q6.1.2.1 1).2.2.2.1, (ix za q6.1.2.1 1).2.2.2.2.1, List.set (ix za q6.1.2.1 1).2.2.2.2.2.1 (Int.toNat 0) (List.set (List.getD (ix za q6.1.2.1 1).2.2.2.2.2.1 (Int.toNat 0) (zb (Ty.arr 4 tU))) (Int.toNat 2) 5), (ix za q6.1.2.1 1).2.2.2.2.2.2)) (Int.toNat 1) (zb zi)).2.2.2.2.2.2.2.2), q6.1.2.2.1, q6.1.2.2.2.1, q6.1.2.2.2.2.1, List.set q6.1.2.2.2.2.2.1 (Int.toNat 1) 0, ()), 1, ())) fun q11 => Option.bind (zqA ((q1.1.1, q1.1.2.1, q1.1.2.2.1, q1.1.2.2.2.1, q1.1.2.2.2.2.1, q1.1.2.2.2.2.2.1, ()), (q6.1.1, List.set (List.set q6.1.2.1 (Int.toNat 1) ((ix za q6.1.2.1 1).1, (ix za q6.1.2.1 1).2.1, (ix za q6.1.2.1 1).2.2.1, (ix za q6.1.2.1 1).2.2.2.1, (ix za q6.1.2.1 1).2.2.2.2.1, List.set (ix za q6.1.2.1 1).2.2.2.2.2.1 (Int.toNat 0) (List.set (List.getD (ix za q6.1.2.1 1).2.2.2.2.2.1 (Int.toNat 0) (zb (Ty.arr 4 tU))) (Int.toNat 2) 5), (ix za q6.1.2.1 1).2.2.2.2.2.2)) (Int.toNat 1) ((List.getD (List.set q6.1.2.1 (Int.toNat 1) ((ix za q6.1.2.1 1).1, (ix za q6.1.2.1 1).2.1, (ix za q6.1.2.1 1).2.2.1, (ix za q6.1.2.1 1).2.2.2.1, (ix za q6.1.2.1 1).2.2.2.2.1, List.set (ix za q6.1.2.1 1).2.2.2.2.2.1 (Int.toNat 0) (List.set (List.getD (ix za q6.1.2.1 1).2.2.2.2.2.1 (Int.toNat 0) (zb (Ty.arr 4 tU))) (Int.toNat 2) 5), (ix za q6.1.2.1 1).2.2.2.2.2.2)) (Int.toNat 1) (zb zi)).1, (List.getD (List.set q6.1.2.1 (Int.toNat 1) ((ix za q6.1.2.1 1).1, (ix za q6.1.2.1 1).2.1, (ix za q6.1.2.1 1).2.2.1, (ix za q6.1.2.1 1).2.2.2.1, (ix za q6.1.2.1 1).2.2.2.2.1, List.set (ix za q6.1.2.1 1).2.2.2.2.2.1 (Int.toNat 0) (List.set (List.getD (ix za q6.1.2.1 1).2.2.2.2.2.1 (Int.toNat 0) (zb (Ty.arr 4 tU))) (Int.toNat 2) 5), (ix za q6.1.2.1 1).2.2.2.2.2.2)) (Int.toNat 1) (zb zi)).2.1, (List.getD (List.set q6.1.2.1 (Int.toNat 1) ((ix za q6.1.2.1 1).1, (ix za q6.1.2.1 1).2.1, (ix za q6.1.2.1 1).2.2.1, (ix za q6.1.2.1 1).2.2.2.1, (ix za q6.1.2.1 1).2.2.2.2.1, List.set (ix za q6.1.2.1 1).2.2.2.2.2.1 (Int.toNat 0) (List.set (List.getD (ix za q6.1.2.1 1).2.2.2.2.2.1 (Int.toNat 0) (zb (Ty.arr 4 tU))) (Int.toNat 2) 5), (ix za q6.1.2.1 1).2.2.2.2.2.2)) (Int.toNat 1) (zb zi)).2.2.1, (List.getD (List.set q6.1.2.1 (Int.toNat 1) ((ix za q6.1.2.1 1).1, (ix za q6.1.2.1 1).2.1, (ix za q6.1.2.1 1).2.2.1, (ix za q6.1.2.1 1).2.2.2.1, (ix za q6.1.2.1 1).2.2.2.2.1, List.set (ix za q6.1.2.1 1).2.2.2.2.2.1 (Int.toNat 0) (List.set (List.getD (ix za q6.1.2.1 1).2.2.2.2.2.1 (Int.toNat 0) (zb (Ty.arr 4 tU))) (Int.toNat 2) 5), (ix za q6.1.2.1 1).2.2.2.2.2.2)) (Int.toNat 1) (zb zi)).2.2.2.1, (List.getD (List.set q6.1.2.1 (Int.toNat 1) ((ix za q6.1.2.1 1).1, (ix za q6.1.2.1 1).2.1, (ix za q6.1.2.1 1).2.2.1, (ix za q6.1.2.1 1).2.2.2.1, (ix za q6.1.2.1 1).2.2.2.2.1, List.set (ix za q6.1.2.1 1).2.2.2.2.2.1 (Int.toNat 0) (List.set (List.getD (ix za q6.1.2.1 1).2.2.2.2.2.1 (Int.toNat 0) (zb (Ty.arr 4 tU))) (Int.toNat 2) 5), (ix za q6.1.2.1 1).2.2.2.2.2.2)) (Int.toNat 1) (zb zi)).2.2.2.2.1, (List.getD (List.set q6.1.2.1 (Int.toNat 1) ((ix za q6.1.2.1 1).1, (ix za q6.1.2.1 1).2.1, (ix za q6.1.2.1 1).2.2.1, (ix za q6.1.2.1 1).2.2.2.1, (ix za q6.1.2.1 1).2.2.2.2.1, List.set (ix za q6.1.2.1 1).2.2.2.2.2.1 (Int.toNat 0) (List.set (List.getD (ix za q6.1.2.1 1).2.2.2.2.2.1 (Int.toNat 0) (zb (Ty.arr 4 tU))) (Int.toNat 2) 5), (ix za q6.1.2.1 1).2.2.2.2.2.2)) (Int.toNat 1) (zb zi)).2.2.2.2.2.1, (List.getD (List.set q6.1.2.1 (Int.toNat 1) ((ix za q6.1.2.1 1).1, (ix za q6.1.2.1 1).2.1, (ix za q6.1.2.1 1).2.2.1, (ix za q6.1.2.1 1).2.2.2.1, (ix za q6.1.2.1 1).2.2.2.2.1, List.set (ix za q6.1.2.1 1).2.2.2.2.2.1 (Int.toNat 0) (List.set (List.getD (ix za q6.1.2.1 1).2.2.2.2.2.1 (Int.toNat 0) (zb (Ty.arr 4 tU))) (Int.toNat 2) 5), (ix za q6.1.2.1 1).2.2.2.2.2.2)) (Int.toNat 1) (zb zi)).2.2.2.2.2.2.1, List.set (List.getD (List.set q6.1.2.1 (Int.toNat 1) ((ix za q6.1.2.1 1).1, (ix za q6.1.2.1 1).2.1, (ix za q6.1.2.1 1).2.2.1, (ix za q6.1.2.1 1).2.2.2.1, (ix za q6.1.2.1 1).2.2.2.2.1, List.set (ix za q6.1.2.1 1).2.2.2.2.2.1 (Int.toNat 0) (List.set (List.getD (ix za q6.1.2.1 1).2.2.2.2.2.1 (Int.toNat 0) (zb (Ty.arr 4 tU))) (Int.toNat 2) 5), (ix za q6.1.2.1 1).2.2.2.2.2.2)) (Int.toNat 1) (zb zi)).2.2.2.2.2.2.2.1 (Int.toNat 2) 5, (List.getD (List.set q6.1.2.1 (Int.toNat 1) ((ix za q6.1.2.1 1).1, (ix za q6.1.2.1 1).2.1, (ix za q6.1.2.1 1).2.2.1, (ix za q6.1.2.1 1).2.2.2.1, (ix za q6.1.2.1 1).2.2.2.2.1, List.set (ix za q6.1.2.1 1).2.2.2.2.2.1 (Int.toNat 0) (List.set (List.getD (ix za q6.1.2.1 1).2.2.2.2.2.1 (Int.toNat 0) (zb (Ty.arr 4 tU))) (Int.toNat 2) 5), (ix za q6.1.2.1 1).2.2.2.2.2.2)) (Int.toNat 1) (zb zi)).2.2.2.2.2.2.2.2), q6.1.2.2.1, q6.1.2.2.2.1, q6.1.2.2.2.2.1, List.set q6.1.2.2.2.2.2.1 (Int.toNat 1) 0, ()), ())) fun q12 => bif q12.1 then some (false, ()) else bif decide (1 < ((List.length q1.1.2.2.2.2.2.1) : Int)) then bif ix (0 : Int) q1.1.2.2.2.2.2.1 1 == -1 then bif decide (1 < ((List.length q1.1.2.1) : Int)) then bif decide (0 < ((List.length (ix za q1.1.2.1 1).2.2.2.2.2.1) : Int)) then bif List.getD (List.getD (ix za q1.1.2.1 1).2.2.2.2.2.1 (Int.toNat 0) (zb (Ty.arr 4 tU))) (Int.toNat 2) (0 : Int) == 0 then bif q8.1 == 5 then bif q8.2.1 == 0 then bif q9.1 == 0 then bif q9.2.1 == 0 then bif q10.2.1 == 10 then bif q11.2.1 == 0 then bif eqI tMe q11.1 (1, 1, (zb tMe).2.2) then Option.bind (qb ((q0.1.1, q0.1.2.1, q0.1.2.2.1, q0.1.2.2.2.1, q0.1.2.2.2.2.1, q0.1.2.2.2.2.2.1, q0.1.2.2.2.2.2.2.1, q0.1.2.2.2.2.2.2.2.1, q0.1.2.2.2.2.2.2.2.2.1, ()), (q6.1.1, List.set (List.set q6.1.2.1 (Int.toNat 1) ((ix za q6.1.2.1 1).1, (ix za q6.1.2.1 1).2.1, (ix za q6.1.2.1 1).2.2.1, (ix za q6.1.2.1 1).2.2.2.1, (ix za q6.1.2.1 1).2.2.2.2.1, List.set (ix za q6.1.2.1 1).2.2.2.2.2.1 (Int.toNat 0) (List.set (List.getD (ix za q6.1.2.1 1).2.2.2.2.2.1 (Int.toNat 0) (zb (Ty.arr 4 tU))) (Int.toNat 2) 5), (ix za q6.1.2.1 1).2.2.2.2.2.2)) (Int.toNat 1) ((List.getD (List.set q6.1.2.1 (Int.toNat 1) ((ix za q6.1.2.1 1).1, (ix za q6.1.2.1 1).2.1, (ix za q6.1.2.1 1).2.2.1, (ix za q6.1.2.1 1).2.2.2.1, (ix za q6.1.2.1 1).2.2.2.2.1, List.set (ix za q6.1.2.1 1).2.2.2.2.2.1 (Int.toNat 0) (List.set (List.getD (ix za q6.1.2.1 1).2.2.2.2.2.1 (Int.toNat 0) (zb (Ty.arr 4 tU))) (Int.toNat 2) 5), (ix za q6.1.2.1 1).2.2.2.2.2.2)) (Int.toNat 1) (zb zi)).1, (List.getD (List.set q6.1.2.1 (Int.toNat 1) ((ix za q6.1.2.1 1).1, (ix za q6.1.2.1 1).2.1, (ix za q6.1.2.1 1).2.2.1, (ix za q6.1.2.1 1).2.2.2.1, (ix za q6.1.2.1 1).2.2.2.2.1, List.set (ix za q6.1.2.1 1).2.2.2.2.2.1 (Int.toNat 0) (List.set (List.getD (ix za q6.1.2.1 1).2.2.2.2.2.1 (Int.toNat 0) (zb (Ty.arr 4 tU))) (Int.toNat 2) 5), (ix za q6.1.2.1 1).2.2.2.2.2.2)) (Int.toNat 1) (zb zi)).2.1, (List.getD (List.set q6.1.2.1 (Int.toNat 1) ((ix za q6.1.2.1 1).1, (ix za q6.1.2.1 1).2.1, (ix za q6.1.2.1 1).2.2.1, (ix za q6.1.2.1 1).2.2.2.1, (ix za q6.1.2.1 1).2.2.2.2.1, List.set (ix za q6.1.2.1 1).2.2.2.2.2.1 (Int.toNat 0) (List.set (List.getD (ix za q6.1.2.1 1).2.2.2.2.2.1 (Int.toNat 0) (zb (Ty.arr 4 tU))) (Int.toNat 2) 5), (ix za q6.1.2.1 1).2.2.2.2.2.2)) (Int.toNat 1) (zb zi)).2.2.1, (List.getD (List.set q6.1.2.1 (Int.toNat 1) ((ix za q6.1.2.1 1).1, (ix za q6.1.2.1 1).2.1, (ix za q6.1.2.1 1).2.2.1, (ix za q6.1.2.1 1).2.2.2.1, (ix za q6.1.2.1 1).2.2.2.2.1, List.set (ix za q6.1.2.1 1).2.2.2.2.2.1 (Int.toNat 0) (List.set (List.getD (ix za q6.1.2.1 1).2.2.2.2.2.1 (Int.toNat 0) (zb (Ty.arr 4 tU))) (Int.toNat 2) 5), (ix za q6.1.2.1 1).2.2.2.2.2.2)) (Int.toNat 1) (zb zi)).2.2.2.1, (List.getD (List.set q6.1.2.1 (Int.toNat 1) ((ix za q6.1.2.1 1).1, (ix za q6.1.2.1 1).2.1, (ix za q6.1.2.1 1).2.2.1, (ix za q6.1.2.1 1).2.2.2.1, (ix za q6.1.2.1 1).2.2.2.2.1, List.set (ix za q6.1.2.1 1).2.2.2.2.2.1 (Int.toNat 0) (List.set (List.getD (ix za q6.1.2.1 1).2.2.2.2.2.1 (Int.toNat 0) (zb (Ty.arr 4 tU))) (Int.toNat 2) 5), (ix za q6.1.2.1 1).2.2.2.2.2.2)) (Int.toNat 1) (zb zi)).2.2.2.2.1, (List.getD (List.set q6.1.2.1 (Int.toNat 1) ((ix za q6.1.2.1 1).1, (ix za q6.1.2.1 1).2.1, (ix za q6.1.2.1 1).2.2.1, (ix za q6.1.2.1 1).2.2.2.1, (ix za q6.1.2.1 1).2.2.2.2.1, List.set (ix za q6.1.2.1 1).2.2.2.2.2.1 (Int.toNat 0) (List.set (List.getD (ix za q6.1.2.1 1).2.2.2.2.2.1 (Int.toNat 0) (zb (Ty.arr 4 tU))) (Int.toNat 2) 5), (ix za q6.1.2.1 1).2.2.2.2.2.2)) (Int.toNat 1) (zb zi)).2.2.2.2.2.1, (List.getD (List.set q6.1.2.1 (Int.toNat 1) ((ix za q6.1.2.1 1).1, (ix za q6.1.2.1 1).2.1, (ix za q6.1.2.1 1).2.2.1, (ix za q6.1.2.1 1).2.2.2.1, (ix za q6.1.2.1 1).2.2.2.2.1, List.set (ix za q6.1.2.1 1).2.2.2.2.2.1 (Int.toNat 0) (List.set (List.getD (ix za q6.1.2.1 1).2.2.2.2.2.1 (Int.toNat 0) (zb (Ty.arr 4 tU))) (Int.toNat 2) 5), (ix za q6.1.2.1 1).2.2.2.2.2.2)) (Int.toNat 1) (zb zi)).2.2.2.2.2.2.1, List.set (List.getD (List.set q6.1.2.1 (Int.toNat 1) ((ix za q6.1.2.1 1).1, (ix za q6.1.2.1 1).2.1, (ix za q6.1.2.1 1).2.2.1, (ix za q6.1.2.1 1).2.2.2.1, (ix za q6.1.2.1 1).2.2.2.2.1, List.set (ix za q6.1.2.1 1).2.2.2.2.2.1 (Int.toNat 0) (List.set (List.getD (ix za q6.1.2.1 1).2.2.2.2.2.1 (Int.toNat 0) (zb (Ty.arr 4 tU))) (Int.toNat 2) 5), (ix za q6.1.2.1 1).2.2.2.2.2.2)) (Int.toNat 1) (zb zi)).2.2.2.2.2.2.2.1 (Int.toNat 2) 5, (List.getD (List.set q6.1.2.1 (Int.toNat 1) ((ix za q6.1.2.1 1).1, (ix za q6.1.2.1 1).2.1, (ix za q6.1.2.1 1).2.2.1, (ix za q6.1.2.1 1).2.2.2.1, (ix za q6.1.2.1 1).2.2.2.2.1, List.set (ix za q6.1.2.1 1).2.2.2.2.2.1 (Int.toNat 0) (List.set (List.getD (ix za q6.1.2.1 1).2.2.2.2.2.1 (Int.toNat 0) (zb (Ty.arr 4 tU))) (Int.toNat 2) 5), (ix za q6.1.2.1 1).2.2.2.2.2.2)) (Int.toNat 1) (zb zi)).2.2.2.2.2.2.2.2), q6.1.2.2.1, q6.1.2.2.2.1, q6.1.2.2.2.2.1, List.set q6.1.2.2.2.2.2.1 (Int.toNat 1) 0, ()), ())) fun q13 => bif q13.1 then some (true, ()) else some (false, ()) else some (false, ()) else some (false, ()) else some (false, ()) else some (false, ()) else some (false, ()) else some (false, ()) else some (false, ()) else some (false, ()) else none else none else some (false, ()) else none else none else none else none else none else some (false, ()) else some (false, ()) else some (false, ())
theorem zPg (K : Nat) : evF (En E0 true [zrz zu0, zjc vK, vN qb, zey jb, zri zu1, ztB zqA, zcc zO, zcd zP, zAy zvP]) K Tryz.f21 0 ztx zty = zmw zu0 vK qb jb zu1 zqA zO zP zvP := funext fun () => by kernel_rfl
end
def zaV : zEp := zmw zec yy qt jB zcn zgD qF qG zkC
theorem zPh : Sd Tryz.prog E0 (zrh zaV) := mkS (l := [zrz zec, zjc yy, vN qt, zey jB, zri zcn, ztB zgD, zcc qF, zcd qG, zAy zkC]) ⟨zOu, zIm, zmt, zCE, zPd, zRe, zyr, zyw, zT0, trivial⟩ Tryz.func21 (by kernel_rfl) (zPg zec yy qt jB zcn zgD qF qG zkC K0)
end
end Go.Proofs.YtaokpakfhdeiiaaGreatDoor
end
section
namespace Go.Proofs.YtaokpakfhdeiiaaGreatDoor
open Go.Ev
set_option linter.unusedVariables false
theorem zLY {l : List Int} {g : Int × Unit → Option (Bool × Unit)} {p : Int → Bool} (hl : l.length ≤ Go.maxLen) (hp : ∀ x ∈ l, g (x, ()) = some (p x, ())) : yW (l, some g, ()) = some (zar p l 0, ()) := jz (τ := tI) (B := zhg) (fun _ _ _ _ _ => rfl) hl hp
theorem zeZ {l : List Int} {g : Int × Unit → Option (Bool × Unit)} {p : Int → Bool} (hl : l.length ≤ Go.maxLen) (hp : ∀ x ∈ l, g (x, ()) = some (p x, ())) : zz (l, some g, ()) = some (l.any p, ()) := qN (τ := tI) (f := yW) (zLY hl hp)
theorem zH1 {l : List zD} {g : zD × Unit → Option (Bool × Unit)} {p : zD → Bool} (hl : l.length ≤ Go.maxLen) (hp : ∀ x ∈ l, g (x, ()) = some (p x, ())) : vP (l, some g, ()) = some (zar p l 0, ()) := jz (τ := zJ) (B := zfj) (fun _ _ _ _ _ => rfl) hl hp
theorem zqB {l : List zD} {g : zD × Unit → Option (Bool × Unit)} {p : zD → Bool} (hl : l.length ≤ Go.maxLen) (hp : ∀ x ∈ l, g (x, ()) = some (p x, ())) : qE (l, some g, ()) = some (l.any p, ()) := qN (τ := zJ) (f := vP) (zH1 hl hp)
theorem zFu {l : List qY} {g : qY × Unit → Option (Bool × Unit)} {p : qY → Bool} (hl : l.length ≤ Go.maxLen) (hp : ∀ x ∈ l, g (x, ()) = some (p x, ())) : vj (l, some g, ()) = some (zar p l 0, ()) := jz (τ := jG) (B := zdk) (fun _ _ _ _ _ => rfl) hl hp
theorem zBD {l : List qY} {g : qY × Unit → Option (Bool × Unit)} {p : qY → Bool} (hl : l.length ≤ Go.maxLen) (hp : ∀ x ∈ l, g (x, ()) = some (p x, ())) : vp (l, some g, ()) = some (l.any p, ()) := qN (τ := jG) (f := vj) (zFu hl hp)
theorem zH2 {l : List zj} {g : zj × Unit → Option (Bool × Unit)} {p : zj → Bool} (hl : l.length ≤ Go.maxLen) (hp : ∀ x ∈ l, g (x, ()) = some (p x, ())) : vT (l, some g, ()) = some (zar p l 0, ()) := jz (τ := zi) (B := zfo) (fun _ _ _ _ _ => rfl) hl hp
theorem zD2 {l : List zj} {g : zj × Unit → Option (Bool × Unit)} {p : zj → Bool} (hl : l.length ≤ Go.maxLen) (hp : ∀ x ∈ l, g (x, ()) = some (p x, ())) : jt (l, some g, ()) = some (l.any p, ()) := qN (τ := zi) (f := vT) (zH2 hl hp)
theorem zJP {l : List jm} {g : jm × Unit → Option (Bool × Unit)} {p : jm → Bool} (hl : l.length ≤ Go.maxLen) (hp : ∀ x ∈ l, g (x, ()) = some (p x, ())) : yl (l, some g, ()) = some (zar p l 0, ()) := jz (τ := qU) (B := zf9) (fun _ _ _ _ _ => rfl) hl hp
theorem zFv {l : List jm} {g : jm × Unit → Option (Bool × Unit)} {p : jm → Bool} (hl : l.length ≤ Go.maxLen) (hp : ∀ x ∈ l, g (x, ()) = some (p x, ())) : yA (l, some g, ()) = some (l.any p, ()) := qN (τ := qU) (f := yl) (zJP hl hp)
theorem zJQ {l : List z8} {g : z8 × Unit → Option (Bool × Unit)} {p : z8 → Bool} (hl : l.length ≤ Go.maxLen) (hp : ∀ x ∈ l, g (x, ()) = some (p x, ())) : ym (l, some g, ()) = some (zar p l 0, ()) := jz (τ := qi) (B := zgg) (fun _ _ _ _ _ => rfl) hl hp
theorem zq8 {l : List z8} {g : z8 × Unit → Option (Bool × Unit)} {p : z8 → Bool} (hl : l.length ≤ Go.maxLen) (hp : ∀ x ∈ l, g (x, ()) = some (p x, ())) : qw (l, some g, ()) = some (l.any p, ()) := qN (τ := qi) (f := ym) (zJQ hl hp)
theorem zJR {l : List qk} {g : qk × Unit → Option (Bool × Unit)} {p : qk → Bool} (hl : l.length ≤ Go.maxLen) (hp : ∀ x ∈ l, g (x, ()) = some (p x, ())) : yn (l, some g, ()) = some (zar p l 0, ()) := jz (τ := qu) (B := zgh) (fun _ _ _ _ _ => rfl) hl hp
theorem zq9 {l : List qk} {g : qk × Unit → Option (Bool × Unit)} {p : qk → Bool} (hl : l.length ≤ Go.maxLen) (hp : ∀ x ∈ l, g (x, ()) = some (p x, ())) : qx (l, some g, ()) = some (l.any p, ()) := qN (τ := qu) (f := yn) (zJR hl hp)
theorem zH3 {l : List zm} {g : zm × Unit → Option (Bool × Unit)} {p : zm → Bool} (hl : l.length ≤ Go.maxLen) (hp : ∀ x ∈ l, g (x, ()) = some (p x, ())) : vU (l, some g, ()) = some (zar p l 0, ()) := jz (τ := zA) (B := zfs) (fun _ _ _ _ _ => rfl) hl hp
theorem zqC {l : List zm} {g : zm × Unit → Option (Bool × Unit)} {p : zm → Bool} (hl : l.length ≤ Go.maxLen) (hp : ∀ x ∈ l, g (x, ()) = some (p x, ())) : qq (l, some g, ()) = some (l.any p, ()) := qN (τ := zA) (f := vU) (zH3 hl hp)
theorem zH4 {l : List zl} {g : zl × Unit → Option (Bool × Unit)} {p : zl → Bool} (hl : l.length ≤ Go.maxLen) (hp : ∀ x ∈ l, g (x, ()) = some (p x, ())) : vV (l, some g, ()) = some (zar p l 0, ()) := jz (τ := zp) (B := zfv) (fun _ _ _ _ _ => rfl) hl hp
theorem zD3 {l : List zl} {g : zl × Unit → Option (Bool × Unit)} {p : zl → Bool} (hl : l.length ≤ Go.maxLen) (hp : ∀ x ∈ l, g (x, ()) = some (p x, ())) : jw (l, some g, ()) = some (l.any p, ()) := qN (τ := zp) (f := vV) (zH4 hl hp)
theorem zH5 {l : List zC} {g : zC × Unit → Option (Bool × Unit)} {p : zC → Bool} (hl : l.length ≤ Go.maxLen) (hp : ∀ x ∈ l, g (x, ()) = some (p x, ())) : vW (l, some g, ()) = some (zar p l 0, ()) := jz (τ := zy) (B := zfw) (fun _ _ _ _ _ => rfl) hl hp
theorem zD4 {l : List zC} {g : zC × Unit → Option (Bool × Unit)} {p : zC → Bool} (hl : l.length ≤ Go.maxLen) (hp : ∀ x ∈ l, g (x, ()) = some (p x, ())) : jx (l, some g, ()) = some (l.any p, ()) := qN (τ := zy) (f := vW) (zH5 hl hp)
theorem zyL {l : List z3} {g : z3 × Unit → Option (Bool × Unit)} {p : z3 → Bool} (hl : l.length ≤ Go.maxLen) (hp : ∀ x ∈ l, g (x, ()) = some (p x, ())) : jo (l, some g, ()) = some (zar p l 0, ()) := jz (τ := qj) (B := zgd) (fun _ _ _ _ _ => rfl) hl hp
theorem zFw {l : List z3} {g : z3 × Unit → Option (Bool × Unit)} {p : z3 → Bool} (hl : l.length ≤ Go.maxLen) (hp : ∀ x ∈ l, g (x, ()) = some (p x, ())) : jK (l, some g, ()) = some (l.any p, ()) := qN (τ := qj) (f := jo) (zyL hl hp)
theorem zLZ {l : List qX} {g : qX × Unit → Option (Bool × Unit)} {p : qX → Bool} (hl : l.length ≤ Go.maxLen) (hp : ∀ x ∈ l, g (x, ()) = some (p x, ())) : zad (l, some g, ()) = some (zar p l 0, ()) := jz (τ := zW) (B := zht) (fun _ _ _ _ _ => rfl) hl hp
theorem zGW {l : List qX} {g : qX × Unit → Option (Bool × Unit)} {p : qX → Bool} (hl : l.length ≤ Go.maxLen) (hp : ∀ x ∈ l, g (x, ()) = some (p x, ())) : jZ (l, some g, ()) = some (l.any p, ()) := qN (τ := zW) (f := zad) (zLZ hl hp)
theorem zJS {l : List Int} {g : Int × Unit → Option (Bool × Unit)} {p : Int → Bool} (hl : l.length ≤ Go.maxLen) (hp : ∀ x ∈ l, g (x, ()) = some (p x, ())) : yj (l, some g, ()) = some (zar p l 0, ()) := jz (τ := (Ty.int .u8)) (B := zf5) (fun _ _ _ _ _ => rfl) hl hp
theorem zFx {l : List Int} {g : Int × Unit → Option (Bool × Unit)} {p : Int → Bool} (hl : l.length ≤ Go.maxLen) (hp : ∀ x ∈ l, g (x, ()) = some (p x, ())) : jH (l, some g, ()) = some (l.any p, ()) := qN (τ := (Ty.int .u8)) (f := yj) (zJS hl hp)
theorem zSt {l : List zj} {g : zj × Unit → Option (Bool × Unit)} {p : zj → Bool} (hl : l.length ≤ Go.maxLen) (hp : ∀ x ∈ l, g (x, ()) = some (p x, ())) : zcw (l, some g, ()) = some (l.all p, ()) := by
  have h : jt (l, some fun z => yk (z.1, some (some g), ()), ()) = some (l.any fun x => !p x, ()) := zD2 hl fun x hx => by
    show Option.bind (g (x, ())) (fun q => bif q.1 then some (false, ()) else some (true, ())) = _
    rw [hp x hx]; cases p x <;> rfl
  show Option.bind (jt (l, some fun z => yk (z.1, some (some g), ()), ())) (fun q => bif q.1 then some (false, ()) else some (true, ())) = _
  rw [h, ← yi]; cases l.any fun x => !p x <;> rfl
theorem zSu {l : List zl} {g : zl × Unit → Option (Bool × Unit)} {p : zl → Bool} (hl : l.length ≤ Go.maxLen) (hp : ∀ x ∈ l, g (x, ()) = some (p x, ())) : zcx (l, some g, ()) = some (l.all p, ()) := by
  have h : jw (l, some fun z => yo (z.1, some (some g), ()), ()) = some (l.any fun x => !p x, ()) := zD3 hl fun x hx => by
    show Option.bind (g (x, ())) (fun q => bif q.1 then some (false, ()) else some (true, ())) = _
    rw [hp x hx]; cases p x <;> rfl
  show Option.bind (jw (l, some fun z => yo (z.1, some (some g), ()), ())) (fun q => bif q.1 then some (false, ()) else some (true, ())) = _
  rw [h, ← yi]; cases l.any fun x => !p x <;> rfl
theorem zSv {l : List zC} {g : zC × Unit → Option (Bool × Unit)} {p : zC → Bool} (hl : l.length ≤ Go.maxLen) (hp : ∀ x ∈ l, g (x, ()) = some (p x, ())) : zcy (l, some g, ()) = some (l.all p, ()) := by
  have h : jx (l, some fun z => yp (z.1, some (some g), ()), ()) = some (l.any fun x => !p x, ()) := zD4 hl fun x hx => by
    show Option.bind (g (x, ())) (fun q => bif q.1 then some (false, ()) else some (true, ())) = _
    rw [hp x hx]; cases p x <;> rfl
  show Option.bind (jx (l, some fun z => yp (z.1, some (some g), ()), ())) (fun q => bif q.1 then some (false, ()) else some (true, ())) = _
  rw [h, ← yi]; cases l.any fun x => !p x <;> rfl
theorem zVh {l : List Int} {g : Int × Unit → Option (Bool × Unit)} {p : Int → Bool} (hl : l.length ≤ Go.maxLen) (hp : ∀ x ∈ l, g (x, ()) = some (p x, ())) : zeJ (l, some g, ()) = some (l.all p, ()) := by
  have h : zz (l, some fun z => zaJ (z.1, some (some g), ()), ()) = some (l.any fun x => !p x, ()) := zeZ hl fun x hx => by
    show Option.bind (g (x, ())) (fun q => bif q.1 then some (false, ()) else some (true, ())) = _
    rw [hp x hx]; cases p x <;> rfl
  show Option.bind (zz (l, some fun z => zaJ (z.1, some (some g), ()), ())) (fun q => bif q.1 then some (false, ()) else some (true, ())) = _
  rw [h, ← yi]; cases l.any fun x => !p x <;> rfl
theorem zT1 {l : List z3} {g : z3 × Unit → Option (Bool × Unit)} {p : z3 → Bool} (hl : l.length ≤ Go.maxLen) (hp : ∀ x ∈ l, g (x, ()) = some (p x, ())) : zbj (l, some g, ()) = some (l.all p, ()) := by
  have h : jK (l, some fun z => zab (z.1, some (some g), ()), ()) = some (l.any fun x => !p x, ()) := zFw hl fun x hx => by
    show Option.bind (g (x, ())) (fun q => bif q.1 then some (false, ()) else some (true, ())) = _
    rw [hp x hx]; cases p x <;> rfl
  show Option.bind (jK (l, some fun z => zab (z.1, some (some g), ()), ())) (fun q => bif q.1 then some (false, ()) else some (true, ())) = _
  rw [h, ← yi]; cases l.any fun x => !p x <;> rfl
theorem zL0 {l : List z8} {g : z8 × Unit → Option (Bool × Unit)} {p : z8 → Bool} (hl : l.length ≤ Go.maxLen) (hp : ∀ x ∈ l, g (x, ()) = some (p x, ())) : qz (l, some g, ()) = some (l.all p, ()) := by
  have h : qw (l, some fun z => zac (z.1, some (some g), ()), ()) = some (l.any fun x => !p x, ()) := zq8 hl fun x hx => by
    show Option.bind (g (x, ())) (fun q => bif q.1 then some (false, ()) else some (true, ())) = _
    rw [hp x hx]; cases p x <;> rfl
  show Option.bind (qw (l, some fun z => zac (z.1, some (some g), ()), ())) (fun q => bif q.1 then some (false, ()) else some (true, ())) = _
  rw [h, ← yi]; cases l.any fun x => !p x <;> rfl
theorem zVi {l : List qX} {g : qX × Unit → Option (Bool × Unit)} {p : qX → Bool} (hl : l.length ≤ Go.maxLen) (hp : ∀ x ∈ l, g (x, ()) = some (p x, ())) : zbZ (l, some g, ()) = some (l.all p, ()) := by
  have h : jZ (l, some fun z => zaK (z.1, some (some g), ()), ()) = some (l.any fun x => !p x, ()) := zGW hl fun x hx => by
    show Option.bind (g (x, ())) (fun q => bif q.1 then some (false, ()) else some (true, ())) = _
    rw [hp x hx]; cases p x <;> rfl
  show Option.bind (jZ (l, some fun z => zaK (z.1, some (some g), ()), ())) (fun q => bif q.1 then some (false, ()) else some (true, ())) = _
  rw [h, ← yi]; cases l.any fun x => !p x <;> rfl
theorem zT2 {l : List qk} {g : qk × Unit → Option (Bool × Unit)} {p : qk → Bool} (hl : l.length ≤ Go.maxLen) (hp : ∀ x ∈ l, g (x, ()) = some (p x, ())) : jL (l, some g, ()) = some (l.all p, ()) := by
  have h : qx (l, some fun z => zae (z.1, some (some g), ()), ()) = some (l.any fun x => !p x, ()) := zq9 hl fun x hx => by
    show Option.bind (g (x, ())) (fun q => bif q.1 then some (false, ()) else some (true, ())) = _
    rw [hp x hx]; cases p x <;> rfl
  show Option.bind (qx (l, some fun z => zae (z.1, some (some g), ()), ())) (fun q => bif q.1 then some (false, ()) else some (true, ())) = _
  rw [h, ← yi]; cases l.any fun x => !p x <;> rfl
theorem zSw {l : List zm} {g : zm × Unit → Option (Bool × Unit)} {p : zm → Bool} (hl : l.length ≤ Go.maxLen) (hp : ∀ x ∈ l, g (x, ()) = some (p x, ())) : jq (l, some g, ()) = some (l.all p, ()) := by
  have h : qq (l, some fun z => yq (z.1, some (some g), ()), ()) = some (l.any fun x => !p x, ()) := zqC hl fun x hx => by
    show Option.bind (g (x, ())) (fun q => bif q.1 then some (false, ()) else some (true, ())) = _
    rw [hp x hx]; cases p x <;> rfl
  show Option.bind (qq (l, some fun z => yq (z.1, some (some g), ()), ())) (fun q => bif q.1 then some (false, ()) else some (true, ())) = _
  rw [h, ← yi]; cases l.any fun x => !p x <;> rfl
theorem zPi {l : List zl} (hl : l.length ≤ lim) : jO (l, ()) = some (l, ()) := zOb (τ := zp) hl rfl
theorem zEX {l : List zm} (hl : l.length ≤ lim) : jN (l, ()) = some (l, ()) := zOb (τ := zA) hl rfl
end Go.Proofs.YtaokpakfhdeiiaaGreatDoor
end
section
namespace Go.Proofs.YtaokpakfhdeiiaaGreatDoor
open Go.Ev
set_option linter.unusedVariables false
set_option linter.unusedSimpArgs false
theorem zHi : ∃ m, K0 = m + 8 := ⟨Go.maxLen - 6, by unfold K0 Go.maxLen; omega⟩
def within (x a b : Int) : Bool := decide (a ≤ x ∧ x ≤ b)
theorem zj0 (x a b : Int) : zB (x, a, b, ()) = some (within x a b, ()) := by
  simp only [zB, zsb, within]; grind
def zkD (a : zD) : Bool := within a.1 0 3
theorem zPj (a : zD) : zed (a, ()) = some (zkD a, ()) := by
  simp only [zed, zuA, zkD, within]; grind
theorem zT3 (a : zD) : zbb (a, ()) = some (!zkD a, ()) := by
  simp only [zbb, znQ, zPj, Option.bind_some]; grind
def zu2 (x y : Int) : Int := bif decide (x < y) then -1 else bif decide (y < x) then 1 else 0
theorem zSx (x : Int) : zbT (x, ()) = some (false, ()) := by
  simp only [zbT, zpX]; grind
theorem zND (x : Int) : yV (x, ()) = some (false, ()) := by
  simp only [yV, zjE]; grind
theorem zEY (x y : Int) : jT (x, y, ()) = some (zu2 x y, ()) := by
  simp only [jT, zlF, zSx, Option.bind_some, zu2]; grind
theorem zyM (x y : Int) : qZ (x, y, ()) = some (zu2 x y, ()) := by
  simp only [qZ, zhe, zND, Option.bind_some, zu2]; grind
def orV (a b : Int) : Int := bif a != 0 then a else b
theorem zXg (a b : Int) : yx ([a, b], ()) = some (orV a b, ()) := by
  show iter jY K0 (0, [a, b], 2, 0) = _
  obtain ⟨m, hm⟩ := zHi
  rw [hm]
  show jY (jY (jY (iter jY (m + 5)))) (0, [a, b], 2, 0) = _
  have h : jY (jY (jY (iter jY (m + 5)))) (0, [a, b], 2, 0) = bif a != 0 then some (a, ()) else bif b != 0 then some (b, ()) else some (0, ()) := by kernel_rfl
  rw [h]; unfold orV; grind
def zJT (a b : zD) : Int := orV (zu2 a.1 b.1) (zu2 a.2.1 b.2.1)
theorem zSy (a b : zD) : zfk (a, b, ()) = some (zJT a b, ()) := by
  simp only [zfk, zA4, zEY, zyM, Option.bind_some]
  show Option.bind (yx ([zu2 a.1 b.1, zu2 a.2.1 b.2.1], ())) _ = _
  rw [zXg]; rfl
def zkE (l : List zD) : Bool := within (l.length : Int) 1 8 && (eqI zJ (l.getD 0 (zb zJ)) (zb zJ) && (l.all zkD && qM (fun i => decide (zJT (l.getD (i - 1) (zb zJ)) (l.getD i (zb zJ)) < 0)) 1 (l.length - 1)))
theorem zV7 {α : Type} {d : α} {l : List α} : ix d l 0 = l.getD 0 d := rfl
theorem zV8 (r : ze) : vQ (r, ()) = some (zkE r.1, ()) := by
  simp only [vQ, zkm, zj0, Option.bind_some]
  by_cases hw : within (List.length r.1 : Int) 1 8 = true
  · have hb : 1 ≤ List.length r.1 ∧ List.length r.1 ≤ 8 := by unfold within at hw; grind
    have hl : List.length r.1 ≤ Go.maxLen := by unfold Go.maxLen; omega
    have hloop : znR zfk K0 (1, r) = bif qM (fun i => decide (zJT (List.getD r.1 (i - 1) (zb zJ)) (List.getD r.1 i (zb zJ)) < 0)) 1 (List.length r.1 - 1) then some (true, ()) else some (false, ()) :=
      zas (i0 := 1) hl hb.1 (fun i => (i, r)) (fun k i h1 h2 => by
        simp only [zhf]
        rw [ltT h2, zMF h1 (by omega), qo (by omega), qo h2, vM, Int.toNat_natCast, zSy]
        simp only [cond_true, Option.bind_some]; grind) (fun k => by simp only [zhf]; rw [ltF]; rfl)
    rw [zqB (p := fun a => !zkD a) hl fun x _ => zT3 x, hloop, zV7]
    have := yi (l := r.1) (p := zkD)
    unfold zkE
    simp only [Option.bind_some]
    grind
  · unfold zkE; grind
end Go.Proofs.YtaokpakfhdeiiaaGreatDoor
end
section
namespace Go.Proofs.YtaokpakfhdeiiaaGreatDoor
open Go.Ev
set_option linter.unusedVariables false
set_option linter.unusedSimpArgs false
def small (c : Int) : Bool := decide (97 ≤ c ∧ c ≤ 122)
def digit (c : Int) : Bool := decide (48 ≤ c ∧ c ≤ 57)
theorem zSY (c : Int) : zaz (c, ()) = some (small c, ()) := by
  simp only [zaz, zxz, small]; grind
theorem zWM (c : Int) : zf6 (c, ()) = some (digit c, ()) := by
  simp only [zf6, zxB, digit]; grind
def zPE (c : Int) : Bool := small c || digit c
theorem zXh (c : Int) : zc2 (c, ()) = some (zPE c, ()) := by
  simp only [zc2, zsc, zSY, zWM, Option.bind_some, zPE]; grind
def zj1 (s : ByteArray) : List Int := List.map (fun b : UInt8 => (b.toNat : Int)) s.data.toList
def chr (s : ByteArray) (i : Nat) : Int := (((s.data.toList).getD i 0).toNat : Int)
theorem zu3 (s : ByteArray) : (zj1 s).length = s.size := by unfold zj1; rw [List.length_map]; rfl
theorem size_eq (s : ByteArray) : s.data.toList.length = s.size := rfl
theorem zL1 (s : ByteArray) (p : Int → Bool) : (zj1 s).all p = qM (fun i => p (chr s i)) 0 s.size := by
  rw [Bool.eq_iff_iff, yb, List.all_eq_true]
  have key : ∀ i, i < s.size → (zj1 s)[i]? = some (chr s i) := fun i hi => by
    unfold zj1 chr
    rw [List.getElem?_map, List.getElem?_eq_getElem (by rw [size_eq]; exact hi)]
    simp [List.getD, size_eq, hi]
  constructor
  · intro h j _ hj
    exact h _ (List.mem_of_getElem? (key j (by omega)))
  · intro h x hx
    obtain ⟨i, hi, rfl⟩ := List.mem_iff_getElem.1 hx
    rw [zu3] at hi
    have := key i hi
    rw [List.getElem?_eq_getElem (by rw [zu3]; exact hi)] at this
    rw [Option.some.inj this]
    exact h i (by omega) (by omega)
theorem zL2 {s : ByteArray} {g : Int × Unit → Option (Bool × Unit)} {p : Int → Bool} (hl : s.size ≤ Go.maxLen) (hp : ∀ c, g (c, ()) = some (p c, ())) : zeC (s, some g, ()) = some ((zj1 s).all p, ()) := by
  have h : jH (zj1 s, some fun z => zf4 (z.1, some (some g), ()), ()) = some ((zj1 s).any fun x => !p x, ()) := zFx (by rw [zu3]; exact hl) fun x hx => by
    show Option.bind (g (x, ())) (fun q => bif q.1 then some (false, ()) else some (true, ())) = _
    rw [hp x]; cases p x <;> rfl
  show Option.bind (jH (zj1 s, some fun z => zf4 (z.1, some (some g), ()), ())) (fun q => bif q.1 then some (false, ()) else some (true, ())) = _
  rw [h, ← yi]; cases (zj1 s).any fun x => !p x <;> rfl
def zD5 (s : ByteArray) : Bool := decide (1 ≤ s.size) && (decide (s.size ≤ 12) && qM (fun i => small (chr s i) || (decide (i ≠ 0) && digit (chr s i))) 0 s.size)
theorem zV9 (s : ByteArray) : zD5 s = (decide (1 ≤ s.size) && (decide (s.size ≤ 12) && (small (chr s 0) && (zj1 s).all zPE))) := by
  rw [zL1, zD5, Bool.eq_iff_iff]
  simp only [Bool.and_eq_true, decide_eq_true_eq, yb, zPE]
  constructor
  · rintro ⟨h1, h2, h3⟩
    have := h3 0 (by omega) (by omega)
    refine ⟨h1, h2, by grind, fun j h4 h5 => ?_⟩
    have := h3 j h4 h5
    grind
  · rintro ⟨h1, h2, h3, h4⟩
    refine ⟨h1, h2, fun j h5 h6 => ?_⟩
    have := h4 j h5 h6
    by_cases e : j = 0
    · subst e; grind
    · grind
theorem zyN (s : ByteArray) : vb (s, ()) = some (zD5 s, ()) := by
  rw [qd]
  simp only [vb, zxD]
  rw [zV9]
  by_cases h1 : s.size < 1
  · grind
  by_cases h2 : s.size > 12
  · grind
  rw [zL2 (by unfold Go.maxLen; omega) zXh]
  have hc : ((UInt8.toNat (List.getD s.data.toList (Int.toNat 0) 0) : Nat) : Int) = chr s 0 := rfl
  rw [hc, zSY]
  simp only [Option.bind_some]
  grind
def ztn (a : qY) : Bool := zD5 a.1 && (zD5 a.2.1 && within a.2.2.1 0 3)
theorem zRf (a : qY) : yZ (a, ()) = some (!ztn a, ()) := by
  simp only [yZ, zjH, zyN, zj0, Option.bind_some, ztn]; grind
theorem set1 {α : Type} (d x : α) : zg (List.replicate 1 d) 0 x = [x] := rfl
theorem zL3 {n : Nat} (h : n ≤ 1000000) : decide (n ≤ lim) = true := decide_eq_true (by unfold lim; omega)
theorem zSz (r : ze) (h : r.2.2.1.length ≤ 1000) : zcv (r, ()) = some (r.2.2.1.map (·.1), ()) := by
  have hl : r.2.2.1.length ≤ Go.maxLen := by unfold Go.maxLen; omega
  have := zkd (B := za3) (α := List ByteArray) (len := r.2.2.1.length) hl (fun i o => (r.2.2.1, (r.2.2.1.length : Int), i, o)) (fun i o => some (o ++ (r.2.2.1.drop i).map (·.1), ())) (fun i o => o.length ≤ i) (fun k i s hi hI hk => by
    simp only [za3]
    rw [ltT hi, qo hi, vM, set1, zL3 (by simp; omega)]
    simp only [cond_true]
    rw [hk _ (by simp; omega), zgI zwb hi]
    simp) (fun k s _ => by
    simp only [za3]
    rw [ltF, List.drop_of_length_le (Nat.le_refl _)]
    simp) [] (Nat.le_refl _)
  exact this
def zyO : List ByteArray → Bool
  | [] => true
  | x :: l => !(l.any fun y => eqI .str x y) && zyO l
theorem zHj (x y : ByteArray) : eqI .str x y = (x.toList == y.toList) := rfl
theorem zVj (o : List (ByteArray × Int)) (x z : ByteArray) (v : Int) : zcG .str (za8 .str o x v) z = (zcG .str o z || eqI .str z x) := by
  induction o with
  | nil => simp only [za8, zcG]; cases eqI .str z x <;> rfl
  | cons e o ih =>
    simp only [za8, zcG]
    cases h : eqI .str x e.1 with
    | true =>
      simp only [cond_true, zcG]
      have : eqI .str z e.1 = eqI .str z x := by rw [zHj] at *; rw [zHj]; have := eq_of_beq h; rw [this]
      cases h2 : eqI .str z e.1 with
      | true => rfl
      | false => rw [← this, h2]; simp
    | false =>
      simp only [cond_false, zcG, ih]
      cases eqI .str z e.1 <;> rfl
theorem zRg (o : List (ByteArray × Int)) (x : ByteArray) (v : Int) : (za8 .str o x v).length = o.length + (bif zcG .str o x then 0 else 1) := by
  induction o with
  | nil => rfl
  | cons e o ih =>
    simp only [za8, zcG]
    cases h : eqI .str x e.1 with
    | true => simp only [cond_true, List.length_cons, Nat.add_zero]
    | false =>
      simp only [cond_false, List.length_cons, ih]
      generalize (bif zcG .str o x then 0 else 1) = n
      omega
def zD6 : List ByteArray → List (ByteArray × Int) → Nat
  | [], o => o.length
  | x :: l, o => zD6 l (za8 .str o x (wI (ze3 .str (0 : Int) o x + 1)))
theorem zSZ : ∀ (l : List ByteArray) (o : List (ByteArray × Int)), zD6 l o ≤ o.length + l.length
  | [], o => Nat.le_refl _
  | x :: l, o => by
    have h := zSZ l (za8 .str o x (wI (ze3 .str (0 : Int) o x + 1)))
    rw [zRg] at h
    simp only [zD6, List.length_cons]
    cases hm : zcG .str o x <;> (rw [hm] at h; simp only [cond_true, cond_false] at h; omega)
theorem zS0 : ∀ (l : List ByteArray) (o : List (ByteArray × Int)), (zD6 l o == o.length + l.length) = (zyO l && l.all fun x => !zcG .str o x)
  | [], o => by simp [zD6, zyO]
  | x :: l, o => by
    have h := zSZ l (za8 .str o x (wI (ze3 .str (0 : Int) o x + 1)))
    have ih := zS0 l (za8 .str o x (wI (ze3 .str (0 : Int) o x + 1)))
    rw [zRg] at h ih
    simp only [zD6, List.length_cons, zyO, List.all_cons]
    cases hm : zcG .str o x with
    | true =>
      rw [hm] at h
      simp only [cond_true] at h
      have : (zD6 l (za8 .str o x (wI (ze3 .str (0 : Int) o x + 1))) == o.length + (l.length + 1)) = false := by
        simp only [beq_eq_false_iff_ne]; omega
      rw [this]
      simp
    | false =>
      rw [hm] at ih
      simp only [cond_false] at ih
      rw [show o.length + (l.length + 1) = o.length + 1 + l.length by omega, ih]
      simp only [zVj, Bool.not_or, Bool.not_false, Bool.true_and]
      have : (l.all fun z => !zcG .str o z && !eqI .str z x) = ((l.all fun z => !zcG .str o z) && !(l.any fun y => eqI .str x y)) := by
        rw [Bool.eq_iff_iff]
        simp only [List.all_eq_true, Bool.and_eq_true, Bool.not_eq_true', List.any_eq_false, Bool.not_eq_true]
        have hs : ∀ z, eqI .str z x = eqI .str x z := fun z => by rw [zHj, zHj]; exact Bool.beq_comm
        grind
      rw [this]
      cases zyO l <;> cases (l.all fun z => !zcG .str o z) <;> cases (l.any fun y => eqI .str x y) <;> rfl
theorem zVk (m n : Nat) : (((m : Nat) : Int) == ((n : Nat) : Int)) = (m == n) := by
  rw [Bool.eq_iff_iff]; simp only [beq_iff_eq]; omega
theorem zWN (l : List ByteArray) (h : l.length ≤ 1000) : zjJ (l, ()) = some (zyO l, ()) := by
  have := zFL (B := zf8) (l := l) (α := List (ByteArray × Int)) (zb .str) (fun i o => (l, l, (l.length : Int), i, o)) (fun rest o => some (zD6 rest o == l.length, ())) (by unfold Go.maxLen; omega) (fun k i x rest s hi hx _ hr hk => by
    simp only [zf8]
    rw [ltT hi, qo hi, Int.toNat_natCast, hx]
    simp only [cond_true]
    exact hk _) (fun k s => by
    simp only [zf8]
    rw [ltF]
    simp only [cond_false, zD6]
    rw [zVk]
    cases s.length == l.length <;> rfl) []
  refine this.trans ?_
  have h2 := zS0 l []
  simp only [List.length_nil, Nat.zero_add] at h2
  rw [h2]
  simp [zcG]
def zor (l : List qY) : Bool := within (l.length : Int) 1 8 && (l.all ztn && zyO (l.map (·.1)))
theorem zT4 (r : ze) : j9 (r, ()) = some (zor r.2.2.1, ()) := by
  rw [qd]
  simp only [j9, znS, zj0, Option.bind_some]
  unfold zor
  by_cases hw : within (List.length r.2.2.1 : Int) 1 8 = true
  · have hb : 1 ≤ List.length r.2.2.1 ∧ List.length r.2.2.1 ≤ 8 := by unfold within at hw; grind
    rw [zBD (p := fun a => !ztn a) (by unfold Go.maxLen; omega) fun x _ => zRf x, zSz r (by omega)]
    simp only [Option.bind_some]
    rw [zWN _ (by simp; omega)]
    simp only [Option.bind_some]
    have := yi (l := r.2.2.1) (p := ztn)
    grind
  · grind
def zGX (r : ze) : Bool := within (r.2.1.length : Int) 1 8 && r.2.1.all fun i => decide (0 ≤ i) && decide (i < (r.1.length : Int))
theorem zWO (r : ze) (h : r.1.length ≤ 1000) : yK (r, ()) = some (zGX r, ()) := by
  rw [qd]
  simp only [yK, zuC, zj0, Option.bind_some]
  unfold zGX
  by_cases hw : within (List.length r.2.1 : Int) 1 8 = true
  · have hb : 1 ≤ List.length r.2.1 ∧ List.length r.2.1 ≤ 8 := by unfold within at hw; grind
    have hq : ∀ x : Int, (fun z : Int × Unit => zax (z.1, some r, ())) (x, ()) = some (!(decide (0 ≤ x) && decide (x < (r.1.length : Int))), ()) := fun x => by
      show zax _ = _
      simp only [zax, zpZ, zj0, Option.bind_some]
      have : wI (((List.length r.1 : Nat) : Int) - 1) = (r.1.length : Int) - 1 := by
        unfold wI
        exact IntWalk.i64_in _ (by omega)
      rw [this]
      unfold within
      grind
    rw [zeZ (by unfold Go.maxLen; omega) fun x _ => hq x]
    simp only [Option.bind_some]
    have := yi (l := r.2.1) (p := fun i => decide (0 ≤ i) && decide (i < (r.1.length : Int)))
    grind
  · grind
def zHk (r : ze) : Bool := within r.2.2.2.2.2.1 0 24 && (within r.2.2.2.2.2.2.1 0 48 && (within r.2.2.2.2.2.2.2.1 1 4 && within r.2.2.2.2.2.2.2.2.1 1 16))
theorem zXi (r : ze) : zaA (r, ()) = some (zHk r, ()) := by
  simp only [zaA, zxN, zj0, Option.bind_some, zHk]; grind
def zkF (q : za0) : Bool := within q.1 0 12 && (within q.2.1 0 12 && (within q.2.2.1 0 12 && (within q.2.2.2.1 0 12 && within q.2.2.2.2.1 0 12)))
def zD7 : Int → List za0 → Bool
  | _, [] => true
  | left, q :: l => zkF q && (decide (q.2.2.2.2.2.1 ≤ left) && zD7 (wU (left - q.2.2.2.2.2.1)) l)
theorem zT5 (x : Int) : yP (x, ()) = some (!within x 0 12, ()) := by
  simp only [yP, znV, zj0, Option.bind_some]; grind
def zsE (n : Nat) (l : List za0) : Bool := decide (l.length = n) && (decide (0 < l.length) && (decide (1 ≤ (l.getD 0 jQ).1) && zD7 4611686018427387904 l))
theorem zWa (r : ze) (h : 1 ≤ r.1.length ∧ r.1.length ≤ 1000) : vS (r, ()) = some (zsE r.1.length r.2.2.2.2.1, ()) := by
  rw [qd]
  simp only [vS, zkn]
  unfold zsE
  by_cases hn : r.2.2.2.2.1.length = r.1.length
  · have hl : r.2.2.2.2.1.length ≤ Go.maxLen := by unfold Go.maxLen; omega
    have hloop : znW yP zbU zz K0 (4611686018427387904, r.2.2.2.2.1, (r.2.2.2.2.1.length : Int), 0) = some (zD7 4611686018427387904 r.2.2.2.2.1, ()) :=
      zFL (l := r.2.2.2.2.1) (α := Int) jQ (fun i s => (s, r.2.2.2.2.1, (r.2.2.2.2.1.length : Int), i)) (fun rest s => some (zD7 s rest, ())) hl (fun k i x rest s hi hx _ hr hk => by
        simp only [zhi]
        rw [ltT hi, qo hi]
        simp only [vM, hx, cond_true]
        have hnum : zbU (x, ()) = some ([x.1, x.2.1, x.2.2.1, x.2.2.2.1, x.2.2.2.2.1], ()) := rfl
        rw [hnum]
        simp only [Option.bind_some]
        rw [zeZ (p := fun n => !within n 0 12) (l := [x.1, x.2.1, x.2.2.1, x.2.2.2.1, x.2.2.2.2.1]) (by unfold Go.maxLen; simp) fun n _ => zT5 n]
        simp only [Option.bind_some, hk, zD7, zkF, List.any_cons, List.any_nil]
        grind) (fun k s => by simp only [zhi]; rw [ltF]; rfl) _
    rw [hloop, zV7]
    have h1 : (((List.length r.2.2.2.2.1 : Nat) : Int) != ((List.length r.1 : Nat) : Int)) = false := by rw [zHg]; simp [hn]
    rw [h1]
    grind
  · have h1 : (((List.length r.2.2.2.2.1 : Nat) : Int) != ((List.length r.1 : Nat) : Int)) = true := by rw [zHg]; simp [hn]
    rw [h1]
    grind
end Go.Proofs.YtaokpakfhdeiiaaGreatDoor
end
section
namespace Go.Proofs.YtaokpakfhdeiiaaGreatDoor
open Go.Ev
set_option linter.unusedVariables false
set_option linter.unusedSimpArgs false
def zJU (b : Int) : Int := ((2 ^ b.toNat : Nat) : Int)
def zgE (b : Int) : Bool := decide (0 ≤ b) && decide (b < 64)
theorem zXj {b : Int} (h : zgE b = true) : Go.IntKind.wrap .u64 (1 * 2 ^ (min (Int.toNat b) (Go.IntKind.bits .u64))) = zJU b := by
  unfold zgE at h
  simp only [Bool.and_eq_true, decide_eq_true_eq] at h
  obtain ⟨n, rfl⟩ := Int.eq_ofNat_of_zero_le h.1
  have hn : n < 64 := by omega
  unfold zJU
  rw [Int.toNat_natCast]
  have hm : min n (Go.IntKind.bits .u64) = n := Nat.min_eq_left (by show n ≤ 64; omega)
  rw [hm]
  have : ∀ n : Fin 64, Go.IntKind.wrap .u64 (1 * 2 ^ n.val) = ((2 ^ n.val : Nat) : Int) := by decide +kernel
  exact this ⟨n, hn⟩
theorem zPF {n : Int} (h : 0 ≤ n ∧ n < 18446744073709551616) : Go.IntKind.wrap .u64 n = n := by
  show n % ((2 ^ 64 : Nat) : Int) = n
  exact Int.emod_eq_of_lt h.1 (by have : ((2 ^ 64 : Nat) : Int) = 18446744073709551616 := by decide
                                  omega)
def hasB (c : Int) (b : Nat) : Bool := c.toNat.testBit b
theorem has_eq (c b : Int) (hc : 0 ≤ c) (hb : 0 ≤ b ∧ b < 64) : (Int.tmod (Int.fdiv c (2 ^ min (Int.toNat (Go.IntKind.wrap .u64 b)) (Go.IntKind.bits .u64))) 2 == 1) = hasB c b.toNat := by
  obtain ⟨n, rfl⟩ := Int.eq_ofNat_of_zero_le hc
  obtain ⟨m, rfl⟩ := Int.eq_ofNat_of_zero_le hb.1
  rw [zPF (by omega)]
  have hm : min (Int.toNat (m : Int)) (Go.IntKind.bits .u64) = m := Nat.min_eq_left (by show (m : Int).toNat ≤ 64; omega)
  rw [hm]
  unfold hasB
  have h2 : Int.fdiv (n : Int) (2 ^ m) = ((n / 2 ^ m : Nat) : Int) := by
    rw [show ((2 : Int) ^ m) = ((2 ^ m : Nat) : Int) by simp]
    rw [Int.fdiv_eq_ediv_of_nonneg _ (Int.natCast_nonneg _)]
    rfl
  have h3 : Int.tmod ((n / 2 ^ m : Nat) : Int) 2 = ((n / 2 ^ m % 2 : Nat) : Int) := by
    rw [Int.tmod_eq_emod_of_nonneg (Int.natCast_nonneg _)]
    rfl
  rw [h2, h3, Int.toNat_natCast, Int.toNat_natCast, Nat.testBit_eq_decide_div_mod_eq]
  have : (((n / 2 ^ m % 2 : Nat) : Int) == 1) = decide (n / 2 ^ m % 2 = 1) := by
    by_cases h : n / 2 ^ m % 2 = 1
    · rw [h]; rfl
    · rw [decide_eq_false h]
      cases hx : (((n / 2 ^ m % 2 : Nat) : Int) == 1) with
      | false => rfl
      | true => exact absurd (Int.ofNat.inj (by simpa using hx)) h
  exact this
def zkG (a b : Int) : Int := Go.IntKind.wrap .u64 (BitVec.toNat (BitVec.ofInt (Go.IntKind.bits .u64) a &&& ~~~BitVec.ofInt (Go.IntKind.bits .u64) b) : Int)
def orI (a b : Int) : Int := Go.IntKind.wrap .u64 (BitVec.toNat (BitVec.ofInt (Go.IntKind.bits .u64) a ||| BitVec.ofInt (Go.IntKind.bits .u64) b) : Int)
def zvQ : Int → List qm → Int
  | a, [] => a
  | a, g :: gs => zvQ (orI a (zJU g.1)) gs
theorem zto (n : Nat) : BitVec.ofInt (Go.IntKind.bits .u64) (n : Int) = BitVec.ofNat 64 n := by
  show BitVec.ofInt 64 (n : Int) = BitVec.ofNat 64 n
  apply BitVec.eq_of_toNat_eq
  rw [BitVec.toNat_ofInt, BitVec.toNat_ofNat]
  omega
theorem zWv (x : BitVec 64) : Go.IntKind.wrap .u64 (x.toNat : Int) = (x.toNat : Int) := by
  have := x.isLt
  exact zPF (by omega)
theorem zWP (a b : Nat) (ha : a < 2 ^ 64) (hb : b < 2 ^ 64) : orI (a : Int) (b : Int) = ((a ||| b : Nat) : Int) := by
  unfold orI
  rw [zto, zto]
  show Go.IntKind.wrap .u64 ((BitVec.ofNat 64 a ||| BitVec.ofNat 64 b).toNat : Int) = _
  rw [zWv, BitVec.toNat_or, BitVec.toNat_ofNat, BitVec.toNat_ofNat, Nat.mod_eq_of_lt ha, Nat.mod_eq_of_lt hb]
theorem zIq (c m : Nat) (hc : c < 2 ^ 64) (hm : m < 2 ^ 64) : (zkG (c : Int) (m : Int) != 0) = !((List.range' 0 64).all fun i => !c.testBit i || m.testBit i) := by
  unfold zkG
  rw [zto, zto]
  show (Go.IntKind.wrap .u64 ((BitVec.ofNat 64 c &&& ~~~BitVec.ofNat 64 m).toNat : Int) != 0) = _
  rw [zWv]
  have hbit : ∀ i, i < 64 → (BitVec.ofNat 64 c &&& ~~~BitVec.ofNat 64 m).getLsbD i = (c.testBit i && !m.testBit i) := by
    intro i hi
    rw [BitVec.getLsbD_and, BitVec.getLsbD_not, BitVec.getLsbD_ofNat, BitVec.getLsbD_ofNat]
    simp [hi]
  by_cases h : ((List.range' 0 64).all fun i => !c.testBit i || m.testBit i) = true
  · rw [h]
    have h0 : (BitVec.ofNat 64 c &&& ~~~BitVec.ofNat 64 m) = 0#64 := by
      apply BitVec.eq_of_getLsbD_eq
      intro i hi
      rw [hbit i hi]
      have := List.all_eq_true.1 h i (by simp [List.mem_range'_1]; omega)
      revert this
      cases c.testBit i <;> cases m.testBit i <;> simp
    rw [h0]
    rfl
  · have h' := h
    simp only [Bool.not_eq_true] at h'
    rw [h']
    have : (BitVec.ofNat 64 c &&& ~~~BitVec.ofNat 64 m).toNat ≠ 0 := by
      intro h0
      apply h
      rw [List.all_eq_true]
      intro i hi
      simp only [List.mem_range'_1] at hi
      have hb := hbit i (by omega)
      have e0 : (BitVec.ofNat 64 c &&& ~~~BitVec.ofNat 64 m) = 0#64 := BitVec.eq_of_toNat_eq (by rw [h0]; rfl)
      rw [e0] at hb
      revert hb
      cases c.testBit i <;> cases m.testBit i <;> simp
    rw [Bool.not_false, bne_iff_ne]
    omega
theorem zWb {b : Int} (h : zgE b = true) : ∃ n : Nat, b = n ∧ n < 64 ∧ zJU b = ((2 ^ n : Nat) : Int) := by
  unfold zgE at h
  simp only [Bool.and_eq_true, decide_eq_true_eq] at h
  obtain ⟨n, rfl⟩ := Int.eq_ofNat_of_zero_le h.1
  exact ⟨n, rfl, by omega, rfl⟩
theorem zL4 : ∀ (l : List qm) (m : Nat), m < 2 ^ 64 → (∀ g ∈ l, zgE g.1 = true) → ∃ k : Nat, zvQ (m : Int) l = (k : Int) ∧ k < 2 ^ 64 ∧ ∀ i : Nat, k.testBit i = (m.testBit i || l.any fun g => g.1 == (i : Int))
  | [], m, hm, _ => ⟨m, rfl, hm, fun i => by simp⟩
  | g :: l, m, hm, h => by
    obtain ⟨n, hn, hn64, hv⟩ := zWb (h g (by simp))
    have hp : 2 ^ n < 2 ^ 64 := Nat.pow_lt_pow_right (by omega) hn64
    obtain ⟨k, hk, hk64, hb⟩ := zL4 l (m ||| 2 ^ n) (Nat.or_lt_two_pow hm hp) fun g hg => h g (by simp [hg])
    refine ⟨k, ?_, hk64, fun i => ?_⟩
    · simp only [zvQ]
      rw [hv, zWP m (2 ^ n) hm hp]
      exact hk
    · rw [hb i, Nat.testBit_or, Nat.testBit_two_pow, List.any_cons, hn, Bool.or_assoc]
      congr 2
      by_cases e : n = i
      · subst e; simp
      · rw [decide_eq_false e]
        symm
        simp only [beq_eq_false_iff_ne, ne_eq]
        omega
def zT6 (l : List qm) (c : Int) (i k : Nat) : Bool := (List.range' i k).all fun b => !hasB c b || l.any fun g => g.1 == (b : Int)
def zRh (labels : List zD) (l : List qm) : Bool := labels.all fun a => zT6 l a.2.1 0 64
def zD8 (l : List zD) : Prop := ∀ a ∈ l, 0 ≤ a.2.1 ∧ a.2.1 < 18446744073709551616
theorem zXk (labels : List zD) (l : List qm) (hl : zD8 labels) (h : ∀ g ∈ l, zgE g.1 = true) : (labels.any fun a => zkG a.2.1 (zvQ 0 l) != 0) = !zRh labels l := by
  obtain ⟨k, hk, hk64, hb⟩ := zL4 l 0 (by decide) h
  have hk' : zvQ 0 l = (k : Int) := hk
  rw [hk']
  unfold zRh
  have key : ∀ ls : List zD, zD8 ls → (ls.any fun a => zkG a.2.1 (k : Int) != 0) = !(ls.all fun a => zT6 l a.2.1 0 64) := by
    intro ls
    induction ls with
    | nil => intro _; rfl
    | cons a ls ih =>
      intro ha
      have h1 := ha a (by simp)
      rw [List.any_cons, List.all_cons, ih fun b hb => ha b (by simp [hb]), Bool.not_and]
      congr 1
      obtain ⟨c, hc⟩ := Int.eq_ofNat_of_zero_le h1.1
      rw [hc, zIq c k (by omega) hk64]
      congr 1
      unfold zT6
      congr 1
      funext i
      rw [hb i]
      unfold hasB
      simp
  exact key labels hl
def zPG (b : Int) : zD := (0, zJU b, ())
theorem zRi (b : Int) : zdl (b, ()) = some (bif zgE b then (zPG b, 0, ()) else ((0, 0, ()), 1, ())) := by
  simp only [zdl, zxJ]
  cases h : zgE b with
  | true =>
    have hs : wU (1 * 2 ^ min (Int.toNat b) (Go.IntKind.bits .u64)) = zJU b := zXj h
    rw [hs]
    simp only [zgE, Bool.and_eq_true, decide_eq_true_eq] at h
    simp only [zPG]
    grind
  | false =>
    simp only [zgE, Bool.and_eq_false_iff, decide_eq_false_iff_not] at h
    grind
theorem zT7 (a : zD) (c : Int) : zbc (a, some c, ()) = some (zkG a.2.1 c != 0, ()) := by
  rw [qd]; rfl
theorem zWc {σ α : Type} {B : (σ → Option (Int × Unit)) → σ → Option (Int × Unit)} {l : List α} (d : α) {p : α → Bool} (st : Int → σ) (hl : l.length ≤ Go.maxLen)
    (hin : ∀ k (i : Nat) x, i < l.length → l.getD i d = x → x ∈ l → B k (st i) = bif p x then some ((i : Int), ()) else k (st (wI (i + 1)))) (hout : ∀ k, B k (st l.length) = some (-1, ())) : iter B K0 (st 0) = some (zar p l 0, ()) := by
  have := zkd (α := Unit) (B := B) hl (fun i _ => st i) (fun i _ => some (zar p (l.drop i) i, ())) (fun _ _ => True) (fun k i s hi _ h => ?_) (fun k s _ => ?_) () trivial
  · simpa using this
  · rw [hin k i _ hi rfl (vm hi), h () trivial, zgI d hi]
    simp only [zar]
    cases p (l.getD i d) <;> rfl
  · rw [hout, List.drop_of_length_le (Nat.le_refl _)]; rfl
theorem zJV {l : List zD} {a : zD} (hl : l.length ≤ Go.maxLen) : vn (l, a, ()) = some (l.any fun y => eqI zJ a y, ()) := by
  have h : zdm (l, a, ()) = some (zar (fun y => eqI zJ a y) l 0, ()) :=
    zWc (B := zbH) (l := l) za1 (fun i => (l, (l.length : Int), i, a)) hl (fun k i x hi hx _ => by
      simp only [zbH]
      rw [ltT hi, qo hi, vM, hx]; rfl) (fun k => by simp only [zbH]; rw [ltF]; rfl)
  rw [qd]
  simp only [vn, ziA, h, Option.bind_some]
  rw [zIJ (p := fun y => eqI zJ a y) l 0 (Int.le_refl 0)]
def zRj (labels : List zD) (n : Nat) (last : Int) (g : qm) : Bool := zgE g.1 && (decide (last < g.1) && (within g.2.1 0 ((n : Int) - 1) && labels.any fun y => eqI zJ (zPG g.1) y))
def zj2 (labels : List zD) (n : Nat) : Int → List qm → Bool
  | _, [] => true
  | last, g :: gs => zRj labels n last g && zj2 labels n g.1 gs
def zHl (labels : List zD) (n : Nat) (l : List qm) : Bool := decide (l.length ≤ 8) && (zj2 labels n (-1) l && zRh labels l)
theorem zOh {labels : List zD} {m : Nat} : ∀ (l : List qm) (last : Int), zj2 labels m last l = true → ∀ g ∈ l, zgE g.1 = true
  | [], _, _, g, hg => by cases hg
  | a :: l, last, h, g, hg => by
    simp only [zj2, zRj, Bool.and_eq_true] at h
    rcases List.mem_cons.1 hg with rfl | hg
    · exact h.1.1
    · exact zOh l a.1 h.2 g hg
theorem zWd (r : ze) (h1 : r.1.length ≤ Go.maxLen) (h2 : r.2.2.1.length ≤ 1000000) (h3 : r.2.2.2.1.length ≤ Go.maxLen) (hL : zD8 r.1) : vR (r, ()) = some (zHl r.1 r.2.2.1.length r.2.2.2.1, ()) := by
  have hloop : vR (r, ()) = some (zj2 r.1 r.2.2.1.length (-1) r.2.2.2.1 && (decide (r.2.2.2.1.length ≤ 8) && !(r.1.any fun a => zkG a.2.1 (zvQ 0 r.2.2.2.1) != 0)), ()) :=
    zFL (B := zdo zdl zB vn zbc qE) (l := r.2.2.2.1) (α := Int × Int) vz (fun i s => (s.1, r.2.2.2.1, (r.2.2.2.1.length : Int), i, r, s.2))
      (fun rest s => some (zj2 r.1 r.2.2.1.length s.1 rest && (decide (r.2.2.2.1.length ≤ 8) && !(r.1.any fun a => zkG a.2.1 (zvQ s.2 rest) != 0)), ())) h3 (fun k i x rest s hi hx _ hr hk => by
        simp only [zdo]
        have hw : wI (((List.length r.2.2.1 : Nat) : Int) - 1) = (r.2.2.1.length : Int) - 1 := by
          unfold wI
          exact IntWalk.i64_in _ (by omega)
        rw [ltT hi, qo hi, hw]
        simp only [vM, hx, cond_true, zRi, Option.bind_some, zj2, zRj, zvQ]
        cases hb : zgE x.1 with
        | false => rfl
        | true =>
          simp only [cond_true, zj0, Option.bind_some, Bool.true_and, zJV h1]
          have hk' := hk (x.1, orI s.2 (zJU x.1))
          have e : decide (s.1 < x.1) = !decide ((x.1 : Int) ≤ s.1) := by grind
          rw [e]
          cases decide ((x.1 : Int) ≤ s.1) with
          | true => rfl
          | false =>
            cases within x.2.1 0 ((r.2.2.1.length : Int) - 1) with
            | false => rfl
            | true =>
              cases (r.1.any fun y => eqI zJ (zPG x.1) y) with
              | false => rfl
              | true => exact hk') (fun k s => by
        simp only [zdo]
        rw [ltF]
        simp only [cond_false, zj2, zvQ, Bool.true_and]
        rw [zqB (p := fun a => zkG a.2.1 s.2 != 0) h1 fun x _ => zT7 x s.2, Option.bind_some]
        grind) (-1, 0)
  rw [hloop]
  unfold zHl
  cases hr : zj2 r.1 r.2.2.1.length (-1) r.2.2.2.1 with
  | false => simp
  | true =>
    rw [zXk r.1 r.2.2.2.1 hL (zOh _ _ hr)]
    simp
theorem zT8 {labels : List zD} {n : Nat} : ∀ {l : List qm} {last : Int}, zj2 labels n last l = qM (fun i => zRj labels n (if i = 0 then last else (l.getD (i - 1) vz).1) (l.getD i vz)) 0 l.length := by
  intro l
  induction l with
  | nil => intro last; rfl
  | cons a l ih =>
    intro last
    simp only [zj2, List.length_cons, qM, ih]
    rw [Bool.eq_iff_iff]
    simp only [Bool.and_eq_true, yb]
    constructor
    · rintro ⟨h1, h2⟩
      refine ⟨h1, fun j h3 h4 => ?_⟩
      obtain ⟨i, rfl⟩ : ∃ i, j = i + 1 := ⟨j - 1, by omega⟩
      have := h2 i (by omega) (by omega)
      rw [if_neg (by omega)]
      by_cases e : i = 0
      · subst e; simpa using this
      · rw [if_neg e] at this
        obtain ⟨m, rfl⟩ : ∃ m, i = m + 1 := ⟨i - 1, by omega⟩
        exact this
    · rintro ⟨h1, h2⟩
      refine ⟨h1, fun j h3 h4 => ?_⟩
      have := h2 (j + 1) (by omega) (by omega)
      rw [if_neg (by omega)] at this
      by_cases e : j = 0
      · subst e; simpa using this
      · rw [if_neg e]
        obtain ⟨m, rfl⟩ : ∃ m, j = m + 1 := ⟨j - 1, by omega⟩
        exact this
def qH (r : ze) : Bool := zkE r.1 && (zGX r && (zor r.2.2.1 && (zHl r.1 r.2.2.1.length r.2.2.2.1 && (zsE r.1.length r.2.2.2.2.1 && zHk r))))
structure yr (r : ze) : Prop where
  labels : zD8 r.1
  guilds : r.2.2.2.1.length ≤ Go.maxLen
  quotas : r.2.2.2.2.1.length ≤ Go.maxLen
theorem zhV (r : ze) (h : yr r) : qe (r, ()) = some (qH r, ()) := by
  rw [qd]
  show iter ziW K0 (6, 0, r, [some vQ, some yK, some j9, some vR, some vS, some zaA]) = _
  obtain ⟨m, hm⟩ := zHi
  have hu : iter ziW (m + 8) (6, 0, r, [some vQ, some yK, some j9, some vR, some vS, some zaA]) =
    Option.bind (vQ (r, ())) fun q => bif q.1 then Option.bind (yK (r, ())) fun q => bif q.1 then Option.bind (j9 (r, ())) fun q => bif q.1 then Option.bind (vR (r, ())) fun q => bif q.1 then Option.bind (vS (r, ())) fun q => bif q.1 then Option.bind (zaA (r, ())) fun q => bif q.1 then some (true, ()) else some (false, ()) else some (false, ()) else some (false, ()) else some (false, ()) else some (false, ()) else some (false, ()) := by kernel_rfl
  rw [hm, hu, zV8]
  unfold qH
  simp only [Option.bind_some]
  cases h1 : zkE r.1 with
  | false => rfl
  | true =>
    have hb : 1 ≤ r.1.length ∧ r.1.length ≤ 8 := by unfold zkE within at h1; grind
    rw [zWO r (by omega), zT4]
    simp only [Option.bind_some, cond_true]
    cases zGX r with
    | false => rfl
    | true =>
      cases h2 : zor r.2.2.1 with
      | false => rfl
      | true =>
        have hc : r.2.2.1.length ≤ 8 := by unfold zor within at h2; grind
        rw [zWd r (by unfold Go.maxLen; omega) (by omega) h.guilds h.labels, zWa r (by omega), zXi]
        simp only [Option.bind_some]
        grind
end Go.Proofs.YtaokpakfhdeiiaaGreatDoor
end
section
namespace Go.Proofs.YtaokpakfhdeiiaaGreatDoor
open Go.Ev
set_option linter.unusedVariables false
set_option linter.unusedSimpArgs false
def zbo (x : Int) : Bool := decide (0 ≤ x ∧ x ≤ 127)
theorem zT9 (x : Int) : zkp (x, ()) = some (zbo x, ()) := by simp only [zkp, zDK, zbo]; grind
theorem zVl (x : Int) : zom (x, ()) = some (zbo x, ()) := by simp only [zom, zGz, zbo]; grind
def zHm (x : qX) : Bool := zbo x.1 && zbo x.2.1
theorem zWQ (x : qX) : zgb (x, ()) = some (zHm x, ()) := by simp only [zgb, zxP, zHm, zbo]; grind
def zUa (x : Int) : Bool := decide (0 ≤ x ∧ x ≤ 5)
theorem zWR (x : Int) : zgc (x, ()) = some (zUa x, ()) := by simp only [zgc, zxQ, zUa]; grind
def zL5 (s : ByteArray) : Bool := ByteArray.toList s == ByteArray.toList (ByteArray.mk #[])
def zqD (x : jm) : Bool := bif x.1 then zD5 x.2.1 else zL5 x.2.1
theorem zVm (x : jm) : zc3 (x, ()) = some (!zqD x, ()) := by
  rw [qd]
  simp only [zc3, zsf, zyN, Option.bind_some, zqD, zL5]
  grind
end Go.Proofs.YtaokpakfhdeiiaaGreatDoor
end
