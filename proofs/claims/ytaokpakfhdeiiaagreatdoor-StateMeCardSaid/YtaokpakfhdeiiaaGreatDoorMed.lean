import Derived.Test.YtaokpakfhdeiiaaGreatDoorMec
import Derived.Test.YtaokpakfhdeiiaaGreatDoorProg
import Derived.RangeFuncBox
import Derived.RangeFuncLeaves
import Derived.Shelf.Abstract
import Derived.WalkKit
import Derived.OwnWalkIn
import Derived.TacticsInMore
import Derived.LoopNIn
import Derived.LoopIn
import Derived.Maps.AppendAt
import Derived.Laws.Bits64b
import Derived.Lib.TrailingZeros
section
namespace Go.Proofs.YtaokpakfhdeiiaaGreatDoor
open Go.Ev
set_option linter.unusedVariables false
abbrev zMa : Ty := (.pair zQP .unit)
abbrev zUG : Type := (qb × Unit) → Option (zKl × Unit)
abbrev zI5 (g : Fnc zL9 zMa) : Fun := ⟨260, zL9, zMa, 0, g⟩
abbrev znl : Ty := (.pair zQP .unit)
abbrev znm : Ty := (.pair .bool .unit)
abbrev zyF : Type := (zKl × Unit) → Option (Bool × Unit)
abbrev zl4 (g : Fnc znl znm) : Fun := ⟨261, znl, znm, 0, g⟩
abbrev zl5 : Ty := (.pair (.sl qA) (.pair (.fn (.pair qA .unit) (.pair .bool .unit)) .unit))
abbrev zfL : Ty := (.pair (.int .i64) .unit)
abbrev zvQ : Type := ((List qy) × ((Option ((qy × Unit) → Option (Bool × Unit))) × Unit)) → Option (Int × Unit)
abbrev zki (g : Fnc zl5 zfL) : Fun := ⟨262, zl5, zfL, 0, g⟩
abbrev zxq : Ty := (.pair qA .unit)
abbrev zxr : Ty := (.pair .bool .unit)
abbrev zKK : Type := (qy × Unit) → Option (Bool × Unit)
abbrev zut (g : Fnc zxq zxr) : Fun := ⟨263, zxq, zxr, 0, g⟩
abbrev zI6 : Ty := (.pair .str .unit)
abbrev zI7 : Ty := (.pair .bool .unit)
abbrev zR0 : Type := (ByteArray × Unit) → Option (Bool × Unit)
abbrev zEA (g : Fnc zI6 zI7) : Fun := ⟨264, zI6, zI7, 0, g⟩
abbrev zkj : Ty := (.pair (.sl zB) (.pair (.fn (.pair zB .unit) (.pair .bool .unit)) .unit))
abbrev zek : Ty := (.pair (.int .i64) .unit)
abbrev zuu : Type := ((List zn) × ((Option ((zn × Unit) → Option (Bool × Unit))) × Unit)) → Option (Int × Unit)
abbrev ziZ (g : Fnc zkj zek) : Fun := ⟨265, zkj, zek, 0, g⟩
abbrev zMb : Ty := (.pair (.int .i64) .unit)
abbrev zMc : Ty := (.pair .bool .unit)
abbrev zMd : Type := (Int × Unit) → Option (Bool × Unit)
abbrev zp0 (g : Fnc zMb zMc) : Fun := ⟨266, zMb, zMc, 0, g⟩
abbrev zI8 : Ty := (.pair ziy .unit)
abbrev zI9 : Ty := (.pair .bool .unit)
abbrev zR1 : Type := (zmq × Unit) → Option (Bool × Unit)
abbrev zEB (g : Fnc zI8 zI9) : Fun := ⟨267, zI8, zI9, 0, g⟩
abbrev zEC : Ty := (.pair ziy .unit)
abbrev zED : Ty := (.pair .bool .unit)
abbrev zPz : Type := (zmq × Unit) → Option (Bool × Unit)
abbrev zAM (g : Fnc zEC zED) : Fun := ⟨268, zEC, zED, 0, g⟩
abbrev zJa : Ty := (.pair (.int .i64) (.pair (.int .u64) (.pair (.int .u64) .unit)))
abbrev zJb : Ty := (.pair (.int .u64) (.pair (.int .i64) .unit))
abbrev zJc : Type := (Int × (Int × (Int × Unit))) → Option (Int × (Int × Unit))
abbrev znn (g : Fnc zJa zJb) : Fun := ⟨269, zJa, zJb, 0, g⟩
abbrev zPA : Ty := (.pair (.int .i64) .unit)
abbrev zPB : Ty := (.pair .bool .unit)
abbrev zY0 : Type := (Int × Unit) → Option (Bool × Unit)
abbrev zMe (g : Fnc zPA zPB) : Fun := ⟨270, zPA, zPB, 0, g⟩
abbrev zMf : Ty := (.pair (.int .i64) .unit)
abbrev zMg : Ty := (.pair .bool .unit)
abbrev zUH : Type := (Int × Unit) → Option (Bool × Unit)
abbrev zJd (g : Fnc zMf zMg) : Fun := ⟨271, zMf, zMg, 0, g⟩
abbrev zkk : Ty := (.pair (.sl zw) (.pair (.fn (.pair zw .unit) (.pair .bool .unit)) .unit))
abbrev zel : Ty := (.pair (.int .i64) .unit)
abbrev zuv : Type := ((List zj) × ((Option ((zj × Unit) → Option (Bool × Unit))) × Unit)) → Option (Int × Unit)
abbrev zi0 (g : Fnc zkk zel) : Fun := ⟨272, zkk, zel, 0, g⟩
abbrev zkl : Ty := (.pair (.sl zC) (.pair (.fn (.pair zC .unit) (.pair .bool .unit)) .unit))
abbrev zem : Ty := (.pair (.int .i64) .unit)
abbrev zuw : Type := ((List zH) × ((Option ((zH × Unit) → Option (Bool × Unit))) × Unit)) → Option (Int × Unit)
abbrev zi1 (g : Fnc zkl zem) : Fun := ⟨273, zkl, zem, 0, g⟩
abbrev zno : Ty := (.pair (.sl z5) (.pair (.fn (.pair z5 .unit) (.pair .bool .unit)) .unit))
abbrev zgJ : Ty := (.pair (.int .i64) .unit)
abbrev zyG : Type := ((List jE) × ((Option ((jE × Unit) → Option (Bool × Unit))) × Unit)) → Option (Int × Unit)
abbrev zl6 (g : Fnc zno zgJ) : Fun := ⟨274, zno, zgJ, 0, g⟩
abbrev zxs : Ty := (.pair (.sl (.int .i64)) (.pair (.int .i64) .unit))
abbrev zoe : Ty := (.pair (.int .i64) .unit)
abbrev zKL : Type := ((List Int) × (Int × Unit)) → Option (Int × Unit)
abbrev zux (g : Fnc zxs zoe) : Fun := ⟨275, zxs, zoe, 0, g⟩
abbrev zuy : Ty := (.pair (.int .i64) .unit)
abbrev zuz : Ty := (.pair .bool .unit)
abbrev zHa : Type := (Int × Unit) → Option (Bool × Unit)
abbrev zsg (g : Fnc zuy zuz) : Fun := ⟨277, zuy, zuz, 0, g⟩
abbrev znp : Ty := (.pair (.int .u64) .unit)
abbrev znq : Ty := (.pair .bool .unit)
abbrev zyH : Type := (Int × Unit) → Option (Bool × Unit)
abbrev zl7 (g : Fnc znp znq) : Fun := ⟨278, znp, znq, 0, g⟩
abbrev zEE : Ty := (.pair (.int .u8) (.pair (.ptr (.fn (.pair (.int .u8) .unit) (.pair .bool .unit))) .unit))
abbrev zEF : Ty := (.pair .bool .unit)
abbrev zPC : Type := (Int × ((Option (Option ((Int × Unit) → Option (Bool × Unit)))) × Unit)) → Option (Bool × Unit)
abbrev zAN (g : Fnc zEE zEF) : Fun := ⟨279, zEE, zEF, 0, g⟩
abbrev zh3 : Ty := (.pair (.sl (.int .u8)) (.pair (.fn (.pair (.int .u8) .unit) (.pair .bool .unit)) .unit))
abbrev zh4 : Ty := (.pair .bool .unit)
abbrev zp1 : Type := ((List Int) × ((Option ((Int × Unit) → Option (Bool × Unit))) × Unit)) → Option (Bool × Unit)
abbrev zf3 (g : Fnc zh3 zh4) : Fun := ⟨280, zh3, zh4, 0, g⟩
abbrev zAO : Ty := (.pair (.int .u64) (.pair (.int .u64) .unit))
abbrev zAP : Ty := (.pair (.int .u64) (.pair (.int .i64) .unit))
abbrev zNB : Type := (Int × (Int × Unit)) → Option (Int × (Int × Unit))
abbrev zxt (g : Fnc zAO zAP) : Fun := ⟨281, zAO, zAP, 0, g⟩
abbrev zMh : Ty := (.pair (.int .i64) .unit)
abbrev zMi : Ty := (.pair .bool .unit)
abbrev zUI : Type := (Int × Unit) → Option (Bool × Unit)
abbrev zJe (g : Fnc zMh zMi) : Fun := ⟨282, zMh, zMi, 0, g⟩
abbrev zPD : Ty := (.pair (.int .i64) .unit)
abbrev zPE : Ty := (.pair .bool .unit)
abbrev zY1 : Type := (Int × Unit) → Option (Bool × Unit)
abbrev zMj (g : Fnc zPD zPE) : Fun := ⟨283, zPD, zPE, 0, g⟩
abbrev zEG : Ty := (.pair (.int .u8) .unit)
abbrev zEH : Ty := (.pair .bool .unit)
abbrev zPF : Type := (Int × Unit) → Option (Bool × Unit)
abbrev zAQ (g : Fnc zEG zEH) : Fun := ⟨284, zEG, zEH, 0, g⟩
abbrev zxu : Ty := (.pair .str (.pair .str .unit))
abbrev zxv : Ty := (.pair .str .unit)
abbrev zKM : Type := (ByteArray × (ByteArray × Unit)) → Option (ByteArray × Unit)
abbrev zuA (g : Fnc zxu zxv) : Fun := ⟨285, zxu, zxv, 0, g⟩
abbrev zEI : Ty := (.pair (.int .u64) (.pair (.int .u64) .unit))
abbrev zEJ : Ty := (.pair (.int .u64) (.pair (.int .i64) .unit))
abbrev zPG : Type := (Int × (Int × Unit)) → Option (Int × (Int × Unit))
abbrev zAR (g : Fnc zEI zEJ) : Fun := ⟨286, zEI, zEJ, 0, g⟩
abbrev zl8 : Ty := (.pair (.sl (.int .u8)) (.pair (.fn (.pair (.int .u8) .unit) (.pair .bool .unit)) .unit))
abbrev zfM : Ty := (.pair (.int .i64) .unit)
abbrev zvR : Type := ((List Int) × ((Option ((Int × Unit) → Option (Bool × Unit))) × Unit)) → Option (Int × Unit)
abbrev zkm (g : Fnc zl8 zfM) : Fun := ⟨289, zl8, zfM, 0, g⟩
abbrev zh5 : Ty := (.pair .str (.pair (.int .u8) .unit))
abbrev zcO : Ty := (.pair .str .unit)
abbrev zp2 : Type := (ByteArray × (Int × Unit)) → Option (ByteArray × Unit)
abbrev zf4 (g : Fnc zh5 zcO) : Fun := ⟨290, zh5, zcO, 0, g⟩
abbrev zf5 : Ty := (.pair .str (.pair (.int .u8) .unit))
abbrev zb9 : Ty := (.pair .str .unit)
abbrev zoL : Type := (ByteArray × (Int × Unit)) → Option (ByteArray × Unit)
abbrev zeY (g : Fnc zf5 zb9) : Fun := ⟨291, zf5, zb9, 0, g⟩
abbrev zpD : Ty := (.pair (.int .u64) (.pair (.int .u64) .unit))
abbrev zpE : Ty := (.pair (.int .u64) (.pair (.int .u64) .unit))
abbrev zBT : Type := (Int × (Int × Unit)) → Option (Int × (Int × Unit))
abbrev znr (g : Fnc zpD zpE) : Fun := ⟨297, zpD, zpE, 0, g⟩
def ext : List (Nat × Bool) := [(124, false), (199, true)]
def E0 : Env := ⟨types, [], glob, 0, false, ext⟩
theorem mixed : Tryz.prog.follows .mixedOrders = true := by kernel_rfl
theorem mkS {l : List Fun} {d : Bool} {F : Fun} {f : Go.Func} {K : Nat} (hl : Sds Tryz.prog E0 l) (hf : Tryz.prog.funcs[F.id]? = some f) (ho : z8L f = true) (h : evF (En E0 d l) K f F.md F.a F.r = F.spec) : Sd Tryz.prog E0 F := Sd.mk mixed hl hf ho h
end Go.Proofs.YtaokpakfhdeiiaaGreatDoor
end
section
namespace Go.Proofs.YtaokpakfhdeiiaaGreatDoor
open Go.Ev Go.RowKit Go.Shelf Go.Proofs
set_option linter.unusedVariables false
set_option linter.unusedSimpArgs false
attribute [local go_sem] Oper.semAt_some
def zbm (c : Nat) : List Nat := (List.range 64).filter c.testBit
theorem zPH (p q : Nat → Bool) (k : Nat) (hp : ∀ i, i < k → p i = false ∧ q i = false) (hk : p k = true ∧ q k = false) (hq : ∀ i, k < i → p i = q i) : ∀ n, (List.range n).filter p = (if k < n then [k] else []) ++ (List.range n).filter q
  | 0 => rfl
  | n + 1 => by
    rw [List.range_succ, List.filter_append, List.filter_append, zPH p q k hp hk hq n]
    by_cases h1 : k < n
    · rw [if_pos h1, if_pos (by omega), List.append_assoc]
      have := hq n h1
      simp [List.filter_cons, this]
    · by_cases h2 : k = n
      · subst h2
        rw [if_neg h1, if_pos (by omega)]
        have e : (List.range k).filter q = [] := by
          rw [List.filter_eq_nil_iff]
          intro i hi
          rw [(hp i (by simpa using hi)).2]; simp
        simp [hk.1, hk.2, e]
      · rw [if_neg h1, if_neg (by omega)]
        have := hp n (by omega)
        simp [this.1, this.2]
theorem zEK {k m i : Nat} : (2 ^ k * (2 * m + 1)).testBit i = (decide (k ≤ i) && (decide (i = k) || (2 ^ k * (2 * m)).testBit i)) ∧ ((2 ^ k * (2 * m)).testBit i = true → k < i) := by
  rw [Nat.mul_comm (2 ^ k), Nat.mul_comm (2 ^ k), Nat.testBit_mul_two_pow, Nat.testBit_mul_two_pow]
  by_cases h : k ≤ i
  · by_cases e : i = k
    · subst e
      simp [Nat.testBit_zero]
    · obtain ⟨j, rfl⟩ : ∃ j, i = k + (j + 1) := ⟨i - k - 1, by omega⟩
      rw [show k + (j + 1) - k = j + 1 by omega, Nat.testBit_succ, Nat.testBit_succ, show (2 * m + 1) / 2 = m by omega, show 2 * m / 2 = m by omega]
      simp
  · simp [h]
theorem z8M {k m : Nat} : (2 ^ k * (2 * m + 1)) &&& (2 ^ k * (2 * m + 1) - 1) = 2 ^ k * (2 * m) := by
  have e : 2 ^ k * (2 * m + 1) - 1 = 2 ^ k * (2 * m) + (2 ^ k - 1) := by
    have := Nat.two_pow_pos k
    rw [Nat.mul_add, Nat.mul_one]; omega
  apply Nat.eq_of_testBit_eq
  intro i
  rw [Nat.testBit_and, e, Nat.testBit_two_pow_mul_add _ (by have := Nat.two_pow_pos k; omega)]
  have := @zEK k m i
  rw [this.1]
  by_cases h : i < k
  · have h2 : (2 ^ k * (2 * m)).testBit i = false := by
      cases hb : (2 ^ k * (2 * m)).testBit i with
      | false => rfl
      | true => have := this.2 hb; omega
    simp [h2, h]
    omega
  · have h3 : (2 ^ k * (2 * m)).testBit i = (2 * m).testBit (i - k) := by
      rw [Nat.mul_comm, Nat.testBit_mul_two_pow]; simp; omega
    rw [if_neg h, h3]
    by_cases e : i = k
    · subst e; simp [Nat.testBit_zero]
    · simp [e]; omega
theorem z7Y {c : Nat} (h0 : c ≠ 0) (h : c < 18446744073709551616) : zbm c = Lib.ctz 64 c :: zbm (c &&& (c - 1)) := by
  obtain ⟨m, hm, hk⟩ := Lib.ctzFrom_spec 64 c (by omega) h
  have e : Lib.ctz 64 c = Lib.ctzFrom 64 c := by simp [Lib.ctz, h0]
  rw [e]
  generalize Lib.ctzFrom 64 c = k at hm hk
  subst hm
  rw [z8M]
  unfold zbm
  have hlow : ∀ i, i ≤ k → (2 ^ k * (2 * m)).testBit i = false := by
    intro i hi
    cases hb : (2 ^ k * (2 * m)).testBit i with
    | false => rfl
    | true => have := zEK.2 hb; omega
  rw [zPH (2 ^ k * (2 * m + 1)).testBit (2 ^ k * (2 * m)).testBit k (fun i hi => ⟨by rw [zEK.1]; simp; omega, hlow i (by omega)⟩) ⟨by rw [zEK.1]; simp, hlow k (Nat.le_refl _)⟩ (fun i hi => by rw [zEK.1]; simp [show k ≤ i by omega, show i ≠ k by omega]) 64, if_pos hk]
  rfl
theorem z7Z : zbm 0 = [] := by
  unfold zbm
  rw [List.filter_eq_nil_iff]
  intro i _
  simp
theorem z8N (c : Nat) : (zbm c).length ≤ 64 := by
  unfold zbm
  have := List.length_filter_le c.testBit (List.range 64)
  simpa using this
theorem z9W {c : Nat} (h0 : c ≠ 0) : c &&& (c - 1) < c := by
  have := @Nat.and_le_right c (c - 1)
  omega
def TabAt (w : World) : Prop := ∀ j, j < Lib.deBruijn64tab.length → w.cell? ⟨0, j, none⟩ = some (.int .u8 (Lib.deBruijn64tab.getD j 0))
theorem z9X (x a : Nat) (hx : x < 18446744073709551616) (hx0 : x ≠ 0) (hlow : x &&& (18446744073709551616 - x) = a) :
    IntKind.u64.wrap (bits BinOp.and IntKind.u64 (x : Int) (IntKind.u64.wrap (-(x : Int))) * 285870213051353865) / 288230376151711744 = ((a * 285870213051353865 % 18446744073709551616 / 288230376151711744 : Nat) : Int) := by
  have e1 : IntKind.u64.wrap (-(x : Int)) = ((18446744073709551616 - x : Nat) : Int) := by rw [IntKind.wrap_u64]; omega
  rw [e1, bits_and_u64_nat x _ hx (by omega), hlow, IntKind.wrap_u64]
  omega
set_option maxRecDepth 100000 in
set_option maxHeartbeats 1000000 in
theorem z9o (n : Nat) (x k idx : Nat) (w : World) (hx1 : ((x : Int) == 0) = false)
    (key : IntKind.u64.wrap (bits BinOp.and IntKind.u64 (x : Int) (IntKind.u64.wrap (-(x : Int))) * 285870213051353865) / 288230376151711744 = (idx : Int))
    (hi : idx < 64) (hk : k < 64) (hcell : w.cell? ⟨0, idx, none⟩ = some (.int .u8 k)) :
    CallsIn Fence.wide n Tryz.prog 288 #[.int .u64 x] w fun e w' => e = .returned (.int .i64 k) ∧ w' = w := by
  refine callsIn_of_wp Tryz.func288 rfl trivial ?_ rfl
  simp only [show Tryz.f288.ntmps = 14 by kernel_rfl, List.size_toArray, List.length_cons, List.length_nil, Nat.reduceAdd, Nat.reduceSub, Array.replicate_succ, Array.replicate_zero, List.push_toArray, List.append_toArray, List.nil_append, List.cons_append]
  gi_wp2_with (simp only [key])
  go_ret
  exact ⟨rfl, rfl⟩
theorem qaa (n : Nat) (x : Nat) (hx : x < 18446744073709551616) (hx0 : x ≠ 0) (w : World) (hT : TabAt w) :
    CallsIn Fence.wide n Tryz.prog 288 #[.int .u64 x] w fun e w' => e = .returned (.int .i64 (Lib.ctz 64 x)) ∧ w' = w := by
  obtain ⟨hlow, hk⟩ := Lib.lowest_bit 64 x hx0 hx
  obtain ⟨hi, htab⟩ := Lib.deBruijn64_at _ hk
  have hcell := hT _ hi
  rw [htab] at hcell
  exact z9o n x _ _ w (by simp; omega) (z9X x _ hx hx0 hlow) hi hk hcell
theorem z13 {x : Nat} (hx : x < 18446744073709551616) : IntKind.u64.wrap (x : Int) = (x : Int) := by rw [IntKind.wrap_u64]; omega
theorem z8O (c : Nat) (h0 : c ≠ 0) (h : c < 18446744073709551616) : bits BinOp.and IntKind.u64 (c : Int) (IntKind.u64.wrap ((c : Int) - 1)) = ((c &&& (c - 1) : Nat) : Int) := by
  rw [show ((c : Int) - 1) = ((c - 1 : Nat) : Int) by omega, z13 (by omega), bits_and_u64_nat c _ h (by omega)]
def z9a (v : Value) : Nat := match v with | .int _ n => n.toNat | _ => 0
set_option maxRecDepth 100000 in
set_option maxHeartbeats 1000000 in
theorem z9p (n : Nat) (l Bn n₀ : Nat) (lev : Int) (c0 : Nat) (h64 : c0 < 18446744073709551616) (hn₀ : 1 ≤ n₀) (J Jx : List Nat → World → Prop)
    (hY : ∀ pre x W, J pre W → pre.length < (zbm c0).length → YieldAt Fence.wide (n - 1) Tryz.prog l #[.int .i64 (x : Nat)] W fun e W' =>
      (e = .returned (.bool true) ∧ J (pre ++ [x]) W' ∧ Below n₀ W W') ∨ (e = .returned (.bool false) ∧ Jx (pre ++ [x]) W'))
    (W : World) (hBn : W.cell? ⟨Bn, 0, none⟩ = some (.int .i64 lev)) (hBn1 : W.cell? ⟨Bn, 1, none⟩ = some (.int .u64 c0)) (hT : TabAt W) (h0 : J [] W) :
    CallsIn Fence.wide n Tryz.prog 287 #[.func (.yield l) #[] #[], .pointer (some ⟨Bn, 0, none⟩)] W fun e W' => (∃ v, e = .returned v) ∧
      ((∃ ys, ys = zbm c0 ∧ J ys W') ∨ (∃ pre, pre <+: zbm c0 ∧ Jx pre W')) := by
  refine callsIn_of_wp Tryz.func287 rfl trivial ?_ rfl
  simp only [show Tryz.f287.ntmps = 17 by kernel_rfl, List.size_toArray, List.length_cons, List.length_nil, Nat.reduceAdd, Nat.reduceSub, Array.replicate_succ, Array.replicate_zero, List.push_toArray, List.append_toArray, List.nil_append, List.cons_append]
  gi_wp2
  gi_loopw [3] (fun p wr => ∃ (pre : List Nat) (c : Nat), p = .int .u64 c ∧ c < 18446744073709551616 ∧ zbm c0 = pre ++ zbm c ∧ TabAt wr ∧ J pre wr)
    (fun p wr => z9a p)
  case atStart =>
    exact ⟨[], c0, rfl, h64, rfl, hT, h0⟩
  case round =>
    obtain ⟨pre, c, rfl, hc, hx, hTr, hJs⟩ := hrel
    by_cases hz : c = 0
    · subst hz
      gi_wp2
      go_end0
      exact ⟨⟨_, rfl⟩, .inl ⟨pre, by rw [hx, z7Z, List.append_nil], hJs⟩⟩
    · have hx' := hx
      rw [z7Y hz hc] at hx'
      obtain ⟨fn, tmps, assign, body, hy, hR⟩ := hY pre (Lib.ctz 64 c) wr hJs (by rw [hx']; simp)
      have hz1 : ((c : Int) == 0) = false := by simp; omega
      gi_wp2
      refine ⟨trivial, fun h => (by cases h), (qaa (n - 1) c hc hz wr hTr).mono ?_⟩
      rintro e w' ⟨rfl, hw'⟩
      subst hw'
      gi_wp2
      refine ⟨fun h => (by cases h), hR.mono ?_⟩
      rintro e W3 (⟨rfl, hJ3, hk3⟩ | ⟨rfl, hJx3⟩)
      · have hT3 : TabAt W3 := fun j hj => (hk3.cell (p := ⟨0, j, none⟩) (Nat.lt_of_lt_of_le Nat.zero_lt_one hn₀)).trans (hTr j hj)
        have hk : bits BinOp.and IntKind.u64 (c : Int) ((c : Int) - 1) = ((c &&& (c - 1) : Nat) : Int) := by rw [← z8O c hz hc, IntKind.wrap_u64]; congr 1; omega
        gi_wp2
        go_roundw
        case rel => exact ⟨pre ++ [Lib.ctz 64 c], c &&& (c - 1), rfl, Nat.lt_of_le_of_lt Nat.and_le_left hc, by rw [hx', List.append_assoc]; rfl, hT3, hJ3⟩
        case measure => simp [z9a]; exact z9W hz
      · gi_wp2
        refine bodyPost_ret (results_none rfl _ _ _) rfl ?_
        exact ⟨⟨_, rfl⟩, .inr ⟨pre ++ [Lib.ctz 64 c], ⟨zbm (c &&& (c - 1)), by rw [hx', List.append_assoc]; rfl⟩, hJx3⟩⟩
set_option maxHeartbeats 1000000 in
theorem z8P (n : Nat) (lev : Int) (c : Nat) (w : World) :
    CallsIn Fence.wide n Tryz.prog 276 #[.agg #[.int .i64 lev, .int .u64 c]] w fun e w' => e = .returned (.func (.func 287) #[] #[.pointer (some ⟨w.heap.size, 0, none⟩)]) ∧ w' = w.alloc (.cells #[.int .i64 lev, .int .u64 c] 131) := by
  refine callsIn_of_wp Tryz.func276 rfl trivial ?_ rfl
  simp only [show Tryz.f276.ntmps = 4 by kernel_rfl, List.size_toArray, List.length_cons, List.length_nil, Nat.reduceAdd, Nat.reduceSub, Array.replicate_succ, Array.replicate_zero, List.push_toArray, List.append_toArray, List.nil_append, List.cons_append]
  gi_wp2
  go_ret
  exact ⟨rfl, rfl⟩
theorem z6C (n : Nat) (Bn n₀ : Nat) (lev : Int) (c0 : Nat) (h64 : c0 < 18446744073709551616) (w : World) (hBn : Bn < w.heap.size) (hn₀ : 1 ≤ n₀) (hn1 : n₀ ≤ w.heap.size)
    (hc : w.cell? ⟨Bn, 0, none⟩ = some (.int .i64 lev)) (hc1 : w.cell? ⟨Bn, 1, none⟩ = some (.int .u64 c0)) (hT : TabAt w) :
    SeqStopsK Fence.wide n Tryz.prog 287 #[.pointer (some ⟨Bn, 0, none⟩)] (fun x : Nat => #[Value.int .i64 x]) (Below n₀) (fun ys => ys = zbm c0) (fun pre => pre <+: zbm c0) (zbm c0).length w := fun l J Jx W hW _ _ hY h0 =>
  z9p n l Bn n₀ lev c0 h64 hn₀ J Jx hY W ((hW.cell (p := ⟨Bn, 0, none⟩) hBn).trans hc) ((hW.cell (p := ⟨Bn, 1, none⟩) hBn).trans hc1) (fun j hj => (hW.cell (p := ⟨0, j, none⟩) (show 0 < _ by omega)).trans (hT j hj)) h0
theorem qab : (Tryz.prog.info? 3).map (fun i => (i.zero, i.size, i.bytes)) = some (some (.int .i64 0), 1, 8) := by kernel_rfl
theorem qac : Tryz.prog.underlying 23 = some (.slice 3) := by kernel_rfl
set_option maxRecDepth 100000 in
set_option maxHeartbeats 2000000 in
theorem z9q (n : Nat) (hn : 1 ≤ n) (lev : Int) (c : Nat) (h64 : c < 18446744073709551616) (w : World) (hs : 1 ≤ w.heap.size) (hT : TabAt w) :
    CallsIn Fence.wide n Tryz.prog 232 #[.agg #[.int .i64 lev, .int .u64 c]] w fun e W' => ∃ v, e = .returned v ∧ W'.ownsRow w.heap.size 3 1 v (zbm c).length ((zbm c).map fun x => Value.int .i64 (x : Nat)) ∧ Below w.heap.size w W' := by
  obtain ⟨i0, hi, hz0, hz1, hz2⟩ := info_parts qab
  refine callsIn_of_wp_marks Tryz.func232 rfl trivial ?_ rfl
  simp only [show Tryz.f232.ntmps = 13 by kernel_rfl, List.size_toArray, List.length_cons, List.length_nil, Nat.reduceAdd, Nat.reduceSub, Array.replicate_succ, Array.replicate_zero, List.push_toArray, List.append_toArray, List.nil_append, List.cons_append]
  gi_wp2
  refine ⟨trivial, (z8P (n - 1) lev c _).mono ?_⟩
  rintro e w' ⟨rfl, rfl⟩
  gi_wp2
  have bO : Boxed (((w.alloc (.cells #[.int .i64 lev, .int .u64 c] 131)).alloc (.cells #[.slice none 0 0] 23)).alloc (.cells #[.int .i64 lev, .int .u64 c] 131)) (w.heap.size + 1) 23 (.slice none 0 0) := by
    have := Boxed.new (w.alloc (.cells #[.int .i64 lev, .int .u64 c] 131)) 23 (.slice none 0 0)
    rw [World.size_alloc] at this
    exact this.alloc _
  have hB0 : Below w.heap.size w (((w.alloc (.cells #[.int .i64 lev, .int .u64 c] 131)).alloc (.cells #[.slice none 0 0] 23)).alloc (.cells #[.int .i64 lev, .int .u64 c] 131)) := (((Below.refl _ w).alloc (Nat.le_refl _) _).alloc (by simp) _).alloc (by simp; omega) _
  have hz : (((w.alloc (.cells #[.int .i64 lev, .int .u64 c] 131)).alloc (.cells #[.slice none 0 0] 23)).alloc (.cells #[.int .i64 lev, .int .u64 c] 131)).heap.size = w.heap.size + 1 + 1 + 1 := by simp
  have hbx : (((w.alloc (.cells #[.int .i64 lev, .int .u64 c] 131)).alloc (.cells #[.slice none 0 0] 23)).alloc (.cells #[.int .i64 lev, .int .u64 c] 131)).heap[w.heap.size + 1 + 1]? = some (.cells #[.int .i64 lev, .int .u64 c] 131 (0, 0)) := by
    have := World.alloc_heap_new ((w.alloc (.cells #[.int .i64 lev, .int .u64 c] 131)).alloc (.cells #[.slice none 0 0] 23)) (.cells #[.int .i64 lev, .int .u64 c] 131)
    simpa [World.size_alloc] using this
  have hT1 : TabAt (((w.alloc (.cells #[.int .i64 lev, .int .u64 c] 131)).alloc (.cells #[.slice none 0 0] 23)).alloc (.cells #[.int .i64 lev, .int .u64 c] 131)) := fun j hj => (hB0.cell (p := ⟨0, j, none⟩) (Nat.lt_of_lt_of_le Nat.zero_lt_one hs)).trans (hT j hj)
  generalize (((w.alloc (.cells #[.int .i64 lev, .int .u64 c] 131)).alloc (.cells #[.slice none 0 0] 23)).alloc (.cells #[.int .i64 lev, .int .u64 c] 131)) = w1 at bO hB0 hz hbx hT1
  refine wpIn_rangeFunc_ownG rfl (n := n) hn (gf := 287) (lb := #[.pointer (some ⟨w.heap.size + 1 + 1, 0, none⟩)]) rfl trivial (enters_of Tryz.func287 (by kernel_rfl) rfl)
    (z6C (n - 1) (w.heap.size + 1 + 1) w.heap.size lev c h64 w1 (by omega) hs (by omega) (by simp [World.cell?, hbx]) (by simp [World.cell?, hbx]) hT1) belowK_t (belowK_b (by omega)) (Below.refl _ _) (fun _ => rfl)
    (fun pre W => (∃ v, Boxed W (w.heap.size + 1) 23 v ∧ W.ownsRow w.heap.size 3 1 v pre.length (pre.map fun x => Value.int .i64 (x : Nat)) ∧ True) ∧ Below w.heap.size w W)
    (fun _ _ _ => False)
    (OwnFrom.and (Own.from (holdsRow_own w.heap.size (w.heap.size + 1) 23 3 1 (fun pre : List Nat => pre.length) (fun pre : List Nat => pre.map fun x => Value.int .i64 (x : Nat)) (fun _ _ => True)) _) (ownFrom_below (Nat.le_refl _) (by omega)))
    (fun _ _ _ _ _ hs _ _ => hs)
    ⟨⟨_, bO, World.ownsRow_nil _ _ _ _, trivial⟩, hB0⟩
    (fun x => { tmps := #[.agg #[.int .i64 lev, .int .u64 c], .pointer (some ⟨w.heap.size, 0, none⟩), .slice none 0 0, .pointer (some ⟨w.heap.size + 1, 0, none⟩), .int .i64 (x : Nat), .agg #[.int .i64 lev, .int .u64 c], .func (.func 287) #[] #[.pointer (some ⟨w.heap.size + 1 + 1, 0, none⟩)], .int .i64 (x : Nat), undef, undef, undef, undef, undef], defers := [] }) ?assign ?body ?done ?stop
  case assign =>
    intro l x W K hK
    gi_wp2
    exact hK
  case body =>
    rintro l pre x W ⟨⟨v, hv, hrow, -⟩, hB⟩ hlt
    have hc := hv.cell
    have hl64 := z8N c
    gi_wp2_with (gi_at_builtin; refine wpListIn_append_own _ rfl _ _ 23 rfl w.heap.size 3 i0 (.int .i64 0) 1 8 qac hi hz0 hz1 hz2 rfl (by decide) _ _ _ rfl (hrow.alloc _) ⟨W.heap.size, 0, none⟩ 1 1 [.int .i64 (x : Nat)] rfl rfl (cell_one_new _ _ _) (by simp [Value.oneCell']) (by simp only [Go.maxLen]; omega) (by omega) (by have := hB.size; simp; omega) ?_; intro v' w1' hown' hgrow _; obtain ⟨g', cap', rfl⟩ := ownsRow_succ hown'; obtain ⟨hv1, hv2, hr2, hk2, hb2⟩ := hv.appended (by decide) hrow hB.size (by omega) hown' hgrow; have hc1 := hv1.cell; have hf1 := hv1.frozen)
    exact ⟨hk2.from _, hb2, ⟨_, hv2, by simpa using hr2, trivial⟩, hB.trans hb2⟩
  case done =>
    rintro D ys W hD rfl ⟨⟨v, hv, hrow, -⟩, hB⟩ hK
    have hc := hv.cell
    gi_wp2
    refine ⟨by simp, .inl ⟨_, _, rfl, run_takeDeferred hK, ?_⟩⟩
    exact ⟨_, results_tmp rfl _ _ _, v, rfl, ownsRow_putObj hrow _ hK rfl, hB.trans (belowK_b (w := w) (Nat.le_refl _) W D _ _ (by omega) hK rfl rfl)⟩
  case stop =>
    rintro D c pre W _ _ h _
    exact h.elim
def zuB : zPu := fun x => bif decide (0 ≤ x.1.2.1 ∧ x.1.2.1 < 18446744073709551616) then some ((zbm x.1.2.1.toNat).map Int.ofNat, ()) else none
theorem z8Q {G F0 : FH} {w : World} (hE : z4 Tryz.prog G E0) (hG : G.le F0) (hk : F0.ok w) : TabAt w ∧ 1 ≤ w.heap.size := by
  obtain ⟨τ, x, cs, h1, ⟨-, c, h2, h3⟩, h4⟩ := hE.glob 0 _ rfl
  cases h1
  obtain ⟨-, hr⟩ := h4
  obtain ⟨el, fz, hw⟩ := hk _ _ (hG _ _ h2)
  have hlt := (Array.getElem?_eq_some_iff.1 hw).1
  refine ⟨fun j hj => ?_, hlt⟩
  have key : ∀ (l : List Int) (cs : List Value) (j : Nat), zE ((RR Tryz.prog (.int .u8)).1 G) l cs → j < l.length → cs[j]? = some (.int .u8 (l.getD j 0)) := by
    intro l
    induction l with
    | nil => intro cs j _ h; simp at h
    | cons x l ih =>
      rintro cs j ⟨d, e, rfl, hd, he⟩ hj
      have hd : d = [.int .u8 x] := hd
      subst hd
      cases j with
      | zero => rfl
      | succ j => simpa using ih e j he (by simpa using hj)
  have h5 := key _ _ j hr (by simpa [Lib.deBruijn64tab] using hj)
  have h6 := h3 j _ h5
  have e : ∀ j, j < 64 → ((([0, 1, 56, 2, 57, 49, 28, 3, 61, 58, 42, 50, 38, 29, 17, 4, 62, 47, 59, 36, 45, 43, 51, 22, 53, 39, 33, 30, 24, 18, 12, 5, 63, 55, 48, 27, 60, 41, 37, 16, 46, 35, 44, 21, 52, 32, 23, 11, 54, 26, 40, 15, 34, 20, 31, 10, 25, 14, 19, 9, 13, 8, 7, 6] : List Int)).getD j 0) = ((Lib.deBruijn64tab.getD j 0 : Nat) : Int) := by decide +kernel
  rw [e j (by simpa [Lib.deBruijn64tab] using hj)] at h6
  unfold World.cell?
  simp only [hw]
  simpa using h6
theorem zY2 (P : Program) (F : FH) : ∀ l : List Nat, zE (Rep P F (.int .i64)) (l.map Int.ofNat) (l.map fun x => Value.int .i64 (x : Nat))
  | [] => rfl
  | x :: l => ⟨[.int .i64 (x : Nat)], l.map fun x => Value.int .i64 (x : Nat), rfl, rfl, zY2 P F l⟩
theorem z14 : Sd Tryz.prog E0 (zAH zuB) := by
  intro G hE
  refine ⟨⟨Tryz.f232, Tryz.func232, by kernel_rfl, by kernel_rfl⟩, ?_⟩
  rintro ⟨⟨(lev : Int), (comps : Int), ⟨⟩⟩, ⟨⟩⟩ y hy F0 w vs hG hk ⟨v, r, rfl, h1, h2, h3⟩
  obtain ⟨hd, hy⟩ := zd hy
  cases hy
  obtain ⟨hc0, hc1⟩ := of_decide_eq_true hd
  have hc0 : 0 ≤ comps := hc0
  have hc1 : comps < 18446744073709551616 := hc1
  clear hd
  obtain rfl : r = [] := h3
  obtain ⟨hT, hs⟩ := z8Q hE hG hk
  obtain ⟨c, rfl⟩ := Int.eq_ofNat_of_zero_le hc0
  have hv : v = .agg #[.int .i64 lev, .int .u64 c] := by
    obtain ⟨d1, e1, k1, (rfl : d1 = _), d2, e2, rfl, (rfl : d2 = _), (rfl : e2 = _)⟩ := h1
    have h2 : zkU v = true := h2
    cases v with
    | agg cs =>
      have : cs.toList = [.int .i64 lev, .int .u64 c] := k1
      rw [← Array.toArray_toList (xs := cs), this]
    | _ => cases h2
  subst hv
  have hin := callsIn_wide.1 (z9q 1 (Nat.le_refl _) lev c (by omega) w hs hT)
  refine hin.mono ?_
  rintro e W' ⟨v, rfl, hrow, hB⟩
  have hlow : ∀ k c', F0 k = some c' → k < w.heap.size := fun k c' hk' => by
    obtain ⟨el, fz, hw⟩ := hk _ _ hk'
    exact (Array.getElem?_eq_some_iff.1 hw).1
  let F' : FH := fun k => if k < w.heap.size then F0 k else FH.of W' k
  have hF' : ∀ k c', F' k = some c' → ∃ el fz, W'.heap[k]? = some (.cells c' el fz) := by
    intro k c' h
    simp only [F'] at h
    split at h
    · rename_i hlt
      obtain ⟨el, fz, hw⟩ := hk _ _ h
      exact ⟨el, fz, (hB.block k hlt).trans hw⟩
    · exact FH.of_ok W' _ _ h
  refine ⟨[v], F', rfl, hB, ⟨fun k c' hk' => ?_, fun k hk' => ?_⟩, hF', ?_⟩
  · simp only [F']; rw [if_pos (hlow k c' hk')]; exact hk'
  · simp only [F']; rw [if_pos hk']
  · show yP Tryz.prog F' (.pair (.sl tI) .unit) ((zbm c).map Int.ofNat, ()) [v]
    have hlen : List.length ((zbm c).map Int.ofNat) = (zbm c).length := List.length_map ..
    have hr := zY2 Tryz.prog F' (zbm c)
    generalize (zbm c).map Int.ofNat = L at hlen hr ⊢
    rcases hrow.2 with ⟨rfl, h0⟩ | ⟨g, cap, cur, rfl, hgb, hw, hnc, -, -, htake⟩
    · obtain rfl : L = [] := List.eq_nil_of_length_eq_zero (by omega)
      exact ⟨_, [], rfl, ⟨none, 0, rfl, Nat.le_refl _, fun hne => absurd rfl hne⟩, rfl, rfl⟩
    · refine ⟨_, [], rfl, ⟨some ⟨g, 0, none⟩, cap, ?_, (show List.length L ≤ cap by omega), fun _ => ⟨_, _, rfl, ⟨rfl, cur, ?_, fun j u hj => ?_⟩, hr⟩⟩, rfl, rfl⟩
      · show _ = [Value.slice _ (List.length L) cap]
        rw [hlen]; rfl
      · show (if g < w.heap.size then F0 g else FH.of W' g) = some cur
        rw [if_neg (by omega)]
        simp only [FH.of, hw]
      · rw [← htake] at hj
        have := List.getElem?_eq_some_iff.1 hj
        obtain ⟨h1, h2⟩ := this
        rw [List.getElem_take] at h2
        show cur[0 + j]? = _
        rw [Nat.zero_add, ← Array.getElem?_toList, List.getElem?_eq_getElem (by rw [List.length_take] at h1; omega), h2]
end Go.Proofs.YtaokpakfhdeiiaaGreatDoor
end
section
namespace Go.Proofs.YtaokpakfhdeiiaaGreatDoor
open Go.Ev
set_option linter.unusedVariables false
noncomputable section
section
def zNC : Unit → Option (ze × Unit) := fun () =>
  some (([(0, 0, ()), (0, 1, ()), (1, 1, ())], [0, 1, 2], [(ByteArray.mk #[97, 110, 110], ByteArray.mk #[97], 1, true, ()), (ByteArray.mk #[98, 111, 98], ByteArray.mk #[98], 0, false, ())], [(0, 0, ())], [(2, 2, 2, 2, 2, 1000, ()), (2, 2, 2, 2, 2, 1000, ()), (2, 2, 2, 2, 2, 1000, ())], 4, 6, 2, 3, ()), ())
theorem zZh (K : Nat) : evF (En E0 false []) K Tryz.f64 0 zzE zzF = zNC := funext fun () => by kernel_rfl
end
def zgg : zNc := zNC
theorem zZi : Sd Tryz.prog E0 (zwF zgg) := mkS (l := []) trivial Tryz.func64 (by kernel_rfl) (zZh K0)
section
def zAS : (zu × Unit) → Option (Bool × Unit) := fun (x0, ()) =>
  bif decide (x0.1 ≥ 0) then bif decide (x0.1 < 4) then some (true, ()) else some (false, ()) else some (false, ())
theorem zZj (K : Nat) : evF (En E0 false []) K Tryz.f170 0 zAp zAq = zAS := funext fun (x0, ()) => by kernel_rfl
end
def zgh : zNx := zAS
theorem zZk : Sd Tryz.prog E0 (zxa zgh) := mkS (l := []) trivial Tryz.func170 (by kernel_rfl) (zZj K0)
section
variable (zAT : zNx)
def zsh : (zu × Unit) → Option (Bool × Unit) := fun (x0, ()) =>
  Option.bind (zAT (x0, ())) fun q0 => bif q0.1 then some (false, ()) else some (true, ())
theorem zSv (K : Nat) : evF (En E0 false [zxa zAT]) K Tryz.f169 0 zrW zrX = zsh zAT := funext fun (x0, ()) => by kernel_rfl
end
def zcn : zDN := zsh zgh
theorem zSw : Sd Tryz.prog E0 (zpn zcn) := mkS (l := [zxa zgh]) ⟨zZk, trivial⟩ Tryz.func169 (by kernel_rfl) (zSv zgh K0)
section
def zxw : (Int × (Int × (Int × Unit))) → Option (Bool × Unit) := fun (x0, x1, x2, ()) =>
  bif decide (x0 ≥ x1) then bif decide (x0 ≤ x2) then some (true, ()) else some (false, ()) else some (false, ())
theorem zW5 (K : Nat) : evF (En E0 false []) K Tryz.f171 0 zxb zxc = zxw := funext fun (x0, x1, x2, ()) => by kernel_rfl
end
def zL : yd := zxw
theorem yS : Sd Tryz.prog E0 (qo zL) := mkS (l := []) trivial Tryz.func171 (by kernel_rfl) (zW5 K0)
section
abbrev zuC : Env := (En E0 false [])
abbrev zas : Type := (List zu) × (Option ((zu × Unit) → Option (Bool × Unit))) × Int × Int
abbrev zJf : zas → St := fun (v0, v1, v7, v8) => St.mk [(0, AV.dat (Ty.sl zr) v0), (1, AV.dat (Ty.fn (Ty.pair zr Ty.unit) (Ty.pair Ty.bool Ty.unit)) v1), (7, AV.dat tI v7), (8, AV.dat tI v8)] []
def zh6 (k0 : zas → Option (Int × Unit)) : zas → Option (Int × Unit) := fun (v0, v1, v7, v8) =>
  bif decide (v8 < v7) then inR v8 ((List.length v0) : Int) (Option.bind v1 fun q0 => Option.bind (q0 (ix yj v0 v8, ())) fun q1 => bif q1.1 then some (v8, ()) else k0 (v0, v1, v7, wI (v8 + 1))) else some ((-1), ())
abbrev zp3 (K : Nat) : zas → Option (Int × Unit) := iter (zh6) K
theorem zJg (K : Nat) : ∀ n, evV (zuC) K Tryz.f233 0 zei [1, 0, 1, 0] [] zJf n = iter (zh6) n := zp fun n0 (v0, v1, v7, v8) => by kernel_rfl
def zkn (L0 : zas → Option (Int × Unit)) : ((List zu) × ((Option ((zu × Unit) → Option (Bool × Unit))) × Unit)) → Option (Int × Unit) := fun (x0, x1, ()) =>
  L0 (x0, x1, ((List.length x0) : Int), 0)
theorem zMk (K : Nat) : evF (zuC) K Tryz.f233 0 zka zei = zkn (zp3 K) := tr1 (T := zkn) (zJg K K) fun (x0, x1, ()) => by kernel_rfl
end
def yT : zum := zkn (zp3 K0)
theorem zMl : Sd Tryz.prog E0 (ziX yT) := mkS (l := []) trivial Tryz.func233 (by kernel_rfl) (zMk K0)
section
variable (zko : zum)
def zoM : ((List zu) × ((Option ((zu × Unit) → Option (Bool × Unit))) × Unit)) → Option (Bool × Unit) := fun (x0, x1, ()) =>
  Option.bind (zko (x0, x1, ())) fun q0 => bif decide (q0.1 ≥ 0) then some (true, ()) else some (false, ())
theorem zGo (K : Nat) : evF (En E0 false [ziX zko]) K Tryz.f172 0 zfO zfP = zoM zko := funext fun (x0, x1, ()) => by kernel_rfl
end
def jk : zfQ := zoM yT
theorem zoN : Sd Tryz.prog E0 (yy jk) := mkS (l := [ziX yT]) ⟨zMl, trivial⟩ Tryz.func172 (by kernel_rfl) (zGo yT K0)
section
def zuD : (Int × Unit) → Option (Bool × Unit) := fun (x0, ()) =>
  bif x0 != x0 then some (true, ()) else some (false, ())
theorem zUJ (K : Nat) : evF (En E0 false []) K Tryz.f277 0 zuy zuz = zuD := funext fun (x0, ()) => by kernel_rfl
end
def zdl : zHa := zuD
theorem zUK : Sd Tryz.prog E0 (zsg zdl) := mkS (l := []) trivial Tryz.func277 (by kernel_rfl) (zUJ K0)
section
variable (zgK : zHa)
def zpF : (Int × (Int × Unit)) → Option (Int × Unit) := fun (x0, x1, ()) =>
  Option.bind (zgK (x0, ())) fun q0 => bif q0.1 then Option.bind (zgK (x1, ())) fun q1 => bif q1.1 then some (0, ()) else some ((-1), ()) else Option.bind (zgK (x1, ())) fun q2 => bif q2.1 then some (1, ()) else bif decide (x0 < x1) then some ((-1), ()) else bif decide (x0 > x1) then some (1, ()) else some (0, ())
theorem zQX (K : Nat) : evF (En E0 false [zsg zgK]) K Tryz.f235 0 zpy zpz = zpF zgK := funext fun (x0, x1, ()) => by kernel_rfl
end
def vC : zpA := zpF zdl
theorem zBU : Sd Tryz.prog E0 (zc3 vC) := mkS (l := [zsg zdl]) ⟨zUK, trivial⟩ Tryz.func235 (by kernel_rfl) (zQX zdl K0)
section
def zns : (Int × Unit) → Option (Bool × Unit) := fun (x0, ()) =>
  bif x0 != x0 then some (true, ()) else some (false, ())
theorem zPI (K : Nat) : evF (En E0 false []) K Tryz.f278 0 znp znq = zns := funext fun (x0, ()) => by kernel_rfl
end
def zaY : zyH := zns
theorem zPJ : Sd Tryz.prog E0 (zl7 zaY) := mkS (l := []) trivial Tryz.func278 (by kernel_rfl) (zPI K0)
section
variable (zc4 : zyH)
def zkp : (Int × (Int × Unit)) → Option (Int × Unit) := fun (x0, x1, ()) =>
  Option.bind (zc4 (x0, ())) fun q0 => bif q0.1 then Option.bind (zc4 (x1, ())) fun q1 => bif q1.1 then some (0, ()) else some ((-1), ()) else Option.bind (zc4 (x1, ())) fun q2 => bif q2.1 then some (1, ()) else bif decide (x0 < x1) then some ((-1), ()) else bif decide (x0 > x1) then some (1, ()) else some (0, ())
theorem zMm (K : Nat) : evF (En E0 false [zl7 zc4]) K Tryz.f236 0 zkb zkc = zkp zc4 := funext fun (x0, x1, ()) => by kernel_rfl
end
def jM : zkd := zkp zaY
theorem zuE : Sd Tryz.prog E0 (zaX jM) := mkS (l := [zl7 zaY]) ⟨zPJ, trivial⟩ Tryz.func236 (by kernel_rfl) (zMm zaY K0)
section
abbrev zPK : Env := (En E0 false [])
abbrev zi2 : Type := Int × (List Int) × Int × Int
abbrev zW6 : zi2 → St := fun (v3, v6, v7, v8) => St.mk [(3, AV.dat tI v3), (6, AV.dat (Ty.sl tI) v6), (7, AV.dat tI v7), (8, AV.dat tI v8)] []
def vL (k0 : zi2 → Option (Int × Unit)) : zi2 → Option (Int × Unit) := fun (v3, v6, v7, v8) =>
  bif decide (v8 < v7) then inR v8 ((List.length v6) : Int) (bif ix (0 : Int) v6 v8 != v3 then some (ix (0 : Int) v6 v8, ()) else k0 (v3, v6, v7, wI (v8 + 1))) else some (v3, ())
abbrev zKN (K : Nat) : zi2 → Option (Int × Unit) := iter (vL) K
theorem zW7 (K : Nat) : ∀ n, evV (zPK) K Tryz.f234 0 zun [1, 1, 0, 1, 0] [] zW6 n = iter (vL) n := zp fun n0 (v3, v6, v7, v8) => by kernel_rfl
def zEL (L0 : zi2 → Option (Int × Unit)) : ((List Int) × Unit) → Option (Int × Unit) := fun (x0, ()) =>
  L0 (0, x0, ((List.length x0) : Int), 0)
theorem z15 (K : Nat) : evF (zPK) K Tryz.f234 0 zEd zun = zEL (zKN K) := tr1 (T := zEL) (zW7 K K) fun (x0, ()) => by kernel_rfl
end
def zat : zEe := zEL (zKN K0)
theorem zPL : Sd Tryz.prog E0 (zkZ zat) := mkS (l := []) trivial Tryz.func234 (by kernel_rfl) (z15 K0)
section
variable (zaa : zpA) (vU : zkd) (zeZ : zEe)
def zJh : (zu × (zu × Unit)) → Option (Int × Unit) := fun (x0, x1, ()) =>
  Option.bind (zaa (x0.1, x1.1, ())) fun q0 => Option.bind (vU (x0.2.1, x1.2.1, ())) fun q1 => Option.bind (zeZ (zk (zk (List.replicate 2 (0 : Int)) 0 q0.1) 1 q1.1, ())) fun q2 => some (q2.1, ())
theorem z4h (K : Nat) : evF (En E0 false [zc3 zaa, zaX vU, zkZ zeZ]) K Tryz.f173 0 zID zIE = zJh zaa vU zeZ := funext fun (x0, x1, ()) => by kernel_rfl
end
def zh7 : zRM := zJh vC jM zat
theorem z4i : Sd Tryz.prog E0 (zDO zh7) := mkS (l := [zc3 vC, zaX jM, zkZ zat]) ⟨zBU, zuE, zPL, trivial⟩ Tryz.func173 (by kernel_rfl) (z4h vC jM zat K0)
section
variable (zaP : zDN) (zt : yd) (zS : zfQ) (zeu : zRM)
abbrev zKO : Env := (En E0 false [zpn zaP, qo zt, yy zS, zDO zeu])
abbrev ze0 : Type := Int × ze
abbrev zSx : ze0 → St := fun (v4, o0) => St.mk [(1, AV.bp 0 []), (4, AV.dat tI v4)] [Obj.bx (AV.dat zD o0) false]
def zkq (k0 : ze0 → Option (Bool × Unit)) : ze0 → Option (Bool × Unit) := fun (v4, o0) =>
  bif decide (v4 < ((List.length o0.1) : Int)) then inR (wI (v4 - 1)) ((List.length o0.1) : Int) (inR v4 ((List.length o0.1) : Int) (Option.bind (zeu (List.getD o0.1 (Int.toNat (wI (v4 - 1))) (zb zr), ix yj o0.1 v4, ())) fun q2 => bif decide (q2.1 ≥ 0) then some (false, ()) else k0 (wI (v4 + 1), o0))) else some (true, ())
abbrev zsi (K : Nat) : ze0 → Option (Bool × Unit) := iter (zkq zeu) K
theorem zSy (K : Nat) : ∀ n, evV (zKO zaP zt zS zeu) K Tryz.f84 0 zn9 [1, 1, 1, 0, 1, 0] [] zSx n = iter (zkq zeu) n := zp fun n0 (v4, o0) => by kernel_rfl
def zof (L0 : ze0 → Option (Bool × Unit)) : (ze × Unit) → Option (Bool × Unit) := fun (x0, ()) =>
  Option.bind (zt (((List.length x0.1) : Int), 1, 8, ())) fun q0 => bif q0.1 then bif decide (0 < ((List.length x0.1) : Int)) then bif !eqI zr (ix yj x0.1 0) (zb zr) then some (false, ()) else Option.bind (zS (x0.1, some zaP, ())) fun q1 => bif q1.1 then some (false, ()) else L0 (1, x0) else none else some (false, ())
theorem zW8 (K : Nat) : evF (zKO zaP zt zS zeu) K Tryz.f84 0 zwM zn9 = zof zaP zt zS (zsi zeu K) := tr1 (T := zof zaP zt zS) (zSy zaP zt zS zeu K K) fun (x0, ()) => by kernel_rfl
end
def yU : zKA := zof zcn zL jk (zsi zh7 K0)
theorem zW9 : Sd Tryz.prog E0 (ztD yU) := mkS (l := [zpn zcn, qo zL, yy jk, zDO zh7]) ⟨zSw, yS, zoN, z4i, trivial⟩ Tryz.func84 (by kernel_rfl) (zW8 zcn zL jk zh7 K0)
section
variable (zt : yd)
def zuF : (Int × ((Option ze) × Unit)) → Option (Bool × Unit) := fun (x0, x1, ()) =>
  Option.bind x1 fun q0 => Option.bind (zt (x0, 0, wI (((List.length q0.1) : Int) - 1), ())) fun q1 => bif q1.1 then some (false, ()) else some (true, ())
theorem zUL (K : Nat) : evF (En E0 false [qo zt]) K Tryz.f174 0 zt8 zt9 = zuF zt := funext fun (x0, x1, ()) => by kernel_rfl
end
def zby : zG5 := zuF zL
theorem zUM : Sd Tryz.prog E0 (zrY zby) := mkS (l := [qo zL]) ⟨yS, trivial⟩ Tryz.func174 (by kernel_rfl) (zUL zL K0)
section
abbrev zyI : Env := (En E0 false [])
abbrev zbz : Type := (List Int) × (Option ((Int × Unit) → Option (Bool × Unit))) × Int × Int
abbrev zMn : zbz → St := fun (v0, v1, v7, v8) => St.mk [(0, AV.dat (Ty.sl tI) v0), (1, AV.dat (Ty.fn (Ty.pair tI Ty.unit) (Ty.pair Ty.bool Ty.unit)) v1), (7, AV.dat tI v7), (8, AV.dat tI v8)] []
def zkr (k0 : zbz → Option (Int × Unit)) : zbz → Option (Int × Unit) := fun (v0, v1, v7, v8) =>
  bif decide (v8 < v7) then inR v8 ((List.length v0) : Int) (Option.bind v1 fun q0 => Option.bind (q0 (ix (0 : Int) v0 v8, ())) fun q1 => bif q1.1 then some (v8, ()) else k0 (v0, v1, v7, wI (v8 + 1))) else some ((-1), ())
abbrev zuG (K : Nat) : zbz → Option (Int × Unit) := iter (zkr) K
theorem zMo (K : Nat) : ∀ n, evV (zyI) K Tryz.f230 0 zgI [1, 0, 1, 0] [] zMn n = iter (zkr) n := zp fun n0 (v0, v1, v7, v8) => by kernel_rfl
def znt (L0 : zbz → Option (Int × Unit)) : ((List Int) × ((Option ((Int × Unit) → Option (Bool × Unit))) × Unit)) → Option (Int × Unit) := fun (x0, x1, ()) =>
  L0 (x0, x1, ((List.length x0) : Int), 0)
theorem zPM (K : Nat) : evF (zyI) K Tryz.f230 0 znj zgI = znt (zuG K) := tr1 (T := znt) (zMo K K) fun (x0, x1, ()) => by kernel_rfl
end
def zaZ : zyE := znt (zuG K0)
theorem zPN : Sd Tryz.prog E0 (zlZ zaZ) := mkS (l := []) trivial Tryz.func230 (by kernel_rfl) (zPM K0)
section
variable (znu : zyE)
def zsP : ((List Int) × ((Option ((Int × Unit) → Option (Bool × Unit))) × Unit)) → Option (Bool × Unit) := fun (x0, x1, ()) =>
  Option.bind (znu (x0, x1, ())) fun q0 => bif decide (q0.1 ≥ 0) then some (true, ()) else some (false, ())
theorem zKP (K : Nat) : evF (En E0 false [zlZ znu]) K Tryz.f160 0 ziS ziT = zsP znu := funext fun (x0, x1, ()) => by kernel_rfl
end
def zK : yr := zsP zaZ
theorem za0 : Sd Tryz.prog E0 (qF zK) := mkS (l := [zlZ zaZ]) ⟨zPN, trivial⟩ Tryz.func160 (by kernel_rfl) (zKP zaZ K0)
section
variable (zuH : zG5) (zt : yd) (zv : yr)
def zAU : (ze × Unit) → Option (Bool × Unit) := fun (x0, ()) =>
  Option.bind (zt (((List.length x0.2.1) : Int), 1, 8, ())) fun q0 => bif q0.1 then Option.bind (zv (x0.2.1, some fun z => zuH (z.1, some x0, ()), ())) fun q1 => bif q1.1 then some (false, ()) else some (true, ()) else some (false, ())
theorem zZl (K : Nat) : evF (En E0 false [zrY zuH, qo zt, qF zv]) K Tryz.f85 0 zzI zzJ = zAU zuH zt zv := funext fun (x0, ()) => by kernel_rfl
end
def zaI : zNe := zAU zby zL zK
theorem zZm : Sd Tryz.prog E0 (zwN zaI) := mkS (l := [zrY zby, qo zL, qF zK]) ⟨zUM, yS, za0, trivial⟩ Tryz.func85 (by kernel_rfl) (zZl zby zL zK K0)
section
def zEM : (Int × Unit) → Option (Bool × Unit) := fun (x0, ()) =>
  bif decide (x0 ≥ 97) then bif decide (x0 ≤ 122) then some (true, ()) else some (false, ()) else some (false, ())
theorem z16 (K : Nat) : evF (En E0 false []) K Tryz.f237 0 zEf zEg = zEM := funext fun (x0, ()) => by kernel_rfl
end
def zbA : zEh := zEM
theorem zPO : Sd Tryz.prog E0 (zk0 zbA) := mkS (l := []) trivial Tryz.func237 (by kernel_rfl) (z16 K0)
section
def zPP : (Int × ((Option (Option ((Int × Unit) → Option (Bool × Unit)))) × Unit)) → Option (Bool × Unit) := fun (x0, x1, ()) =>
  Option.bind x1 fun q0 => Option.bind q0 fun q1 => Option.bind (q1 (x0, ())) fun q2 => bif q2.1 then some (false, ()) else some (true, ())
theorem z17 (K : Nat) : evF (En E0 false []) K Tryz.f279 0 zEE zEF = zPP := funext fun (x0, x1, ()) => by kernel_rfl
end
def zi3 : zPC := zPP
theorem z18 : Sd Tryz.prog E0 (zAN zi3) := mkS (l := []) trivial Tryz.func279 (by kernel_rfl) (z17 K0)
section
abbrev zvS : Env := (En E0 false [])
abbrev za1 : Type := (List Int) × (Option ((Int × Unit) → Option (Bool × Unit))) × Int × Int
abbrev zKQ : za1 → St := fun (v0, v1, v7, v8) => St.mk [(0, AV.dat (Ty.sl (Ty.int IntKind.u8)) v0), (1, AV.dat (Ty.fn (Ty.pair (Ty.int IntKind.u8) Ty.unit) (Ty.pair Ty.bool Ty.unit)) v1), (7, AV.dat tI v7), (8, AV.dat tI v8)] []
def zi4 (k0 : za1 → Option (Int × Unit)) : za1 → Option (Int × Unit) := fun (v0, v1, v7, v8) =>
  bif decide (v8 < v7) then inR v8 ((List.length v0) : Int) (Option.bind v1 fun q0 => Option.bind (q0 (ix (zb (Ty.int IntKind.u8)) v0 v8, ())) fun q1 => bif q1.1 then some (v8, ()) else k0 (v0, v1, v7, wI (v8 + 1))) else some ((-1), ())
abbrev zsQ (K : Nat) : za1 → Option (Int × Unit) := iter (zi4) K
theorem zKR (K : Nat) : ∀ n, evV (zvS) K Tryz.f289 0 zfM [1, 0, 1, 0] [] zKQ n = iter (zi4) n := zp fun n0 (v0, v1, v7, v8) => by kernel_rfl
def zl9 (L0 : za1 → Option (Int × Unit)) : ((List Int) × ((Option ((Int × Unit) → Option (Bool × Unit))) × Unit)) → Option (Int × Unit) := fun (x0, x1, ()) =>
  L0 (x0, x1, ((List.length x0) : Int), 0)
theorem zOi (K : Nat) : evF (zvS) K Tryz.f289 0 zl8 zfM = zl9 (zsQ K) := tr1 (T := zl9) (zKR K K) fun (x0, x1, ()) => by kernel_rfl
end
def zah : zvR := zl9 (zsQ K0)
theorem zOj : Sd Tryz.prog E0 (zkm zah) := mkS (l := []) trivial Tryz.func289 (by kernel_rfl) (zOi K0)
section
variable (zma : zvR)
def zp4 : ((List Int) × ((Option ((Int × Unit) → Option (Bool × Unit))) × Unit)) → Option (Bool × Unit) := fun (x0, x1, ()) =>
  Option.bind (zma (x0, x1, ())) fun q0 => bif decide (q0.1 ≥ 0) then some (true, ()) else some (false, ())
theorem zJi (K : Nat) : evF (En E0 false [zkm zma]) K Tryz.f280 0 zh3 zh4 = zp4 zma := funext fun (x0, x1, ()) => by kernel_rfl
end
def vp : zp1 := zp4 zah
theorem zJj : Sd Tryz.prog E0 (zf3 vp) := mkS (l := [zkm zah]) ⟨zOj, trivial⟩ Tryz.func280 (by kernel_rfl) (zJi zah K0)
section
variable (zEN : zPC) (zh8 : zp1)
def zUN : (ByteArray × ((Option ((Int × Unit) → Option (Bool × Unit))) × Unit)) → Option (Bool × Unit) := fun (x0, x1, ()) =>
  Option.bind (zh8 (List.map (fun b => (↑(UInt8.toNat b) : Int)) (Array.toList (ByteArray.data x0)), some fun z => zEN (z.1, some x1, ()), ())) fun q0 => bif q0.1 then some (false, ()) else some (true, ())
theorem z6D (K : Nat) : evF (En E0 false [zAN zEN, zf3 zh8]) K Tryz.f238 0 zL6 zL7 = zUN zEN zh8 := funext fun (x0, x1, ()) => by kernel_rfl
end
def zgL : zL8 := zUN zi3 vp
theorem zUO : Sd Tryz.prog E0 (zpY zgL) := mkS (l := [zAN zi3, zf3 vp]) ⟨z18, zJj, trivial⟩ Tryz.func238 (by kernel_rfl) (z6D zi3 vp K0)
section
def zEO : (Int × Unit) → Option (Bool × Unit) := fun (x0, ()) =>
  bif decide (x0 ≥ 48) then bif decide (x0 ≤ 57) then some (true, ()) else some (false, ()) else some (false, ())
theorem z19 (K : Nat) : evF (En E0 false []) K Tryz.f240 0 zEi zEj = zEO := funext fun (x0, ()) => by kernel_rfl
end
def zi5 : zPv := zEO
theorem z2a : Sd Tryz.prog E0 (zAI zi5) := mkS (l := []) trivial Tryz.func240 (by kernel_rfl) (z19 K0)
section
variable (ze1 : zEh) (zEP : zPv)
def zxx : (Int × Unit) → Option (Bool × Unit) := fun (x0, ()) =>
  Option.bind (ze1 (x0, ())) fun q0 => bif q0.1 then some (true, ()) else Option.bind (zEP (x0, ())) fun q1 => bif q1.1 then some (true, ()) else some (false, ())
theorem zXa (K : Nat) : evF (En E0 false [zk0 ze1, zAI zEP]) K Tryz.f239 0 zxm zxn = zxx ze1 zEP := funext fun (x0, ()) => by kernel_rfl
end
def zeB : zKI := zxx zbA zi5
theorem zXb : Sd Tryz.prog E0 (zuo zeB) := mkS (l := [zk0 zbA, zAI zi5]) ⟨zPO, z2a, trivial⟩ Tryz.func239 (by kernel_rfl) (zXa zbA zi5 K0)
section
variable (ze1 : zEh) (zks : zL8) (zxy : zKI)
def zEQ : (ByteArray × Unit) → Option (Bool × Unit) := fun (x0, ()) =>
  bif decide ((↑(ByteArray.size x0) : Int) < 1) then some (false, ()) else bif decide ((↑(ByteArray.size x0) : Int) > 12) then some (false, ()) else bif decide (0 < (↑(ByteArray.size x0) : Int)) then Option.bind (ze1 ((↑(UInt8.toNat (List.getD (Array.toList (ByteArray.data x0)) (Int.toNat 0) 0)) : Int), ())) fun q0 => bif q0.1 then Option.bind (zks (x0, some zxy, ())) fun q1 => bif q1.1 then some (true, ()) else some (false, ()) else some (false, ()) else none
theorem z2b (K : Nat) : evF (En E0 false [zk0 ze1, zpY zks, zuo zxy]) K Tryz.f176 0 zDP zDQ = zEQ ze1 zks zxy := funext fun (x0, ()) => by kernel_rfl
end
def vX : zua := zEQ zbA zgL zeB
theorem zER : Sd Tryz.prog E0 (zdL vX) := mkS (l := [zk0 zbA, zpY zgL, zuo zeB]) ⟨zPO, zUO, zXb, trivial⟩ Tryz.func176 (by kernel_rfl) (z2b zbA zgL zeB K0)
section
variable (vY : zua) (zt : yd)
def znv : (qW × Unit) → Option (Bool × Unit) := fun (x0, ()) =>
  Option.bind (vY (x0.1, ())) fun q0 => bif q0.1 then Option.bind (vY (x0.2.1, ())) fun q1 => bif q1.1 then Option.bind (zt (x0.2.2.1, 0, 3, ())) fun q2 => bif q2.1 then some (false, ()) else some (true, ()) else some (true, ()) else some (true, ())
theorem zPQ (K : Nat) : evF (En E0 false [zdL vY, qo zt]) K Tryz.f175 0 zm7 zm8 = znv vY zt := funext fun (x0, ()) => by kernel_rfl
end
def za2 : zyA := znv vX zL
theorem zPR : Sd Tryz.prog E0 (zlL za2) := mkS (l := [zdL vX, qo zL]) ⟨zER, yS, trivial⟩ Tryz.func175 (by kernel_rfl) (zPQ vX zL K0)
section
abbrev zp5 : Env := (En E0 false [])
abbrev yA : Type := (List qW) × (Option ((qW × Unit) → Option (Bool × Unit))) × Int × Int
abbrev zES : yA → St := fun (v0, v1, v7, v8) => St.mk [(0, AV.dat (Ty.sl jL) v0), (1, AV.dat (Ty.fn (Ty.pair jL Ty.unit) (Ty.pair Ty.bool Ty.unit)) v1), (7, AV.dat tI v7), (8, AV.dat tI v8)] []
def ze2 (k0 : yA → Option (Int × Unit)) : yA → Option (Int × Unit) := fun (v0, v1, v7, v8) =>
  bif decide (v8 < v7) then inR v8 ((List.length v0) : Int) (Option.bind v1 fun q0 => Option.bind (q0 (ix jQ v0 v8, ())) fun q1 => bif q1.1 then some (v8, ()) else k0 (v0, v1, v7, wI (v8 + 1))) else some ((-1), ())
abbrev znw (K : Nat) : yA → Option (Int × Unit) := iter (ze2) K
theorem zET (K : Nat) : ∀ n, evV (zp5) K Tryz.f241 0 zcN [1, 0, 1, 0] [] zES n = iter (ze2) n := zp fun n0 (v0, v1, v7, v8) => by kernel_rfl
def zh9 (L0 : yA → Option (Int × Unit)) : ((List qW) × ((Option ((qW × Unit) → Option (Bool × Unit))) × Unit)) → Option (Int × Unit) := fun (x0, x1, ()) =>
  L0 (x0, x1, ((List.length x0) : Int), 0)
theorem zJk (K : Nat) : evF (zp5) K Tryz.f241 0 zh2 zcN = zh9 (znw K) := tr1 (T := zh9) (zET K K) fun (x0, x1, ()) => by kernel_rfl
end
def ye : zpZ := zh9 (znw K0)
theorem zJl : Sd Tryz.prog E0 (zf2 ye) := mkS (l := []) trivial Tryz.func241 (by kernel_rfl) (zJk K0)
section
variable (zia : zpZ)
def zmx : ((List qW) × ((Option ((qW × Unit) → Option (Bool × Unit))) × Unit)) → Option (Bool × Unit) := fun (x0, x1, ()) =>
  Option.bind (zia (x0, x1, ())) fun q0 => bif decide (q0.1 ≥ 0) then some (true, ()) else some (false, ())
theorem zCj (K : Nat) : evF (En E0 false [zf2 zia]) K Tryz.f177 0 zeg zeh = zmx zia := funext fun (x0, x1, ()) => by kernel_rfl
end
def yk : zmw := zmx ye
theorem zCk : Sd Tryz.prog E0 (zdM yk) := mkS (l := [zf2 ye]) ⟨zJl, trivial⟩ Tryz.func177 (by kernel_rfl) (zCj ye K0)
section
abbrev zBV : Env := (En E0 false [])
abbrev zcd : Type := (List qW) × Int × Int × List ByteArray
abbrev zOk : zcd → St := fun (v7, v8, v9, o0) => St.mk [(3, AV.ow 0), (7, AV.dat (Ty.sl jL) v7), (8, AV.dat tI v8), (9, AV.dat tI v9)] [Obj.row Ty.str o0 false]
def zce (k0 : zcd → Option ((List ByteArray) × Unit)) : zcd → Option ((List ByteArray) × Unit) := fun (v7, v8, v9, o0) =>
  bif decide (v9 < v8) then inR v9 ((List.length v7) : Int) (bif decide (List.length o0 + List.length (zk (List.replicate 1 (zb Ty.str)) 0 (ix jQ v7 v9).1) ≤ lim) then k0 (v7, v8, wI (v9 + 1), o0 ++ zk (List.replicate 1 (zb Ty.str)) 0 (ix jQ v7 v9).1) else none) else some (o0, ())
abbrev zvT (K : Nat) : zcd → Option ((List ByteArray) × Unit) := iter (zce) K
theorem zOl (K : Nat) : ∀ n, evV (zBV) K Tryz.f179 0 ziA [1, 1, 0, 1, 0] [] zOk n = iter (zce) n := zp fun n0 (v7, v8, v9, o0) => by kernel_rfl
def zpG (L0 : zcd → Option ((List ByteArray) × Unit)) : (ze × Unit) → Option ((List ByteArray) × Unit) := fun (x0, ()) =>
  L0 (x0.2.2.1, ((List.length x0.2.2.1) : Int), 0, [])
theorem zQY (K : Nat) : evF (zBV) K Tryz.f179 0 zpo ziA = zpG (zvT K) := tr1 (T := zpG) (zOl K K) fun (x0, ()) => by kernel_rfl
end
def zd2 : zBO := zpG (zvT K0)
theorem zQZ : Sd Tryz.prog E0 (zm9 zd2) := mkS (l := []) trivial Tryz.func179 (by kernel_rfl) (zQY K0)
section
abbrev zPS : Env := (En E0 false [])
abbrev zi6 : Type := (List ByteArray) × (List ByteArray) × Int × Int × List (ByteArray × Int)
abbrev zXc : zi6 → St := fun (v0, v7, v8, v9, o0) => St.mk [(0, AV.dat (Ty.sl Ty.str) v0), (3, AV.om 0), (7, AV.dat (Ty.sl Ty.str) v7), (8, AV.dat tI v8), (9, AV.dat tI v9)] [Obj.mp Ty.str tI o0]
def zi7 (k0 : zi6 → Option (Bool × Unit)) : zi6 → Option (Bool × Unit) := fun (v0, v7, v8, v9, o0) =>
  bif decide (v9 < v8) then inR v9 ((List.length v7) : Int) (k0 (v0, v7, v8, wI (v9 + 1), yu Ty.str o0 (List.getD v7 (Int.toNat v9) (zb Ty.str)) (wI (zec Ty.str (0 : Int) o0 (List.getD v7 (Int.toNat v9) (zb Ty.str)) + 1)))) else bif ((List.length o0) : Int) == ((List.length v0) : Int) then some (true, ()) else some (false, ())
abbrev zKS (K : Nat) : zi6 → Option (Bool × Unit) := iter (zi7) K
theorem zXd (K : Nat) : ∀ n, evV (zPS) K Tryz.f178 0 zub [1, 1, 0, 1, 0] [] zXc n = iter (zi7) n := zp fun n0 (v0, v7, v8, v9, o0) => by kernel_rfl
def zEU (L0 : zi6 → Option (Bool × Unit)) : ((List ByteArray) × Unit) → Option (Bool × Unit) := fun (x0, ()) =>
  L0 (x0, x0, ((List.length x0) : Int), 0, [])
theorem z2c (K : Nat) : evF (zPS) K Tryz.f178 0 zDR zub = zEU (zKS K) := tr1 (T := zEU) (zXd K K) fun (x0, ()) => by kernel_rfl
end
def znx : zPl := zEU (zKS K0)
theorem z2d : Sd Tryz.prog E0 (zAr znx) := mkS (l := []) trivial Tryz.func178 (by kernel_rfl) (z2c K0)
section
variable (zny : zyA) (zt : yd) (zen : zmw) (zpH : zBO) (zEV : zPl)
def zsj : (ze × Unit) → Option (Bool × Unit) := fun (x0, ()) =>
  Option.bind (zt (((List.length x0.2.2.1) : Int), 1, 8, ())) fun q0 => bif q0.1 then Option.bind (zen (x0.2.2.1, some zny, ())) fun q1 => bif q1.1 then some (false, ()) else Option.bind (zpH (x0, ())) fun q2 => Option.bind (zEV (q2.1, ())) fun q3 => bif q3.1 then some (true, ()) else some (false, ()) else some (false, ())
theorem zSz (K : Nat) : evF (En E0 false [zlL zny, qo zt, zdM zen, zm9 zpH, zAr zEV]) K Tryz.f86 0 zrk zrl = zsj zny zt zen zpH zEV := funext fun (x0, ()) => by kernel_rfl
end
def vV : zDf := zsj za2 zL yk zd2 znx
theorem zSA : Sd Tryz.prog E0 (zo2 vV) := mkS (l := [zlL za2, qo zL, zdM yk, zm9 zd2, zAr znx]) ⟨zPR, yS, zCk, zQZ, z2d, trivial⟩ Tryz.func86 (by kernel_rfl) (zSz za2 zL yk zd2 znx K0)
section
def zEW : (Int × Unit) → Option (zu × (Int × Unit)) := fun (x0, ()) =>
  bif decide (x0 < 0) then some ((0, 0, ()), 1, ()) else bif decide (x0 ≥ 64) then some ((0, 0, ()), 1, ()) else bif decide (x0 < 0) then none else some ((0, wU (1 * 2 ^ min (Int.toNat x0) (IntKind.bits IntKind.u64)), ()), 0, ())
theorem z2e (K : Nat) : evF (En E0 false []) K Tryz.f180 0 zDS zDT = zEW := funext fun (x0, ()) => by kernel_rfl
end
def ze3 : zPm := zEW
theorem z2f : Sd Tryz.prog E0 (zAs ze3) := mkS (l := []) trivial Tryz.func180 (by kernel_rfl) (z2e K0)
section
abbrev zEX : Env := (En E0 false [])
abbrev zc5 : Type := (List zu) × Int × Int × zu
abbrev zPT : zc5 → St := fun (v0, v7, v8, o0) => St.mk [(0, AV.dat (Ty.sl zr) v0), (3, AV.bp 0 []), (7, AV.dat tI v7), (8, AV.dat tI v8)] [Obj.bx (AV.dat zr o0) false]
def zc6 (k0 : zc5 → Option (Int × Unit)) : zc5 → Option (Int × Unit) := fun (v0, v7, v8, o0) =>
  bif decide (v8 < v7) then inR v8 ((List.length v0) : Int) (bif eqI zr o0 (ix yj v0 v8) then some (v8, ()) else k0 (v0, v7, wI (v8 + 1), o0)) else some ((-1), ())
abbrev zyJ (K : Nat) : zc5 → Option (Int × Unit) := iter (zc6) K
theorem zPU (K : Nat) : ∀ n, evV (zEX) K Tryz.f242 0 zke [1, 0, 1, 0] [] zPT n = iter (zc6) n := zp fun n0 (v0, v7, v8, o0) => by kernel_rfl
def zsk (L0 : zc5 → Option (Int × Unit)) : ((List zu) × (zu × Unit)) → Option (Int × Unit) := fun (x0, x1, ()) =>
  L0 (x0, ((List.length x0) : Int), 0, x1)
theorem zSB (K : Nat) : evF (zEX) K Tryz.f242 0 zr9 zke = zsk (zyJ K) := tr1 (T := zsk) (zPU K K) fun (x0, x1, ()) => by kernel_rfl
end
def ze4 : zEk := zsk (zyJ K0)
theorem zSC : Sd Tryz.prog E0 (zpB ze4) := mkS (l := []) trivial Tryz.func242 (by kernel_rfl) (zSB K0)
section
variable (zsl : zEk)
def zmb : ((List zu) × (zu × Unit)) → Option (Bool × Unit) := fun (x0, x1, ()) =>
  Option.bind (zsl (x0, x1, ())) fun q0 => bif decide (q0.1 ≥ 0) then some (true, ()) else some (false, ())
theorem zOm (K : Nat) : evF (En E0 false [zpB zsl]) K Tryz.f181 0 zlM zlN = zmb zsl := funext fun (x0, x1, ()) => by kernel_rfl
end
def yh : zvJ := zmb ze4
theorem zOn : Sd Tryz.prog E0 (zj5 yh) := mkS (l := [zpB ze4]) ⟨zSC, trivial⟩ Tryz.func181 (by kernel_rfl) (zOm ze4 K0)
section
def zEY : (zu × ((Option Int) × Unit)) → Option (Bool × Unit) := fun (x0, x1, ()) =>
  Option.bind x1 fun q0 => bif wU (↑(BitVec.toNat (BitVec.ofInt (IntKind.bits IntKind.u64) x0.2.1 &&& ~~~BitVec.ofInt (IntKind.bits IntKind.u64) q0)) : Int) != 0 then some (true, ()) else some (false, ())
theorem zSD (K : Nat) : evF (En E0 false []) K Tryz.f182 0 zrZ zr0 = zEY := funext fun (x0, x1, ()) => by kernel_rfl
end
def zco : zDU := zEY
theorem zSE : Sd Tryz.prog E0 (zpp zco) := mkS (l := []) trivial Tryz.func182 (by kernel_rfl) (zSD K0)
section
variable (zc7 : zPm) (zt : yd) (vA : zvJ) (yB : zDU) (zS : zfQ)
abbrev zKT : Env := (En E0 false [zAs zc7, qo zt, zj5 vA, zpp yB, yy zS])
abbrev ze5 : Type := Int × (List qi) × Int × Int × ze × Int
abbrev zSF : ze5 → St := fun (v4, v11, v12, v13, o0, o1) => St.mk [(1, AV.bp 0 []), (3, AV.bp 1 []), (4, AV.dat tI v4), (11, AV.dat (Ty.sl y5) v11), (12, AV.dat tI v12), (13, AV.dat tI v13)] [Obj.bx (AV.dat zD o0) false, Obj.bx (AV.dat tU o1) false]
def ze6 (k0 : ze5 → Option (Bool × Unit)) : ze5 → Option (Bool × Unit) := fun (v4, v11, v12, v13, o0, o1) =>
  bif decide (v13 < v12) then inR v13 ((List.length v11) : Int) (Option.bind (zc7 ((ix jA v11 v13).1, ())) fun q0 => bif q0.2.1 != 0 then some (false, ()) else bif decide ((ix jA v11 v13).1 ≤ v4) then some (false, ()) else Option.bind (zt ((ix jA v11 v13).2.1, 0, wI (((List.length o0.2.2.1) : Int) - 1), ())) fun q1 => bif q1.1 then Option.bind (vA (o0.1, q0.1, ())) fun q2 => bif q2.1 then k0 ((ix jA v11 v13).1, v11, v12, wI (v13 + 1), o0, wU (↑(BitVec.toNat (BitVec.ofInt (IntKind.bits IntKind.u64) o1 ||| BitVec.ofInt (IntKind.bits IntKind.u64) q0.1.2.1)) : Int)) else some (false, ()) else some (false, ())) else bif decide (((List.length o0.2.2.2.1) : Int) ≤ 8) then Option.bind (zS (o0.1, some fun z => yB (z.1, some o1, ()), ())) fun q3 => bif q3.1 then some (false, ()) else some (true, ()) else some (false, ())
abbrev zEZ (K : Nat) : ze5 → Option (Bool × Unit) := iter (ze6 zc7 zt vA yB zS) K
theorem zSG (K : Nat) : ∀ n, evV (zKT zc7 zt vA yB zS) K Tryz.f87 0 zoa [1, 1, 1, 0, 1, 0] [] zSF n = iter (ze6 zc7 zt vA yB zS) n := zp fun n0 (v4, v11, v12, v13, o0, o1) => by kernel_rfl
def zxz (L0 : ze5 → Option (Bool × Unit)) : (ze × Unit) → Option (Bool × Unit) := fun (x0, ()) =>
  L0 ((-1), x0.2.2.2.1, ((List.length x0.2.2.2.1) : Int), 0, x0, 0)
theorem zXe (K : Nat) : evF (zKT zc7 zt vA yB zS) K Tryz.f87 0 zwO zoa = zxz (zEZ zc7 zt vA yB zS K) := tr1 (T := zxz) (zSG zc7 zt vA yB zS K K) fun (x0, ()) => by kernel_rfl
end
def yV : zKB := zxz (zEZ ze3 zL yh zco jk K0)
theorem zXf : Sd Tryz.prog E0 (ztE yV) := mkS (l := [zAs ze3, qo zL, zj5 yh, zpp zco, yy jk]) ⟨z2f, yS, zOn, zSE, zoN, trivial⟩ Tryz.func87 (by kernel_rfl) (zXe ze3 zL yh zco jk K0)
section
variable (zt : yd)
def zsm : (Int × Unit) → Option (Bool × Unit) := fun (x0, ()) =>
  Option.bind (zt (x0, 0, 12, ())) fun q0 => bif q0.1 then some (false, ()) else some (true, ())
theorem zSH (K : Nat) : evF (En E0 false [qo zt]) K Tryz.f183 0 zr1 zr2 = zsm zt := funext fun (x0, ()) => by kernel_rfl
end
def zaQ : zDV := zsm zL
theorem zSI : Sd Tryz.prog E0 (zpq zaQ) := mkS (l := [qo zL]) ⟨yS, trivial⟩ Tryz.func183 (by kernel_rfl) (zSH zL K0)
section
def zHb : (zc0 × Unit) → Option ((List Int) × Unit) := fun (x0, ()) =>
  some ([x0.1, x0.2.1, x0.2.2.1, x0.2.2.2.1, x0.2.2.2.2.1], ())
theorem zUP (K : Nat) : evF (En E0 false []) K Tryz.f184 0 zuc zud = zHb := funext fun (x0, ()) => by kernel_rfl
end
def zdm : zG6 := zHb
theorem zUQ : Sd Tryz.prog E0 (zr3 zdm) := mkS (l := []) trivial Tryz.func184 (by kernel_rfl) (zUP K0)
section
variable (yC : zDV) (zac : zG6) (zv : yr)
abbrev zKU : Env := (En E0 false [zpq yC, zr3 zac, qF zv])
abbrev ze7 : Type := Int × (List zc0) × Int × Int
abbrev zSJ : ze7 → St := fun (v3, v23, v24, v25) => St.mk [(3, AV.dat tU v3), (23, AV.dat (Ty.sl zgH) v23), (24, AV.dat tI v24), (25, AV.dat tI v25)] []
def zkt (k0 : ze7 → Option (Bool × Unit)) : ze7 → Option (Bool × Unit) := fun (v3, v23, v24, v25) =>
  bif decide (v25 < v24) then inR v25 ((List.length v23) : Int) (bif decide ((ix jl v23 v25).2.2.2.2.2.1 > v3) then some (false, ()) else Option.bind (zac (ix jl v23 v25, ())) fun q0 => Option.bind (zv (q0.1, some yC, ())) fun q1 => bif q1.1 then some (false, ()) else k0 (wU (v3 - (ix jl v23 v25).2.2.2.2.2.1), v23, v24, wI (v25 + 1))) else some (true, ())
abbrev zsn (K : Nat) : ze7 → Option (Bool × Unit) := iter (zkt yC zac zv) K
theorem zSK (K : Nat) : ∀ n, evV (zKU yC zac zv) K Tryz.f88 0 zob [1, 1, 1, 0, 1, 0] [] zSJ n = iter (zkt yC zac zv) n := zp fun n0 (v3, v23, v24, v25) => by kernel_rfl
def zog (L0 : ze7 → Option (Bool × Unit)) : (ze × Unit) → Option (Bool × Unit) := fun (x0, ()) =>
  bif ((List.length x0.2.2.2.2.1) : Int) != ((List.length x0.1) : Int) then some (false, ()) else bif decide (0 < ((List.length x0.2.2.2.2.1) : Int)) then bif decide ((ix jl x0.2.2.2.2.1 0).1 < 1) then some (false, ()) else L0 (4611686018427387904, x0.2.2.2.2.1, ((List.length x0.2.2.2.2.1) : Int), 0) else none
theorem zXg (K : Nat) : evF (zKU yC zac zv) K Tryz.f88 0 zwP zob = zog (zsn yC zac zv K) := tr1 (T := zog) (zSK yC zac zv K K) fun (x0, ()) => by kernel_rfl
end
def yW : zKC := zog (zsn zaQ zdm zK K0)
theorem zXh : Sd Tryz.prog E0 (ztF yW) := mkS (l := [zpq zaQ, zr3 zdm, qF zK]) ⟨zSI, zUQ, za0, trivial⟩ Tryz.func88 (by kernel_rfl) (zXg zaQ zdm zK K0)
section
variable (zt : yd)
def zE0 : (ze × Unit) → Option (Bool × Unit) := fun (x0, ()) =>
  Option.bind (zt (x0.2.2.2.2.2.1, 0, 24, ())) fun q0 => bif q0.1 then Option.bind (zt (x0.2.2.2.2.2.2.1, 0, 48, ())) fun q1 => bif q1.1 then Option.bind (zt (x0.2.2.2.2.2.2.2.1, 1, 4, ())) fun q2 => bif q2.1 then Option.bind (zt (x0.2.2.2.2.2.2.2.2.1, 1, 16, ())) fun q3 => bif q3.1 then some (true, ()) else some (false, ()) else some (false, ()) else some (false, ()) else some (false, ())
theorem z2g (K : Nat) : evF (En E0 false [qo zt]) K Tryz.f89 0 zDg zDh = zE0 zt := funext fun (x0, ()) => by kernel_rfl
end
def zbB : zPa := zE0 zL
theorem z2h : Sd Tryz.prog E0 (zzK zbB) := mkS (l := [qo zL]) ⟨yS, trivial⟩ Tryz.func89 (by kernel_rfl) (z2g zL K0)
section
variable (za3 : zKA) (zbU : zNe) (yD : zDf) (za4 : zKB) (za5 : zKC) (zc8 : zPa)
abbrev zND : Env := (En E0 false [ztD za3, zwN zbU, zo2 yD, ztE za4, ztF za5, zzK zc8])
abbrev zgM : Type := Int × Int × ze × List (Option ((ze × Unit) → Option (Bool × Unit)))
abbrev zUR : zgM → St := fun (v6, v7, o0, o1) => St.mk [(1, AV.bp 0 []), (5, AV.ow 1), (6, AV.dat tI v6), (7, AV.dat tI v7)] [Obj.bx (AV.dat zD o0) false, Obj.row (Ty.fn (Ty.pair zD Ty.unit) (Ty.pair Ty.bool Ty.unit)) o1 false]
def zmy (k0 : zgM → Option (Bool × Unit)) : zgM → Option (Bool × Unit) := fun (v6, v7, o0, o1) =>
  bif decide (v7 < v6) then inR v7 ((List.length o1) : Int) (Option.bind (List.getD o1 (Int.toNat v7) (zb (Ty.fn (Ty.pair zD Ty.unit) (Ty.pair Ty.bool Ty.unit)))) fun q0 => Option.bind (q0 (o0, ())) fun q1 => bif q1.1 then k0 (v6, wI (v7 + 1), o0, o1) else some (false, ())) else some (true, ())
abbrev zHc (K : Nat) : zgM → Option (Bool × Unit) := iter (zmy) K
theorem zUS (K : Nat) : ∀ n, evV (zND za3 zbU yD za4 za5 zc8) K Tryz.f25 0 zqt [1, 0, 1, 0] [] zUR n = iter (zmy) n := zp fun n0 (v6, v7, o0, o1) => by kernel_rfl
def zAV (L0 : zgM → Option (Bool × Unit)) : (ze × Unit) → Option (Bool × Unit) := fun (x0, ()) =>
  L0 (((List.length (zk (zk (zk (zk (zk (zk (List.replicate 6 (zb (Ty.fn (Ty.pair zD Ty.unit) (Ty.pair Ty.bool Ty.unit)))) 0 (some za3)) 1 (some zbU)) 2 (some yD)) 3 (some za4)) 4 (some za5)) 5 (some zc8))) : Int), 0, x0, [some za3, some zbU, some yD, some za4, some za5, some zc8])
theorem zZn (K : Nat) : evF (zND za3 zbU yD za4 za5 zc8) K Tryz.f25 0 zzj zqt = zAV za3 zbU yD za4 za5 zc8 (zHc K) := tr1 (T := zAV za3 zbU yD za4 za5 zc8) (zUS za3 zbU yD za4 za5 zc8 K K) fun (x0, ()) => by kernel_rfl
end
def jf : zgf := zAV yU zaI vV yV yW zbB (zHc K0)
theorem zk2 : Sd Tryz.prog E0 (vK jf) := mkS (l := [ztD yU, zwN zaI, zo2 vV, ztE yV, ztF yW, zzK zbB]) ⟨zW9, zZm, zSA, zXf, zXh, z2h, trivial⟩ Tryz.func25 (by kernel_rfl) (zZn yU zaI vV yV yW zbB K0)
section
variable (zF : zgf)
abbrev zUT : Env := (En E0 true [vK zF])
abbrev znz : Type := (List qi) × Int × Int × ze × List (List Int) × Nat
abbrev z2i : znz → St := fun (v11, v12, v13, o0, o1, c1) => St.mk [(1, AV.bp 0 []), (3, AV.ow 1), (11, AV.dat (Ty.sl y5) v11), (12, AV.dat tI v12), (13, AV.dat tI v13)] [Obj.bx (AV.dat zD o0) false, Obj.drow (Ty.sl tI) o1 c1]
def zPV (k0 : znz → Option ((List (List Int)) × Unit)) : znz → Option ((List (List Int)) × Unit) := fun (v11, v12, v13, o0, o1, c1) =>
  bif decide (v13 < v12) then inR v13 ((List.length v11) : Int) (bif decide (((List.length o0.2.2.1) : Int) ≤ ((List.length o0.2.2.1) : Int)) then bif decide (((List.length o0.2.2.1) : Int) ≤ (↑lim : Int)) then inR (ix jA v11 v13).2.1 ((List.length (List.replicate (Int.toNat ((List.length o0.2.2.1) : Int)) (0 : Int))) : Int) (bif decide (List.length o1 + List.length [List.set (List.replicate (Int.toNat ((List.length o0.2.2.1) : Int)) (0 : Int)) (Int.toNat (ix jA v11 v13).2.1) 2] ≤ lim) then bif decide (c1 = List.length o1) then k0 (v11, v12, wI (v13 + 1), o0, o1 ++ [List.set (List.replicate (Int.toNat ((List.length o0.2.2.1) : Int)) (0 : Int)) (Int.toNat (ix jA v11 v13).2.1) 2], c1 + (0 + 1)) else none else none) else none else none) else bif decide (c1 = List.length o1) then some (o1, ()) else none
abbrev zPW (K : Nat) : znz → Option ((List (List Int)) × Unit) := iter (zPV) K
theorem z2j (K : Nat) : ∀ n, evV (zUT zF) K Tryz.f29 4 zCh [1, 1, 1, 0, 1, 0] [] z2i n = iter (zPV) n := zp fun n0 (v11, v12, v13, o0, o1, c1) => by kernel_rfl
def zMp (L0 : znz → Option ((List (List Int)) × Unit)) : (ze × Unit) → Option ((List (List Int)) × Unit) := fun (x0, ()) =>
  Option.bind (zF (x0, ())) fun q0 => bif q0.1 then L0 (x0.2.2.2.1, ((List.length x0.2.2.2.1) : Int), 0, x0, [], 0) else some ([], ())
theorem z6E (K : Nat) : evF (zUT zF) K Tryz.f29 4 zLZ zCh = zMp zF (zPW K) := tr1 (T := zMp zF) (z2j zF K K) fun (x0, ()) => by kernel_rfl
end
def zCl : zUD := zMp jf (zPW K0)
theorem z6F : Sd Tryz.prog E0 (zIh zCl) := mkS (l := [vK jf]) ⟨zk2, trivial⟩ Tryz.func29 (by kernel_rfl) (z6E jf K0)
section
def zNE : (ze × (zc0 × Unit)) → Option (zm × Unit) := fun (x0, x1, ()) =>
  bif decide (0 ≤ x1.1) then bif decide (x1.1 ≤ x1.1) then bif decide (x1.1 ≤ (↑lim : Int)) then bif decide (0 ≤ x1.2.1) then bif decide (x1.2.1 ≤ x1.2.1) then bif decide (x1.2.1 ≤ (↑lim : Int)) then bif decide (0 ≤ x1.2.2.1) then bif decide (x1.2.2.1 ≤ x1.2.2.1) then bif decide (x1.2.2.1 ≤ (↑lim : Int)) then bif decide (0 ≤ x1.2.2.2.1) then bif decide (x1.2.2.2.1 ≤ x1.2.2.2.1) then bif decide (x1.2.2.2.1 ≤ (↑lim : Int)) then bif decide (0 ≤ x1.2.2.2.2.1) then bif decide (x1.2.2.2.2.1 ≤ x1.2.2.2.2.1) then bif decide (x1.2.2.2.2.1 ≤ (↑lim : Int)) then bif decide (((List.length x0.2.2.1) : Int) ≤ ((List.length x0.2.2.1) : Int)) then bif decide (((List.length x0.2.2.1) : Int) ≤ (↑lim : Int)) then bif decide (((List.length x0.2.2.1) : Int) ≤ ((List.length x0.2.2.1) : Int)) then bif decide (((List.length x0.2.2.1) : Int) ≤ (↑lim : Int)) then some ((List.replicate (Int.toNat x1.1) (zb jz), List.replicate (Int.toNat x1.2.1) (zb qt), List.replicate (Int.toNat x1.2.2.1) (zb zW), List.replicate (Int.toNat x1.2.2.2.1) (zb qA), List.replicate (Int.toNat x1.2.2.2.2.1) (zb zB), List.replicate (Int.toNat ((List.length x0.2.2.1) : Int)) (zb (Ty.arr 4 tU)), List.replicate (Int.toNat ((List.length x0.2.2.1) : Int)) (zb z5), [0, 0, 0, 0], [0, 0, 0, 0], ()), ()) else none else none else none else none else none else none else none else none else none else none else none else none else none else none else none else none else none else none else none
theorem zZo (K : Nat) : evF (En E0 true []) K Tryz.f30 3 zzm zzn = zNE := funext fun (x0, x1, ()) => by kernel_rfl
end
def zqJ : zM3 := zNE
theorem zZp : Sd Tryz.prog E0 (zwi zqJ) := mkS (l := []) trivial Tryz.func30 (by kernel_rfl) (zZo K0)
end
end Go.Proofs.YtaokpakfhdeiiaaGreatDoor
end
section
namespace Go.Proofs.YtaokpakfhdeiiaaGreatDoor
open Go.Ev
set_option linter.unusedVariables false
noncomputable section
section
variable (zF : zgf) (zcP : zUD) (vF : zM3)
abbrev zym : Env := (En E0 true [vK zF, zIh zcP, zwi vF])
abbrev zk3 : Type := Int × Int × Int × Int × List zm × Nat × List (List Int) × Nat × List zj × List zH × List Int × List zm × Nat × List (List Int) × Nat × List zj × List zH × List Int
abbrev zNF : zk3 → St := fun (v42, v43, o0_0, o1_0, o2, c2, o3, c3, o4, o5, o6, o7, c7, o8, c8, o9, o10, o11) => St.mk [(2, AV.bp 0 []), (4, AV.bp 1 []), (42, AV.dat tI v42), (43, AV.dat tI v43)] [Obj.bx (AV.fld (Ty.pair tU (Ty.pair (Ty.sl zo) (Ty.pair (Ty.sl (Ty.sl tI)) (Ty.pair (Ty.sl zw) (Ty.pair (Ty.sl zC) (Ty.pair (Ty.sl tI) Ty.unit)))))) [AV.dat tU o0_0, AV.ow 2, AV.ow 3, AV.ow 4, AV.ow 5, AV.ow 6]) false, Obj.bx (AV.fld (Ty.pair tU (Ty.pair (Ty.sl zo) (Ty.pair (Ty.sl (Ty.sl tI)) (Ty.pair (Ty.sl zw) (Ty.pair (Ty.sl zC) (Ty.pair (Ty.sl tI) Ty.unit)))))) [AV.dat tU o1_0, AV.ow 7, AV.ow 8, AV.ow 9, AV.ow 10, AV.ow 11]) false, Obj.drow zo o2 c2, Obj.drow (Ty.sl tI) o3 c3, Obj.row zw o4 false, Obj.row zC o5 false, Obj.row tI o6 false, Obj.drow zo o7 c7, Obj.drow (Ty.sl tI) o8 c8, Obj.row zw o9 false, Obj.row zC o10 false, Obj.row tI o11 false]
abbrev zk4 : Type := (List zc0) × Int × Int × ze × Int × Int × List zm × Nat × List (List Int) × Nat × List zj × List zH × List Int × List zm × Nat × List (List Int) × Nat × List zj × List zH × List Int
abbrev zZq : zk4 → St := fun (v18, v19, v20, o0, o1_0, o2_0, o3, c3, o4, c4, o5, o6, o7, o8, c8, o9, c9, o10, o11, o12) => St.mk [(1, AV.bp 0 []), (2, AV.bp 1 []), (4, AV.bp 2 []), (18, AV.dat (Ty.sl zgH) v18), (19, AV.dat tI v19), (20, AV.dat tI v20)] [Obj.bx (AV.dat zD o0) false, Obj.bx (AV.fld (Ty.pair tU (Ty.pair (Ty.sl zo) (Ty.pair (Ty.sl (Ty.sl tI)) (Ty.pair (Ty.sl zw) (Ty.pair (Ty.sl zC) (Ty.pair (Ty.sl tI) Ty.unit)))))) [AV.dat tU o1_0, AV.ow 3, AV.ow 4, AV.ow 5, AV.ow 6, AV.ow 7]) false, Obj.bx (AV.fld (Ty.pair tU (Ty.pair (Ty.sl zo) (Ty.pair (Ty.sl (Ty.sl tI)) (Ty.pair (Ty.sl zw) (Ty.pair (Ty.sl zC) (Ty.pair (Ty.sl tI) Ty.unit)))))) [AV.dat tU o2_0, AV.ow 8, AV.ow 9, AV.ow 10, AV.ow 11, AV.ow 12]) false, Obj.drow zo o3 c3, Obj.drow (Ty.sl tI) o4 c4, Obj.row zw o5 false, Obj.row zC o6 false, Obj.row tI o7 false, Obj.drow zo o8 c8, Obj.drow (Ty.sl tI) o9 c9, Obj.row zw o10 false, Obj.row zC o11 false, Obj.row tI o12 false]
def zNG (k1 : zk3 → Option (zf × (Int × Unit))) : zk3 → Option (zf × (Int × Unit)) := fun (v42, v43, o0_0, o1_0, o2, c2, o3, c3, o4, o5, o6, o7, c7, o8, c8, o9, o10, o11) =>
  bif decide (v43 < v42) then bif decide (List.length o11 + List.length (zk (List.replicate 1 (0 : Int)) 0 (-1)) ≤ lim) then k1 (v42, wI (v43 + 1), o0_0, o1_0, o2, c2, o3, c3, o4, o5, o6, o7, c7, o8, c8, o9, o10, o11 ++ zk (List.replicate 1 (0 : Int)) 0 (-1)) else none else bif decide (c7 = List.length o7) then bif decide (c8 = List.length o8) then some ((o1_0, o7, o8, o9, o10, o11, ()), 0, ()) else none else none
abbrev zAW (K : Nat) : zk3 → Option (zf × (Int × Unit)) := iter (zNG) K
theorem zZr (K : Nat) : ∀ n, evV (zym zF zcP vF) K Tryz.f8 3 zlt [1, 1, 1, 1, 1, 0, 1, 0] [] zNF n = iter (zNG) n := zp fun n1 (v42, v43, o0_0, o1_0, o2, c2, o3, c3, o4, o5, o6, o7, c7, o8, c8, o9, o10, o11) => by kernel_rfl
def zAX (L1 : zk3 → Option (zf × (Int × Unit))) (k0 : zk4 → Option (zf × (Int × Unit))) : zk4 → Option (zf × (Int × Unit)) := fun (v18, v19, v20, o0, o1_0, o2_0, o3, c3, o4, c4, o5, o6, o7, o8, c8, o9, c9, o10, o11, o12) =>
  bif decide (v20 < v19) then inR v20 ((List.length v18) : Int) (Option.bind (vF (o0, ix jl v18 v20, ())) fun q2 => bif decide (List.length o8 + List.length [(q2.1.1, q2.1.2.1, q2.1.2.2.1, q2.1.2.2.2.1, q2.1.2.2.2.2.1, q2.1.2.2.2.2.2.1, q2.1.2.2.2.2.2.2.1, q2.1.2.2.2.2.2.2.2.1, q2.1.2.2.2.2.2.2.2.2.1, ())] ≤ lim) then bif decide (c8 = List.length o8) then k0 (v18, v19, wI (v20 + 1), o0, o1_0, o2_0, o3, c3, o4, c4, o5, o6, o7, o8 ++ [(q2.1.1, q2.1.2.1, q2.1.2.2.1, q2.1.2.2.2.1, q2.1.2.2.2.2.1, q2.1.2.2.2.2.2.1, q2.1.2.2.2.2.2.2.1, q2.1.2.2.2.2.2.2.2.1, q2.1.2.2.2.2.2.2.2.2.1, ())], c8 + (0 + 1), o9, c9, o10, o11, o12) else none else none) else bif decide (0 < ((List.length o8) : Int)) then bif decide (c8 ≤ Int.toNat 0) then bif decide (0 < ((List.length (ix za o8 0).1) : Int)) then none else none else bif decide (0 < ((List.length (ix za o8 0).1) : Int)) then L1 (((List.length o0.2.1) : Int), 0, o1_0, o2_0, o3, c3, o4, c4, o5, o6, o7, List.set o8 (Int.toNat 0) (List.set (ix za o8 0).1 (Int.toNat 0) (true, ByteArray.mk #[112, 108, 97, 122, 97], (zb jz).2.2), (ix za o8 0).2), c8, o9, c9, o10, o11, o12) else none else none
abbrev zNH (K : Nat) : zk4 → Option (zf × (Int × Unit)) := iter (fun k0 => zAX vF (zAW K) k0) K
theorem zZs (K : Nat) : ∀ n, evV (zym zF zcP vF) K Tryz.f8 3 zlt [1, 1, 1, 0, 1, 0] [] zZq n = iter (fun k0 => zAX vF (zAW K) k0) n := vj (B := fun L1 k0 => zAX vF L1 k0) (V1 := fun n0 => evV (zym zF zcP vF) K Tryz.f8 3 zlt [1, 1, 1, 1, 1, 0, 1, 0] [] zNF K) (W1 := fun k0 => (zAW K)) (fun n0 => zZr zF zcP vF K K) fun n0 (v18, v19, v20, o0, o1_0, o2_0, o3, c3, o4, c4, o5, o6, o7, o8, c8, o9, c9, o10, o11, o12) => by kernel_rfl
def zJm (L0 : zk4 → Option (zf × (Int × Unit))) : (ze × Unit) → Option (zf × (Int × Unit)) := fun (x0, ()) =>
  Option.bind (zF (x0, ())) fun q0 => bif q0.1 then Option.bind (zcP (x0, ())) fun q1 => bif decide (0 ≤ x0.2.2.2.2.2.1) then bif decide (x0.2.2.2.2.2.1 ≤ x0.2.2.2.2.2.1) then bif decide (x0.2.2.2.2.2.1 ≤ (↑lim : Int)) then L0 (x0.2.2.2.2.1, ((List.length x0.2.2.2.2.1) : Int), 0, x0, 0, 0, [], 0, [], 0, [], [], [], [], 0, q1.1, List.length q1.1, List.replicate (Int.toNat x0.2.2.2.2.2.1) (zb zw), [], []) else none else none else none else some ((0, [], [], [], [], [], ()), 1, ())
theorem z4j (K : Nat) : evF (zym zF zcP vF) K Tryz.f8 3 zIf zlt = zJm zF zcP (zNH vF K) := tr1 (T := zJm zF zcP) (zZs zF zcP vF K K) fun (x0, ()) => by kernel_rfl
end
def zlv : zRF := zJm jf zCl (zNH zqJ K0)
theorem z4k : Sd Tryz.prog E0 (zCM zlv) := mkS (l := [vK jf, zIh zCl, zwi zqJ]) ⟨zk2, z6F, zZp, trivial⟩ Tryz.func8 (by kernel_rfl) (z4j jf zCl zqJ K0)
section
variable (zF : zgf)
abbrev zNI : Env := (En E0 false [vK zF])
abbrev zgN : Type := Int × (List zm) × Int × Int × qM
abbrev zUU : zgN → St := fun (v3, v65, v66, v67, o0) => St.mk [(1, AV.bp 0 []), (3, AV.dat tI v3), (65, AV.dat (Ty.sl zo) v65), (66, AV.dat tI v66), (67, AV.dat tI v67)] [Obj.bx (AV.dat qX o0) false]
def zmz (k0 : zgN → Option (Bool × Unit)) : zgN → Option (Bool × Unit) := fun (v3, v65, v66, v67, o0) =>
  bif decide (v67 < v66) then inR v67 ((List.length v65) : Int) (inR v67 ((List.length o0.1.2.2.2.2.1) : Int) (bif ((List.length (ix za v65 v67).1) : Int) != (ix jl o0.1.2.2.2.2.1 v67).1 then some (false, ()) else bif ((List.length (ix za v65 v67).2.1) : Int) != (ix jl o0.1.2.2.2.2.1 v67).2.1 then some (false, ()) else bif ((List.length (ix za v65 v67).2.2.1) : Int) != (ix jl o0.1.2.2.2.2.1 v67).2.2.1 then some (false, ()) else bif ((List.length (ix za v65 v67).2.2.2.1) : Int) != (ix jl o0.1.2.2.2.2.1 v67).2.2.2.1 then some (false, ()) else bif ((List.length (ix za v65 v67).2.2.2.2.1) : Int) != (ix jl o0.1.2.2.2.2.1 v67).2.2.2.2.1 then some (false, ()) else bif ((List.length (ix za v65 v67).2.2.2.2.2.1) : Int) != v3 then some (false, ()) else bif ((List.length (ix za v65 v67).2.2.2.2.2.2.1) : Int) != v3 then some (false, ()) else k0 (v3, v65, v66, wI (v67 + 1), o0))) else some (true, ())
abbrev zuI (K : Nat) : zgN → Option (Bool × Unit) := iter (zmz) K
theorem zUV (K : Nat) : ∀ n, evV (zNI zF) K Tryz.f55 0 zqv [1, 1, 1, 0, 1, 0] [] zUU n = iter (zmz) n := zp fun n0 (v3, v65, v66, v67, o0) => by kernel_rfl
def zqK (L0 : zgN → Option (Bool × Unit)) : (qM × Unit) → Option (Bool × Unit) := fun (x0, ()) =>
  Option.bind (zF (x0.1, ())) fun q0 => bif q0.1 then bif ((List.length x0.2.1.2.1) : Int) != ((List.length x0.1.1) : Int) then some (false, ()) else bif ((List.length x0.2.1.2.2.2.1) : Int) != x0.1.2.2.2.2.2.1 then some (false, ()) else bif decide (((List.length x0.2.1.2.2.2.2.1) : Int) > x0.1.2.2.2.2.2.2.1) then some (false, ()) else bif ((List.length x0.2.1.2.2.2.2.2.1) : Int) != ((List.length x0.1.2.1) : Int) then some (false, ()) else bif decide (x0.2.1.1 > 4611686018427387904) then some (false, ()) else L0 (((List.length x0.1.2.2.1) : Int), x0.2.1.2.1, ((List.length x0.2.1.2.1) : Int), 0, x0) else some (false, ())
theorem zZt (K : Nat) : evF (zNI zF) K Tryz.f55 0 zzw zqv = zqK zF (zuI K) := tr1 (T := zqK zF) (zUV zF K K) fun (x0, ()) => by kernel_rfl
end
def zdN : zM7 := zqK jf (zuI K0)
theorem zZu : Sd Tryz.prog E0 (zwv zdN) := mkS (l := [vK jf]) ⟨zk2, trivial⟩ Tryz.func55 (by kernel_rfl) (zZt jf K0)
section
def zvU : (zm × ((Option (Option ((zm × Unit) → Option (Bool × Unit)))) × Unit)) → Option (Bool × Unit) := fun (x0, x1, ()) =>
  Option.bind x1 fun q0 => Option.bind q0 fun q1 => Option.bind (q1 (x0, ())) fun q2 => bif q2.1 then some (false, ()) else some (true, ())
theorem zOo (K : Nat) : evF (En E0 false []) K Tryz.f201 0 zlO zlP = zvU := funext fun (x0, x1, ()) => by kernel_rfl
end
def zai : zvK := zvU
theorem zOp : Sd Tryz.prog E0 (zj6 zai) := mkS (l := []) trivial Tryz.func201 (by kernel_rfl) (zOo K0)
section
abbrev zuJ : Env := (En E0 false [])
abbrev zau : Type := (List zm) × (Option ((zm × Unit) → Option (Bool × Unit))) × Int × Int
abbrev zJn : zau → St := fun (v0, v1, v7, v8) => St.mk [(0, AV.dat (Ty.sl zo) v0), (1, AV.dat (Ty.fn (Ty.pair zo Ty.unit) (Ty.pair Ty.bool Ty.unit)) v1), (7, AV.dat tI v7), (8, AV.dat tI v8)] []
def zib (k0 : zau → Option (Int × Unit)) : zau → Option (Int × Unit) := fun (v0, v1, v7, v8) =>
  bif decide (v8 < v7) then inR v8 ((List.length v0) : Int) (Option.bind v1 fun q0 => Option.bind (q0 (ix za v0 v8, ())) fun q1 => bif q1.1 then some (v8, ()) else k0 (v0, v1, v7, wI (v8 + 1))) else some ((-1), ())
abbrev zp6 (K : Nat) : zau → Option (Int × Unit) := iter (zib) K
theorem zJo (K : Nat) : ∀ n, evV (zuJ) K Tryz.f253 0 zej [1, 0, 1, 0] [] zJn n = iter (zib) n := zp fun n0 (v0, v1, v7, v8) => by kernel_rfl
def zku (L0 : zau → Option (Int × Unit)) : ((List zm) × ((Option ((zm × Unit) → Option (Bool × Unit))) × Unit)) → Option (Int × Unit) := fun (x0, x1, ()) =>
  L0 (x0, x1, ((List.length x0) : Int), 0)
theorem zMq (K : Nat) : evF (zuJ) K Tryz.f253 0 zkf zej = zku (zp6 K) := tr1 (T := zku) (zJo K K) fun (x0, x1, ()) => by kernel_rfl
end
def yX : zur := zku (zp6 K0)
theorem zMr : Sd Tryz.prog E0 (ziY yX) := mkS (l := []) trivial Tryz.func253 (by kernel_rfl) (zMq K0)
section
variable (zkv : zur)
def zoO : ((List zm) × ((Option ((zm × Unit) → Option (Bool × Unit))) × Unit)) → Option (Bool × Unit) := fun (x0, x1, ()) =>
  Option.bind (zkv (x0, x1, ())) fun q0 => bif decide (q0.1 ≥ 0) then some (true, ()) else some (false, ())
theorem zGp (K : Nat) : evF (En E0 false [ziY zkv]) K Tryz.f200 0 zfR zfS = zoO zkv := funext fun (x0, x1, ()) => by kernel_rfl
end
def j6 : zoI := zoO yX
theorem zGq : Sd Tryz.prog E0 (zeV j6) := mkS (l := [ziY yX]) ⟨zMr, trivial⟩ Tryz.func200 (by kernel_rfl) (zGp yX K0)
section
variable (zmc : zvK) (zf6 : zoI)
def zBW : ((List zm) × ((Option ((zm × Unit) → Option (Bool × Unit))) × Unit)) → Option (Bool × Unit) := fun (x0, x1, ()) =>
  Option.bind (zf6 (x0, some fun z => zmc (z.1, some x1, ()), ())) fun q0 => bif q0.1 then some (false, ()) else some (true, ())
theorem zQ0 (K : Nat) : evF (En E0 false [zj6 zmc, zeV zf6]) K Tryz.f125 0 zo5 zo6 = zBW zmc zf6 := funext fun (x0, x1, ()) => by kernel_rfl
end
def zd3 : zBK := zBW zai j6
theorem zQ1 : Sd Tryz.prog E0 (zm2 zd3) := mkS (l := [zj6 zai, zeV j6]) ⟨zOp, zGq, trivial⟩ Tryz.func125 (by kernel_rfl) (zQ0 zai j6 K0)
section
abbrev zvV : Env := (En E0 false [])
abbrev za6 : Type := (List jK) × (Option ((jK × Unit) → Option (Bool × Unit))) × Int × Int
abbrev zKV : za6 → St := fun (v0, v1, v7, v8) => St.mk [(0, AV.dat (Ty.sl jz) v0), (1, AV.dat (Ty.fn (Ty.pair jz Ty.unit) (Ty.pair Ty.bool Ty.unit)) v1), (7, AV.dat tI v7), (8, AV.dat tI v8)] []
def zi8 (k0 : za6 → Option (Int × Unit)) : za6 → Option (Int × Unit) := fun (v0, v1, v7, v8) =>
  bif decide (v8 < v7) then inR v8 ((List.length v0) : Int) (Option.bind v1 fun q0 => Option.bind (q0 (ix zqq v0 v8, ())) fun q1 => bif q1.1 then some (v8, ()) else k0 (v0, v1, v7, wI (v8 + 1))) else some ((-1), ())
abbrev zsR (K : Nat) : za6 → Option (Int × Unit) := iter (zi8) K
theorem zKW (K : Nat) : ∀ n, evV (zvV) K Tryz.f254 0 zfI [1, 0, 1, 0] [] zKV n = iter (zi8) n := zp fun n0 (v0, v1, v7, v8) => by kernel_rfl
def zmd (L0 : za6 → Option (Int × Unit)) : ((List jK) × ((Option ((jK × Unit) → Option (Bool × Unit))) × Unit)) → Option (Int × Unit) := fun (x0, x1, ()) =>
  L0 (x0, x1, ((List.length x0) : Int), 0)
theorem zOq (K : Nat) : evF (zvV) K Tryz.f254 0 zl0 zfI = zmd (zsR K) := tr1 (T := zmd) (zKW K K) fun (x0, x1, ()) => by kernel_rfl
end
def zaj : zvO := zmd (zsR K0)
theorem zOr : Sd Tryz.prog E0 (zkg zaj) := mkS (l := []) trivial Tryz.func254 (by kernel_rfl) (zOq K0)
section
variable (zme : zvO)
def zp7 : ((List jK) × ((Option ((jK × Unit) → Option (Bool × Unit))) × Unit)) → Option (Bool × Unit) := fun (x0, x1, ()) =>
  Option.bind (zme (x0, x1, ())) fun q0 => bif decide (q0.1 ≥ 0) then some (true, ()) else some (false, ())
theorem zJp (K : Nat) : evF (En E0 false [zkg zme]) K Tryz.f202 0 zhR zhS = zp7 zme := funext fun (x0, x1, ()) => by kernel_rfl
end
def zav : zpW := zp7 zaj
theorem zJq : Sd Tryz.prog E0 (zfT zav) := mkS (l := [zkg zaj]) ⟨zOr, trivial⟩ Tryz.func202 (by kernel_rfl) (zJp zaj K0)
section
variable (vY : zua)
def zxA : (jK × Unit) → Option (Bool × Unit) := fun (x0, ()) =>
  bif x0.1 then Option.bind (vY (x0.2.1, ())) fun q0 => bif q0.1 then bif x0.1 then some (false, ()) else bif !ByteArray.toList x0.2.1 == ByteArray.toList (ByteArray.mk #[]) then some (true, ()) else some (false, ()) else some (true, ()) else bif x0.1 then some (false, ()) else bif !ByteArray.toList x0.2.1 == ByteArray.toList (ByteArray.mk #[]) then some (true, ()) else some (false, ())
theorem zXi (K : Nat) : evF (En E0 false [zdL vY]) K Tryz.f203 0 zxg zxh = zxA vY := funext fun (x0, ()) => by kernel_rfl
end
def zeC : zKG := zxA vX
theorem zXj : Sd Tryz.prog E0 (zug zeC) := mkS (l := [zdL vX]) ⟨zER, trivial⟩ Tryz.func203 (by kernel_rfl) (zXi vX K0)
section
variable (zic : zpW) (zxB : zKG)
def zE1 : ((List jK) × Unit) → Option (Bool × Unit) := fun (x0, ()) =>
  Option.bind (zic (x0, some zxB, ())) fun q0 => bif q0.1 then some (false, ()) else some (true, ())
theorem z2k (K : Nat) : evF (En E0 false [zfT zic, zug zxB]) K Tryz.f127 0 zDv zDw = zE1 zic zxB := funext fun (x0, ()) => by kernel_rfl
end
def zi9 : zPf := zE1 zav zeC
theorem z2l : Sd Tryz.prog E0 (zAa zi9) := mkS (l := [zfT zav, zug zeC]) ⟨zJq, zXj, trivial⟩ Tryz.func127 (by kernel_rfl) (z2k zav zeC K0)
section
def zE2 : (qi × Unit) → Option (Bool × Unit) := fun (x0, ()) =>
  bif decide (x0.1 ≥ 0) then bif decide (x0.1 ≤ 127) then bif decide (x0.2.1 ≥ 0) then bif decide (x0.2.1 ≤ 127) then some (true, ()) else some (false, ()) else some (false, ()) else some (false, ()) else some (false, ())
theorem z2m (K : Nat) : evF (En E0 false []) K Tryz.f255 0 zEw zEx = zE2 := funext fun (x0, ()) => by kernel_rfl
end
def zja : zPx := zE2
theorem z2n : Sd Tryz.prog E0 (zAK zja) := mkS (l := []) trivial Tryz.func255 (by kernel_rfl) (z2m K0)
section
def zE3 : (Int × Unit) → Option (Bool × Unit) := fun (x0, ()) =>
  bif decide (x0 ≥ 0) then bif decide (x0 < 6) then some (true, ()) else some (false, ()) else some (false, ())
theorem z2o (K : Nat) : evF (En E0 false []) K Tryz.f256 0 zEy zEz = zE3 := funext fun (x0, ()) => by kernel_rfl
end
def zjb : zPy := zE3
theorem z2p : Sd Tryz.prog E0 (zAL zjb) := mkS (l := []) trivial Tryz.func256 (by kernel_rfl) (z2o K0)
section
variable (zuK : zPx) (zE4 : zPy)
def zE5 : (qd × Unit) → Option (Bool × Unit) := fun (x0, ()) =>
  bif x0.1 then Option.bind (zuK (x0.2.1, ())) fun q0 => bif q0.1 then Option.bind (zuK (x0.2.2.1, ())) fun q1 => bif q1.1 then Option.bind (zE4 (x0.2.2.2.1, ())) fun q2 => bif q2.1 then some (false, ()) else some (true, ()) else some (true, ()) else some (true, ()) else bif !eqI qt x0 (zb qt) then some (true, ()) else some (false, ())
theorem z2q (K : Nat) : evF (En E0 false [zAK zuK, zAL zE4]) K Tryz.f204 0 zD5 zD6 = zE5 zuK zE4 := funext fun (x0, ()) => by kernel_rfl
end
def ze8 : zPp := zE5 zja zjb
theorem z2r : Sd Tryz.prog E0 (zAA ze8) := mkS (l := [zAK zja, zAL zjb]) ⟨z2n, z2p, trivial⟩ Tryz.func204 (by kernel_rfl) (z2q zja zjb K0)
section
def zxC : (qd × ((Option qi) × ((Option Int) × Unit))) → Option (Bool × Unit) := fun (x0, x1, x2, ()) =>
  bif x0.1 then Option.bind x1 fun q0 => bif eqI z5 x0.2.1 q0 then Option.bind x2 fun q1 => bif x0.2.2.2.1 == q1 then some (true, ()) else some (false, ()) else some (false, ()) else some (false, ())
theorem zXk (K : Nat) : evF (En E0 false []) K Tryz.f258 0 zxo zxp = zxC := funext fun (x0, x1, x2, ()) => by kernel_rfl
end
def zeD : zKJ := zxC
theorem zXl : Sd Tryz.prog E0 (zus zeD) := mkS (l := []) trivial Tryz.func258 (by kernel_rfl) (zXk K0)
section
abbrev zvW : Env := (En E0 false [])
abbrev za7 : Type := (List qd) × (Option ((qd × Unit) → Option (Bool × Unit))) × Int × Int
abbrev zKX : za7 → St := fun (v0, v1, v7, v8) => St.mk [(0, AV.dat (Ty.sl qt) v0), (1, AV.dat (Ty.fn (Ty.pair qt Ty.unit) (Ty.pair Ty.bool Ty.unit)) v1), (7, AV.dat tI v7), (8, AV.dat tI v8)] []
def zjc (k0 : za7 → Option (Int × Unit)) : za7 → Option (Int × Unit) := fun (v0, v1, v7, v8) =>
  bif decide (v8 < v7) then inR v8 ((List.length v0) : Int) (Option.bind v1 fun q0 => Option.bind (q0 (ix qG v0 v8, ())) fun q1 => bif q1.1 then some (v8, ()) else k0 (v0, v1, v7, wI (v8 + 1))) else some ((-1), ())
abbrev zsS (K : Nat) : za7 → Option (Int × Unit) := iter (zjc) K
theorem zKY (K : Nat) : ∀ n, evV (zvW) K Tryz.f257 0 zfJ [1, 0, 1, 0] [] zKX n = iter (zjc) n := zp fun n0 (v0, v1, v7, v8) => by kernel_rfl
def zmf (L0 : za7 → Option (Int × Unit)) : ((List qd) × ((Option ((qd × Unit) → Option (Bool × Unit))) × Unit)) → Option (Int × Unit) := fun (x0, x1, ()) =>
  L0 (x0, x1, ((List.length x0) : Int), 0)
theorem zOs (K : Nat) : evF (zvW) K Tryz.f257 0 zl1 zfJ = zmf (zsS K) := tr1 (T := zmf) (zKY K K) fun (x0, x1, ()) => by kernel_rfl
end
def jX : zl2 := zmf (zsS K0)
theorem zvX : Sd Tryz.prog E0 (zbx jX) := mkS (l := []) trivial Tryz.func257 (by kernel_rfl) (zOs K0)
section
variable (zxD : zKJ) (yi : zl2)
def zE6 : ((List qd) × (qi × (Int × Unit))) → Option (Int × Unit) := fun (x0, x1, x2, ()) =>
  Option.bind (yi (x0, some fun z => zxD (z.1, some x1, some x2, ()), ())) fun q0 => some (q0.1, ())
theorem z2s (K : Nat) : evF (En E0 false [zus zxD, zbx yi]) K Tryz.f205 0 zD7 zD8 = zE6 zxD yi := funext fun (x0, x1, x2, ()) => by kernel_rfl
end
def ze9 : zPq := zE6 zeD jX
theorem z2t : Sd Tryz.prog E0 (zAB ze9) := mkS (l := [zus zeD, zbx jX]) ⟨zXl, zvX, trivial⟩ Tryz.func205 (by kernel_rfl) (z2s zeD jX K0)
section
variable (zc9 : zPp) (zda : zPq)
abbrev zPX : Env := (En E0 false [zAA zc9, zAB zda])
abbrev zjd : Type := (List qd) × (List qd) × Int × Int
abbrev zXm : zjd → St := fun (v0, v5, v6, v7) => St.mk [(0, AV.dat (Ty.sl qt) v0), (5, AV.dat (Ty.sl qt) v5), (6, AV.dat tI v6), (7, AV.dat tI v7)] []
def zje (k0 : zjd → Option (Bool × Unit)) : zjd → Option (Bool × Unit) := fun (v0, v5, v6, v7) =>
  bif decide (v7 < v6) then inR v7 ((List.length v5) : Int) (Option.bind (zc9 (ix qG v5 v7, ())) fun q0 => bif q0.1 then some (false, ()) else bif (ix qG v5 v7).1 then Option.bind (zda (v0, (ix qG v5 v7).2.1, (ix qG v5 v7).2.2.2.1, ())) fun q1 => bif q1.1 != v7 then some (false, ()) else k0 (v0, v5, v6, wI (v7 + 1)) else k0 (v0, v5, v6, wI (v7 + 1))) else some (true, ())
abbrev zKZ (K : Nat) : zjd → Option (Bool × Unit) := iter (zje zc9 zda) K
theorem zXn (K : Nat) : ∀ n, evV (zPX zc9 zda) K Tryz.f128 0 ztK [1, 0, 1, 0] [] zXm n = iter (zje zc9 zda) n := zp fun n0 (v0, v5, v6, v7) => by kernel_rfl
def zE7 (L0 : zjd → Option (Bool × Unit)) : ((List qd) × Unit) → Option (Bool × Unit) := fun (x0, ()) =>
  L0 (x0, x0, ((List.length x0) : Int), 0)
theorem z2u (K : Nat) : evF (zPX zc9 zda) K Tryz.f128 0 zDx ztK = zE7 (zKZ zc9 zda K) := tr1 (T := zE7) (zXn zc9 zda K K) fun (x0, ()) => by kernel_rfl
end
def znA : zPg := zE7 (zKZ ze8 ze9 K0)
theorem z2v : Sd Tryz.prog E0 (zAb znA) := mkS (l := [zAA ze8, zAB ze9]) ⟨z2r, z2t, trivial⟩ Tryz.func128 (by kernel_rfl) (z2u ze8 ze9 K0)
section
abbrev zvY : Env := (En E0 false [])
abbrev za8 : Type := (List qb) × (Option ((qb × Unit) → Option (Bool × Unit))) × Int × Int
abbrev zK0 : za8 → St := fun (v0, v1, v7, v8) => St.mk [(0, AV.dat (Ty.sl zW) v0), (1, AV.dat (Ty.fn (Ty.pair zW Ty.unit) (Ty.pair Ty.bool Ty.unit)) v1), (7, AV.dat tI v7), (8, AV.dat tI v8)] []
def zjf (k0 : za8 → Option (Int × Unit)) : za8 → Option (Int × Unit) := fun (v0, v1, v7, v8) =>
  bif decide (v8 < v7) then inR v8 ((List.length v0) : Int) (Option.bind v1 fun q0 => Option.bind (q0 (ix zJ v0 v8, ())) fun q1 => bif q1.1 then some (v8, ()) else k0 (v0, v1, v7, wI (v8 + 1))) else some ((-1), ())
abbrev zsT (K : Nat) : za8 → Option (Int × Unit) := iter (zjf) K
theorem zK1 (K : Nat) : ∀ n, evV (zvY) K Tryz.f259 0 zfK [1, 0, 1, 0] [] zK0 n = iter (zjf) n := zp fun n0 (v0, v1, v7, v8) => by kernel_rfl
def zmg (L0 : za8 → Option (Int × Unit)) : ((List qb) × ((Option ((qb × Unit) → Option (Bool × Unit))) × Unit)) → Option (Int × Unit) := fun (x0, x1, ()) =>
  L0 (x0, x1, ((List.length x0) : Int), 0)
theorem zOt (K : Nat) : evF (zvY) K Tryz.f259 0 zl3 zfK = zmg (zsT K) := tr1 (T := zmg) (zK1 K K) fun (x0, x1, ()) => by kernel_rfl
end
def zak : zvP := zmg (zsT K0)
theorem zOu : Sd Tryz.prog E0 (zkh zak) := mkS (l := []) trivial Tryz.func259 (by kernel_rfl) (zOt K0)
section
variable (zmh : zvP)
def zp8 : ((List qb) × ((Option ((qb × Unit) → Option (Bool × Unit))) × Unit)) → Option (Bool × Unit) := fun (x0, x1, ()) =>
  Option.bind (zmh (x0, x1, ())) fun q0 => bif decide (q0.1 ≥ 0) then some (true, ()) else some (false, ())
theorem zJr (K : Nat) : evF (En E0 false [zkh zmh]) K Tryz.f206 0 zhT zhU = zp8 zmh := funext fun (x0, x1, ()) => by kernel_rfl
end
def qT : zhV := zp8 zak
theorem zp9 : Sd Tryz.prog E0 (y6 qT) := mkS (l := [zkh zak]) ⟨zOu, trivial⟩ Tryz.func206 (by kernel_rfl) (zJr zak K0)
section
def zUW : (qb × Unit) → Option (zKl × Unit) := fun (x0, ()) =>
  some ((x0.2.2.1, x0.2.2.2.1, x0.2.2.2.2.1, ()), ())
theorem z6G (K : Nat) : evF (En E0 false []) K Tryz.f260 0 zL9 zMa = zUW := funext fun (x0, ()) => by kernel_rfl
end
def zuL : zUG := zUW
theorem z6H : Sd Tryz.prog E0 (zI5 zuL) := mkS (l := []) trivial Tryz.func260 (by kernel_rfl) (z6G K0)
section
def zMs : (Int × Unit) → Option (Bool × Unit) := fun (x0, ()) =>
  bif decide (x0 ≥ 0) then bif decide (x0 ≤ 127) then some (true, ()) else some (false, ()) else some (false, ())
theorem z6I (K : Nat) : evF (En E0 false []) K Tryz.f282 0 zMh zMi = zMs := funext fun (x0, ()) => by kernel_rfl
end
def zoh : zUI := zMs
theorem z6J : Sd Tryz.prog E0 (zJe zoh) := mkS (l := []) trivial Tryz.func282 (by kernel_rfl) (z6I K0)
section
variable (zoi : zUI)
def znB : (zKl × Unit) → Option (Bool × Unit) := fun (x0, ()) =>
  bif x0.1 == 1 then Option.bind (zoi (x0.2.1, ())) fun q0 => bif q0.1 then bif eqI z5 x0.2.2.1 (zb z5) then some (true, ()) else some (false, ()) else some (false, ()) else bif x0.1 == 3 then Option.bind (zoi (x0.2.1, ())) fun q1 => bif q1.1 then bif eqI z5 x0.2.2.1 (zb z5) then some (true, ()) else some (false, ()) else some (false, ()) else bif x0.1 == 2 then bif x0.2.1 == 0 then Option.bind (zoi (x0.2.2.1.1, ())) fun q2 => bif q2.1 then Option.bind (zoi (x0.2.2.1.2.1, ())) fun q3 => bif q3.1 then some (true, ()) else some (false, ()) else some (false, ()) else some (false, ()) else some (false, ())
theorem zPY (K : Nat) : evF (En E0 false [zJe zoi]) K Tryz.f261 0 znl znm = znB zoi := funext fun (x0, ()) => by kernel_rfl
end
def za9 : zyF := znB zoh
theorem zPZ : Sd Tryz.prog E0 (zl4 za9) := mkS (l := [zJe zoh]) ⟨z6J, trivial⟩ Tryz.func261 (by kernel_rfl) (zPY zoh K0)
section
variable (vY : zua) (zMt : zUG) (znC : zyF)
def zAY : (qb × Unit) → Option (Bool × Unit) := fun (x0, ()) =>
  bif x0.1 then Option.bind (vY (x0.2.1, ())) fun q0 => bif q0.1 then Option.bind (zMt (x0, ())) fun q1 => Option.bind (znC (q1.1, ())) fun q2 => bif q2.1 then some (false, ()) else some (true, ()) else some (true, ()) else bif !eqI zW x0 (zb zW) then some (true, ()) else some (false, ())
theorem zZv (K : Nat) : evF (En E0 false [zdL vY, zI5 zMt, zl4 znC]) K Tryz.f207 0 zAC zAD = zAY vY zMt znC := funext fun (x0, ()) => by kernel_rfl
end
def zgi : zNz := zAY vX zuL za9
theorem zZw : Sd Tryz.prog E0 (zxi zgi) := mkS (l := [zdL vX, zI5 zuL, zl4 za9]) ⟨zER, z6H, zPZ, trivial⟩ Tryz.func207 (by kernel_rfl) (zZv vX zuL za9 K0)
section
variable (vq : zhV) (zAZ : zNz)
def zA0 : ((List qb) × Unit) → Option (Bool × Unit) := fun (x0, ()) =>
  Option.bind (vq (x0, some zAZ, ())) fun q0 => bif q0.1 then some (false, ()) else some (true, ())
theorem zZx (K : Nat) : evF (En E0 false [y6 vq, zxi zAZ]) K Tryz.f129 0 zAc zAd = zA0 vq zAZ := funext fun (x0, ()) => by kernel_rfl
end
def zgj : zNs := zA0 qT zgi
theorem zZy : Sd Tryz.prog E0 (zw3 zgj) := mkS (l := [y6 qT, zxi zgi]) ⟨zp9, zZw, trivial⟩ Tryz.func129 (by kernel_rfl) (zZx qT zgi K0)
section
abbrev zvZ : Env := (En E0 false [])
abbrev zba : Type := (List qy) × (Option ((qy × Unit) → Option (Bool × Unit))) × Int × Int
abbrev zK2 : zba → St := fun (v0, v1, v7, v8) => St.mk [(0, AV.dat (Ty.sl qA) v0), (1, AV.dat (Ty.fn (Ty.pair qA Ty.unit) (Ty.pair Ty.bool Ty.unit)) v1), (7, AV.dat tI v7), (8, AV.dat tI v8)] []
def zjg (k0 : zba → Option (Int × Unit)) : zba → Option (Int × Unit) := fun (v0, v1, v7, v8) =>
  bif decide (v8 < v7) then inR v8 ((List.length v0) : Int) (Option.bind v1 fun q0 => Option.bind (q0 (ix zfG v0 v8, ())) fun q1 => bif q1.1 then some (v8, ()) else k0 (v0, v1, v7, wI (v8 + 1))) else some ((-1), ())
abbrev zsU (K : Nat) : zba → Option (Int × Unit) := iter (zjg) K
theorem zK3 (K : Nat) : ∀ n, evV (zvZ) K Tryz.f262 0 zfL [1, 0, 1, 0] [] zK2 n = iter (zjg) n := zp fun n0 (v0, v1, v7, v8) => by kernel_rfl
def zmi (L0 : zba → Option (Int × Unit)) : ((List qy) × ((Option ((qy × Unit) → Option (Bool × Unit))) × Unit)) → Option (Int × Unit) := fun (x0, x1, ()) =>
  L0 (x0, x1, ((List.length x0) : Int), 0)
theorem zOv (K : Nat) : evF (zvZ) K Tryz.f262 0 zl5 zfL = zmi (zsU K) := tr1 (T := zmi) (zK3 K K) fun (x0, x1, ()) => by kernel_rfl
end
def zal : zvQ := zmi (zsU K0)
theorem zOw : Sd Tryz.prog E0 (zki zal) := mkS (l := []) trivial Tryz.func262 (by kernel_rfl) (zOv K0)
section
variable (zmj : zvQ)
def zqa : ((List qy) × ((Option ((qy × Unit) → Option (Bool × Unit))) × Unit)) → Option (Bool × Unit) := fun (x0, x1, ()) =>
  Option.bind (zmj (x0, x1, ())) fun q0 => bif decide (q0.1 ≥ 0) then some (true, ()) else some (false, ())
theorem zJs (K : Nat) : evF (En E0 false [zki zmj]) K Tryz.f208 0 zhW zhX = zqa zmj := funext fun (x0, x1, ()) => by kernel_rfl
end
def qU : zhY := zqa zal
theorem zqb : Sd Tryz.prog E0 (y7 qU) := mkS (l := [zki zal]) ⟨zOw, trivial⟩ Tryz.func208 (by kernel_rfl) (zJs zal K0)
section
def zP0 : (Int × Unit) → Option (Bool × Unit) := fun (x0, ()) =>
  bif decide (x0 ≥ 0) then bif decide (x0 ≤ 127) then some (true, ()) else some (false, ()) else some (false, ())
theorem z70 (K : Nat) : evF (En E0 false []) K Tryz.f283 0 zPD zPE = zP0 := funext fun (x0, ()) => by kernel_rfl
end
def zsV : zY1 := zP0
theorem z71 : Sd Tryz.prog E0 (zMj zsV) := mkS (l := []) trivial Tryz.func283 (by kernel_rfl) (z70 K0)
section
variable (zyK : zY1)
def zxE : (qy × Unit) → Option (Bool × Unit) := fun (x0, ()) =>
  Option.bind (zyK (x0.2.1, ())) fun q0 => bif q0.1 then Option.bind (zyK (x0.2.2.1, ())) fun q1 => bif q1.1 then Option.bind (zyK (x0.2.2.2.1, ())) fun q2 => bif q2.1 then some (true, ()) else some (false, ()) else some (false, ()) else some (false, ())
theorem zXo (K : Nat) : evF (En E0 false [zMj zyK]) K Tryz.f263 0 zxq zxr = zxE zyK := funext fun (x0, ()) => by kernel_rfl
end
def zjh : zKK := zxE zsV
theorem zXp : Sd Tryz.prog E0 (zut zjh) := mkS (l := [zMj zsV]) ⟨z71, trivial⟩ Tryz.func263 (by kernel_rfl) (zXo zsV K0)
section
def zE8 : (Int × Unit) → Option (Bool × Unit) := fun (x0, ()) =>
  bif decide (x0 ≥ 32) then bif decide (x0 ≤ 126) then some (true, ()) else some (false, ()) else some (false, ())
theorem z2w (K : Nat) : evF (En E0 false []) K Tryz.f284 0 zEG zEH = zE8 := funext fun (x0, ()) => by kernel_rfl
end
def zji : zPF := zE8
theorem z2x : Sd Tryz.prog E0 (zAQ zji) := mkS (l := []) trivial Tryz.func284 (by kernel_rfl) (z2w K0)
section
abbrev zoP : Env := (En E0 false [])
abbrev yl : Type := ByteArray × Int
abbrev zCm : yl → St := fun (v0, v1) => St.mk [(0, AV.dat Ty.str v0), (1, AV.dat (Ty.int IntKind.u8) v1)] []
def z3 (k0 : yl → Option (ByteArray × Unit)) : yl → Option (ByteArray × Unit) := fun (v0, v1) =>
  bif decide ((↑(ByteArray.size v0) : Int) > 0) then inR (wI ((↑(ByteArray.size v0) : Int) - 1)) (↑(ByteArray.size v0) : Int) (bif (↑(UInt8.toNat (List.getD (Array.toList (ByteArray.data v0)) (Int.toNat (wI ((↑(ByteArray.size v0) : Int) - 1))) 0)) : Int) == v1 then bif decide (0 ≤ wI ((↑(ByteArray.size v0) : Int) - 1)) then bif decide (wI ((↑(ByteArray.size v0) : Int) - 1) ≤ (↑(ByteArray.size v0) : Int)) then k0 (ByteArray.extract v0 0 (Int.toNat (wI ((↑(ByteArray.size v0) : Int) - 1))), v1) else none else none else some (v0, ())) else some (v0, ())
abbrev zmA (K : Nat) : yl → Option (ByteArray × Unit) := iter (z3) K
theorem zCn (K : Nat) : ∀ n, evV (zoP) K Tryz.f291 0 zb9 [1, 0, 0] [] zCm n = iter (z3) n := zp fun n0 (v0, v1) => by kernel_rfl
def zf7 (L0 : yl → Option (ByteArray × Unit)) : (ByteArray × (Int × Unit)) → Option (ByteArray × Unit) := fun (x0, x1, ()) =>
  L0 (x0, x1)
theorem zGr (K : Nat) : evF (zoP) K Tryz.f291 0 zf5 zb9 = zf7 (zmA K) := tr1 (T := zf7) (zCn K K) fun (x0, x1, ()) => by kernel_rfl
end
def y8 : zoL := zf7 (zmA K0)
theorem zGs : Sd Tryz.prog E0 (zeY y8) := mkS (l := []) trivial Tryz.func291 (by kernel_rfl) (zGr K0)
section
abbrev zqc : Env := (En E0 false [])
abbrev yE : Type := ByteArray × Int
abbrev zE9 : yE → St := fun (v0, v1) => St.mk [(0, AV.dat Ty.str v0), (1, AV.dat (Ty.int IntKind.u8) v1)] []
def z8 (k0 : yE → Option (ByteArray × Unit)) : yE → Option (ByteArray × Unit) := fun (v0, v1) =>
  bif decide ((↑(ByteArray.size v0) : Int) > 0) then bif decide (0 < (↑(ByteArray.size v0) : Int)) then bif (↑(UInt8.toNat (List.getD (Array.toList (ByteArray.data v0)) (Int.toNat 0) 0)) : Int) == v1 then bif decide (1 ≤ (↑(ByteArray.size v0) : Int)) then k0 (ByteArray.extract v0 (Int.toNat 1) (ByteArray.size v0), v1) else none else some (v0, ()) else none else some (v0, ())
abbrev znD (K : Nat) : yE → Option (ByteArray × Unit) := iter (z8) K
theorem zFa (K : Nat) : ∀ n, evV (zqc) K Tryz.f290 0 zcO [1, 0, 0] [] zE9 n = iter (z8) n := zp fun n0 (v0, v1) => by kernel_rfl
def zid (L0 : yE → Option (ByteArray × Unit)) : (ByteArray × (Int × Unit)) → Option (ByteArray × Unit) := fun (x0, x1, ()) =>
  L0 (x0, x1)
theorem zJt (K : Nat) : evF (zqc) K Tryz.f290 0 zh5 zcO = zid (znD K) := tr1 (T := zid) (zFa K K) fun (x0, x1, ()) => by kernel_rfl
end
def zaw : zp2 := zid (znD K0)
theorem zJu : Sd Tryz.prog E0 (zf4 zaw) := mkS (l := []) trivial Tryz.func290 (by kernel_rfl) (zJt K0)
section
variable (zf8 : zoL) (zie : zp2)
def zxF : (ByteArray × (ByteArray × Unit)) → Option (ByteArray × Unit) := fun (x0, x1, ()) =>
  bif ByteArray.toList x0 == ByteArray.toList (ByteArray.mk #[]) then some (x0, ()) else bif ByteArray.toList x1 == ByteArray.toList (ByteArray.mk #[]) then some (x0, ()) else bif (↑(ByteArray.size x1) : Int) == 1 then bif decide (0 < (↑(ByteArray.size x1) : Int)) then bif decide ((↑(UInt8.toNat (List.getD (Array.toList (ByteArray.data x1)) (Int.toNat 0) 0)) : Int) < 128) then bif decide (0 < (↑(ByteArray.size x1) : Int)) then Option.bind (zf8 (x0, (↑(UInt8.toNat (List.getD (Array.toList (ByteArray.data x1)) (Int.toNat 0) 0)) : Int), ())) fun q0 => bif decide (0 < (↑(ByteArray.size x1) : Int)) then Option.bind (zie (q0.1, (↑(UInt8.toNat (List.getD (Array.toList (ByteArray.data x1)) (Int.toNat 0) 0)) : Int), ())) fun q1 => some (q1.1, ()) else none else none else none else none else none
theorem zXq (K : Nat) : evF (En E0 false [zeY zf8, zf4 zie]) K Tryz.f285 0 zxu zxv = zxF zf8 zie := funext fun (x0, x1, ()) => by kernel_rfl
end
def zeE : zKM := zxF y8 zaw
theorem zXr : Sd Tryz.prog E0 (zuA zeE) := mkS (l := [zeY y8, zf4 zaw]) ⟨zGs, zJu, trivial⟩ Tryz.func285 (by kernel_rfl) (zXq y8 zaw K0)
section
variable (zks : zL8) (zFb : zPF) (zxG : zKM)
def zJv : (ByteArray × Unit) → Option (Bool × Unit) := fun (x0, ()) =>
  bif decide ((↑(ByteArray.size x0) : Int) ≥ 1) then bif decide ((↑(ByteArray.size x0) : Int) ≤ 40) then Option.bind (zks (x0, some zFb, ())) fun q0 => bif q0.1 then Option.bind (zxG (x0, ByteArray.mk #[32], ())) fun q1 => bif ByteArray.toList q1.1 == ByteArray.toList x0 then some (true, ()) else some (false, ()) else some (false, ()) else some (false, ()) else some (false, ())
theorem z4l (K : Nat) : evF (En E0 false [zpY zks, zAQ zFb, zuA zxG]) K Tryz.f264 0 zI6 zI7 = zJv zks zFb zxG := funext fun (x0, ()) => by kernel_rfl
end
def zlw : zR0 := zJv zgL zji zeE
theorem z4m : Sd Tryz.prog E0 (zEA zlw) := mkS (l := [zpY zgL, zAQ zji, zuA zeE]) ⟨zUO, z2x, zXr, trivial⟩ Tryz.func264 (by kernel_rfl) (z4l zgL zji zeE K0)
section
variable (zxH : zKK) (zJw : zR0)
def zFc : (qy × Unit) → Option (Bool × Unit) := fun (x0, ()) =>
  bif x0.1 then Option.bind (zxH (x0, ())) fun q0 => bif q0.1 then Option.bind (zJw (x0.2.2.2.2.1, ())) fun q1 => bif q1.1 then some (false, ()) else some (true, ()) else some (true, ()) else bif !eqI qA x0 (zb qA) then some (true, ()) else some (false, ())
theorem z2y (K : Nat) : evF (En E0 false [zut zxH, zEA zJw]) K Tryz.f209 0 zD9 zEa = zFc zxH zJw := funext fun (x0, ()) => by kernel_rfl
end
def zjj : zPr := zFc zjh zlw
theorem z2z : Sd Tryz.prog E0 (zAE zjj) := mkS (l := [zut zjh, zEA zlw]) ⟨zXp, z4m, trivial⟩ Tryz.func209 (by kernel_rfl) (z2y zjh zlw K0)
section
variable (vt : zhY) (zFd : zPr)
def zFe : ((List qy) × Unit) → Option (Bool × Unit) := fun (x0, ()) =>
  Option.bind (vt (x0, some zFd, ())) fun q0 => bif q0.1 then some (false, ()) else some (true, ())
theorem z2A (K : Nat) : evF (En E0 false [y7 vt, zAE zFd]) K Tryz.f130 0 zDy zDz = zFe vt zFd := funext fun (x0, ()) => by kernel_rfl
end
def zjk : zPh := zFe qU zjj
theorem z2B : Sd Tryz.prog E0 (zAe zjk) := mkS (l := [y7 qU, zAE zjj]) ⟨zqb, z2z, trivial⟩ Tryz.func130 (by kernel_rfl) (z2A qU zjj K0)
section
abbrev zuM : Env := (En E0 false [])
abbrev zax : Type := (List zn) × (Option ((zn × Unit) → Option (Bool × Unit))) × Int × Int
abbrev zJx : zax → St := fun (v0, v1, v7, v8) => St.mk [(0, AV.dat (Ty.sl zB) v0), (1, AV.dat (Ty.fn (Ty.pair zB Ty.unit) (Ty.pair Ty.bool Ty.unit)) v1), (7, AV.dat tI v7), (8, AV.dat tI v8)] []
def zif (k0 : zax → Option (Int × Unit)) : zax → Option (Int × Unit) := fun (v0, v1, v7, v8) =>
  bif decide (v8 < v7) then inR v8 ((List.length v0) : Int) (Option.bind v1 fun q0 => Option.bind (q0 (ix qe v0 v8, ())) fun q1 => bif q1.1 then some (v8, ()) else k0 (v0, v1, v7, wI (v8 + 1))) else some ((-1), ())
abbrev zqd (K : Nat) : zax → Option (Int × Unit) := iter (zif) K
theorem zJy (K : Nat) : ∀ n, evV (zuM) K Tryz.f265 0 zek [1, 0, 1, 0] [] zJx n = iter (zif) n := zp fun n0 (v0, v1, v7, v8) => by kernel_rfl
def zkw (L0 : zax → Option (Int × Unit)) : ((List zn) × ((Option ((zn × Unit) → Option (Bool × Unit))) × Unit)) → Option (Int × Unit) := fun (x0, x1, ()) =>
  L0 (x0, x1, ((List.length x0) : Int), 0)
theorem zMu (K : Nat) : evF (zuM) K Tryz.f265 0 zkj zek = zkw (zqd K) := tr1 (T := zkw) (zJy K K) fun (x0, x1, ()) => by kernel_rfl
end
def yY : zuu := zkw (zqd K0)
theorem zMv : Sd Tryz.prog E0 (ziZ yY) := mkS (l := []) trivial Tryz.func265 (by kernel_rfl) (zMu K0)
section
variable (zkx : zuu)
def zoQ : ((List zn) × ((Option ((zn × Unit) → Option (Bool × Unit))) × Unit)) → Option (Bool × Unit) := fun (x0, x1, ()) =>
  Option.bind (zkx (x0, x1, ())) fun q0 => bif decide (q0.1 ≥ 0) then some (true, ()) else some (false, ())
theorem zGt (K : Nat) : evF (En E0 false [ziZ zkx]) K Tryz.f210 0 zfU zfV = zoQ zkx := funext fun (x0, x1, ()) => by kernel_rfl
end
def qN : zfW := zoQ yY
theorem zoR : Sd Tryz.prog E0 (yz qN) := mkS (l := [ziZ yY]) ⟨zMv, trivial⟩ Tryz.func210 (by kernel_rfl) (zGt yY K0)
section
def zMw : (Int × Unit) → Option (Bool × Unit) := fun (x0, ()) =>
  bif decide (x0 ≥ 0) then bif decide (x0 ≤ 127) then some (true, ()) else some (false, ()) else some (false, ())
theorem z6K (K : Nat) : evF (En E0 false []) K Tryz.f266 0 zMb zMc = zMw := funext fun (x0, ()) => by kernel_rfl
end
def zeo : zMd := zMw
theorem zUX : Sd Tryz.prog E0 (zp0 zeo) := mkS (l := []) trivial Tryz.func266 (by kernel_rfl) (z6K K0)
section
def zFf : (Int × Unit) → Option (Bool × Unit) := fun (x0, ()) =>
  bif decide (x0 ≥ 0) then bif decide (x0 < 4) then some (true, ()) else some (false, ()) else some (false, ())
theorem z2C (K : Nat) : evF (En E0 false []) K Tryz.f43 0 zC1 zC2 = zFf := funext fun (x0, ()) => by kernel_rfl
end
def qp : zc1 := zFf
theorem zfa : Sd Tryz.prog E0 (jF qp) := mkS (l := []) trivial Tryz.func43 (by kernel_rfl) (z2C K0)
section
variable (zy : zc1) (zgO : zMd)
def zJz : (zmq × Unit) → Option (Bool × Unit) := fun (x0, ()) =>
  Option.bind (zy (x0.1, ())) fun q0 => bif q0.1 then bif decide (x0.2.1 ≤ 4611686018427387904) then bif x0.2.2.1 == -1 then some (true, ()) else Option.bind (zgO (x0.2.2.1, ())) fun q1 => bif q1.1 then some (true, ()) else some (false, ()) else some (false, ()) else some (false, ())
theorem z4n (K : Nat) : evF (En E0 false [jF zy, zp0 zgO]) K Tryz.f267 0 zI8 zI9 = zJz zy zgO := funext fun (x0, ()) => by kernel_rfl
end
def zlx : zR1 := zJz qp zeo
theorem z4o : Sd Tryz.prog E0 (zEB zlx) := mkS (l := [jF qp, zp0 zeo]) ⟨zfa, zUX, trivial⟩ Tryz.func267 (by kernel_rfl) (z4n qp zeo K0)
section
def zFg : (zmq × Unit) → Option (Bool × Unit) := fun (x0, ()) =>
  bif eqI ziy x0 (x0.1, (zb ziy).2.1, -1, (zb ziy).2.2.2) then some (true, ()) else some (false, ())
theorem z2D (K : Nat) : evF (En E0 false []) K Tryz.f268 0 zEC zED = zFg := funext fun (x0, ()) => by kernel_rfl
end
def zjl : zPz := zFg
theorem z2E : Sd Tryz.prog E0 (zAM zjl) := mkS (l := []) trivial Tryz.func268 (by kernel_rfl) (z2D K0)
section
variable (zgO : zMd) (zyn : zR1) (zuN : zPz)
def zJA : (zn × Unit) → Option (Bool × Unit) := fun (x0, ()) =>
  Option.bind (zgO (x0.2.1, ())) fun q0 => bif q0.1 then Option.bind (zgO (x0.2.2.1, ())) fun q1 => bif q1.1 then bif x0.2.1 != x0.2.2.1 then Option.bind (zyn (x0.2.2.2.1, ())) fun q2 => bif q2.1 then Option.bind (zyn (x0.2.2.2.2.1, ())) fun q3 => bif q3.1 then Option.bind (zuN (x0.2.2.2.1, ())) fun q4 => bif q4.1 then Option.bind (zuN (x0.2.2.2.2.1, ())) fun q5 => bif q5.1 then some (false, ()) else some (true, ()) else some (true, ()) else some (false, ()) else some (false, ()) else some (false, ()) else some (false, ()) else some (false, ())
theorem z4p (K : Nat) : evF (En E0 false [zp0 zgO, zEB zyn, zAM zuN]) K Tryz.f212 0 zIQ zIR = zJA zgO zyn zuN := funext fun (x0, ()) => by kernel_rfl
end
def zly : zRT := zJA zeo zlx zjl
theorem z4q : Sd Tryz.prog E0 (zEb zly) := mkS (l := [zp0 zeo, zEB zlx, zAM zjl]) ⟨zUX, z4o, z2E, trivial⟩ Tryz.func212 (by kernel_rfl) (z4p zeo zlx zjl K0)
section
variable (zJB : zRT)
def zuO : (zn × Unit) → Option (Bool × Unit) := fun (x0, ()) =>
  bif x0.1 then Option.bind (zJB (x0, ())) fun q0 => bif q0.1 then some (false, ()) else some (true, ()) else bif !eqI zB x0 (zb zB) then some (true, ()) else some (false, ())
theorem zUY (K : Nat) : evF (En E0 false [zEb zJB]) K Tryz.f211 0 zuh zui = zuO zJB := funext fun (x0, ()) => by kernel_rfl
end
def zdn : zG7 := zuO zly
theorem zUZ : Sd Tryz.prog E0 (zr7 zdn) := mkS (l := [zEb zly]) ⟨z4q, trivial⟩ Tryz.func211 (by kernel_rfl) (zUY zly K0)
section
variable (j7 : zfW) (zuP : zG7)
def zA1 : ((List zn) × Unit) → Option (Bool × Unit) := fun (x0, ()) =>
  Option.bind (j7 (x0, some zuP, ())) fun q0 => bif q0.1 then some (false, ()) else some (true, ())
theorem zZz (K : Nat) : evF (En E0 false [yz j7, zr7 zuP]) K Tryz.f131 0 zAf zAg = zA1 j7 zuP := funext fun (x0, ()) => by kernel_rfl
end
def zgk : zNt := zA1 qN zdn
theorem zZA : Sd Tryz.prog E0 (zw4 zgk) := mkS (l := [yz qN, zr7 zdn]) ⟨zoR, zUZ, trivial⟩ Tryz.func131 (by kernel_rfl) (zZz qN zdn K0)
end
end Go.Proofs.YtaokpakfhdeiiaaGreatDoor
end
section
namespace Go.Proofs.YtaokpakfhdeiiaaGreatDoor
open Go.Ev
set_option linter.unusedVariables false
noncomputable section
section
variable (zFh : zPf) (zFi : zPg) (zA2 : zNs) (zFj : zPh) (zA3 : zNt)
def zuQ : (zm × Unit) → Option (Bool × Unit) := fun (x0, ()) =>
  Option.bind (zFh (x0.1, ())) fun q0 => bif q0.1 then Option.bind (zFi (x0.2.1, ())) fun q1 => bif q1.1 then Option.bind (zA2 (x0.2.2.1, ())) fun q2 => bif q2.1 then Option.bind (zFj (x0.2.2.2.1, ())) fun q3 => bif q3.1 then Option.bind (zA3 (x0.2.2.2.2.1, ())) fun q4 => bif q4.1 then some (true, ()) else some (false, ()) else some (false, ()) else some (false, ()) else some (false, ()) else some (false, ())
theorem zU0 (K : Nat) : evF (En E0 false [zAa zFh, zAb zFi, zw3 zA2, zAe zFj, zw4 zA3]) K Tryz.f126 0 ztI ztJ = zuQ zFh zFi zA2 zFj zA3 := funext fun (x0, ()) => by kernel_rfl
end
def zdo : zGV := zuQ zi9 znA zgj zjk zgk
theorem zU1 : Sd Tryz.prog E0 (zrn zdo) := mkS (l := [zAa zi9, zAb znA, zw3 zgj, zAe zjk, zw4 zgk]) ⟨z2l, z2v, zZy, z2B, zZA, trivial⟩ Tryz.func126 (by kernel_rfl) (zU0 zi9 znA zgj zjk zgk K0)
section
variable (zpI : zBK) (zuR : zGV)
def zA4 : (qM × Unit) → Option (Bool × Unit) := fun (x0, ()) =>
  Option.bind (zpI (x0.2.1.2.1, some zuR, ())) fun q0 => bif q0.1 then some (true, ()) else some (false, ())
theorem zZB (K : Nat) : evF (En E0 false [zm2 zpI, zrn zuR]) K Tryz.f56 0 zzx zzy = zA4 zpI zuR := funext fun (x0, ()) => by kernel_rfl
end
def zdO : zM8 := zA4 zd3 zdo
theorem zZC : Sd Tryz.prog E0 (zww zdO) := mkS (l := [zm2 zd3, zrn zdo]) ⟨zQ1, zU1, trivial⟩ Tryz.func56 (by kernel_rfl) (zZB zd3 zdo K0)
section
def zxI : (Int × Unit) → Option (Bool × Unit) := fun (x0, ()) =>
  bif decide (x0 < 0) then some (true, ()) else bif decide (x0 > 2) then some (true, ()) else some (false, ())
theorem zXs (K : Nat) : evF (En E0 false []) K Tryz.f213 0 zxj zxk = zxI := funext fun (x0, ()) => by kernel_rfl
end
def zbb : zKH := zxI
theorem zXt : Sd Tryz.prog E0 (zuj zbb) := mkS (l := []) trivial Tryz.func213 (by kernel_rfl) (zXs K0)
section
variable (zF : zgf) (zcp : zKH) (zv : yr)
abbrev zP1 : Env := (En E0 false [vK zF, zuj zcp, qF zv])
abbrev zjm : Type := (Option ((Int × Unit) → Option (Bool × Unit))) × (List (List Int)) × Int × Int × ze
abbrev zXu : zjm → St := fun (v5, v19, v20, v21, o0) => St.mk [(2, AV.bp 0 []), (5, AV.dat (Ty.fn (Ty.pair tI Ty.unit) (Ty.pair Ty.bool Ty.unit)) v5), (19, AV.dat (Ty.sl (Ty.sl tI)) v19), (20, AV.dat tI v20), (21, AV.dat tI v21)] [Obj.bx (AV.dat zD o0) false]
def zoj (k0 : zjm → Option (Bool × Unit)) : zjm → Option (Bool × Unit) := fun (v5, v19, v20, v21, o0) =>
  bif decide (v21 < v20) then inR v21 ((List.length v19) : Int) (bif ((List.length (List.getD v19 (Int.toNat v21) ([] : List Int))) : Int) != ((List.length o0.2.2.1) : Int) then some (false, ()) else Option.bind (zv (List.getD v19 (Int.toNat v21) ([] : List Int), v5, ())) fun q1 => bif q1.1 then some (false, ()) else inR v21 ((List.length o0.2.2.2.1) : Int) (inR (ix jA o0.2.2.2.1 v21).2.1 ((List.length (List.getD v19 (Int.toNat v21) ([] : List Int))) : Int) (bif List.getD (List.getD v19 (Int.toNat v21) ([] : List Int)) (Int.toNat (ix jA o0.2.2.2.1 v21).2.1) (0 : Int) != 2 then some (false, ()) else k0 (v5, v19, v20, wI (v21 + 1), o0)))) else some (true, ())
abbrev zxJ (K : Nat) : zjm → Option (Bool × Unit) := iter (zoj zv) K
theorem zXv (K : Nat) : ∀ n, evV (zP1 zF zcp zv) K Tryz.f132 0 ztL [1, 1, 1, 0, 1, 0] [] zXu n = iter (zoj zv) n := zp fun n0 (v5, v19, v20, v21, o0) => by kernel_rfl
def zuS (L0 : zjm → Option (Bool × Unit)) : (ze × ((List (List Int)) × Unit)) → Option (Bool × Unit) := fun (x0, x1, ()) =>
  Option.bind (zF (x0, ())) fun q0 => bif q0.1 then bif ((List.length x1) : Int) != ((List.length x0.2.2.2.1) : Int) then some (false, ()) else L0 (some zcp, x1, ((List.length x1) : Int), 0, x0) else some (false, ())
theorem z2F (K : Nat) : evF (zP1 zF zcp zv) K Tryz.f132 0 zDA ztL = zuS zF zcp (zxJ zv K) := tr1 (T := zuS zF zcp) (zXv zF zcp zv K K) fun (x0, x1, ()) => by kernel_rfl
end
def zbC : zDB := zuS jf zbb (zxJ zK K0)
theorem zP2 : Sd Tryz.prog E0 (zkY zbC) := mkS (l := [vK jf, zuj zbb, qF zK]) ⟨zk2, zXt, za0, trivial⟩ Tryz.func132 (by kernel_rfl) (z2F jf zbb zK K0)
section
def zpJ : (Int × (Int × Unit)) → Option (Int × (Int × Unit)) := fun (x0, x1, ()) =>
  some (wU (wU (wU (Int.fdiv x0 (2 ^ min (Int.toNat 32) (IntKind.bits IntKind.u64)) * Int.fdiv x1 (2 ^ min (Int.toNat 32) (IntKind.bits IntKind.u64))) + Int.fdiv (wU (wU (Int.fdiv x0 (2 ^ min (Int.toNat 32) (IntKind.bits IntKind.u64)) * wU (↑(BitVec.toNat (BitVec.ofInt (IntKind.bits IntKind.u64) x1 &&& BitVec.ofInt (IntKind.bits IntKind.u64) 4294967295)) : Int)) + Int.fdiv (wU (wU (↑(BitVec.toNat (BitVec.ofInt (IntKind.bits IntKind.u64) x0 &&& BitVec.ofInt (IntKind.bits IntKind.u64) 4294967295)) : Int) * wU (↑(BitVec.toNat (BitVec.ofInt (IntKind.bits IntKind.u64) x1 &&& BitVec.ofInt (IntKind.bits IntKind.u64) 4294967295)) : Int))) (2 ^ min (Int.toNat 32) (IntKind.bits IntKind.u64)))) (2 ^ min (Int.toNat 32) (IntKind.bits IntKind.u64))) + Int.fdiv (wU (wU (↑(BitVec.toNat (BitVec.ofInt (IntKind.bits IntKind.u64) (wU (wU (Int.fdiv x0 (2 ^ min (Int.toNat 32) (IntKind.bits IntKind.u64)) * wU (↑(BitVec.toNat (BitVec.ofInt (IntKind.bits IntKind.u64) x1 &&& BitVec.ofInt (IntKind.bits IntKind.u64) 4294967295)) : Int)) + Int.fdiv (wU (wU (↑(BitVec.toNat (BitVec.ofInt (IntKind.bits IntKind.u64) x0 &&& BitVec.ofInt (IntKind.bits IntKind.u64) 4294967295)) : Int) * wU (↑(BitVec.toNat (BitVec.ofInt (IntKind.bits IntKind.u64) x1 &&& BitVec.ofInt (IntKind.bits IntKind.u64) 4294967295)) : Int))) (2 ^ min (Int.toNat 32) (IntKind.bits IntKind.u64)))) &&& BitVec.ofInt (IntKind.bits IntKind.u64) 4294967295)) : Int) + wU (wU (↑(BitVec.toNat (BitVec.ofInt (IntKind.bits IntKind.u64) x0 &&& BitVec.ofInt (IntKind.bits IntKind.u64) 4294967295)) : Int) * Int.fdiv x1 (2 ^ min (Int.toNat 32) (IntKind.bits IntKind.u64))))) (2 ^ min (Int.toNat 32) (IntKind.bits IntKind.u64))), wU (x0 * x1), ())
theorem zQ2 (K : Nat) : evF (En E0 false []) K Tryz.f297 0 zpD zpE = zpJ := funext fun (x0, x1, ()) => by kernel_rfl
end
def zbR : zBT := zpJ
theorem zQ3 : Sd Tryz.prog E0 (znr zbR) := mkS (l := []) trivial Tryz.func297 (by kernel_rfl) (zQ2 K0)
section
variable (zpK : zBT)
def zFk : (Int × (Int × Unit)) → Option (Int × (Int × Unit)) := fun (x0, x1, ()) =>
  Option.bind (zpK (x0, x1, ())) fun q0 => bif q0.1 != 0 then some (0, 7, ()) else bif decide (q0.2.1 > 4611686018427387904) then some (0, 7, ()) else some (q0.2.1, 0, ())
theorem z2G (K : Nat) : evF (En E0 false [znr zpK]) K Tryz.f286 0 zEI zEJ = zFk zpK := funext fun (x0, x1, ()) => by kernel_rfl
end
def zjn : zPG := zFk zbR
theorem z2H : Sd Tryz.prog E0 (zAR zjn) := mkS (l := [znr zbR]) ⟨zQ3, trivial⟩ Tryz.func286 (by kernel_rfl) (z2G zbR K0)
section
variable (zuT : zPG)
def zJC : (Int × (Int × (Int × Unit))) → Option (Int × (Int × Unit)) := fun (x0, x1, x2, ()) =>
  bif x0 != 1 then bif x0 != 2 then some (0, 1, ()) else bif x1 == 0 then some (0, 1, ()) else bif x2 == 0 then some (0, 1, ()) else Option.bind (zuT (x1, x2, ())) fun q0 => bif q0.2.1 != 0 then some (0, q0.2.1, ()) else bif x0 == 2 then some (x1, 0, ()) else some (q0.1, 0, ()) else bif x1 == 0 then some (0, 1, ()) else bif x2 == 0 then some (0, 1, ()) else Option.bind (zuT (x1, x2, ())) fun q1 => bif q1.2.1 != 0 then some (0, q1.2.1, ()) else bif x0 == 2 then some (x1, 0, ()) else some (q1.1, 0, ())
theorem z4r (K : Nat) : evF (En E0 false [zAR zuT]) K Tryz.f269 0 zJa zJb = zJC zuT := funext fun (x0, x1, x2, ()) => by kernel_rfl
end
def zcQ : zJc := zJC zjn
theorem zR2 : Sd Tryz.prog E0 (znn zcQ) := mkS (l := [zAR zjn]) ⟨z2H, trivial⟩ Tryz.func269 (by kernel_rfl) (z4r zjn K0)
section
def zP3 : (Int × Unit) → Option (Bool × Unit) := fun (x0, ()) =>
  bif decide (x0 ≥ 0) then bif decide (x0 ≤ 127) then some (true, ()) else some (false, ()) else some (false, ())
theorem z72 (K : Nat) : evF (En E0 false []) K Tryz.f270 0 zPA zPB = zP3 := funext fun (x0, ()) => by kernel_rfl
end
def zsW : zY0 := zP3
theorem z73 : Sd Tryz.prog E0 (zMe zsW) := mkS (l := []) trivial Tryz.func270 (by kernel_rfl) (z72 K0)
section
variable (zig : zJc) (zHd : zY0) (zy : zc1)
def zMx : (zj × Unit) → Option (Bool × Unit) := fun (x0, ()) =>
  Option.bind (zig (x0.2.2.2.1, x0.2.2.2.2.2.2.2.1, x0.2.2.2.2.2.2.1, ())) fun q0 => bif q0.2.1 == 0 then bif q0.1 == x0.2.2.2.2.2.2.2.2.1 then Option.bind (zHd (x0.2.1, ())) fun q1 => bif q1.1 then Option.bind (zHd (x0.2.2.1, ())) fun q2 => bif q2.1 then Option.bind (zy (x0.2.2.2.2.1, ())) fun q3 => bif q3.1 then Option.bind (zy (x0.2.2.2.2.2.1, ())) fun q4 => bif q4.1 then bif x0.2.2.2.2.1 != x0.2.2.2.2.2.1 then bif decide (x0.2.2.2.2.2.2.2.2.2.1 ≥ 0) then some (true, ()) else some (false, ()) else some (false, ()) else some (false, ()) else some (false, ()) else some (false, ()) else some (false, ()) else some (false, ()) else some (false, ())
theorem z6L (K : Nat) : evF (En E0 false [znn zig, zMe zHd, jF zy]) K Tryz.f214 0 zL4 zL5 = zMx zig zHd zy := funext fun (x0, ()) => by kernel_rfl
end
def zky : zUF := zMx zcQ zsW qp
theorem z6M : Sd Tryz.prog E0 (zIS zky) := mkS (l := [znn zcQ, zMe zsW, jF qp]) ⟨zR2, z73, zfa, trivial⟩ Tryz.func214 (by kernel_rfl) (z6L zcQ zsW qp K0)
section
variable (zgP : zUF)
abbrev zP4 : Env := (En E0 false [zIS zgP])
abbrev zjo : Type := Int × (List zj) × Int × Int × List (Int × Int)
abbrev zXw : zjo → St := fun (v4, v8, v9, v10, o0) => St.mk [(3, AV.om 0), (4, AV.dat tI v4), (8, AV.dat (Ty.sl zw) v8), (9, AV.dat tI v9), (10, AV.dat tI v10)] [Obj.mp tI tI o0]
def zjp (k0 : zjo → Option (Bool × Unit)) : zjo → Option (Bool × Unit) := fun (v4, v8, v9, v10, o0) =>
  bif decide (v10 < v9) then inR v10 ((List.length v8) : Int) (bif (ix zP v8 v10).1 then Option.bind (zgP (ix zP v8 v10, ())) fun q0 => bif q0.1 then bif (ix zP v8 v10).1 then bif (ix zP v8 v10).1 then k0 (wI (v4 + 1), v8, v9, wI (v10 + 1), yu tI o0 (ix zP v8 v10).2.2.2.2.2.2.2.2.2.1 (wI (zec tI (0 : Int) o0 (ix zP v8 v10).2.2.2.2.2.2.2.2.2.1 + 1))) else k0 (v4, v8, v9, wI (v10 + 1), o0) else bif !eqI zw (ix zP v8 v10) (zb zw) then some (false, ()) else bif (ix zP v8 v10).1 then k0 (wI (v4 + 1), v8, v9, wI (v10 + 1), yu tI o0 (ix zP v8 v10).2.2.2.2.2.2.2.2.2.1 (wI (zec tI (0 : Int) o0 (ix zP v8 v10).2.2.2.2.2.2.2.2.2.1 + 1))) else k0 (v4, v8, v9, wI (v10 + 1), o0) else some (false, ()) else bif (ix zP v8 v10).1 then bif (ix zP v8 v10).1 then k0 (wI (v4 + 1), v8, v9, wI (v10 + 1), yu tI o0 (ix zP v8 v10).2.2.2.2.2.2.2.2.2.1 (wI (zec tI (0 : Int) o0 (ix zP v8 v10).2.2.2.2.2.2.2.2.2.1 + 1))) else k0 (v4, v8, v9, wI (v10 + 1), o0) else bif !eqI zw (ix zP v8 v10) (zb zw) then some (false, ()) else bif (ix zP v8 v10).1 then k0 (wI (v4 + 1), v8, v9, wI (v10 + 1), yu tI o0 (ix zP v8 v10).2.2.2.2.2.2.2.2.2.1 (wI (zec tI (0 : Int) o0 (ix zP v8 v10).2.2.2.2.2.2.2.2.2.1 + 1))) else k0 (v4, v8, v9, wI (v10 + 1), o0)) else bif ((List.length o0) : Int) == v4 then some (true, ()) else some (false, ())
abbrev zK4 (K : Nat) : zjo → Option (Bool × Unit) := iter (zjp zgP) K
theorem zXx (K : Nat) : ∀ n, evV (zP4 zgP) K Tryz.f133 0 ztM [1, 1, 1, 0, 1, 0] [] zXw n = iter (zjp zgP) n := zp fun n0 (v4, v8, v9, v10, o0) => by kernel_rfl
def zFl (L0 : zjo → Option (Bool × Unit)) : ((List zj) × Unit) → Option (Bool × Unit) := fun (x0, ()) =>
  L0 (0, x0, ((List.length x0) : Int), 0, [])
theorem z2I (K : Nat) : evF (zP4 zgP) K Tryz.f133 0 zDC ztM = zFl (zK4 zgP K) := tr1 (T := zFl) (zXx zgP K K) fun (x0, ()) => by kernel_rfl
end
def znE : zPi := zFl (zK4 zky K0)
theorem z2J : Sd Tryz.prog E0 (zAh znE) := mkS (l := [zIS zky]) ⟨z6M, trivial⟩ Tryz.func133 (by kernel_rfl) (z2I zky K0)
section
def zMy : (Int × Unit) → Option (Bool × Unit) := fun (x0, ()) =>
  bif decide (x0 ≥ 0) then bif decide (x0 ≤ 127) then some (true, ()) else some (false, ()) else some (false, ())
theorem z6N (K : Nat) : evF (En E0 false []) K Tryz.f271 0 zMf zMg = zMy := funext fun (x0, ()) => by kernel_rfl
end
def zok : zUH := zMy
theorem z6O : Sd Tryz.prog E0 (zJd zok) := mkS (l := []) trivial Tryz.func271 (by kernel_rfl) (z6N K0)
section
variable (zol : zUH) (zig : zJc) (zy : zc1)
def zJD : (zH × Unit) → Option (Bool × Unit) := fun (x0, ()) =>
  bif decide (x0.1 > 4611686018427387904) then some (false, ()) else Option.bind (zol (x0.2.1, ())) fun q0 => bif q0.1 then Option.bind (zol (x0.2.2.1, ())) fun q1 => bif q1.1 then Option.bind (zol (x0.2.2.2.1, ())) fun q2 => bif q2.1 then Option.bind (zol (x0.2.2.2.2.2.2.2.2.2.1, ())) fun q3 => bif q3.1 then bif x0.2.2.2.2.1 == 3 then bif eqI zC x0 (x0.1, x0.2.1, x0.2.2.1, x0.2.2.2.1, x0.2.2.2.2.1, (zb zC).2.2.2.2.2.1, (zb zC).2.2.2.2.2.2.1, (zb zC).2.2.2.2.2.2.2.1, (zb zC).2.2.2.2.2.2.2.2.1, x0.2.2.2.2.2.2.2.2.2.1, (zb zC).2.2.2.2.2.2.2.2.2.2) then some (true, ()) else some (false, ()) else Option.bind (zig (x0.2.2.2.2.1, x0.2.2.2.2.2.2.2.1, x0.2.2.2.2.2.2.2.2.1, ())) fun q4 => bif q4.2.1 == 0 then bif x0.2.2.2.2.2.2.2.2.2.1 == 0 then bif x0.2.2.2.2.2.1 != x0.2.2.2.2.2.2.1 then Option.bind (zy (x0.2.2.2.2.2.1, ())) fun q5 => bif q5.1 then Option.bind (zy (x0.2.2.2.2.2.2.1, ())) fun q6 => bif q6.1 then some (true, ()) else some (false, ()) else some (false, ()) else some (false, ()) else some (false, ()) else some (false, ()) else some (false, ()) else some (false, ()) else some (false, ()) else some (false, ())
theorem z4s (K : Nat) : evF (En E0 false [zJd zol, znn zig, jF zy]) K Tryz.f215 0 zIT zIU = zJD zol zig zy := funext fun (x0, ()) => by kernel_rfl
end
def zih : zRU := zJD zok zcQ qp
theorem z4t : Sd Tryz.prog E0 (zEc zih) := mkS (l := [zJd zok, znn zcQ, jF qp]) ⟨z6O, zR2, zfa, trivial⟩ Tryz.func215 (by kernel_rfl) (z4s zok zcQ qp K0)
section
variable (vU : zkd) (zaa : zpA) (zeZ : zEe)
def zA5 : (zH × (zH × Unit)) → Option (Int × Unit) := fun (x0, x1, ()) =>
  Option.bind (vU (x0.1, x1.1, ())) fun q0 => Option.bind (zaa (x0.2.1, x1.2.1, ())) fun q1 => Option.bind (zeZ (zk (zk (List.replicate 2 (0 : Int)) 0 q0.1) 1 q1.1, ())) fun q2 => some (q2.1, ())
theorem zZD (K : Nat) : evF (En E0 false [zaX vU, zc3 zaa, zkZ zeZ]) K Tryz.f216 0 zAF zAG = zA5 vU zaa zeZ := funext fun (x0, x1, ()) => by kernel_rfl
end
def zdP : zNA := zA5 jM vC zat
theorem zZE : Sd Tryz.prog E0 (zxl zdP) := mkS (l := [zaX jM, zc3 vC, zkZ zat]) ⟨zuE, zBU, zPL, trivial⟩ Tryz.func216 (by kernel_rfl) (zZD jM vC zat K0)
section
variable (zev : zRU) (zbV : zNA)
abbrev zNJ : Env := (En E0 false [zEc zev, zxl zbV])
abbrev zgQ : Type := (List zH) × (List zH) × Int × Int
abbrev zU2 : zgQ → St := fun (v0, v5, v6, v7) => St.mk [(0, AV.dat (Ty.sl zC) v0), (5, AV.dat (Ty.sl zC) v5), (6, AV.dat tI v6), (7, AV.dat tI v7)] []
def zgR (k0 : zgQ → Option (Bool × Unit)) : zgQ → Option (Bool × Unit) := fun (v0, v5, v6, v7) =>
  bif decide (v7 < v6) then inR v7 ((List.length v5) : Int) (Option.bind (zev (ix zcc v5 v7, ())) fun q0 => bif q0.1 then bif decide (v7 > 0) then inR (wI (v7 - 1)) ((List.length v0) : Int) (Option.bind (zbV (List.getD v0 (Int.toNat (wI (v7 - 1))) (zb zC), ix zcc v5 v7, ())) fun q1 => bif decide (q1.1 ≥ 0) then some (false, ()) else k0 (v0, v5, v6, wI (v7 + 1))) else k0 (v0, v5, v6, wI (v7 + 1)) else some (false, ())) else some (true, ())
abbrev zHe (K : Nat) : zgQ → Option (Bool × Unit) := iter (zgR zev zbV) K
theorem zU3 (K : Nat) : ∀ n, evV (zNJ zev zbV) K Tryz.f134 0 zqH [1, 0, 1, 0] [] zU2 n = iter (zgR zev zbV) n := zp fun n0 (v0, v5, v6, v7) => by kernel_rfl
def zA6 (L0 : zgQ → Option (Bool × Unit)) : ((List zH) × Unit) → Option (Bool × Unit) := fun (x0, ()) =>
  L0 (x0, x0, ((List.length x0) : Int), 0)
theorem zZF (K : Nat) : evF (zNJ zev zbV) K Tryz.f134 0 zAi zqH = zA6 (zHe zev zbV K) := tr1 (T := zA6) (zU3 zev zbV K K) fun (x0, ()) => by kernel_rfl
end
def zk5 : zNu := zA6 (zHe zih zdP K0)
theorem zZG : Sd Tryz.prog E0 (zw5 zk5) := mkS (l := [zEc zih, zxl zdP]) ⟨z4t, zZE, trivial⟩ Tryz.func134 (by kernel_rfl) (zZF zih zdP K0)
section
def zA7 : (zf × (qi × Unit)) → Option (Bool × Unit) := fun (x0, x1, ()) =>
  bif decide (x1.1 ≥ 0) then bif decide (x1.1 < ((List.length x0.2.1) : Int)) then bif decide (x1.2.1 ≥ 0) then inR x1.1 ((List.length x0.2.1) : Int) (bif decide (x1.2.1 < ((List.length (ix za x0.2.1 x1.1).1) : Int)) then inR x1.1 ((List.length x0.2.1) : Int) (inR x1.2.1 ((List.length (ix za x0.2.1 x1.1).1) : Int) (bif (List.getD (ix za x0.2.1 x1.1).1 (Int.toNat x1.2.1) (zb jz)).1 then some (true, ()) else some (false, ()))) else some (false, ())) else some (false, ()) else some (false, ()) else some (false, ())
theorem zZH (K : Nat) : evF (En E0 false []) K Tryz.f62 0 zzC zzD = zA7 := funext fun (x0, x1, ()) => by kernel_rfl
end
def vG : zqx := zA7
theorem zA8 : Sd Tryz.prog E0 (zcl vG) := mkS (l := []) trivial Tryz.func62 (by kernel_rfl) (zZH K0)
section
def zA9 : (qM × (Int × Unit)) → Option (Bool × Unit) := fun (x0, x1, ()) =>
  bif decide (x1 ≥ 0) then bif decide (x1 < ((List.length x0.1.1) : Int)) then some (true, ()) else some (false, ()) else some (false, ())
theorem zZI (K : Nat) : evF (En E0 false []) K Tryz.f137 0 zAj zAk = zA9 := funext fun (x0, x1, ()) => by kernel_rfl
end
def zaJ : zAl := zA9
theorem zNK : Sd Tryz.prog E0 (ziR zaJ) := mkS (l := []) trivial Tryz.func137 (by kernel_rfl) (zZI K0)
section
def zuU : (qM × (Int × Unit)) → Option (Bool × Unit) := fun (x0, x1, ()) =>
  bif decide (x1 ≥ 0) then bif decide (x1 < ((List.length x0.1.2.2.1) : Int)) then some (true, ()) else some (false, ()) else some (false, ())
theorem zU4 (K : Nat) : evF (En E0 false []) K Tryz.f138 0 ztN ztO = zuU := funext fun (x0, x1, ()) => by kernel_rfl
end
def qf : zbw := zuU
theorem zdp : Sd Tryz.prog E0 (jt qf) := mkS (l := []) trivial Tryz.func138 (by kernel_rfl) (zU4 K0)
section
variable (zbW : zAl) (zU : zbw)
def zso : (zj × ((Option qM) × Unit)) → Option (Bool × Unit) := fun (x0, x1, ()) =>
  bif x0.1 then Option.bind x1 fun q0 => Option.bind (zbW (q0, x0.2.1, ())) fun q1 => bif q1.1 then Option.bind x1 fun q2 => Option.bind (zU (q2, x0.2.2.1, ())) fun q3 => bif q3.1 then Option.bind x1 fun q4 => bif decide (x0.2.2.2.2.2.2.2.2.2.1 < ((List.length q4.2.1.2.2.2.2.1) : Int)) then some (true, ()) else some (false, ()) else some (false, ()) else some (false, ()) else some (true, ())
theorem zSL (K : Nat) : evF (En E0 false [ziR zbW, jt zU]) K Tryz.f136 0 zro zrp = zso zbW zU := funext fun (x0, x1, ()) => by kernel_rfl
end
def zcq : zDD := zso zaJ qf
theorem zSM : Sd Tryz.prog E0 (zo9 zcq) := mkS (l := [ziR zaJ, jt qf]) ⟨zNK, zdp, trivial⟩ Tryz.func136 (by kernel_rfl) (zSL zaJ qf K0)
section
def zv0 : (zj × ((Option (Option ((zj × Unit) → Option (Bool × Unit)))) × Unit)) → Option (Bool × Unit) := fun (x0, x1, ()) =>
  Option.bind x1 fun q0 => Option.bind q0 fun q1 => Option.bind (q1 (x0, ())) fun q2 => bif q2.1 then some (false, ()) else some (true, ())
theorem zOx (K : Nat) : evF (En E0 false []) K Tryz.f218 0 zlQ zlR = zv0 := funext fun (x0, x1, ()) => by kernel_rfl
end
def zam : zvL := zv0
theorem zOy : Sd Tryz.prog E0 (zj7 zam) := mkS (l := []) trivial Tryz.func218 (by kernel_rfl) (zOx K0)
section
abbrev zuV : Env := (En E0 false [])
abbrev zay : Type := (List zj) × (Option ((zj × Unit) → Option (Bool × Unit))) × Int × Int
abbrev zJE : zay → St := fun (v0, v1, v7, v8) => St.mk [(0, AV.dat (Ty.sl zw) v0), (1, AV.dat (Ty.fn (Ty.pair zw Ty.unit) (Ty.pair Ty.bool Ty.unit)) v1), (7, AV.dat tI v7), (8, AV.dat tI v8)] []
def zii (k0 : zay → Option (Int × Unit)) : zay → Option (Int × Unit) := fun (v0, v1, v7, v8) =>
  bif decide (v8 < v7) then inR v8 ((List.length v0) : Int) (Option.bind v1 fun q0 => Option.bind (q0 (ix zP v0 v8, ())) fun q1 => bif q1.1 then some (v8, ()) else k0 (v0, v1, v7, wI (v8 + 1))) else some ((-1), ())
abbrev zqe (K : Nat) : zay → Option (Int × Unit) := iter (zii) K
theorem zJF (K : Nat) : ∀ n, evV (zuV) K Tryz.f272 0 zel [1, 0, 1, 0] [] zJE n = iter (zii) n := zp fun n0 (v0, v1, v7, v8) => by kernel_rfl
def zkz (L0 : zay → Option (Int × Unit)) : ((List zj) × ((Option ((zj × Unit) → Option (Bool × Unit))) × Unit)) → Option (Int × Unit) := fun (x0, x1, ()) =>
  L0 (x0, x1, ((List.length x0) : Int), 0)
theorem zMz (K : Nat) : evF (zuV) K Tryz.f272 0 zkk zel = zkz (zqe K) := tr1 (T := zkz) (zJF K K) fun (x0, x1, ()) => by kernel_rfl
end
def yZ : zuv := zkz (zqe K0)
theorem zMA : Sd Tryz.prog E0 (zi0 yZ) := mkS (l := []) trivial Tryz.func272 (by kernel_rfl) (zMz K0)
section
variable (zkA : zuv)
def zoS : ((List zj) × ((Option ((zj × Unit) → Option (Bool × Unit))) × Unit)) → Option (Bool × Unit) := fun (x0, x1, ()) =>
  Option.bind (zkA (x0, x1, ())) fun q0 => bif decide (q0.1 ≥ 0) then some (true, ()) else some (false, ())
theorem zGu (K : Nat) : evF (En E0 false [zi0 zkA]) K Tryz.f217 0 zfX zfY = zoS zkA := funext fun (x0, x1, ()) => by kernel_rfl
end
def j8 : zoJ := zoS yZ
theorem zGv : Sd Tryz.prog E0 (zeW j8) := mkS (l := [zi0 yZ]) ⟨zMA, trivial⟩ Tryz.func217 (by kernel_rfl) (zGu yZ K0)
section
variable (zmk : zvL) (zf9 : zoJ)
def zBX : ((List zj) × ((Option ((zj × Unit) → Option (Bool × Unit))) × Unit)) → Option (Bool × Unit) := fun (x0, x1, ()) =>
  Option.bind (zf9 (x0, some fun z => zmk (z.1, some x1, ()), ())) fun q0 => bif q0.1 then some (false, ()) else some (true, ())
theorem zQ4 (K : Nat) : evF (En E0 false [zj7 zmk, zeW zf9]) K Tryz.f135 0 zo7 zo8 = zBX zmk zf9 := funext fun (x0, x1, ()) => by kernel_rfl
end
def zd4 : zBL := zBX zam j8
theorem zQ5 : Sd Tryz.prog E0 (zm3 zd4) := mkS (l := [zj7 zam, zeW j8]) ⟨zOy, zGv, trivial⟩ Tryz.func135 (by kernel_rfl) (zQ4 zam j8 K0)
section
variable (zU : zbw)
def zsp : (zH × ((Option qM) × Unit)) → Option (Bool × Unit) := fun (x0, x1, ()) =>
  Option.bind x1 fun q0 => bif decide (x0.2.1 < ((List.length q0.1.2.1) : Int)) then Option.bind x1 fun q1 => inR x0.2.1 ((List.length q1.1.2.1) : Int) (bif x0.2.2.1 == ix (0 : Int) q1.1.2.1 x0.2.1 then Option.bind x1 fun q2 => Option.bind (zU (q2, x0.2.2.2.1, ())) fun q3 => bif q3.1 then Option.bind x1 fun q4 => bif decide (x0.1 ≤ q4.2.1.1) then some (true, ()) else some (false, ()) else some (false, ()) else some (false, ())) else some (false, ())
theorem zSN (K : Nat) : evF (En E0 false [jt zU]) K Tryz.f140 0 zrq zrr = zsp zU := funext fun (x0, x1, ()) => by kernel_rfl
end
def zcr : zDE := zsp qf
theorem zSO : Sd Tryz.prog E0 (zpc zcr) := mkS (l := [jt qf]) ⟨zdp, trivial⟩ Tryz.func140 (by kernel_rfl) (zSN qf K0)
section
def zv1 : (zH × ((Option (Option ((zH × Unit) → Option (Bool × Unit)))) × Unit)) → Option (Bool × Unit) := fun (x0, x1, ()) =>
  Option.bind x1 fun q0 => Option.bind q0 fun q1 => Option.bind (q1 (x0, ())) fun q2 => bif q2.1 then some (false, ()) else some (true, ())
theorem zOz (K : Nat) : evF (En E0 false []) K Tryz.f220 0 zlS zlT = zv1 := funext fun (x0, x1, ()) => by kernel_rfl
end
def zan : zvM := zv1
theorem zOA : Sd Tryz.prog E0 (zj8 zan) := mkS (l := []) trivial Tryz.func220 (by kernel_rfl) (zOz K0)
section
abbrev zuW : Env := (En E0 false [])
abbrev zaz : Type := (List zH) × (Option ((zH × Unit) → Option (Bool × Unit))) × Int × Int
abbrev zJG : zaz → St := fun (v0, v1, v7, v8) => St.mk [(0, AV.dat (Ty.sl zC) v0), (1, AV.dat (Ty.fn (Ty.pair zC Ty.unit) (Ty.pair Ty.bool Ty.unit)) v1), (7, AV.dat tI v7), (8, AV.dat tI v8)] []
def zij (k0 : zaz → Option (Int × Unit)) : zaz → Option (Int × Unit) := fun (v0, v1, v7, v8) =>
  bif decide (v8 < v7) then inR v8 ((List.length v0) : Int) (Option.bind v1 fun q0 => Option.bind (q0 (ix zcc v0 v8, ())) fun q1 => bif q1.1 then some (v8, ()) else k0 (v0, v1, v7, wI (v8 + 1))) else some ((-1), ())
abbrev zqf (K : Nat) : zaz → Option (Int × Unit) := iter (zij) K
theorem zJH (K : Nat) : ∀ n, evV (zuW) K Tryz.f273 0 zem [1, 0, 1, 0] [] zJG n = iter (zij) n := zp fun n0 (v0, v1, v7, v8) => by kernel_rfl
def zkB (L0 : zaz → Option (Int × Unit)) : ((List zH) × ((Option ((zH × Unit) → Option (Bool × Unit))) × Unit)) → Option (Int × Unit) := fun (x0, x1, ()) =>
  L0 (x0, x1, ((List.length x0) : Int), 0)
theorem zMB (K : Nat) : evF (zuW) K Tryz.f273 0 zkl zem = zkB (zqf K) := tr1 (T := zkB) (zJH K K) fun (x0, x1, ()) => by kernel_rfl
end
def y0 : zuw := zkB (zqf K0)
theorem zMC : Sd Tryz.prog E0 (zi1 y0) := mkS (l := []) trivial Tryz.func273 (by kernel_rfl) (zMB K0)
section
variable (zkC : zuw)
def zoT : ((List zH) × ((Option ((zH × Unit) → Option (Bool × Unit))) × Unit)) → Option (Bool × Unit) := fun (x0, x1, ()) =>
  Option.bind (zkC (x0, x1, ())) fun q0 => bif decide (q0.1 ≥ 0) then some (true, ()) else some (false, ())
theorem zGw (K : Nat) : evF (En E0 false [zi1 zkC]) K Tryz.f219 0 zfZ zf0 = zoT zkC := funext fun (x0, x1, ()) => by kernel_rfl
end
def j9 : zoK := zoT y0
theorem zGx : Sd Tryz.prog E0 (zeX j9) := mkS (l := [zi1 y0]) ⟨zMC, trivial⟩ Tryz.func219 (by kernel_rfl) (zGw y0 K0)
section
variable (zml : zvM) (zga : zoK)
def zBY : ((List zH) × ((Option ((zH × Unit) → Option (Bool × Unit))) × Unit)) → Option (Bool × Unit) := fun (x0, x1, ()) =>
  Option.bind (zga (x0, some fun z => zml (z.1, some x1, ()), ())) fun q0 => bif q0.1 then some (false, ()) else some (true, ())
theorem zQ6 (K : Nat) : evF (En E0 false [zj8 zml, zeX zga]) K Tryz.f139 0 zpa zpb = zBY zml zga := funext fun (x0, x1, ()) => by kernel_rfl
end
def zd5 : zBM := zBY zan j9
theorem zQ7 : Sd Tryz.prog E0 (zm4 zd5) := mkS (l := [zj8 zan, zeX j9]) ⟨zOA, zGx, trivial⟩ Tryz.func139 (by kernel_rfl) (zQ6 zan j9 K0)
section
variable (zU : zbw)
def zsq : (Int × ((Option qM) × Unit)) → Option (Bool × Unit) := fun (x0, x1, ()) =>
  bif x0 == -1 then some (true, ()) else Option.bind x1 fun q0 => Option.bind (zU (q0, x0, ())) fun q1 => bif q1.1 then some (true, ()) else some (false, ())
theorem zSP (K : Nat) : evF (En E0 false [jt zU]) K Tryz.f142 0 zrt zru = zsq zU := funext fun (x0, x1, ()) => by kernel_rfl
end
def zcs : zDF := zsq qf
theorem zSQ : Sd Tryz.prog E0 (zpd zcs) := mkS (l := [jt qf]) ⟨zdp, trivial⟩ Tryz.func142 (by kernel_rfl) (zSP qf K0)
section
def zBZ : (Int × ((Option (Option ((Int × Unit) → Option (Bool × Unit)))) × Unit)) → Option (Bool × Unit) := fun (x0, x1, ()) =>
  Option.bind x1 fun q0 => Option.bind q0 fun q1 => Option.bind (q1 (x0, ())) fun q2 => bif q2.1 then some (false, ()) else some (true, ())
theorem zQ8 (K : Nat) : evF (En E0 false []) K Tryz.f221 0 zps zpt = zBZ := funext fun (x0, x1, ()) => by kernel_rfl
end
def zbS : zBQ := zBZ
theorem zQ9 : Sd Tryz.prog E0 (znb zbS) := mkS (l := []) trivial Tryz.func221 (by kernel_rfl) (zQ8 K0)
section
variable (zpL : zBQ) (zv : yr)
def zHf : ((List Int) × ((Option ((Int × Unit) → Option (Bool × Unit))) × Unit)) → Option (Bool × Unit) := fun (x0, x1, ()) =>
  Option.bind (zv (x0, some fun z => zpL (z.1, some x1, ()), ())) fun q0 => bif q0.1 then some (false, ()) else some (true, ())
theorem zU5 (K : Nat) : evF (En E0 false [znb zpL, qF zv]) K Tryz.f141 0 ztP ztQ = zHf zpL zv := funext fun (x0, x1, ()) => by kernel_rfl
end
def zgS : zGW := zHf zbS zK
theorem zU6 : Sd Tryz.prog E0 (zrs zgS) := mkS (l := [znb zbS, qF zK]) ⟨zQ9, za0, trivial⟩ Tryz.func141 (by kernel_rfl) (zU5 zbS zK K0)
section
variable (zfb : zDB) (zFm : zPi) (zBa : zNu) (vZ : zqx) (zsr : zDD) (zpM : zBL) (zkD : zDE) (ziC : zBM) (zct : zDF) (zdq : zGW)
def zxK : (qM × Unit) → Option (Bool × Unit) := fun (x0, ()) =>
  Option.bind (zfb (x0.1, x0.2.1.2.2.1, ())) fun q0 => bif q0.1 then Option.bind (zFm (x0.2.1.2.2.2.1, ())) fun q1 => bif q1.1 then Option.bind (zBa (x0.2.1.2.2.2.2.1, ())) fun q2 => bif q2.1 then Option.bind (vZ (x0.2.1, zb z5, ())) fun q3 => bif q3.1 then Option.bind (zpM (x0.2.1.2.2.2.1, some fun z => zsr (z.1, some x0, ()), ())) fun q4 => bif q4.1 then Option.bind (ziC (x0.2.1.2.2.2.2.1, some fun z => zkD (z.1, some x0, ()), ())) fun q5 => bif q5.1 then Option.bind (zdq (x0.2.1.2.2.2.2.2.1, some fun z => zct (z.1, some x0, ()), ())) fun q6 => bif q6.1 then some (true, ()) else some (false, ()) else Option.bind (zdq (x0.2.1.2.2.2.2.2.1, some fun z => zct (z.1, some x0, ()), ())) fun q7 => bif q7.1 then some (false, ()) else some (false, ()) else Option.bind (ziC (x0.2.1.2.2.2.2.1, some fun z => zkD (z.1, some x0, ()), ())) fun q8 => bif q8.1 then Option.bind (zdq (x0.2.1.2.2.2.2.2.1, some fun z => zct (z.1, some x0, ()), ())) fun q9 => bif q9.1 then some (false, ()) else some (false, ()) else Option.bind (zdq (x0.2.1.2.2.2.2.2.1, some fun z => zct (z.1, some x0, ()), ())) fun q10 => bif q10.1 then some (false, ()) else some (false, ()) else some (false, ()) else some (false, ()) else some (false, ()) else some (false, ())
theorem zXy (K : Nat) : evF (En E0 false [zkY zfb, zAh zFm, zw5 zBa, zcl vZ, zo9 zsr, zm3 zpM, zpc zkD, zm4 ziC, zpd zct, zrs zdq]) K Tryz.f57 0 zwx zwy = zxK zfb zFm zBa vZ zsr zpM zkD ziC zct zdq := funext fun (x0, ()) => by kernel_rfl
end
def zcu : zKu := zxK zbC znE zk5 vG zcq zd4 zcr zd5 zcs zgS
theorem zXz : Sd Tryz.prog E0 (ztm zcu) := mkS (l := [zkY zbC, zAh znE, zw5 zk5, zcl vG, zo9 zcq, zm3 zd4, zpc zcr, zm4 zd5, zpd zcs, zrs zgS]) ⟨zP2, z2J, zZG, zA8, zSM, zQ5, zSO, zQ7, zSQ, zU6, trivial⟩ Tryz.func57 (by kernel_rfl) (zXy zbC znE zk5 vG zcq zd4 zcr zd5 zcs zgS K0)
section
def zJI : (zu × (zu × Unit)) → Option (Bool × Unit) := fun (x0, x1, ()) =>
  bif decide (x0.1 ≤ x1.1) then bif wU (↑(BitVec.toNat (BitVec.ofInt (IntKind.bits IntKind.u64) x0.2.1 &&& ~~~BitVec.ofInt (IntKind.bits IntKind.u64) x1.2.1)) : Int) == 0 then some (true, ()) else some (false, ()) else some (false, ())
theorem z4u (K : Nat) : evF (En E0 false []) K Tryz.f92 0 zIl zIm = zJI := funext fun (x0, x1, ()) => by kernel_rfl
end
def zlz : zRH := zJI
theorem z4v : Sd Tryz.prog E0 (zDi zlz) := mkS (l := []) trivial Tryz.func92 (by kernel_rfl) (z4u K0)
section
variable (zbW : zAl) (zJJ : zRH)
def zJK : (qM × (Int × (Int × Unit))) → Option (Bool × Unit) := fun (x0, x1, x2, ()) =>
  Option.bind (zbW (x0, x1, ())) fun q0 => bif q0.1 then Option.bind (zbW (x0, x2, ())) fun q1 => bif q1.1 then inR x1 ((List.length x0.1.1) : Int) (inR x2 ((List.length x0.1.1) : Int) (Option.bind (zJJ (ix yj x0.1.1 x1, ix yj x0.1.1 x2, ())) fun q2 => bif q2.1 then some (true, ()) else some (false, ()))) else some (false, ()) else some (false, ())
theorem z4w (K : Nat) : evF (En E0 false [ziR zbW, zDi zJJ]) K Tryz.f152 0 zIA zIB = zJK zbW zJJ := funext fun (x0, x1, x2, ()) => by kernel_rfl
end
def zcR : zIC := zJK zaJ zlz
theorem zR3 : Sd Tryz.prog E0 (zm5 zcR) := mkS (l := [ziR zaJ, zDi zlz]) ⟨zNK, z4v, trivial⟩ Tryz.func152 (by kernel_rfl) (z4w zaJ zlz K0)
section
variable (vZ : zqx) (zik : zIC)
def zuX : (qi × ((Option qM) × ((Option Int) × Unit))) → Option (Bool × Unit) := fun (x0, x1, x2, ()) =>
  Option.bind x1 fun q0 => Option.bind (vZ (q0.2.1, x0, ())) fun q1 => bif q1.1 then Option.bind x1 fun q2 => Option.bind x2 fun q3 => Option.bind (zik (q2, x0.1, q3, ())) fun q4 => bif q4.1 then some (true, ()) else some (false, ()) else some (false, ())
theorem zU7 (K : Nat) : evF (En E0 false [zcl vZ, zm5 zik]) K Tryz.f222 0 zuk zul = zuX vZ zik := funext fun (x0, x1, x2, ()) => by kernel_rfl
end
def ym : zG8 := zuX vG zcR
theorem zU8 : Sd Tryz.prog E0 (zr8 ym) := mkS (l := [zcl vG, zm5 zcR]) ⟨zA8, zR3, trivial⟩ Tryz.func222 (by kernel_rfl) (zU7 vG zcR K0)
section
variable (zuY : zG8)
def zNL : (qM × (Int × Unit)) → Option ((Option ((qi × Unit) → Option (Bool × Unit))) × Unit) := fun (x0, x1, ()) =>
  some (some fun z => zuY (z.1, some x0, some x1, ()), ())
theorem zZJ (K : Nat) : evF (En E0 false [zr8 zuY]) K Tryz.f143 0 zAm zAn = zNL zuY := funext fun (x0, x1, ()) => by kernel_rfl
end
def zgl : zNv := zNL ym
theorem zZK : Sd Tryz.prog E0 (zw6 zgl) := mkS (l := [zr8 ym]) ⟨zU8, trivial⟩ Tryz.func143 (by kernel_rfl) (zZJ ym K0)
section
def zuZ : (qd × ((Option (Option ((qi × Unit) → Option (Bool × Unit)))) × Unit)) → Option (Bool × Unit) := fun (x0, x1, ()) =>
  bif x0.1 then Option.bind x1 fun q0 => Option.bind q0 fun q1 => Option.bind (q1 (x0.2.1, ())) fun q2 => bif q2.1 then Option.bind x1 fun q3 => Option.bind q3 fun q4 => Option.bind (q4 (x0.2.2.1, ())) fun q5 => bif q5.1 then some (true, ()) else some (false, ()) else some (false, ()) else some (true, ())
theorem zU9 (K : Nat) : evF (En E0 false []) K Tryz.f145 0 ztR ztS = zuZ := funext fun (x0, x1, ()) => by kernel_rfl
end
def zbD : zGX := zuZ
theorem zVa : Sd Tryz.prog E0 (zrx zbD) := mkS (l := []) trivial Tryz.func145 (by kernel_rfl) (zU9 K0)
section
def zyL : (qd × ((Option (Option ((qd × Unit) → Option (Bool × Unit)))) × Unit)) → Option (Bool × Unit) := fun (x0, x1, ()) =>
  Option.bind x1 fun q0 => Option.bind q0 fun q1 => Option.bind (q1 (x0, ())) fun q2 => bif q2.1 then some (false, ()) else some (true, ())
theorem zP5 (K : Nat) : evF (En E0 false []) K Tryz.f224 0 znc znd = zyL := funext fun (x0, x1, ()) => by kernel_rfl
end
def zbc : zyB := zyL
theorem zP6 : Sd Tryz.prog E0 (zlU zbc) := mkS (l := []) trivial Tryz.func224 (by kernel_rfl) (zP5 K0)
section
variable (yi : zl2)
def zqg : ((List qd) × ((Option ((qd × Unit) → Option (Bool × Unit))) × Unit)) → Option (Bool × Unit) := fun (x0, x1, ()) =>
  Option.bind (yi (x0, x1, ())) fun q0 => bif decide (q0.1 ≥ 0) then some (true, ()) else some (false, ())
theorem zJL (K : Nat) : evF (En E0 false [zbx yi]) K Tryz.f223 0 zhZ zh0 = zqg yi := funext fun (x0, x1, ()) => by kernel_rfl
end
def vu : zpX := zqg jX
theorem zJM : Sd Tryz.prog E0 (zf1 vu) := mkS (l := [zbx jX]) ⟨zvX, trivial⟩ Tryz.func223 (by kernel_rfl) (zJL jX K0)
section
variable (znF : zyB) (zil : zpX)
def zFn : ((List qd) × ((Option ((qd × Unit) → Option (Bool × Unit))) × Unit)) → Option (Bool × Unit) := fun (x0, x1, ()) =>
  Option.bind (zil (x0, some fun z => znF (z.1, some x1, ()), ())) fun q0 => bif q0.1 then some (false, ()) else some (true, ())
theorem zSR (K : Nat) : evF (En E0 false [zlU znF, zf1 zil]) K Tryz.f144 0 zrv zrw = zFn znF zil := funext fun (x0, x1, ()) => by kernel_rfl
end
def zcv : zDG := zFn zbc vu
theorem zSS : Sd Tryz.prog E0 (zpe zcv) := mkS (l := [zlU zbc, zf1 vu]) ⟨zP6, zJM, trivial⟩ Tryz.func144 (by kernel_rfl) (zSR zbc vu K0)
section
def zu0 : (qb × ((Option (Option ((qi × Unit) → Option (Bool × Unit)))) × Unit)) → Option (Bool × Unit) := fun (x0, x1, ()) =>
  bif x0.2.2.1 != 2 then some (true, ()) else Option.bind x1 fun q0 => Option.bind q0 fun q1 => Option.bind (q1 (x0.2.2.2.2.1, ())) fun q2 => bif q2.1 then some (true, ()) else some (false, ())
theorem zVb (K : Nat) : evF (En E0 false []) K Tryz.f147 0 ztT ztU = zu0 := funext fun (x0, x1, ()) => by kernel_rfl
end
def zbE : zGY := zu0
theorem zVc : Sd Tryz.prog E0 (zrB zbE) := mkS (l := []) trivial Tryz.func147 (by kernel_rfl) (zVb K0)
section
def zyM : (qb × ((Option (Option ((qb × Unit) → Option (Bool × Unit)))) × Unit)) → Option (Bool × Unit) := fun (x0, x1, ()) =>
  Option.bind x1 fun q0 => Option.bind q0 fun q1 => Option.bind (q1 (x0, ())) fun q2 => bif q2.1 then some (false, ()) else some (true, ())
theorem zP7 (K : Nat) : evF (En E0 false []) K Tryz.f225 0 zne znf = zyM := funext fun (x0, x1, ()) => by kernel_rfl
end
def zbd : zyC := zyM
theorem zP8 : Sd Tryz.prog E0 (zlV zbd) := mkS (l := []) trivial Tryz.func225 (by kernel_rfl) (zP7 K0)
section
variable (znG : zyC) (vq : zhV)
def zFo : ((List qb) × ((Option ((qb × Unit) → Option (Bool × Unit))) × Unit)) → Option (Bool × Unit) := fun (x0, x1, ()) =>
  Option.bind (vq (x0, some fun z => znG (z.1, some x1, ()), ())) fun q0 => bif q0.1 then some (false, ()) else some (true, ())
theorem zST (K : Nat) : evF (En E0 false [zlV znG, y6 vq]) K Tryz.f146 0 zry zrz = zFo znG vq := funext fun (x0, x1, ()) => by kernel_rfl
end
def qY : zrA := zFo zbd qT
theorem zFp : Sd Tryz.prog E0 (zdY qY) := mkS (l := [zlV zbd, y6 qT]) ⟨zP8, zp9, trivial⟩ Tryz.func146 (by kernel_rfl) (zST zbd qT K0)
section
def zB0 : (qi × ((Option (Option ((qi × Unit) → Option (Bool × Unit)))) × Unit)) → Option (Bool × Unit) := fun (x0, x1, ()) =>
  Option.bind x1 fun q0 => Option.bind q0 fun q1 => Option.bind (q1 (x0, ())) fun q2 => bif q2.1 then some (false, ()) else some (true, ())
theorem zRa (K : Nat) : evF (En E0 false []) K Tryz.f227 0 zpu zpv = zB0 := funext fun (x0, x1, ()) => by kernel_rfl
end
def zbT : zBR := zB0
theorem zRb : Sd Tryz.prog E0 (zng zbT) := mkS (l := []) trivial Tryz.func227 (by kernel_rfl) (zRa K0)
section
abbrev zyN : Env := (En E0 false [])
abbrev zbF : Type := (List qi) × (Option ((qi × Unit) → Option (Bool × Unit))) × Int × Int
abbrev zMD : zbF → St := fun (v0, v1, v7, v8) => St.mk [(0, AV.dat (Ty.sl y5) v0), (1, AV.dat (Ty.fn (Ty.pair y5 Ty.unit) (Ty.pair Ty.bool Ty.unit)) v1), (7, AV.dat tI v7), (8, AV.dat tI v8)] []
def zkE (k0 : zbF → Option (Int × Unit)) : zbF → Option (Int × Unit) := fun (v0, v1, v7, v8) =>
  bif decide (v8 < v7) then inR v8 ((List.length v0) : Int) (Option.bind v1 fun q0 => Option.bind (q0 (ix jA v0 v8, ())) fun q1 => bif q1.1 then some (v8, ()) else k0 (v0, v1, v7, wI (v8 + 1))) else some ((-1), ())
abbrev zu1 (K : Nat) : zbF → Option (Int × Unit) := iter (zkE) K
theorem zME (K : Nat) : ∀ n, evV (zyN) K Tryz.f274 0 zgJ [1, 0, 1, 0] [] zMD n = iter (zkE) n := zp fun n0 (v0, v1, v7, v8) => by kernel_rfl
def znH (L0 : zbF → Option (Int × Unit)) : ((List qi) × ((Option ((qi × Unit) → Option (Bool × Unit))) × Unit)) → Option (Int × Unit) := fun (x0, x1, ()) =>
  L0 (x0, x1, ((List.length x0) : Int), 0)
theorem zP9 (K : Nat) : evF (zyN) K Tryz.f274 0 zno zgJ = znH (zu1 K) := tr1 (T := znH) (zME K K) fun (x0, x1, ()) => by kernel_rfl
end
def zbe : zyG := znH (zu1 K0)
theorem zQa : Sd Tryz.prog E0 (zl6 zbe) := mkS (l := []) trivial Tryz.func274 (by kernel_rfl) (zP9 K0)
section
variable (znI : zyG)
def zsX : ((List qi) × ((Option ((qi × Unit) → Option (Bool × Unit))) × Unit)) → Option (Bool × Unit) := fun (x0, x1, ()) =>
  Option.bind (znI (x0, x1, ())) fun q0 => bif decide (q0.1 ≥ 0) then some (true, ()) else some (false, ())
theorem zK5 (K : Nat) : evF (En E0 false [zl6 znI]) K Tryz.f226 0 ziV ziW = zsX znI := funext fun (x0, x1, ()) => by kernel_rfl
end
def vM : zsO := zsX zbe
theorem zK6 : Sd Tryz.prog E0 (zh1 vM) := mkS (l := [zl6 zbe]) ⟨zQa, trivial⟩ Tryz.func226 (by kernel_rfl) (zK5 zbe K0)
section
variable (zpN : zBR) (zjq : zsO)
def zHg : ((List qi) × ((Option ((qi × Unit) → Option (Bool × Unit))) × Unit)) → Option (Bool × Unit) := fun (x0, x1, ()) =>
  Option.bind (zjq (x0, some fun z => zpN (z.1, some x1, ()), ())) fun q0 => bif q0.1 then some (false, ()) else some (true, ())
theorem zVd (K : Nat) : evF (En E0 false [zng zpN, zh1 zjq]) K Tryz.f148 0 ztV ztW = zHg zpN zjq := funext fun (x0, x1, ()) => by kernel_rfl
end
def zdr : zGZ := zHg zbT vM
theorem zVe : Sd Tryz.prog E0 (zrC zdr) := mkS (l := [zng zbT, zh1 vM]) ⟨zRb, zK6, trivial⟩ Tryz.func148 (by kernel_rfl) (zVd zbT vM K0)
end
end Go.Proofs.YtaokpakfhdeiiaaGreatDoor
end
section
namespace Go.Proofs.YtaokpakfhdeiiaaGreatDoor
open Go.Ev
set_option linter.unusedVariables false
noncomputable section
section
variable (zbX : zNv) (zad : zGX) (yF : zDG) (yn : zGY) (zQ : zrA) (zae : zGZ)
abbrev zNM : Env := (En E0 false [zw6 zbX, zrx zad, zpe yF, zrB yn, zdY zQ, zrC zae])
abbrev zgT : Type := (List zm) × Int × Int × qM
abbrev zVf : zgT → St := fun (v10, v11, v12, o0) => St.mk [(1, AV.bp 0 []), (10, AV.dat (Ty.sl zo) v10), (11, AV.dat tI v11), (12, AV.dat tI v12)] [Obj.bx (AV.dat qX o0) false]
def zgU (k0 : zgT → Option (Bool × Unit)) : zgT → Option (Bool × Unit) := fun (v10, v11, v12, o0) =>
  bif decide (v12 < v11) then inR v12 ((List.length v10) : Int) (Option.bind (zbX (o0, v12, ())) fun q0 => Option.bind (yF ((ix za v10 v12).2.1, some fun z => zad (z.1, some q0.1, ()), ())) fun q1 => bif q1.1 then Option.bind (zQ ((ix za v10 v12).2.2.1, some fun z => yn (z.1, some q0.1, ()), ())) fun q2 => bif q2.1 then Option.bind (zae ((ix za v10 v12).2.2.2.2.2.2.1, q0.1, ())) fun q3 => bif q3.1 then k0 (v10, v11, wI (v12 + 1), o0) else some (false, ()) else some (false, ()) else Option.bind (zQ ((ix za v10 v12).2.2.1, some fun z => yn (z.1, some q0.1, ()), ())) fun q4 => bif q4.1 then some (false, ()) else some (false, ())) else some (true, ())
abbrev zHh (K : Nat) : zgT → Option (Bool × Unit) := iter (zgU zbX zad yF yn zQ zae) K
theorem zVg (K : Nat) : ∀ n, evV (zNM zbX zad yF yn zQ zae) K Tryz.f58 0 zqw [1, 0, 1, 0] [] zVf n = iter (zgU zbX zad yF yn zQ zae) n := zp fun n0 (v10, v11, v12, o0) => by kernel_rfl
def zBb (L0 : zgT → Option (Bool × Unit)) : (qM × Unit) → Option (Bool × Unit) := fun (x0, ()) =>
  L0 (x0.2.1.2.1, ((List.length x0.2.1.2.1) : Int), 0, x0)
theorem zZL (K : Nat) : evF (zNM zbX zad yF yn zQ zae) K Tryz.f58 0 zzz zqw = zBb (zHh zbX zad yF yn zQ zae K) := tr1 (T := zBb) (zVg zbX zad yF yn zQ zae K K) fun (x0, ()) => by kernel_rfl
end
def zgm : zM9 := zBb (zHh zgl zbD zcv zbE qY zdr K0)
theorem zZM : Sd Tryz.prog E0 (zwz zgm) := mkS (l := [zw6 zgl, zrx zbD, zpe zcv, zrB zbE, zdY qY, zrC zdr]) ⟨zZK, zVa, zSS, zVc, zFp, zVe, trivial⟩ Tryz.func58 (by kernel_rfl) (zZL zgl zbD zcv zbE qY zdr K0)
section
variable (zU : zbw)
def zss : (qb × ((Option qM) × Unit)) → Option (Bool × Unit) := fun (x0, x1, ()) =>
  bif x0.2.2.1 != 1 then some (true, ()) else Option.bind x1 fun q0 => Option.bind (zU (q0, x0.2.2.2.1, ())) fun q1 => bif q1.1 then some (true, ()) else some (false, ())
theorem zSU (K : Nat) : evF (En E0 false [jt zU]) K Tryz.f149 0 zrD zrE = zss zU := funext fun (x0, x1, ()) => by kernel_rfl
end
def jR : zDH := zss qf
theorem zSV : Sd Tryz.prog E0 (zpf jR) := mkS (l := [jt qf]) ⟨zdp, trivial⟩ Tryz.func149 (by kernel_rfl) (zSU qf K0)
section
variable (zik : zIC) (zU : zbw)
def zst : (qy × ((Option qM) × ((Option Int) × Unit))) → Option (Bool × Unit) := fun (x0, x1, x2, ()) =>
  bif x0.1 then Option.bind x1 fun q0 => Option.bind x2 fun q1 => Option.bind (zik (q0, x0.2.1, q1, ())) fun q2 => bif q2.1 then Option.bind x1 fun q3 => Option.bind (zU (q3, x0.2.2.1, ())) fun q4 => bif q4.1 then Option.bind x1 fun q5 => Option.bind (zU (q5, x0.2.2.2.1, ())) fun q6 => bif q6.1 then some (true, ()) else some (false, ()) else some (false, ()) else some (false, ()) else some (true, ())
theorem zSW (K : Nat) : evF (En E0 false [zm5 zik, jt zU]) K Tryz.f151 0 zrH zrI = zst zik zU := funext fun (x0, x1, x2, ()) => by kernel_rfl
end
def jS : zDJ := zst zcR qf
theorem zSX : Sd Tryz.prog E0 (zph jS) := mkS (l := [zm5 zcR, jt qf]) ⟨zR3, zdp, trivial⟩ Tryz.func151 (by kernel_rfl) (zSW zcR qf K0)
section
def zyO : (qy × ((Option (Option ((qy × Unit) → Option (Bool × Unit)))) × Unit)) → Option (Bool × Unit) := fun (x0, x1, ()) =>
  Option.bind x1 fun q0 => Option.bind q0 fun q1 => Option.bind (q1 (x0, ())) fun q2 => bif q2.1 then some (false, ()) else some (true, ())
theorem zQb (K : Nat) : evF (En E0 false []) K Tryz.f228 0 znh zni = zyO := funext fun (x0, x1, ()) => by kernel_rfl
end
def zbf : zyD := zyO
theorem zQc : Sd Tryz.prog E0 (zlW zbf) := mkS (l := []) trivial Tryz.func228 (by kernel_rfl) (zQb K0)
section
variable (znJ : zyD) (vt : zhY)
def zFq : ((List qy) × ((Option ((qy × Unit) → Option (Bool × Unit))) × Unit)) → Option (Bool × Unit) := fun (x0, x1, ()) =>
  Option.bind (vt (x0, some fun z => znJ (z.1, some x1, ()), ())) fun q0 => bif q0.1 then some (false, ()) else some (true, ())
theorem zSY (K : Nat) : evF (En E0 false [zlW znJ, y7 vt]) K Tryz.f150 0 zrF zrG = zFq znJ vt := funext fun (x0, x1, ()) => by kernel_rfl
end
def vv : zDI := zFq zbf qU
theorem zSZ : Sd Tryz.prog E0 (zpg vv) := mkS (l := [zlW zbf, y7 qU]) ⟨zQc, zqb, trivial⟩ Tryz.func150 (by kernel_rfl) (zSY zbf qU K0)
section
variable (zU : zbw)
def zsu : (zn × ((Option qM) × Unit)) → Option (Bool × Unit) := fun (x0, x1, ()) =>
  bif x0.1 then Option.bind x1 fun q0 => Option.bind (zU (q0, x0.2.1, ())) fun q1 => bif q1.1 then Option.bind x1 fun q2 => Option.bind (zU (q2, x0.2.2.1, ())) fun q3 => bif q3.1 then some (true, ()) else some (false, ()) else some (false, ()) else some (true, ())
theorem zS0 (K : Nat) : evF (En E0 false [jt zU]) K Tryz.f154 0 zrJ zrK = zsu zU := funext fun (x0, x1, ()) => by kernel_rfl
end
def jT : zDK := zsu qf
theorem zS1 : Sd Tryz.prog E0 (zpk jT) := mkS (l := [jt qf]) ⟨zdp, trivial⟩ Tryz.func154 (by kernel_rfl) (zS0 qf K0)
section
def zv2 : (zn × ((Option (Option ((zn × Unit) → Option (Bool × Unit)))) × Unit)) → Option (Bool × Unit) := fun (x0, x1, ()) =>
  Option.bind x1 fun q0 => Option.bind q0 fun q1 => Option.bind (q1 (x0, ())) fun q2 => bif q2.1 then some (false, ()) else some (true, ())
theorem zOB (K : Nat) : evF (En E0 false []) K Tryz.f229 0 zlX zlY = zv2 := funext fun (x0, x1, ()) => by kernel_rfl
end
def zao : zvN := zv2
theorem zOC : Sd Tryz.prog E0 (zj9 zao) := mkS (l := []) trivial Tryz.func229 (by kernel_rfl) (zOB K0)
section
variable (zmm : zvN) (j7 : zfW)
def zB1 : ((List zn) × ((Option ((zn × Unit) → Option (Bool × Unit))) × Unit)) → Option (Bool × Unit) := fun (x0, x1, ()) =>
  Option.bind (j7 (x0, some fun z => zmm (z.1, some x1, ()), ())) fun q0 => bif q0.1 then some (false, ()) else some (true, ())
theorem zRc (K : Nat) : evF (En E0 false [zj9 zmm, yz j7]) K Tryz.f153 0 zpi zpj = zB1 zmm j7 := funext fun (x0, x1, ()) => by kernel_rfl
end
def jZ : zBN := zB1 zao qN
theorem zRd : Sd Tryz.prog E0 (zm6 jZ) := mkS (l := [zj9 zao, yz qN]) ⟨zOC, zoR, trivial⟩ Tryz.func153 (by kernel_rfl) (zRc zao qN K0)
section
variable (qZ : zDH) (zQ : zrA) (qC : zDJ) (qD : zDI) (z9 : zDK) (zY : zBN)
abbrev zxL : Env := (En E0 false [zpf qZ, zdY zQ, zph qC, zpg qD, zpk z9, zm6 zY])
abbrev zaR : Type := (List zm) × Int × Int × qM
abbrev zS2 : zaR → St := fun (v10, v11, v12, o0) => St.mk [(1, AV.bp 0 []), (10, AV.dat (Ty.sl zo) v10), (11, AV.dat tI v11), (12, AV.dat tI v12)] [Obj.bx (AV.dat qX o0) true]
abbrev zkF : Type := (List zm) × Int × Int × qM
abbrev zS3 : zkF → St := fun (v10, v11, v12, o0) => St.mk [(1, AV.bp 0 []), (10, AV.dat (Ty.sl zo) v10), (11, AV.dat tI v11), (12, AV.dat tI v12)] [Obj.bx (AV.dat qX o0) false]
def vw (k1 : zaR → Option (Bool × Unit)) : zaR → Option (Bool × Unit) := fun (v10, v11, v12, o0) =>
  bif decide (v12 < v11) then inR v12 ((List.length v10) : Int) (Option.bind (zQ ((ix za v10 v12).2.2.1, some fun z => qZ (z.1, some o0, ()), ())) fun q3 => bif q3.1 then Option.bind (qD ((ix za v10 v12).2.2.2.1, some fun z => qC (z.1, some o0, some v12, ()), ())) fun q4 => bif q4.1 then Option.bind (zY ((ix za v10 v12).2.2.2.2.1, some fun z => z9 (z.1, some o0, ()), ())) fun q5 => bif q5.1 then k1 (v10, v11, wI (v12 + 1), o0) else some (false, ()) else Option.bind (zY ((ix za v10 v12).2.2.2.2.1, some fun z => z9 (z.1, some o0, ()), ())) fun q6 => bif q6.1 then some (false, ()) else some (false, ()) else Option.bind (qD ((ix za v10 v12).2.2.2.1, some fun z => qC (z.1, some o0, some v12, ()), ())) fun q7 => bif q7.1 then Option.bind (zY ((ix za v10 v12).2.2.2.2.1, some fun z => z9 (z.1, some o0, ()), ())) fun q8 => bif q8.1 then some (false, ()) else some (false, ()) else Option.bind (zY ((ix za v10 v12).2.2.2.2.1, some fun z => z9 (z.1, some o0, ()), ())) fun q9 => bif q9.1 then some (false, ()) else some (false, ())) else some (true, ())
theorem zS4 (K : Nat) : ∀ n, evV (zxL qZ zQ qC qD z9 zY) K Tryz.f59 0 ziO [1, 0, 1, 0] [] zS2 n = iter (vw qZ zQ qC qD z9 zY) n := zp fun n1 (v10, v11, v12, o0) => by kernel_rfl
def zFr (k1 : zaR → Option (Bool × Unit)) : zkF → Option (Bool × Unit) := fun (v10, v11, v12, o0) =>
  bif decide (v12 < v11) then inR v12 ((List.length v10) : Int) (Option.bind (zQ ((ix za v10 v12).2.2.1, some fun z => qZ (z.1, some o0, ()), ())) fun q0 => bif q0.1 then Option.bind (qD ((ix za v10 v12).2.2.2.1, some fun z => qC (z.1, some o0, some v12, ()), ())) fun q1 => bif q1.1 then Option.bind (zY ((ix za v10 v12).2.2.2.2.1, some fun z => z9 (z.1, some o0, ()), ())) fun q2 => bif q2.1 then k1 (v10, v11, wI (v12 + 1), o0) else some (false, ()) else Option.bind (zY ((ix za v10 v12).2.2.2.2.1, some fun z => z9 (z.1, some o0, ()), ())) fun q10 => bif q10.1 then some (false, ()) else some (false, ()) else Option.bind (qD ((ix za v10 v12).2.2.2.1, some fun z => qC (z.1, some o0, some v12, ()), ())) fun q11 => bif q11.1 then Option.bind (zY ((ix za v10 v12).2.2.2.2.1, some fun z => z9 (z.1, some o0, ()), ())) fun q12 => bif q12.1 then some (false, ()) else some (false, ()) else Option.bind (zY ((ix za v10 v12).2.2.2.2.1, some fun z => z9 (z.1, some o0, ()), ())) fun q13 => bif q13.1 then some (false, ()) else some (false, ())) else some (true, ())
abbrev zFs (K : Nat) : zkF → Option (Bool × Unit) := zUA (zFr qZ zQ qC qD z9 zY) (vw qZ zQ qC qD z9 zY) K
theorem zS5 (K : Nat) : ∀ n, evV (zxL qZ zQ qC qD z9 zY) K Tryz.f59 0 ziO [1, 0, 1, 0] [] zS3 n = zUA (zFr qZ zQ qC qD z9 zY) (vw qZ zQ qC qD z9 zY) n := z7W (zS4 qZ zQ qC qD z9 zY K) fun n0 (v10, v11, v12, o0) => by kernel_rfl
def zxM (L0 : zkF → Option (Bool × Unit)) : (qM × Unit) → Option (Bool × Unit) := fun (x0, ()) =>
  L0 (x0.2.1.2.1, ((List.length x0.2.1.2.1) : Int), 0, x0)
theorem zXA (K : Nat) : evF (zxL qZ zQ qC qD z9 zY) K Tryz.f59 0 zwA ziO = zxM (zFs qZ zQ qC qD z9 zY K) := tr1 (T := zxM) (zS5 qZ zQ qC qD z9 zY K K) fun (x0, ()) => by kernel_rfl
end
def zcw : zKv := zxM (zFs jR qY jS vv jT jZ K0)
theorem zXB : Sd Tryz.prog E0 (ztn zcw) := mkS (l := [zpf jR, zdY qY, zph jS, zpg vv, zpk jT, zm6 jZ]) ⟨zSV, zFp, zSX, zSZ, zS1, zRd, trivial⟩ Tryz.func59 (by kernel_rfl) (zXA jR qY jS vv jT jZ K0)
section
def zFt : ((List zn) × Unit) → Option ((List zn) × Unit) := fun (x0, ()) =>
  bif List.isEmpty x0 then both (some ([], ())) (bif decide (List.length (List.replicate 0 (zb zB)) + List.length x0 ≤ lim) then some (List.replicate 0 (zb zB) ++ x0, ()) else none) else bif decide (List.length (List.replicate 0 (zb zB)) + List.length x0 ≤ lim) then some (List.replicate 0 (zb zB) ++ x0, ()) else none
theorem zS6 (K : Nat) : evF (En E0 false []) K Tryz.f75 1 zrf zrg = zFt := funext fun (x0, ()) => by kernel_rfl
end
def vx : zrh := zFt
theorem zFu : Sd Tryz.prog E0 (zdX vx) := mkS (l := []) trivial Tryz.func75 (by kernel_rfl) (zS6 K0)
section
variable (qn : zrh)
def zkG : ((List zn) × ((Option ((zn × Unit) → Option (Bool × Unit))) × Unit)) → Option ((Option zaF) × Unit) := fun (x0, x1, ()) =>
  bif Option.isNone x1 then some (none, ()) else Option.bind (qn (x0, ())) fun q0 => some (some (q0.1, x1, ()), ())
theorem zS7 (K : Nat) : evF (En E0 false [zdX qn]) K Tryz.f155 0 zrL zrM = zkG qn := funext fun (x0, x1, ()) => by kernel_rfl
end
def jU : zrN := zkG vx
theorem zFv : Sd Tryz.prog E0 (zdZ jU) := mkS (l := [zdX vx]) ⟨zFu, trivial⟩ Tryz.func155 (by kernel_rfl) (zS7 vx K0)
section
def zHi : (zn × Unit) → Option (Bool × Unit) := fun (x0, ()) =>
  bif x0.1 then some (true, ()) else some (false, ())
theorem zVh (K : Nat) : evF (En E0 false []) K Tryz.f156 0 ztX ztY = zHi := funext fun (x0, ()) => by kernel_rfl
end
def vQ : zG0 := zHi
theorem zVi : Sd Tryz.prog E0 (zrO vQ) := mkS (l := []) trivial Tryz.func156 (by kernel_rfl) (zVh K0)
section
def zFw : ((Option zaF) × Unit) → Option (Bool × Unit) := fun (x0, ()) =>
  bif Option.isSome x0 then Option.bind x0 fun q0 => bif Option.isSome q0.2.1 then some (true, ()) else some (false, ()) else some (false, ())
theorem zS8 (K : Nat) : evF (En E0 false []) K Tryz.f198 0 zr4 zr5 = zFw := funext fun (x0, ()) => by kernel_rfl
end
def yG : zr6 := zFw
theorem zFx : Sd Tryz.prog E0 (zd0 yG) := mkS (l := []) trivial Tryz.func198 (by kernel_rfl) (zS8 K0)
section
variable (jV : zr6)
def zmB : ((Option zaF) × (Int × Unit)) → Option (Bool × Unit) := fun (x0, x1, ()) =>
  Option.bind (jV (x0, ())) fun q0 => bif q0.1 then bif decide (x1 ≥ 0) then Option.bind x0 fun q1 => bif decide (x1 < ((List.length q1.1) : Int)) then Option.bind x0 fun q2 => Option.bind x0 fun q3 => inR x1 ((List.length q3.1) : Int) (Option.bind q2.2.1 fun q4 => Option.bind (q4 (ix qe q3.1 x1, ())) fun q5 => bif q5.1 then some (true, ()) else some (false, ())) else some (false, ()) else some (false, ()) else some (false, ())
theorem zVj (K : Nat) : evF (En E0 false [zd0 jV]) K Tryz.f157 0 ztZ zt0 = zmB jV := funext fun (x0, x1, ()) => by kernel_rfl
end
def ja : zt1 := zmB yG
theorem zHj : Sd Tryz.prog E0 (zeU ja) := mkS (l := [zd0 yG]) ⟨zFx, trivial⟩ Tryz.func157 (by kernel_rfl) (zVj yG K0)
section
variable (jV : zr6) (zI : zt1)
abbrev zB2 : Env := (En E0 false [zd0 jV, zeU zI])
abbrev zcf : Type := (Option zaF) × Int × Int × List Int
abbrev zOD : zcf → St := fun (v0, v12, v13, o0) => St.mk [(0, AV.dat (Ty.ptr zbu) v0), (3, AV.ow 0), (12, AV.dat tI v12), (13, AV.dat tI v13)] [Obj.row tI o0 false]
def zcg (k0 : zcf → Option ((List Int) × Unit)) : zcf → Option ((List Int) × Unit) := fun (v0, v12, v13, o0) =>
  bif decide (v13 < v12) then Option.bind (zI (v0, v13, ())) fun q2 => bif q2.1 then bif decide (List.length o0 + List.length (zk (List.replicate 1 (0 : Int)) 0 v13) ≤ lim) then k0 (v0, v12, wI (v13 + 1), o0 ++ zk (List.replicate 1 (0 : Int)) 0 v13) else none else k0 (v0, v12, wI (v13 + 1), o0) else some (o0, ())
abbrev zv3 (K : Nat) : zcf → Option ((List Int) × Unit) := iter (zcg zI) K
theorem zOE (K : Nat) : ∀ n, evV (zB2 jV zI) K Tryz.f121 0 ziz [1, 1, 1, 0, 1, 0] [] zOD n = iter (zcg zI) n := zp fun n0 (v0, v12, v13, o0) => by kernel_rfl
def zpO (L0 : zcf → Option ((List Int) × Unit)) : ((Option zaF) × Unit) → Option ((List Int) × Unit) := fun (x0, ()) =>
  Option.bind (jV (x0, ())) fun q0 => bif q0.1 then Option.bind x0 fun q1 => L0 (x0, ((List.length q1.1) : Int), 0, []) else some ([], ())
theorem zRe (K : Nat) : evF (zB2 jV zI) K Tryz.f121 0 zo3 ziz = zpO jV (zv3 zI K) := tr1 (T := zpO jV) (zOE jV zI K K) fun (x0, ()) => by kernel_rfl
end
def jJ : zo4 := zpO yG (zv3 ja K0)
theorem zB3 : Sd Tryz.prog E0 (zc2 jJ) := mkS (l := [zd0 yG, zeU ja]) ⟨zFx, zHj, trivial⟩ Tryz.func121 (by kernel_rfl) (zRe yG ja K0)
section
variable (zR : zrN) (qk : zG0) (zI : zt1) (zA : zo4)
abbrev ya : Env := (En E0 false [zdZ zR, zrO qk, zeU zI, zc2 zA])
abbrev zgV : Type := (List zm) × Int × Int × (List Int) × Int × Int × zm
abbrev zHk : zgV → St := fun (v14, v15, v16, v55, v56, v57, o0) => St.mk [(4, AV.bp 0 []), (14, AV.dat (Ty.sl zo) v14), (15, AV.dat tI v15), (16, AV.dat tI v16), (55, AV.dat (Ty.sl tI) v55), (56, AV.dat tI v56), (57, AV.dat tI v57)] [Obj.bx (AV.dat zo o0) false]
abbrev zgW : Type := (Option zaF) × (List zm) × Int × Int × (List qb) × Int × Int × zm
abbrev zHl : zgW → St := fun (v5, v14, v15, v16, v24, v25, v26, o0) => St.mk [(4, AV.bp 0 []), (5, AV.dat (Ty.ptr zbu) v5), (14, AV.dat (Ty.sl zo) v14), (15, AV.dat tI v15), (16, AV.dat tI v16), (24, AV.dat (Ty.sl zW) v24), (25, AV.dat tI v25), (26, AV.dat tI v26)] [Obj.bx (AV.dat zo o0) false]
abbrev yo : Type := (List zm) × Int × Int
abbrev zds : yo → St := fun (v14, v15, v16) => St.mk [(14, AV.dat (Ty.sl zo) v14), (15, AV.dat tI v15), (16, AV.dat tI v16)] []
def zgX (k0 : yo → Option (Bool × Unit)) (k2 : zgV → Option (Bool × Unit)) : zgV → Option (Bool × Unit) := fun (v14, v15, v16, v55, v56, v57, o0) =>
  bif decide (v57 < v56) then inR v57 ((List.length v55) : Int) (inR (ix (0 : Int) v55 v57) ((List.length o0.2.2.2.2.1) : Int) (inR (ix (0 : Int) v55 v57) ((List.length o0.2.2.2.2.1) : Int) (bif decide ((List.getD o0.2.2.2.2.1 (Int.toNat (ix (0 : Int) v55 v57)) (zb zB)).2.2.2.1.2.2.1 ≥ ((List.length o0.2.2.1) : Int)) then some (false, ()) else bif decide ((List.getD o0.2.2.2.2.1 (Int.toNat (ix (0 : Int) v55 v57)) (zb zB)).2.2.2.2.1.2.2.1 ≥ ((List.length o0.2.2.1) : Int)) then some (false, ()) else bif decide ((List.getD o0.2.2.2.2.1 (Int.toNat (ix (0 : Int) v55 v57)) (zb zB)).2.2.2.1.2.2.1 ≥ 0) then inR (List.getD o0.2.2.2.2.1 (Int.toNat (ix (0 : Int) v55 v57)) (zb zB)).2.2.2.1.2.2.1 ((List.length o0.2.2.1) : Int) (bif (List.getD o0.2.2.1 (Int.toNat (List.getD o0.2.2.2.2.1 (Int.toNat (ix (0 : Int) v55 v57)) (zb zB)).2.2.2.1.2.2.1) (zb zW)).2.2.1 != 3 then some (false, ()) else inR (List.getD o0.2.2.2.2.1 (Int.toNat (ix (0 : Int) v55 v57)) (zb zB)).2.2.2.1.2.2.1 ((List.length o0.2.2.1) : Int) (bif (List.getD o0.2.2.1 (Int.toNat (List.getD o0.2.2.2.2.1 (Int.toNat (ix (0 : Int) v55 v57)) (zb zB)).2.2.2.1.2.2.1) (zb zW)).2.2.2.1 != ix (0 : Int) v55 v57 then some (false, ()) else k2 (v14, v15, v16, v55, v56, wI (v57 + 1), o0))) else k2 (v14, v15, v16, v55, v56, wI (v57 + 1), o0)))) else k0 (v14, v15, wI (v16 + 1))
abbrev zgY (K : Nat) (k0 : yo → Option (Bool × Unit)) : zgV → Option (Bool × Unit) := iter (fun k2 => zgX k0 k2) K
theorem zVk (K : Nat) (n0 : Nat) : ∀ n, evV (ya zR qk zI zA) K Tryz.f60 0 vc [1, 0, 1, 0, 0, 1, 1, 0, 0, 1, 1, 1, 1, 0] [n0] zHk n = iter (fun k2 => zgX (evV (ya zR qk zI zA) K Tryz.f60 0 vc [1, 0, 1, 0] [] zds n0) k2) n := zp fun n2 (v14, v15, v16, v55, v56, v57, o0) => by kernel_rfl
def zdt (L2 : zgV → Option (Bool × Unit)) (k0 : yo → Option (Bool × Unit)) (k1 : zgW → Option (Bool × Unit)) : zgW → Option (Bool × Unit) := fun (v5, v14, v15, v16, v24, v25, v26, o0) =>
  bif decide (v26 < v25) then inR v26 ((List.length v24) : Int) (bif (ix zJ v24 v26).2.2.1 == 3 then Option.bind (zI (v5, (ix zJ v24 v26).2.2.2.1, ())) fun q1 => bif q1.1 then inR (ix zJ v24 v26).2.2.2.1 ((List.length o0.2.2.2.2.1) : Int) (bif (List.getD o0.2.2.2.2.1 (Int.toNat (ix zJ v24 v26).2.2.2.1) (zb zB)).2.2.2.1.2.2.1 != v26 then some (false, ()) else k1 (v5, v14, v15, v16, v24, v25, wI (v26 + 1), o0)) else some (false, ()) else k1 (v5, v14, v15, v16, v24, v25, wI (v26 + 1), o0)) else Option.bind (zA (v5, ())) fun q2 => L2 (v14, v15, v16, q2.1, ((List.length q2.1) : Int), 0, o0)
abbrev zgZ (K : Nat) (k0 : yo → Option (Bool × Unit)) : zgW → Option (Bool × Unit) := iter (fun k1 => zdt zI zA (zgY K k0) k0 k1) K
theorem zVl (K : Nat) (n0 : Nat) : ∀ n, evV (ya zR qk zI zA) K Tryz.f60 0 vc [1, 0, 1, 0, 0, 1, 1, 0, 0, 1, 1, 0, 1, 0] [n0] zHl n = iter (fun k1 => zdt zI zA (zgY K (evV (ya zR qk zI zA) K Tryz.f60 0 vc [1, 0, 1, 0] [] zds n0)) (evV (ya zR qk zI zA) K Tryz.f60 0 vc [1, 0, 1, 0] [] zds n0) k1) n := vj (B := fun L2 k1 => zdt zI zA L2 (evV (ya zR qk zI zA) K Tryz.f60 0 vc [1, 0, 1, 0] [] zds n0) k1) (V1 := fun n1 => evV (ya zR qk zI zA) K Tryz.f60 0 vc [1, 0, 1, 0, 0, 1, 1, 0, 0, 1, 1, 1, 1, 0] [n0] zHk K) (W1 := fun k1 => (zgY K (evV (ya zR qk zI zA) K Tryz.f60 0 vc [1, 0, 1, 0] [] zds n0))) (fun n1 => zVk zR qk zI zA K n0 K) fun n1 (v5, v14, v15, v16, v24, v25, v26, o0) => by kernel_rfl
def zdu (L1 : zgW → Option (Bool × Unit)) (k0 : yo → Option (Bool × Unit)) : yo → Option (Bool × Unit) := fun (v14, v15, v16) =>
  bif decide (v16 < v15) then inR v16 ((List.length v14) : Int) (Option.bind (zR ((ix za v14 v16).2.2.2.2.1, some qk, ())) fun q0 => L1 (q0.1, v14, v15, v16, (ix za v14 v16).2.2.1, ((List.length (ix za v14 v16).2.2.1) : Int), 0, ix za v14 v16)) else some (true, ())
abbrev zHm (K : Nat) : yo → Option (Bool × Unit) := iter (fun k0 => zdu zR qk (zgZ zI zA K k0) k0) K
theorem zVm (K : Nat) : ∀ n, evV (ya zR qk zI zA) K Tryz.f60 0 vc [1, 0, 1, 0] [] zds n = iter (fun k0 => zdu zR qk (zgZ zI zA K k0) k0) n := vj (B := fun L1 k0 => zdu zR qk L1 k0) (V1 := fun n0 => evV (ya zR qk zI zA) K Tryz.f60 0 vc [1, 0, 1, 0, 0, 1, 1, 0, 0, 1, 1, 0, 1, 0] [n0] zHl K) (W1 := fun k0 => (zgZ zI zA K k0)) (fun n0 => zVl zR qk zI zA K n0 K) fun n0 (v14, v15, v16) => by kernel_rfl
def zBc (L0 : yo → Option (Bool × Unit)) : (qM × Unit) → Option (Bool × Unit) := fun (x0, ()) =>
  L0 (x0.2.1.2.1, ((List.length x0.2.1.2.1) : Int), 0)
theorem zZN (K : Nat) : evF (ya zR qk zI zA) K Tryz.f60 0 zzA vc = zBc (zHm zR qk zI zA K) := tr1 (T := zBc) (zVm zR qk zI zA K K) fun (x0, ()) => by kernel_rfl
end
def zgn : zNa := zBc (zHm jU vQ ja jJ K0)
theorem zZO : Sd Tryz.prog E0 (zwB zgn) := mkS (l := [zdZ jU, zrO vQ, zeU ja, zc2 jJ]) ⟨zFv, zVi, zHj, zB3, trivial⟩ Tryz.func60 (by kernel_rfl) (zZN jU vQ ja jJ K0)
section
def zFy : ((List zj) × Unit) → Option ((List zj) × Unit) := fun (x0, ()) =>
  bif List.isEmpty x0 then both (some ([], ())) (bif decide (List.length (List.replicate 0 (zb zw)) + List.length x0 ≤ lim) then some (List.replicate 0 (zb zw) ++ x0, ()) else none) else bif decide (List.length (List.replicate 0 (zb zw)) + List.length x0 ≤ lim) then some (List.replicate 0 (zb zw) ++ x0, ()) else none
theorem zS9 (K : Nat) : evF (En E0 false []) K Tryz.f66 1 zq3 zq4 = zFy := funext fun (x0, ()) => by kernel_rfl
end
def vy : zq5 := zFy
theorem zFz : Sd Tryz.prog E0 (zdW vy) := mkS (l := []) trivial Tryz.func66 (by kernel_rfl) (zS9 K0)
section
variable (jb : zq5)
def zsv : ((List zj) × ((Option ((zj × Unit) → Option (Bool × Unit))) × Unit)) → Option ((Option zbv) × Unit) := fun (x0, x1, ()) =>
  bif Option.isNone x1 then some (none, ()) else Option.bind (jb (x0, ())) fun q0 => some (some (q0.1, x1, ()), ())
theorem zTa (K : Nat) : evF (En E0 false [zdW jb]) K Tryz.f249 0 zsa zsb = zsv jb := funext fun (x0, x1, ()) => by kernel_rfl
end
def zfc : zEt := zsv vy
theorem zTb : Sd Tryz.prog E0 (zpC zfc) := mkS (l := [zdW vy]) ⟨zFz, trivial⟩ Tryz.func249 (by kernel_rfl) (zTa vy K0)
section
def zQd : (zj × Unit) → Option (Bool × Unit) := fun (x0, ()) =>
  bif x0.1 then some (true, ()) else some (false, ())
theorem z2K (K : Nat) : evF (En E0 false []) K Tryz.f250 0 zEu zEv = zQd := funext fun (x0, ()) => by kernel_rfl
end
def zjr : zPw := zQd
theorem z2L : Sd Tryz.prog E0 (zAJ zjr) := mkS (l := []) trivial Tryz.func250 (by kernel_rfl) (z2K K0)
section
variable (zsw : zEt) (zFA : zPw)
def zMF : ((List zj) × Unit) → Option ((Option zbv) × Unit) := fun (x0, ()) =>
  Option.bind (zsw (x0, some zFA, ())) fun q0 => some (q0.1, ())
theorem z6P (K : Nat) : evF (En E0 false [zpC zsw, zAJ zFA]) K Tryz.f195 0 zL2 zL3 = zMF zsw zFA := funext fun (x0, ()) => by kernel_rfl
end
def zom : zUE := zMF zfc zjr
theorem z6Q : Sd Tryz.prog E0 (zIP zom) := mkS (l := [zpC zfc, zAJ zjr]) ⟨zTb, z2L, trivial⟩ Tryz.func195 (by kernel_rfl) (z6P zfc zjr K0)
section
def zFB : ((Option zbv) × Unit) → Option (Bool × Unit) := fun (x0, ()) =>
  bif Option.isSome x0 then Option.bind x0 fun q0 => bif Option.isSome q0.2.1 then some (true, ()) else some (false, ()) else some (false, ())
theorem zTc (K : Nat) : evF (En E0 false []) K Tryz.f251 0 zsc zsd = zFB := funext fun (x0, ()) => by kernel_rfl
end
def yH : zse := zFB
theorem zFC : Sd Tryz.prog E0 (zd1 yH) := mkS (l := []) trivial Tryz.func251 (by kernel_rfl) (zTc K0)
section
variable (jW : zse)
def zu2 : ((Option zbv) × (Int × Unit)) → Option (Bool × Unit) := fun (x0, x1, ()) =>
  Option.bind (jW (x0, ())) fun q0 => bif q0.1 then bif decide (x1 ≥ 0) then Option.bind x0 fun q1 => bif decide (x1 < ((List.length q1.1) : Int)) then Option.bind x0 fun q2 => Option.bind x0 fun q3 => inR x1 ((List.length q3.1) : Int) (Option.bind q2.2.1 fun q4 => Option.bind (q4 (ix zP q3.1 x1, ())) fun q5 => bif q5.1 then some (true, ()) else some (false, ())) else some (false, ()) else some (false, ()) else some (false, ())
theorem zVn (K : Nat) : evF (En E0 false [zd1 jW]) K Tryz.f252 0 zup zuq = zu2 jW := funext fun (x0, x1, ()) => by kernel_rfl
end
def zbG : zG9 := zu2 yH
theorem zVo : Sd Tryz.prog E0 (zsf zbG) := mkS (l := [zd1 yH]) ⟨zFC, trivial⟩ Tryz.func252 (by kernel_rfl) (zVn yH K0)
section
variable (jW : zse) (zaf : zG9)
abbrev zB4 : Env := (En E0 false [zd1 jW, zsf zaf])
abbrev zch : Type := (Option zbv) × Int × Int × List Int
abbrev zOF : zch → St := fun (v0, v12, v13, o0) => St.mk [(0, AV.dat (Ty.ptr zcL) v0), (3, AV.ow 0), (12, AV.dat tI v12), (13, AV.dat tI v13)] [Obj.row tI o0 false]
def zci (k0 : zch → Option ((List Int) × Unit)) : zch → Option ((List Int) × Unit) := fun (v0, v12, v13, o0) =>
  bif decide (v13 < v12) then Option.bind (zaf (v0, v13, ())) fun q2 => bif q2.1 then bif decide (List.length o0 + List.length (zk (List.replicate 1 (0 : Int)) 0 v13) ≤ lim) then k0 (v0, v12, wI (v13 + 1), o0 ++ zk (List.replicate 1 (0 : Int)) 0 v13) else none else k0 (v0, v12, wI (v13 + 1), o0) else some (o0, ())
abbrev zv4 (K : Nat) : zch → Option ((List Int) × Unit) := iter (zci zaf) K
theorem zOG (K : Nat) : ∀ n, evV (zB4 jW zaf) K Tryz.f196 0 ziB [1, 1, 1, 0, 1, 0] [] zOF n = iter (zci zaf) n := zp fun n0 (v0, v12, v13, o0) => by kernel_rfl
def zpP (L0 : zch → Option ((List Int) × Unit)) : ((Option zbv) × Unit) → Option ((List Int) × Unit) := fun (x0, ()) =>
  Option.bind (jW (x0, ())) fun q0 => bif q0.1 then Option.bind x0 fun q1 => L0 (x0, ((List.length q1.1) : Int), 0, []) else some ([], ())
theorem zRf (K : Nat) : evF (zB4 jW zaf) K Tryz.f196 0 zpr ziB = zpP jW (zv4 zaf K) := tr1 (T := zpP jW) (zOG jW zaf K K) fun (x0, ()) => by kernel_rfl
end
def zd6 : zBP := zpP yH (zv4 zbG K0)
theorem zRg : Sd Tryz.prog E0 (zna zd6) := mkS (l := [zd1 yH, zsf zbG]) ⟨zFC, zVo, trivial⟩ Tryz.func196 (by kernel_rfl) (zRf yH zbG K0)
section
variable (zMG : zUE) (zpQ : zBP)
def zFD : ((List zj) × Unit) → Option ((List Int) × Unit) := fun (x0, ()) =>
  Option.bind (zMG (x0, ())) fun q0 => Option.bind (zpQ (q0.1, ())) fun q1 => some (q1.1, ())
theorem z2M (K : Nat) : evF (En E0 false [zIP zMG, zna zpQ]) K Tryz.f118 0 zDr zDs = zFD zMG zpQ := funext fun (x0, ()) => by kernel_rfl
end
def zjs : zPe := zFD zom zd6
theorem z2N : Sd Tryz.prog E0 (zz5 zjs) := mkS (l := [zIP zom, zna zd6]) ⟨z6Q, zRg, trivial⟩ Tryz.func118 (by kernel_rfl) (z2M zom zd6 K0)
section
def zBd : (zj × Unit) → Option (Int × Unit) := fun (x0, ()) =>
  bif x0.2.2.2.1 == 2 then some (x0.2.2.2.2.1, ()) else some (x0.2.2.2.2.2.1, ())
theorem zZP (K : Nat) : evF (En E0 false []) K Tryz.f119 0 zz6 zz7 = zBd := funext fun (x0, ()) => by kernel_rfl
end
def zdQ : zNq := zBd
theorem zZQ : Sd Tryz.prog E0 (zw1 zdQ) := mkS (l := []) trivial Tryz.func119 (by kernel_rfl) (zZP K0)
section
def zJN : (Int × (Int × Unit)) → Option (Int × (Int × Unit)) := fun (x0, x1, ()) =>
  bif decide (0 ≤ x0) then bif decide (0 ≤ x1) then bif decide (x1 < 18446744073709551616) then bif zLF true x0 x1 != 0 then some (0, 7, ()) else bif decide (zH7 true x0 x1 > 4611686018427387904) then some (0, 7, ()) else some (zH7 true x0 x1, 0, ()) else none else none else none
theorem z4x (K : Nat) : evF (En E0 false []) K Tryz.f122 0 zIy zIz = zJN := funext fun (x0, x1, ()) => by kernel_rfl
end
def zim : zRL := zJN
theorem z4y : Sd Tryz.prog E0 (zDu zim) := mkS (l := []) trivial Tryz.func122 (by kernel_rfl) (z4x K0)
section
variable (zew : zRL)
abbrev zVp : Env := (En E0 false [zDu zew])
abbrev znK : Type := Int × (List Int) × Int × Int
abbrev z2O : znK → St := fun (v4, v9, v10, v11) => St.mk [(4, AV.dat tU v4), (9, AV.dat (Ty.sl tU) v9), (10, AV.dat tI v10), (11, AV.dat tI v11)] []
def znL (k0 : znK → Option (Int × (Int × Unit))) : znK → Option (Int × (Int × Unit)) := fun (v4, v9, v10, v11) =>
  bif decide (v11 < v10) then inR v11 ((List.length v9) : Int) (Option.bind (zew (v4, ix (0 : Int) v9 v11, ())) fun q0 => bif q0.2.1 != 0 then some (0, q0.2.1, ()) else k0 (q0.1, v9, v10, wI (v11 + 1))) else some (v4, 0, ())
abbrev zQe (K : Nat) : znK → Option (Int × (Int × Unit)) := iter (znL zew) K
theorem z2P (K : Nat) : ∀ n, evV (zVp zew) K Tryz.f46 0 zCi [1, 1, 0, 1, 0] [] z2O n = iter (znL zew) n := zp fun n0 (v4, v9, v10, v11) => by kernel_rfl
def zMH (L0 : znK → Option (Int × (Int × Unit))) : ((List Int) × Unit) → Option (Int × (Int × Unit)) := fun (x0, ()) =>
  L0 (0, x0, ((List.length x0) : Int), 0)
theorem z6R (K : Nat) : evF (zVp zew) K Tryz.f46 0 zL0 zCi = zMH (zQe zew K) := tr1 (T := zMH) (z2P zew K K) fun (x0, ()) => by kernel_rfl
end
def jY : ztg := zMH (zQe zim K0)
theorem zCo : Sd Tryz.prog E0 (zcM jY) := mkS (l := [zDu zim]) ⟨z4y, trivial⟩ Tryz.func46 (by kernel_rfl) (z6R zim K0)
section
variable (zy : zc1) (zfd : zPe) (zbY : zNq) (zO : ztg)
abbrev zR4 : Env := (En E0 false [jF zy, zz5 zfd, zw1 zbY, zcM zO])
abbrev zk6 : Type := (List zj) × Int × (List Int) × Int × Int × List Int
abbrev zZR : zk6 → St := fun (v0, v1, v13, v14, v15, o0) => St.mk [(0, AV.dat (Ty.sl zw) v0), (1, AV.dat tI v1), (6, AV.ow 0), (13, AV.dat (Ty.sl tI) v13), (14, AV.dat tI v14), (15, AV.dat tI v15)] [Obj.row tU o0 false]
def zk7 (k0 : zk6 → Option (Int × (Int × Unit))) : zk6 → Option (Int × (Int × Unit)) := fun (v0, v1, v13, v14, v15, o0) =>
  bif decide (v15 < v14) then inR v15 ((List.length v13) : Int) (inR (ix (0 : Int) v13 v15) ((List.length v0) : Int) (Option.bind (zbY (List.getD v0 (Int.toNat (ix (0 : Int) v13 v15)) (zb zw), ())) fun q2 => bif q2.1 == v1 then inR (ix (0 : Int) v13 v15) ((List.length v0) : Int) (bif decide (List.length o0 + List.length (zk (List.replicate 1 (0 : Int)) 0 (List.getD v0 (Int.toNat (ix (0 : Int) v13 v15)) (zb zw)).2.2.2.2.2.2.2.2.1) ≤ lim) then k0 (v0, v1, v13, v14, wI (v15 + 1), o0 ++ zk (List.replicate 1 (0 : Int)) 0 (List.getD v0 (Int.toNat (ix (0 : Int) v13 v15)) (zb zw)).2.2.2.2.2.2.2.2.1) else none) else k0 (v0, v1, v13, v14, wI (v15 + 1), o0))) else Option.bind (zO (o0, ())) fun q3 => some (q3.1, q3.2.1, ())
abbrev zNN (K : Nat) : zk6 → Option (Int × (Int × Unit)) := iter (zk7 zbY zO) K
theorem zZS (K : Nat) : ∀ n, evV (zR4 zy zfd zbY zO) K Tryz.f44 0 zyi [1, 1, 1, 0, 1, 0] [] zZR n = iter (zk7 zbY zO) n := zp fun n0 (v0, v1, v13, v14, v15, o0) => by kernel_rfl
def zyo (L0 : zk6 → Option (Int × (Int × Unit))) : ((List zj) × (Int × Unit)) → Option (Int × (Int × Unit)) := fun (x0, x1, ()) =>
  Option.bind (zy (x1, ())) fun q0 => bif q0.1 then Option.bind (zfd (x0, ())) fun q1 => L0 (x0, x1, q1.1, ((List.length q1.1) : Int), 0, []) else some (0, 1, ())
theorem z4z (K : Nat) : evF (zR4 zy zfd zbY zO) K Tryz.f44 0 zIi zyi = zyo zy zfd (zNN zbY zO K) := tr1 (T := zyo zy zfd) (zZS zy zfd zbY zO K K) fun (x0, x1, ()) => by kernel_rfl
end
def zlA : zRG := zyo qp zjs (zNN zdQ jY K0)
theorem z4A : Sd Tryz.prog E0 (zC3 zlA) := mkS (l := [jF qp, zz5 zjs, zw1 zdQ, zcM jY]) ⟨zfa, z2N, zZQ, zCo, trivial⟩ Tryz.func44 (by kernel_rfl) (z4z qp zjs zdQ jY K0)
section
def zNO : (zn × Unit) → Option (Bool × Unit) := fun (x0, ()) =>
  bif x0.1 then some (true, ()) else some (false, ())
theorem zZT (K : Nat) : evF (En E0 false []) K Tryz.f197 0 zAy zAz = zNO := funext fun (x0, ()) => by kernel_rfl
end
def zgo : zNy := zNO
theorem zZU : Sd Tryz.prog E0 (zxf zgo) := mkS (l := []) trivial Tryz.func197 (by kernel_rfl) (zZT K0)
section
variable (zR : zrN) (zBe : zNy)
def zJO : ((List zn) × Unit) → Option ((Option zaF) × Unit) := fun (x0, ()) =>
  Option.bind (zR (x0, some zBe, ())) fun q0 => some (q0.1, ())
theorem z4B (K : Nat) : evF (En E0 false [zdZ zR, zxf zBe]) K Tryz.f120 0 zIw zIx = zJO zR zBe := funext fun (x0, ()) => by kernel_rfl
end
def zlB : zRK := zJO jU zgo
theorem z4C : Sd Tryz.prog E0 (zDt zlB) := mkS (l := [zdZ jU, zxf zgo]) ⟨zFv, zZU, trivial⟩ Tryz.func120 (by kernel_rfl) (z4B jU zgo K0)
section
variable (zy : zc1) (zin : zRK) (zA : zo4) (zO : ztg)
abbrev zQf : Env := (En E0 false [jF zy, zDt zin, zc2 zA, zcM zO])
abbrev zjt : Type := (List zn) × Int × (List Int) × Int × Int × List Int
abbrev zXC : zjt → St := fun (v0, v1, v14, v15, v16, o0) => St.mk [(0, AV.dat (Ty.sl zB) v0), (1, AV.dat tI v1), (6, AV.ow 0), (14, AV.dat (Ty.sl tI) v14), (15, AV.dat tI v15), (16, AV.dat tI v16)] [Obj.row tU o0 false]
def zju (k0 : zjt → Option (Int × (Int × Unit))) : zjt → Option (Int × (Int × Unit)) := fun (v0, v1, v14, v15, v16, o0) =>
  bif decide (v16 < v15) then inR v16 ((List.length v14) : Int) (inR (ix (0 : Int) v14 v16) ((List.length v0) : Int) (bif (List.getD v0 (Int.toNat (ix (0 : Int) v14 v16)) (zb zB)).2.2.2.1.1 == v1 then inR (ix (0 : Int) v14 v16) ((List.length v0) : Int) (bif decide (List.length o0 + List.length (zk (List.replicate 1 (0 : Int)) 0 (List.getD v0 (Int.toNat (ix (0 : Int) v14 v16)) (zb zB)).2.2.2.1.2.1) ≤ lim) then k0 (v0, v1, v14, v15, wI (v16 + 1), o0 ++ zk (List.replicate 1 (0 : Int)) 0 (List.getD v0 (Int.toNat (ix (0 : Int) v14 v16)) (zb zB)).2.2.2.1.2.1) else none) else k0 (v0, v1, v14, v15, wI (v16 + 1), o0))) else Option.bind (zO (o0, ())) fun q3 => some (q3.1, q3.2.1, ())
abbrev zK7 (K : Nat) : zjt → Option (Int × (Int × Unit)) := iter (zju zO) K
theorem zXD (K : Nat) : ∀ n, evV (zQf zy zin zA zO) K Tryz.f45 0 ztf [1, 1, 1, 0, 1, 0] [] zXC n = iter (zju zO) n := zp fun n0 (v0, v1, v14, v15, v16, o0) => by kernel_rfl
def zu3 (L0 : zjt → Option (Int × (Int × Unit))) : ((List zn) × (Int × Unit)) → Option (Int × (Int × Unit)) := fun (x0, x1, ()) =>
  Option.bind (zy (x1, ())) fun q0 => bif q0.1 then Option.bind (zin (x0, ())) fun q1 => Option.bind (zA (q1.1, ())) fun q2 => L0 (x0, x1, q2.1, ((List.length q2.1) : Int), 0, []) else some (0, 1, ())
theorem z2Q (K : Nat) : evF (zQf zy zin zA zO) K Tryz.f45 0 zC4 ztf = zu3 zy zin zA (zK7 zO K) := tr1 (T := zu3 zy zin zA) (zXD zy zin zA zO K K) fun (x0, x1, ()) => by kernel_rfl
end
def zfe : zO6 := zu3 qp zlB jJ (zK7 jY K0)
theorem z2R : Sd Tryz.prog E0 (zzq zfe) := mkS (l := [jF qp, zDt zlB, zc2 jJ, zcM jY]) ⟨zfa, z4C, zB3, zCo, trivial⟩ Tryz.func45 (by kernel_rfl) (z2Q qp zlB jJ jY K0)
section
variable (zy : zc1) (zaA : zRG) (vN : zO6) (zO : ztg)
abbrev znM : Env := (En E0 false [jF zy, zC3 zaA, zzq vN, zcM zO])
abbrev zjv : Type := Int × (List zm) × Int × Int × (List (List Int)) × Int × Int × List Int
abbrev zK8 : zjv → St := fun (v1, v31, v32, v33, v52, v53, v54, o0) => St.mk [(1, AV.dat tI v1), (8, AV.ow 0), (31, AV.dat (Ty.sl zo) v31), (32, AV.dat tI v32), (33, AV.dat tI v33), (52, AV.dat (Ty.sl (Ty.arr 4 tU)) v52), (53, AV.dat tI v53), (54, AV.dat tI v54)] [Obj.row tU o0 false]
abbrev zcx : Type := Int × (List zm) × Int × Int × List Int
abbrev zK9 : zcx → St := fun (v1, v31, v32, v33, o0) => St.mk [(1, AV.dat tI v1), (8, AV.ow 0), (31, AV.dat (Ty.sl zo) v31), (32, AV.dat tI v32), (33, AV.dat tI v33)] [Obj.row tU o0 false]
def zjw (k0 : zcx → Option (Int × (Int × Unit))) (k1 : zjv → Option (Int × (Int × Unit))) : zjv → Option (Int × (Int × Unit)) := fun (v1, v31, v32, v33, v52, v53, v54, o0) =>
  bif decide (v54 < v53) then inR v54 ((List.length v52) : Int) (inR v1 (↑4 : Int) (bif decide (List.length o0 + List.length (zk (List.replicate 1 (0 : Int)) 0 (List.getD (List.getD v52 (Int.toNat v54) (zb (Ty.arr 4 tU))) (Int.toNat v1) (0 : Int))) ≤ lim) then k1 (v1, v31, v32, v33, v52, v53, wI (v54 + 1), o0 ++ zk (List.replicate 1 (0 : Int)) 0 (List.getD (List.getD v52 (Int.toNat v54) (zb (Ty.arr 4 tU))) (Int.toNat v1) (0 : Int))) else none)) else k0 (v1, v31, v32, wI (v33 + 1), o0)
abbrev zjx (K : Nat) (k0 : zcx → Option (Int × (Int × Unit))) : zjv → Option (Int × (Int × Unit)) := iter (fun k1 => zjw k0 k1) K
theorem zXE (K : Nat) (n0 : Nat) : ∀ n, evV (znM zy zaA vN zO) K Tryz.f13 0 zeS [1, 1, 1, 1, 1, 0, 1, 0, 0, 1, 1, 0, 0, 1, 1, 1, 1, 1, 0] [n0] zK8 n = iter (fun k1 => zjw (evV (znM zy zaA vN zO) K Tryz.f13 0 zeS [1, 1, 1, 1, 1, 0, 1, 0] [] zK9 n0) k1) n := zp fun n1 (v1, v31, v32, v33, v52, v53, v54, o0) => by kernel_rfl
def zeF (L1 : zjv → Option (Int × (Int × Unit))) (k0 : zcx → Option (Int × (Int × Unit))) : zcx → Option (Int × (Int × Unit)) := fun (v1, v31, v32, v33, o0) =>
  bif decide (v33 < v32) then inR v33 ((List.length v31) : Int) (Option.bind (vN ((ix za v31 v33).2.2.2.2.1, v1, ())) fun q2 => bif q2.2.1 != 0 then some (0, q2.2.1, ()) else bif decide (List.length o0 + List.length (zk (List.replicate 1 (0 : Int)) 0 q2.1) ≤ lim) then L1 (v1, v31, v32, v33, (ix za v31 v33).2.2.2.2.2.1, ((List.length (ix za v31 v33).2.2.2.2.2.1) : Int), 0, o0 ++ zk (List.replicate 1 (0 : Int)) 0 q2.1) else none) else Option.bind (zO (o0, ())) fun q3 => some (q3.1, q3.2.1, ())
abbrev zLa (K : Nat) : zcx → Option (Int × (Int × Unit)) := iter (fun k0 => zeF vN zO (zjx K k0) k0) K
theorem zXF (K : Nat) : ∀ n, evV (znM zy zaA vN zO) K Tryz.f13 0 zeS [1, 1, 1, 1, 1, 0, 1, 0] [] zK9 n = iter (fun k0 => zeF vN zO (zjx K k0) k0) n := vj (B := fun L1 k0 => zeF vN zO L1 k0) (V1 := fun n0 => evV (znM zy zaA vN zO) K Tryz.f13 0 zeS [1, 1, 1, 1, 1, 0, 1, 0, 0, 1, 1, 0, 0, 1, 1, 1, 1, 1, 0] [n0] zK8 K) (W1 := fun k0 => (zjx K k0)) (fun n0 => zXE zy zaA vN zO K n0 K) fun n0 (v1, v31, v32, v33, o0) => by kernel_rfl
def zu4 (L0 : zcx → Option (Int × (Int × Unit))) : (zf × (Int × Unit)) → Option (Int × (Int × Unit)) := fun (x0, x1, ()) =>
  Option.bind (zy (x1, ())) fun q0 => bif q0.1 then Option.bind (zaA (x0.2.2.2.1, x1, ())) fun q1 => bif q1.2.1 != 0 then some (0, q1.2.1, ()) else L0 (x1, x0.2.1, ((List.length x0.2.1) : Int), 0, [q1.1]) else some (0, 1, ())
theorem z2S (K : Nat) : evF (znM zy zaA vN zO) K Tryz.f13 0 zCN zeS = zu4 zy zaA (zLa vN zO K) := tr1 (T := zu4 zy zaA) (zXF zy zaA vN zO K K) fun (x0, x1, ()) => by kernel_rfl
end
def vk : zCO := zu4 qp zlA (zLa zfe jY K0)
theorem zQg : Sd Tryz.prog E0 (zkV vk) := mkS (l := [jF qp, zC3 zlA, zzq zfe, zcM jY]) ⟨zfa, z4A, z2R, zCo, trivial⟩ Tryz.func13 (by kernel_rfl) (z2S qp zlA zfe jY K0)
section
variable (zO : ztg)
abbrev zLb : Env := (En E0 false [zcM zO])
abbrev zff : Type := Int × (Option ((zm × Unit) → Option ((List Int) × Unit))) × (List zm) × Int × Int × List Int
abbrev zTd : zff → St := fun (v1, v2, v12, v13, v14, o0) => St.mk [(1, AV.dat tI v1), (2, AV.dat (Ty.fn (Ty.pair zo Ty.unit) (Ty.pair (Ty.arr 4 tU) Ty.unit)) v2), (8, AV.ow 0), (12, AV.dat (Ty.sl zo) v12), (13, AV.dat tI v13), (14, AV.dat tI v14)] [Obj.row tU o0 false]
def zfg (k0 : zff → Option (Int × (Int × Unit))) : zff → Option (Int × (Int × Unit)) := fun (v1, v2, v12, v13, v14, o0) =>
  bif decide (v14 < v13) then inR v14 ((List.length v12) : Int) (Option.bind v2 fun q0 => Option.bind (q0 (ix za v12 v14, ())) fun q1 => inR v1 (↑4 : Int) (bif decide (List.length o0 + List.length (zk (List.replicate 1 (0 : Int)) 0 (ix (0 : Int) q1.1 v1)) ≤ lim) then k0 (v1, v2, v12, v13, wI (v14 + 1), o0 ++ zk (List.replicate 1 (0 : Int)) 0 (ix (0 : Int) q1.1 v1)) else none)) else Option.bind (zO (o0, ())) fun q2 => some (q2.1, q2.2.1, ())
abbrev zFE (K : Nat) : zff → Option (Int × (Int × Unit)) := iter (zfg zO) K
theorem zTe (K : Nat) : ∀ n, evV (zLb zO) K Tryz.f50 0 zn7 [1, 1, 0, 1, 0] [] zTd n = iter (zfg zO) n := zp fun n0 (v1, v2, v12, v13, v14, o0) => by kernel_rfl
def zxN (L0 : zff → Option (Int × (Int × Unit))) : (zf × (Int × ((Option ((zm × Unit) → Option ((List Int) × Unit))) × Unit))) → Option (Int × (Int × Unit)) := fun (x0, x1, x2, ()) =>
  L0 (x1, x2, x0.2.1, ((List.length x0.2.1) : Int), 0, [])
theorem zXG (K : Nat) : evF (zLb zO) K Tryz.f50 0 zwp zn7 = zxN (zFE zO K) := tr1 (T := zxN) (zTe zO K K) fun (x0, x1, x2, ()) => by kernel_rfl
end
def zjy : zKr := zxN (zFE jY K0)
theorem zXH : Sd Tryz.prog E0 (ztj zjy) := mkS (l := [zcM jY]) ⟨zCo, trivial⟩ Tryz.func50 (by kernel_rfl) (zXG jY K0)
end
end Go.Proofs.YtaokpakfhdeiiaaGreatDoor
end
section
namespace Go.Proofs.YtaokpakfhdeiiaaGreatDoor
open Go.Ev
set_option linter.unusedVariables false
noncomputable section
section
def zLc : (zm × Unit) → Option ((List Int) × Unit) := fun (x0, ()) =>
  some (x0.2.2.2.2.2.2.2.1, ())
theorem zXI (K : Nat) : evF (En E0 false []) K Tryz.f51 0 zwq zwr = zLc := funext fun (x0, ()) => by kernel_rfl
end
def zjz : zKs := zLc
theorem zXJ : Sd Tryz.prog E0 (ztk zjz) := mkS (l := []) trivial Tryz.func51 (by kernel_rfl) (zXI K0)
section
def zLd : (zm × Unit) → Option ((List Int) × Unit) := fun (x0, ()) =>
  some (x0.2.2.2.2.2.2.2.2.1, ())
theorem zXK (K : Nat) : evF (En E0 false []) K Tryz.f52 0 zws zwt = zLd := funext fun (x0, ()) => by kernel_rfl
end
def zjA : zKt := zLd
theorem zXL : Sd Tryz.prog E0 (ztl zjA) := mkS (l := []) trivial Tryz.func52 (by kernel_rfl) (zXK K0)
section
def zFF : (Int × (Int × Unit)) → Option (Int × (Int × Unit)) := fun (x0, x1, ()) =>
  bif decide (0 ≤ x0) then bif decide (0 ≤ x1) then bif decide (x1 < 18446744073709551616) then bif zLF false x0 x1 != 0 then some (0, 6, ()) else some (zH7 false x0 x1, 0, ()) else none else none else none
theorem z2T (K : Nat) : evF (En E0 false []) K Tryz.f53 0 zC9 zDa = zFF := funext fun (x0, x1, ()) => by kernel_rfl
end
def zjB : zO9 := zFF
theorem z2U : Sd Tryz.prog E0 (zzt zjB) := mkS (l := []) trivial Tryz.func53 (by kernel_rfl) (z2T K0)
section
variable (zy : zc1) (zon : zKr) (zxO : zKs) (zxP : zKt) (zFG : zO9)
def zFH : (zf × (Int × Unit)) → Option (Int × (Int × Unit)) := fun (x0, x1, ()) =>
  Option.bind (zy (x1, ())) fun q0 => bif q0.1 then Option.bind (zon (x0, x1, some zxO, ())) fun q1 => bif q1.2.1 != 0 then some (0, q1.2.1, ()) else Option.bind (zon (x0, x1, some zxP, ())) fun q2 => bif q2.2.1 != 0 then some (0, q2.2.1, ()) else Option.bind (zFG (q1.1, q2.1, ())) fun q3 => some (q3.1, q3.2.1, ()) else some (0, 1, ())
theorem z2V (K : Nat) : evF (En E0 false [jF zy, ztj zon, ztk zxO, ztl zxP, zzt zFG]) K Tryz.f15 0 zCQ zCR = zFH zy zon zxO zxP zFG := funext fun (x0, x1, ()) => by kernel_rfl
end
def vl : zCS := zFH qp zjy zjz zjA zjB
theorem zQh : Sd Tryz.prog E0 (zkW vl) := mkS (l := [jF qp, ztj zjy, ztk zjz, ztl zjA, zzt zjB]) ⟨zfa, zXH, zXJ, zXL, z2U, trivial⟩ Tryz.func15 (by kernel_rfl) (z2V qp zjy zjz zjA zjB K0)
section
variable (jc : zCO) (je : zCS)
abbrev zk8 : Env := (En E0 false [zkV jc, zkW je])
abbrev zg0 : Type := Int × Int × (List zm) × Int × Int × qM
abbrev zHn : zg0 → St := fun (v3, v10, v15, v16, v17, o0) => St.mk [(1, AV.bp 0 []), (3, AV.dat tI v3), (10, AV.dat tI v10), (15, AV.dat (Ty.sl zo) v15), (16, AV.dat tI v16), (17, AV.dat tI v17)] [Obj.bx (AV.dat qX o0) false]
abbrev zbH : Type := Int × qM
abbrev zHo : zbH → St := fun (v10, o0) => St.mk [(1, AV.bp 0 []), (10, AV.dat tI v10)] [Obj.bx (AV.dat qX o0) false]
def zg1 (k0 : zbH → Option (Bool × Unit)) (k1 : zg0 → Option (Bool × Unit)) : zg0 → Option (Bool × Unit) := fun (v3, v10, v15, v16, v17, o0) =>
  bif decide (v17 < v16) then inR v17 ((List.length v15) : Int) (inR v3 (↑4 : Int) (inR v17 ((List.length o0.1.2.2.2.2.1) : Int) (bif decide (List.getD (ix za v15 v17).2.2.2.2.2.2.2.1 (Int.toNat v3) (0 : Int) > (ix jl o0.1.2.2.2.2.1 v17).2.2.2.2.2.1) then some (false, ()) else k1 (v3, v10, v15, v16, wI (v17 + 1), o0)))) else Option.bind (jc (o0.2.1, v3, ())) fun q0 => Option.bind (je (o0.2.1, v3, ())) fun q1 => bif q0.2.1 != 0 then some (false, ()) else bif q1.2.1 != 0 then some (false, ()) else bif q0.1 != q1.1 then some (false, ()) else k0 (wI (v10 + 1), o0)
abbrev zg2 (K : Nat) (k0 : zbH → Option (Bool × Unit)) : zg0 → Option (Bool × Unit) := iter (fun k1 => zg1 jc je k0 k1) K
theorem zVq (K : Nat) (n0 : Nat) : ∀ n, evV (zk8 jc je) K Tryz.f61 0 zdI [1, 0, 1, 0, 0, 1, 1, 0, 0, 1, 0, 1, 0] [n0] zHn n = iter (fun k1 => zg1 jc je (evV (zk8 jc je) K Tryz.f61 0 zdI [1, 0, 1, 0] [] zHo n0) k1) n := zp fun n1 (v3, v10, v15, v16, v17, o0) => by kernel_rfl
def zg3 (L1 : zg0 → Option (Bool × Unit)) (k0 : zbH → Option (Bool × Unit)) : zbH → Option (Bool × Unit) := fun (v10, o0) =>
  bif decide (v10 < 4) then L1 (v10, v10, o0.2.1.2.1, ((List.length o0.2.1.2.1) : Int), 0, o0) else some (true, ())
abbrev zHp (K : Nat) : zbH → Option (Bool × Unit) := iter (fun k0 => zg3 (zg2 jc je K k0) k0) K
theorem zVr (K : Nat) : ∀ n, evV (zk8 jc je) K Tryz.f61 0 zdI [1, 0, 1, 0] [] zHo n = iter (fun k0 => zg3 (zg2 jc je K k0) k0) n := vj (B := fun L1 k0 => zg3 L1 k0) (V1 := fun n0 => evV (zk8 jc je) K Tryz.f61 0 zdI [1, 0, 1, 0, 0, 1, 1, 0, 0, 1, 0, 1, 0] [n0] zHn K) (W1 := fun k0 => (zg2 jc je K k0)) (fun n0 => zVq jc je K n0 K) fun n0 (v10, o0) => by kernel_rfl
def zBf (L0 : zbH → Option (Bool × Unit)) : (qM × Unit) → Option (Bool × Unit) := fun (x0, ()) =>
  L0 (0, x0)
theorem zZV (K : Nat) : evF (zk8 jc je) K Tryz.f61 0 zzB zdI = zBf (zHp jc je K) := tr1 (T := zBf) (zVr jc je K K) fun (x0, ()) => by kernel_rfl
end
def zgp : zNb := zBf (zHp vk vl K0)
theorem zZW : Sd Tryz.prog E0 (zwC zgp) := mkS (l := [zkV vk, zkW vl]) ⟨zQg, zQh, trivial⟩ Tryz.func61 (by kernel_rfl) (zZV vk vl K0)
section
variable (zbZ : zM7) (zb0 : zM8) (zbg : zKu) (zb1 : zM9) (zbh : zKv) (zb2 : zNa) (zb3 : zNb)
abbrev zNP : Env := (En E0 false [zwv zbZ, zww zb0, ztm zbg, zwz zb1, ztn zbh, zwB zb2, zwC zb3])
abbrev zg4 : Type := Bool × Int × Int × List (Option (Unit → Option (Bool × Unit)))
abbrev zVs : zg4 → St := fun (v6, v27, v28, o0) => St.mk [(6, AV.dat Ty.bool v6), (26, AV.ow 0), (27, AV.dat tI v27), (28, AV.dat tI v28)] [Obj.row (Ty.fn Ty.unit (Ty.pair Ty.bool Ty.unit)) o0 false]
def zmC (k0 : zg4 → Option (Bool × Unit)) : zg4 → Option (Bool × Unit) := fun (v6, v27, v28, o0) =>
  bif decide (v28 < v27) then inR v28 ((List.length o0) : Int) (Option.bind (List.getD o0 (Int.toNat v28) (zb (Ty.fn Ty.unit (Ty.pair Ty.bool Ty.unit)))) fun q0 => Option.bind (q0 ()) fun q1 => bif q1.1 then k0 (true, v27, wI (v28 + 1), o0) else some (false, ())) else some (v6, ())
abbrev zHq (K : Nat) : zg4 → Option (Bool × Unit) := iter (zmC) K
theorem zVt (K : Nat) : ∀ n, evV (zNP zbZ zb0 zbg zb1 zbh zb2 zb3) K Tryz.f17 0 zqs [1, 0, 1, 1, 1, 0, 1, 0] [] zVs n = iter (zmC) n := zp fun n0 (v6, v27, v28, o0) => by kernel_rfl
def zBg (L0 : zg4 → Option (Bool × Unit)) : (ze × (zf × Unit)) → Option (Bool × Unit) := fun (x0, x1, ()) =>
  L0 (true, ((List.length (zk (zk (zk (zk (zk (zk (zk (List.replicate 7 (zb (Ty.fn Ty.unit (Ty.pair Ty.bool Ty.unit)))) 0 (some fun z => zbZ ((x0, x1, (zb qX).2.2), ()))) 1 (some fun z => zb0 ((x0, x1, (zb qX).2.2), ()))) 2 (some fun z => zbg ((x0, x1, (zb qX).2.2), ()))) 3 (some fun z => zb1 ((x0, x1, (zb qX).2.2), ()))) 4 (some fun z => zbh ((x0, x1, (zb qX).2.2), ()))) 5 (some fun z => zb2 ((x0, x1, (zb qX).2.2), ()))) 6 (some fun z => zb3 ((x0, x1, (zb qX).2.2), ())))) : Int), 0, [some fun z => zbZ ((x0, x1, (zb qX).2.2), ()), some fun z => zb0 ((x0, x1, (zb qX).2.2), ()), some fun z => zbg ((x0, x1, (zb qX).2.2), ()), some fun z => zb1 ((x0, x1, (zb qX).2.2), ()), some fun z => zbh ((x0, x1, (zb qX).2.2), ()), some fun z => zb2 ((x0, x1, (zb qX).2.2), ()), some fun z => zb3 ((x0, x1, (zb qX).2.2), ())])
theorem zZX (K : Nat) : evF (zNP zbZ zb0 zbg zb1 zbh zb2 zb3) K Tryz.f17 0 zza zqs = zBg zbZ zb0 zbg zb1 zbh zb2 zb3 (zHq K) := tr1 (T := zBg zbZ zb0 zbg zb1 zbh zb2 zb3) (zVt zbZ zb0 zbg zb1 zbh zb2 zb3 K K) fun (x0, x1, ()) => by kernel_rfl
end
def jg : zkX := zBg zdN zdO zcu zgm zcw zgn zgp (zHq K0)
theorem zqL : Sd Tryz.prog E0 (yQ jg) := mkS (l := [zwv zdN, zww zdO, ztm zcu, zwz zgm, ztn zcw, zwB zgn, zwC zgp]) ⟨zZu, zZC, zXz, zZM, zXB, zZO, zZW, trivial⟩ Tryz.func17 (by kernel_rfl) (zZX zdN zdO zcu zgm zcw zgn zgp K0)
section
variable (jw : zkX) (vZ : zqx)
def zLe : (ze × (zf × (qi × Unit))) → Option (Bool × Unit) := fun (x0, x1, x2, ()) =>
  Option.bind (jw (x0, x1, ())) fun q0 => bif q0.1 then Option.bind (vZ (x1, x2, ())) fun q1 => bif q1.1 then some (true, ()) else some (false, ()) else some (false, ())
theorem zXM (K : Nat) : evF (En E0 false [yQ jw, zcl vZ]) K Tryz.f18 0 zwe zwf = zLe jw vZ := funext fun (x0, x1, x2, ()) => by kernel_rfl
end
def zeG : zKm := zLe jg vG
theorem zXN : Sd Tryz.prog E0 (zta zeG) := mkS (l := [yQ jg, zcl vG]) ⟨zqL, zA8, trivial⟩ Tryz.func18 (by kernel_rfl) (zXM jg vG K0)
section
def zFI : ((List zH) × Unit) → Option ((List zH) × Unit) := fun (x0, ()) =>
  bif List.isEmpty x0 then both (some ([], ())) (bif decide (List.length (List.replicate 0 (zb zC)) + List.length x0 ≤ lim) then some (List.replicate 0 (zb zC) ++ x0, ()) else none) else bif decide (List.length (List.replicate 0 (zb zC)) + List.length x0 ≤ lim) then some (List.replicate 0 (zb zC) ++ x0, ()) else none
theorem zTf (K : Nat) : evF (En E0 false []) K Tryz.f67 1 zq6 zq7 = zFI := funext fun (x0, ()) => by kernel_rfl
end
def zcy : zDb := zFI
theorem zTg : Sd Tryz.prog E0 (zoW zcy) := mkS (l := []) trivial Tryz.func67 (by kernel_rfl) (zTf K0)
section
def zLf : ((List Int) × Unit) → Option ((List Int) × Unit) := fun (x0, ()) =>
  bif List.isEmpty x0 then both (some ([], ())) (bif decide (List.length (List.replicate 0 (0 : Int)) + List.length x0 ≤ lim) then some (List.replicate 0 (0 : Int) ++ x0, ()) else none) else bif decide (List.length (List.replicate 0 (0 : Int)) + List.length x0 ≤ lim) then some (List.replicate 0 (0 : Int) ++ x0, ()) else none
theorem zXO (K : Nat) : evF (En E0 false []) K Tryz.f68 1 zwG zwH = zLf := funext fun (x0, ()) => by kernel_rfl
end
def zbi : zKx := zLf
theorem zXP : Sd Tryz.prog E0 (ztp zbi) := mkS (l := []) trivial Tryz.func68 (by kernel_rfl) (zXO K0)
section
def zHr : ((List (List Int)) × Unit) → Option ((List (List Int)) × Unit) := fun (x0, ()) =>
  bif List.isEmpty x0 then both (some ([], ())) (bif decide (List.length (List.replicate 0 ([] : List Int)) + List.length x0 ≤ lim) then some (List.replicate 0 ([] : List Int) ++ x0, ()) else none) else bif decide (List.length (List.replicate 0 ([] : List Int)) + List.length x0 ≤ lim) then some (List.replicate 0 ([] : List Int) ++ x0, ()) else none
theorem zVu (K : Nat) : evF (En E0 false []) K Tryz.f69 1 ztq ztr = zHr := funext fun (x0, ()) => by kernel_rfl
end
def zdv : zGP := zHr
theorem zVv : Sd Tryz.prog E0 (zq8 zdv) := mkS (l := []) trivial Tryz.func69 (by kernel_rfl) (zVu K0)
section
def zFJ : ((List zm) × Unit) → Option ((List zm) × Unit) := fun (x0, ()) =>
  bif List.isEmpty x0 then both (some ([], ())) (bif decide (List.length (List.replicate 0 (zb zo)) + List.length x0 ≤ lim) then some (List.replicate 0 (zb zo) ++ x0, ()) else none) else bif decide (List.length (List.replicate 0 (zb zo)) + List.length x0 ≤ lim) then some (List.replicate 0 (zb zo) ++ x0, ()) else none
theorem zTh (K : Nat) : evF (En E0 false []) K Tryz.f70 1 zq9 zra = zFJ := funext fun (x0, ()) => by kernel_rfl
end
def zcz : zDc := zFJ
theorem zTi : Sd Tryz.prog E0 (zoX zcz) := mkS (l := []) trivial Tryz.func70 (by kernel_rfl) (zTh K0)
section
def zHs : ((List jK) × Unit) → Option ((List jK) × Unit) := fun (x0, ()) =>
  bif List.isEmpty x0 then both (some ([], ())) (bif decide (List.length (List.replicate 0 (zb jz)) + List.length x0 ≤ lim) then some (List.replicate 0 (zb jz) ++ x0, ()) else none) else bif decide (List.length (List.replicate 0 (zb jz)) + List.length x0 ≤ lim) then some (List.replicate 0 (zb jz) ++ x0, ()) else none
theorem zVw (K : Nat) : evF (En E0 false []) K Tryz.f71 1 zts ztt = zHs := funext fun (x0, ()) => by kernel_rfl
end
def zdw : zGQ := zHs
theorem zVx : Sd Tryz.prog E0 (zrb zdw) := mkS (l := []) trivial Tryz.func71 (by kernel_rfl) (zVw K0)
section
def zHt : ((List qd) × Unit) → Option ((List qd) × Unit) := fun (x0, ()) =>
  bif List.isEmpty x0 then both (some ([], ())) (bif decide (List.length (List.replicate 0 (zb qt)) + List.length x0 ≤ lim) then some (List.replicate 0 (zb qt) ++ x0, ()) else none) else bif decide (List.length (List.replicate 0 (zb qt)) + List.length x0 ≤ lim) then some (List.replicate 0 (zb qt) ++ x0, ()) else none
theorem zVy (K : Nat) : evF (En E0 false []) K Tryz.f72 1 ztu ztv = zHt := funext fun (x0, ()) => by kernel_rfl
end
def zdx : zGR := zHt
theorem zVz : Sd Tryz.prog E0 (zrc zdx) := mkS (l := []) trivial Tryz.func72 (by kernel_rfl) (zVy K0)
section
def zHu : ((List qb) × Unit) → Option ((List qb) × Unit) := fun (x0, ()) =>
  bif List.isEmpty x0 then both (some ([], ())) (bif decide (List.length (List.replicate 0 (zb zW)) + List.length x0 ≤ lim) then some (List.replicate 0 (zb zW) ++ x0, ()) else none) else bif decide (List.length (List.replicate 0 (zb zW)) + List.length x0 ≤ lim) then some (List.replicate 0 (zb zW) ++ x0, ()) else none
theorem zVA (K : Nat) : evF (En E0 false []) K Tryz.f73 1 ztw ztx = zHu := funext fun (x0, ()) => by kernel_rfl
end
def zdy : zGS := zHu
theorem zVB : Sd Tryz.prog E0 (zrd zdy) := mkS (l := []) trivial Tryz.func73 (by kernel_rfl) (zVA K0)
section
def zHv : ((List qy) × Unit) → Option ((List qy) × Unit) := fun (x0, ()) =>
  bif List.isEmpty x0 then both (some ([], ())) (bif decide (List.length (List.replicate 0 (zb qA)) + List.length x0 ≤ lim) then some (List.replicate 0 (zb qA) ++ x0, ()) else none) else bif decide (List.length (List.replicate 0 (zb qA)) + List.length x0 ≤ lim) then some (List.replicate 0 (zb qA) ++ x0, ()) else none
theorem zVC (K : Nat) : evF (En E0 false []) K Tryz.f74 1 zty ztz = zHv := funext fun (x0, ()) => by kernel_rfl
end
def zdz : zGT := zHv
theorem zVD : Sd Tryz.prog E0 (zre zdz) := mkS (l := []) trivial Tryz.func74 (by kernel_rfl) (zVC K0)
section
def zNQ : ((List (List Int)) × Unit) → Option ((List (List Int)) × Unit) := fun (x0, ()) =>
  bif List.isEmpty x0 then both (some ([], ())) (bif decide (List.length (List.replicate 0 (zb (Ty.arr 4 tU))) + List.length x0 ≤ lim) then some (List.replicate 0 (zb (Ty.arr 4 tU)) ++ x0, ()) else none) else bif decide (List.length (List.replicate 0 (zb (Ty.arr 4 tU))) + List.length x0 ≤ lim) then some (List.replicate 0 (zb (Ty.arr 4 tU)) ++ x0, ()) else none
theorem zZY (K : Nat) : evF (En E0 false []) K Tryz.f76 1 zzG zzH = zNQ := funext fun (x0, ()) => by kernel_rfl
end
def zgq : zNd := zNQ
theorem zZZ : Sd Tryz.prog E0 (zwI zgq) := mkS (l := []) trivial Tryz.func76 (by kernel_rfl) (zZY K0)
section
def zLg : ((List qi) × Unit) → Option ((List qi) × Unit) := fun (x0, ()) =>
  bif List.isEmpty x0 then both (some ([], ())) (bif decide (List.length (List.replicate 0 (zb z5)) + List.length x0 ≤ lim) then some (List.replicate 0 (zb z5) ++ x0, ()) else none) else bif decide (List.length (List.replicate 0 (zb z5)) + List.length x0 ≤ lim) then some (List.replicate 0 (zb z5) ++ x0, ()) else none
theorem zXQ (K : Nat) : evF (En E0 false []) K Tryz.f77 1 zwJ zwK = zLg := funext fun (x0, ()) => by kernel_rfl
end
def zeH : zKy := zLg
theorem zXR : Sd Tryz.prog E0 (ztA zeH) := mkS (l := []) trivial Tryz.func77 (by kernel_rfl) (zXQ K0)
section
variable (jb : zq5) (vz : zDb) (ju : zKx) (vR : zGP) (jG : zDc) (jo : zGQ) (jp : zGR) (jq : zGS) (jr : zGT) (qn : zrh) (jO : zNd) (jC : zKy)
abbrev zqM : Env := (En E0 true [zdW jb, zoW vz, ztp ju, zq8 vR, zoX jG, zrb jo, zrc jp, zrd jq, zre jr, zdX qn, zwI jO, ztA jC])
abbrev zg5 : Type := Int × Int × Int × Int × List zm × Nat × List (List Int) × Nat × List zj × List zH × List Int × List zm × Nat × List (List Int) × Nat × List zj × List zH × List Int
abbrev zHw : zg5 → St := fun (v44, v45, o0_0, o1_0, o2, c2, o3, c3, o4, o5, o6, o7, c7, o8, c8, o9, o10, o11) => St.mk [(1, AV.bp 0 []), (2, AV.bp 1 []), (43, AV.ow 2), (44, AV.dat tI v44), (45, AV.dat tI v45)] [Obj.bx (AV.fld (Ty.pair tU (Ty.pair (Ty.sl zo) (Ty.pair (Ty.sl (Ty.sl tI)) (Ty.pair (Ty.sl zw) (Ty.pair (Ty.sl zC) (Ty.pair (Ty.sl tI) Ty.unit)))))) [AV.dat tU o0_0, AV.ow 2, AV.ow 3, AV.ow 4, AV.ow 5, AV.ow 6]) false, Obj.bx (AV.fld (Ty.pair tU (Ty.pair (Ty.sl zo) (Ty.pair (Ty.sl (Ty.sl tI)) (Ty.pair (Ty.sl zw) (Ty.pair (Ty.sl zC) (Ty.pair (Ty.sl tI) Ty.unit)))))) [AV.dat tU o1_0, AV.ow 7, AV.ow 8, AV.ow 9, AV.ow 10, AV.ow 11]) false, Obj.drow zo o2 c2, Obj.drow (Ty.sl tI) o3 c3, Obj.row zw o4 false, Obj.row zC o5 false, Obj.row tI o6 false, Obj.drow zo o7 c7, Obj.drow (Ty.sl tI) o8 c8, Obj.row zw o9 false, Obj.row zC o10 false, Obj.row tI o11 false]
abbrev zg6 : Type := Int × Int × Int × (List zm) × Int × List (List Int) × Nat × List zj × List zH × List Int × List zm × Nat × List (List Int) × Nat × List zj × List zH × List Int
abbrev zVE : zg6 → St := fun (v25, v26, o0_0, o0_1, o1_0, o2, c2, o3, o4, o5, o6, c6, o7, c7, o8, o9, o10) => St.mk [(1, AV.bp 0 []), (2, AV.bp 1 []), (24, AV.ow 2), (25, AV.dat tI v25), (26, AV.dat tI v26)] [Obj.bx (AV.fld (Ty.pair tU (Ty.pair (Ty.sl zo) (Ty.pair (Ty.sl (Ty.sl tI)) (Ty.pair (Ty.sl zw) (Ty.pair (Ty.sl zC) (Ty.pair (Ty.sl tI) Ty.unit)))))) [AV.dat tU o0_0, AV.dat (Ty.sl zo) o0_1, AV.ow 2, AV.ow 3, AV.ow 4, AV.ow 5]) false, Obj.bx (AV.fld (Ty.pair tU (Ty.pair (Ty.sl zo) (Ty.pair (Ty.sl (Ty.sl tI)) (Ty.pair (Ty.sl zw) (Ty.pair (Ty.sl zC) (Ty.pair (Ty.sl tI) Ty.unit)))))) [AV.dat tU o1_0, AV.ow 6, AV.ow 7, AV.ow 8, AV.ow 9, AV.ow 10]) false, Obj.drow (Ty.sl tI) o2 c2, Obj.row zw o3 false, Obj.row zC o4 false, Obj.row tI o5 false, Obj.drow zo o6 c6, Obj.drow (Ty.sl tI) o7 c7, Obj.row zw o8 false, Obj.row zC o9 false, Obj.row tI o10 false]
def zHx (k1 : zg5 → Option (zf × Unit)) : zg5 → Option (zf × Unit) := fun (v44, v45, o0_0, o1_0, o2, c2, o3, c3, o4, o5, o6, o7, c7, o8, c8, o9, o10, o11) =>
  bif decide (v45 < v44) then inR v45 ((List.length o2) : Int) (bif decide (c2 ≤ Int.toNat v45) then Option.bind (jo ((ix za o2 v45).1, ())) fun q6 => Option.bind (jp ((ix za o2 v45).2.1, ())) fun q7 => Option.bind (jq ((ix za o2 v45).2.2.1, ())) fun q8 => Option.bind (jr ((ix za o2 v45).2.2.2.1, ())) fun q9 => Option.bind (qn ((ix za o2 v45).2.2.2.2.1, ())) fun q10 => Option.bind (jO ((ix za o2 v45).2.2.2.2.2.1, ())) fun q11 => Option.bind (jC ((ix za o2 v45).2.2.2.2.2.2.1, ())) fun q12 => inR v45 ((List.length o2) : Int) (bif decide (Int.toNat v45 = c2) then k1 (v44, wI (v45 + 1), o0_0, o1_0, List.set o2 (Int.toNat v45) (q6.1, q7.1, q8.1, q9.1, q10.1, q11.1, q12.1, (ix za o2 v45).2.2.2.2.2.2.2.1, (ix za o2 v45).2.2.2.2.2.2.2.2.1, ()), c2 + 1, o3, c3, o4, o5, o6, o7, c7, o8, c8, o9, o10, o11) else none) else none) else bif decide (c2 = List.length o2) then bif decide (c3 = List.length o3) then some ((o0_0, o2, o3, o4, o5, o6, ()), ()) else none else none
abbrev zu5 (K : Nat) : zg5 → Option (zf × Unit) := iter (zHx jo jp jq jr qn jO jC) K
theorem zVF (K : Nat) : ∀ n, evV (zqM jb vz ju vR jG jo jp jq jr qn jO jC) K Tryz.f23 3 zge [1, 1, 1, 1, 1, 0, 1, 0] [] zHw n = iter (zHx jo jp jq jr qn jO jC) n := zp fun n1 (v44, v45, o0_0, o1_0, o2, c2, o3, c3, o4, o5, o6, o7, c7, o8, c8, o9, o10, o11) => by kernel_rfl
def zu6 (L1 : zg5 → Option (zf × Unit)) (k0 : zg6 → Option (zf × Unit)) : zg6 → Option (zf × Unit) := fun (v25, v26, o0_0, o0_1, o1_0, o2, c2, o3, o4, o5, o6, c6, o7, c7, o8, o9, o10) =>
  bif decide (v26 < v25) then inR v26 ((List.length o2) : Int) (bif decide (c2 ≤ Int.toNat v26) then Option.bind (ju (List.getD o2 (Int.toNat v26) ([] : List Int), ())) fun q4 => inR v26 ((List.length o2) : Int) (bif decide (Int.toNat v26 = c2) then k0 (v25, wI (v26 + 1), o0_0, o0_1, o1_0, List.set o2 (Int.toNat v26) q4.1, c2 + 1, o3, o4, o5, o6, c6, o7, c7, o8, o9, o10) else none) else none) else Option.bind (jG (o0_1, ())) fun q5 => L1 (((List.length q5.1) : Int), 0, o0_0, o1_0, q5.1, 0, o2, c2, o3, o4, o5, o6, c6, o7, c7, o8, o9, o10)
abbrev zmD (K : Nat) : zg6 → Option (zf × Unit) := iter (fun k0 => zu6 ju jG (zu5 jo jp jq jr qn jO jC K) k0) K
theorem zVG (K : Nat) : ∀ n, evV (zqM jb vz ju vR jG jo jp jq jr qn jO jC) K Tryz.f23 3 zge [1, 1, 1, 0, 1, 0] [] zVE n = iter (fun k0 => zu6 ju jG (zu5 jo jp jq jr qn jO jC K) k0) n := vj (B := fun L1 k0 => zu6 ju jG L1 k0) (V1 := fun n0 => evV (zqM jb vz ju vR jG jo jp jq jr qn jO jC) K Tryz.f23 3 zge [1, 1, 1, 1, 1, 0, 1, 0] [] zHw K) (W1 := fun k0 => (zu5 jo jp jq jr qn jO jC K)) (fun n0 => zVF jb vz ju vR jG jo jp jq jr qn jO jC K K) fun n0 (v25, v26, o0_0, o0_1, o1_0, o2, c2, o3, o4, o5, o6, c6, o7, c7, o8, o9, o10) => by kernel_rfl
def zk9 (L0 : zg6 → Option (zf × Unit)) : (zf × Unit) → Option (zf × Unit) := fun (x0, ()) =>
  Option.bind (jb (x0.2.2.2.1, ())) fun q0 => Option.bind (vz (x0.2.2.2.2.1, ())) fun q1 => Option.bind (ju (x0.2.2.2.2.2.1, ())) fun q2 => Option.bind (vR (x0.2.2.1, ())) fun q3 => L0 (((List.length q3.1) : Int), 0, x0.1, x0.2.1, 0, q3.1, 0, q0.1, q1.1, q2.1, [], 0, [], 0, [], [], [])
theorem zZ0 (K : Nat) : evF (zqM jb vz ju vR jG jo jp jq jr qn jO jC) K Tryz.f23 3 zzg zge = zk9 jb vz ju vR (zmD ju jG jo jp jq jr qn jO jC K) := tr1 (T := zk9 jb vz ju vR) (zVG jb vz ju vR jG jo jp jq jr qn jO jC K K) fun (x0, ()) => by kernel_rfl
end
def zdR : zzh := zk9 vy zcy zbi zdv (zmD zbi zcz zdw zdx zdy zdz vx zgq zeH K0)
theorem zZ1 : Sd Tryz.prog E0 (zwh zdR) := mkS (l := [zdW vy, zoW zcy, ztp zbi, zq8 zdv, zoX zcz, zrb zdw, zrc zdx, zrd zdy, zre zdz, zdX vx, zwI zgq, ztA zeH]) ⟨zFz, zTg, zXP, zVv, zTi, zVx, zVz, zVB, zVD, zFu, zZZ, zXR, trivial⟩ Tryz.func23 (by kernel_rfl) (zZ0 vy zcy zbi zdv zcz zdw zdx zdy zdz vx zgq zeH K0)
section
abbrev zu7 : Env := (En E0 false [])
abbrev zaB : Type := (List zm) × (Option ((zm × (zm × Unit)) → Option (Bool × Unit))) × (List zm) × Int × Int
abbrev zJP : zaB → St := fun (v1, v2, v15, v16, v17) => St.mk [(1, AV.dat (Ty.sl zo) v1), (2, AV.dat (Ty.fn (Ty.pair zo (Ty.pair zo Ty.unit)) (Ty.pair Ty.bool Ty.unit)) v2), (15, AV.dat (Ty.sl zo) v15), (16, AV.dat tI v16), (17, AV.dat tI v17)] []
def zqh (k0 : zaB → Option (Bool × Unit)) : zaB → Option (Bool × Unit) := fun (v1, v2, v15, v16, v17) =>
  bif decide (v17 < v16) then inR v17 ((List.length v15) : Int) (inR v17 ((List.length v1) : Int) (Option.bind v2 fun q0 => Option.bind (q0 (ix za v15 v17, ix za v1 v17, ())) fun q1 => bif q1.1 then k0 (v1, v2, v15, v16, wI (v17 + 1)) else some (false, ()))) else some (true, ())
abbrev zqi (K : Nat) : zaB → Option (Bool × Unit) := iter (zqh) K
theorem zJQ (K : Nat) : ∀ n, evV (zu7) K Tryz.f78 0 zef [1, 1, 0, 1, 0] [] zJP n = iter (zqh) n := zp fun n0 (v1, v2, v15, v16, v17) => by kernel_rfl
def zkH (L0 : zaB → Option (Bool × Unit)) : ((List zm) × ((List zm) × ((Option ((zm × (zm × Unit)) → Option (Bool × Unit))) × Unit))) → Option (Bool × Unit) := fun (x0, x1, x2, ()) =>
  bif ((List.length x0) : Int) != ((List.length x1) : Int) then some (false, ()) else L0 (x1, x2, x0, ((List.length x0) : Int), 0)
theorem zMI (K : Nat) : evF (zu7) K Tryz.f78 0 zj0 zef = zkH (zqi K) := tr1 (T := zkH) (zJQ K K) fun (x0, x1, x2, ()) => by kernel_rfl
end
def zep : ztB := zkH (zqi K0)
theorem zMJ : Sd Tryz.prog E0 (ziP zep) := mkS (l := []) trivial Tryz.func78 (by kernel_rfl) (zMI K0)
section
abbrev zHy : Env := (En E0 false [])
abbrev zd7 : Type := (List jK) × (List jK) × Int × Int
abbrev zRh : zd7 → St := fun (v0, v1, v12, v13) => St.mk [(0, AV.dat (Ty.sl jz) v0), (1, AV.dat (Ty.sl jz) v1), (12, AV.dat tI v12), (13, AV.dat tI v13)] []
def zB5 (k0 : zd7 → Option (Bool × Unit)) : zd7 → Option (Bool × Unit) := fun (v0, v1, v12, v13) =>
  bif decide (v13 < v12) then inR v13 ((List.length v0) : Int) (inR v13 ((List.length v1) : Int) (bif !eqI jz (ix zqq v0 v13) (ix zqq v1 v13) then some (false, ()) else k0 (v0, v1, v12, wI (v13 + 1)))) else some (true, ())
abbrev zB6 (K : Nat) : zd7 → Option (Bool × Unit) := iter (zB5) K
theorem zRi (K : Nat) : ∀ n, evV (zHy) K Tryz.f162 0 zms [1, 1, 0, 1, 0] [] zRh n = iter (zB5) n := zp fun n0 (v0, v1, v12, v13) => by kernel_rfl
def zu8 (L0 : zd7 → Option (Bool × Unit)) : ((List jK) × ((List jK) × Unit)) → Option (Bool × Unit) := fun (x0, x1, ()) =>
  bif ((List.length x0) : Int) != ((List.length x1) : Int) then some (false, ()) else L0 (x0, x1, ((List.length x0) : Int), 0)
theorem zVH (K : Nat) : evF (zHy) K Tryz.f162 0 zt3 zms = zu8 (zB6 K) := tr1 (T := zu8) (zRi K K) fun (x0, x1, ()) => by kernel_rfl
end
def zmE : zG1 := zu8 (zB6 K0)
theorem zVI : Sd Tryz.prog E0 (zrR zmE) := mkS (l := []) trivial Tryz.func162 (by kernel_rfl) (zVH K0)
section
abbrev zHz : Env := (En E0 false [])
abbrev zd8 : Type := (List qd) × (List qd) × Int × Int
abbrev zRj : zd8 → St := fun (v0, v1, v12, v13) => St.mk [(0, AV.dat (Ty.sl qt) v0), (1, AV.dat (Ty.sl qt) v1), (12, AV.dat tI v12), (13, AV.dat tI v13)] []
def zB7 (k0 : zd8 → Option (Bool × Unit)) : zd8 → Option (Bool × Unit) := fun (v0, v1, v12, v13) =>
  bif decide (v13 < v12) then inR v13 ((List.length v0) : Int) (inR v13 ((List.length v1) : Int) (bif !eqI qt (ix qG v0 v13) (ix qG v1 v13) then some (false, ()) else k0 (v0, v1, v12, wI (v13 + 1)))) else some (true, ())
abbrev zB8 (K : Nat) : zd8 → Option (Bool × Unit) := iter (zB7) K
theorem zRk (K : Nat) : ∀ n, evV (zHz) K Tryz.f163 0 zmt [1, 1, 0, 1, 0] [] zRj n = iter (zB7) n := zp fun n0 (v0, v1, v12, v13) => by kernel_rfl
def zu9 (L0 : zd8 → Option (Bool × Unit)) : ((List qd) × ((List qd) × Unit)) → Option (Bool × Unit) := fun (x0, x1, ()) =>
  bif ((List.length x0) : Int) != ((List.length x1) : Int) then some (false, ()) else L0 (x0, x1, ((List.length x0) : Int), 0)
theorem zVJ (K : Nat) : evF (zHz) K Tryz.f163 0 zt4 zmt = zu9 (zB8 K) := tr1 (T := zu9) (zRk K K) fun (x0, x1, ()) => by kernel_rfl
end
def zmF : zG2 := zu9 (zB8 K0)
theorem zVK : Sd Tryz.prog E0 (zrS zmF) := mkS (l := []) trivial Tryz.func163 (by kernel_rfl) (zVJ K0)
section
abbrev zHA : Env := (En E0 false [])
abbrev zd9 : Type := (List qb) × (List qb) × Int × Int
abbrev zRl : zd9 → St := fun (v0, v1, v12, v13) => St.mk [(0, AV.dat (Ty.sl zW) v0), (1, AV.dat (Ty.sl zW) v1), (12, AV.dat tI v12), (13, AV.dat tI v13)] []
def zB9 (k0 : zd9 → Option (Bool × Unit)) : zd9 → Option (Bool × Unit) := fun (v0, v1, v12, v13) =>
  bif decide (v13 < v12) then inR v13 ((List.length v0) : Int) (inR v13 ((List.length v1) : Int) (bif !eqI zW (ix zJ v0 v13) (ix zJ v1 v13) then some (false, ()) else k0 (v0, v1, v12, wI (v13 + 1)))) else some (true, ())
abbrev zCa (K : Nat) : zd9 → Option (Bool × Unit) := iter (zB9) K
theorem zRm (K : Nat) : ∀ n, evV (zHA) K Tryz.f164 0 zmu [1, 1, 0, 1, 0] [] zRl n = iter (zB9) n := zp fun n0 (v0, v1, v12, v13) => by kernel_rfl
def zva (L0 : zd9 → Option (Bool × Unit)) : ((List qb) × ((List qb) × Unit)) → Option (Bool × Unit) := fun (x0, x1, ()) =>
  bif ((List.length x0) : Int) != ((List.length x1) : Int) then some (false, ()) else L0 (x0, x1, ((List.length x0) : Int), 0)
theorem zVL (K : Nat) : evF (zHA) K Tryz.f164 0 zt5 zmu = zva (zCa K) := tr1 (T := zva) (zRm K K) fun (x0, x1, ()) => by kernel_rfl
end
def zmG : zG3 := zva (zCa K0)
theorem zVM : Sd Tryz.prog E0 (zrT zmG) := mkS (l := []) trivial Tryz.func164 (by kernel_rfl) (zVL K0)
section
abbrev zHB : Env := (En E0 false [])
abbrev zea : Type := (List qy) × (List qy) × Int × Int
abbrev zRn : zea → St := fun (v0, v1, v12, v13) => St.mk [(0, AV.dat (Ty.sl qA) v0), (1, AV.dat (Ty.sl qA) v1), (12, AV.dat tI v12), (13, AV.dat tI v13)] []
def zCb (k0 : zea → Option (Bool × Unit)) : zea → Option (Bool × Unit) := fun (v0, v1, v12, v13) =>
  bif decide (v13 < v12) then inR v13 ((List.length v0) : Int) (inR v13 ((List.length v1) : Int) (bif !eqI qA (ix zfG v0 v13) (ix zfG v1 v13) then some (false, ()) else k0 (v0, v1, v12, wI (v13 + 1)))) else some (true, ())
abbrev zCc (K : Nat) : zea → Option (Bool × Unit) := iter (zCb) K
theorem zRo (K : Nat) : ∀ n, evV (zHB) K Tryz.f165 0 zmv [1, 1, 0, 1, 0] [] zRn n = iter (zCb) n := zp fun n0 (v0, v1, v12, v13) => by kernel_rfl
def zvb (L0 : zea → Option (Bool × Unit)) : ((List qy) × ((List qy) × Unit)) → Option (Bool × Unit) := fun (x0, x1, ()) =>
  bif ((List.length x0) : Int) != ((List.length x1) : Int) then some (false, ()) else L0 (x0, x1, ((List.length x0) : Int), 0)
theorem zVN (K : Nat) : evF (zHB) K Tryz.f165 0 zt6 zmv = zvb (zCc K) := tr1 (T := zvb) (zRo K K) fun (x0, x1, ()) => by kernel_rfl
end
def zmH : zG4 := zvb (zCc K0)
theorem zVO : Sd Tryz.prog E0 (zrU zmH) := mkS (l := []) trivial Tryz.func165 (by kernel_rfl) (zVN K0)
section
abbrev zFK : Env := (En E0 false [])
abbrev zdb : Type := (List zn) × (List zn) × Int × Int
abbrev zQi : zdb → St := fun (v0, v1, v12, v13) => St.mk [(0, AV.dat (Ty.sl zB) v0), (1, AV.dat (Ty.sl zB) v1), (12, AV.dat tI v12), (13, AV.dat tI v13)] []
def zyP (k0 : zdb → Option (Bool × Unit)) : zdb → Option (Bool × Unit) := fun (v0, v1, v12, v13) =>
  bif decide (v13 < v12) then inR v13 ((List.length v0) : Int) (inR v13 ((List.length v1) : Int) (bif !eqI zB (ix qe v0 v13) (ix qe v1 v13) then some (false, ()) else k0 (v0, v1, v12, wI (v13 + 1)))) else some (true, ())
abbrev zyQ (K : Nat) : zdb → Option (Bool × Unit) := iter (zyP) K
theorem zQj (K : Nat) : ∀ n, evV (zFK) K Tryz.f166 0 zj4 [1, 1, 0, 1, 0] [] zQi n = iter (zyP) n := zp fun n0 (v0, v1, v12, v13) => by kernel_rfl
def zsx (L0 : zdb → Option (Bool × Unit)) : ((List zn) × ((List zn) × Unit)) → Option (Bool × Unit) := fun (x0, x1, ()) =>
  bif ((List.length x0) : Int) != ((List.length x1) : Int) then some (false, ()) else L0 (x0, x1, ((List.length x0) : Int), 0)
theorem zTj (K : Nat) : evF (zFK) K Tryz.f166 0 zrV zj4 = zsx (zyQ K) := tr1 (T := zsx) (zQj K K) fun (x0, x1, ()) => by kernel_rfl
end
def zkI : zDM := zsx (zyQ K0)
theorem zTk : Sd Tryz.prog E0 (zpm zkI) := mkS (l := []) trivial Tryz.func166 (by kernel_rfl) (zTj K0)
section
abbrev zNR : Env := (En E0 false [])
abbrev zg7 : Type := (List (List Int)) × (List (List Int)) × Int × Int
abbrev zVP : zg7 → St := fun (v0, v1, v12, v13) => St.mk [(0, AV.dat (Ty.sl (Ty.arr 4 tU)) v0), (1, AV.dat (Ty.sl (Ty.arr 4 tU)) v1), (12, AV.dat tI v12), (13, AV.dat tI v13)] []
def zHC (k0 : zg7 → Option (Bool × Unit)) : zg7 → Option (Bool × Unit) := fun (v0, v1, v12, v13) =>
  bif decide (v13 < v12) then inR v13 ((List.length v0) : Int) (inR v13 ((List.length v1) : Int) (bif !eqI (Ty.arr 4 tU) (List.getD v0 (Int.toNat v13) (zb (Ty.arr 4 tU))) (List.getD v1 (Int.toNat v13) (zb (Ty.arr 4 tU))) then some (false, ()) else k0 (v0, v1, v12, wI (v13 + 1)))) else some (true, ())
abbrev zHD (K : Nat) : zg7 → Option (Bool × Unit) := iter (zHC) K
theorem zVQ (K : Nat) : ∀ n, evV (zNR) K Tryz.f167 0 zqI [1, 1, 0, 1, 0] [] zVP n = iter (zHC) n := zp fun n0 (v0, v1, v12, v13) => by kernel_rfl
def zBh (L0 : zg7 → Option (Bool × Unit)) : ((List (List Int)) × ((List (List Int)) × Unit)) → Option (Bool × Unit) := fun (x0, x1, ()) =>
  bif ((List.length x0) : Int) != ((List.length x1) : Int) then some (false, ()) else L0 (x0, x1, ((List.length x0) : Int), 0)
theorem zZ2 (K : Nat) : evF (zNR) K Tryz.f167 0 zAo zqI = zBh (zHD K) := tr1 (T := zBh) (zVQ K K) fun (x0, x1, ()) => by kernel_rfl
end
def zqN : zNw := zBh (zHD K0)
theorem zZ3 : Sd Tryz.prog E0 (zw8 zqN) := mkS (l := []) trivial Tryz.func167 (by kernel_rfl) (zZ2 K0)
section
abbrev zLh : Env := (En E0 false [])
abbrev zfh : Type := (List qi) × (List qi) × Int × Int
abbrev zTl : zfh → St := fun (v0, v1, v12, v13) => St.mk [(0, AV.dat (Ty.sl y5) v0), (1, AV.dat (Ty.sl y5) v1), (12, AV.dat tI v12), (13, AV.dat tI v13)] []
def zFL (k0 : zfh → Option (Bool × Unit)) : zfh → Option (Bool × Unit) := fun (v0, v1, v12, v13) =>
  bif decide (v13 < v12) then inR v13 ((List.length v0) : Int) (inR v13 ((List.length v1) : Int) (bif !eqI y5 (ix jA v0 v13) (ix jA v1 v13) then some (false, ()) else k0 (v0, v1, v12, wI (v13 + 1)))) else some (true, ())
abbrev zFM (K : Nat) : zfh → Option (Bool × Unit) := iter (zFL) K
theorem zTm (K : Nat) : ∀ n, evV (zLh) K Tryz.f168 0 zod [1, 1, 0, 1, 0] [] zTl n = iter (zFL) n := zp fun n0 (v0, v1, v12, v13) => by kernel_rfl
def zxQ (L0 : zfh → Option (Bool × Unit)) : ((List qi) × ((List qi) × Unit)) → Option (Bool × Unit) := fun (x0, x1, ()) =>
  bif ((List.length x0) : Int) != ((List.length x1) : Int) then some (false, ()) else L0 (x0, x1, ((List.length x0) : Int), 0)
theorem zXS (K : Nat) : evF (zLh) K Tryz.f168 0 zw9 zod = zxQ (zFM K) := tr1 (T := zxQ) (zTm K K) fun (x0, x1, ()) => by kernel_rfl
end
def zoo : zKE := zxQ (zFM K0)
theorem zXT : Sd Tryz.prog E0 (zt7 zoo) := mkS (l := []) trivial Tryz.func168 (by kernel_rfl) (zXS K0)
section
variable (zvc : zG1) (zvd : zG2) (zve : zG3) (zvf : zG4) (zsy : zDM) (zBi : zNw) (zxR : zKE)
def zCd : (zm × (zm × Unit)) → Option (Bool × Unit) := fun (x0, x1, ()) =>
  Option.bind (zvc (x0.1, x1.1, ())) fun q0 => bif q0.1 then Option.bind (zvd (x0.2.1, x1.2.1, ())) fun q1 => bif q1.1 then Option.bind (zve (x0.2.2.1, x1.2.2.1, ())) fun q2 => bif q2.1 then Option.bind (zvf (x0.2.2.2.1, x1.2.2.2.1, ())) fun q3 => bif q3.1 then Option.bind (zsy (x0.2.2.2.2.1, x1.2.2.2.2.1, ())) fun q4 => bif q4.1 then Option.bind (zBi (x0.2.2.2.2.2.1, x1.2.2.2.2.2.1, ())) fun q5 => bif q5.1 then Option.bind (zxR (x0.2.2.2.2.2.2.1, x1.2.2.2.2.2.2.1, ())) fun q6 => bif q6.1 then bif eqI (Ty.arr 4 tU) x0.2.2.2.2.2.2.2.1 x1.2.2.2.2.2.2.2.1 then bif eqI (Ty.arr 4 tU) x0.2.2.2.2.2.2.2.2.1 x1.2.2.2.2.2.2.2.2.1 then some (true, ()) else some (false, ()) else some (false, ()) else some (false, ()) else some (false, ()) else some (false, ()) else some (false, ()) else some (false, ()) else some (false, ()) else some (false, ())
theorem zRp (K : Nat) : evF (En E0 false [zrR zvc, zrS zvd, zrT zve, zrU zvf, zpm zsy, zw8 zBi, zt7 zxR]) K Tryz.f79 0 zoY zoZ = zCd zvc zvd zve zvf zsy zBi zxR := funext fun (x0, x1, ()) => by kernel_rfl
end
def ziD : zBJ := zCd zmE zmF zmG zmH zkI zqN zoo
theorem zRq : Sd Tryz.prog E0 (zmZ ziD) := mkS (l := [zrR zmE, zrS zmF, zrT zmG, zrU zmH, zpm zkI, zw8 zqN, zt7 zoo]) ⟨zVI, zVK, zVM, zVO, zTk, zZ3, zXT, trivial⟩ Tryz.func79 (by kernel_rfl) (zRp zmE zmF zmG zmH zkI zqN zoo K0)
section
abbrev zv5 : Env := (En E0 false [])
abbrev zbj : Type := (List (List Int)) × (Option (((List Int) × ((List Int) × Unit)) → Option (Bool × Unit))) × (List (List Int)) × Int × Int
abbrev zLi : zbj → St := fun (v1, v2, v15, v16, v17) => St.mk [(1, AV.dat (Ty.sl (Ty.sl tI)) v1), (2, AV.dat (Ty.fn (Ty.pair (Ty.sl tI) (Ty.pair (Ty.sl tI) Ty.unit)) (Ty.pair Ty.bool Ty.unit)) v2), (15, AV.dat (Ty.sl (Ty.sl tI)) v15), (16, AV.dat tI v16), (17, AV.dat tI v17)] []
def zsY (k0 : zbj → Option (Bool × Unit)) : zbj → Option (Bool × Unit) := fun (v1, v2, v15, v16, v17) =>
  bif decide (v17 < v16) then inR v17 ((List.length v15) : Int) (inR v17 ((List.length v1) : Int) (Option.bind v2 fun q0 => Option.bind (q0 (List.getD v15 (Int.toNat v17) ([] : List Int), List.getD v1 (Int.toNat v17) ([] : List Int), ())) fun q1 => bif q1.1 then k0 (v1, v2, v15, v16, wI (v17 + 1)) else some (false, ()))) else some (true, ())
abbrev zsZ (K : Nat) : zbj → Option (Bool × Unit) := iter (zsY) K
theorem zLj (K : Nat) : ∀ n, evV (zv5) K Tryz.f80 0 zfH [1, 1, 0, 1, 0] [] zLi n = iter (zsY) n := zp fun n0 (v1, v2, v15, v16, v17) => by kernel_rfl
def zmn (L0 : zbj → Option (Bool × Unit)) : ((List (List Int)) × ((List (List Int)) × ((Option (((List Int) × ((List Int) × Unit)) → Option (Bool × Unit))) × Unit))) → Option (Bool × Unit) := fun (x0, x1, x2, ()) =>
  bif ((List.length x0) : Int) != ((List.length x1) : Int) then some (false, ()) else L0 (x1, x2, x0, ((List.length x0) : Int), 0)
theorem zOH (K : Nat) : evF (zv5) K Tryz.f80 0 zlK zfH = zmn (zsZ K) := tr1 (T := zmn) (zLj K K) fun (x0, x1, x2, ()) => by kernel_rfl
end
def zfN : zvI := zmn (zsZ K0)
theorem zOI : Sd Tryz.prog E0 (zj1 zfN) := mkS (l := []) trivial Tryz.func80 (by kernel_rfl) (zOH K0)
section
abbrev zLk : Env := (En E0 false [])
abbrev zfi : Type := (List Int) × (List Int) × Int × Int
abbrev zTn : zfi → St := fun (v0, v1, v12, v13) => St.mk [(0, AV.dat (Ty.sl tI) v0), (1, AV.dat (Ty.sl tI) v1), (12, AV.dat tI v12), (13, AV.dat tI v13)] []
def zFN (k0 : zfi → Option (Bool × Unit)) : zfi → Option (Bool × Unit) := fun (v0, v1, v12, v13) =>
  bif decide (v13 < v12) then inR v13 ((List.length v0) : Int) (inR v13 ((List.length v1) : Int) (bif ix (0 : Int) v0 v13 != ix (0 : Int) v1 v13 then some (false, ()) else k0 (v0, v1, v12, wI (v13 + 1)))) else some (true, ())
abbrev zFO (K : Nat) : zfi → Option (Bool × Unit) := iter (zFN) K
theorem zTo (K : Nat) : ∀ n, evV (zLk) K Tryz.f81 0 zn8 [1, 1, 0, 1, 0] [] zTn n = iter (zFN) n := zp fun n0 (v0, v1, v12, v13) => by kernel_rfl
def zxS (L0 : zfi → Option (Bool × Unit)) : ((List Int) × ((List Int) × Unit)) → Option (Bool × Unit) := fun (x0, x1, ()) =>
  bif ((List.length x0) : Int) != ((List.length x1) : Int) then some (false, ()) else L0 (x0, x1, ((List.length x0) : Int), 0)
theorem zXU (K : Nat) : evF (zLk) K Tryz.f81 0 zwL zn8 = zxS (zFO K) := tr1 (T := zxS) (zTo K K) fun (x0, x1, ()) => by kernel_rfl
end
def zop : zKz := zxS (zFO K0)
theorem zXV : Sd Tryz.prog E0 (ztC zop) := mkS (l := []) trivial Tryz.func81 (by kernel_rfl) (zXU K0)
section
abbrev zFP : Env := (En E0 false [])
abbrev zdc : Type := (List zj) × (List zj) × Int × Int
abbrev zQk : zdc → St := fun (v0, v1, v12, v13) => St.mk [(0, AV.dat (Ty.sl zw) v0), (1, AV.dat (Ty.sl zw) v1), (12, AV.dat tI v12), (13, AV.dat tI v13)] []
def zyR (k0 : zdc → Option (Bool × Unit)) : zdc → Option (Bool × Unit) := fun (v0, v1, v12, v13) =>
  bif decide (v13 < v12) then inR v13 ((List.length v0) : Int) (inR v13 ((List.length v1) : Int) (bif !eqI zw (ix zP v0 v13) (ix zP v1 v13) then some (false, ()) else k0 (v0, v1, v12, wI (v13 + 1)))) else some (true, ())
abbrev zyS (K : Nat) : zdc → Option (Bool × Unit) := iter (zyR) K
theorem zQl (K : Nat) : ∀ n, evV (zFP) K Tryz.f82 0 zj2 [1, 1, 0, 1, 0] [] zQk n = iter (zyR) n := zp fun n0 (v0, v1, v12, v13) => by kernel_rfl
def zsz (L0 : zdc → Option (Bool × Unit)) : ((List zj) × ((List zj) × Unit)) → Option (Bool × Unit) := fun (x0, x1, ()) =>
  bif ((List.length x0) : Int) != ((List.length x1) : Int) then some (false, ()) else L0 (x0, x1, ((List.length x0) : Int), 0)
theorem zTp (K : Nat) : evF (zFP) K Tryz.f82 0 zri zj2 = zsz (zyS K) := tr1 (T := zsz) (zQl K K) fun (x0, x1, ()) => by kernel_rfl
end
def zkJ : zDd := zsz (zyS K0)
theorem zTq : Sd Tryz.prog E0 (zo0 zkJ) := mkS (l := []) trivial Tryz.func82 (by kernel_rfl) (zTp K0)
section
abbrev zFQ : Env := (En E0 false [])
abbrev zdd : Type := (List zH) × (List zH) × Int × Int
abbrev zQm : zdd → St := fun (v0, v1, v12, v13) => St.mk [(0, AV.dat (Ty.sl zC) v0), (1, AV.dat (Ty.sl zC) v1), (12, AV.dat tI v12), (13, AV.dat tI v13)] []
def zyT (k0 : zdd → Option (Bool × Unit)) : zdd → Option (Bool × Unit) := fun (v0, v1, v12, v13) =>
  bif decide (v13 < v12) then inR v13 ((List.length v0) : Int) (inR v13 ((List.length v1) : Int) (bif !eqI zC (ix zcc v0 v13) (ix zcc v1 v13) then some (false, ()) else k0 (v0, v1, v12, wI (v13 + 1)))) else some (true, ())
abbrev zyU (K : Nat) : zdd → Option (Bool × Unit) := iter (zyT) K
theorem zQn (K : Nat) : ∀ n, evV (zFQ) K Tryz.f83 0 zj3 [1, 1, 0, 1, 0] [] zQm n = iter (zyT) n := zp fun n0 (v0, v1, v12, v13) => by kernel_rfl
def zsA (L0 : zdd → Option (Bool × Unit)) : ((List zH) × ((List zH) × Unit)) → Option (Bool × Unit) := fun (x0, x1, ()) =>
  bif ((List.length x0) : Int) != ((List.length x1) : Int) then some (false, ()) else L0 (x0, x1, ((List.length x0) : Int), 0)
theorem zTr (K : Nat) : evF (zFQ) K Tryz.f83 0 zrj zj3 = zsA (zyU K) := tr1 (T := zsA) (zQn K K) fun (x0, x1, ()) => by kernel_rfl
end
def zkK : zDe := zsA (zyU K0)
theorem zTs : Sd Tryz.prog E0 (zo1 zkK) := mkS (l := []) trivial Tryz.func83 (by kernel_rfl) (zTr K0)
section
variable (zkL : ztB) (zpR : zBJ) (zmo : zvI) (zoq : zKz) (zsB : zDd) (zsC : zDe)
def zQo : (zf × (zf × Unit)) → Option (Bool × Unit) := fun (x0, x1, ()) =>
  bif x0.1 == x1.1 then Option.bind (zkL (x0.2.1, x1.2.1, some zpR, ())) fun q0 => bif q0.1 then Option.bind (zmo (x0.2.2.1, x1.2.2.1, some zoq, ())) fun q1 => bif q1.1 then Option.bind (zsB (x0.2.2.2.1, x1.2.2.2.1, ())) fun q2 => bif q2.1 then Option.bind (zsC (x0.2.2.2.2.1, x1.2.2.2.2.1, ())) fun q3 => bif q3.1 then Option.bind (zoq (x0.2.2.2.2.2.1, x1.2.2.2.2.2.1, ())) fun q4 => bif q4.1 then some (true, ()) else some (false, ()) else some (false, ()) else some (false, ()) else some (false, ()) else some (false, ()) else some (false, ())
theorem z2W (K : Nat) : evF (En E0 false [ziP zkL, zmZ zpR, zj1 zmo, ztC zoq, zo0 zsB, zo1 zsC]) K Tryz.f24 0 zCU zCV = zQo zkL zpR zmo zoq zsB zsC := funext fun (x0, x1, ()) => by kernel_rfl
end
def zjC : zO3 := zQo zep ziD zfN zop zkJ zkK
theorem z2X : Sd Tryz.prog E0 (zzi zjC) := mkS (l := [ziP zep, zmZ ziD, zj1 zfN, ztC zop, zo0 zkJ, zo1 zkK]) ⟨zMJ, zRq, zOI, zXV, zTq, zTs, trivial⟩ Tryz.func24 (by kernel_rfl) (z2W zep ziD zfN zop zkJ zkK K0)
section
def zY3 : (Int × (Int × Unit)) → Option (Bool × Unit) := fun (x0, x1, ()) =>
  bif decide (x0 ≥ 0) then bif decide (x0 < x1) then some (true, ()) else some (false, ()) else some (false, ())
theorem z74 (K : Nat) : evF (En E0 false []) K Tryz.f158 0 zPj zPk = zY3 := funext fun (x0, x1, ()) => by kernel_rfl
end
def zHE : zYZ := zY3
theorem z75 : Sd Tryz.prog E0 (zL1 zHE) := mkS (l := []) trivial Tryz.func158 (by kernel_rfl) (z74 K0)
end
end Go.Proofs.YtaokpakfhdeiiaaGreatDoor
end
section
namespace Go.Proofs.YtaokpakfhdeiiaaGreatDoor
open Go.Ev
set_option linter.unusedVariables false
noncomputable section
section
def zFR : (Int × ((Option (List (List Int))) × ((Option Int) × Unit))) → Option (Bool × Unit) := fun (x0, x1, x2, ()) =>
  Option.bind x1 fun q0 => inR x0 ((List.length q0) : Int) (Option.bind x2 fun q1 => inR q1 ((List.length (List.getD q0 (Int.toNat x0) ([] : List Int))) : Int) (bif List.getD (List.getD q0 (Int.toNat x0) ([] : List Int)) (Int.toNat q1) (0 : Int) == 0 then some (true, ()) else some (false, ())))
theorem zTt (K : Nat) : evF (En E0 false []) K Tryz.f159 0 zrP zrQ = zFR := funext fun (x0, x1, x2, ()) => by kernel_rfl
end
def zkM : zDL := zFR
theorem zTu : Sd Tryz.prog E0 (zpl zkM) := mkS (l := []) trivial Tryz.func159 (by kernel_rfl) (zTt K0)
section
variable (zF : zgf) (zt : yd)
def zHF : (ze × (Int × Unit)) → Option (Bool × Unit) := fun (x0, x1, ()) =>
  Option.bind (zF (x0, ())) fun q0 => bif q0.1 then Option.bind (zt (x1, 0, wI (((List.length x0.1) : Int) - 1), ())) fun q1 => bif q1.1 then some (true, ()) else some (false, ()) else some (false, ())
theorem zVR (K : Nat) : evF (En E0 false [vK zF, qo zt]) K Tryz.f91 0 ztG ztH = zHF zF zt := funext fun (x0, x1, ()) => by kernel_rfl
end
def zmI : zGU := zHF jf zL
theorem zVS : Sd Tryz.prog E0 (zrm zmI) := mkS (l := [vK jf, qo zL]) ⟨zk2, yS, trivial⟩ Tryz.func91 (by kernel_rfl) (zVR jf zL K0)
section
abbrev zLl : Env := (En E0 false [])
abbrev zfj : Type := (List Int) × Int × Int × Int
abbrev zTv : zfj → St := fun (v0, v1, v7, v8) => St.mk [(0, AV.dat (Ty.sl tI) v0), (1, AV.dat tI v1), (7, AV.dat tI v7), (8, AV.dat tI v8)] []
def zFS (k0 : zfj → Option (Int × Unit)) : zfj → Option (Int × Unit) := fun (v0, v1, v7, v8) =>
  bif decide (v8 < v7) then inR v8 ((List.length v0) : Int) (bif v1 == ix (0 : Int) v0 v8 then some (v8, ()) else k0 (v0, v1, v7, wI (v8 + 1))) else some ((-1), ())
abbrev zFT (K : Nat) : zfj → Option (Int × Unit) := iter (zFS) K
theorem zTw (K : Nat) : ∀ n, evV (zLl) K Tryz.f275 0 zoe [1, 0, 1, 0] [] zTv n = iter (zFS) n := zp fun n0 (v0, v1, v7, v8) => by kernel_rfl
def zxT (L0 : zfj → Option (Int × Unit)) : ((List Int) × (Int × Unit)) → Option (Int × Unit) := fun (x0, x1, ()) =>
  L0 (x0, x1, ((List.length x0) : Int), 0)
theorem zXW (K : Nat) : evF (zLl) K Tryz.f275 0 zxs zoe = zxT (zFT K) := tr1 (T := zxT) (zTw K K) fun (x0, x1, ()) => by kernel_rfl
end
def zor : zKL := zxT (zFT K0)
theorem zXX : Sd Tryz.prog E0 (zux zor) := mkS (l := []) trivial Tryz.func275 (by kernel_rfl) (zXW K0)
section
variable (zxU : zKL)
def zCe : ((List Int) × (Int × Unit)) → Option (Bool × Unit) := fun (x0, x1, ()) =>
  Option.bind (zxU (x0, x1, ())) fun q0 => bif decide (q0.1 ≥ 0) then some (true, ()) else some (false, ())
theorem zRr (K : Nat) : evF (En E0 false [zux zxU]) K Tryz.f231 0 zpw zpx = zCe zxU := funext fun (x0, x1, ()) => by kernel_rfl
end
def ziE : zBS := zCe zor
theorem zRs : Sd Tryz.prog E0 (znk ziE) := mkS (l := [zux zor]) ⟨zXX, trivial⟩ Tryz.func231 (by kernel_rfl) (zRr zor K0)
section
variable (zbI : zGU) (zde : zPu) (yg : zBS)
abbrev zLm : Env := (En E0 false [zrm zbI, zAH zde, znk yg])
abbrev zfk : Type := Int × (List qi) × Int × Int × ze × List Int
abbrev zTx : zfk → St := fun (v1, v14, v15, v16, o0, o1) => St.mk [(1, AV.dat tI v1), (2, AV.bp 0 []), (5, AV.ow 1), (14, AV.dat (Ty.sl y5) v14), (15, AV.dat tI v15), (16, AV.dat tI v16)] [Obj.bx (AV.dat zD o0) false, Obj.row tI o1 false]
def zFU (k0 : zfk → Option ((List Int) × Unit)) : zfk → Option ((List Int) × Unit) := fun (v1, v14, v15, v16, o0, o1) =>
  bif decide (v16 < v15) then inR v16 ((List.length v14) : Int) (inR v1 ((List.length o0.1) : Int) (Option.bind (zde (ix yj o0.1 v1, ())) fun q1 => Option.bind (yg (q1.1, (ix jA v14 v16).1, ())) fun q2 => bif q2.1 then bif decide (List.length o1 + List.length (zk (List.replicate 1 (0 : Int)) 0 v16) ≤ lim) then k0 (v1, v14, v15, wI (v16 + 1), o0, o1 ++ zk (List.replicate 1 (0 : Int)) 0 v16) else none else k0 (v1, v14, v15, wI (v16 + 1), o0, o1))) else some (o1, ())
abbrev zFV (K : Nat) : zfk → Option ((List Int) × Unit) := iter (zFU zde yg) K
theorem zTy (K : Nat) : ∀ n, evV (zLm zbI zde yg) K Tryz.f161 0 zoc [1, 1, 1, 0, 1, 0] [] zTx n = iter (zFU zde yg) n := zp fun n0 (v1, v14, v15, v16, o0, o1) => by kernel_rfl
def zxV (L0 : zfk → Option ((List Int) × Unit)) : (ze × (Int × Unit)) → Option ((List Int) × Unit) := fun (x0, x1, ()) =>
  Option.bind (zbI (x0, x1, ())) fun q0 => bif q0.1 then L0 (x1, x0.2.2.2.1, ((List.length x0.2.2.2.1) : Int), 0, x0, []) else some ([], ())
theorem zXY (K : Nat) : evF (zLm zbI zde yg) K Tryz.f161 0 zw7 zoc = zxV zbI (zFV zde yg K) := tr1 (T := zxV zbI) (zTy zbI zde yg K K) fun (x0, x1, ()) => by kernel_rfl
end
def zos : zKD := zxV zmI (zFV zuB ziE K0)
theorem zXZ : Sd Tryz.prog E0 (zt2 zos) := mkS (l := [zrm zmI, zAH zuB, znk ziE]) ⟨zVS, z14, zRs, trivial⟩ Tryz.func161 (by kernel_rfl) (zXY zmI zuB ziE K0)
section
variable (zfb : zDB) (zHG : zYZ) (zsD : zDL) (zxW : zKD) (zv : yr)
def zLn : (ze × ((List (List Int)) × (Int × (Int × Unit)))) → Option (Bool × Unit) := fun (x0, x1, x2, x3, ()) =>
  Option.bind (zfb (x0, x1, ())) fun q0 => bif q0.1 then Option.bind (zHG (x2, ((List.length x0.2.2.1) : Int), ())) fun q1 => bif q1.1 then Option.bind (zHG (x3, ((List.length x0.1) : Int), ())) fun q2 => bif q2.1 then inR x2 ((List.length x0.2.2.1) : Int) (inR x3 ((List.length x0.1) : Int) (bif decide ((ix jQ x0.2.2.1 x2).2.2.1 ≥ (ix yj x0.1 x3).1) then Option.bind (zxW (x0, x3, ())) fun q3 => Option.bind (zv (q3.1, some fun z => zsD (z.1, some x1, some x2, ()), ())) fun q4 => bif q4.1 then some (false, ()) else some (true, ()) else some (false, ()))) else some (false, ()) else some (false, ()) else some (false, ())
theorem zX0 (K : Nat) : evF (En E0 false [zkY zfb, zL1 zHG, zpl zsD, zt2 zxW, qF zv]) K Tryz.f63 0 zwD zwE = zLn zfb zHG zsD zxW zv := funext fun (x0, x1, x2, x3, ()) => by kernel_rfl
end
def zot : zKw := zLn zbC zHE zkM zos zK
theorem zX1 : Sd Tryz.prog E0 (zto zot) := mkS (l := [zkY zbC, zL1 zHE, zpl zkM, zt2 zos, qF zK]) ⟨zP2, z75, zTu, zXZ, za0, trivial⟩ Tryz.func63 (by kernel_rfl) (zX0 zbC zHE zkM zos zK K0)
section
variable (jw : zkX) (zxX : zKw)
def zVT : (ze × (zf × (Int × Unit))) → Option (pMe × (Int × Unit)) := fun (x0, x1, x2, ()) =>
  Option.bind (jw (x0, x1, ())) fun q0 => bif q0.1 then bif decide (x2 < 0) then some ((0, 0, 0, ()), 1, ()) else bif decide (x2 ≥ ((List.length x0.2.1) : Int)) then some ((0, 0, 0, ()), 1, ()) else inR x2 ((List.length x0.2.1) : Int) (inR x2 ((List.length x1.2.2.2.2.2.1) : Int) (bif ix (0 : Int) x1.2.2.2.2.2.1 x2 == -1 then some ((0, 0, 0, ()), 10, ()) else Option.bind (zxX (x0, x1.2.2.1, ix (0 : Int) x1.2.2.2.2.2.1 x2, ix (0 : Int) x0.2.1 x2, ())) fun q1 => bif q1.1 then some ((x2, ix (0 : Int) x0.2.1 x2, ix (0 : Int) x1.2.2.2.2.2.1 x2, ()), 0, ()) else some ((0, 0, 0, ()), 5, ()))) else some ((0, 0, 0, ()), 1, ())
theorem z6S (K : Nat) : evF (En E0 false [yQ jw, zto zxX]) K Tryz.f20 0 zLX zLY = zVT jw zxX := funext fun (x0, x1, x2, ()) => by kernel_rfl
end
def zou : zUC := zVT jg zot
theorem z6T : Sd Tryz.prog E0 (zIg zou) := mkS (l := [yQ jg, zto zot]) ⟨zqL, zX1, trivial⟩ Tryz.func20 (by kernel_rfl) (z6S jg zot K0)
section
variable (zBj : zNc) (zyp : zRF) (jw : zkX) (zov : zKm) (zBk : zzh) (zvg : zO3) (jc : zCO) (je : zCS) (zCp : zUC)
def zqO : Unit → Option (Bool × Unit) := fun () =>
  Option.bind (zBj ()) fun q0 => Option.bind (zyp ((q0.1.1, q0.1.2.1, q0.1.2.2.1, q0.1.2.2.2.1, q0.1.2.2.2.2.1, q0.1.2.2.2.2.2.1, q0.1.2.2.2.2.2.2.1, q0.1.2.2.2.2.2.2.2.1, q0.1.2.2.2.2.2.2.2.2.1, ()), ())) fun q1 => Option.bind (zyp (([], [], [], [], [], zb tI, zb tI, zb tI, zb tI, ()), ())) fun q2 => bif q1.2.1 != 0 then some (false, ()) else bif q2.2.1 != 1 then some (false, ()) else Option.bind (jw ((q0.1.1, q0.1.2.1, q0.1.2.2.1, q0.1.2.2.2.1, q0.1.2.2.2.2.1, q0.1.2.2.2.2.2.1, q0.1.2.2.2.2.2.2.1, q0.1.2.2.2.2.2.2.2.1, q0.1.2.2.2.2.2.2.2.2.1, ()), (q1.1.1, q1.1.2.1, q1.1.2.2.1, q1.1.2.2.2.1, q1.1.2.2.2.2.1, q1.1.2.2.2.2.2.1, ()), ())) fun q3 => bif q3.1 then Option.bind (zov ((q0.1.1, q0.1.2.1, q0.1.2.2.1, q0.1.2.2.2.1, q0.1.2.2.2.2.1, q0.1.2.2.2.2.2.1, q0.1.2.2.2.2.2.2.1, q0.1.2.2.2.2.2.2.2.1, q0.1.2.2.2.2.2.2.2.2.1, ()), (q1.1.1, q1.1.2.1, q1.1.2.2.1, q1.1.2.2.2.1, q1.1.2.2.2.2.1, q1.1.2.2.2.2.2.1, ()), zb z5, ())) fun q4 => bif q4.1 then Option.bind (zov ((q0.1.1, q0.1.2.1, q0.1.2.2.1, q0.1.2.2.2.1, q0.1.2.2.2.2.1, q0.1.2.2.2.2.2.1, q0.1.2.2.2.2.2.2.1, q0.1.2.2.2.2.2.2.2.1, q0.1.2.2.2.2.2.2.2.2.1, ()), (q1.1.1, q1.1.2.1, q1.1.2.2.1, q1.1.2.2.2.1, q1.1.2.2.2.2.1, q1.1.2.2.2.2.2.1, ()), ((zb z5).1, 1, (zb z5).2.2), ())) fun q5 => bif q5.1 then some (false, ()) else Option.bind (zBk ((q1.1.1, q1.1.2.1, q1.1.2.2.1, q1.1.2.2.2.1, q1.1.2.2.2.2.1, q1.1.2.2.2.2.2.1, ()), ())) fun q6 => Option.bind (zvg ((q1.1.1, q1.1.2.1, q1.1.2.2.1, q1.1.2.2.2.1, q1.1.2.2.2.2.1, q1.1.2.2.2.2.2.1, ()), (q6.1.1, q6.1.2.1, q6.1.2.2.1, q6.1.2.2.2.1, q6.1.2.2.2.2.1, q6.1.2.2.2.2.2.1, ()), ())) fun q7 => bif q7.1 then bif ((List.length q6.1.2.1) : Int) != 3 then some (false, ()) else bif ((List.length q6.1.2.2.2.2.2.1) : Int) != 3 then some (false, ()) else bif decide (1 < ((List.length q6.1.2.1) : Int)) then bif decide (List.length q6.1.2.1 ≤ Int.toNat 1) then bif decide (0 < ((List.length (ix za q6.1.2.1 1).2.2.2.2.2.1) : Int)) then none else none else bif decide (0 < ((List.length (ix za q6.1.2.1 1).2.2.2.2.2.1) : Int)) then bif decide (1 < ((List.length q6.1.2.2.2.2.2.1) : Int)) then Option.bind (jc ((q6.1.1, List.set q6.1.2.1 (Int.toNat 1) ((ix za q6.1.2.1 1).1, (ix za q6.1.2.1 1).2.1, (ix za q6.1.2.1 1).2.2.1, (ix za q6.1.2.1 1).2.2.2.1, (ix za q6.1.2.1 1).2.2.2.2.1, List.set (ix za q6.1.2.1 1).2.2.2.2.2.1 (Int.toNat 0) (List.set (List.getD (ix za q6.1.2.1 1).2.2.2.2.2.1 (Int.toNat 0) (zb (Ty.arr 4 tU))) (Int.toNat 2) 5), (ix za q6.1.2.1 1).2.2.2.2.2.2), q6.1.2.2.1, q6.1.2.2.2.1, q6.1.2.2.2.2.1, List.set q6.1.2.2.2.2.2.1 (Int.toNat 1) 0, ()), 2, ())) fun q8 => Option.bind (je ((q6.1.1, List.set q6.1.2.1 (Int.toNat 1) ((ix za q6.1.2.1 1).1, (ix za q6.1.2.1 1).2.1, (ix za q6.1.2.1 1).2.2.1, (ix za q6.1.2.1 1).2.2.2.1, (ix za q6.1.2.1 1).2.2.2.2.1, List.set (ix za q6.1.2.1 1).2.2.2.2.2.1 (Int.toNat 0) (List.set (List.getD (ix za q6.1.2.1 1).2.2.2.2.2.1 (Int.toNat 0) (zb (Ty.arr 4 tU))) (Int.toNat 2) 5), (ix za q6.1.2.1 1).2.2.2.2.2.2), q6.1.2.2.1, q6.1.2.2.2.1, q6.1.2.2.2.2.1, List.set q6.1.2.2.2.2.2.1 (Int.toNat 1) 0, ()), 2, ())) fun q9 => Option.bind (zCp ((q0.1.1, q0.1.2.1, q0.1.2.2.1, q0.1.2.2.2.1, q0.1.2.2.2.2.1, q0.1.2.2.2.2.2.1, q0.1.2.2.2.2.2.2.1, q0.1.2.2.2.2.2.2.2.1, q0.1.2.2.2.2.2.2.2.2.1, ()), (q1.1.1, q1.1.2.1, q1.1.2.2.1, q1.1.2.2.2.1, q1.1.2.2.2.2.1, q1.1.2.2.2.2.2.1, ()), 1, ())) fun q10 => bif decide (1 < ((List.length (List.set q6.1.2.1 (Int.toNat 1) ((ix za q6.1.2.1 1).1, (ix za q6.1.2.1 1).2.1, (ix za q6.1.2.1 1).2.2.1, (ix za q6.1.2.1 1).2.2.2.1, (ix za q6.1.2.1 1).2.2.2.2.1, List.set (ix za q6.1.2.1 1).2.2.2.2.2.1 (Int.toNat 0) (List.set (List.getD (ix za q6.1.2.1 1).2.2.2.2.2.1 (Int.toNat 0) (zb (Ty.arr 4 tU))) (Int.toNat 2) 5), (ix za q6.1.2.1 1).2.2.2.2.2.2))) : Int)) then Option.bind (zCp ((q0.1.1, q0.1.2.1, q0.1.2.2.1, q0.1.2.2.2.1, q0.1.2.2.2.2.1, q0.1.2.2.2.2.2.1, q0.1.2.2.2.2.2.2.1, q0.1.2.2.2.2.2.2.2.1, q0.1.2.2.2.2.2.2.2.2.1, ()), (q6.1.1, List.set (List.set q6.1.2.1 (Int.toNat 1) ((ix za q6.1.2.1 1).1, (ix za q6.1.2.1 1).2.1, (ix za q6.1.2.1 1).2.2.1, (ix za q6.1.2.1 1).2.2.2.1, (ix za q6.1.2.1 1).2.2.2.2.1, List.set (ix za q6.1.2.1 1).2.2.2.2.2.1 (Int.toNat 0) (List.set (List.getD (ix za q6.1.2.1 1).2.2.2.2.2.1 (Int.toNat 0) (zb (Ty.arr 4 tU))) (Int.toNat 2) 5), (ix za q6.1.2.1 1).2.2.2.2.2.2)) (Int.toNat 1) ((List.getD (List.set q6.1.2.1 (Int.toNat 1) ((ix za q6.1.2.1 1).1, (ix za q6.1.2.1 1).2.1, (ix za q6.1.2.1 1).2.2.1, (ix za q6.1.2.1 1).2.2.2.1, (ix za q6.1.2.1 1).2.2.2.2.1, List.set (ix za q6.1.2.1 1).2.2.2.2.2.1 (Int.toNat 0) (List.set (List.getD (ix za q6.1.2.1 1).2.2.2.2.2.1 (Int.toNat 0) (zb (Ty.arr 4 tU))) (Int.toNat 2) 5), (ix za q6.1.2.1 1).2.2.2.2.2.2)) (Int.toNat 1) (zb zo)).1, (List.getD (List.set q6.1.2.1 (Int.toNat 1) ((ix za q6.1.2.1 1).1, (ix za q6.1.2.1 1).2.1, (ix za q6.1.2.1 1).2.2.1, (ix za q6.1.2.1 1).2.2.2.1, (ix za q6.1.2.1 1).2.2.2.2.1, List.set (ix za q6.1.2.1 1).2.2.2.2.2.1 (Int.toNat 0) (List.set (List.getD (ix za q6.1.2.1 1).2.2.2.2.2.1 (Int.toNat 0) (zb (Ty.arr 4 tU))) (Int.toNat 2) 5), (ix za q6.1.2.1 1).2.2.2.2.2.2)) (Int.toNat 1) (zb zo)).2.1, (List.getD (List.set q6.1.2.1 (Int.toNat 1) ((ix za q6.1.2.1 1).1, (ix za q6.1.2.1 1).2.1, (ix za q6.1.2.1 1).2.2.1, (ix za q6.1.2.1 1).2.2.2.1, (ix za q6.1.2.1 1).2.2.2.2.1, List.set (ix za q6.1.2.1 1).2.2.2.2.2.1 (Int.toNat 0) (List.set (List.getD (ix za q6.1.2.1 1).2.2.2.2.2.1 (Int.toNat 0) (zb (Ty.arr 4 tU))) (Int.toNat 2) 5), (ix za q6.1.2.1 1).2.2.2.2.2.2)) (Int.toNat 1) (zb zo)).2.2.1, (List.getD (List.set q6.1.2.1 (Int.toNat 1) ((ix za q6.1.2.1 1).1, (ix za q6.1.2.1 1).2.1, (ix za q6.1.2.1 1).2.2.1, (ix za q6.1.2.1 1).2.2.2.1, (ix za q6.1.2.1 1).2.2.2.2.1, List.set (ix za q6.1.2.1 1).2.2.2.2.2.1 (Int.toNat 0) (List.set (List.getD (ix za q6.1.2.1 1).2.2.2.2.2.1 (Int.toNat 0) (zb (Ty.arr 4 tU))) (Int.toNat 2) 5), (ix za q6.1.2.1 1).2.2.2.2.2.2)) (Int.toNat 1) (zb zo)).2.2.2.1, (List.getD (List.set q6.1.2.1 (Int.toNat 1) ((ix za q6.1.2.1 1).1, (ix za q6.1.2.1 1).2.1, (ix za q6.1.2.1 1).2.2.1, (ix za q6.1.2.1 1).2.2.2.1, (ix za q6.1.2.1 1).2.2.2.2.1, List.set (ix za q6.1.2.1 1).2.2.2.2.2.1 (Int.toNat 0) (List.set (List.getD (ix za q6.1.2.1 1).2.2.2.2.2.1 (Int.toNat 0) (zb (Ty.arr 4 tU))) (Int.toNat 2) 5), (ix za q6.1.2.1 1).2.2.2.2.2.2)) (Int.toNat 1) (zb zo)).2.2.2.2.1, (List.getD (List.set q6.1.2.1 (Int.toNat 1) ((ix za q6.1.2.1 1).1, (ix za q6.1.2.1 1).2.1, (ix za q6.1.2.1 1).2.2.1, (ix za q6.1.2.1 1).2.2.2.1, (ix za q6.1.2.1 1).2.2.2.2.1, List.set (ix za q6.1.2.1 1).2.2.2.2.2.1 (Int.toNat 0) (List.set (List.getD (ix za q6.1.2.1 1).2.2.2.2.2.1 (Int.toNat 0) (zb (Ty.arr 4 tU))) (Int.toNat 2) 5), (ix za q6.1.2.1 1).2.2.2.2.2.2)) (Int.toNat 1) (zb zo)).2.2.2.2.2.1, (List.getD (List.set q6.1.2.1 (Int.toNat 1) ((ix za q6.1.2.1 1).1, (ix za q6.1.2.1 1).2.1, (ix za q6.1.2.1 1).2.2.1, (ix za q6.1.2.1 1).2.2.2.1, (ix za q6.1.2.1 1).2.2.2.2.1, List.set (ix za q6.1.2.1 1).2.2.2.2.2.1 (Int.toNat 0) (List.set (List.getD (ix za q6.1.2.1 1).2.2.2.2.2.1 (Int.toNat 0) (zb (Ty.arr 4 tU))) (Int.toNat 2) 5), (ix za q6.1.2.1 1).2.2.2.2.2.2)) (Int.toNat 1) (zb zo)).2.2.2.2.2.2.1, List.set (List.getD (List.set q6.1.2.1 (Int.toNat 1) ((ix za q6.1.2.1 1).1, (ix za q6.1.2.1 1).2.1, (ix za q6.1.2.1 1).2.2.1, (ix za q6.1.2.1 1).2.2.2.1, (ix za q6.1.2.1 1).2.2.2.2.1, List.set (ix za q6.1.2.1 1).2.2.2.2.2.1 (Int.toNat 0) (List.set (List.getD (ix za q6.1.2.1 1).2.2.2.2.2.1 (Int.toNat 0) (zb (Ty.arr 4 tU))) (Int.toNat 2) 5), (ix za q6.1.2.1 1).2.2.2.2.2.2)) (Int.toNat 1) (zb zo)).2.2.2.2.2.2.2.1 (Int.toNat 2) 5, (List.getD (List.set q6.1.2.1 (Int.toNat 1) ((ix za q6.1.2.1 1).1, (ix za q6.1.2.1 1).2.1, (ix za q6.1.2.1 1).2.2.1, (ix za q6.1.2.1 1).2.2.2.1, (ix za q6.1.2.1 1).2.2.2.2.1, List.set (ix za q6.1.2.1 1).2.2.2.2.2.1 (Int.toNat 0) (List.set (List.getD (ix za q6.1.2.1 1).2.2.2.2.2.1 (Int.toNat 0) (zb (Ty.arr 4 tU))) (Int.toNat 2) 5), (ix za q6.1.2.1 1).2.2.2.2.2.2)) (Int.toNat 1) (zb zo)).2.2.2.2.2.2.2.2), q6.1.2.2.1, q6.1.2.2.2.1, q6.1.2.2.2.2.1, List.set q6.1.2.2.2.2.2.1 (Int.toNat 1) 0, ()), 1, ())) fun q11 => Option.bind (zvg ((q1.1.1, q1.1.2.1, q1.1.2.2.1, q1.1.2.2.2.1, q1.1.2.2.2.2.1, q1.1.2.2.2.2.2.1, ()), (q6.1.1, List.set (List.set q6.1.2.1 (Int.toNat 1) ((ix za q6.1.2.1 1).1, (ix za q6.1.2.1 1).2.1, (ix za q6.1.2.1 1).2.2.1, (ix za q6.1.2.1 1).2.2.2.1, (ix za q6.1.2.1 1).2.2.2.2.1, List.set (ix za q6.1.2.1 1).2.2.2.2.2.1 (Int.toNat 0) (List.set (List.getD (ix za q6.1.2.1 1).2.2.2.2.2.1 (Int.toNat 0) (zb (Ty.arr 4 tU))) (Int.toNat 2) 5), (ix za q6.1.2.1 1).2.2.2.2.2.2)) (Int.toNat 1) ((List.getD (List.set q6.1.2.1 (Int.toNat 1) ((ix za q6.1.2.1 1).1, (ix za q6.1.2.1 1).2.1, (ix za q6.1.2.1 1).2.2.1, (ix za q6.1.2.1 1).2.2.2.1, (ix za q6.1.2.1 1).2.2.2.2.1, List.set (ix za q6.1.2.1 1).2.2.2.2.2.1 (Int.toNat 0) (List.set (List.getD (ix za q6.1.2.1 1).2.2.2.2.2.1 (Int.toNat 0) (zb (Ty.arr 4 tU))) (Int.toNat 2) 5), (ix za q6.1.2.1 1).2.2.2.2.2.2)) (Int.toNat 1) (zb zo)).1, (List.getD (List.set q6.1.2.1 (Int.toNat 1) ((ix za q6.1.2.1 1).1, (ix za q6.1.2.1 1).2.1, (ix za q6.1.2.1 1).2.2.1, (ix za q6.1.2.1 1).2.2.2.1, (ix za q6.1.2.1 1).2.2.2.2.1, List.set (ix za q6.1.2.1 1).2.2.2.2.2.1 (Int.toNat 0) (List.set (List.getD (ix za q6.1.2.1 1).2.2.2.2.2.1 (Int.toNat 0) (zb (Ty.arr 4 tU))) (Int.toNat 2) 5), (ix za q6.1.2.1 1).2.2.2.2.2.2)) (Int.toNat 1) (zb zo)).2.1, (List.getD (List.set q6.1.2.1 (Int.toNat 1) ((ix za q6.1.2.1 1).1, (ix za q6.1.2.1 1).2.1, (ix za q6.1.2.1 1).2.2.1, (ix za q6.1.2.1 1).2.2.2.1, (ix za q6.1.2.1 1).2.2.2.2.1, List.set (ix za q6.1.2.1 1).2.2.2.2.2.1 (Int.toNat 0) (List.set (List.getD (ix za q6.1.2.1 1).2.2.2.2.2.1 (Int.toNat 0) (zb (Ty.arr 4 tU))) (Int.toNat 2) 5), (ix za q6.1.2.1 1).2.2.2.2.2.2)) (Int.toNat 1) (zb zo)).2.2.1, (List.getD (List.set q6.1.2.1 (Int.toNat 1) ((ix za q6.1.2.1 1).1, (ix za q6.1.2.1 1).2.1, (ix za q6.1.2.1 1).2.2.1, (ix za q6.1.2.1 1).2.2.2.1, (ix za q6.1.2.1 1).2.2.2.2.1, List.set (ix za q6.1.2.1 1).2.2.2.2.2.1 (Int.toNat 0) (List.set (List.getD (ix za q6.1.2.1 1).2.2.2.2.2.1 (Int.toNat 0) (zb (Ty.arr 4 tU))) (Int.toNat 2) 5), (ix za q6.1.2.1 1).2.2.2.2.2.2)) (Int.toNat 1) (zb zo)).2.2.2.1, (List.getD (List.set q6.1.2.1 (Int.toNat 1) ((ix za q6.1.2.1 1).1, (ix za q6.1.2.1 1).2.1, (ix za q6.1.2.1 1).2.2.1, (ix za q6.1.2.1 1).2.2.2.1, (ix za q6.1.2.1 1).2.2.2.2.1, List.set (ix za q6.1.2.1 1).2.2.2.2.2.1 (Int.toNat 0) (List.set (List.getD (ix za q6.1.2.1 1).2.2.2.2.2.1 (Int.toNat 0) (zb (Ty.arr 4 tU))) (Int.toNat 2) 5), (ix za q6.1.2.1 1).2.2.2.2.2.2)) (Int.toNat 1) (zb zo)).2.2.2.2.1, (List.getD (List.set q6.1.2.1 (Int.toNat 1) ((ix za q6.1.2.1 1).1, (ix za q6.1.2.1 1).2.1, (ix za q6.1.2.1 1).2.2.1, (ix za q6.1.2.1 1).2.2.2.1, (ix za q6.1.2.1 1).2.2.2.2.1, List.set (ix za q6.1.2.1 1).2.2.2.2.2.1 (Int.toNat 0) (List.set (List.getD (ix za q6.1.2.1 1).2.2.2.2.2.1 (Int.toNat 0) (zb (Ty.arr 4 tU))) (Int.toNat 2) 5), (ix za q6.1.2.1 1).2.2.2.2.2.2)) (Int.toNat 1) (zb zo)).2.2.2.2.2.1, (List.getD (List.set q6.1.2.1 (Int.toNat 1) ((ix za q6.1.2.1 1).1, (ix za q6.1.2.1 1).2.1, (ix za q6.1.2.1 1).2.2.1, (ix za q6.1.2.1 1).2.2.2.1, (ix za q6.1.2.1 1).2.2.2.2.1, List.set (ix za q6.1.2.1 1).2.2.2.2.2.1 (Int.toNat 0) (List.set (List.getD (ix za q6.1.2.1 1).2.2.2.2.2.1 (Int.toNat 0) (zb (Ty.arr 4 tU))) (Int.toNat 2) 5), (ix za q6.1.2.1 1).2.2.2.2.2.2)) (Int.toNat 1) (zb zo)).2.2.2.2.2.2.1, List.set (List.getD (List.set q6.1.2.1 (Int.toNat 1) ((ix za q6.1.2.1 1).1, (ix za q6.1.2.1 1).2.1, (ix za q6.1.2.1 1).2.2.1, (ix za q6.1.2.1 1).2.2.2.1, (ix za q6.1.2.1 1).2.2.2.2.1, List.set (ix za q6.1.2.1 1).2.2.2.2.2.1 (Int.toNat 0) (List.set (List.getD (ix za q6.1.2.1 1).2.2.2.2.2.1 (Int.toNat 0) (zb (Ty.arr 4 tU))) (Int.toNat 2) 5), (ix za q6.1.2.1 1).2.2.2.2.2.2)) (Int.toNat 1) (zb zo)).2.2.2.2.2.2.2.1 (Int.toNat 2) 5, (List.getD (List.set q6.1.2.1 (Int.toNat 1) ((ix za q6.1.2.1 1).1, (ix za q6.1.2.1 1).2.1, (ix za q6.1.2.1 1).2.2.1, (ix za q6.1.2.1 1).2.2.2.1, (ix za q6.1.2.1 1).2.2.2.2.1, List.set (ix za q6.1.2.1 1).2.2.2.2.2.1 (Int.toNat 0) (List.set (List.getD (ix za q6.1.2.1 1).2.2.2.2.2.1 (Int.toNat 0) (zb (Ty.arr 4 tU))) (Int.toNat 2) 5), (ix za q6.1.2.1 1).2.2.2.2.2.2)) (Int.toNat 1) (zb zo)).2.2.2.2.2.2.2.2), q6.1.2.2.1, q6.1.2.2.2.1, q6.1.2.2.2.2.1, List.set q6.1.2.2.2.2.2.1 (Int.toNat 1) 0, ()), ())) fun q12 => bif q12.1 then some (false, ()) else bif decide (1 < ((List.length q1.1.2.2.2.2.2.1) : Int)) then bif ix (0 : Int) q1.1.2.2.2.2.2.1 1 == -1 then bif decide (1 < ((List.length q1.1.2.1) : Int)) then bif decide (0 < ((List.length (ix za q1.1.2.1 1).2.2.2.2.2.1) : Int)) then bif List.getD (List.getD (ix za q1.1.2.1 1).2.2.2.2.2.1 (Int.toNat 0) (zb (Ty.arr 4 tU))) (Int.toNat 2) (0 : Int) == 0 then bif q8.1 == 5 then bif q8.2.1 == 0 then bif q9.1 == 0 then bif q9.2.1 == 0 then bif q10.2.1 == 10 then bif q11.2.1 == 0 then bif eqI tMe q11.1 (1, 1, (zb tMe).2.2) then Option.bind (jw ((q0.1.1, q0.1.2.1, q0.1.2.2.1, q0.1.2.2.2.1, q0.1.2.2.2.2.1, q0.1.2.2.2.2.2.1, q0.1.2.2.2.2.2.2.1, q0.1.2.2.2.2.2.2.2.1, q0.1.2.2.2.2.2.2.2.2.1, ()), (q6.1.1, List.set (List.set q6.1.2.1 (Int.toNat 1) ((ix za q6.1.2.1 1).1, (ix za q6.1.2.1 1).2.1, (ix za q6.1.2.1 1).2.2.1, (ix za q6.1.2.1 1).2.2.2.1, (ix za q6.1.2.1 1).2.2.2.2.1, List.set (ix za q6.1.2.1 1).2.2.2.2.2.1 (Int.toNat 0) (List.set (List.getD (ix za q6.1.2.1 1).2.2.2.2.2.1 (Int.toNat 0) (zb (Ty.arr 4 tU))) (Int.toNat 2) 5), (ix za q6.1.2.1 1).2.2.2.2.2.2)) (Int.toNat 1) ((List.getD (List.set q6.1.2.1 (Int.toNat 1) ((ix za q6.1.2.1 1).1, (ix za q6.1.2.1 1).2.1, (ix za q6.1.2.1 1).2.2.1, (ix za q6.1.2.1 1).2.2.2.1, (ix za q6.1.2.1 1).2.2.2.2.1, List.set (ix za q6.1.2.1 1).2.2.2.2.2.1 (Int.toNat 0) (List.set (List.getD (ix za q6.1.2.1 1).2.2.2.2.2.1 (Int.toNat 0) (zb (Ty.arr 4 tU))) (Int.toNat 2) 5), (ix za q6.1.2.1 1).2.2.2.2.2.2)) (Int.toNat 1) (zb zo)).1, (List.getD (List.set q6.1.2.1 (Int.toNat 1) ((ix za q6.1.2.1 1).1, (ix za q6.1.2.1 1).2.1, (ix za q6.1.2.1 1).2.2.1, (ix za q6.1.2.1 1).2.2.2.1, (ix za q6.1.2.1 1).2.2.2.2.1, List.set (ix za q6.1.2.1 1).2.2.2.2.2.1 (Int.toNat 0) (List.set (List.getD (ix za q6.1.2.1 1).2.2.2.2.2.1 (Int.toNat 0) (zb (Ty.arr 4 tU))) (Int.toNat 2) 5), (ix za q6.1.2.1 1).2.2.2.2.2.2)) (Int.toNat 1) (zb zo)).2.1, (List.getD (List.set q6.1.2.1 (Int.toNat 1) ((ix za q6.1.2.1 1).1, (ix za q6.1.2.1 1).2.1, (ix za q6.1.2.1 1).2.2.1, (ix za q6.1.2.1 1).2.2.2.1, (ix za q6.1.2.1 1).2.2.2.2.1, List.set (ix za q6.1.2.1 1).2.2.2.2.2.1 (Int.toNat 0) (List.set (List.getD (ix za q6.1.2.1 1).2.2.2.2.2.1 (Int.toNat 0) (zb (Ty.arr 4 tU))) (Int.toNat 2) 5), (ix za q6.1.2.1 1).2.2.2.2.2.2)) (Int.toNat 1) (zb zo)).2.2.1, (List.getD (List.set q6.1.2.1 (Int.toNat 1) ((ix za q6.1.2.1 1).1, (ix za q6.1.2.1 1).2.1, (ix za q6.1.2.1 1).2.2.1, (ix za q6.1.2.1 1).2.2.2.1, (ix za q6.1.2.1 1).2.2.2.2.1, List.set (ix za q6.1.2.1 1).2.2.2.2.2.1 (Int.toNat 0) (List.set (List.getD (ix za q6.1.2.1 1).2.2.2.2.2.1 (Int.toNat 0) (zb (Ty.arr 4 tU))) (Int.toNat 2) 5), (ix za q6.1.2.1 1).2.2.2.2.2.2)) (Int.toNat 1) (zb zo)).2.2.2.1, (List.getD (List.set q6.1.2.1 (Int.toNat 1) ((ix za q6.1.2.1 1).1, (ix za q6.1.2.1 1).2.1, (ix za q6.1.2.1 1).2.2.1, (ix za q6.1.2.1 1).2.2.2.1, (ix za q6.1.2.1 1).2.2.2.2.1, List.set (ix za q6.1.2.1 1).2.2.2.2.2.1 (Int.toNat 0) (List.set (List.getD (ix za q6.1.2.1 1).2.2.2.2.2.1 (Int.toNat 0) (zb (Ty.arr 4 tU))) (Int.toNat 2) 5), (ix za q6.1.2.1 1).2.2.2.2.2.2)) (Int.toNat 1) (zb zo)).2.2.2.2.1, (List.getD (List.set q6.1.2.1 (Int.toNat 1) ((ix za q6.1.2.1 1).1, (ix za q6.1.2.1 1).2.1, (ix za q6.1.2.1 1).2.2.1, (ix za q6.1.2.1 1).2.2.2.1, (ix za q6.1.2.1 1).2.2.2.2.1, List.set (ix za q6.1.2.1 1).2.2.2.2.2.1 (Int.toNat 0) (List.set (List.getD (ix za q6.1.2.1 1).2.2.2.2.2.1 (Int.toNat 0) (zb (Ty.arr 4 tU))) (Int.toNat 2) 5), (ix za q6.1.2.1 1).2.2.2.2.2.2)) (Int.toNat 1) (zb zo)).2.2.2.2.2.1, (List.getD (List.set q6.1.2.1 (Int.toNat 1) ((ix za q6.1.2.1 1).1, (ix za q6.1.2.1 1).2.1, (ix za q6.1.2.1 1).2.2.1, (ix za q6.1.2.1 1).2.2.2.1, (ix za q6.1.2.1 1).2.2.2.2.1, List.set (ix za q6.1.2.1 1).2.2.2.2.2.1 (Int.toNat 0) (List.set (List.getD (ix za q6.1.2.1 1).2.2.2.2.2.1 (Int.toNat 0) (zb (Ty.arr 4 tU))) (Int.toNat 2) 5), (ix za q6.1.2.1 1).2.2.2.2.2.2)) (Int.toNat 1) (zb zo)).2.2.2.2.2.2.1, List.set (List.getD (List.set q6.1.2.1 (Int.toNat 1) ((ix za q6.1.2.1 1).1, (ix za q6.1.2.1 1).2.1, (ix za q6.1.2.1 1).2.2.1, (ix za q6.1.2.1 1).2.2.2.1, (ix za q6.1.2.1 1).2.2.2.2.1, List.set (ix za q6.1.2.1 1).2.2.2.2.2.1 (Int.toNat 0) (List.set (List.getD (ix za q6.1.2.1 1).2.2.2.2.2.1 (Int.toNat 0) (zb (Ty.arr 4 tU))) (Int.toNat 2) 5), (ix za q6.1.2.1 1).2.2.2.2.2.2)) (Int.toNat 1) (zb zo)).2.2.2.2.2.2.2.1 (Int.toNat 2) 5, (List.getD (List.set q6.1.2.1 (Int.toNat 1) ((ix za q6.1.2.1 1).1, (ix za q6.1.2.1 1).2.1, (ix za q6.1.2.1 1).2.2.1, (ix za q6.1.2.1 1).2.2.2.1, (ix za q6.1.2.1 1).2.2.2.2.1, List.set (ix za q6.1.2.1 1).2.2.2.2.2.1 (Int.toNat 0) (List.set (List.getD (ix za q6.1.2.1 1).2.2.2.2.2.1 (Int.toNat 0) (zb (Ty.arr 4 tU))) (Int.toNat 2) 5), (ix za q6.1.2.1 1).2.2.2.2.2.2)) (Int.toNat 1) (zb zo)).2.2.2.2.2.2.2.2), q6.1.2.2.1, q6.1.2.2.2.1, q6.1.2.2.2.2.1, List.set q6.1.2.2.2.2.2.1 (Int.toNat 1) 0, ()), ())) fun q13 => bif q13.1 then some (true, ()) else some (false, ()) else some (false, ()) else some (false, ()) else some (false, ()) else some (false, ()) else some (false, ()) else some (false, ()) else some (false, ()) else some (false, ()) else none else none else some (false, ()) else none else none else none else none else none else some (false, ()) else some (false, ()) else some (false, ())
theorem zZ4 (K : Nat) : evF (En E0 true [zwF zBj, zCM zyp, yQ jw, zta zov, zwh zBk, zzi zvg, zkV jc, zkW je, zIg zCp]) K Tryz.f21 0 zze zzf = zqO zBj zyp jw zov zBk zvg jc je zCp := funext fun () => by kernel_rfl
end
def zgr : zM2 := zqO zgg zlv jg zeG zdR zjC vk vl zou
theorem zZ5 : Sd Tryz.prog E0 (zwg zgr) := mkS (l := [zwF zgg, zCM zlv, yQ jg, zta zeG, zwh zdR, zzi zjC, zkV vk, zkW vl, zIg zou]) ⟨zZi, z4k, zqL, zXN, zZ1, z2X, zQg, zQh, z6T, trivial⟩ Tryz.func21 (by kernel_rfl) (zZ4 zgg zlv jg zeG zdR zjC vk vl zou K0)
section
variable (jw : zkX)
def zFW : (ze × (zf × (pMe × Unit))) → Option (Bool × Unit) := fun (x0, x1, x2, ()) =>
  Option.bind (jw (x0, x1, ())) fun q0 => bif q0.1 then bif decide (x2.1 ≥ 0) then bif decide (x2.1 < ((List.length x0.2.1) : Int)) then inR x2.1 ((List.length x0.2.1) : Int) (bif x2.2.1 == ix (0 : Int) x0.2.1 x2.1 then bif decide (x2.2.2.1 ≥ 0) then bif decide (x2.2.2.1 < ((List.length x0.2.2.1) : Int)) then some (true, ()) else some (false, ()) else some (false, ()) else some (false, ())) else some (false, ()) else some (false, ()) else some (false, ())
theorem z2Y (K : Nat) : evF (En E0 false [yQ jw]) K Tryz.f26 0 zCW zCX = zFW jw := funext fun (x0, x1, x2, ()) => by kernel_rfl
end
def zjD : zO4 := zFW jg
theorem z2Z : Sd Tryz.prog E0 (zzk zjD) := mkS (l := [yQ jg]) ⟨zqL, trivial⟩ Tryz.func26 (by kernel_rfl) (z2Y jg K0)
section
def zBl : (zu × Unit) → Option (Bool × Unit) := fun (x0, ()) =>
  bif x0.1 == 0 then some (true, ()) else bif x0.1 == 1 then some (true, ()) else bif x0.1 == 2 then some (true, ()) else bif x0.1 == 3 then some (true, ()) else some (false, ())
theorem zZ6 (K : Nat) : evF (En E0 false []) K Tryz.f93 0 zzL zzM = zBl := funext fun (x0, ()) => by kernel_rfl
end
def zdS : zNf := zBl
theorem zZ7 : Sd Tryz.prog E0 (zwQ zdS) := mkS (l := []) trivial Tryz.func93 (by kernel_rfl) (zZ6 K0)
section
def zJR : (zu × (zu × Unit)) → Option (Int × Unit) := fun (x0, x1, ()) =>
  bif decide (x0.1 < x1.1) then some ((-1), ()) else bif x0.1 == x1.1 then bif decide (x0.2.1 < x1.2.1) then some ((-1), ()) else bif eqI zr x0 x1 then some (0, ()) else some (1, ()) else bif eqI zr x0 x1 then some (0, ()) else some (1, ())
theorem z4D (K : Nat) : evF (En E0 false []) K Tryz.f94 0 zIn zIo = zJR := funext fun (x0, x1, ()) => by kernel_rfl
end
def zio : zRI := zJR
theorem z4E : Sd Tryz.prog E0 (zDj zio) := mkS (l := []) trivial Tryz.func94 (by kernel_rfl) (z4D K0)
section
variable (zb4 : zNf) (zex : zRI)
abbrev zLo : Env := (En E0 false [zwQ zb4, zDj zex])
abbrev zfl : Type := (List zu) × Int
abbrev zTz : zfl → St := fun (v0, v3) => St.mk [(0, AV.dat (Ty.sl zr) v0), (3, AV.dat tI v3)] []
def zkN (k0 : zfl → Option (Bool × Unit)) : zfl → Option (Bool × Unit) := fun (v0, v3) =>
  bif decide (v3 < ((List.length v0) : Int)) then inR v3 ((List.length v0) : Int) (Option.bind (zb4 (ix yj v0 v3, ())) fun q0 => bif q0.1 then inR (wI (v3 - 1)) ((List.length v0) : Int) (inR v3 ((List.length v0) : Int) (Option.bind (zex (List.getD v0 (Int.toNat (wI (v3 - 1))) (zb zr), ix yj v0 v3, ())) fun q1 => bif decide (q1.1 ≥ 0) then some (false, ()) else k0 (v0, wI (v3 + 1)))) else some (false, ())) else some (true, ())
abbrev zsE (K : Nat) : zfl → Option (Bool × Unit) := iter (zkN zb4 zex) K
theorem zTA (K : Nat) : ∀ n, evV (zLo zb4 zex) K Tryz.f31 0 zn5 [1, 1, 0, 1, 0] [] zTz n = iter (zkN zb4 zex) n := zp fun n0 (v0, v3) => by kernel_rfl
def zow (L0 : zfl → Option (Bool × Unit)) : ((List zu) × Unit) → Option (Bool × Unit) := fun (x0, ()) =>
  bif decide (((List.length x0) : Int) < 1) then some (false, ()) else bif decide (((List.length x0) : Int) > 8) then some (false, ()) else bif decide (0 < ((List.length x0) : Int)) then bif !eqI zr (ix yj x0 0) (zb zr) then some (false, ()) else L0 (x0, 1) else none
theorem zX2 (K : Nat) : evF (zLo zb4 zex) K Tryz.f31 0 zwj zn5 = zow (zsE zb4 zex K) := tr1 (T := zow) (zTA zb4 zex K K) fun (x0, ()) => by kernel_rfl
end
def zeI : zKn := zow (zsE zdS zio K0)
theorem zX3 : Sd Tryz.prog E0 (ztb zeI) := mkS (l := [zwQ zdS, zDj zio]) ⟨zZ7, z4E, trivial⟩ Tryz.func31 (by kernel_rfl) (zX2 zdS zio K0)
section
abbrev zNS : Env := (En E0 false [])
abbrev zg8 : Type := ByteArray × Int
abbrev zVU : zg8 → St := fun (v0, v3) => St.mk [(0, AV.dat Ty.str v0), (3, AV.dat tI v3)] []
def zmJ (k0 : zg8 → Option (Bool × Unit)) : zg8 → Option (Bool × Unit) := fun (v0, v3) =>
  bif decide (v3 < (↑(ByteArray.size v0) : Int)) then inR v3 (↑(ByteArray.size v0) : Int) (bif decide ((↑(UInt8.toNat (List.getD (Array.toList (ByteArray.data v0)) (Int.toNat v3) 0)) : Int) ≥ 97) then inR v3 (↑(ByteArray.size v0) : Int) (bif decide ((↑(UInt8.toNat (List.getD (Array.toList (ByteArray.data v0)) (Int.toNat v3) 0)) : Int) ≤ 122) then k0 (v0, wI (v3 + 1)) else bif v3 == 0 then some (false, ()) else inR v3 (↑(ByteArray.size v0) : Int) (bif decide ((↑(UInt8.toNat (List.getD (Array.toList (ByteArray.data v0)) (Int.toNat v3) 0)) : Int) < 48) then some (false, ()) else inR v3 (↑(ByteArray.size v0) : Int) (bif decide ((↑(UInt8.toNat (List.getD (Array.toList (ByteArray.data v0)) (Int.toNat v3) 0)) : Int) > 57) then some (false, ()) else k0 (v0, wI (v3 + 1))))) else bif v3 == 0 then some (false, ()) else inR v3 (↑(ByteArray.size v0) : Int) (bif decide ((↑(UInt8.toNat (List.getD (Array.toList (ByteArray.data v0)) (Int.toNat v3) 0)) : Int) < 48) then some (false, ()) else inR v3 (↑(ByteArray.size v0) : Int) (bif decide ((↑(UInt8.toNat (List.getD (Array.toList (ByteArray.data v0)) (Int.toNat v3) 0)) : Int) > 57) then some (false, ()) else k0 (v0, wI (v3 + 1))))) else some (true, ())
abbrev zvh (K : Nat) : zg8 → Option (Bool × Unit) := iter (zmJ) K
theorem zVV (K : Nat) : ∀ n, evV (zNS) K Tryz.f95 0 zqy [1, 1, 0, 1, 0] [] zVU n = iter (zmJ) n := zp fun n0 (v0, v3) => by kernel_rfl
def zqP (L0 : zg8 → Option (Bool × Unit)) : (ByteArray × Unit) → Option (Bool × Unit) := fun (x0, ()) =>
  bif (↑(ByteArray.size x0) : Int) == 0 then some (false, ()) else bif decide ((↑(ByteArray.size x0) : Int) > 12) then some (false, ()) else L0 (x0, 0)
theorem zZ8 (K : Nat) : evF (zNS) K Tryz.f95 0 zzN zqy = zqP (zvh K) := tr1 (T := zqP) (zVV K K) fun (x0, ()) => by kernel_rfl
end
def jH : zqz := zqP (zvh K0)
theorem zBm : Sd Tryz.prog E0 (zcm jH) := mkS (l := []) trivial Tryz.func95 (by kernel_rfl) (zZ8 K0)
section
variable (zi : zqz)
abbrev zfm : Env := (En E0 false [zcm zi])
abbrev zdf : Type := (List qW) × Int × Int
abbrev zyV : zdf → St := fun (v0, v3, v4) => St.mk [(0, AV.dat (Ty.sl jL) v0), (3, AV.dat tI v3), (4, AV.dat tI v4)] []
abbrev yI : Type := (List qW) × Int
abbrev zyW : yI → St := fun (v0, v3) => St.mk [(0, AV.dat (Ty.sl jL) v0), (3, AV.dat tI v3)] []
def zg9 (k0 : yI → Option (Bool × Unit)) (k1 : zdf → Option (Bool × Unit)) : zdf → Option (Bool × Unit) := fun (v0, v3, v4) =>
  bif decide (v4 < v3) then inR v4 ((List.length v0) : Int) (inR v3 ((List.length v0) : Int) (bif ByteArray.toList (ix jQ v0 v4).1 == ByteArray.toList (ix jQ v0 v3).1 then some (false, ()) else k1 (v0, v3, wI (v4 + 1)))) else k0 (v0, wI (v3 + 1))
abbrev zha (K : Nat) (k0 : yI → Option (Bool × Unit)) : zdf → Option (Bool × Unit) := iter (fun k1 => zg9 k0 k1) K
theorem zQp (K : Nat) (n0 : Nat) : ∀ n, evV (zfm zi) K Tryz.f32 0 zaO [1, 1, 0, 1, 0, 0, 1, 0, 0, 1, 1, 0] [n0] zyV n = iter (fun k1 => zg9 (evV (zfm zi) K Tryz.f32 0 zaO [1, 1, 0, 1, 0] [] zyW n0) k1) n := zp fun n1 (v0, v3, v4) => by kernel_rfl
def zdg (L1 : zdf → Option (Bool × Unit)) (k0 : yI → Option (Bool × Unit)) : yI → Option (Bool × Unit) := fun (v0, v3) =>
  bif decide (v3 < ((List.length v0) : Int)) then inR v3 ((List.length v0) : Int) (Option.bind (zi ((ix jQ v0 v3).1, ())) fun q0 => bif q0.1 then inR v3 ((List.length v0) : Int) (Option.bind (zi ((ix jQ v0 v3).2.1, ())) fun q1 => bif q1.1 then inR v3 ((List.length v0) : Int) (bif decide ((ix jQ v0 v3).2.2.1 < 0) then some (false, ()) else inR v3 ((List.length v0) : Int) (bif decide ((ix jQ v0 v3).2.2.1 > 3) then some (false, ()) else L1 (v0, v3, 0))) else some (false, ())) else some (false, ())) else some (true, ())
abbrev znN (K : Nat) : yI → Option (Bool × Unit) := iter (fun k0 => zdg zi (zha K k0) k0) K
theorem zQq (K : Nat) : ∀ n, evV (zfm zi) K Tryz.f32 0 zaO [1, 1, 0, 1, 0] [] zyW n = iter (fun k0 => zdg zi (zha K k0) k0) n := vj (B := fun L1 k0 => zdg zi L1 k0) (V1 := fun n0 => evV (zfm zi) K Tryz.f32 0 zaO [1, 1, 0, 1, 0, 0, 1, 0, 0, 1, 1, 0] [n0] zyV K) (W1 := fun k0 => (zha K k0)) (fun n0 => zQp zi K n0 K) fun n0 (v0, v3) => by kernel_rfl
def zkO (L0 : yI → Option (Bool × Unit)) : ((List qW) × Unit) → Option (Bool × Unit) := fun (x0, ()) =>
  bif decide (((List.length x0) : Int) < 1) then some (false, ()) else bif decide (((List.length x0) : Int) > 8) then some (false, ()) else L0 (x0, 0)
theorem zTB (K : Nat) : evF (zfm zi) K Tryz.f32 0 zq2 zaO = zkO (znN zi K) := tr1 (T := zkO) (zQq zi K K) fun (x0, ()) => by kernel_rfl
end
def zcA : zC0 := zkO (znN jH K0)
theorem zTC : Sd Tryz.prog E0 (zoV zcA) := mkS (l := [zcm jH]) ⟨zBm, trivial⟩ Tryz.func32 (by kernel_rfl) (zTB jH K0)
section
def zFX : (Int × Unit) → Option (zu × Unit) := fun (x0, ()) =>
  bif decide (wU x0 < 0) then none else some ((0, wU (1 * 2 ^ min (Int.toNat (wU x0)) (IntKind.bits IntKind.u64)), ()), ())
theorem z20 (K : Nat) : evF (En E0 false []) K Tryz.f97 0 zDk zDl = zFX := funext fun (x0, ()) => by kernel_rfl
end
def zfn : zPb := zFX
theorem z21 : Sd Tryz.prog E0 (zzP zfn) := mkS (l := []) trivial Tryz.func97 (by kernel_rfl) (z20 K0)
section
abbrev zNT : Env := (En E0 false [])
abbrev zhb : Type := (List zu) × Int × zu
abbrev zVW : zhb → St := fun (v0, v5, o0) => St.mk [(0, AV.dat (Ty.sl zr) v0), (3, AV.bp 0 []), (5, AV.dat tI v5)] [Obj.bx (AV.dat zr o0) false]
def zhc (k0 : zhb → Option (Int × Unit)) : zhb → Option (Int × Unit) := fun (v0, v5, o0) =>
  bif decide (v5 < ((List.length v0) : Int)) then inR v5 ((List.length v0) : Int) (bif eqI zr (ix yj v0 v5) o0 then some (v5, ()) else k0 (v0, wI (v5 + 1), o0)) else some ((-1), ())
abbrev zHH (K : Nat) : zhb → Option (Int × Unit) := iter (zhc) K
theorem zVX (K : Nat) : ∀ n, evV (zNT) K Tryz.f96 0 zqA [1, 0, 1, 0] [] zVW n = iter (zhc) n := zp fun n0 (v0, v5, o0) => by kernel_rfl
def zBn (L0 : zhb → Option (Int × Unit)) : ((List zu) × (zu × Unit)) → Option (Int × Unit) := fun (x0, x1, ()) =>
  L0 (x0, 0, x1)
theorem zZ9 (K : Nat) : evF (zNT) K Tryz.f96 0 zzO zqA = zBn (zHH K) := tr1 (T := zBn) (zVX K K) fun (x0, x1, ()) => by kernel_rfl
end
def zgs : zNg := zBn (zHH K0)
theorem z0a : Sd Tryz.prog E0 (zwR zgs) := mkS (l := []) trivial Tryz.func96 (by kernel_rfl) (zZ9 K0)
section
def zJS : (zu × (Int × Unit)) → Option (Bool × Unit) := fun (x0, x1, ()) =>
  bif decide (wU x1 < 0) then none else bif Int.tmod (Int.fdiv x0.2.1 (2 ^ min (Int.toNat (wU x1)) (IntKind.bits IntKind.u64))) 2 == 1 then some (true, ()) else some (false, ())
theorem z4F (K : Nat) : evF (En E0 false []) K Tryz.f98 0 zIp zIq = zJS := funext fun (x0, x1, ()) => by kernel_rfl
end
def vS : zIr := zJS
theorem zR5 : Sd Tryz.prog E0 (zm0 vS) := mkS (l := []) trivial Tryz.func98 (by kernel_rfl) (z4F K0)
section
abbrev zR6 : Env := (En E0 false [])
abbrev zla : Type := (List qi) × Int × Int
abbrev z0b : zla → St := fun (v0, v1, v5) => St.mk [(0, AV.dat (Ty.sl y5) v0), (1, AV.dat tI v1), (5, AV.dat tI v5)] []
def zlb (k0 : zla → Option (Bool × Unit)) : zla → Option (Bool × Unit) := fun (v0, v1, v5) =>
  bif decide (v5 < ((List.length v0) : Int)) then inR v5 ((List.length v0) : Int) (bif (ix jA v0 v5).1 == v1 then some (true, ()) else k0 (v0, v1, wI (v5 + 1))) else some (false, ())
abbrev zNU (K : Nat) : zla → Option (Bool × Unit) := iter (zlb) K
theorem z0c (K : Nat) : ∀ n, evV (zR6) K Tryz.f99 0 zyj [1, 0, 1, 0] [] z0b n = iter (zlb) n := zp fun n0 (v0, v1, v5) => by kernel_rfl
def zJT (L0 : zla → Option (Bool × Unit)) : ((List qi) × (Int × Unit)) → Option (Bool × Unit) := fun (x0, x1, ()) =>
  L0 (x0, x1, 0)
theorem z4G (K : Nat) : evF (zR6) K Tryz.f99 0 zIs zyj = zJT (zNU K) := tr1 (T := zJT) (z0c K K) fun (x0, x1, ()) => by kernel_rfl
end
def zcS : zRJ := zJT (zNU K0)
theorem z4H : Sd Tryz.prog E0 (zDm zcS) := mkS (l := []) trivial Tryz.func99 (by kernel_rfl) (z4G K0)
section
variable (jB : zPb) (jh : zNg) (zZ : zIr) (qV : zRJ)
abbrev zcC : Env := (En E0 false [zzP jB, zwR jh, zm0 zZ, zDm qV])
abbrev zfo : Type := (List qi) × (List zu) × Int × Int
abbrev zFY : zfo → St := fun (v0, v1, v8, v9) => St.mk [(0, AV.dat (Ty.sl y5) v0), (1, AV.dat (Ty.sl zr) v1), (8, AV.dat tI v8), (9, AV.dat tI v9)] []
abbrev zaS : Type := (List qi) × (List zu) × Int
abbrev zsF : zaS → St := fun (v0, v1, v8) => St.mk [(0, AV.dat (Ty.sl y5) v0), (1, AV.dat (Ty.sl zr) v1), (8, AV.dat tI v8)] []
abbrev zfp : Type := (List qi) × (List zu) × Int × Int
abbrev zTD : zfp → St := fun (v0, v1, v2, v7) => St.mk [(0, AV.dat (Ty.sl y5) v0), (1, AV.dat (Ty.sl zr) v1), (2, AV.dat tI v2), (7, AV.dat tI v7)] []
def zcD (k1 : zaS → Option (Bool × Unit)) (k2 : zfo → Option (Bool × Unit)) : zfo → Option (Bool × Unit) := fun (v0, v1, v8, v9) =>
  bif decide (v9 < 64) then inR v8 ((List.length v1) : Int) (Option.bind (zZ (ix yj v1 v8, v9, ())) fun q4 => bif q4.1 then Option.bind (qV (v0, v9, ())) fun q5 => bif q5.1 then k2 (v0, v1, v8, wI (v9 + 1)) else some (false, ()) else k2 (v0, v1, v8, wI (v9 + 1))) else k1 (v0, v1, wI (v8 + 1))
abbrev zsG (K : Nat) (k1 : zaS → Option (Bool × Unit)) : zfo → Option (Bool × Unit) := iter (fun k2 => zcD zZ qV k1 k2) K
theorem zTE (K : Nat) (n1 : Nat) : ∀ n, evV (zcC jB jh zZ qV) K Tryz.f33 0 yR [1, 1, 1, 0, 1, 0, 0, 1, 0, 0, 1, 0] [n1] zFY n = iter (fun k2 => zcD zZ qV (evV (zcC jB jh zZ qV) K Tryz.f33 0 yR [1, 1, 1, 0, 1, 0] [] zsF n1) k2) n := zp fun n2 (v0, v1, v8, v9) => by kernel_rfl
def zfq (L2 : zfo → Option (Bool × Unit)) (k1 : zaS → Option (Bool × Unit)) : zaS → Option (Bool × Unit) := fun (v0, v1, v8) =>
  bif decide (v8 < ((List.length v1) : Int)) then L2 (v0, v1, v8, 0) else some (true, ())
abbrev zkP (K : Nat) : zaS → Option (Bool × Unit) := iter (fun k1 => zfq (zsG zZ qV K k1) k1) K
theorem zTF (K : Nat) : ∀ n, evV (zcC jB jh zZ qV) K Tryz.f33 0 yR [1, 1, 1, 0, 1, 0] [] zsF n = iter (fun k1 => zfq (zsG zZ qV K k1) k1) n := vj (B := fun L2 k1 => zfq L2 k1) (V1 := fun n1 => evV (zcC jB jh zZ qV) K Tryz.f33 0 yR [1, 1, 1, 0, 1, 0, 0, 1, 0, 0, 1, 0] [n1] zFY K) (W1 := fun k1 => (zsG zZ qV K k1)) (fun n1 => zTE jB jh zZ qV K n1 K) fun n1 (v0, v1, v8) => by kernel_rfl
def zfr (L1 : zaS → Option (Bool × Unit)) (k0 : zfp → Option (Bool × Unit)) : zfp → Option (Bool × Unit) := fun (v0, v1, v2, v7) =>
  bif decide (v7 < ((List.length v0) : Int)) then inR v7 ((List.length v0) : Int) (bif decide ((ix jA v0 v7).1 < 0) then some (false, ()) else inR v7 ((List.length v0) : Int) (bif decide ((ix jA v0 v7).1 > 63) then some (false, ()) else inR v7 ((List.length v0) : Int) (bif decide ((ix jA v0 v7).2.1 < 0) then some (false, ()) else inR v7 ((List.length v0) : Int) (bif decide ((ix jA v0 v7).2.1 ≥ v2) then some (false, ()) else bif decide (v7 > 0) then inR (wI (v7 - 1)) ((List.length v0) : Int) (inR v7 ((List.length v0) : Int) (bif decide ((List.getD v0 (Int.toNat (wI (v7 - 1))) (zb y5)).1 ≥ (ix jA v0 v7).1) then some (false, ()) else inR v7 ((List.length v0) : Int) (Option.bind (jB ((ix jA v0 v7).1, ())) fun q0 => Option.bind (jh (v1, q0.1, ())) fun q1 => bif decide (q1.1 < 0) then some (false, ()) else k0 (v0, v1, v2, wI (v7 + 1))))) else inR v7 ((List.length v0) : Int) (Option.bind (jB ((ix jA v0 v7).1, ())) fun q2 => Option.bind (jh (v1, q2.1, ())) fun q3 => bif decide (q3.1 < 0) then some (false, ()) else k0 (v0, v1, v2, wI (v7 + 1))))))) else L1 (v0, v1, 0)
abbrev zsH (K : Nat) : zfp → Option (Bool × Unit) := iter (fun k0 => zfr jB jh (zkP zZ qV K) k0) K
theorem zTG (K : Nat) : ∀ n, evV (zcC jB jh zZ qV) K Tryz.f33 0 yR [1, 1, 0, 1, 0] [] zTD n = iter (fun k0 => zfr jB jh (zkP zZ qV K) k0) n := vj (B := fun L1 k0 => zfr jB jh L1 k0) (V1 := fun n0 => evV (zcC jB jh zZ qV) K Tryz.f33 0 yR [1, 1, 1, 0, 1, 0] [] zsF K) (W1 := fun k0 => (zkP zZ qV K)) (fun n0 => zTF jB jh zZ qV K K) fun n0 (v0, v1, v2, v7) => by kernel_rfl
def zox (L0 : zfp → Option (Bool × Unit)) : ((List qi) × ((List zu) × (Int × Unit))) → Option (Bool × Unit) := fun (x0, x1, x2, ()) =>
  bif decide (((List.length x0) : Int) > 8) then some (false, ()) else L0 (x0, x1, x2, 0)
theorem zX4 (K : Nat) : evF (zcC jB jh zZ qV) K Tryz.f33 0 zwk yR = zox (zsH jB jh zZ qV K) := tr1 (T := zox) (zTG jB jh zZ qV K K) fun (x0, x1, x2, ()) => by kernel_rfl
end
def zeJ : zKo := zox (zsH zfn zgs vS zcS K0)
theorem zX5 : Sd Tryz.prog E0 (ztc zeJ) := mkS (l := [zzP zfn, zwR zgs, zm0 vS, zDm zcS]) ⟨z21, z0a, zR5, z4H, trivial⟩ Tryz.func33 (by kernel_rfl) (zX4 zfn zgs vS zcS K0)
section
def zBo : (Int × Unit) → Option (Bool × Unit) := fun (x0, ()) =>
  bif decide (x0 ≥ 0) then bif decide (x0 ≤ 12) then some (true, ()) else some (false, ()) else some (false, ())
theorem z0d (K : Nat) : evF (En E0 false []) K Tryz.f100 0 zzQ zzR = zBo := funext fun (x0, ()) => by kernel_rfl
end
def zb5 : zNh := zBo
theorem z0e : Sd Tryz.prog E0 (zwS zb5) := mkS (l := []) trivial Tryz.func100 (by kernel_rfl) (z0d K0)
section
variable (vH : zNh)
abbrev zLp : Env := (En E0 false [zwS vH])
abbrev zfs : Type := (List zc0) × Int × Int
abbrev zTH : zfs → St := fun (v0, v3, v4) => St.mk [(0, AV.dat (Ty.sl zgH) v0), (3, AV.dat tU v3), (4, AV.dat tI v4)] []
def zcE (k0 : zfs → Option (Bool × Unit)) : zfs → Option (Bool × Unit) := fun (v0, v3, v4) =>
  bif decide (v4 < ((List.length v0) : Int)) then inR v4 ((List.length v0) : Int) (Option.bind (vH ((ix jl v0 v4).1, ())) fun q0 => bif q0.1 then Option.bind (vH ((ix jl v0 v4).2.1, ())) fun q1 => bif q1.1 then Option.bind (vH ((ix jl v0 v4).2.2.1, ())) fun q2 => bif q2.1 then Option.bind (vH ((ix jl v0 v4).2.2.2.1, ())) fun q3 => bif q3.1 then Option.bind (vH ((ix jl v0 v4).2.2.2.2.1, ())) fun q4 => bif q4.1 then bif decide ((ix jl v0 v4).2.2.2.2.2.1 > v3) then some (false, ()) else k0 (v0, wU (v3 - (ix jl v0 v4).2.2.2.2.2.1), wI (v4 + 1)) else some (false, ()) else some (false, ()) else some (false, ()) else some (false, ()) else some (false, ())) else bif decide (((List.length v0) : Int) > 0) then bif decide (0 < ((List.length v0) : Int)) then bif decide ((ix jl v0 0).1 > 0) then some (true, ()) else some (false, ()) else none else some (false, ())
abbrev zFZ (K : Nat) : zfs → Option (Bool × Unit) := iter (zcE vH) K
theorem zTI (K : Nat) : ∀ n, evV (zLp vH) K Tryz.f34 0 zn6 [1, 1, 0, 1, 0] [] zTH n = iter (zcE vH) n := zp fun n0 (v0, v3, v4) => by kernel_rfl
def zxY (L0 : zfs → Option (Bool × Unit)) : ((List zc0) × Unit) → Option (Bool × Unit) := fun (x0, ()) =>
  L0 (x0, 4611686018427387904, 0)
theorem zX6 (K : Nat) : evF (zLp vH) K Tryz.f34 0 zwl zn6 = zxY (zFZ vH K) := tr1 (T := zxY) (zTI vH K K) fun (x0, ()) => by kernel_rfl
end
def zeK : zKp := zxY (zFZ zb5 K0)
theorem zX7 : Sd Tryz.prog E0 (ztd zeK) := mkS (l := [zwS zb5]) ⟨z0e, trivial⟩ Tryz.func34 (by kernel_rfl) (zX6 zb5 K0)
end
end Go.Proofs.YtaokpakfhdeiiaaGreatDoor
end
