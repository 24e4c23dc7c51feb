import Derived.Test.YtaokpakfhdeiiaaGreatDoorNed
import Derived.Shelf.Spec.BitsCarry
section
namespace Go.Proofs.YtaokpakfhdeiiaaGreatDoor
open Go.Ev
set_option linter.unusedVariables false
set_option linter.unusedSimpArgs false
theorem zRk {l : List jm} (hl : l.length ≤ Go.maxLen) : zga (l, ()) = some (l.all zqD, ()) := by
  rw [qd]
  simp only [zga, zxO]
  rw [zFv (p := fun x => !zqD x) hl fun x _ => zVm x, Option.bind_some, ← yi]
  cases l.any fun x => !zqD x <;> rfl
theorem zWS (a b : qX) : eqI zW a b = ((a.1 : Int) == b.1 && (a.2.1 : Int) == b.2.1) := by
  show cond ((a.1 : Int) == b.1) (cond ((a.2.1 : Int) == b.2.1) true false) false = _
  cases ((a.1 : Int) == b.1) <;> cases ((a.2.1 : Int) == b.2.1) <;> rfl
def zL6 (x : z3) : Bool := bif x.1 then zHm x.2.1 && (zHm x.2.2.1 && zUa x.2.2.2.1) else eqI qj x (zb qj)
theorem zRl (x : z3) : zdq (x, ()) = some (!zL6 x, ()) := by
  rw [qd]
  simp only [zdq, zxS, zWQ, zWR, Option.bind_some, zL6]
  grind
def zsF (a b : z3) : Bool := a.1 && (eqI zW a.2.1 b.2.1 && (a.2.2.2.1 : Int) == b.2.2.2.1)
theorem zNE (x : z3) (r : qX) (d : Int) : zc4 (x, some r, some d, ()) = some (x.1 && (eqI zW x.2.1 r && (x.2.2.2.1 : Int) == d), ()) := by
  rw [qd]
  simp only [zc4, zsh, Option.bind_some]
  grind
theorem zWT {α : Type} {d : α} {p : α → Bool} : ∀ (l : List α) (i : Nat) (a : Int), i < l.length → p (l.getD i d) = true → ((zar p l a) == a + (i : Int)) = qM (fun j => !p (l.getD j d)) 0 i := by
  intro l
  induction l with
  | nil => intro i a h; simp at h
  | cons x l ih =>
    intro i a h hp
    cases i with
    | zero =>
      have hx : p x = true := hp
      simp only [zar, hx, cond_true, qM]
      simp
    | succ i =>
      have h' : i < l.length := by simpa using h
      have hp' : p (l.getD i d) = true := hp
      have := ih i (a + 1) h' hp'
      have e : a + 1 + (i : Int) = a + ((i + 1 : Nat) : Int) := by omega
      rw [e] at this
      simp only [zar]
      rw [Bool.eq_iff_iff, yb]
      rw [Bool.eq_iff_iff, yb] at this
      cases hx : p x with
      | true =>
        simp only [cond_true]
        constructor
        · intro h1
          have := eq_of_beq h1
          omega
        · intro h1
          have h2 : (!p x) = true := h1 0 (by omega) (by omega)
          rw [hx] at h2; cases h2
      | false =>
        simp only [cond_false]
        rw [this]
        constructor
        · intro h1 j _ h2
          cases j with
          | zero => show (!p x) = true; rw [hx]; rfl
          | succ j => exact h1 j (by omega) (by omega)
        · intro h1 j _ h2
          exact h1 (j + 1) (by omega) (by omega)
def zL7 (l : List z3) : Bool := qM (fun i => zL6 (l.getD i zak) && bif (l.getD i zak).1 then qM (fun j => !zsF (l.getD j zak) (l.getD i zak)) 0 i else true) 0 (l.length - 0)
theorem zRm {l : List z3} (hl : l.length ≤ Go.maxLen) : zjN (l, ()) = some (zL7 l, ()) := by
  rw [qd]
  exact zas (B := zgf zdq zdr) (i0 := 0) hl (Nat.zero_le _) (fun i => (l, l, (l.length : Int), i)) (fun k i h1 h2 => by
    simp only [zgf]
    rw [ltT h2, qo h2]
    simp only [vM, zRl, Option.bind_some, cond_true]
    cases he : zL6 (l.getD i zak) with
    | false => rfl
    | true =>
      cases hs : (l.getD i zak).1 with
      | false => rfl
      | true =>
        have hi : zdr (l, (l.getD i zak).2.1, (l.getD i zak).2.2.2.1, ()) = some (zar (fun x => zsF x (l.getD i zak)) l 0, ()) := by
          simp only [zdr, zxT]
          rw [zyL (p := fun x => zsF x (l.getD i zak)) hl fun x _ => zNE x _ _]
          rfl
        have hp : zsF (l.getD i zak) (l.getD i zak) = true := by
          unfold zsF; rw [zWS, hs]; simp
        have := zWT (d := zak) (p := fun x => zsF x (l.getD i zak)) l i 0 h2 hp
        rw [Int.zero_add] at this
        rw [hi, ← this]
        simp only [Option.bind_some, Bool.not_true, cond_false, cond_true, Bool.true_and, bne]
        cases (zar (fun x => zsF x (l.getD i zak)) l 0 == (i : Int)) <;> rfl) (fun k => by simp only [zgf]; rw [ltF]; rfl)
def zJW (k n : Int) (r : qX) : Bool := ((k == 1 || k == 3) && (zbo n && eqI zW r (zb zW))) || (k == 2 && (n == 0 && zHm r))
def zCO (x : z8) : Bool := bif x.1 then zD5 x.2.1 && zJW x.2.2.1 x.2.2.2.1 x.2.2.2.2.1 else eqI qi x (zb qi)
theorem zRn (x : zBR) : y8 (x, ()) = some (zJW x.1 x.2.1 x.2.2.1, ()) := by
  rw [qd]
  simp only [y8, zjO, zT9, Option.bind_some, zJW, zHm]
  grind
theorem zPk (x : z8) : zeg (x, ()) = some (!zCO x, ()) := by
  rw [qd]
  have h : zp5 (x, ()) = some ((x.2.2.1, x.2.2.2.1, x.2.2.2.2.1, ()), ()) := rfl
  simp only [zeg, zuF, zyN, Option.bind_some, zCO, h, zRn]
  grind
theorem zPl {l : List z8} (hl : l.length ≤ Go.maxLen) : zeh (l, ()) = some (l.all zCO, ()) := by
  rw [qd]
  simp only [zeh, zuH]
  rw [zq8 (p := fun x => !zCO x) hl fun x _ => zPk x, Option.bind_some, ← yi]
  cases l.any fun x => !zCO x <;> rfl
def zRo (c : Int) : Bool := decide (32 ≤ c ∧ c ≤ 126)
theorem zWU (c : Int) : zgj (c, ()) = some (zRo c, ()) := by simp only [zgj, zxV, zRo]; grind
def zUb (s : ByteArray) : Bool := decide (1 ≤ s.size ∧ s.size ≤ 40) && ((chr s 0 != 32 && chr s (s.size - 1) != 32) && qM (fun i => zRo (chr s i)) 0 s.size)
theorem zL8 (a b : ByteArray) (h : a.size < b.size) : (ByteArray.toList a == ByteArray.toList b) = false := by
  rw [beq_eq_false_iff_ne]
  intro e
  rw [Go.ByteArray.toList_eq, Go.ByteArray.toList_eq] at e
  have := congrArg List.length e
  rw [size_eq, size_eq] at this
  omega
theorem zXx (s : ByteArray) : ∀ (n : Nat) (t : ByteArray), t.size ≤ n → ∀ fuel, n < fuel → ∃ r, iter zS fuel (t, 32) = some (r, ()) ∧ r.size ≤ t.size ∧ (chr t 0 ≠ 32 → r = t) ∧ (1 ≤ t.size → chr t 0 = 32 → r.size < t.size) := by
  intro n
  induction n with
  | zero =>
    intro t ht fuel hf
    obtain ⟨f, rfl⟩ : ∃ f, fuel = f + 1 := ⟨fuel - 1, by omega⟩
    refine ⟨t, ?_, Nat.le_refl _, fun _ => rfl, fun h => by omega⟩
    show zS _ (t, 32) = _
    simp only [zS]
    rw [decide_eq_false (by omega)]; rfl
  | succ n ih =>
    intro t ht fuel hf
    obtain ⟨f, rfl⟩ : ∃ f, fuel = f + 1 := ⟨fuel - 1, by omega⟩
    by_cases h0 : t.size = 0
    · refine ⟨t, ?_, Nat.le_refl _, fun _ => rfl, fun h => by omega⟩
      show zS _ (t, 32) = _
      simp only [zS]
      rw [decide_eq_false (by omega)]; rfl
    have hc : ((UInt8.toNat (List.getD t.data.toList (Int.toNat 0) 0) : Nat) : Int) = chr t 0 := rfl
    by_cases h32 : chr t 0 = 32
    · have hsz : (ByteArray.extract t (Int.toNat 1) t.size).size = t.size - 1 := by
        rw [ByteArray.size_extract]
        show min t.size t.size - 1 = _
        omega
      obtain ⟨r, h1, h2, -⟩ := ih (ByteArray.extract t (Int.toNat 1) t.size) (by rw [hsz]; omega) f (by omega)
      refine ⟨r, ?_, by omega, fun h => absurd h32 h, fun _ _ => by omega⟩
      show zS (iter zS f) (t, 32) = _
      simp only [zS]
      rw [hc, h32, h1]
      grind
    · refine ⟨t, ?_, Nat.le_refl _, fun _ => rfl, fun _ h => absurd h h32⟩
      show zS (iter zS f) (t, 32) = _
      simp only [zS]
      rw [hc, decide_eq_true (by omega), decide_eq_true (by omega)]
      grind
theorem zXy : ∀ (n : Nat) (t : ByteArray), t.size ≤ n → n ≤ 100 → ∀ fuel, n < fuel → ∃ r, iter zN fuel (t, 32) = some (r, ()) ∧ r.size ≤ t.size ∧ (chr t (t.size - 1) ≠ 32 → r = t) ∧ (1 ≤ t.size → chr t (t.size - 1) = 32 → r.size < t.size) := by
  intro n
  induction n with
  | zero =>
    intro t ht _ fuel hf
    obtain ⟨f, rfl⟩ : ∃ f, fuel = f + 1 := ⟨fuel - 1, by omega⟩
    refine ⟨t, ?_, Nat.le_refl _, fun _ => rfl, fun h => by omega⟩
    show zN _ (t, 32) = _
    simp only [zN]
    rw [decide_eq_false (by omega)]; rfl
  | succ n ih =>
    intro t ht hn fuel hf
    obtain ⟨f, rfl⟩ : ∃ f, fuel = f + 1 := ⟨fuel - 1, by omega⟩
    by_cases h0 : t.size = 0
    · refine ⟨t, ?_, Nat.le_refl _, fun _ => rfl, fun h => by omega⟩
      show zN _ (t, 32) = _
      simp only [zN]
      rw [decide_eq_false (by omega)]; rfl
    have hw : wI ((t.size : Int) - 1) = ((t.size - 1 : Nat) : Int) := zMF (by omega) (by unfold Go.maxLen; omega)
    have hc : ((UInt8.toNat (List.getD t.data.toList (Int.toNat ((t.size - 1 : Nat) : Int)) 0) : Nat) : Int) = chr t (t.size - 1) := by rw [Int.toNat_natCast]; rfl
    by_cases h32 : chr t (t.size - 1) = 32
    · have hsz : (ByteArray.extract t 0 (Int.toNat ((t.size - 1 : Nat) : Int))).size = t.size - 1 := by
        rw [ByteArray.size_extract, Int.toNat_natCast]
        omega
      obtain ⟨r, h1, h2, -⟩ := ih (ByteArray.extract t 0 (Int.toNat ((t.size - 1 : Nat) : Int))) (by rw [hsz]; omega) (by omega) f (by omega)
      refine ⟨r, ?_, by omega, fun h => absurd h32 h, fun _ _ => by omega⟩
      show zN (iter zN f) (t, 32) = _
      simp only [zN]
      rw [hw, hc, h32, h1, qo (by omega)]
      grind
    · refine ⟨t, ?_, Nat.le_refl _, fun _ => rfl, fun _ h => absurd h h32⟩
      show zN (iter zN f) (t, 32) = _
      simp only [zN]
      rw [hw, hc, qo (by omega), decide_eq_true (by omega)]
      grind
theorem zXl (s : ByteArray) (h : 1 ≤ s.size ∧ s.size ≤ 40) : ∃ r, zc5 (s, ByteArray.mk #[32], ()) = some (r, ()) ∧ (ByteArray.toList r == ByteArray.toList s) = (chr s 0 != 32 && chr s (s.size - 1) != 32) := by
  obtain ⟨r, h1, h2, h3, h4⟩ := zXy s.size s (Nat.le_refl _) (by omega) K0 (zPC (by unfold Go.maxLen; omega))
  obtain ⟨r', h5, h6, h7, h8⟩ := zXx s r.size r (Nat.le_refl _) K0 (zPC (by unfold Go.maxLen; omega))
  refine ⟨r', ?_, ?_⟩
  · simp only [zc5, zsk]
    have e0 : (ByteArray.toList s == ByteArray.toList (ByteArray.mk #[])) = false := by
      cases he : zL5 s with
      | false => exact he
      | true =>
        unfold zL5 at he
        have := eq_of_beq he
        rw [Go.ByteArray.toList_eq, Go.ByteArray.toList_eq] at this
        have h2 : s.size = 0 := by
          rw [← size_eq, this]; rfl
        omega
    have e1 : (ByteArray.toList (ByteArray.mk #[32]) == ByteArray.toList (ByteArray.mk #[])) = false := by
      rw [Go.ByteArray.toList_eq, Go.ByteArray.toList_eq]; rfl
    have p1 : vZ (s, 32, ()) = some (r, ()) := h1
    have p2 : yB (r, 32, ()) = some (r', ()) := h5
    have z1 : ((ByteArray.size (ByteArray.mk #[32]) : Nat) : Int) = 1 := rfl
    have z2 : ((UInt8.toNat (List.getD (Array.toList (ByteArray.data (ByteArray.mk #[32]))) (Int.toNat 0) 0) : Nat) : Int) = 32 := rfl
    rw [e0, e1, z1, z2, p1, Option.bind_some, p2]
    rfl
  · by_cases hl : chr s (s.size - 1) = 32
    · have := h4 h.1 hl
      rw [zL8 r' s (by omega), hl]; simp
    · obtain rfl := h3 hl
      by_cases hf : chr r 0 = 32
      · have := h8 h.1 hf
        rw [zL8 r' r (by omega), hf]; simp
      · rw [h7 hf]
        simp [hf, hl]
theorem zSA (s : ByteArray) : zh1 (s, ()) = some (zUb s, ()) := by
  rw [qd]
  simp only [zh1, zBh]
  unfold zUb
  by_cases hb : 1 ≤ s.size ∧ s.size ≤ 40
  · obtain ⟨r, h1, h2⟩ := zXl s hb
    rw [zL2 (by unfold Go.maxLen; omega) zWU, h1, zL1, ← h2]
    simp only [Option.bind_some]
    grind
  · grind
def zCP (x : qk) : Bool := bif x.1 then (zbo x.2.1 && (zbo x.2.2.1 && zbo x.2.2.2.1)) && zUb x.2.2.2.2.1 else eqI qu x (zb qu)
theorem zRp (x : qk) : zgk (x, ()) = some (!zCP x, ()) := by
  rw [qd]
  simp only [zgk, zxZ, zgi, zsj, zVl, zSA, Option.bind_some, zCP]
  grind
theorem zRq {l : List qk} (hl : l.length ≤ Go.maxLen) : zgl (l, ()) = some (l.all zCP, ()) := by
  rw [qd]
  simp only [zgl, zx1]
  rw [zq9 (p := fun x => !zCP x) hl fun x _ => zRp x, Option.bind_some, ← yi]
  cases l.any fun x => !zCP x <;> rfl
end Go.Proofs.YtaokpakfhdeiiaaGreatDoor
end
section
namespace Go.Proofs.YtaokpakfhdeiiaaGreatDoor
open Go.Ev
set_option linter.unusedVariables false
set_option linter.unusedSimpArgs false
abbrev M62 : Int := 4611686018427387904
abbrev U64 : Int := 18446744073709551616
def vf (x : Int) : Bool := decide (0 ≤ x ∧ x ≤ 3)
theorem zdD (x : Int) : z5 (x, ()) = some (vf x, ()) := by simp only [z5, zx2, vf]; grind
def zUc (a b : Int) : Int × Int × Unit := bif decide (a + b > M62) then (0, 7, ()) else (a + b, 0, ())
theorem zSB {a b : Int} (ha : 0 ≤ a) (hb : 0 ≤ b ∧ b < U64) : zfz (a, b, ()) = some (zUc a b) := by
  simp only [zfz, zBz, zAn, zCY, zUc, cond_true]
  have h0 : 0 ≤ (a + b) / 18446744073709551616 := by omega
  have h1 : ((a + b) / 18446744073709551616 != 0) = decide (18446744073709551616 ≤ a + b) := by
    rw [Bool.eq_iff_iff]; simp only [bne_iff_ne, ne_eq, decide_eq_true_eq]; omega
  have h2 : a + b < 18446744073709551616 → (a + b) % 18446744073709551616 = a + b := fun h => by omega
  unfold M62 at *
  unfold U64 at *
  grind
def zRr (a b : Int) : Int × Int × Unit := bif decide (a * b > M62) then (0, 7, ()) else (a * b, 0, ())
theorem zXz (a b : Nat) (ha : a < 18446744073709551616) (hb : b < 18446744073709551616) : zaI ((a : Int), (b : Int), ()) = some ((((a * b) / 18446744073709551616 : Nat) : Int), (((a * b) % 18446744073709551616 : Nat) : Int), ()) := by
  have e32 : ((2 : Int) ^ min (Int.toNat 32) (Go.IntKind.bits .u64)) = 4294967296 := rfl
  have hand : ∀ x : Nat, x < 18446744073709551616 → wU (BitVec.toNat (BitVec.ofInt (Go.IntKind.bits .u64) (x : Int) &&& BitVec.ofInt (Go.IntKind.bits .u64) 4294967295) : Int) = ((x % 4294967296 : Nat) : Int) := fun x hx => by
    have h1 : BitVec.ofInt (Go.IntKind.bits .u64) 4294967295 = BitVec.ofNat 64 4294967295 := rfl
    rw [zto, h1]
    have h2 : (BitVec.ofNat 64 x &&& BitVec.ofNat 64 4294967295).toNat = x % 4294967296 := by
      rw [BitVec.toNat_and, BitVec.toNat_ofNat, BitVec.toNat_ofNat, Nat.mod_eq_of_lt (show x < 2 ^ 64 by omega)]
      exact Nat.and_two_pow_sub_one_eq_mod x 32
    have h3 : ((BitVec.ofNat 64 x &&& BitVec.ofNat 64 4294967295 : BitVec (Go.IntKind.bits .u64)).toNat : Int) = ((x % 4294967296 : Nat) : Int) := congrArg _ h2
    exact (congrArg wU h3).trans (zPF (by omega))
  have hdiv : ∀ x : Nat, Int.fdiv (x : Int) 4294967296 = ((x / 4294967296 : Nat) : Int) := fun x => by
    rw [Int.fdiv_eq_ediv_of_nonneg _ (by omega)]; rfl
  have hw : ∀ x : Nat, x < 18446744073709551616 → wU (x : Int) = (x : Int) := fun x hx => zPF (by omega)
  have hmod : wU ((a : Int) * (b : Int)) = (((a * b) % 18446744073709551616 : Nat) : Int) := by
    rw [show ((a : Int) * (b : Int)) = ((a * b : Nat) : Int) by simp]
    show ((a * b : Nat) : Int) % ((2 ^ 64 : Nat) : Int) = _
    rfl
  simp only [zaI, zlJ, e32]
  have ha1 : a / 4294967296 ≤ 4294967295 := by omega
  have ha0 : a % 4294967296 ≤ 4294967295 := by omega
  have hb1 : b / 4294967296 ≤ 4294967295 := by omega
  have hb0 : b % 4294967296 ≤ 4294967295 := by omega
  have hp := Nat.mul_le_mul ha1 hb1
  have hq := Nat.mul_le_mul ha1 hb0
  have hr := Nat.mul_le_mul ha0 hb1
  have hs := Nat.mul_le_mul ha0 hb0
  have hab : a * b = (a / 4294967296 * (b / 4294967296)) * 18446744073709551616 + (a / 4294967296 * (b % 4294967296) + a % 4294967296 * (b / 4294967296)) * 4294967296 + a % 4294967296 * (b % 4294967296) := by
    conv => lhs; rw [← Nat.div_add_mod a 4294967296, ← Nat.div_add_mod b 4294967296]
    grind
  rw [hmod, hab, hand a ha, hand b hb, hdiv a, hdiv b]
  generalize a / 4294967296 = a1 at *
  generalize a % 4294967296 = a0 at *
  generalize b / 4294967296 = b1 at *
  generalize b % 4294967296 = b0 at *
  simp only [← Int.natCast_mul]
  generalize a1 * b1 = p at *
  generalize a1 * b0 = q at *
  generalize a0 * b1 = r at *
  generalize a0 * b0 = s at *
  rw [hw p (by omega), hw q (by omega), hw r (by omega), hw s (by omega), hdiv s]
  simp only [← Int.natCast_add]
  rw [hw (q + s / 4294967296) (by omega), hdiv (q + s / 4294967296), hand _ (by omega)]
  simp only [← Int.natCast_add]
  rw [hw (p + (q + s / 4294967296) / 4294967296) (by omega), hw ((q + s / 4294967296) % 4294967296 + r) (by omega), hdiv]
  simp only [← Int.natCast_add]
  rw [hw _ (by omega)]
  have : p + (q + s / 4294967296) / 4294967296 + ((q + s / 4294967296) % 4294967296 + r) / 4294967296 = (p * 18446744073709551616 + (q + r) * 4294967296 + s) / 18446744073709551616 := by omega
  rw [this]
theorem zRs {a b : Int} (ha : 0 ≤ a ∧ a < U64) (hb : 0 ≤ b ∧ b < U64) : zgo (a, b, ()) = some (zRr a b) := by
  obtain ⟨m, rfl⟩ := Int.eq_ofNat_of_zero_le ha.1
  obtain ⟨n, rfl⟩ := Int.eq_ofNat_of_zero_le hb.1
  unfold U64 at *
  simp only [zgo, zx7]
  rw [zXz m n (by omega) (by omega), Option.bind_some]
  unfold zRr M62
  have e : ((m : Int) * (n : Int)) = ((m * n : Nat) : Int) := by simp
  rw [e]
  generalize m * n = p
  by_cases h : p < 18446744073709551616
  · have h1 : p / 18446744073709551616 = 0 := by omega
    have h2 : p % 18446744073709551616 = p := by omega
    simp only [h1, h2]
    grind
  · have h1 : (((p / 18446744073709551616 : Nat) : Int) != 0) = true := by simp only [bne_iff_ne, ne_eq]; omega
    simp only [h1]
    grind
def zyP : Int → List Int → Int × Int × Unit
  | a, [] => (a, 0, ())
  | a, x :: l => bif decide (a + x > M62) then (0, 7, ()) else zyP (a + x) l
theorem zcU {σ α β ρ : Type} {B : (σ → Option ρ) → σ → Option ρ} {l : List β} (d : β) (I : Nat → α → Prop) (st : Int → α → σ) (G : List β → α → Option ρ) (hl : l.length ≤ Go.maxLen)
    (hin : ∀ k (i : Nat) x rest s, i < l.length → I i s → l.getD i d = x → x ∈ l → l.drop (i + 1) = rest → (∀ s', I (i + 1) s' → k (st (wI (i + 1)) s') = G rest s') → B k (st i s) = G (x :: rest) s) (hout : ∀ k s, I l.length s → B k (st l.length s) = G [] s) (s : α) (h0 : I 0 s) : iter B K0 (st 0 s) = G l s := by
  have := zkd (B := B) hl st (fun i s => G (l.drop i) s) I (fun k i s hi hI h => ?_) (fun k s hI => ?_) s h0
  · simpa using this
  · rw [zgI d hi]
    exact hin k i _ _ s hi hI rfl (vm hi) rfl fun s' hI' => h s' hI'
  · rw [hout _ _ hI, List.drop_of_length_le (Nat.le_refl _)]
theorem zvR {l : List Int} (hl : l.length ≤ Go.maxLen) (h : ∀ x ∈ l, 0 ≤ x ∧ x < U64) : jp (l, ()) = some (zyP 0 l) :=
  zcU (B := zjY zfz) (l := l) (α := Int) (0 : Int) (fun _ s => 0 ≤ s) (fun i s => (s, l, (l.length : Int), i)) (fun rest s => some (zyP s rest)) hl (fun k i x rest s hi hI hx hm hr hk => by
    simp only [zjY]
    have hxx := h x hm
    rw [ltT hi, qo hi, vM, hx, zSB hI hxx]
    simp only [cond_true, Option.bind_some, zUc, zyP]
    by_cases hb : s + x > M62
    · rw [decide_eq_true hb]; rfl
    · rw [decide_eq_false hb]
      exact hk (s + x) (by omega)) (fun k s _ => by simp only [zjY]; rw [ltF]; rfl) 0 (Int.le_refl 0)
def zNF (a b : zD) : Bool := decide (a.1 ≤ b.1) && (List.range' 0 64).all fun i => !hasB a.2.1 i || hasB b.2.1 i
def zL9 (a : zD) : Prop := 0 ≤ a.2.1 ∧ a.2.1 < U64
theorem zSC {a b : zD} (ha : zL9 a) (hb : zL9 b) : zh4 (a, b, ()) = some (zNF a b, ()) := by
  rw [qd]
  simp only [zh4, zBu]
  unfold zNF
  unfold zL9 U64 at *
  obtain ⟨m, hm⟩ := Int.eq_ofNat_of_zero_le ha.1
  obtain ⟨n, hn⟩ := Int.eq_ofNat_of_zero_le hb.1
  have h1 := zIq m n (by omega) (by omega)
  unfold zkG at h1
  have h2 : (wU (BitVec.toNat (BitVec.ofInt (Go.IntKind.bits .u64) (a.2.1 : Int) &&& ~~~BitVec.ofInt (Go.IntKind.bits .u64) (b.2.1 : Int)) : Int) == 0) = (List.range' 0 64).all fun i => !hasB a.2.1 i || hasB b.2.1 i := by
    rw [hm, hn]
    have h3 : ∀ z : Int, (z != 0) = !(z == 0) := fun z => rfl
    rw [h3] at h1
    have h4 := congrArg (!·) h1
    simp only [Bool.not_not] at h4
    exact h4
  rw [h2]
  grind
theorem zMa (x : Int) : zcS (x, ()) = some (zbo x, ()) := by simp only [zcS, zDO, zbo]; grind
def zMb (x : zsO) : Bool := vf x.1 && (decide (x.2.1 ≤ M62) && decide (-1 ≤ x.2.2.1 ∧ x.2.2.1 ≤ 127))
theorem zSD (x : zsO) : zh2 (x, ()) = some (zMb x, ()) := by
  rw [qd]
  simp only [zh2, zBl, zdD, zMa, Option.bind_some, zMb, zbo]
  unfold M62
  grind
def zPH (x : zsO) : Bool := (x.2.1 : Int) == 0 && (x.2.2.1 : Int) == -1
theorem zRt (x : zsO) : zgm (x, ()) = some (zPH x, ()) := by
  rw [qd]
  simp only [zgm, zx3, zPH]
  have h : eqI ziP x (x.1, (zb ziP).2.1, -1, (zb ziP).2.2.2) = ((x.2.1 : Int) == 0 && (x.2.2.1 : Int) == -1) := by
    show cond ((x.1 : Int) == x.1) (cond ((x.2.1 : Int) == 0) (cond ((x.2.2.1 : Int) == -1) true false) false) false = _
    rw [beq_self_eq_true]
    cases ((x.2.1 : Int) == 0) <;> cases ((x.2.2.1 : Int) == -1) <;> rfl
  rw [h]
def zJX (x : zm) : Bool := (zbo x.2.1 && (zbo x.2.2.1 && (x.2.1 : Int) != x.2.2.1)) && ((zMb x.2.2.2.1 && zMb x.2.2.2.2.1) && !(zPH x.2.2.2.1 && zPH x.2.2.2.2.1))
def zCQ (x : zm) : Prop := (0 ≤ x.2.2.2.1.2.1 ∧ x.2.2.2.1.2.1 < U64) ∧ (0 ≤ x.2.2.2.2.1.2.1 ∧ x.2.2.2.2.1.2.1 < U64)
theorem zSE (x : zm) : zh3 (x, ()) = some (zJX x, ()) := by
  rw [qd]
  simp only [zh3, zBm, zMa, zSD, zRt, Option.bind_some, zJX]
  grind
def zvY (x : zm) : Bool := bif x.1 then zJX x else eqI zA x (zb zA)
theorem zMc (x : zm) : zbV (x, ()) = some (!zvY x, ()) := by
  rw [qd]
  simp only [zbV, zp8, zSE, Option.bind_some, zvY]
  grind
theorem zPm {l : List zm} (hl : l.length ≤ Go.maxLen) : zei (l, ()) = some (l.all zvY, ()) := by
  rw [qd]
  simp only [zei, zuI]
  rw [zqC (p := fun x => !zvY x) hl fun x _ => zMc x, Option.bind_some, ← yi]
  cases l.any fun x => !zvY x <;> rfl
end Go.Proofs.YtaokpakfhdeiiaaGreatDoor
end
section
namespace Go.Proofs.YtaokpakfhdeiiaaGreatDoor
open Go.Ev
set_option linter.unusedVariables false
set_option linter.unusedSimpArgs false
theorem zvZ {α : Type} {p : α → Bool} {x : α} {l : List α} : (x :: l).filter p = bif p x then x :: l.filter p else l.filter p := by
  rw [List.filter_cons]; cases p x <;> rfl
def jr {α : Type} (p : α → Bool) : Nat → List α → List Int
  | _, [] => []
  | i, x :: l => bif p x then (i : Int) :: jr p (i + 1) l else jr p (i + 1) l
theorem zvS {α : Type} {p : α → Bool} : ∀ (l : List α) (i : Nat), (jr p i l).length ≤ l.length
  | [], _ => Nat.le_refl _
  | x :: l, i => by
    have := zvS (p := p) l (i + 1)
    simp only [jr, List.length_cons]
    cases p x <;> simp <;> omega
theorem zvT {α : Type} {p : α → Bool} : ∀ (l : List α) (i : Nat), ∀ z ∈ jr p i l, ∃ j : Nat, z = (j : Int) ∧ i ≤ j ∧ j < i + l.length
  | [], i, z, h => by cases h
  | x :: l, i, z, h => by
    simp only [jr] at h
    have ih := zvT (p := p) l (i + 1)
    cases hp : p x with
    | true =>
      rw [hp, cond_true] at h
      rcases List.mem_cons.1 h with rfl | h
      · exact ⟨i, rfl, Nat.le_refl _, by simp⟩
      · obtain ⟨j, h1, h2, h3⟩ := ih z h
        exact ⟨j, h1, by omega, by simp; omega⟩
    | false =>
      rw [hp, cond_false] at h
      obtain ⟨j, h1, h2, h3⟩ := ih z h
      exact ⟨j, h1, by omega, by simp; omega⟩
theorem zu4 {α β : Type} {p q : α → Bool} {g : α → β} (d : α) (L : List α) : ∀ (l : List α) (i : Nat), (∀ j, j < l.length → L.getD (i + j) d = l.getD j d) → ((jr p i l).filter fun z => q (L.getD z.toNat d)).map (fun z => g (L.getD z.toNat d)) = (l.filter fun x => p x && q x).map g
  | [], _, _ => rfl
  | x :: l, i, h => by
    have ih := zu4 (p := p) (q := q) (g := g) d L l (i + 1) fun j hj => by
      have := h (j + 1) (by simp; omega)
      rw [show i + 1 + j = i + (j + 1) by omega, this]; rfl
    have h0 : L.getD i d = x := h 0 (by simp)
    simp only [jr, zvZ]
    cases hp : p x with
    | false => simp only [cond_false, Bool.false_and]; exact ih
    | true =>
      simp only [cond_true, Bool.true_and, zvZ, Int.toNat_natCast, h0]
      cases hq : q x with
      | false => exact ih
      | true => simp only [cond_true, List.map_cons, Int.toNat_natCast, h0, ih]
theorem zGY {l : List zm} {g : zm × Unit → Option (Bool × Unit)} : vI (some (l, some g, ()), ()) = some (true, ()) := rfl
theorem zIr {l : List zm} {g : zm × Unit → Option (Bool × Unit)} {p : zm → Bool} (hg : ∀ x, g (x, ()) = some (p x, ())) {i : Nat} (hi : i < l.length) : qB (some (l, some g, ()), (i : Int), ()) = some (p (l.getD i jX), ()) := by
  rw [qd]
  simp only [qB, ziZ, zGY, Option.bind_some, cond_true]
  rw [decide_eq_true (by omega), ltT hi, qo hi, vM, hg]
  simp only [cond_true, Option.bind_some]
theorem zEZ {l : List zm} {g : zm × Unit → Option (Bool × Unit)} {p : zm → Bool} (hl : l.length ≤ lim) (hg : ∀ x, g (x, ()) = some (p x, ())) : qW (some (l, some g, ()), ()) = some (jr p 0 l, ()) := by
  have hl' : l.length ≤ Go.maxLen := by unfold lim at hl; unfold Go.maxLen; omega
  have := zkd (B := za5 qB) (α := List Int) hl' (fun i o => (some (l, some g, ()), (l.length : Int), i, o)) (fun i o => some (o ++ jr p i (l.drop i), ())) (fun i o => o.length ≤ i) (fun k i o hi hI hk => by
    simp only [za5]
    rw [ltT hi, zIr hg hi, set1, zgI jX hi]
    simp only [cond_true, Option.bind_some, jr]
    rw [decide_eq_true (by simp; omega)]
    cases hp : p (l.getD i jX) with
    | false =>
      simp only [cond_false]
      exact hk o (by omega)
    | true =>
      simp only [cond_true]
      rw [hk _ (by simp; omega)]
      simp) (fun k o _ => by
    simp only [za5]
    rw [ltF, List.drop_of_length_le (Nat.le_refl _)]
    simp [jr]) [] (Nat.le_refl _)
  refine Eq.trans ?_ (this.trans ?_)
  · rfl
  · simp
theorem zRu {l : List zl} {g : zl × Unit → Option (Bool × Unit)} : vJ (some (l, some g, ()), ()) = some (true, ()) := rfl
theorem zSF {l : List zl} {g : zl × Unit → Option (Bool × Unit)} {p : zl → Bool} (hg : ∀ x, g (x, ()) = some (p x, ())) {i : Nat} (hi : i < l.length) : zaF (some (l, some g, ()), (i : Int), ()) = some (p (l.getD i qD), ()) := by
  rw [qd]
  simp only [zaF, zqm, zRu, Option.bind_some, cond_true]
  rw [decide_eq_true (by omega), ltT hi, qo hi, vM, hg]
  simp only [cond_true, Option.bind_some]
theorem zPn {l : List zl} {g : zl × Unit → Option (Bool × Unit)} {p : zl → Bool} (hl : l.length ≤ lim) (hg : ∀ x, g (x, ()) = some (p x, ())) : zcz (some (l, some g, ()), ()) = some (jr p 0 l, ()) := by
  have hl' : l.length ≤ Go.maxLen := by unfold lim at hl; unfold Go.maxLen; omega
  have := zkd (B := za7 zaF) (α := List Int) hl' (fun i o => (some (l, some g, ()), (l.length : Int), i, o)) (fun i o => some (o ++ jr p i (l.drop i), ())) (fun i o => o.length ≤ i) (fun k i o hi hI hk => by
    simp only [za7]
    rw [ltT hi, zSF hg hi, set1, zgI qD hi]
    simp only [cond_true, Option.bind_some, jr]
    rw [decide_eq_true (by simp; omega)]
    cases hp : p (l.getD i qD) with
    | false =>
      simp only [cond_false]
      exact hk o (by omega)
    | true =>
      simp only [cond_true]
      rw [hk _ (by simp; omega)]
      simp) (fun k o _ => by
    simp only [za7]
    rw [ltF, List.drop_of_length_le (Nat.le_refl _)]
    simp [jr]) [] (Nat.le_refl _)
  refine Eq.trans ?_ (this.trans ?_)
  · rfl
  · simp
def zAh (l : List zm) (c : Int) : Int × Int × Unit := bif vf c then zyP 0 ((l.filter fun x => x.1 && (x.2.2.2.1.1 : Int) == c).map fun x => x.2.2.2.1.2.1) else (0, 1, ())
theorem zSG (l : List zm) (hl : l.length ≤ lim) : zh6 (l, ()) = some (some (l, some zem, ()), ()) := by
  simp only [zh6, zBA, jh, zhv, zEX hl, Option.bind_some]
  rfl
theorem zPo (x : zm) : zem (x, ()) = some (x.1, ()) := by
  rw [qd]; rfl
theorem zRv {l : List zm} (hl : l.length ≤ lim) (h : ∀ x ∈ l, zCQ x) (c : Int) : zdw (l, c, ()) = some (zAh l c) := by
  have hl' : l.length ≤ Go.maxLen := by unfold lim at hl; unfold Go.maxLen; omega
  simp only [zdw, zqn, zdD, Option.bind_some]
  unfold zAh
  cases hc : vf c with
  | false => rfl
  | true =>
    simp only [cond_true]
    rw [zSG l hl, Option.bind_some, zEZ hl zPo, Option.bind_some]
    have hsl := zvS (p := fun x : zm => x.1) l 0
    have hsm := zvT (p := fun x : zm => x.1) l 0
    have hloop := zcU (B := zgv jp) (l := jr (fun x : zm => x.1) 0 l) (α := List Int) (0 : Int) (fun i o => o.length ≤ i ∧ ∀ x ∈ o, 0 ≤ x ∧ x < U64) (fun i o => (l, c, jr (fun x : zm => x.1) 0 l, ((jr (fun x : zm => x.1) 0 l).length : Int), i, o))
      (fun rest o => some (zyP 0 (o ++ (rest.filter fun z => ((l.getD z.toNat jX).2.2.2.1.1 : Int) == c).map fun z => (l.getD z.toNat jX).2.2.2.1.2.1))) (by omega) (fun k i x rest o hi hI hx hm hr hk => by
        simp only [zgv]
        obtain ⟨j, rfl, -, hj⟩ := hsm x hm
        rw [ltT hi, qo hi, vM, hx, qo (by omega), qo (by omega), Int.toNat_natCast, set1]
        have hxx := (h (l.getD j jX) (vm (by omega))).1
        simp only [cond_true, zvZ, Int.toNat_natCast]
        rw [decide_eq_true (by simp; omega)]
        simp only [cond_true]
        cases hq : ((l.getD j jX).2.2.2.1.1 : Int) == c with
        | false =>
          exact hk o ⟨by omega, hI.2⟩
        | true =>
          simp only [cond_true, List.map_cons, Int.toNat_natCast]
          refine (hk _ ⟨by simp; omega, fun x hx => ?_⟩).trans ?_
          · rcases List.mem_append.1 hx with hx | hx
            · exact hI.2 x hx
            · rcases List.mem_singleton.1 hx with rfl
              exact hxx
          · rw [List.append_assoc]; rfl) (fun k o hI => by
        simp only [zgv]
        rw [ltF]
        simp only [cond_false]
        rw [zvR (by omega) hI.2, List.filter_nil, List.map_nil, List.append_nil]
        rfl) [] ⟨Nat.le_refl _, fun x hx => by cases hx⟩
    refine hloop.trans ?_
    rw [List.nil_append, zu4 (q := fun x : zm => (x.2.2.2.1.1 : Int) == c) (g := fun x : zm => x.2.2.2.1.2.1) jX l l 0 fun j _ => by rw [Nat.zero_add]]
end Go.Proofs.YtaokpakfhdeiiaaGreatDoor
end
section
namespace Go.Proofs.YtaokpakfhdeiiaaGreatDoor
open Go.Ev
set_option linter.unusedVariables false
set_option linter.unusedSimpArgs false
def zRw (x : Int) : Bool := decide (0 ≤ x ∧ x ≤ 2)
theorem zNG (x : Int) : zaa (x, ()) = some (!zRw x, ()) := by simp only [zaa, zsn, zRw]; grind
def zMd (r : ze) (i : Nat) (row : List Int) : Bool := decide (row.length = r.2.2.1.length) && (row.all zRw && row.getD (Int.toNat (r.2.2.2.1.getD i vz).2.1) (0 : Int) == 2)
def zCR (r : ze) (l : List (List Int)) : Bool := decide (l.length = r.2.2.2.1.length) && qM (fun i => zMd r i (l.getD i [])) 0 (l.length - 0)
structure zos (r : ze) : Prop where
  labels : 1 ≤ r.1.length ∧ r.1.length ≤ 8
  lines : 1 ≤ r.2.1.length ∧ r.2.1.length ≤ 8
  accounts : 1 ≤ r.2.2.1.length ∧ r.2.2.1.length ≤ 8
  guilds : r.2.2.2.1.length ≤ 8
  quotas : r.2.2.2.2.1.length = r.1.length
  heads : ∀ i, i < r.2.2.2.1.length → 0 ≤ (r.2.2.2.1.getD i vz).2.1 ∧ (r.2.2.2.1.getD i vz).2.1 < (r.2.2.1.length : Int)
theorem zaj {r : ze} (h : qH r = true) : zos r := by
  simp only [qH, Bool.and_eq_true] at h
  obtain ⟨h1, h2, h3, h4, h5, -⟩ := h
  simp only [zkE, zGX, zor, zHl, zsE, within, Bool.and_eq_true, decide_eq_true_eq, zT8, yb] at h1 h2 h3 h4 h5
  refine ⟨by omega, by omega, by omega, h4.1, by omega, fun i hi => ?_⟩
  have := h4.2.1 i (by omega) (by omega)
  simp only [zRj, within, Bool.and_eq_true, decide_eq_true_eq] at this
  omega
theorem ixR {n : Nat} {x : Int} {ρ : Type} {y : Option ρ} (h : 0 ≤ x ∧ x < (n : Int)) : inR x (n : Int) y = y := zU8 h.1 h.2
theorem zRx {r : ze} (hr : yr r) (l : List (List Int)) : zaB (r, l, ()) = some (qH r && zCR r l, ()) := by
  rw [qd]
  simp only [zaB, zqc, zhV r hr, Option.bind_some]
  cases hb : qH r with
  | false => rfl
  | true =>
    have ok := zaj hb
    rw [zHg]
    unfold zCR
    by_cases hn : l.length = r.2.2.2.1.length
    · have hg := ok.guilds
      have hloop : zso zz K0 (some zaa, l, (l.length : Int), 0, r) = bif qM (fun i => zMd r i (l.getD i [])) 0 (l.length - 0) then some (true, ()) else some (false, ()) :=
        zas (i0 := 0) (n := l.length) (by unfold Go.maxLen; omega) (Nat.zero_le _) (fun i => (some zaa, l, (l.length : Int), i, r)) (fun k i h1 h2 => by
          simp only [zkr]
          rw [ltT h2, qo h2, Int.toNat_natCast, zHg]
          unfold zMd
          by_cases hm : (l.getD i []).length = r.2.2.1.length
          · have ha := ok.accounts
            have hh := ok.heads i (by omega)
            rw [zeZ (p := fun x => !zRw x) (l := l.getD i []) (by unfold Go.maxLen; omega) fun x _ => zNG x, qo (by omega), vM, ixR (by rw [hm]; exact hh)]
            have := yi (l := l.getD i []) (p := zRw)
            simp only [Option.bind_some, cond_true]
            grind
          · grind) (fun k => by simp only [zkr]; rw [ltF]; rfl)
      rw [hloop]
      grind
    · grind
theorem zVn (x : Int) : zon (x, ()) = some (zbo x, ()) := by simp only [zon, zGC, zbo]; grind
theorem zUd (x : Int) : zks (x, ()) = some (zbo x, ()) := by simp only [zks, zDQ, zbo]; grind
def zD9 (k a b : Int) : Int × Int × Unit := bif (k != 1 && k != 2) || (a == 0 || b == 0) then (0, 1, ()) else bif decide (a * b > M62) then (0, 7, ()) else bif k == 2 then (a, 0, ()) else (a * b, 0, ())
theorem zIs {k a b : Int} (ha : 0 ≤ a ∧ a < U64) (hb : 0 ≤ b ∧ b < U64) : zbw (k, a, b, ()) = some (zD9 k a b) := by
  simp only [zbw, zBo, zRs ha hb, Option.bind_some, zRr, zD9]
  generalize a * b = p
  cases h : decide (p > M62) <;> simp only [cond_true, cond_false] <;> grind
def ze0 (x : Int) : Prop := 0 ≤ x ∧ x < U64
structure zCS (x : zl) : Prop where
  amount : ze0 x.2.2.2.2.2.2.1
  price : ze0 x.2.2.2.2.2.2.2.1
  held : ze0 x.2.2.2.2.2.2.2.2.1
def zEa (x : zl) : Bool := ((zD9 x.2.2.2.1 x.2.2.2.2.2.2.2.1 x.2.2.2.2.2.2.1).2.1 == 0 && (zD9 x.2.2.2.1 x.2.2.2.2.2.2.2.1 x.2.2.2.2.2.2.1).1 == x.2.2.2.2.2.2.2.2.1) && ((zbo x.2.1 && zbo x.2.2.1) && ((vf x.2.2.2.2.1 && vf x.2.2.2.2.2.1) && ((x.2.2.2.2.1 : Int) != x.2.2.2.2.2.1 && decide (0 ≤ x.2.2.2.2.2.2.2.2.2.1))))
theorem zUe {x : zl} (h : zCS x) : zhn (x, ()) = some (zEa x, ()) := by
  rw [qd]
  simp only [zhn, zDP, zIs h.price h.amount, zVn, zdD, Option.bind_some, zEa]
  generalize zD9 x.2.2.2.1 x.2.2.2.2.2.2.2.1 x.2.2.2.2.2.2.1 = n
  grind
def zNH (x : zl) : Bool := bif x.1 then zEa x else eqI zp x (zb zp)
def zEb (l : List zl) : List Int := (l.filter fun x => x.1).map fun x => x.2.2.2.2.2.2.2.2.2.1
def zRy : List Int → List (Int × Int) → Nat
  | [], o => o.length
  | x :: l, o => zRy l (za8 tI o x (wI (ze3 tI (0 : Int) o x + 1)))
def zv0 (l : List zl) : Bool := l.all zNH && zRy (zEb l) [] == (zEb l).length
theorem zRz {l : List zl} (hl : l.length ≤ 1000000) (h : ∀ x ∈ l, zCS x) : zjR (l, ()) = some (zv0 l, ()) := by
  have hloop := zcU (B := zgq zhn) (l := l) (α := Nat × List (Int × Int)) qD (fun i s => s.1 ≤ i) (fun i s => ((s.1 : Int), l, (l.length : Int), i, s.2))
    (fun rest s => some (rest.all zNH && zRy (zEb rest) s.2 == s.1 + (zEb rest).length, ())) (by unfold Go.maxLen; omega) (fun k i x rest s hi hI hx hm hr hk => by
      obtain ⟨n, o⟩ := s
      simp only [zgq]
      have hn : n ≤ i := hI
      have hw : wI ((n : Int) + 1) = ((n + 1 : Nat) : Int) := by
        unfold wI
        rw [IntWalk.i64_in _ (by omega)]; rfl
      rw [ltT hi, qo hi]
      simp only [vM, hx, cond_true, zUe (h x hm), Option.bind_some, hw, zEb, zvZ, List.all_cons, zNH]
      cases hlive : x.1 with
      | false =>
        simp only [cond_false]
        have := hk (n, o) (by show n ≤ i + 1; omega)
        cases eqI zp x (zb zp) with
        | false => rfl
        | true => exact this
      | true =>
        simp only [cond_true, List.map_cons, zRy, List.length_cons]
        have := hk (n + 1, za8 tI o x.2.2.2.2.2.2.2.2.2.1 (wI (ze3 tI (0 : Int) o x.2.2.2.2.2.2.2.2.2.1 + 1))) (by show n + 1 ≤ i + 1; omega)
        cases zEa x with
        | false => rfl
        | true =>
          refine this.trans ?_
          simp only [zEb, Bool.true_and]
          rw [show n + 1 + (List.map (fun x : zl => x.2.2.2.2.2.2.2.2.2.1) (List.filter (fun x => x.1) rest)).length = n + ((List.map (fun x : zl => x.2.2.2.2.2.2.2.2.2.1) (List.filter (fun x => x.1) rest)).length + 1) by omega]) (fun k s _ => by
      obtain ⟨n, o⟩ := s
      simp only [zgq]
      rw [ltF]
      simp only [cond_false, zEb, List.filter_nil, List.map_nil, zRy, List.length_nil, List.all_nil, Bool.true_and, Nat.add_zero]
      rw [zVk]
      cases o.length == n <;> rfl) (0, []) (Nat.le_refl _)
  refine hloop.trans ?_
  unfold zv0
  rw [Nat.zero_add]
structure zNI (x : zC) : Prop where
  amount : ze0 x.2.2.2.2.2.2.2.1
  price : ze0 x.2.2.2.2.2.2.2.2.1
def zv1 (x : zC) : Bool := (decide (x.1 ≤ M62) && (zbo x.2.1 && (zbo x.2.2.1 && (zbo x.2.2.2.1 && zbo x.2.2.2.2.2.2.2.2.2.1)))) && bif (x.2.2.2.2.1 : Int) == 3 then ((x.2.2.2.2.2.1 : Int) == 0 && (x.2.2.2.2.2.2.1 : Int) == 0) && ((x.2.2.2.2.2.2.2.1 : Int) == 0 && (x.2.2.2.2.2.2.2.2.1 : Int) == 0)
  else ((zD9 x.2.2.2.2.1 x.2.2.2.2.2.2.2.1 x.2.2.2.2.2.2.2.2.1).2.1 == 0 && (x.2.2.2.2.2.2.2.2.2.1 : Int) == 0) && ((x.2.2.2.2.2.1 : Int) != x.2.2.2.2.2.2.1 && (vf x.2.2.2.2.2.1 && vf x.2.2.2.2.2.2.1))
theorem zVo (x : zC) : eqI zy x (x.1, x.2.1, x.2.2.1, x.2.2.2.1, x.2.2.2.2.1, (zb zy).2.2.2.2.2.1, (zb zy).2.2.2.2.2.2.1, (zb zy).2.2.2.2.2.2.2.1, (zb zy).2.2.2.2.2.2.2.2.1, x.2.2.2.2.2.2.2.2.2.1, (zb zy).2.2.2.2.2.2.2.2.2.2) = (((x.2.2.2.2.2.1 : Int) == 0 && (x.2.2.2.2.2.2.1 : Int) == 0) && ((x.2.2.2.2.2.2.2.1 : Int) == 0 && (x.2.2.2.2.2.2.2.2.1 : Int) == 0)) := by
  show cond ((x.1 : Int) == x.1) (cond ((x.2.1 : Int) == x.2.1) (cond ((x.2.2.1 : Int) == x.2.2.1) (cond ((x.2.2.2.1 : Int) == x.2.2.2.1) (cond ((x.2.2.2.2.1 : Int) == x.2.2.2.2.1) (cond ((x.2.2.2.2.2.1 : Int) == 0) (cond ((x.2.2.2.2.2.2.1 : Int) == 0) (cond ((x.2.2.2.2.2.2.2.1 : Int) == 0) (cond ((x.2.2.2.2.2.2.2.2.1 : Int) == 0) (cond ((x.2.2.2.2.2.2.2.2.2.1 : Int) == x.2.2.2.2.2.2.2.2.2.1) true false) false) false) false) false) false) false) false) false) false = _
  simp only [beq_self_eq_true, cond_true]
  cases ((x.2.2.2.2.2.1 : Int) == 0) <;> cases ((x.2.2.2.2.2.2.1 : Int) == 0) <;> cases ((x.2.2.2.2.2.2.2.1 : Int) == 0) <;> cases ((x.2.2.2.2.2.2.2.2.1 : Int) == 0) <;> rfl
theorem zSH {x : zC} (h : zNI x) : zfu (x, ()) = some (zv1 x, ()) := by
  rw [qd]
  simp only [zfu, zBp, zIs h.amount h.price, zUd, zdD, Option.bind_some, zv1]
  rw [zVo x]
  generalize zD9 x.2.2.2.2.1 x.2.2.2.2.2.2.2.1 x.2.2.2.2.2.2.2.2.1 = n
  unfold M62
  grind
def zVp (a b : zC) : Int := orV (zu2 a.1 b.1) (zu2 a.2.1 b.2.1)
theorem zPp (a b : zC) : zcl (a, b, ()) = some (zVp a b, ()) := by
  simp only [zcl, zuM, zEY, zyM, Option.bind_some]
  show Option.bind (yx ([zu2 a.1 b.1, zu2 a.2.1 b.2.1], ())) _ = _
  rw [zXg]; rfl
def zyQ (l : List zC) : Bool := qM (fun i => zv1 (l.getD i zoA) && (decide (i = 0) || !decide (zVp (l.getD (i - 1) zoA) (l.getD i zoA) ≥ 0))) 0 (l.length - 0)
theorem zPq {l : List zC} (hl : l.length ≤ Go.maxLen) (h : ∀ x ∈ l, zNI x) : zhQ (l, ()) = some (zyQ l, ()) := by
  rw [qd]
  exact zas (B := zeI zfu zcl) (i0 := 0) hl (Nat.zero_le _) (fun i => (l, l, (l.length : Int), i)) (fun k i h1 h2 => by
    simp only [zeI]
    rw [ltT h2, qo h2, vM, zSH (h _ (vm h2))]
    by_cases h0 : i = 0
    · subst h0
      simp only [cond_true, Option.bind_some]
      grind
    · rw [zMF (by omega) (by omega), qo (by omega), Int.toNat_natCast, zPp]
      simp only [cond_true, Option.bind_some]
      grind) (fun k => by simp only [zeI]; rw [ltF]; rfl)
end Go.Proofs.YtaokpakfhdeiiaaGreatDoor
end
section
namespace Go.Proofs.YtaokpakfhdeiiaaGreatDoor
open Go.Ev
set_option linter.unusedVariables false
set_option linter.unusedSimpArgs false
def zEc (a : List Int) : Prop := ∀ x ∈ a, ze0 x
theorem zyR {a : List Int} (h : zEc a) (i : Nat) : ze0 (a.getD i 0) := by
  by_cases hi : i < a.length
  · exact h _ (vm hi)
  · rw [List.getD_eq_getElem?_getD, List.getElem?_eq_none (by omega)]
    unfold ze0 U64; decide
structure zHn (x : zj) : Prop where
  trades : ∀ t ∈ x.2.2.2.2.1, zCQ t
  purses : ∀ a ∈ x.2.2.2.2.2.1, zEc a
  made : zEc x.2.2.2.2.2.2.2.1
  spent : zEc x.2.2.2.2.2.2.2.2.1
structure zsG (s : zq) : Prop where
  shelves : ∀ x ∈ s.2.1, zHn x
  orders : ∀ x ∈ s.2.2.2.1, zCS x
  entries : ∀ x ∈ s.2.2.2.2.1, zNI x
def ztp (r : ze) (x : zj) (q : za0) : Bool := ((decide ((x.1.length : Int) = q.1) && decide ((x.2.1.length : Int) = q.2.1)) && (decide ((x.2.2.1.length : Int) = q.2.2.1) && decide ((x.2.2.2.1.length : Int) = q.2.2.2.1))) && (decide ((x.2.2.2.2.1.length : Int) = q.2.2.2.2.1) && (decide (x.2.2.2.2.2.1.length = r.2.2.1.length) && decide (x.2.2.2.2.2.2.1.length = r.2.2.1.length)))
def zqE (r : ze) (s : zq) : Bool := (decide (s.2.1.length = r.1.length) && (decide ((s.2.2.2.1.length : Int) = r.2.2.2.2.2.1) && decide ((s.2.2.2.2.1.length : Int) ≤ r.2.2.2.2.2.2.1))) && ((decide (s.2.2.2.2.2.1.length = r.2.1.length) && decide (s.1 ≤ M62)) && qM (fun i => ztp r (s.2.1.getD i za) (r.2.2.2.2.1.getD i jQ)) 0 (s.2.1.length - 0))
theorem neI (a b : Int) : (a != b) = !decide (a = b) := by
  rw [Bool.eq_iff_iff]; simp
theorem zPr {r : ze} (hr : yr r) (s : zq) : zcj ((r, s, ()), ()) = some (qH r && zqE r s, ()) := by
  rw [qd]
  simp only [zcj, zms, zhV r hr, Option.bind_some]
  cases hb : qH r with
  | false => rfl
  | true =>
    have ok := zaj hb
    have ok1 := ok.labels
    have ok2 := ok.quotas
    rw [zHg, zHg]
    unfold zqE M62
    by_cases hn : s.2.1.length = r.1.length
    · have hloop : zp2 K0 ((r.2.2.1.length : Int), s.2.1, (s.2.1.length : Int), 0, (r, s, ())) = bif qM (fun i => ztp r (s.2.1.getD i za) (r.2.2.2.2.1.getD i jQ)) 0 (s.2.1.length - 0) then some (true, ()) else some (false, ()) :=
        zas (i0 := 0) (n := s.2.1.length) (by unfold Go.maxLen; omega) (Nat.zero_le _) (fun i => ((r.2.2.1.length : Int), s.2.1, (s.2.1.length : Int), i, (r, s, ()))) (fun k i h1 h2 => by
          simp only [ziX]
          rw [ltT h2, qo h2, qo (by omega)]
          simp only [vM, neI, cond_true, ztp]
          generalize s.2.1.getD i za = x
          generalize r.2.2.2.2.1.getD i jQ = q
          generalize k _ = kk
          grind (splits := 30)) (fun k => by simp only [ziX]; rw [ltF]; rfl)
      rw [hloop]
      grind
    · grind
structure zot (r : ze) (s : zq) : Prop where
  shelves : s.2.1.length = r.1.length
  orders : s.2.2.2.1.length ≤ 24
  entries : s.2.2.2.2.1.length ≤ 48
  people : s.2.2.2.2.2.1.length = r.2.1.length
  shelf : ∀ x ∈ s.2.1, x.1.length ≤ 12 ∧ x.2.1.length ≤ 12 ∧ x.2.2.1.length ≤ 12 ∧ x.2.2.2.1.length ≤ 12 ∧ x.2.2.2.2.1.length ≤ 12 ∧ x.2.2.2.2.2.1.length = r.2.2.1.length ∧ x.2.2.2.2.2.2.1.length = r.2.2.1.length
theorem zJY : ∀ (l : List za0) (n : Int), zD7 n l = true → ∀ q ∈ l, zkF q = true
  | [], _, _, q, h => by cases h
  | a :: l, n, h, q, hq => by
    simp only [zD7, Bool.and_eq_true] at h
    rcases List.mem_cons.1 hq with rfl | hq
    · exact h.1
    · exact zJY l _ h.2.2 q hq
theorem zOi {r : ze} {s : zq} (hb : qH r = true) (h : zqE r s = true) : zot r s := by
  have ok := zaj hb
  simp only [qH, Bool.and_eq_true] at hb
  obtain ⟨-, -, -, -, h5, h6⟩ := hb
  simp only [zsE, zHk, within, Bool.and_eq_true, decide_eq_true_eq] at h5 h6
  simp only [zqE, Bool.and_eq_true, decide_eq_true_eq, yb] at h
  obtain ⟨⟨h7, h8, h9⟩, ⟨h10, -⟩, h11⟩ := h
  refine ⟨h7, by omega, by omega, h10, fun x hx => ?_⟩
  obtain ⟨i, hi, rfl⟩ := List.mem_iff_getElem.1 hx
  have h12 := h11 i (by omega) (by omega)
  have e : s.2.1.getD i za = s.2.1[i] := by simp [List.getD, hi]
  rw [e] at h12
  have hq := zJY _ _ h5.2.2.2 (r.2.2.2.2.1.getD i jQ) (vm (by have := ok.quotas; omega))
  simp only [zkF, within, Bool.and_eq_true, decide_eq_true_eq] at hq
  simp only [ztp, Bool.and_eq_true, decide_eq_true_eq] at h12
  omega
def ze1 (x : zj) : Bool := (x.1.all zqD) && (zL7 x.2.1 && (x.2.2.1.all zCO && (x.2.2.2.1.all zCP && x.2.2.2.2.1.all zvY)))
theorem zMe {x : zj} (h : x.1.length ≤ 12 ∧ x.2.1.length ≤ 12 ∧ x.2.2.1.length ≤ 12 ∧ x.2.2.2.1.length ≤ 12 ∧ x.2.2.2.2.1.length ≤ 12) : zbW (x, ()) = some (ze1 x, ()) := by
  rw [qd]
  have hm : 12 ≤ Go.maxLen := by unfold Go.maxLen; omega
  simp only [zbW, zqa]
  rw [zRk (by omega), zRm (by omega), zPl (by omega), zRq (by omega), zPm (by omega)]
  simp only [Option.bind_some, ze1]
  grind
theorem zPs {r : ze} {s : zq} (ok : zos r) (sz : zot r s) : zck ((r, s, ()), ()) = some (s.2.1.all ze1, ()) := by
  rw [qd]
  simp only [zck, zuL]
  have h1 := ok.labels
  have h2 := sz.shelves
  rw [zSt (p := ze1) (by unfold Go.maxLen; omega) fun x hx => zMe (by have := sz.shelf x hx; omega)]
  simp only [Option.bind_some]
def zBE (r : ze) (x : Int) : Bool := decide (0 ≤ x ∧ x < (r.2.2.1.length : Int))
def zu5 (r : ze) (x : Int) : Bool := decide (0 ≤ x ∧ x < (r.1.length : Int))
theorem zb8 (r : ze) (s : zq) (x : Int) : zV ((r, s, ()), x, ()) = some (zBE r x, ()) := by simp only [zV, zqe, zBE]; grind
theorem zE0 (r : ze) (s : zq) (x : Int) : yL ((r, s, ()), x, ()) = some (zu5 r x, ()) := by simp only [yL, zuQ, zu5]; grind
def ztq (s : zq) (x : qX) : Bool := decide (0 ≤ x.1 ∧ x.1 < (s.2.1.length : Int)) && (decide (0 ≤ x.2.1 ∧ x.2.1 < ((s.2.1.getD x.1.toNat za).1.length : Int)) && ((s.2.1.getD x.1.toNat za).1.getD x.2.1.toNat zvG).1)
theorem zu6 (s : zq) (x : qX) : jV (s, x, ()) = some (ztq s x, ()) := by
  rw [qd]
  simp only [jV, zuO, ztq, ix]
  by_cases h1 : 0 ≤ x.1 ∧ x.1 < (s.2.1.length : Int)
  · rw [ixR h1, ixR h1]
    by_cases h2 : 0 ≤ x.2.1 ∧ x.2.1 < ((s.2.1.getD x.1.toNat za).1.length : Int)
    · rw [ixR h2]
      grind
    · grind
  · grind
def zEd (r : ze) (s : zq) (x : zl) : Bool := !x.1 || (zu5 r x.2.1 && (zBE r x.2.2.1 && decide (x.2.2.2.2.2.2.2.2.2.1 < (s.2.2.2.2.1.length : Int))))
def zEe (r : ze) (s : zq) (x : zC) : Bool := decide (x.2.1 < (r.2.1.length : Int)) && ((x.2.2.1 : Int) == r.2.1.getD x.2.1.toNat 0 && (zBE r x.2.2.2.1 && decide (x.1 ≤ s.1)))
def zHo (r : ze) (x : Int) : Bool := x == -1 || zBE r x
theorem zUf (r : ze) (s : zq) (x : zl) : zbe (x, some (r, s, ()), ()) = some (zEd r s x, ()) := by
  rw [qd]
  simp only [zbe, znX, zb8, zE0, Option.bind_some, zEd]
  grind
theorem zUg (r : ze) (s : zq) {x : zC} (h : zv1 x = true) : zbf (x, some (r, s, ()), ()) = some (zEe r s x, ()) := by
  rw [qd]
  simp only [zbf, znY, zb8, Option.bind_some, zEe, ix]
  have : 0 ≤ x.2.1 := by unfold zv1 zbo at h; grind
  by_cases h1 : x.2.1 < (r.2.1.length : Int)
  · rw [ixR ⟨this, h1⟩]
    grind
  · grind
theorem zUh (r : ze) (s : zq) (x : Int) : zbg (x, some (r, s, ()), ()) = some (zHo r x, ()) := by
  rw [qd]
  simp only [zbg, znZ, zb8, Option.bind_some, zHo]
  grind
def zsH (r : ze) (s : zq) : Bool := zCR r s.2.2.1 && (zv0 s.2.2.2.1 && (zyQ s.2.2.2.2.1 && (ztq s (zb zW) && (s.2.2.2.1.all (zEd r s) && (s.2.2.2.2.1.all (zEe r s) && s.2.2.2.2.2.1.all (zHo r))))))
theorem zRA {l : List zC} (h : zyQ l = true) : ∀ x ∈ l, zv1 x = true := by
  intro x hx
  simp only [zyQ, yb, Bool.and_eq_true] at h
  obtain ⟨i, hi, rfl⟩ := List.mem_iff_getElem.1 hx
  have e : l.getD i zoA = l[i] := by simp [List.getD, hi]
  rw [← e]
  exact (h i (by omega) (by omega)).1
theorem zNJ {r : ze} {s : zq} (hr : yr r) (hb : qH r = true) (hs : zsG s) (sz : zot r s) : zbi ((r, s, ()), ()) = some (zsH r s, ()) := by
  rw [qd]
  have ok := zaj hb
  have h1 := ok.lines
  have h2 := sz.orders
  have h3 := sz.entries
  have h4 := sz.people
  have hm : 48 ≤ Go.maxLen := by unfold Go.maxLen; omega
  simp only [zbi, zsp, zRx hr, hb, Bool.true_and, Option.bind_some]
  unfold zsH
  cases zCR r s.2.2.1 with
  | false => rfl
  | true =>
    rw [zRz (by omega) hs.orders, zPq (by omega) hs.entries, zu6]
    simp only [Option.bind_some, cond_true]
    cases zv0 s.2.2.2.1 with
    | false => rfl
    | true =>
      cases he : zyQ s.2.2.2.2.1 with
      | false => rfl
      | true =>
        rw [zSu (p := zEd r s) (by omega) fun x _ => zUf r s x, zSv (p := zEe r s) (by omega) fun x hx => zUg r s (zRA he x hx), zVh (p := zHo r) (by omega) fun x _ => zUh r s x]
        simp only [Option.bind_some, cond_true]
        grind
end Go.Proofs.YtaokpakfhdeiiaaGreatDoor
end
section
namespace Go.Proofs.YtaokpakfhdeiiaaGreatDoor
open Go.Ev
set_option linter.unusedVariables false
set_option linter.unusedSimpArgs false
def zRB (r : ze) (a b : Int) : Bool := zu5 r a && (zu5 r b && zNF (r.1.getD a.toNat za1) (r.1.getD b.toNat za1))
theorem zVq {r : ze} (hr : yr r) (a : Int) (h : zu5 r a = true) : zL9 (r.1.getD a.toNat za1) := by
  simp only [zu5, decide_eq_true_eq] at h
  exact hr.labels _ (vm (by omega))
theorem zIt {r : ze} (hr : yr r) (s : zq) (a b : Int) : zbx ((r, s, ()), a, b, ()) = some (zRB r a b, ()) := by
  rw [qd]
  simp only [zbx, zBw, zE0, Option.bind_some, zRB, ix]
  cases ha : zu5 r a with
  | false => rfl
  | true =>
    cases hb : zu5 r b with
    | false => rfl
    | true =>
      rw [zSC (zVq hr a ha) (zVq hr b hb)]
      simp only [zu5, decide_eq_true_eq] at ha hb
      rw [ixR ha, ixR hb]
      simp only [Option.bind_some]
      grind
def zqF (r : ze) (s : zq) (i : Int) (x : qX) : Bool := ztq s x && zRB r x.1 i
theorem zqG {r : ze} (hr : yr r) (s : zq) (i : Int) (x : qX) : vt (x, some (r, s, ()), some i, ()) = some (zqF r s i x, ()) := by
  rw [qd]
  simp only [vt, zqh, zu6, zIt hr, Option.bind_some, zqF]
  grind
def zAi (r : ze) (s : zq) (i : Int) (x : z3) : Bool := !x.1 || (zqF r s i x.2.1 && zqF r s i x.2.2.1)
def zAj (r : ze) (s : zq) (i : Int) (x : z8) : Bool := (x.2.2.1 : Int) != 2 || zqF r s i x.2.2.2.2.1
def zCT (r : ze) (s : zq) (i : Int) (x : zj) : Bool := x.2.1.all (zAi r s i) && (x.2.2.1.all (zAj r s i) && x.2.2.2.2.2.2.1.all (zqF r s i))
theorem zVr {r : ze} (hr : yr r) (s : zq) (i : Int) (x : z3) : zaC (x, some (some fun z => vt (z.1, some (r, s, ()), some i, ())), ()) = some (zAi r s i x, ()) := by
  rw [qd]
  simp only [zaC, zqj, zqG hr, Option.bind_some, zAi]
  grind
theorem zVs {r : ze} (hr : yr r) (s : zq) (i : Int) (x : z8) : zaD (x, some (some fun z => vt (z.1, some (r, s, ()), some i, ())), ()) = some (zAj r s i x, ()) := by
  rw [qd]
  simp only [zaD, zqk, zqG hr, Option.bind_some, zAj]
  grind
theorem zPt {r : ze} {s : zq} (hr : yr r) (ok : zos r) (sz : zot r s) : zek ((r, s, ()), ()) = some (qM (fun i => zCT r s (i : Int) (s.2.1.getD i za)) 0 (s.2.1.length - 0), ()) := by
  rw [qd]
  have h1 := ok.labels
  have h2 := sz.shelves
  have h3 := ok.accounts
  exact zas (B := zeL zej zaC zbj zaD qz zbZ) (i0 := 0) (n := s.2.1.length) (by unfold Go.maxLen; omega) (Nat.zero_le _) (fun i => (s.2.1, (s.2.1.length : Int), i, (r, s, ()))) (fun k i _ h => by
    have hm : 12 ≤ Go.maxLen := by unfold Go.maxLen; omega
    have hz := sz.shelf _ (vm (d := za) h)
    simp only [zeL]
    have hbelow : zej ((r, s, ()), (i : Int), ()) = some (some fun z => vt (z.1, some (r, s, ()), some (i : Int), ()), ()) := rfl
    rw [ltT h, qo h, vM, hbelow, Option.bind_some, zT1 (p := zAi r s i) (by omega) fun x _ => zVr hr s i x, zL0 (p := zAj r s i) (by omega) fun x _ => zVs hr s i x, zVi (p := zqF r s i) (by omega) fun x _ => zqG hr s i x]
    simp only [Option.bind_some, cond_true]
    unfold zCT
    grind) (fun k => by simp only [zeL]; rw [ltF]; rfl)
theorem zSI {σ ρ : Type} {B : (σ → Option ρ) → σ → Option ρ} {i0 n : Nat} (hn : n ≤ Go.maxLen) (h0 : i0 ≤ n) {p : Nat → Bool} {fin bad : Option ρ} (st : Int → σ)
    (hin : ∀ k (i : Nat), i0 ≤ i → i < n → B k (st i) = bif p i then k (st (wI (i + 1))) else bad) (hout : ∀ k, B k (st n) = fin) (K : Nat) (hK : n - i0 < K) : iter B K (st i0) = bif qM p i0 (n - i0) then fin else bad := by
  have key : ∀ (m i fuel : Nat), i0 ≤ i → i + m = n → m < fuel → iter B fuel (st i) = bif qM p i m then fin else bad := by
    intro m
    induction m with
    | zero =>
      intro i fuel _ h1 h2
      obtain ⟨f, rfl⟩ : ∃ f, fuel = f + 1 := ⟨fuel - 1, by omega⟩
      obtain rfl : i = n := by omega
      exact hout _
    | succ m ih =>
      intro i fuel h1 h2 h3
      obtain ⟨f, rfl⟩ : ∃ f, fuel = f + 1 := ⟨fuel - 1, by omega⟩
      show B (iter B f) (st i) = _
      rw [hin _ i h1 (by omega), wI, zTI (len := n) (by omega) hn, show ((i : Int) + 1) = ((i + 1 : Nat) : Int) by omega, ih (i + 1) f (by omega) (by omega) (by omega)]
      simp only [qM]
      cases p i <;> rfl
  exact key (n - i0) i0 K (Nat.le_refl _) (by omega) hK
def zHp (r : ze) (x : z8) : Bool := (x.2.2.1 : Int) != 1 || zBE r x.2.2.2.1
def zHq (r : ze) (i : Int) (x : qk) : Bool := !x.1 || (zRB r x.2.1 i && (zBE r x.2.2.1 && zBE r x.2.2.2.1))
def zEf (r : ze) (x : zm) : Bool := !x.1 || (zBE r x.2.1 && zBE r x.2.2.1)
def zh7 (r : ze) (i : Int) (x : zj) : Bool := x.2.2.1.all (zHp r) && (x.2.2.2.1.all (zHq r i) && x.2.2.2.2.1.all (zEf r))
theorem zUi (r : ze) (s : zq) (x : z8) : je (x, some (r, s, ()), ()) = some (zHp r x, ()) := by
  rw [qd]
  simp only [je, zn1, zb8, Option.bind_some, zHp]
  grind
theorem zUj {r : ze} (hr : yr r) (s : zq) (i : Int) (x : qk) : jf (x, some (r, s, ()), some i, ()) = some (zHq r i x, ()) := by
  rw [qd]
  simp only [jf, zn2, zb8, zIt hr, Option.bind_some, zHq]
  grind
theorem zUk (r : ze) (s : zq) (x : zm) : jg (x, some (r, s, ()), ()) = some (zEf r x, ()) := by
  rw [qd]
  simp only [jg, zn3, zb8, Option.bind_some, zEf]
  grind
theorem zNK {r : ze} {s : zq} (hr : yr r) (ok : zos r) (sz : zot r s) : zbk ((r, s, ()), ()) = some (qM (fun i => zh7 r (i : Int) (s.2.1.getD i za)) 0 s.2.1.length, ()) := by
  rw [qd]
  have h1 := ok.labels
  have h2 := sz.shelves
  have hm : 12 ≤ Go.maxLen := by unfold Go.maxLen; omega
  have step : ∀ k (i : Nat), i < s.2.1.length → jM je qz jf jL jg jq k (s.2.1, (s.2.1.length : Int), (i : Int), (r, s, ())) = bif zh7 r (i : Int) (s.2.1.getD i za) then k (s.2.1, (s.2.1.length : Int), wI ((i : Int) + 1), (r, s, ())) else some (false, ()) := fun k i h => by
    have hz := sz.shelf _ (vm (d := za) h)
    simp only [jM]
    rw [ltT h, qo h, vM, zL0 (p := zHp r) (by omega) fun x _ => zUi r s x, zT2 (p := zHq r i) (by omega) fun x _ => zUj hr s i x, zSw (p := zEf r) (by omega) fun x _ => zUk r s x]
    simp only [Option.bind_some, cond_true]
    unfold zh7
    grind
  have hend : ∀ k, jM je qz jf jL jg jq k (s.2.1, (s.2.1.length : Int), (s.2.1.length : Int), (r, s, ())) = some (true, ()) := fun k => by simp only [jM]; rw [ltF]; rfl
  have first : zbk ((r, s, ()), ()) = zKF (jM je qz jf jL jg jq) (jM je qz jf jL jg jq) K0 (s.2.1, (s.2.1.length : Int), ((0 : Nat) : Int), (r, s, ())) := rfl
  have hw : wI (((0 : Nat) : Int) + 1) = ((1 : Nat) : Int) := rfl
  obtain ⟨m, hK⟩ := zHi
  have hf : ∀ (B0 B1 : (yQ → Option (Bool × Unit)) → yQ → Option (Bool × Unit)) (x : yQ), zKF B0 B1 K0 x = B0 (iter B1 (m + 7)) x := fun B0 B1 x => by rw [hK]; rfl
  have rest := zSI (B := jM je qz jf jL jg jq) (i0 := 1) (n := s.2.1.length) (by unfold Go.maxLen; omega) (by omega) (p := fun i => zh7 r (i : Int) (s.2.1.getD i za)) (fun i => (s.2.1, (s.2.1.length : Int), i, (r, s, ()))) (fun k i _ h => step k i h) hend (m + 7) (by unfold K0 Go.maxLen at hK; omega)
  rw [hf] at first
  rw [first, step _ 0 (by omega), hw]
  refine (congrArg (fun z => bif zh7 r ((0 : Nat) : Int) (s.2.1.getD 0 za) then z else some (false, ())) rest).trans ?_
  obtain ⟨n, hn⟩ : ∃ n, s.2.1.length = n + 1 := ⟨s.2.1.length - 1, by omega⟩
  rw [hn]
  simp only [qM, Nat.add_sub_cancel]
  cases zh7 r ((0 : Nat) : Int) (s.2.1.getD 0 za) <;> rfl
theorem zRC {l : List zm} {g : zm × Unit → Option (Bool × Unit)} {p : zm → Bool} (hg : ∀ x, g (x, ()) = some (p x, ())) (z : Int) : qB (some (l, some g, ()), z, ()) = some (decide (0 ≤ z ∧ z < (l.length : Int)) && p (l.getD z.toNat jX), ()) := by
  by_cases h : 0 ≤ z ∧ z < (l.length : Int)
  · obtain ⟨n, rfl⟩ := Int.eq_ofNat_of_zero_le h.1
    rw [zIr hg (by omega), decide_eq_true h, Bool.true_and, Int.toNat_natCast]
  · rw [decide_eq_false h, Bool.false_and]
    simp only [qB, ziZ, zGY, Option.bind_some, cond_true]
    grind
theorem zMf {α : Type} {p : α → Bool} (d : α) (L : List α) (q : Int → Bool) : ∀ (l : List α) (i : Nat), (∀ j, j < l.length → L.getD (i + j) d = l.getD j d) → (jr p i l).all q = qM (fun j => !p (L.getD j d) || q (j : Int)) i l.length
  | [], _, _ => rfl
  | x :: l, i, h => by
    have ih := zMf (p := p) d L q l (i + 1) fun j hj => by
      have := h (j + 1) (by simp; omega)
      rw [show i + 1 + j = i + (j + 1) by omega, this]; rfl
    have h0 : L.getD i d = x := h 0 (by simp)
    simp only [jr, List.length_cons, qM, h0]
    rw [← ih]
    cases p x <;> simp
def zEg (x : zj) (j : Nat) (t : z8) : Bool := (t.2.2.1 : Int) != 3 || (decide (0 ≤ t.2.2.2.1 ∧ t.2.2.2.1 < (x.2.2.2.2.1.length : Int)) && ((x.2.2.2.2.1.getD (Int.toNat t.2.2.2.1) jX).1 && ((x.2.2.2.2.1.getD (Int.toNat t.2.2.2.1) jX).2.2.2.1.2.2.1 : Int) == (j : Int)))
def zou (x : zj) (j : Int) (t : zm) : Bool := (decide (t.2.2.2.1.2.2.1 < (x.2.2.1.length : Int)) && decide (t.2.2.2.2.1.2.2.1 < (x.2.2.1.length : Int))) && (decide (t.2.2.2.1.2.2.1 < 0) || (((x.2.2.1.getD (Int.toNat t.2.2.2.1.2.2.1) zgM).2.2.1 : Int) == 3 && ((x.2.2.1.getD (Int.toNat t.2.2.2.1.2.2.1) zgM).2.2.2.1 : Int) == j))
def zyS (x : zj) : Bool := qM (fun j => zEg x j (x.2.2.1.getD j zgM)) 0 (x.2.2.1.length - 0) && qM (fun j => !(x.2.2.2.2.1.getD j jX).1 || zou x (j : Int) (x.2.2.2.2.1.getD j jX)) 0 x.2.2.2.2.1.length
theorem zAk (x : zm) : j4 (x, ()) = some (x.1, ()) := by
  rw [qd]; rfl
theorem zPu {r : ze} {s : zq} (ok : zos r) (sz : zot r s) : zel ((r, s, ()), ()) = some (qM (fun i => zyS (s.2.1.getD i za)) 0 (s.2.1.length - 0), ()) := by
  rw [qd]
  have h1 := ok.labels
  have h2 := sz.shelves
  have hm : 12 ≤ Go.maxLen := by unfold Go.maxLen; omega
  have hlm : 12 ≤ lim := by unfold lim; omega
  have l2 : ∀ k0 (i : Nat) (x : zj), x.2.2.2.2.1.length ≤ 12 → zeP K0 k0 (s.2.1, (s.2.1.length : Int), (i : Int), jr (fun t : zm => t.1) 0 x.2.2.2.2.1, ((jr (fun t : zm => t.1) 0 x.2.2.2.2.1).length : Int), 0, x) = bif qM (fun j => !(x.2.2.2.2.1.getD j jX).1 || zou x (j : Int) (x.2.2.2.2.1.getD j jX)) 0 x.2.2.2.2.1.length then k0 (s.2.1, (s.2.1.length : Int), wI ((i : Int) + 1)) else some (false, ()) := fun k0 i x hx => by
    have hsl := zvS (p := fun t : zm => t.1) x.2.2.2.2.1 0
    have hsm := zvT (p := fun t : zm => t.1) x.2.2.2.2.1 0
    have := zV1 (B := fun k2 => zeO k0 k2) (l := jr (fun t : zm => t.1) 0 x.2.2.2.2.1) (0 : Int) (p := fun z => zou x z (x.2.2.2.2.1.getD z.toNat jX)) (fin := k0 (s.2.1, (s.2.1.length : Int), wI ((i : Int) + 1))) (bad := some (false, ())) (fun j => (s.2.1, (s.2.1.length : Int), (i : Int), jr (fun t : zm => t.1) 0 x.2.2.2.2.1, ((jr (fun t : zm => t.1) 0 x.2.2.2.2.1).length : Int), j, x)) (by omega) (fun k j z hj hz hmem => by
      obtain ⟨n, rfl, -, hn⟩ := hsm z hmem
      simp only [zeO]
      rw [ltT hj, qo hj, vM, hz, qo (by omega), qo (by omega), Int.toNat_natCast]
      simp only [cond_true, zou, neI]
      by_cases ha : (x.2.2.2.2.1.getD n jX).2.2.2.1.2.2.1 < (x.2.2.1.length : Int)
      · by_cases hb : 0 ≤ (x.2.2.2.2.1.getD n jX).2.2.2.1.2.2.1
        · rw [ixR ⟨hb, ha⟩, ixR ⟨hb, ha⟩]
          grind
        · grind
      · grind) (fun k => by simp only [zeO]; rw [ltF]; rfl)
    refine this.trans ?_
    rw [zMf (p := fun t : zm => t.1) jX x.2.2.2.2.1 (fun z => zou x z (x.2.2.2.2.1.getD z.toNat jX)) x.2.2.2.2.1 0 fun j _ => by rw [Nat.zero_add]]
    simp only [Int.toNat_natCast]
  have l1 : ∀ k0 (i : Nat) (x : zj), x.2.2.1.length ≤ 12 → x.2.2.2.2.1.length ≤ 12 → zeQ qB qW K0 k0 (some (x.2.2.2.2.1, some j4, ()), s.2.1, (s.2.1.length : Int), (i : Int), x.2.2.1, (x.2.2.1.length : Int), 0, x) = bif zyS x then k0 (s.2.1, (s.2.1.length : Int), wI ((i : Int) + 1)) else some (false, ()) := fun k0 i x hx hx2 => by
    have := zas (B := fun k1 => zb1 qB qW (zeP K0 k0) k0 k1) (i0 := 0) (n := x.2.2.1.length) (p := fun j => zEg x j (x.2.2.1.getD j zgM)) (fin := bif qM (fun j => !(x.2.2.2.2.1.getD j jX).1 || zou x (j : Int) (x.2.2.2.2.1.getD j jX)) 0 x.2.2.2.2.1.length then k0 (s.2.1, (s.2.1.length : Int), wI ((i : Int) + 1)) else some (false, ())) (bad := some (false, ())) (by omega) (Nat.zero_le _) (fun j => (some (x.2.2.2.2.1, some j4, ()), s.2.1, (s.2.1.length : Int), (i : Int), x.2.2.1, (x.2.2.1.length : Int), j, x)) (fun k j _ hj => by
      simp only [zb1]
      rw [ltT hj, qo hj, vM, zRC zAk]
      simp only [cond_true, Option.bind_some, zEg, neI]
      by_cases ha : 0 ≤ (x.2.2.1.getD j zgM).2.2.2.1 ∧ (x.2.2.1.getD j zgM).2.2.2.1 < (x.2.2.2.2.1.length : Int)
      · rw [ixR ha]
        grind
      · grind) (fun k => by
      simp only [zb1]
      rw [ltF, zEZ (by omega) zAk, Option.bind_some]
      exact l2 k0 i x hx2)
    refine this.trans ?_
    unfold zyS
    cases qM (fun j => zEg x j (x.2.2.1.getD j zgM)) 0 (x.2.2.1.length - 0) <;> rfl
  exact zas (B := fun k0 => zb2 jh j4 (zeQ qB qW K0 k0) k0) (i0 := 0) (n := s.2.1.length) (by omega) (Nat.zero_le _) (fun i => (s.2.1, (s.2.1.length : Int), i)) (fun k i _ h => by
    have hz := sz.shelf _ (vm (d := za) h)
    simp only [zb2]
    have hq : jh ((s.2.1.getD i za).2.2.2.2.1, some j4, ()) = some (some ((s.2.1.getD i za).2.2.2.2.1, some j4, ()), ()) := by
      simp only [jh, zhv, zEX (show (s.2.1.getD i za).2.2.2.2.1.length ≤ lim by omega), Option.bind_some]
      rfl
    rw [ltT h, qo h, vM, hq, Option.bind_some]
    exact l1 k i _ (by omega) (by omega)) (fun k => by simp only [zb2]; rw [ltF]; rfl)
end Go.Proofs.YtaokpakfhdeiiaaGreatDoor
end
section
namespace Go.Proofs.YtaokpakfhdeiiaaGreatDoor
open Go.Ev
set_option linter.unusedVariables false
set_option linter.unusedSimpArgs false
def zMg (r : ze) (s : zq) (i : Int) (x : zj) : Bool := zCT r s i x && (zh7 r i x && zyS x)
theorem zWe {α : Type} {d : α} {l : List α} {p : α → Bool} : l.all p = true ↔ ∀ j, j < l.length → p (l.getD j d) = true := by
  rw [List.all_eq_true]
  constructor
  · exact fun h j hj => h _ (vm hj)
  · intro h x hx
    obtain ⟨i, hi, rfl⟩ := List.mem_iff_getElem.1 hx
    have := h i hi
    simpa [List.getD, hi] using this
end Go.Proofs.YtaokpakfhdeiiaaGreatDoor
end
section
namespace Go.Proofs.YtaokpakfhdeiiaaGreatDoor
open Go.Ev
set_option linter.unusedVariables false
set_option linter.unusedSimpArgs false
def j6 : List Int → Int
  | [] => 0
  | x :: l => x + j6 l
theorem zJZ : ∀ (l m : List Int), j6 (l ++ m) = j6 l + j6 m
  | [], m => by simp [j6]
  | x :: l, m => by simp only [List.cons_append, j6, zJZ l m]; omega
theorem zEh : ∀ {l : List Int}, (∀ x ∈ l, 0 ≤ x) → 0 ≤ j6 l
  | [], _ => Int.le_refl 0
  | x :: l, h => by
    have h1 := h x (by simp)
    have h2 := zEh (l := l) fun y hy => h y (by simp [hy])
    simp only [j6]; omega
theorem zgF {α : Type} {g : α → Int} {l : List α} (h : ∀ x ∈ l, 0 ≤ g x) : 0 ≤ j6 (l.map g) := zEh fun x hx => by
  obtain ⟨y, hy, rfl⟩ := List.mem_map.1 hx
  exact h y hy
def zBF (n : Int) : Int × Int × Unit := bif decide (n > M62) then (0, 7, ()) else (n, 0, ())
theorem zsI {n : Int} (h : n > M62) : zBF n = (0, 7, ()) := by unfold zBF; rw [decide_eq_true h]; rfl
theorem zCU {n : Int} (h : n ≤ M62) : zBF n = (n, 0, ()) := by unfold zBF; rw [decide_eq_false (by omega)]; rfl
theorem zyT : ∀ (l : List Int) (a : Int), a ≤ M62 → (∀ x ∈ l, 0 ≤ x) → zyP a l = zBF (a + j6 l)
  | [], a, h, _ => by simp only [zyP, j6, Int.add_zero]; exact (zCU h).symm
  | x :: l, a, h, hp => by
    have h2 := zEh (l := l) fun y hy => hp y (by simp [hy])
    simp only [zyP, j6]
    by_cases hb : a + x > M62
    · rw [decide_eq_true hb, zsI (by omega)]; rfl
    · rw [decide_eq_false hb, cond_false, zyT l (a + x) (by omega) fun y hy => hp y (by simp [hy])]
      congr 1; omega
theorem zBG {α : Type} (p : α → Bool) (g : α → Int) : ∀ l : List α, j6 ((l.filter p).map g) = j6 (l.map fun x => bif p x then g x else 0)
  | [] => rfl
  | x :: l => by
    have ih := zBG p g l
    rw [zvZ]
    simp only [List.map_cons, j6]
    cases hp : p x with
    | true => simp only [cond_true, List.map_cons, j6, ih]
    | false => simp only [cond_false, ih]; omega
def zyU (x : zl) : Int := bif (x.2.2.2.1 : Int) == 2 then x.2.2.2.2.1 else x.2.2.2.2.2.1
theorem zWf (x : zl) : zcm (x, ()) = some (zyU x, ()) := by
  simp only [zcm, zuU, zyU]; grind
def zhC (c : Int) (x : zl) : Int := bif x.1 && zyU x == c then x.2.2.2.2.2.2.2.2.1 else 0
def zJ0 (l : List zl) (c : Int) : Int × Int × Unit := bif vf c then zBF (j6 (l.map (zhC c))) else (0, 1, ())
theorem zUl (l : List zl) (hl : l.length ≤ lim) : zku (l, ()) = some (some (l, some zgs, ()), ()) := by
  simp only [zku, zDX, zdu, zn4, zPi hl, Option.bind_some]
  rfl
theorem zRD (x : zl) : zgs (x, ()) = some (x.1, ()) := by
  rw [qd]; rfl
theorem zSJ {l : List zl} (hl : l.length ≤ lim) (h : ∀ x ∈ l, zCS x) (c : Int) : zh5 (l, c, ()) = some (zJ0 l c) := by
  have hl' : l.length ≤ Go.maxLen := by unfold lim at hl; unfold Go.maxLen; omega
  simp only [zh5, zsT, zdD, Option.bind_some]
  unfold zJ0
  cases hc : vf c with
  | false => rfl
  | true =>
    have hslots : zgt (l, ()) = some (jr (fun x : zl => x.1) 0 l, ()) := by
      simp only [zgt, zyq]
      rw [zUl l hl, Option.bind_some, zPn hl zRD, Option.bind_some]
    simp only [cond_true]
    rw [hslots, Option.bind_some]
    have hsl := zvS (p := fun x : zl => x.1) l 0
    have hsm := zvT (p := fun x : zl => x.1) l 0
    have hloop := zcU (B := zhS zcm jp) (l := jr (fun x : zl => x.1) 0 l) (α := List Int) (0 : Int) (fun i o => o.length ≤ i ∧ ∀ x ∈ o, 0 ≤ x ∧ x < U64) (fun i o => (l, c, jr (fun x : zl => x.1) 0 l, ((jr (fun x : zl => x.1) 0 l).length : Int), i, o))
      (fun rest o => some (zyP 0 (o ++ (rest.filter fun z => zyU (l.getD z.toNat qD) == c).map fun z => (l.getD z.toNat qD).2.2.2.2.2.2.2.2.1))) (by omega) (fun k i x rest o hi hI hx hm hr hk => by
        simp only [zhS]
        obtain ⟨j, rfl, -, hj⟩ := hsm x hm
        rw [ltT hi, qo hi, vM, hx, qo (by omega), qo (by omega), Int.toNat_natCast, set1, zWf]
        have hxx := (h (l.getD j qD) (vm (by omega))).held
        simp only [cond_true, zvZ, Int.toNat_natCast, Option.bind_some]
        rw [decide_eq_true (by simp; omega)]
        simp only [cond_true]
        cases hq : zyU (l.getD j qD) == c with
        | false =>
          exact hk o ⟨by omega, hI.2⟩
        | true =>
          simp only [cond_true, List.map_cons, Int.toNat_natCast]
          refine (hk _ ⟨by simp; omega, fun x hx => ?_⟩).trans ?_
          · rcases List.mem_append.1 hx with hx | hx
            · exact hI.2 x hx
            · rcases List.mem_singleton.1 hx with rfl
              exact hxx
          · rw [List.append_assoc]; rfl) (fun k o hI => by
        simp only [zhS]
        rw [ltF]
        simp only [cond_false]
        rw [zvR (by omega) hI.2, List.filter_nil, List.map_nil, List.append_nil]
        rfl) [] ⟨Nat.le_refl _, fun x hx => by cases hx⟩
    refine hloop.trans ?_
    rw [List.nil_append, zu4 (q := fun x : zl => zyU x == c) (g := fun x : zl => x.2.2.2.2.2.2.2.2.1) qD l l 0 fun j _ => by rw [Nat.zero_add]]
    rw [zyT _ 0 (by unfold M62; omega) fun x hx => ?_, zBG, Int.zero_add]
    · rfl
    · obtain ⟨y, hy, rfl⟩ := List.mem_map.1 hx
      exact (h y (List.mem_filter.1 hy).1).held.1
theorem zPv {x : zl} (h : zCS x) (c : Int) : ze0 (zhC c x) := by
  unfold zhC
  cases x.1 && zyU x == c with
  | true => exact h.held
  | false => exact (⟨Int.le_refl 0, by unfold U64; decide⟩ : ze0 0)
def zkH (c : Int) (x : zm) : Int := bif x.1 && (x.2.2.2.1.1 : Int) == c then x.2.2.2.1.2.1 else 0
theorem zRE {l : List zm} (h : ∀ x ∈ l, zCQ x) {c : Int} (hc : vf c = true) : zAh l c = zBF (j6 (l.map (zkH c))) := by
  unfold zAh
  rw [hc, cond_true, zyT _ 0 (by unfold M62; omega) fun x hx => ?_, zBG, Int.zero_add]
  · rfl
  · obtain ⟨y, hy, rfl⟩ := List.mem_map.1 hx
    exact (h y (List.mem_filter.1 hy).1).1.1
theorem zPw {x : zm} (h : zCQ x) (c : Int) : ze0 (zkH c x) := by
  unfold zkH
  cases x.1 && (x.2.2.2.1.1 : Int) == c with
  | true => exact h.1
  | false => exact (⟨Int.le_refl 0, by unfold U64; decide⟩ : ze0 0)
def zAl (c : Int) (a : List Int) : Int := a.getD c.toNat 0
def ze2 (c : Int) (x : zj) : Int := j6 (x.2.2.2.2.1.map (zkH c)) + j6 (x.2.2.2.2.2.1.map (zAl c))
theorem zMh {x : zj} (h : zHn x) (c : Int) : 0 ≤ j6 (x.2.2.2.2.1.map (zkH c)) := zgF fun y hy => (zPw (h.trades y hy) c).1
theorem zMi {x : zj} (h : zHn x) (c : Int) : 0 ≤ j6 (x.2.2.2.2.2.1.map (zAl c)) := zgF fun y hy => (zyR (h.purses y hy) _).1
theorem zE1 {x : zj} (h : zHn x) (c : Int) : 0 ≤ ze2 c x := by
  have := zMh h c
  have := zMi h c
  unfold ze2; omega
def zEi (s : zq) (c : Int) : Int × Int × Unit := bif vf c then zBF (j6 (s.2.2.2.1.map (zhC c)) + j6 (s.2.1.map (ze2 c))) else (0, 1, ())
structure zMj (s : zq) : Prop where
  shelves : s.2.1.length ≤ 8
  orders : s.2.2.2.1.length ≤ 24
  shelf : ∀ x ∈ s.2.1, x.2.2.2.2.1.length ≤ 12 ∧ x.2.2.2.2.2.1.length ≤ 8
theorem zOj {c : Int} (hc : vf c = true) : 0 ≤ c ∧ c < ((4 : Nat) : Int) := by
  simp only [vf, decide_eq_true_eq] at hc; omega
theorem zGZ {s : zq} (hs : zsG s) (sh : zMj s) (c : Int) : qF (s, c, ()) = some (zEi s c) := by
  have hlm : 1000000 ≤ lim := by unfold lim; omega
  have hmm : 1000000 ≤ Go.maxLen := by unfold Go.maxLen; omega
  have hsh := sh.shelves
  have hso := sh.orders
  simp only [qF, zqo, zdD, Option.bind_some]
  rw [zSJ (by omega) hs.orders]
  unfold zEi zJ0
  cases hc : vf c with
  | false => rfl
  | true =>
    have hcin := zOj hc
    simp only [cond_true, Option.bind_some]
    have hbook : 0 ≤ j6 (s.2.2.2.1.map (zhC c)) := zgF fun y hy => (zPv (hs.orders y hy) c).1
    have hall : 0 ≤ j6 (s.2.1.map (ze2 c)) := zgF fun y hy => zE1 (hs.shelves y hy) c
    have inner : ∀ k0 (i : Nat) (x : zj) (o : List Int), x.2.2.2.2.2.1.length ≤ 8 → o.length ≤ 10000 → zgy K0 k0 (c, s.2.1, (s.2.1.length : Int), (i : Int), x.2.2.2.2.2.1, (x.2.2.2.2.2.1.length : Int), 0, o) = k0 (c, s.2.1, (s.2.1.length : Int), wI ((i : Int) + 1), o ++ x.2.2.2.2.2.1.map (zAl c)) := fun k0 i x o hx ho =>
      zcU (B := fun k1 => zgx k0 k1) (l := x.2.2.2.2.2.1) (α := List Int) (zb (Ty.arr 4 tU)) (fun j o' => o'.length ≤ 10000 + j) (fun j o' => (c, s.2.1, (s.2.1.length : Int), (i : Int), x.2.2.2.2.2.1, (x.2.2.2.2.2.1.length : Int), j, o')) (fun rest o' => k0 (c, s.2.1, (s.2.1.length : Int), wI ((i : Int) + 1), o' ++ rest.map (zAl c))) (by omega) (fun k j a rest o' hj hI ha hm hr hk => by
        simp only [zgx]
        have h4 : ((4 : Int)) = ((4 : Nat) : Int) := rfl
        rw [ltT hj, qo hj, Int.toNat_natCast, ha, set1, decide_eq_true (by simp; omega)]
        simp only [cond_true]
        refine Eq.trans (ixR hcin) ?_
        refine (hk _ (by simp; omega)).trans ?_
        rw [List.append_assoc]; rfl) (fun k o' _ => by
        simp only [zgx]; rw [ltF]
        simp only [cond_false, List.map_nil, List.append_nil]) o ho
    by_cases hb : j6 (s.2.2.2.1.map (zhC c)) > M62
    · rw [zsI hb, zsI (by omega)]; rfl
    · rw [zCU (by omega)]
      have hloop := zcU (B := fun k0 => zc6 zdw jp (zgy K0 k0) k0) (l := s.2.1) (α := List Int) za (fun i o => o.length ≤ 1 + 9 * i ∧ ∀ x ∈ o, 0 ≤ x ∧ x < U64) (fun i o => (c, s.2.1, (s.2.1.length : Int), i, o)) (fun rest o => some (zBF (j6 o + j6 (rest.map (ze2 c))))) (by omega) (fun k i x rest o hi hI hx hm hr hk => by
        simp only [zc6]
        have hin := hs.shelves x hm
        have hlen := sh.shelf x hm
        have h1 := zMh hin c
        have h2 := zMi hin c
        have ho : 0 ≤ j6 o := zEh fun y hy => (hI.2 y hy).1
        have hrest : 0 ≤ j6 (rest.map (ze2 c)) := zgF fun y hy => zE1 (hs.shelves y (by rw [← hr] at hy; exact List.mem_of_mem_drop hy)) c
        rw [ltT hi, qo hi, vM, hx, zRv (by omega) hin.trades, zRE hin.trades hc]
        simp only [cond_true, Option.bind_some, List.map_cons, j6, ze2]
        by_cases hb : j6 (x.2.2.2.2.1.map (zkH c)) > M62
        · rw [zsI hb, zsI (by omega)]; rfl
        · rw [zCU (by omega), set1, inner k i x _ (by omega) (by simp; omega)]
          rw [decide_eq_true (by simp; omega)]
          simp only [bne_self_eq_false, cond_true, cond_false]
          refine (hk _ ⟨by simp; omega, fun y hy => ?_⟩).trans ?_
          · rcases List.mem_append.1 hy with hy | hy
            · rcases List.mem_append.1 hy with hy | hy
              · exact hI.2 y hy
              · rcases List.mem_singleton.1 hy with rfl
                unfold M62 at hb; unfold U64; omega
            · obtain ⟨a, ha, rfl⟩ := List.mem_map.1 hy
              exact zyR (hin.purses a ha) _
          · rw [zJZ, zJZ]
            simp only [j6]
            congr 2; omega) (fun k o hI => by
        simp only [zc6]
        rw [ltF]
        simp only [cond_false]
        rw [zvR (by omega) hI.2, zyT o 0 (by unfold M62; omega) fun y hy => (hI.2 y hy).1]
        simp only [List.map_nil, j6, Int.add_zero, Int.zero_add]
        rfl) [j6 (s.2.2.2.1.map (zhC c))] ⟨by simp, fun y hy => by
          rcases List.mem_singleton.1 hy with rfl
          unfold M62 at hb; unfold U64; omega⟩
      refine hloop.trans ?_
      simp only [j6, Int.add_zero]
end Go.Proofs.YtaokpakfhdeiiaaGreatDoor
end
section
namespace Go.Proofs.YtaokpakfhdeiiaaGreatDoor
open Go.Ev
set_option linter.unusedVariables false
set_option linter.unusedSimpArgs false
def zRF (a b : Int) : Int × Int × Unit := bif decide (a < b) then (0, 6, ()) else (a - b, 0, ())
theorem zRG {a b : Int} (ha : 0 ≤ a ∧ a ≤ M62) (hb : 0 ≤ b ∧ b ≤ M62) : zgC (a, b, ()) = some (zRF a b) := by
  simp only [zgC, zyt, zAn, zCY, zRF, cond_false]
  unfold M62 at *
  have h2 : b ≤ a → (a - b) % 18446744073709551616 = a - b := fun h => by omega
  grind
def zBH (f : zj → List Int) (s : zq) (c : Int) : Int := j6 (s.2.1.map fun x => zAl c (f x))
theorem zRH {f : zj → List Int} {s : zq} (h : ∀ x ∈ s.2.1, zEc (f x)) (c : Int) : 0 ≤ zBH f s c := zgF fun y hy => (zyR (h y hy) _).1
theorem zRI {s : zq} (sh : zMj s) {f : zj → List Int} {g : zj × Unit → Option (List Int × Unit)} (hg : ∀ x, g (x, ()) = some (f x, ())) (h : ∀ x ∈ s.2.1, zEc (f x)) {c : Int} (hc : vf c = true) : zgz (s, c, some g, ()) = some (zBF (zBH f s c)) := by
  have hlm : 1000000 ≤ lim := by unfold lim; omega
  have hmm : 1000000 ≤ Go.maxLen := by unfold Go.maxLen; omega
  have hsh := sh.shelves
  have hcin := zOj hc
  have hloop := zcU (B := zdy jp) (l := s.2.1) (α := List Int) za (fun i o => o.length ≤ i ∧ ∀ x ∈ o, 0 ≤ x ∧ x < U64) (fun i o => (c, some g, s.2.1, (s.2.1.length : Int), i, o)) (fun rest o => some (zyP 0 (o ++ rest.map fun x => zAl c (f x)))) (by omega) (fun k i x rest o hi hI hx hm hr hk => by
    simp only [zdy]
    rw [ltT hi, qo hi, vM, hx]
    simp only [cond_true, Option.bind_some]
    rw [hg]
    simp only [Option.bind_some]
    refine Eq.trans (ixR hcin) ?_
    rw [set1, decide_eq_true (by simp; omega)]
    simp only [cond_true]
    refine (hk _ ⟨by simp; omega, fun y hy => ?_⟩).trans ?_
    · rcases List.mem_append.1 hy with hy | hy
      · exact hI.2 y hy
      · rcases List.mem_singleton.1 hy with rfl
        exact zyR (h x hm) _
    · rw [List.append_assoc]; rfl) (fun k o hI => by
    simp only [zdy]
    rw [ltF]
    simp only [cond_false]
    rw [zvR (by omega) hI.2, List.map_nil, List.append_nil]
    rfl) [] ⟨Nat.le_refl _, fun x hx => by cases hx⟩
  refine Eq.trans ?_ (hloop.trans ?_)
  · rfl
  · rw [List.nil_append, zyT _ 0 (by unfold M62; omega) fun y hy => ?_, Int.zero_add]
    · rfl
    · obtain ⟨z, hz, rfl⟩ := List.mem_map.1 hy
      exact (zyR (h z hz) _).1
def zEj (s : zq) (c : Int) : Int × Int × Unit := bif vf c then bif decide (zBH (fun x => x.2.2.2.2.2.2.2.1) s c > M62) then (0, 7, ()) else bif decide (zBH (fun x => x.2.2.2.2.2.2.2.2.1) s c > M62) then (0, 7, ()) else zRF (zBH (fun x => x.2.2.2.2.2.2.2.1) s c) (zBH (fun x => x.2.2.2.2.2.2.2.2.1) s c) else (0, 1, ())
theorem zG0 {s : zq} (hs : zsG s) (sh : zMj s) (c : Int) : qG (s, c, ()) = some (zEj s c) := by
  simp only [qG, zyv, zdD, Option.bind_some]
  unfold zEj
  cases hc : vf c with
  | false => rfl
  | true =>
    have p1 := zRH (f := fun x => x.2.2.2.2.2.2.2.1) (fun x hx => (hs.shelves x hx).made) c
    have p2 := zRH (f := fun x => x.2.2.2.2.2.2.2.2.1) (fun x hx => (hs.shelves x hx).spent) c
    rw [zRI sh (f := fun x => x.2.2.2.2.2.2.2.1) (g := zgA) (fun x => rfl) (fun x hx => (hs.shelves x hx).made) hc, zRI sh (f := fun x => x.2.2.2.2.2.2.2.2.1) (g := zgB) (fun x => rfl) (fun x hx => (hs.shelves x hx).spent) hc]
    simp only [cond_true, Option.bind_some]
    generalize zBH (fun x => x.2.2.2.2.2.2.2.1) s c = a at *
    generalize zBH (fun x => x.2.2.2.2.2.2.2.2.1) s c = b at *
    by_cases h1 : a > M62
    · rw [zsI h1, decide_eq_true h1]; rfl
    · rw [zCU (by omega), decide_eq_false h1]
      by_cases h2 : b > M62
      · rw [zsI h2, decide_eq_true h2]; rfl
      · rw [zCU (by omega), decide_eq_false h2]
        simp only [bne_self_eq_false, cond_false]
        rw [zRG (by omega) (by omega)]; rfl
end Go.Proofs.YtaokpakfhdeiiaaGreatDoor
end
section
namespace Go.Proofs.YtaokpakfhdeiiaaGreatDoor
open Go.Ev
set_option linter.unusedVariables false
set_option linter.unusedSimpArgs false
def zAm (r : ze) (s : zq) (c i : Nat) : Bool := !decide (((s.2.1.getD i za).2.2.2.2.2.2.2.1.getD c 0 : Int) > (r.2.2.2.2.1.getD i jQ).2.2.2.2.2.1)
def zyV (s : zq) (c : Int) : Bool := (zEi s c).2.1 == 0 && ((zEj s c).2.1 == 0 && (zEi s c).1 == (zEj s c).1)
def zyW (r : ze) (s : zq) : Bool := qH r && (zqE r s && (zsH r s && (qM (fun i => (ze1 (s.2.1.getD i za) && zMg r s i (s.2.1.getD i za)) && qM (fun c => zAm r s c i) 0 (4 - 0)) 0 (s.2.1.length - 0) && qM (fun c => zyV s (c : Int)) 0 (4 - 0))))
theorem zVt {r : ze} {s : zq} (ok : zos r) (sz : zot r s) : zMj s := by
  refine ⟨?_, sz.orders, fun x hx => ?_⟩
  · rw [sz.shelves]; exact ok.labels.2
  · have h1 := sz.shelf x hx
    have h2 := ok.accounts
    omega
theorem zPx {r : ze} {s : zq} (ok : zos r) (hs : zsG s) (sz : zot r s) : zen ((r, s, ()), ()) = some (qM (fun c => qM (fun i => zAm r s c i) 0 (s.2.1.length - 0) && zyV s (c : Int)) 0 (4 - 0), ()) := by
  rw [qd]
  have hmm : 1000000 ≤ Go.maxLen := by unfold Go.maxLen; omega
  have sh := zVt ok sz
  have hsh := sh.shelves
  have h2 := sz.shelves
  have h3 := ok.quotas
  have inner : ∀ k0 (c : Nat), c < 4 → zeT qF qG K0 k0 ((c : Int), (c : Int), s.2.1, (s.2.1.length : Int), 0, (r, s, ())) = bif qM (fun i => zAm r s c i) 0 (s.2.1.length - 0) then bif zyV s (c : Int) then k0 (wI ((c : Int) + 1), (r, s, ())) else some (false, ()) else some (false, ()) := fun k0 c hc =>
    zas (B := fun k1 => zeS qF qG k0 k1) (i0 := 0) (n := s.2.1.length) (by omega) (Nat.zero_le _) (fun i => ((c : Int), (c : Int), s.2.1, (s.2.1.length : Int), i, (r, s, ()))) (fun k i _ hi => by
      simp only [zeS]
      rw [ltT hi, qo hi, vM, Int.toNat_natCast]
      simp only [cond_true]
      refine Eq.trans (qo (n := 4) hc) ?_
      rw [qo (by omega), vM]
      unfold zAm
      grind) (fun k => by
      simp only [zeS]
      rw [ltF, zGZ hs sh, zG0 hs sh]
      simp only [Option.bind_some, cond_false, zyV]
      generalize zEi s (c : Int) = h
      generalize zEj s (c : Int) = m
      grind)
  exact zas (B := fun k0 => zeU (zeT qF qG K0 k0) k0) (i0 := 0) (n := 4) (by omega) (Nat.zero_le _) (fun c => (c, (r, s, ()))) (fun k c _ hc => by
    simp only [zeU]
    rw [decide_eq_true (by omega), cond_true]
    refine (inner k c hc).trans ?_
    cases qM (fun i => zAm r s c i) 0 (s.2.1.length - 0) <;> rfl) (fun k => rfl)
def zRJ (r : ze) (s : zq) : Bool := qH r && (zqE r s && (s.2.1.all ze1 && (zsH r s && (qM (fun i => zCT r s (i : Int) (s.2.1.getD i za)) 0 (s.2.1.length - 0) && (qM (fun i => zh7 r (i : Int) (s.2.1.getD i za)) 0 s.2.1.length && (qM (fun i => zyS (s.2.1.getD i za)) 0 (s.2.1.length - 0) && qM (fun c => qM (fun i => zAm r s c i) 0 (s.2.1.length - 0) && zyV s (c : Int)) 0 (4 - 0)))))))
theorem zVu (r : ze) (s : zq) : zRJ r s = zyW r s := by
  rw [Bool.eq_iff_iff]
  unfold zRJ zyW zMg
  simp only [Bool.and_eq_true, yb, @zWe zj za]
  constructor
  · rintro ⟨h1, h2, h3, h4, h5, h6, h7, h8⟩
    exact ⟨h1, h2, h4, fun i hi1 hi => ⟨⟨h3 i (by omega), h5 i hi1 hi, h6 i hi1 (by omega), h7 i hi1 hi⟩, fun c hc1 hc => (h8 c hc1 hc).1 i hi1 hi⟩, fun c hc1 hc => (h8 c hc1 hc).2⟩
  · rintro ⟨h1, h2, h4, h5, h6⟩
    exact ⟨h1, h2, fun i hi => (h5 i (by omega) (by omega)).1.1, h4, fun i h7 h8 => (h5 i h7 h8).1.2.1, fun i h7 h8 => (h5 i h7 (by omega)).1.2.2.1, fun i h7 h8 => (h5 i h7 h8).1.2.2.2, fun c h7 h8 => ⟨fun i h9 h10 => (h5 i h9 h10).2 c h7 h8, h6 c h7 h8⟩⟩
theorem zE2 {r : ze} {s : zq} (hr : yr r) (hs : zsG s) : qt (r, s, ()) = some (zyW r s, ()) := by
  rw [← zVu, qd]
  obtain ⟨m, hm⟩ := zHi
  have first : qt (r, s, ()) = iter zi0 K0 (true, 7, 0, [some fun z => zcj ((r, s, ()), ()), some fun z => zck ((r, s, ()), ()), some fun z => zbi ((r, s, ()), ()), some fun z => zek ((r, s, ()), ()), some fun z => zbk ((r, s, ()), ()), some fun z => zel ((r, s, ()), ()), some fun z => zen ((r, s, ()), ())]) := rfl
  have hu : ∀ (f1 f2 f3 f4 f5 f6 f7 : Option (Bool × Unit)), iter zi0 (m + 8) (true, 7, 0, [some fun z => f1, some fun z => f2, some fun z => f3, some fun z => f4, some fun z => f5, some fun z => f6, some fun z => f7]) =
    Option.bind f1 fun q => bif q.1 then Option.bind f2 fun q => bif q.1 then Option.bind f3 fun q => bif q.1 then Option.bind f4 fun q => bif q.1 then Option.bind f5 fun q => bif q.1 then Option.bind f6 fun q => bif q.1 then Option.bind f7 fun q => bif q.1 then some (true, ()) else some (false, ()) else some (false, ()) else some (false, ()) else some (false, ()) else some (false, ()) else some (false, ()) else some (false, ()) := fun f1 f2 f3 f4 f5 f6 f7 => by kernel_rfl
  rw [first, hm, hu, zPr hr s, Option.bind_some]
  unfold zRJ
  cases hb : qH r with
  | false => rfl
  | true =>
    cases hz : zqE r s with
    | false => rfl
    | true =>
      have ok := zaj hb
      have sz := zOi hb hz
      rw [zPs ok sz, zNJ hr hb hs sz, zPt hr ok sz, zNK hr ok sz, zPu ok sz, zPx ok hs sz]
      simp only [Option.bind_some, Bool.true_and, cond_true]
      generalize s.2.1.all ze1 = c1
      generalize zsH r s = c2
      generalize qM (fun i => zCT r s (i : Int) (s.2.1.getD i za)) 0 (s.2.1.length - 0) = c3
      generalize qM (fun i => zh7 r (i : Int) (s.2.1.getD i za)) 0 s.2.1.length = c4
      generalize qM (fun i => zyS (s.2.1.getD i za)) 0 (s.2.1.length - 0) = c5
      generalize qM (fun c => qM (fun i => zAm r s c i) 0 (s.2.1.length - 0) && zyV s (c : Int)) 0 (4 - 0) = c6
      cases c1 <;> cases c2 <;> cases c3 <;> cases c4 <;> cases c5 <;> cases c6 <;> rfl
end Go.Proofs.YtaokpakfhdeiiaaGreatDoor
end
section
namespace Go.Proofs.YtaokpakfhdeiiaaGreatDoor
open Go.Ev
set_option linter.unusedVariables false
set_option linter.unusedSimpArgs false
def cpy {α : Type} (x : List α × Unit) : Option (List α × Unit) := bif decide (List.length x.1 ≤ lim) then some (x.1, ()) else none
theorem zep {τ : Ty} {f : List τ.I × Unit → Option (List τ.I × Unit)} (hf : ∀ l, f (l, ()) = bif List.isEmpty l then both (some ([], ())) (bif decide (List.length (List.replicate 0 (zb τ)) + List.length l ≤ lim) then some (List.replicate 0 (zb τ) ++ l, ()) else none) else bif decide (List.length (List.replicate 0 (zb τ)) + List.length l ≤ lim) then some (List.replicate 0 (zb τ) ++ l, ()) else none) : f = cpy := by
  funext ⟨l, u⟩
  cases u
  rw [hf]
  have e0 : List.length (List.replicate 0 (zb τ)) + List.length l = List.length l := by simp
  have e1 : List.replicate 0 (zb τ) ++ l = l := rfl
  rw [e0, e1]
  unfold cpy
  cases l with
  | nil =>
    have : decide (List.length ([] : List τ.I) ≤ lim) = true := decide_eq_true (Nat.zero_le _)
    rw [this]
    unfold both
    exact if_pos rfl
  | cons x l => rfl
theorem zVv : jO = cpy := zep (τ := zp) fun _ => rfl
theorem zVw : zbm = cpy := zep (τ := zy) fun _ => rfl
theorem zWV : zah = cpy := zep (τ := tI) fun _ => rfl
theorem zWg : zb3 = cpy := zep (τ := (Ty.sl tI)) fun _ => rfl
theorem zVx : zbn = cpy := zep (τ := zi) fun _ => rfl
theorem zWh : zb4 = cpy := zep (τ := qU) fun _ => rfl
theorem zWi : zb5 = cpy := zep (τ := qj) fun _ => rfl
theorem zWj : zb6 = cpy := zep (τ := qi) fun _ => rfl
theorem zWk : zb7 = cpy := zep (τ := qu) fun _ => rfl
theorem zVy : jN = cpy := zep (τ := zA) fun _ => rfl
theorem zXm : zeo = cpy := zep (τ := (Ty.arr 4 tU)) fun _ => rfl
theorem zWW : zc7 = cpy := zep (τ := zW) fun _ => rfl
def zVz : ztA := zhU cpy cpy cpy cpy (zi1 cpy cpy cpy cpy cpy cpy cpy cpy cpy K0)
theorem zWl : zcn = zVz := by
  have h : zcn = zhU jO zbm zah zb3 (zi1 zah zbn zb4 zb5 zb6 zb7 jN zeo zc7 K0) := rfl
  rw [h, zVv, zVw, zWV, zWg, zVx, zWh, zWi, zWj, zWk, zVy, zXm, zWW]
  rfl
theorem zXn : zmw zec yy qt jB zVz zgD qF qG zkC () = some (true, ()) := by kernel_rfl
theorem zS1 : zaV () = some (true, ()) := by
  have h : zaV () = zmw zec yy qt jB zcn zgD qF qG zkC () := rfl
  rw [h, zWl]
  exact zXn
end Go.Proofs.YtaokpakfhdeiiaaGreatDoor
end
section
namespace Go.Proofs.YtaokpakfhdeiiaaGreatDoor
open Go.Ev
set_option linter.unusedVariables false
set_option linter.unusedSimpArgs false
theorem wf_u64 {x : Int} (h : (Lit.int .u64 x).wf = true) : ze0 x := by
  unfold Lit.wf at h
  simp only [Bool.and_eq_true, decide_eq_true_eq] at h
  have e1 : IntKind.min .u64 = 0 := by decide
  have e2 : IntKind.max .u64 = 18446744073709551615 := by decide
  rw [e1, e2] at h
  exact ⟨h.1, Int.lt_of_le_of_lt h.2 (by decide)⟩
theorem zWX {r : ze} (h : InR zL r) : yr r := by
  obtain ⟨hl, h2⟩ := h
  refine ⟨fun a ha => ?_, h2.2.2.1.1, h2.2.2.2.1.1⟩
  have h3 : (Lit.int .u64 a.2.1).wf = true := (hl.2 a ha).2.1
  exact wf_u64 h3
end Go.Proofs.YtaokpakfhdeiiaaGreatDoor
end
section
namespace Go.Proofs.YtaokpakfhdeiiaaGreatDoor
open Go.Ev
set_option linter.unusedVariables false
noncomputable section
section
variable (vK : zAx) (vg : zEp) (zo : zce) (zO : zoB) (zP : zoC) (qb : zhI) (jb : zrg)
abbrev zyX : Env := (En E0 false [zjc vK, zrh vg, ja zo, zcc zO, zcd zP, vN qb, zey jb])
abbrev zbQ : Type := Int × ze × qm × zq
abbrev zG1 : zbQ → St := fun (v7, o0, o1, o2) => St.mk [(2, AV.bp 0 []), (3, AV.bp 1 []), (5, AV.bp 2 []), (7, AV.dat tI v7)] [Obj.bx (AV.dat zL o0) false, Obj.bx (AV.dat yT o1) false, Obj.bx (AV.dat qV o2) false]
def zbR (k0 : zbQ → Option (Bool × Unit)) : zbQ → Option (Bool × Unit) := fun (v7, o0, o1, o2) =>
  bif decide (v7 < 4) then Option.bind (zO (o2, v7, ())) fun q3 => Option.bind (zP (o2, v7, ())) fun q4 => bif q3.1 != 0 then some (false, ()) else bif q4.1 != 0 then some (false, ()) else bif q3.2.1 != 0 then some (false, ()) else bif q4.2.1 != 0 then some (false, ()) else k0 (wI (v7 + 1), o0, o1, o2) else Option.bind (vg ()) fun q5 => bif q5.1 then Option.bind (qb (o0, o2, ())) fun q6 => bif q6.1 then Option.bind (jb (o0, o2, o1, ())) fun q7 => bif q7.1 then bif eqI yT o1 (zb zW) then bif ((List.length o2.2.2.2.2.1) : Int) == 0 then some (true, ()) else some (false, ()) else some (false, ()) else bif eqI yT o1 (zb zW) then some (false, ()) else bif ((List.length o2.2.2.2.2.1) : Int) == 0 then some (true, ()) else some (false, ()) else some (false, ()) else some (false, ())
abbrev ztr (K : Nat) : zbQ → Option (Bool × Unit) := iter (zbR vg zO zP qb jb) K
theorem zG2 (K : Nat) : ∀ n, evV (zyX vK vg zo zO zP qb jb) K Tryz.f5 0 zgO [1, 1, 1, 0, 1, 0] [] zG1 n = iter (zbR vg zO zP qb jb) n := zx fun n0 (v7, o0, o1, o2) => by kernel_rfl
def zhD (L0 : zbQ → Option (Bool × Unit)) : (ze × (qm × Unit)) → Option (Bool × Unit) := fun (x0, x1, ()) =>
  Option.bind (vK (x0, ())) fun q0 => bif q0.2.1 != 0 then Option.bind (vg ()) fun q1 => bif q1.1 then Option.bind (zo (x0, ())) fun q2 => bif q2.1 then some (false, ()) else some (true, ()) else some (false, ()) else L0 (0, x0, x1, q0.1.1, q0.1.2.1, q0.1.2.2.1, q0.1.2.2.2.1, q0.1.2.2.2.2.1, q0.1.2.2.2.2.2.1, ())
theorem zJ1 (K : Nat) : evF (zyX vK vg zo zO zP qb jb) K Tryz.f5 0 zgN zgO = zhD vK vg zo (ztr vg zO zP qb jb K) := tr1 (T := zhD vK vg zo) (zG2 vK vg zo zO zP qb jb K K) fun (x0, x1, ()) => by kernel_rfl
end
def zhE : zIK := zhD yy zaV qe (ztr zaV qF qG qt jB K0)
theorem zJ2 : Sd Tryz.prog E0 (zHu zhE) := mkS (l := [zjc yy, zrh zaV, ja qe, zcc qF, zcd qG, vN qt, zey jB]) ⟨zIm, zPh, zee, zyr, zyw, zmt, zCE, trivial⟩ Tryz.func5 (by kernel_rfl) (zJ1 yy zaV qe qF qG qt jB K0)
end
end Go.Proofs.YtaokpakfhdeiiaaGreatDoor
end
section
namespace Go.Proofs.YtaokpakfhdeiiaaGreatDoor
open Go.Ev
set_option linter.unusedVariables false
set_option linter.unusedSimpArgs false
theorem zWm {β : Type} {d : β} {n i : Nat} (h : i < n) (o : List β) : (o ++ [d]) ++ List.replicate (n - (i + 1)) d = o ++ List.replicate (n - i) d := by
  rw [List.append_assoc, show n - i = (n - (i + 1)) + 1 by omega, List.replicate_succ]; rfl
theorem zWn {σ β ρ : Type} {B : (σ → Option ρ) → σ → Option ρ} {n : Nat} (hn : n ≤ Go.maxLen) (d : β) (st : Int → List β → σ) (fin : List β → Option ρ) (o0 : List β)
    (hin : ∀ k (i : Nat) o, i < n → o.length = o0.length + i → B k (st i o) = k (st (wI (i + 1)) (o ++ [d]))) (hout : ∀ k o, B k (st n o) = fin o) : iter B K0 (st 0 o0) = fin (o0 ++ List.replicate n d) := by
  have := zkd (B := B) hn st (fun i o => fin (o ++ List.replicate (n - i) d)) (fun i o => o.length = o0.length + i) (fun k i o hi hI h => ?_) (fun k o hI => ?_) o0 rfl
  · simpa using this
  · rw [hin k i o hi hI, h _ (by rw [List.length_append, hI]; simp; omega), zWm hi]
  · rw [hout]; simp
abbrev zUm : ByteArray := ByteArray.mk #[112, 108, 97, 122, 97]
def ya (r : ze) (q : za0) : zj := (List.replicate q.1.toNat zvG, List.replicate q.2.1.toNat zak, List.replicate q.2.2.1.toNat zgM, List.replicate q.2.2.2.1.toNat zPD, List.replicate q.2.2.2.2.1.toNat jX, List.replicate r.2.2.1.length [0, 0, 0, 0], List.replicate r.2.2.1.length zMG, [0, 0, 0, 0], [0, 0, 0, 0], ())
def zNL (x : zj) : zj := (x.1.set 0 (true, zUm, ()), x.2)
def zmx (r : ze) (g : qm) : List Int := (List.replicate r.2.2.1.length 0).set g.2.1.toNat 2
def zfB (r : ze) : List zj := (r.2.2.2.2.1.map (ya r)).set 0 (zNL ((r.2.2.2.2.1.map (ya r)).getD 0 za))
def zgG (r : ze) : zq := (0, zfB r, r.2.2.2.1.map (zmx r), List.replicate r.2.2.2.2.2.1.toNat qD, [], List.replicate r.2.1.length (-1), ())
theorem zRK {q : za0} (h : zkF q = true) : (0 ≤ q.1 ∧ q.1 ≤ 12) ∧ (0 ≤ q.2.1 ∧ q.2.1 ≤ 12) ∧ (0 ≤ q.2.2.1 ∧ q.2.2.1 ≤ 12) ∧ (0 ≤ q.2.2.2.1 ∧ q.2.2.2.1 ≤ 12) ∧ (0 ≤ q.2.2.2.2.1 ∧ q.2.2.2.2.1 ≤ 12) := by
  simp only [zkF, within, Bool.and_eq_true, decide_eq_true_eq] at h
  omega
theorem zPy {r : ze} {q : za0} (hq : zkF q = true) (ha : r.2.2.1.length ≤ 8) : zci (r, q, ()) = some (ya r q, ()) := by
  simp only [zci, zuE]
  have h := zRK hq
  have hl : ((lim : Nat) : Int) = 4294967296 := rfl
  rw [hl]
  have t : ∀ {p : Prop} [Decidable p], p → decide p = true := fun h => decide_eq_true h
  rw [t (p := 0 ≤ q.1) (by omega), t (p := q.1 ≤ q.1) (by omega), t (p := q.1 ≤ 4294967296) (by omega),
    t (p := 0 ≤ q.2.1) (by omega), t (p := q.2.1 ≤ q.2.1) (by omega), t (p := q.2.1 ≤ 4294967296) (by omega),
    t (p := 0 ≤ q.2.2.1) (by omega), t (p := q.2.2.1 ≤ q.2.2.1) (by omega), t (p := q.2.2.1 ≤ 4294967296) (by omega),
    t (p := 0 ≤ q.2.2.2.1) (by omega), t (p := q.2.2.2.1 ≤ q.2.2.2.1) (by omega), t (p := q.2.2.2.1 ≤ 4294967296) (by omega),
    t (p := 0 ≤ q.2.2.2.2.1) (by omega), t (p := q.2.2.2.2.1 ≤ q.2.2.2.2.1) (by omega), t (p := q.2.2.2.2.1 ≤ 4294967296) (by omega),
    t (p := (r.2.2.1.length : Int) ≤ (r.2.2.1.length : Int)) (by omega), t (p := (r.2.2.1.length : Int) ≤ 4294967296) (by omega), Int.toNat_natCast]
  rfl
theorem zMk {r : ze} (hb : qH r = true) : ∀ q ∈ r.2.2.2.2.1, zkF q = true := by
  simp only [qH, zsE, Bool.and_eq_true] at hb
  exact zJY _ _ hb.2.2.2.2.1.2.2.2
theorem zWw {r : ze} (hb : qH r = true) : 1 ≤ (r.2.2.2.2.1.getD 0 jQ).1 := by
  simp only [qH, zsE, Bool.and_eq_true, decide_eq_true_eq] at hb
  exact hb.2.2.2.2.1.2.2.1
theorem zUn {r : ze} (hr : yr r) (hb : qH r = true) : zko (r, ()) = some (r.2.2.2.1.map (zmx r), ()) := by
  have ok := zaj hb
  have ha := ok.accounts
  have hg := ok.guilds
  have hl : ((lim : Nat) : Int) = 4294967296 := rfl
  simp only [zko, zvL, zhV r hr, Option.bind_some, hb, cond_true]
  exact zcU (B := zjM) (l := r.2.2.2.1) (α := List (List Int)) vz (fun i o => o.length = i) (fun i o => (r.2.2.2.1, (r.2.2.2.1.length : Int), i, r, o, o.length)) (fun rest o => some (o ++ rest.map (zmx r), ())) (by unfold Go.maxLen; omega) (fun k i x rest o hi hI hx hm hr' hk => by
    have hh := ok.heads i hi
    rw [show r.2.2.2.1.getD i vz = x from hx] at hh
    have hx' : List.getD r.2.2.2.1 i (zb yT) = x := hx
    simp only [zjM]
    rw [ltT hi, qo hi, vM, hx, hl, decide_eq_true (Int.le_refl _), decide_eq_true (p := (r.2.2.1.length : Int) ≤ 4294967296) (by omega), Int.toNat_natCast]
    simp only [cond_true]
    rw [ixR (by rw [List.length_replicate]; exact hh), zL3 (by simp; omega)]
    simp only [cond_true, decide_true]
    have := hk (o ++ [zmx r x]) (by rw [List.length_append, hI]; rfl)
    rw [List.length_append] at this
    refine Eq.trans this ?_
    simp) (fun k o hI => by
    simp only [zjM]
    rw [ltF]
    simp) [] rfl
theorem zXA {r : ze} (ok : zos r) (o : List zj) (l : List (List Int)) (w : List zl) : zhP K0 ((r.2.1.length : Int), 0, 0, 0, [], 0, [], 0, [], [], [], o, o.length, l, l.length, w, [], []) = some ((0, o, l, w, [], List.replicate r.2.1.length (-1), ()), 0, ()) := by
  have hl := ok.lines
  have := zWn (B := zhO) (n := r.2.1.length) (by unfold Go.maxLen; omega) (-1 : Int) (fun i (e : List Int) => ((r.2.1.length : Int), i, 0, 0, [], 0, [], 0, [], [], [], o, o.length, l, l.length, w, [], e)) (fun e => some ((0, o, l, w, [], e, ()), 0, ())) [] (fun k i e hi hI => by
    simp only [zhO]
    rw [ltT hi, set1, zL3 (by simp at hI ⊢; omega)]
    rfl) (fun k e => by
    simp only [zhO]
    rw [ltF]
    simp only [decide_true]
    rfl)
  exact this
theorem zVA (q : zj) : (q.1, q.2.1, q.2.2.1, q.2.2.2.1, q.2.2.2.2.1, q.2.2.2.2.2.1, q.2.2.2.2.2.2.1, q.2.2.2.2.2.2.2.1, q.2.2.2.2.2.2.2.2.1, ()) = q := rfl
theorem zSK {r : ze} (hr : yr r) : yy (r, ()) = some (bif qH r then (zgG r, 0, ()) else ((0, [], [], [], [], [], ()), 1, ())) := by
  simp only [yy, zsR, zhV r hr, Option.bind_some]
  cases hb : qH r with
  | false => rfl
  | true =>
    have ok := zaj hb
    have ha := ok.accounts
    have hl := ok.labels
    have hq := ok.quotas
    have h24 : 0 ≤ r.2.2.2.2.2.1 ∧ r.2.2.2.2.2.1 ≤ 24 := by
      simp only [qH, zHk, within, Bool.and_eq_true, decide_eq_true_eq] at hb
      omega
    have hlim : ((lim : Nat) : Int) = 4294967296 := rfl
    rw [zUn hr hb]
    simp only [Option.bind_some, cond_true]
    rw [hlim, decide_eq_true h24.1, decide_eq_true (Int.le_refl _), decide_eq_true (p := r.2.2.2.2.2.1 ≤ 4294967296) (by omega)]
    simp only [cond_true]
    have hall := zMk hb
    have hloop := zcU (B := fun k0 => zef zci (zhP K0) k0) (l := r.2.2.2.2.1) (α := List zj) jQ (fun i o => o.length = i)
      (fun i o => (r.2.2.2.2.1, (r.2.2.2.2.1.length : Int), i, r, 0, 0, [], 0, [], 0, [], [], [], o, o.length, r.2.2.2.1.map (zmx r), (r.2.2.2.1.map (zmx r)).length, List.replicate r.2.2.2.2.2.1.toNat qD, [], []))
      (fun rest o => bif decide (0 < (o ++ rest.map (ya r)).length) && decide (0 < ((o ++ rest.map (ya r)).getD 0 za).1.length) then some ((0, (o ++ rest.map (ya r)).set 0 (zNL ((o ++ rest.map (ya r)).getD 0 za)), r.2.2.2.1.map (zmx r), List.replicate r.2.2.2.2.2.1.toNat qD, [], List.replicate r.2.1.length (-1), ()), 0, ()) else none)
      (by unfold Go.maxLen; omega) (fun k i x rest o hi hI hx hm hr' hk => by
        have hx' : List.getD r.2.2.2.2.1 i (zb zfQ) = x := hx
        simp only [zef]
        rw [ltT hi, qo hi, vM, hx, zPy (hall x hm) ha.2]
        simp only [Option.bind_some, cond_true]
        rw [zVA, zL3 (by simp; omega)]
        simp only [cond_true, decide_true]
        have := hk (o ++ [ya r x]) (by rw [List.length_append, hI]; rfl)
        rw [List.length_append] at this
        refine Eq.trans this ?_
        rw [List.append_assoc]; rfl) (fun k o hI => by
        have e0 : o ++ List.map (ya r) [] = o := by simp
        rw [e0]
        simp only [zef]
        rw [ltF, cond_false]
        by_cases h0 : 0 < o.length
        · have e1 : decide (0 < ((List.length o : Nat) : Int)) = true := decide_eq_true (by omega)
          have e2 : decide (o.length ≤ Int.toNat 0) = false := decide_eq_false (by show ¬ o.length ≤ 0; omega)
          rw [e1, e2, decide_eq_true h0, zV7]
          simp only [cond_true, cond_false, Bool.true_and]
          by_cases h1 : 0 < (o.getD 0 za).1.length
          · have e3 : decide (0 < ((List.length (o.getD 0 za).1 : Nat) : Int)) = true := decide_eq_true (by omega)
            rw [e3, decide_eq_true h1]
            simp only [cond_true]
            have := zXA (r := r) ok (o.set 0 (zNL (o.getD 0 za))) (r.2.2.2.1.map (zmx r)) (List.replicate r.2.2.2.2.2.1.toNat qD)
            rw [List.length_set] at this
            exact this
          · have e3 : decide (0 < ((List.length (o.getD 0 za).1 : Nat) : Int)) = false := decide_eq_false (by omega)
            rw [e3, decide_eq_false h1]; rfl
        · have e1 : decide (0 < ((List.length o : Nat) : Int)) = false := decide_eq_false (by omega)
          rw [e1, decide_eq_false h0]; rfl) [] rfl
    refine Eq.trans hloop ?_
    have hrm := zWw hb
    have hpos : 0 < r.2.2.2.2.1.length := by omega
    have hget : (r.2.2.2.2.1.map (ya r)).getD 0 za = ya r (r.2.2.2.2.1.getD 0 jQ) := by
      cases hl : r.2.2.2.2.1 with
      | nil => rw [hl] at hpos; simp at hpos
      | cons q l => rfl
    rw [List.nil_append, decide_eq_true (by rw [List.length_map]; exact hpos), decide_eq_true (p := 0 < ((r.2.2.2.2.1.map (ya r)).getD 0 za).1.length) (by rw [hget]; show 0 < (List.replicate _ zvG).length; rw [List.length_replicate]; omega)]
    rfl
end Go.Proofs.YtaokpakfhdeiiaaGreatDoor
end
section
namespace Go.Proofs.YtaokpakfhdeiiaaGreatDoor
open Go.Ev
set_option linter.unusedVariables false
set_option linter.unusedSimpArgs false
theorem zc8 {α : Type} {p : α → Bool} {a : α} {n : Nat} (h : p a = true) : (List.replicate n a).all p = true := by
  rw [List.all_eq_true]
  intro x hx
  rw [(List.mem_replicate.1 hx).2]; exact h
theorem zyY {α : Type} {a d : α} {n j : Nat} (h : j < n) : (List.replicate n a).getD j d = a := by
  rw [List.getD_eq_getElem?_getD, List.getElem?_replicate, if_pos h]; rfl
def zkI (r : ze) (i : Nat) : List jm := if i = 0 then (List.replicate (r.2.2.2.2.1.getD i jQ).1.toNat zvG).set 0 (true, zUm, ()) else List.replicate (r.2.2.2.2.1.getD i jQ).1.toNat zvG
theorem zCV {r : ze} {i : Nat} (hi : i < r.2.2.2.2.1.length) : (zfB r).getD i za = (zkI r i, (ya r (r.2.2.2.2.1.getD i jQ)).2) := by
  unfold zfB zkI
  have h2 : ∀ j, j < r.2.2.2.2.1.length → (r.2.2.2.2.1.map (ya r)).getD j za = ya r (r.2.2.2.2.1.getD j jQ) := by
    intro j hj
    simp [List.getD, hj]
  by_cases h : i = 0
  · subst h
    rw [if_pos rfl, List.getD_eq_getElem?_getD, List.getElem?_set_self (by rw [List.length_map]; exact hi), h2 0 hi]; rfl
  · rw [if_neg h, List.getD_eq_getElem?_getD, List.getElem?_set_ne (by omega), ← List.getD_eq_getElem?_getD, h2 i hi]; rfl
theorem zBI (r : ze) (i : Nat) : (zkI r i).length = (r.2.2.2.2.1.getD i jQ).1.toNat := by
  unfold zkI
  split <;> simp
theorem zUo (r : ze) (i : Nat) : (zkI r i).all zqD = true := by
  have h0 : zqD zvG = true := by decide +kernel
  have h1 : zqD (true, zUm, ()) = true := by decide +kernel
  unfold zkI
  split
  · rw [List.all_eq_true]
    intro x hx
    rcases List.mem_or_eq_of_mem_set hx with hx | rfl
    · rw [(List.mem_replicate.1 hx).2]; exact h0
    · exact h1
  · exact zc8 h0
theorem zqH (r : ze) : (zgG r).2.1.length = r.2.2.2.2.1.length := by
  show (zfB r).length = _
  unfold zfB
  rw [List.length_set, List.length_map]
theorem qAt {r : ze} (hb : qH r = true) {i : Nat} (hi : i < r.2.2.2.2.1.length) : zkF (r.2.2.2.2.1.getD i jQ) = true := zMk hb _ (vm hi)
theorem zOk {r : ze} (hb : qH r = true) : zqE r (zgG r) = true := by
  have ok := zaj hb
  have hq := ok.quotas
  have h24 : (0 ≤ r.2.2.2.2.2.1 ∧ r.2.2.2.2.2.1 ≤ 24) ∧ 0 ≤ r.2.2.2.2.2.2.1 := by
    simp only [qH, zHk, within, Bool.and_eq_true, decide_eq_true_eq] at hb
    omega
  have hl := zqH r
  simp only [zqE, Bool.and_eq_true, decide_eq_true_eq, yb]
  refine ⟨⟨by omega, ?_, by show ((0 : Nat) : Int) ≤ _; omega⟩, ⟨?_, by show (0 : Int) ≤ M62; unfold M62; omega⟩, fun i _ hi => ?_⟩
  · show (((List.replicate r.2.2.2.2.2.1.toNat qD).length : Nat) : Int) = _
    rw [List.length_replicate]; omega
  · show (List.replicate r.2.1.length (-1 : Int)).length = _
    rw [List.length_replicate]
  · have hi' : i < r.2.2.2.2.1.length := by omega
    rw [show (zgG r).2.1 = zfB r from rfl, zCV hi']
    have := zRK (qAt hb hi')
    have hrl := zBI r i
    simp only [ztp, ya, List.length_replicate, hrl, Bool.and_eq_true, decide_eq_true_eq]
    refine ⟨⟨⟨?_, ?_⟩, ?_, ?_⟩, ?_, ?_, ?_⟩ <;> first | trivial | omega
theorem zG3 {r : ze} (hb : qH r = true) (a : qX) : ztq (zgG r) a = eqI zW a zMG := by
  have ok := zaj hb
  have hq := ok.quotas
  have hla := ok.labels
  have hl := zqH r
  have h0 := zWw hb
  have e : eqI zW a zMG = (decide (a.1 = 0) && decide (a.2.1 = 0)) := by
    show cond ((a.1 : Int) == 0) (cond ((a.2.1 : Int) == 0) true false) false = _
    by_cases h1 : a.1 = 0 <;> by_cases h2 : a.2.1 = 0 <;> simp [h1, h2]
  rw [e, Bool.eq_iff_iff]
  unfold ztq
  simp only [Bool.and_eq_true, decide_eq_true_eq]
  rw [hl]
  constructor
  · rintro ⟨h1, h2, h3⟩
    rw [show (zgG r).2.1 = zfB r from rfl, zCV (by omega)] at h2 h3
    simp only [zBI] at h2
    simp only [zkI] at h3
    by_cases ha : a.1.toNat = 0
    · rw [if_pos ha] at h3
      by_cases hb2 : a.2.1.toNat = 0
      · omega
      · rw [List.getD_eq_getElem?_getD, List.getElem?_set_ne (by omega), ← List.getD_eq_getElem?_getD, zyY (by omega)] at h3
        cases h3
    · rw [if_neg ha, zyY (by omega)] at h3
      cases h3
  · rintro ⟨h1, h2⟩
    have e1 : a.1.toNat = 0 := by omega
    have e2 : a.2.1.toNat = 0 := by omega
    rw [show (zgG r).2.1 = zfB r from rfl, e1, zCV (by omega), e2]
    refine ⟨by omega, ⟨by omega, by simp only [zBI]; omega⟩, ?_⟩
    simp only [zkI, if_true]
    rw [List.getD_eq_getElem?_getD, List.getElem?_set_self (by rw [List.length_replicate]; omega)]; rfl
theorem zWY {n : Nat} : zEb (List.replicate n qD) = [] := by
  unfold zEb
  rw [List.filter_replicate_of_neg (by decide)]; rfl
theorem zVB {r : ze} (hb : qH r = true) : zCR r (r.2.2.2.1.map (zmx r)) = true := by
  have ok := zaj hb
  simp only [zCR, Bool.and_eq_true, decide_eq_true_eq, yb, List.length_map]
  refine ⟨trivial, fun i _ hi => ?_⟩
  have hi' : i < r.2.2.2.1.length := by omega
  have hh := ok.heads i hi'
  have e : (r.2.2.2.1.map (zmx r)).getD i [] = zmx r (r.2.2.2.1.getD i vz) := by simp [List.getD, hi']
  rw [e]
  simp only [zMd, Bool.and_eq_true, decide_eq_true_eq, beq_iff_eq]
  generalize r.2.2.2.1.getD i vz = g at hh
  unfold zmx
  obtain ⟨m, hm⟩ := Int.eq_ofNat_of_zero_le hh.1
  have hm' : m < r.2.2.1.length := by omega
  rw [hm, Int.toNat_natCast]
  refine ⟨by simp, ?_, ?_⟩
  · rw [List.all_eq_true]
    intro x hx
    rcases List.mem_or_eq_of_mem_set hx with hx | rfl
    · rw [(List.mem_replicate.1 hx).2]; rfl
    · rfl
  · rw [List.getD_eq_getElem?_getD, List.getElem?_set_self (by rw [List.length_replicate]; exact hm')]; rfl
theorem zUp {r : ze} (hb : qH r = true) : zsH r (zgG r) = true := by
  simp only [zsH, Bool.and_eq_true]
  refine ⟨zVB hb, ?_, ?_, ?_, ?_, ?_, ?_⟩
  · show zv0 (List.replicate _ qD) = true
    unfold zv0
    rw [zc8 (by decide +kernel), zWY]; decide +kernel
  · rfl
  · rw [zG3 hb]; rfl
  · exact zc8 rfl
  · rfl
  · exact zc8 rfl
theorem zVC (n : Nat) : zL7 (List.replicate n zak) = true := by
  simp only [zL7, yb, List.length_replicate]
  intro i _ hi
  rw [zyY (by omega)]
  rfl
theorem zXE {r : ze} (hb : qH r = true) : r.1.getD 0 za1 = (0, 0, ()) := by
  simp only [qH, zkE, Bool.and_eq_true] at hb
  have h := hb.1.2.1
  have h' : cond ((r.1.getD 0 za1).1 == (0 : Int)) (cond ((r.1.getD 0 za1).2.1 == (0 : Int)) true false) false = true := h
  generalize r.1.getD 0 za1 = a at h'
  obtain ⟨x, y, ⟨⟩⟩ := a
  by_cases h1 : x = 0
  · by_cases h2 : y = 0
    · subst h1; subst h2; rfl
    · simp [h2] at h'
  · simp [h1] at h'
theorem zXF {b : zD} (h : zkD b = true) : zNF (0, 0, ()) b = true := by
  simp only [zkD, within, Bool.and_eq_true, decide_eq_true_eq] at h
  simp only [zNF, Bool.and_eq_true, decide_eq_true_eq, List.all_eq_true]
  refine ⟨h.1, fun i _ => ?_⟩
  have : hasB 0 i = false := by unfold hasB; simp
  rw [this]; rfl
theorem zWZ {r : ze} (hb : qH r = true) {i : Nat} (hi : i < r.1.length) : zkD (r.1.getD i za1) = true := by
  simp only [qH, zkE, Bool.and_eq_true, List.all_eq_true] at hb
  exact hb.1.2.2.1 _ (vm hi)
theorem zXo {r : ze} (hb : qH r = true) {i : Nat} (hi : i < r.1.length) : zqF r (zgG r) (i : Int) zMG = true := by
  have ok := zaj hb
  have hl := ok.labels
  simp only [zqF, Bool.and_eq_true]
  refine ⟨by rw [zG3 hb]; rfl, ?_⟩
  simp only [zRB, Bool.and_eq_true]
  refine ⟨by simp only [zu5, decide_eq_true_eq]; exact ⟨Int.le_refl 0, by show (0 : Int) < _; omega⟩, by simp only [zu5, decide_eq_true_eq]; omega, ?_⟩
  rw [Int.toNat_natCast]
  show zNF (r.1.getD 0 za1) _ = true
  rw [zXE hb]
  exact zXF (zWZ hb hi)
theorem zVD {r : ze} (hb : qH r = true) {i : Nat} (hi : i < r.1.length) (q : za0) : zMg r (zgG r) (i : Int) (zkI r i, (ya r q).2) = true := by
  have hbl := zXo hb hi
  simp only [zMg, zCT, zh7, zyS, Bool.and_eq_true, ya]
  refine ⟨⟨zc8 rfl, zc8 rfl, zc8 hbl⟩, ⟨zc8 rfl, zc8 rfl, zc8 rfl⟩, ?_, ?_⟩
  · simp only [yb, List.length_replicate]
    intro j _ hj
    rw [zyY (by omega)]; rfl
  · simp only [yb, List.length_replicate]
    intro j _ hj
    rw [zyY (by omega)]; rfl
theorem zj3 {α : Type} {f : α → Int} : ∀ {l : List α}, (∀ x ∈ l, f x = 0) → j6 (l.map f) = 0
  | [], _ => rfl
  | x :: l, h => by simp only [List.map_cons, j6]; rw [h x (by simp), zj3 fun y hy => h y (by simp [hy])]; rfl
theorem zMl (c : Int) : zAl c [0, 0, 0, 0] = 0 := by
  unfold zAl
  match c.toNat with
  | 0 => rfl
  | 1 => rfl
  | 2 => rfl
  | 3 => rfl
  | n + 4 => rfl
theorem zUq (r : ze) (q : za0) (l : List jm) (c : Int) : ze2 c (l, (ya r q).2) = 0 := by
  unfold ze2
  simp only [ya]
  rw [zj3 fun x hx => ?_, zj3 fun x hx => ?_]
  · rfl
  · rw [(List.mem_replicate.1 hx).2]; exact zMl c
  · rw [(List.mem_replicate.1 hx).2]; rfl
theorem zqI {r : ze} {x : zj} (hx : x ∈ zfB r) : ∃ l q, x = (l, (ya r q).2) := by
  obtain ⟨i, hi, rfl⟩ := List.mem_iff_getElem.1 hx
  have hi' : i < r.2.2.2.2.1.length := by
    have := zqH r
    rw [show (zgG r).2.1 = zfB r from rfl] at this
    omega
  have := zCV hi'
  rw [List.getD_eq_getElem?_getD, List.getElem?_eq_getElem hi] at this
  exact ⟨_, _, this⟩
theorem zRL {r : ze} {c : Int} (hc : vf c = true) : zEi (zgG r) c = (0, 0, ()) := by
  unfold zEi
  rw [hc, cond_true, zj3 fun x hx => ?_, zj3 fun x hx => ?_]
  · rfl
  · obtain ⟨l, q, rfl⟩ := zqI hx
    exact zUq r q l c
  · rw [(List.mem_replicate.1 hx).2]; rfl
theorem zRM {r : ze} {c : Int} (hc : vf c = true) : zEj (zgG r) c = (0, 0, ()) := by
  have h1 : zBH (fun x => x.2.2.2.2.2.2.2.1) (zgG r) c = 0 := zj3 fun x hx => by
    obtain ⟨l, q, rfl⟩ := zqI hx
    exact zMl c
  have h2 : zBH (fun x => x.2.2.2.2.2.2.2.2.1) (zgG r) c = 0 := zj3 fun x hx => by
    obtain ⟨l, q, rfl⟩ := zqI hx
    exact zMl c
  unfold zEj
  rw [hc, h1, h2]
  rfl
def zRN (r : ze) : Prop := ∀ q ∈ r.2.2.2.2.1, 0 ≤ q.2.2.2.2.2.1
theorem zUr {r : ze} (hb : qH r = true) (hc : zRN r) : zyW r (zgG r) = true := by
  have ok := zaj hb
  have hq := ok.quotas
  have hl := zqH r
  simp only [zyW, Bool.and_eq_true, yb]
  refine ⟨hb, zOk hb, zUp hb, fun i _ hi => ?_, fun c _ hc' => ?_⟩
  · have hi' : i < r.2.2.2.2.1.length := by omega
    have e : (zgG r).2.1.getD i za = _ := zCV hi'
    rw [e]
    refine ⟨⟨?_, zVD hb (by omega) _⟩, fun c _ _ => ?_⟩
    · simp only [ze1, ya, Bool.and_eq_true]
      exact ⟨zUo r i, zVC _, zc8 (by decide +kernel), zc8 (by decide +kernel), zc8 (by decide +kernel)⟩
    · unfold zAm
      rw [e]
      have := hc _ (vm (d := jQ) hi')
      have e2 : ([0, 0, 0, 0] : List Int).getD c 0 = 0 := zMl (c : Int)
      rw [Bool.not_eq_true', decide_eq_false_iff_not]
      show ¬ (([0, 0, 0, 0] : List Int).getD c 0 > _)
      rw [e2]
      omega
  · unfold zyV
    have : vf (c : Int) = true := by simp only [vf, decide_eq_true_eq]; omega
    rw [zRL this, zRM this]
    rfl
theorem zW0 {r : ze} : zsG (zgG r) := by
  refine ⟨fun x hx => ?_, fun x hx => ?_, fun x hx => by cases hx⟩
  · obtain ⟨l, q, rfl⟩ := zqI hx
    have h0 : zEc [0, 0, 0, 0] := fun x hx => by
      simp at hx; subst hx; unfold ze0 U64; omega
    refine ⟨fun t ht => ?_, fun a ha => ?_, h0, h0⟩
    · rw [(List.mem_replicate.1 ht).2]; unfold zCQ U64; decide
    · rw [(List.mem_replicate.1 ha).2]; exact h0
  · rw [(List.mem_replicate.1 hx).2]
    exact ⟨by unfold ze0 U64; decide, by unfold ze0 U64; decide, by unfold ze0 U64; decide⟩
end Go.Proofs.YtaokpakfhdeiiaaGreatDoor
end
section
namespace Go.Proofs.YtaokpakfhdeiiaaGreatDoor
open Go.Ev
set_option linter.unusedVariables false
set_option linter.unusedSimpArgs false
theorem zXp {r : ze} (h : InR zL r) : zRN r := by
  obtain ⟨-, -, -, -, h5, -⟩ := h
  intro q hq
  have h3 : (Lit.int .u64 q.2.2.2.2.2.1).wf = true := (h5.2 q hq).2.2.2.2.2.1
  exact (wf_u64 h3).1
theorem zUs {r : ze} (hb : qH r = true) : zMj (zgG r) := zVt (zaj hb) (zOi hb (zOk hb))
theorem zNM {r : ze} {s : zq} (hr : yr r) (hs : zsG s) (a : qX) : jB (r, s, a, ()) = some (zyW r s && ztq s a, ()) := by
  rw [qd]
  simp only [jB, zsv, zE2 hr hs, zu6, Option.bind_some]
  cases zyW r s <;> cases ztq s a <;> rfl
theorem zUt {r : ze} {a : qX} (hr : yr r) (hc : zRN r) : zhE (r, a, ()) = some (true, ()) := by
  simp only [zhE, zhD]
  rw [zSK hr, zS1, zhV r hr]
  cases hb : qH r with
  | false => rfl
  | true =>
    simp only [Option.bind_some, cond_true]
    have hin := zW0 (r := r)
    have sh := zUs hb
    have hloop := zas (B := zbR zaV qF qG qt jB) (i0 := 0) (n := 4) (by unfold Go.maxLen; omega) (Nat.zero_le _) (p := fun _ => true) (fin := some (true, ())) (bad := some (false, ())) (fun i => (i, r, a, zgG r)) (fun k i _ hi => by
      simp only [zbR]
      have hci : vf (i : Int) = true := by simp only [vf, decide_eq_true_eq]; omega
      rw [decide_eq_true (by omega), zGZ hin sh, zG0 hin sh, zRL hci, zRM hci]
      rfl) (fun k => by
      simp only [zbR]
      rw [zS1, zE2 hr hin, zNM hr hin, zUr hb hc, zG3 hb]
      have hd : eqI yT a (zb zW) = eqI zW a zMG := rfl
      rw [hd]
      cases eqI zW a zMG <;> rfl)
    have hall : qM (fun _ => true) 0 (4 - 0) = true := rfl
    rw [hall] at hloop
    exact hloop
end Go.Proofs.YtaokpakfhdeiiaaGreatDoor
end
