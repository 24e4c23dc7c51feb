import Derived.Test.YtaokpakfhdeiiaaGreatDoorHod
import Derived.Shelf.Spec.BitsCarry
section
namespace Go.Proofs.YtaokpakfhdeiiaaGreatDoor
open Go.Ev
set_option linter.unusedVariables false
set_option linter.unusedSimpArgs false
theorem zUx {labels : List zM} {n : Nat} : ∀ {l : List qz} {last : Int}, zkf labels n last l = qU (fun i => zRA labels n (if i = 0 then last else (l.getD (i - 1) zaB).1) (l.getD i zaB)) 0 l.length := by
  intro l
  induction l with
  | nil => intro last; rfl
  | cons a l ih =>
    intro last
    simp only [zkf, List.length_cons, qU, ih]
    rw [Bool.eq_iff_iff]
    simp only [Bool.and_eq_true, zaA]
    constructor
    · rintro ⟨h1, h2⟩
      refine ⟨h1, fun j h3 h4 => ?_⟩
      obtain ⟨i, rfl⟩ : ∃ i, j = i + 1 := ⟨j - 1, by omega⟩
      have := h2 i (by omega) (by omega)
      rw [if_neg (by omega)]
      by_cases e : i = 0
      · subst e; simpa using this
      · rw [if_neg e] at this
        obtain ⟨m, rfl⟩ : ∃ m, i = m + 1 := ⟨i - 1, by omega⟩
        exact this
    · rintro ⟨h1, h2⟩
      refine ⟨h1, fun j h3 h4 => ?_⟩
      have := h2 (j + 1) (by omega) (by omega)
      rw [if_neg (by omega)] at this
      by_cases e : j = 0
      · subst e; simpa using this
      · rw [if_neg e]
        obtain ⟨m, rfl⟩ : ∃ m, j = m + 1 := ⟨j - 1, by omega⟩
        exact this
def zbm (r : zf) : Bool := zsO r.1 && (zHk r && (zoz r.2.2.1 && (zHL r.1 r.2.2.1.length r.2.2.2.1 && (zCZ r.1.length r.2.2.2.2.1 && zPT r))))
structure yD (r : zf) : Prop where
  labels : zEi r.1
  guilds : r.2.2.2.1.length ≤ Go.maxLen
  quotas : r.2.2.2.2.1.length ≤ Go.maxLen
theorem zvd (r : zf) (h : yD r) : qL (r, ()) = some (zbm r, ()) := by
  rw [qh]
  show iter zjb K0 (6, 0, r, [some vX, some yV, some vi, some vY, some vZ, some zaJ]) = _
  obtain ⟨m, hm⟩ := zHI
  have hu : iter zjb (m + 8) (6, 0, r, [some vX, some yV, some vi, some vY, some vZ, some zaJ]) =
    Option.bind (vX (r, ())) fun q => bif q.1 then Option.bind (yV (r, ())) fun q => bif q.1 then Option.bind (vi (r, ())) fun q => bif q.1 then Option.bind (vY (r, ())) fun q => bif q.1 then Option.bind (vZ (r, ())) fun q => bif q.1 then Option.bind (zaJ (r, ())) fun q => bif q.1 then some (true, ()) else some (false, ()) else some (false, ()) else some (false, ()) else some (false, ()) else some (false, ()) else some (false, ()) := by kernel_rfl
  rw [hm, hu, zWn]
  unfold zbm
  simp only [Option.bind_some]
  cases h1 : zsO r.1 with
  | false => rfl
  | true =>
    have hb : 1 ≤ r.1.length ∧ r.1.length ≤ 8 := by unfold zsO within at h1; grind
    rw [zW0 r (by omega), zUt]
    simp only [Option.bind_some, cond_true]
    cases zHk r with
    | false => rfl
    | true =>
      cases h2 : zoz r.2.2.1 with
      | false => rfl
      | true =>
        have hc : r.2.2.1.length ≤ 8 := by unfold zoz within at h2; grind
        rw [zWs r (by unfold Go.maxLen; omega) (by omega) h.guilds h.labels, zWp r (by omega), zXy]
        simp only [Option.bind_some]
        grind
end Go.Proofs.YtaokpakfhdeiiaaGreatDoor
end
section
namespace Go.Proofs.YtaokpakfhdeiiaaGreatDoor
open Go.Ev
set_option linter.unusedVariables false
set_option linter.unusedSimpArgs false
def zbD (x : Int) : Bool := decide (0 ≤ x ∧ x ≤ 127)
theorem zUy (x : Int) : zkB (x, ()) = some (zbD x, ()) := by simp only [zkB, zDU, zbD]; grind
theorem zVE (x : Int) : zou (x, ()) = some (zbD x, ()) := by simp only [zou, zGW, zbD]; grind
def zHM (x : jC) : Bool := zbD x.1 && zbD x.2.1
theorem zW2 (x : jC) : zgv (x, ()) = some (zHM x, ()) := by simp only [zgv, zx2, zHM, zbD]; grind
def zUz (x : Int) : Bool := decide (0 ≤ x ∧ x ≤ 5)
theorem zW3 (x : Int) : zgw (x, ()) = some (zUz x, ()) := by simp only [zgw, zx3, zUz]; grind
def zMs (s : ByteArray) : Bool := ByteArray.toList s == ByteArray.toList (ByteArray.mk #[])
def zC0 (x : jM) : Bool := bif x.1 then zEf x.2.1 else zMs x.2.1
theorem zVF (x : jM) : zdj (x, ()) = some (!zC0 x, ()) := by
  rw [qh]
  simp only [zdj, zsp, zy0, Option.bind_some, zC0, zMs]
  grind
theorem zRB {l : List jM} (hl : l.length ≤ Go.maxLen) : zgu (l, ()) = some (l.all zC0, ()) := by
  rw [qh]
  simp only [zgu, zx1]
  rw [zFQ (p := fun x => !zC0 x) hl fun x _ => zVF x, Option.bind_some, ← yt]
  cases l.any fun x => !zC0 x <;> rfl
theorem zW4 (a b : jC) : eqI qf a b = ((a.1 : Int) == b.1 && (a.2.1 : Int) == b.2.1) := by
  show cond ((a.1 : Int) == b.1) (cond ((a.2.1 : Int) == b.2.1) true false) false = _
  cases ((a.1 : Int) == b.1) <;> cases ((a.2.1 : Int) == b.2.1) <;> rfl
def zMt (x : z9) : Bool := bif x.1 then zHM x.2.1 && (zHM x.2.2.1 && zUz x.2.2.2.1) else eqI qq x (zb qq)
theorem zRC (x : z9) : zdH (x, ()) = some (!zMt x, ()) := by
  rw [qh]
  simp only [zdH, zx5, zW2, zW3, Option.bind_some, zMt]
  grind
def zsP (a b : z9) : Bool := a.1 && (eqI qf a.2.1 b.2.1 && (a.2.2.2.1 : Int) == b.2.2.2.1)
theorem zNX (x : z9) (r : jC) (d : Int) : zdk (x, some r, some d, ()) = some (x.1 && (eqI qf x.2.1 r && (x.2.2.2.1 : Int) == d), ()) := by
  rw [qh]
  simp only [zdk, zsr, Option.bind_some]
  grind
theorem zW5 {α : Type} {d : α} {p : α → Bool} : ∀ (l : List α) (i : Nat) (a : Int), i < l.length → p (l.getD i d) = true → ((zaz p l a) == a + (i : Int)) = qU (fun j => !p (l.getD j d)) 0 i := by
  intro l
  induction l with
  | nil => intro i a h; simp at h
  | cons x l ih =>
    intro i a h hp
    cases i with
    | zero =>
      have hx : p x = true := hp
      simp only [zaz, hx, cond_true, qU]
      simp
    | succ i =>
      have h' : i < l.length := by simpa using h
      have hp' : p (l.getD i d) = true := hp
      have := ih i (a + 1) h' hp'
      have e : a + 1 + (i : Int) = a + ((i + 1 : Nat) : Int) := by omega
      rw [e] at this
      simp only [zaz]
      rw [Bool.eq_iff_iff, zaA]
      rw [Bool.eq_iff_iff, zaA] at this
      cases hx : p x with
      | true =>
        simp only [cond_true]
        constructor
        · intro h1
          have := eq_of_beq h1
          omega
        · intro h1
          have h2 : (!p x) = true := h1 0 (by omega) (by omega)
          rw [hx] at h2; cases h2
      | false =>
        simp only [cond_false]
        rw [this]
        constructor
        · intro h1 j _ h2
          cases j with
          | zero => show (!p x) = true; rw [hx]; rfl
          | succ j => exact h1 j (by omega) (by omega)
        · intro h1 j _ h2
          exact h1 (j + 1) (by omega) (by omega)
def zVG (l : List z9) : Bool := qU (fun i => zMt (l.getD i zbb) && bif (l.getD i zbb).1 then qU (fun j => !zsP (l.getD j zbb) (l.getD i zbb)) 0 i else true) 0 (l.length - 0)
theorem zRD {l : List z9} (hl : l.length ≤ Go.maxLen) : zj1 (l, ()) = some (zVG l, ()) := by
  rw [qh]
  exact yT (B := zgz zdH zdI) (i0 := 0) hl (Nat.zero_le _) (fun i => (l, l, (l.length : Int), i)) (fun k i h1 h2 => by
    simp only [zgz]
    rw [ltT h2, qu h2]
    simp only [vT, zRC, Option.bind_some, cond_true]
    cases he : zMt (l.getD i zbb) with
    | false => rfl
    | true =>
      cases hs : (l.getD i zbb).1 with
      | false => rfl
      | true =>
        have hi : zdI (l, (l.getD i zbb).2.1, (l.getD i zbb).2.2.2.1, ()) = some (zaz (fun x => zsP x (l.getD i zbb)) l 0, ()) := by
          simp only [zdI, zx6]
          rw [zyY (p := fun x => zsP x (l.getD i zbb)) hl fun x _ => zNX x _ _]
          rfl
        have hp : zsP (l.getD i zbb) (l.getD i zbb) = true := by
          unfold zsP; rw [zW4, hs]; simp
        have := zW5 (d := zbb) (p := fun x => zsP x (l.getD i zbb)) l i 0 h2 hp
        rw [Int.zero_add] at this
        rw [hi, ← this]
        simp only [Option.bind_some, Bool.not_true, cond_false, cond_true, Bool.true_and, bne]
        cases (zaz (fun x => zsP x (l.getD i zbb)) l 0 == (i : Int)) <;> rfl) (fun k => by simp only [zgz]; rw [ltF]; rfl)
def zEj (k n : Int) (r : jC) : Bool := ((k == 1 || k == 3) && (zbD n && eqI qf r (zb qf))) || (k == 2 && (n == 0 && zHM r))
def zy2 (x : zW) : Bool := bif x.1 then zEf x.2.1 && zEj x.2.2.1 x.2.2.2.1 x.2.2.2.2.1 else eqI qi x (zb qi)
theorem zRE (x : zB2) : zai (x, ()) = some (zEj x.1 x.2.1 x.2.2.1, ()) := by
  rw [qh]
  simp only [zai, zj2, zUy, Option.bind_some, zEj, zHM]
  grind
theorem zPz (x : zW) : zew (x, ()) = some (!zy2 x, ()) := by
  rw [qh]
  have h : zqi (x, ()) = some ((x.2.2.1, x.2.2.2.1, x.2.2.2.2.1, ()), ()) := rfl
  simp only [zew, zuO, zy0, Option.bind_some, zy2, h, zRE]
  grind
theorem zPA {l : List zW} (hl : l.length ≤ Go.maxLen) : zex (l, ()) = some (l.all zy2, ()) := by
  rw [qh]
  simp only [zex, zuQ]
  rw [zrj (p := fun x => !zy2 x) hl fun x _ => zPz x, Option.bind_some, ← yt]
  cases l.any fun x => !zy2 x <;> rfl
def zRF (c : Int) : Bool := decide (32 ≤ c ∧ c ≤ 126)
theorem zW6 (c : Int) : zgD (c, ()) = some (zRF c, ()) := by simp only [zgD, zx8, zRF]; grind
def zUA (s : ByteArray) : Bool := decide (1 ≤ s.size ∧ s.size ≤ 40) && ((chr s 0 != 32 && chr s (s.size - 1) != 32) && qU (fun i => zRF (chr s i)) 0 s.size)
theorem zMu (a b : ByteArray) (h : a.size < b.size) : (ByteArray.toList a == ByteArray.toList b) = false := by
  rw [beq_eq_false_iff_ne]
  intro e
  rw [Go.ByteArray.toList_eq, Go.ByteArray.toList_eq] at e
  have := congrArg List.length e
  rw [size_eq, size_eq] at this
  omega
theorem zXL (s : ByteArray) : ∀ (n : Nat) (t : ByteArray), t.size ≤ n → ∀ fuel, n < fuel → ∃ r, iter zZ fuel (t, 32) = some (r, ()) ∧ r.size ≤ t.size ∧ (chr t 0 ≠ 32 → r = t) ∧ (1 ≤ t.size → chr t 0 = 32 → r.size < t.size) := by
  intro n
  induction n with
  | zero =>
    intro t ht fuel hf
    obtain ⟨f, rfl⟩ : ∃ f, fuel = f + 1 := ⟨fuel - 1, by omega⟩
    refine ⟨t, ?_, Nat.le_refl _, fun _ => rfl, fun h => by omega⟩
    show zZ _ (t, 32) = _
    simp only [zZ]
    rw [decide_eq_false (by omega)]; rfl
  | succ n ih =>
    intro t ht fuel hf
    obtain ⟨f, rfl⟩ : ∃ f, fuel = f + 1 := ⟨fuel - 1, by omega⟩
    by_cases h0 : t.size = 0
    · refine ⟨t, ?_, Nat.le_refl _, fun _ => rfl, fun h => by omega⟩
      show zZ _ (t, 32) = _
      simp only [zZ]
      rw [decide_eq_false (by omega)]; rfl
    have hc : ((UInt8.toNat (List.getD t.data.toList (Int.toNat 0) 0) : Nat) : Int) = chr t 0 := rfl
    by_cases h32 : chr t 0 = 32
    · have hsz : (ByteArray.extract t (Int.toNat 1) t.size).size = t.size - 1 := by
        rw [ByteArray.size_extract]
        show min t.size t.size - 1 = _
        omega
      obtain ⟨r, h1, h2, -⟩ := ih (ByteArray.extract t (Int.toNat 1) t.size) (by rw [hsz]; omega) f (by omega)
      refine ⟨r, ?_, by omega, fun h => absurd h32 h, fun _ _ => by omega⟩
      show zZ (iter zZ f) (t, 32) = _
      simp only [zZ]
      rw [hc, h32, h1]
      grind
    · refine ⟨t, ?_, Nat.le_refl _, fun _ => rfl, fun _ h => absurd h h32⟩
      show zZ (iter zZ f) (t, 32) = _
      simp only [zZ]
      rw [hc, decide_eq_true (by omega), decide_eq_true (by omega)]
      grind
theorem zXM : ∀ (n : Nat) (t : ByteArray), t.size ≤ n → n ≤ 100 → ∀ fuel, n < fuel → ∃ r, iter zX fuel (t, 32) = some (r, ()) ∧ r.size ≤ t.size ∧ (chr t (t.size - 1) ≠ 32 → r = t) ∧ (1 ≤ t.size → chr t (t.size - 1) = 32 → r.size < t.size) := by
  intro n
  induction n with
  | zero =>
    intro t ht _ fuel hf
    obtain ⟨f, rfl⟩ : ∃ f, fuel = f + 1 := ⟨fuel - 1, by omega⟩
    refine ⟨t, ?_, Nat.le_refl _, fun _ => rfl, fun h => by omega⟩
    show zX _ (t, 32) = _
    simp only [zX]
    rw [decide_eq_false (by omega)]; rfl
  | succ n ih =>
    intro t ht hn fuel hf
    obtain ⟨f, rfl⟩ : ∃ f, fuel = f + 1 := ⟨fuel - 1, by omega⟩
    by_cases h0 : t.size = 0
    · refine ⟨t, ?_, Nat.le_refl _, fun _ => rfl, fun h => by omega⟩
      show zX _ (t, 32) = _
      simp only [zX]
      rw [decide_eq_false (by omega)]; rfl
    have hw : wI ((t.size : Int) - 1) = ((t.size - 1 : Nat) : Int) := zHF (by omega) (by unfold Go.maxLen; omega)
    have hc : ((UInt8.toNat (List.getD t.data.toList (Int.toNat ((t.size - 1 : Nat) : Int)) 0) : Nat) : Int) = chr t (t.size - 1) := by rw [Int.toNat_natCast]; rfl
    by_cases h32 : chr t (t.size - 1) = 32
    · have hsz : (ByteArray.extract t 0 (Int.toNat ((t.size - 1 : Nat) : Int))).size = t.size - 1 := by
        rw [ByteArray.size_extract, Int.toNat_natCast]
        omega
      obtain ⟨r, h1, h2, -⟩ := ih (ByteArray.extract t 0 (Int.toNat ((t.size - 1 : Nat) : Int))) (by rw [hsz]; omega) (by omega) f (by omega)
      refine ⟨r, ?_, by omega, fun h => absurd h32 h, fun _ _ => by omega⟩
      show zX (iter zX f) (t, 32) = _
      simp only [zX]
      rw [hw, hc, h32, h1, qu (by omega)]
      grind
    · refine ⟨t, ?_, Nat.le_refl _, fun _ => rfl, fun _ h => absurd h h32⟩
      show zX (iter zX f) (t, 32) = _
      simp only [zX]
      rw [hw, hc, qu (by omega), decide_eq_true (by omega)]
      grind
theorem zXB (s : ByteArray) (h : 1 ≤ s.size ∧ s.size ≤ 40) : ∃ r, zdl (s, ByteArray.mk #[32], ()) = some (r, ()) ∧ (ByteArray.toList r == ByteArray.toList s) = (chr s 0 != 32 && chr s (s.size - 1) != 32) := by
  obtain ⟨r, h1, h2, h3, h4⟩ := zXM s.size s (Nat.le_refl _) (by omega) K0 (zPQ (by unfold Go.maxLen; omega))
  obtain ⟨r', h5, h6, h7, h8⟩ := zXL s r.size r (Nat.le_refl _) K0 (zPQ (by unfold Go.maxLen; omega))
  refine ⟨r', ?_, ?_⟩
  · simp only [zdl, zsu]
    have e0 : (ByteArray.toList s == ByteArray.toList (ByteArray.mk #[])) = false := by
      cases he : zMs s with
      | false => exact he
      | true =>
        unfold zMs at he
        have := eq_of_beq he
        rw [Go.ByteArray.toList_eq, Go.ByteArray.toList_eq] at this
        have h2 : s.size = 0 := by
          rw [← size_eq, this]; rfl
        omega
    have e1 : (ByteArray.toList (ByteArray.mk #[32]) == ByteArray.toList (ByteArray.mk #[])) = false := by
      rw [Go.ByteArray.toList_eq, Go.ByteArray.toList_eq]; rfl
    have p1 : yk (s, 32, ()) = some (r, ()) := h1
    have p2 : yK (r, 32, ()) = some (r', ()) := h5
    have z1 : ((ByteArray.size (ByteArray.mk #[32]) : Nat) : Int) = 1 := rfl
    have z2 : ((UInt8.toNat (List.getD (Array.toList (ByteArray.data (ByteArray.mk #[32]))) (Int.toNat 0) 0) : Nat) : Int) = 32 := rfl
    rw [e0, e1, z1, z2, p1, Option.bind_some, p2]
    rfl
  · by_cases hl : chr s (s.size - 1) = 32
    · have := h4 h.1 hl
      rw [zMu r' s (by omega), hl]; simp
    · obtain rfl := h3 hl
      by_cases hf : chr r 0 = 32
      · have := h8 h.1 hf
        rw [zMu r' r (by omega), hf]; simp
      · rw [h7 hf]
        simp [hf, hl]
theorem zSV (s : ByteArray) : zii (s, ()) = some (zUA s, ()) := by
  rw [qh]
  simp only [zii, zBv]
  unfold zUA
  by_cases hb : 1 ≤ s.size ∧ s.size ≤ 40
  · obtain ⟨r, h1, h2⟩ := zXB s hb
    rw [zMq (by unfold Go.maxLen; omega) zW6, h1, zMp, ← h2]
    simp only [Option.bind_some]
    grind
  · grind
def zC1 (x : qr) : Bool := bif x.1 then (zbD x.2.1 && (zbD x.2.2.1 && zbD x.2.2.2.1)) && zUA x.2.2.2.2.1 else eqI qB x (zb qB)
theorem zRG (x : qr) : zgE (x, ()) = some (!zC1 x, ()) := by
  rw [qh]
  simp only [zgE, zyc, zgC, zst, zVE, zSV, Option.bind_some, zC1]
  grind
theorem zRH {l : List qr} (hl : l.length ≤ Go.maxLen) : zgF (l, ()) = some (l.all zC1, ()) := by
  rw [qh]
  simp only [zgF, zye]
  rw [zrk (p := fun x => !zC1 x) hl fun x _ => zRG x, Option.bind_some, ← yt]
  cases l.any fun x => !zC1 x <;> rfl
end Go.Proofs.YtaokpakfhdeiiaaGreatDoor
end
section
namespace Go.Proofs.YtaokpakfhdeiiaaGreatDoor
open Go.Ev
set_option linter.unusedVariables false
set_option linter.unusedSimpArgs false
abbrev M62 : Int := 4611686018427387904
abbrev U64 : Int := 18446744073709551616
def yQ (x : Int) : Bool := decide (0 ≤ x ∧ x ≤ 3)
theorem zdU (x : Int) : qb (x, ()) = some (yQ x, ()) := by simp only [qb, zyf, yQ]; grind
def zUB (a b : Int) : Int × Int × Unit := bif decide (a + b > M62) then (0, 7, ()) else (a + b, 0, ())
theorem zSW {a b : Int} (ha : 0 ≤ a) (hb : 0 ≤ b ∧ b < U64) : zfU (a, b, ()) = some (zUB a b) := by
  simp only [zfU, zBM, zAx, zC8, zUB, cond_true]
  have h0 : 0 ≤ (a + b) / 18446744073709551616 := by omega
  have h1 : ((a + b) / 18446744073709551616 != 0) = decide (18446744073709551616 ≤ a + b) := by
    rw [Bool.eq_iff_iff]; simp only [bne_iff_ne, ne_eq, decide_eq_true_eq]; omega
  have h2 : a + b < 18446744073709551616 → (a + b) % 18446744073709551616 = a + b := fun h => by omega
  unfold M62 at *
  unfold U64 at *
  grind
def zRI (a b : Int) : Int × Int × Unit := bif decide (a * b > M62) then (0, 7, ()) else (a * b, 0, ())
theorem zXN (a b : Nat) (ha : a < 18446744073709551616) (hb : b < 18446744073709551616) : zaX ((a : Int), (b : Int), ()) = some ((((a * b) / 18446744073709551616 : Nat) : Int), (((a * b) % 18446744073709551616 : Nat) : Int), ()) := by
  have e32 : ((2 : Int) ^ min (Int.toNat 32) (Go.IntKind.bits .u64)) = 4294967296 := rfl
  have hand : ∀ x : Nat, x < 18446744073709551616 → wU (BitVec.toNat (BitVec.ofInt (Go.IntKind.bits .u64) (x : Int) &&& BitVec.ofInt (Go.IntKind.bits .u64) 4294967295) : Int) = ((x % 4294967296 : Nat) : Int) := fun x hx => by
    have h1 : BitVec.ofInt (Go.IntKind.bits .u64) 4294967295 = BitVec.ofNat 64 4294967295 := rfl
    rw [ztv, h1]
    have h2 : (BitVec.ofNat 64 x &&& BitVec.ofNat 64 4294967295).toNat = x % 4294967296 := by
      rw [BitVec.toNat_and, BitVec.toNat_ofNat, BitVec.toNat_ofNat, Nat.mod_eq_of_lt (show x < 2 ^ 64 by omega)]
      exact Nat.and_two_pow_sub_one_eq_mod x 32
    have h3 : ((BitVec.ofNat 64 x &&& BitVec.ofNat 64 4294967295 : BitVec (Go.IntKind.bits .u64)).toNat : Int) = ((x % 4294967296 : Nat) : Int) := congrArg _ h2
    exact (congrArg wU h3).trans (zPU (by omega))
  have hdiv : ∀ x : Nat, Int.fdiv (x : Int) 4294967296 = ((x / 4294967296 : Nat) : Int) := fun x => by
    rw [Int.fdiv_eq_ediv_of_nonneg _ (by omega)]; rfl
  have hw : ∀ x : Nat, x < 18446744073709551616 → wU (x : Int) = (x : Int) := fun x hx => zPU (by omega)
  have hmod : wU ((a : Int) * (b : Int)) = (((a * b) % 18446744073709551616 : Nat) : Int) := by
    rw [show ((a : Int) * (b : Int)) = ((a * b : Nat) : Int) by simp]
    show ((a * b : Nat) : Int) % ((2 ^ 64 : Nat) : Int) = _
    rfl
  simp only [zaX, zlR, e32]
  have ha1 : a / 4294967296 ≤ 4294967295 := by omega
  have ha0 : a % 4294967296 ≤ 4294967295 := by omega
  have hb1 : b / 4294967296 ≤ 4294967295 := by omega
  have hb0 : b % 4294967296 ≤ 4294967295 := by omega
  have hp := Nat.mul_le_mul ha1 hb1
  have hq := Nat.mul_le_mul ha1 hb0
  have hr := Nat.mul_le_mul ha0 hb1
  have hs := Nat.mul_le_mul ha0 hb0
  have hab : a * b = (a / 4294967296 * (b / 4294967296)) * 18446744073709551616 + (a / 4294967296 * (b % 4294967296) + a % 4294967296 * (b / 4294967296)) * 4294967296 + a % 4294967296 * (b % 4294967296) := by
    conv => lhs; rw [← Nat.div_add_mod a 4294967296, ← Nat.div_add_mod b 4294967296]
    grind
  rw [hmod, hab, hand a ha, hand b hb, hdiv a, hdiv b]
  generalize a / 4294967296 = a1 at *
  generalize a % 4294967296 = a0 at *
  generalize b / 4294967296 = b1 at *
  generalize b % 4294967296 = b0 at *
  simp only [← Int.natCast_mul]
  generalize a1 * b1 = p at *
  generalize a1 * b0 = q at *
  generalize a0 * b1 = r at *
  generalize a0 * b0 = s at *
  rw [hw p (by omega), hw q (by omega), hw r (by omega), hw s (by omega), hdiv s]
  simp only [← Int.natCast_add]
  rw [hw (q + s / 4294967296) (by omega), hdiv (q + s / 4294967296), hand _ (by omega)]
  simp only [← Int.natCast_add]
  rw [hw (p + (q + s / 4294967296) / 4294967296) (by omega), hw ((q + s / 4294967296) % 4294967296 + r) (by omega), hdiv]
  simp only [← Int.natCast_add]
  rw [hw _ (by omega)]
  have : p + (q + s / 4294967296) / 4294967296 + ((q + s / 4294967296) % 4294967296 + r) / 4294967296 = (p * 18446744073709551616 + (q + r) * 4294967296 + s) / 18446744073709551616 := by omega
  rw [this]
theorem zRJ {a b : Int} (ha : 0 ≤ a ∧ a < U64) (hb : 0 ≤ b ∧ b < U64) : zgI (a, b, ()) = some (zRI a b) := by
  obtain ⟨m, rfl⟩ := Int.eq_ofNat_of_zero_le ha.1
  obtain ⟨n, rfl⟩ := Int.eq_ofNat_of_zero_le hb.1
  unfold U64 at *
  simp only [zgI, zyk]
  rw [zXN m n (by omega) (by omega), Option.bind_some]
  unfold zRI M62
  have e : ((m : Int) * (n : Int)) = ((m * n : Nat) : Int) := by simp
  rw [e]
  generalize m * n = p
  by_cases h : p < 18446744073709551616
  · have h1 : p / 18446744073709551616 = 0 := by omega
    have h2 : p % 18446744073709551616 = p := by omega
    simp only [h1, h2]
    grind
  · have h1 : (((p / 18446744073709551616 : Nat) : Int) != 0) = true := by simp only [bne_iff_ne, ne_eq]; omega
    simp only [h1]
    grind
def zy3 : Int → List Int → Int × Int × Unit
  | a, [] => (a, 0, ())
  | a, x :: l => bif decide (a + x > M62) then (0, 7, ()) else zy3 (a + x) l
theorem zhU {σ α β ρ : Type} {B : (σ → Option ρ) → σ → Option ρ} {l : List β} (d : β) (I : Nat → α → Prop) (st : Int → α → σ) (G : List β → α → Option ρ) (hl : l.length ≤ Go.maxLen)
    (hin : ∀ k (i : Nat) x rest s, i < l.length → I i s → l.getD i d = x → x ∈ l → l.drop (i + 1) = rest → (∀ s', I (i + 1) s' → k (st (wI (i + 1)) s') = G rest s') → B k (st i s) = G (x :: rest) s) (hout : ∀ k s, I l.length s → B k (st l.length s) = G [] s) (s : α) (h0 : I 0 s) : iter B K0 (st 0 s) = G l s := by
  have := zom (B := B) hl st (fun i s => G (l.drop i) s) I (fun k i s hi hI h => ?_) (fun k s hI => ?_) s h0
  · simpa using this
  · rw [zeO d hi]
    exact hin k i _ _ s hi hI rfl (yl hi) rfl fun s' hI' => h s' hI'
  · rw [hout _ _ hI, List.drop_of_length_le (Nat.le_refl _)]
theorem zv0 {l : List Int} (hl : l.length ≤ Go.maxLen) (h : ∀ x ∈ l, 0 ≤ x ∧ x < U64) : jy (l, ()) = some (zy3 0 l) :=
  zhU (B := zkc zfU) (l := l) (α := Int) (0 : Int) (fun _ s => 0 ≤ s) (fun i s => (s, l, (l.length : Int), i)) (fun rest s => some (zy3 s rest)) hl (fun k i x rest s hi hI hx hm hr hk => by
    simp only [zkc]
    have hxx := h x hm
    rw [ltT hi, qu hi, vT, hx, zSW hI hxx]
    simp only [cond_true, Option.bind_some, zUB, zy3]
    by_cases hb : s + x > M62
    · rw [decide_eq_true hb]; rfl
    · rw [decide_eq_false hb]
      exact hk (s + x) (by omega)) (fun k s _ => by simp only [zkc]; rw [ltF]; rfl) 0 (Int.le_refl 0)
def zUC (a b : zM) : Bool := decide (a.1 ≤ b.1) && (List.range' 0 64).all fun i => !hasB a.2.1 i || hasB b.2.1 i
def zMv (a : zM) : Prop := 0 ≤ a.2.1 ∧ a.2.1 < U64
theorem zIT {a b : zM} (ha : zMv a) (hb : zMv b) : zbM (a, b, ()) = some (zUC a b, ()) := by
  rw [qh]
  simp only [zbM, zBI]
  unfold zUC
  unfold zMv U64 at *
  obtain ⟨m, hm⟩ := Int.eq_ofNat_of_zero_le ha.1
  obtain ⟨n, hn⟩ := Int.eq_ofNat_of_zero_le hb.1
  have h1 := zIS m n (by omega) (by omega)
  unfold zkP at h1
  have h2 : (wU (BitVec.toNat (BitVec.ofInt (Go.IntKind.bits .u64) (a.2.1 : Int) &&& ~~~BitVec.ofInt (Go.IntKind.bits .u64) (b.2.1 : Int)) : Int) == 0) = (List.range' 0 64).all fun i => !hasB a.2.1 i || hasB b.2.1 i := by
    rw [hm, hn]
    have h3 : ∀ z : Int, (z != 0) = !(z == 0) := fun z => rfl
    rw [h3] at h1
    have h4 := congrArg (!·) h1
    simp only [Bool.not_not] at h4
    exact h4
  rw [h2]
  grind
theorem zMw (x : Int) : zc5 (x, ()) = some (zbD x, ()) := by simp only [zc5, zDY, zbD]; grind
def zMx (x : zoL) : Bool := yQ x.1 && (decide (x.2.1 ≤ M62) && decide (-1 ≤ x.2.2.1 ∧ x.2.2.1 ≤ 127))
theorem zSX (x : zoL) : zij (x, ()) = some (zMx x, ()) := by
  rw [qh]
  simp only [zij, zBz, zdU, zMw, Option.bind_some, zMx, zbD]
  unfold M62
  grind
def zPW (x : zoL) : Bool := (x.2.1 : Int) == 0 && (x.2.2.1 : Int) == -1
theorem zRK (x : zoL) : zgG (x, ()) = some (zPW x, ()) := by
  rw [qh]
  simp only [zgG, zyg, zPW]
  have h : eqI zg5 x (x.1, (zb zg5).2.1, -1, (zb zg5).2.2.2) = ((x.2.1 : Int) == 0 && (x.2.2.1 : Int) == -1) := by
    show cond ((x.1 : Int) == x.1) (cond ((x.2.1 : Int) == 0) (cond ((x.2.2.1 : Int) == -1) true false) false) false = _
    rw [beq_self_eq_true]
    cases ((x.2.1 : Int) == 0) <;> cases ((x.2.2.1 : Int) == -1) <;> rfl
  rw [h]
def zKo (x : zq) : Bool := (zbD x.2.1 && (zbD x.2.2.1 && (x.2.1 : Int) != x.2.2.1)) && ((zMx x.2.2.2.1 && zMx x.2.2.2.2.1) && !(zPW x.2.2.2.1 && zPW x.2.2.2.2.1))
def zHN (x : zq) : Prop := (0 ≤ x.2.2.2.1.2.1 ∧ x.2.2.2.1.2.1 < U64) ∧ (0 ≤ x.2.2.2.2.1.2.1 ∧ x.2.2.2.2.1.2.1 < U64)
theorem zSY (x : zq) : zik (x, ()) = some (zKo x, ()) := by
  rw [qh]
  simp only [zik, zBA, zMw, zSX, zRK, Option.bind_some, zKo]
  grind
def zv8 (x : zq) : Bool := bif x.1 then zKo x else eqI zI x (zb zI)
theorem zMy (x : zq) : zb9 (x, ()) = some (!zv8 x, ()) := by
  rw [qh]
  simp only [zb9, zql, zSY, Option.bind_some, zv8]
  grind
theorem zPB {l : List zq} (hl : l.length ≤ Go.maxLen) : zey (l, ()) = some (l.all zv8, ()) := by
  rw [qh]
  simp only [zey, zuR]
  rw [zqQ (p := fun x => !zv8 x) hl fun x _ => zMy x, Option.bind_some, ← yt]
  cases l.any fun x => !zv8 x <;> rfl
end Go.Proofs.YtaokpakfhdeiiaaGreatDoor
end
section
namespace Go.Proofs.YtaokpakfhdeiiaaGreatDoor
open Go.Ev
set_option linter.unusedVariables false
set_option linter.unusedSimpArgs false
theorem zv9 {α : Type} {p : α → Bool} {x : α} {l : List α} : (x :: l).filter p = bif p x then x :: l.filter p else l.filter p := by
  rw [List.filter_cons]; cases p x <;> rfl
def jA {α : Type} (p : α → Bool) : Nat → List α → List Int
  | _, [] => []
  | i, x :: l => bif p x then (i : Int) :: jA p (i + 1) l else jA p (i + 1) l
theorem zv1 {α : Type} {p : α → Bool} : ∀ (l : List α) (i : Nat), (jA p i l).length ≤ l.length
  | [], _ => Nat.le_refl _
  | x :: l, i => by
    have := zv1 (p := p) l (i + 1)
    simp only [jA, List.length_cons]
    cases p x <;> simp <;> omega
theorem zv2 {α : Type} {p : α → Bool} : ∀ (l : List α) (i : Nat), ∀ z ∈ jA p i l, ∃ j : Nat, z = (j : Int) ∧ i ≤ j ∧ j < i + l.length
  | [], i, z, h => by cases h
  | x :: l, i, z, h => by
    simp only [jA] at h
    have ih := zv2 (p := p) l (i + 1)
    cases hp : p x with
    | true =>
      rw [hp, cond_true] at h
      rcases List.mem_cons.1 h with rfl | h
      · exact ⟨i, rfl, Nat.le_refl _, by simp⟩
      · obtain ⟨j, h1, h2, h3⟩ := ih z h
        exact ⟨j, h1, by omega, by simp; omega⟩
    | false =>
      rw [hp, cond_false] at h
      obtain ⟨j, h1, h2, h3⟩ := ih z h
      exact ⟨j, h1, by omega, by simp; omega⟩
theorem zve {α β : Type} {p q : α → Bool} {g : α → β} (d : α) (L : List α) : ∀ (l : List α) (i : Nat), (∀ j, j < l.length → L.getD (i + j) d = l.getD j d) → ((jA p i l).filter fun z => q (L.getD z.toNat d)).map (fun z => g (L.getD z.toNat d)) = (l.filter fun x => p x && q x).map g
  | [], _, _ => rfl
  | x :: l, i, h => by
    have ih := zve (p := p) (q := q) (g := g) d L l (i + 1) fun j hj => by
      have := h (j + 1) (by simp; omega)
      rw [show i + 1 + j = i + (j + 1) by omega, this]; rfl
    have h0 : L.getD i d = x := h 0 (by simp)
    simp only [jA, zv9]
    cases hp : p x with
    | false => simp only [cond_false, Bool.false_and]; exact ih
    | true =>
      simp only [cond_true, Bool.true_and, zv9, Int.toNat_natCast, h0]
      cases hq : q x with
      | false => exact ih
      | true => simp only [cond_true, List.map_cons, Int.toNat_natCast, h0, ih]
theorem zHl {l : List zq} {g : zq × Unit → Option (Bool × Unit)} : vP (some (l, some g, ()), ()) = some (true, ()) := rfl
theorem zIU {l : List zq} {g : zq × Unit → Option (Bool × Unit)} {p : zq → Bool} (hg : ∀ x, g (x, ()) = some (p x, ())) {i : Nat} (hi : i < l.length) : qI (some (l, some g, ()), (i : Int), ()) = some (p (l.getD i qZ), ()) := by
  rw [qh]
  simp only [qI, zje, zHl, Option.bind_some, cond_true]
  rw [decide_eq_true (by omega), ltT hi, qu hi, vT, hg]
  simp only [cond_true, Option.bind_some]
theorem zFj {l : List zq} {g : zq × Unit → Option (Bool × Unit)} {p : zq → Bool} (hl : l.length ≤ lim) (hg : ∀ x, g (x, ()) = some (p x, ())) : jf (some (l, some g, ()), ()) = some (jA p 0 l, ()) := by
  have hl' : l.length ≤ Go.maxLen := by unfold lim at hl; unfold Go.maxLen; omega
  have := zom (B := zbj qI) (α := List Int) hl' (fun i o => (some (l, some g, ()), (l.length : Int), i, o)) (fun i o => some (o ++ jA p i (l.drop i), ())) (fun i o => o.length ≤ i) (fun k i o hi hI hk => by
    simp only [zbj]
    rw [ltT hi, zIU hg hi, set1, zeO qZ hi]
    simp only [cond_true, Option.bind_some, jA]
    rw [decide_eq_true (by simp; omega)]
    cases hp : p (l.getD i qZ) with
    | false =>
      simp only [cond_false]
      exact hk o (by omega)
    | true =>
      simp only [cond_true]
      rw [hk _ (by simp; omega)]
      simp) (fun k o _ => by
    simp only [zbj]
    rw [ltF, List.drop_of_length_le (Nat.le_refl _)]
    simp [jA]) [] (Nat.le_refl _)
  refine Eq.trans ?_ (this.trans ?_)
  · rfl
  · simp
theorem zRL {l : List zp} {g : zp × Unit → Option (Bool × Unit)} : vQ (some (l, some g, ()), ()) = some (true, ()) := rfl
theorem zSZ {l : List zp} {g : zp × Unit → Option (Bool × Unit)} {p : zp → Bool} (hg : ∀ x, g (x, ()) = some (p x, ())) {i : Nat} (hi : i < l.length) : zaO (some (l, some g, ()), (i : Int), ()) = some (p (l.getD i jm), ()) := by
  rw [qh]
  simp only [zaO, zqz, zRL, Option.bind_some, cond_true]
  rw [decide_eq_true (by omega), ltT hi, qu hi, vT, hg]
  simp only [cond_true, Option.bind_some]
theorem zPC {l : List zp} {g : zp × Unit → Option (Bool × Unit)} {p : zp → Bool} (hl : l.length ≤ lim) (hg : ∀ x, g (x, ()) = some (p x, ())) : zcN (some (l, some g, ()), ()) = some (jA p 0 l, ()) := by
  have hl' : l.length ≤ Go.maxLen := by unfold lim at hl; unfold Go.maxLen; omega
  have := zom (B := zbl zaO) (α := List Int) hl' (fun i o => (some (l, some g, ()), (l.length : Int), i, o)) (fun i o => some (o ++ jA p i (l.drop i), ())) (fun i o => o.length ≤ i) (fun k i o hi hI hk => by
    simp only [zbl]
    rw [ltT hi, zSZ hg hi, set1, zeO jm hi]
    simp only [cond_true, Option.bind_some, jA]
    rw [decide_eq_true (by simp; omega)]
    cases hp : p (l.getD i jm) with
    | false =>
      simp only [cond_false]
      exact hk o (by omega)
    | true =>
      simp only [cond_true]
      rw [hk _ (by simp; omega)]
      simp) (fun k o _ => by
    simp only [zbl]
    rw [ltF, List.drop_of_length_le (Nat.le_refl _)]
    simp [jA]) [] (Nat.le_refl _)
  refine Eq.trans ?_ (this.trans ?_)
  · rfl
  · simp
def zAt (l : List zq) (c : Int) : Int × Int × Unit := bif yQ c then zy3 0 ((l.filter fun x => x.1 && (x.2.2.2.1.1 : Int) == c).map fun x => x.2.2.2.1.2.1) else (0, 1, ())
theorem zS0 (l : List zq) (hl : l.length ≤ lim) : zim (l, ()) = some (some (l, some zeC, ()), ()) := by
  simp only [zim, zBN, jt, zhM, zFh hl, Option.bind_some]
  rfl
theorem zPD (x : zq) : zeC (x, ()) = some (x.1, ()) := by
  rw [qh]; rfl
theorem zRM {l : List zq} (hl : l.length ≤ lim) (h : ∀ x ∈ l, zHN x) (c : Int) : zdN (l, c, ()) = some (zAt l c) := by
  have hl' : l.length ≤ Go.maxLen := by unfold lim at hl; unfold Go.maxLen; omega
  simp only [zdN, zqA, zdU, Option.bind_some]
  unfold zAt
  cases hc : yQ c with
  | false => rfl
  | true =>
    simp only [cond_true]
    rw [zS0 l hl, Option.bind_some, zFj hl zPD, Option.bind_some]
    have hsl := zv1 (p := fun x : zq => x.1) l 0
    have hsm := zv2 (p := fun x : zq => x.1) l 0
    have hloop := zhU (B := zgP jy) (l := jA (fun x : zq => x.1) 0 l) (α := List Int) (0 : Int) (fun i o => o.length ≤ i ∧ ∀ x ∈ o, 0 ≤ x ∧ x < U64) (fun i o => (l, c, jA (fun x : zq => x.1) 0 l, ((jA (fun x : zq => x.1) 0 l).length : Int), i, o))
      (fun rest o => some (zy3 0 (o ++ (rest.filter fun z => ((l.getD z.toNat qZ).2.2.2.1.1 : Int) == c).map fun z => (l.getD z.toNat qZ).2.2.2.1.2.1))) (by omega) (fun k i x rest o hi hI hx hm hr hk => by
        simp only [zgP]
        obtain ⟨j, rfl, -, hj⟩ := hsm x hm
        rw [ltT hi, qu hi, vT, hx, qu (by omega), qu (by omega), Int.toNat_natCast, set1]
        have hxx := (h (l.getD j qZ) (yl (by omega))).1
        simp only [cond_true, zv9, Int.toNat_natCast]
        rw [decide_eq_true (by simp; omega)]
        simp only [cond_true]
        cases hq : ((l.getD j qZ).2.2.2.1.1 : Int) == c with
        | false =>
          exact hk o ⟨by omega, hI.2⟩
        | true =>
          simp only [cond_true, List.map_cons, Int.toNat_natCast]
          refine (hk _ ⟨by simp; omega, fun x hx => ?_⟩).trans ?_
          · rcases List.mem_append.1 hx with hx | hx
            · exact hI.2 x hx
            · rcases List.mem_singleton.1 hx with rfl
              exact hxx
          · rw [List.append_assoc]; rfl) (fun k o hI => by
        simp only [zgP]
        rw [ltF]
        simp only [cond_false]
        rw [zv0 (by omega) hI.2, List.filter_nil, List.map_nil, List.append_nil]
        rfl) [] ⟨Nat.le_refl _, fun x hx => by cases hx⟩
    refine hloop.trans ?_
    rw [List.nil_append, zve (q := fun x : zq => (x.2.2.2.1.1 : Int) == c) (g := fun x : zq => x.2.2.2.1.2.1) qZ l l 0 fun j _ => by rw [Nat.zero_add]]
end Go.Proofs.YtaokpakfhdeiiaaGreatDoor
end
section
namespace Go.Proofs.YtaokpakfhdeiiaaGreatDoor
open Go.Ev
set_option linter.unusedVariables false
set_option linter.unusedSimpArgs false
def zRN (x : Int) : Bool := decide (0 ≤ x ∧ x ≤ 2)
theorem zNY (x : Int) : zak (x, ()) = some (!zRN x, ()) := by simp only [zak, zsx, zRN]; grind
def zRO (r : zf) (i : Nat) (row : List Int) : Bool := decide (row.length = r.2.2.1.length) && (row.all zRN && row.getD (Int.toNat (r.2.2.2.1.getD i zaB).2.1) (0 : Int) == 2)
def zMz (r : zf) (l : List (List Int)) : Bool := decide (l.length = r.2.2.2.1.length) && qU (fun i => zRO r i (l.getD i [])) 0 (l.length - 0)
structure zsQ (r : zf) : Prop where
  labels : 1 ≤ r.1.length ∧ r.1.length ≤ 8
  lines : 1 ≤ r.2.1.length ∧ r.2.1.length ≤ 8
  accounts : 1 ≤ r.2.2.1.length ∧ r.2.2.1.length ≤ 8
  guilds : r.2.2.2.1.length ≤ 8
  quotas : r.2.2.2.2.1.length = r.1.length
  heads : ∀ i, i < r.2.2.2.1.length → 0 ≤ (r.2.2.2.1.getD i zaB).2.1 ∧ (r.2.2.2.1.getD i zaB).2.1 < (r.2.2.1.length : Int)
theorem zkg {r : zf} (h : zbm r = true) : zsQ r := by
  simp only [zbm, Bool.and_eq_true] at h
  obtain ⟨h1, h2, h3, h4, h5, -⟩ := h
  simp only [zsO, zHk, zoz, zHL, zCZ, within, Bool.and_eq_true, decide_eq_true_eq, zUx, zaA] at h1 h2 h3 h4 h5
  refine ⟨by omega, by omega, by omega, h4.1, by omega, fun i hi => ?_⟩
  have := h4.2.1 i (by omega) (by omega)
  simp only [zRA, within, Bool.and_eq_true, decide_eq_true_eq] at this
  omega
theorem ixR {n : Nat} {x : Int} {ρ : Type} {y : Option ρ} (h : 0 ≤ x ∧ x < (n : Int)) : inR x (n : Int) y = y := zVr h.1 h.2
theorem zRP {r : zf} (hr : yD r) (l : List (List Int)) : zaK (r, l, ()) = some (zbm r && zMz r l, ()) := by
  rw [qh]
  simp only [zaK, zqp, zvd r hr, Option.bind_some]
  cases hb : zbm r with
  | false => rfl
  | true =>
    have ok := zkg hb
    rw [zHG]
    unfold zMz
    by_cases hn : l.length = r.2.2.2.1.length
    · have hg := ok.guilds
      have hloop : zsy zH K0 (some zak, l, (l.length : Int), 0, r) = bif qU (fun i => zRO r i (l.getD i [])) 0 (l.length - 0) then some (true, ()) else some (false, ()) :=
        yT (i0 := 0) (n := l.length) (by unfold Go.maxLen; omega) (Nat.zero_le _) (fun i => (some zak, l, (l.length : Int), i, r)) (fun k i h1 h2 => by
          simp only [zkD]
          rw [ltT h2, qu h2, Int.toNat_natCast, zHG]
          unfold zRO
          by_cases hm : (l.getD i []).length = r.2.2.1.length
          · have ha := ok.accounts
            have hh := ok.heads i (by omega)
            rw [zfi (p := fun x => !zRN x) (l := l.getD i []) (by unfold Go.maxLen; omega) fun x _ => zNY x, qu (by omega), vT, ixR (by rw [hm]; exact hh)]
            have := yt (l := l.getD i []) (p := zRN)
            simp only [Option.bind_some, cond_true]
            grind
          · grind) (fun k => by simp only [zkD]; rw [ltF]; rfl)
      rw [hloop]
      grind
    · grind
theorem zVH (x : Int) : zov (x, ()) = some (zbD x, ()) := by simp only [zov, zGZ, zbD]; grind
theorem zUD (x : Int) : zkE (x, ()) = some (zbD x, ()) := by simp only [zkE, zD0, zbD]; grind
def zEk (k a b : Int) : Int × Int × Unit := bif (k != 1 && k != 2) || (a == 0 || b == 0) then (0, 1, ()) else bif decide (a * b > M62) then (0, 7, ()) else bif k == 2 then (a, 0, ()) else (a * b, 0, ())
theorem zIV {k a b : Int} (ha : 0 ≤ a ∧ a < U64) (hb : 0 ≤ b ∧ b < U64) : zbL (k, a, b, ()) = some (zEk k a b) := by
  simp only [zbL, zBC, zRJ ha hb, Option.bind_some, zRI, zEk]
  generalize a * b = p
  cases h : decide (p > M62) <;> simp only [cond_true, cond_false] <;> grind
def zjl (x : Int) : Prop := 0 ≤ x ∧ x < U64
structure zwa (x : zp) : Prop where
  amount : zjl x.2.2.2.2.2.2.1
  price : zjl x.2.2.2.2.2.2.2.1
  held : zjl x.2.2.2.2.2.2.2.2.1
def zEl (x : zp) : Bool := ((zEk x.2.2.2.1 x.2.2.2.2.2.2.2.1 x.2.2.2.2.2.2.1).2.1 == 0 && (zEk x.2.2.2.1 x.2.2.2.2.2.2.2.1 x.2.2.2.2.2.2.1).1 == x.2.2.2.2.2.2.2.2.1) && ((zbD x.2.1 && zbD x.2.2.1) && ((yQ x.2.2.2.2.1 && yQ x.2.2.2.2.2.1) && ((x.2.2.2.2.1 : Int) != x.2.2.2.2.2.1 && decide (0 ≤ x.2.2.2.2.2.2.2.2.2.1))))
theorem zUE {x : zp} (h : zwa x) : zhE (x, ()) = some (zEl x, ()) := by
  rw [qh]
  simp only [zhE, zDZ, zIV h.price h.amount, zVH, zdU, Option.bind_some, zEl]
  generalize zEk x.2.2.2.1 x.2.2.2.2.2.2.2.1 x.2.2.2.2.2.2.1 = n
  grind
def zNZ (x : zp) : Bool := bif x.1 then zEl x else eqI zv x (zb zv)
def zKp (l : List zp) : List Int := (l.filter fun x => x.1).map fun x => x.2.2.2.2.2.2.2.2.2.1
def zRQ : List Int → List (Int × Int) → Nat
  | [], o => o.length
  | x :: l, o => zRQ l (zbn tI o x (wI (zfn tI (0 : Int) o x + 1)))
def zHO (l : List zp) : Bool := l.all zNZ && zRQ (zKp l) [] == (zKp l).length
theorem zRR {l : List zp} (hl : l.length ≤ 1000000) (h : ∀ x ∈ l, zwa x) : zj5 (l, ()) = some (zHO l, ()) := by
  have hloop := zhU (B := zgK zhE) (l := l) (α := Nat × List (Int × Int)) jm (fun i s => s.1 ≤ i) (fun i s => ((s.1 : Int), l, (l.length : Int), i, s.2))
    (fun rest s => some (rest.all zNZ && zRQ (zKp rest) s.2 == s.1 + (zKp rest).length, ())) (by unfold Go.maxLen; omega) (fun k i x rest s hi hI hx hm hr hk => by
      obtain ⟨n, o⟩ := s
      simp only [zgK]
      have hn : n ≤ i := hI
      have hw : wI ((n : Int) + 1) = ((n + 1 : Nat) : Int) := by
        unfold wI
        rw [IntWalk.i64_in _ (by omega)]; rfl
      rw [ltT hi, qu hi]
      simp only [vT, hx, cond_true, zUE (h x hm), Option.bind_some, hw, zKp, zv9, List.all_cons, zNZ]
      cases hlive : x.1 with
      | false =>
        simp only [cond_false]
        have := hk (n, o) (by show n ≤ i + 1; omega)
        cases eqI zv x (zb zv) with
        | false => rfl
        | true => exact this
      | true =>
        simp only [cond_true, List.map_cons, zRQ, List.length_cons]
        have := hk (n + 1, zbn tI o x.2.2.2.2.2.2.2.2.2.1 (wI (zfn tI (0 : Int) o x.2.2.2.2.2.2.2.2.2.1 + 1))) (by show n + 1 ≤ i + 1; omega)
        cases zEl x with
        | false => rfl
        | true =>
          refine this.trans ?_
          simp only [zKp, Bool.true_and]
          rw [show n + 1 + (List.map (fun x : zp => x.2.2.2.2.2.2.2.2.2.1) (List.filter (fun x => x.1) rest)).length = n + ((List.map (fun x : zp => x.2.2.2.2.2.2.2.2.2.1) (List.filter (fun x => x.1) rest)).length + 1) by omega]) (fun k s _ => by
      obtain ⟨n, o⟩ := s
      simp only [zgK]
      rw [ltF]
      simp only [cond_false, zKp, List.filter_nil, List.map_nil, zRQ, List.length_nil, List.all_nil, Bool.true_and, Nat.add_zero]
      rw [zVD]
      cases o.length == n <;> rfl) (0, []) (Nat.le_refl _)
  refine hloop.trans ?_
  unfold zHO
  rw [Nat.zero_add]
structure zHP (x : zK) : Prop where
  amount : zjl x.2.2.2.2.2.2.2.1
  price : zjl x.2.2.2.2.2.2.2.2.1
def zwb (x : zK) : Bool := (decide (x.1 ≤ M62) && (zbD x.2.1 && (zbD x.2.2.1 && (zbD x.2.2.2.1 && zbD x.2.2.2.2.2.2.2.2.2.1)))) && bif (x.2.2.2.2.1 : Int) == 3 then ((x.2.2.2.2.2.1 : Int) == 0 && (x.2.2.2.2.2.2.1 : Int) == 0) && ((x.2.2.2.2.2.2.2.1 : Int) == 0 && (x.2.2.2.2.2.2.2.2.1 : Int) == 0)
  else ((zEk x.2.2.2.2.1 x.2.2.2.2.2.2.2.1 x.2.2.2.2.2.2.2.2.1).2.1 == 0 && (x.2.2.2.2.2.2.2.2.2.1 : Int) == 0) && ((x.2.2.2.2.2.1 : Int) != x.2.2.2.2.2.2.1 && (yQ x.2.2.2.2.2.1 && yQ x.2.2.2.2.2.2.1))
theorem zVI (x : zK) : eqI zF x (x.1, x.2.1, x.2.2.1, x.2.2.2.1, x.2.2.2.2.1, (zb zF).2.2.2.2.2.1, (zb zF).2.2.2.2.2.2.1, (zb zF).2.2.2.2.2.2.2.1, (zb zF).2.2.2.2.2.2.2.2.1, x.2.2.2.2.2.2.2.2.2.1, (zb zF).2.2.2.2.2.2.2.2.2.2) = (((x.2.2.2.2.2.1 : Int) == 0 && (x.2.2.2.2.2.2.1 : Int) == 0) && ((x.2.2.2.2.2.2.2.1 : Int) == 0 && (x.2.2.2.2.2.2.2.2.1 : Int) == 0)) := by
  show cond ((x.1 : Int) == x.1) (cond ((x.2.1 : Int) == x.2.1) (cond ((x.2.2.1 : Int) == x.2.2.1) (cond ((x.2.2.2.1 : Int) == x.2.2.2.1) (cond ((x.2.2.2.2.1 : Int) == x.2.2.2.2.1) (cond ((x.2.2.2.2.2.1 : Int) == 0) (cond ((x.2.2.2.2.2.2.1 : Int) == 0) (cond ((x.2.2.2.2.2.2.2.1 : Int) == 0) (cond ((x.2.2.2.2.2.2.2.2.1 : Int) == 0) (cond ((x.2.2.2.2.2.2.2.2.2.1 : Int) == x.2.2.2.2.2.2.2.2.2.1) true false) false) false) false) false) false) false) false) false) false = _
  simp only [beq_self_eq_true, cond_true]
  cases ((x.2.2.2.2.2.1 : Int) == 0) <;> cases ((x.2.2.2.2.2.2.1 : Int) == 0) <;> cases ((x.2.2.2.2.2.2.2.1 : Int) == 0) <;> cases ((x.2.2.2.2.2.2.2.2.1 : Int) == 0) <;> rfl
theorem zS1 {x : zK} (h : zHP x) : zfO (x, ()) = some (zwb x, ()) := by
  rw [qh]
  simp only [zfO, zBD, zIV h.amount h.price, zUD, zdU, Option.bind_some, zwb]
  rw [zVI x]
  generalize zEk x.2.2.2.2.1 x.2.2.2.2.2.2.2.1 x.2.2.2.2.2.2.2.2.1 = n
  unfold M62
  grind
def zVJ (a b : zK) : Int := orV (zvb a.1 b.1) (zvb a.2.1 b.2.1)
theorem zPE (a b : zK) : zcx (a, b, ()) = some (zVJ a b, ()) := by
  simp only [zcx, zuV, zFi, zyZ, Option.bind_some]
  show Option.bind (yH ([zvb a.1 b.1, zvb a.2.1 b.2.1], ())) _ = _
  rw [zXu]; rfl
def zy4 (l : List zK) : Bool := qU (fun i => zwb (l.getD i zoM) && (decide (i = 0) || !decide (zVJ (l.getD (i - 1) zoM) (l.getD i zoM) ≥ 0))) 0 (l.length - 0)
theorem zPF {l : List zK} (hl : l.length ≤ Go.maxLen) (h : ∀ x ∈ l, zHP x) : zh6 (l, ()) = some (zy4 l, ()) := by
  rw [qh]
  exact yT (B := ze1 zfO zcx) (i0 := 0) hl (Nat.zero_le _) (fun i => (l, l, (l.length : Int), i)) (fun k i h1 h2 => by
    simp only [ze1]
    rw [ltT h2, qu h2, vT, zS1 (h _ (yl h2))]
    by_cases h0 : i = 0
    · subst h0
      simp only [cond_true, Option.bind_some]
      grind
    · rw [zHF (by omega) (by omega), qu (by omega), Int.toNat_natCast, zPE]
      simp only [cond_true, Option.bind_some]
      grind) (fun k => by simp only [ze1]; rw [ltF]; rfl)
end Go.Proofs.YtaokpakfhdeiiaaGreatDoor
end
section
namespace Go.Proofs.YtaokpakfhdeiiaaGreatDoor
open Go.Ev
set_option linter.unusedVariables false
set_option linter.unusedSimpArgs false
def zEm (a : List Int) : Prop := ∀ x ∈ a, zjl x
theorem zy5 {a : List Int} (h : zEm a) (i : Nat) : zjl (a.getD i 0) := by
  by_cases hi : i < a.length
  · exact h _ (yl hi)
  · rw [List.getD_eq_getElem?_getD, List.getElem?_eq_none (by omega)]
    unfold zjl U64; decide
structure zC2 (x : zm) : Prop where
  trades : ∀ t ∈ x.2.2.2.2.1, zHN t
  purses : ∀ a ∈ x.2.2.2.2.2.1, zEm a
  made : zEm x.2.2.2.2.2.2.2.1
  spent : zEm x.2.2.2.2.2.2.2.2.1
structure zoA (s : zr) : Prop where
  shelves : ∀ x ∈ s.2.1, zC2 x
  orders : ∀ x ∈ s.2.2.2.1, zwa x
  entries : ∀ x ∈ s.2.2.2.2.1, zHP x
def zAu (r : zf) (x : zm) (q : zga) : Bool := ((decide ((x.1.length : Int) = q.1) && decide ((x.2.1.length : Int) = q.2.1)) && (decide ((x.2.2.1.length : Int) = q.2.2.1) && decide ((x.2.2.2.1.length : Int) = q.2.2.2.1))) && (decide ((x.2.2.2.2.1.length : Int) = q.2.2.2.2.1) && (decide (x.2.2.2.2.2.1.length = r.2.2.1.length) && decide (x.2.2.2.2.2.2.1.length = r.2.2.1.length)))
def ztw (r : zf) (s : zr) : Bool := (decide (s.2.1.length = r.1.length) && (decide ((s.2.2.2.1.length : Int) = r.2.2.2.2.2.1) && decide ((s.2.2.2.2.1.length : Int) ≤ r.2.2.2.2.2.2.1))) && ((decide (s.2.2.2.2.2.1.length = r.2.1.length) && decide (s.1 ≤ M62)) && qU (fun i => zAu r (s.2.1.getD i za) (r.2.2.2.2.1.getD i zbf)) 0 (s.2.1.length - 0))
theorem neI (a b : Int) : (a != b) = !decide (a = b) := by
  rw [Bool.eq_iff_iff]; simp
theorem zPG {r : zf} (hr : yD r) (s : zr) : zcv ((r, s, ()), ()) = some (zbm r && ztw r s, ()) := by
  rw [qh]
  simp only [zcv, zmB, zvd r hr, Option.bind_some]
  cases hb : zbm r with
  | false => rfl
  | true =>
    have ok := zkg hb
    have ok1 := ok.labels
    have ok2 := ok.quotas
    rw [zHG, zHG]
    unfold ztw M62
    by_cases hn : s.2.1.length = r.1.length
    · have hloop : zqf K0 ((r.2.2.1.length : Int), s.2.1, (s.2.1.length : Int), 0, (r, s, ())) = bif qU (fun i => zAu r (s.2.1.getD i za) (r.2.2.2.2.1.getD i zbf)) 0 (s.2.1.length - 0) then some (true, ()) else some (false, ()) :=
        yT (i0 := 0) (n := s.2.1.length) (by unfold Go.maxLen; omega) (Nat.zero_le _) (fun i => ((r.2.2.1.length : Int), s.2.1, (s.2.1.length : Int), i, (r, s, ()))) (fun k i h1 h2 => by
          simp only [zjc]
          rw [ltT h2, qu h2, qu (by omega)]
          simp only [vT, neI, cond_true, zAu]
          generalize s.2.1.getD i za = x
          generalize r.2.2.2.2.1.getD i zbf = q
          generalize k _ = kk
          grind (splits := 30)) (fun k => by simp only [zjc]; rw [ltF]; rfl)
      rw [hloop]
      grind
    · grind
structure zoB (r : zf) (s : zr) : Prop where
  shelves : s.2.1.length = r.1.length
  orders : s.2.2.2.1.length ≤ 24
  entries : s.2.2.2.2.1.length ≤ 48
  people : s.2.2.2.2.2.1.length = r.2.1.length
  shelf : ∀ x ∈ s.2.1, x.1.length ≤ 12 ∧ x.2.1.length ≤ 12 ∧ x.2.2.1.length ≤ 12 ∧ x.2.2.2.1.length ≤ 12 ∧ x.2.2.2.2.1.length ≤ 12 ∧ x.2.2.2.2.2.1.length = r.2.2.1.length ∧ x.2.2.2.2.2.2.1.length = r.2.2.1.length
theorem zRS : ∀ (l : List zga) (n : Int), zEh n l = true → ∀ q ∈ l, zHK q = true
  | [], _, _, q, h => by cases h
  | a :: l, n, h, q, hq => by
    simp only [zEh, Bool.and_eq_true] at h
    rcases List.mem_cons.1 hq with rfl | hq
    · exact h.1
    · exact zRS l _ h.2.2 q hq
theorem zOy {r : zf} {s : zr} (hb : zbm r = true) (h : ztw r s = true) : zoB r s := by
  have ok := zkg hb
  simp only [zbm, Bool.and_eq_true] at hb
  obtain ⟨-, -, -, -, h5, h6⟩ := hb
  simp only [zCZ, zPT, within, Bool.and_eq_true, decide_eq_true_eq] at h5 h6
  simp only [ztw, Bool.and_eq_true, decide_eq_true_eq, zaA] at h
  obtain ⟨⟨h7, h8, h9⟩, ⟨h10, -⟩, h11⟩ := h
  refine ⟨h7, by omega, by omega, h10, fun x hx => ?_⟩
  obtain ⟨i, hi, rfl⟩ := List.mem_iff_getElem.1 hx
  have h12 := h11 i (by omega) (by omega)
  have e : s.2.1.getD i za = s.2.1[i] := by simp [List.getD, hi]
  rw [e] at h12
  have hq := zRS _ _ h5.2.2.2 (r.2.2.2.2.1.getD i zbf) (yl (by have := ok.quotas; omega))
  simp only [zHK, within, Bool.and_eq_true, decide_eq_true_eq] at hq
  simp only [zAu, Bool.and_eq_true, decide_eq_true_eq] at h12
  omega
def zfj (x : zm) : Bool := (x.1.all zC0) && (zVG x.2.1 && (x.2.2.1.all zy2 && (x.2.2.2.1.all zC1 && x.2.2.2.2.1.all zv8)))
theorem zMA {x : zm} (h : x.1.length ≤ 12 ∧ x.2.1.length ≤ 12 ∧ x.2.2.1.length ≤ 12 ∧ x.2.2.2.1.length ≤ 12 ∧ x.2.2.2.2.1.length ≤ 12) : zca (x, ()) = some (zfj x, ()) := by
  rw [qh]
  have hm : 12 ≤ Go.maxLen := by unfold Go.maxLen; omega
  simp only [zca, zqn]
  rw [zRB (by omega), zRD (by omega), zPA (by omega), zRH (by omega), zPB (by omega)]
  simp only [Option.bind_some, zfj]
  grind
theorem zPH {r : zf} {s : zr} (ok : zsQ r) (sz : zoB r s) : zcw ((r, s, ()), ()) = some (s.2.1.all zfj, ()) := by
  rw [qh]
  simp only [zcw, zuU]
  have h1 := ok.labels
  have h2 := sz.shelves
  rw [zSO (p := zfj) (by unfold Go.maxLen; omega) fun x hx => zMA (by have := sz.shelf x hx; omega)]
  simp only [Option.bind_some]
def zvf (r : zf) (x : Int) : Bool := decide (0 ≤ x ∧ x < (r.2.2.1.length : Int))
def zok (r : zf) (x : Int) : Bool := decide (0 ≤ x ∧ x < (r.1.length : Int))
theorem zcm (r : zf) (s : zr) (x : Int) : z4 ((r, s, ()), x, ()) = some (zvf r x, ()) := by simp only [z4, zqr, zvf]; grind
theorem zFk (r : zf) (s : zr) (x : Int) : yW ((r, s, ()), x, ()) = some (zok r x, ()) := by simp only [yW, zuZ, zok]; grind
def ztx (s : zr) (x : jC) : Bool := decide (0 ≤ x.1 ∧ x.1 < (s.2.1.length : Int)) && (decide (0 ≤ x.2.1 ∧ x.2.1 < ((s.2.1.getD x.1.toNat za).1.length : Int)) && ((s.2.1.getD x.1.toNat za).1.getD x.2.1.toNat zPR).1)
theorem zvg (s : zr) (x : jC) : j6 (s, x, ()) = some (ztx s x, ()) := by
  rw [qh]
  simp only [j6, zuX, ztx, ix]
  by_cases h1 : 0 ≤ x.1 ∧ x.1 < (s.2.1.length : Int)
  · rw [ixR h1, ixR h1]
    by_cases h2 : 0 ≤ x.2.1 ∧ x.2.1 < ((s.2.1.getD x.1.toNat za).1.length : Int)
    · rw [ixR h2]
      grind
    · grind
  · grind
def zEn (r : zf) (s : zr) (x : zp) : Bool := !x.1 || (zok r x.2.1 && (zvf r x.2.2.1 && decide (x.2.2.2.2.2.2.2.2.2.1 < (s.2.2.2.2.1.length : Int))))
def zEo (r : zf) (s : zr) (x : zK) : Bool := decide (x.2.1 < (r.2.1.length : Int)) && ((x.2.2.1 : Int) == r.2.1.getD x.2.1.toNat 0 && (zvf r x.2.2.2.1 && decide (x.1 ≤ s.1)))
def zHQ (r : zf) (x : Int) : Bool := x == -1 || zvf r x
theorem zUF (r : zf) (s : zr) (x : zp) : zbt (x, some (r, s, ()), ()) = some (zEn r s x, ()) := by
  rw [qh]
  simp only [zbt, zn4, zcm, zFk, Option.bind_some, zEn]
  grind
theorem zUG (r : zf) (s : zr) {x : zK} (h : zwb x = true) : zbu (x, some (r, s, ()), ()) = some (zEo r s x, ()) := by
  rw [qh]
  simp only [zbu, zn5, zcm, Option.bind_some, zEo, ix]
  have : 0 ≤ x.2.1 := by unfold zwb zbD at h; grind
  by_cases h1 : x.2.1 < (r.2.1.length : Int)
  · rw [ixR ⟨this, h1⟩]
    grind
  · grind
theorem zUH (r : zf) (s : zr) (x : Int) : zbv (x, some (r, s, ()), ()) = some (zHQ r x, ()) := by
  rw [qh]
  simp only [zbv, zn6, zcm, Option.bind_some, zHQ]
  grind
def zwc (r : zf) (s : zr) : Bool := zMz r s.2.2.1 && (zHO s.2.2.2.1 && (zy4 s.2.2.2.2.1 && (ztx s (zb qf) && (s.2.2.2.1.all (zEn r s) && (s.2.2.2.2.1.all (zEo r s) && s.2.2.2.2.2.1.all (zHQ r))))))
theorem zRT {l : List zK} (h : zy4 l = true) : ∀ x ∈ l, zwb x = true := by
  intro x hx
  simp only [zy4, zaA, Bool.and_eq_true] at h
  obtain ⟨i, hi, rfl⟩ := List.mem_iff_getElem.1 hx
  have e : l.getD i zoM = l[i] := by simp [List.getD, hi]
  rw [← e]
  exact (h i (by omega) (by omega)).1
theorem zN0 {r : zf} {s : zr} (hr : yD r) (hb : zbm r = true) (hs : zoA s) (sz : zoB r s) : zbx ((r, s, ()), ()) = some (zwc r s, ()) := by
  rw [qh]
  have ok := zkg hb
  have h1 := ok.lines
  have h2 := sz.orders
  have h3 := sz.entries
  have h4 := sz.people
  have hm : 48 ≤ Go.maxLen := by unfold Go.maxLen; omega
  simp only [zbx, zsz, zRP hr, hb, Bool.true_and, Option.bind_some]
  unfold zwc
  cases zMz r s.2.2.1 with
  | false => rfl
  | true =>
    rw [zRR (by omega) hs.orders, zPF (by omega) hs.entries, zvg]
    simp only [Option.bind_some, cond_true]
    cases zHO s.2.2.2.1 with
    | false => rfl
    | true =>
      cases he : zy4 s.2.2.2.2.1 with
      | false => rfl
      | true =>
        rw [zSP (p := zEn r s) (by omega) fun x _ => zUF r s x, zSQ (p := zEo r s) (by omega) fun x hx => zUG r s (zRT he x hx), zVA (p := zHQ r) (by omega) fun x _ => zUH r s x]
        simp only [Option.bind_some, cond_true]
        grind
end Go.Proofs.YtaokpakfhdeiiaaGreatDoor
end
section
namespace Go.Proofs.YtaokpakfhdeiiaaGreatDoor
open Go.Ev
set_option linter.unusedVariables false
set_option linter.unusedSimpArgs false
def zHm (r : zf) (a b : Int) : Bool := zok r a && (zok r b && zUC (r.1.getD a.toNat zcC) (r.1.getD b.toNat zcC))
theorem zMB {r : zf} (hr : yD r) (a : Int) (h : zok r a = true) : zMv (r.1.getD a.toNat zcC) := by
  simp only [zok, decide_eq_true_eq] at h
  exact hr.labels _ (yl (by omega))
theorem zIW {r : zf} (hr : yD r) (s : zr) (a b : Int) : zbN ((r, s, ()), a, b, ()) = some (zHm r a b, ()) := by
  rw [qh]
  simp only [zbN, zBJ, zFk, Option.bind_some, zHm, ix]
  cases ha : zok r a with
  | false => rfl
  | true =>
    cases hb : zok r b with
    | false => rfl
    | true =>
      rw [zIT (zMB hr a ha) (zMB hr b hb)]
      simp only [zok, decide_eq_true_eq] at ha hb
      rw [ixR ha, ixR hb]
      simp only [Option.bind_some]
      grind
def zty (r : zf) (s : zr) (i : Int) (x : jC) : Bool := ztx s x && zHm r x.1 i
theorem zqR {r : zf} (hr : yD r) (s : zr) (i : Int) (x : jC) : vz (x, some (r, s, ()), some i, ()) = some (zty r s i x, ()) := by
  rw [qh]
  simp only [vz, zqu, zvg, zIW hr, Option.bind_some, zty]
  grind
def zAv (r : zf) (s : zr) (i : Int) (x : z9) : Bool := !x.1 || (zty r s i x.2.1 && zty r s i x.2.2.1)
def ztz (r : zf) (s : zr) (i : Int) (x : zW) : Bool := (x.2.2.1 : Int) != 2 || zty r s i x.2.2.2.2.1
def zC3 (r : zf) (s : zr) (i : Int) (x : zm) : Bool := x.2.1.all (zAv r s i) && (x.2.2.1.all (ztz r s i) && x.2.2.2.2.2.2.1.all (zty r s i))
theorem zVK {r : zf} (hr : yD r) (s : zr) (i : Int) (x : z9) : zaL (x, some (some fun z => vz (z.1, some (r, s, ()), some i, ())), ()) = some (zAv r s i x, ()) := by
  rw [qh]
  simp only [zaL, zqw, zqR hr, Option.bind_some, zAv]
  grind
theorem zVL {r : zf} (hr : yD r) (s : zr) (i : Int) (x : zW) : zaM (x, some (some fun z => vz (z.1, some (r, s, ()), some i, ())), ()) = some (ztz r s i x, ()) := by
  rw [qh]
  simp only [zaM, zqx, zqR hr, Option.bind_some, ztz]
  grind
theorem zPI {r : zf} {s : zr} (hr : yD r) (ok : zsQ r) (sz : zoB r s) : zeA ((r, s, ()), ()) = some (qU (fun i => zC3 r s (i : Int) (s.2.1.getD i za)) 0 (s.2.1.length - 0), ()) := by
  rw [qh]
  have h1 := ok.labels
  have h2 := sz.shelves
  have h3 := ok.accounts
  exact yT (B := ze4 zez zaL zby zaM qG zcd) (i0 := 0) (n := s.2.1.length) (by unfold Go.maxLen; omega) (Nat.zero_le _) (fun i => (s.2.1, (s.2.1.length : Int), i, (r, s, ()))) (fun k i _ h => by
    have hm : 12 ≤ Go.maxLen := by unfold Go.maxLen; omega
    have hz := sz.shelf _ (yl (d := za) h)
    simp only [ze4]
    have hbelow : zez ((r, s, ()), (i : Int), ()) = some (some fun z => vz (z.1, some (r, s, ()), some (i : Int), ()), ()) := rfl
    rw [ltT h, qu h, vT, hbelow, Option.bind_some, zUq (p := zAv r s i) (by omega) fun x _ => zVK hr s i x, zMo (p := ztz r s i) (by omega) fun x _ => zVL hr s i x, zVB (p := zty r s i) (by omega) fun x _ => zqR hr s i x]
    simp only [Option.bind_some, cond_true]
    unfold zC3
    grind) (fun k => by simp only [ze4]; rw [ltF]; rfl)
theorem zS2 {σ ρ : Type} {B : (σ → Option ρ) → σ → Option ρ} {i0 n : Nat} (hn : n ≤ Go.maxLen) (h0 : i0 ≤ n) {p : Nat → Bool} {fin bad : Option ρ} (st : Int → σ)
    (hin : ∀ k (i : Nat), i0 ≤ i → i < n → B k (st i) = bif p i then k (st (wI (i + 1))) else bad) (hout : ∀ k, B k (st n) = fin) (K : Nat) (hK : n - i0 < K) : iter B K (st i0) = bif qU p i0 (n - i0) then fin else bad := by
  have key : ∀ (m i fuel : Nat), i0 ≤ i → i + m = n → m < fuel → iter B fuel (st i) = bif qU p i m then fin else bad := by
    intro m
    induction m with
    | zero =>
      intro i fuel _ h1 h2
      obtain ⟨f, rfl⟩ : ∃ f, fuel = f + 1 := ⟨fuel - 1, by omega⟩
      obtain rfl : i = n := by omega
      exact hout _
    | succ m ih =>
      intro i fuel h1 h2 h3
      obtain ⟨f, rfl⟩ : ∃ f, fuel = f + 1 := ⟨fuel - 1, by omega⟩
      show B (iter B f) (st i) = _
      rw [hin _ i h1 (by omega), wI, zT6 (len := n) (by omega) hn, show ((i : Int) + 1) = ((i + 1 : Nat) : Int) by omega, ih (i + 1) f (by omega) (by omega) (by omega)]
      simp only [qU]
      cases p i <;> rfl
  exact key (n - i0) i0 K (Nat.le_refl _) (by omega) hK
def zC4 (r : zf) (x : zW) : Bool := (x.2.2.1 : Int) != 1 || zvf r x.2.2.2.1
def zHR (r : zf) (i : Int) (x : qr) : Bool := !x.1 || (zHm r x.2.1 i && (zvf r x.2.2.1 && zvf r x.2.2.2.1))
def zEp (r : zf) (x : zq) : Bool := !x.1 || (zvf r x.2.1 && zvf r x.2.2.1)
def zin (r : zf) (i : Int) (x : zm) : Bool := x.2.2.1.all (zC4 r) && (x.2.2.2.1.all (zHR r i) && x.2.2.2.2.1.all (zEp r))
theorem zUI (r : zf) (s : zr) (x : zW) : jo (x, some (r, s, ()), ()) = some (zC4 r x, ()) := by
  rw [qh]
  simp only [jo, zn8, zcm, Option.bind_some, zC4]
  grind
theorem zUJ {r : zf} (hr : yD r) (s : zr) (i : Int) (x : qr) : jp (x, some (r, s, ()), some i, ()) = some (zHR r i x, ()) := by
  rw [qh]
  simp only [jp, zn9, zcm, zIW hr, Option.bind_some, zHR]
  grind
theorem zUK (r : zf) (s : zr) (x : zq) : jq (x, some (r, s, ()), ()) = some (zEp r x, ()) := by
  rw [qh]
  simp only [jq, zoa, zcm, Option.bind_some, zEp]
  grind
theorem zN1 {r : zf} {s : zr} (hr : yD r) (ok : zsQ r) (sz : zoB r s) : zbz ((r, s, ()), ()) = some (qU (fun i => zin r (i : Int) (s.2.1.getD i za)) 0 s.2.1.length, ()) := by
  rw [qh]
  have h1 := ok.labels
  have h2 := sz.shelves
  have hm : 12 ≤ Go.maxLen := by unfold Go.maxLen; omega
  have step : ∀ k (i : Nat), i < s.2.1.length → jV jo qG jp jU jq jz k (s.2.1, (s.2.1.length : Int), (i : Int), (r, s, ())) = bif zin r (i : Int) (s.2.1.getD i za) then k (s.2.1, (s.2.1.length : Int), wI ((i : Int) + 1), (r, s, ())) else some (false, ()) := fun k i h => by
    have hz := sz.shelf _ (yl (d := za) h)
    simp only [jV]
    rw [ltT h, qu h, vT, zMo (p := zC4 r) (by omega) fun x _ => zUI r s x, zUr (p := zHR r i) (by omega) fun x _ => zUJ hr s i x, zSR (p := zEp r) (by omega) fun x _ => zUK r s x]
    simp only [Option.bind_some, cond_true]
    unfold zin
    grind
  have hend : ∀ k, jV jo qG jp jU jq jz k (s.2.1, (s.2.1.length : Int), (s.2.1.length : Int), (r, s, ())) = some (true, ()) := fun k => by simp only [jV]; rw [ltF]; rfl
  have first : zbz ((r, s, ()), ()) = zK4 (jV jo qG jp jU jq jz) (jV jo qG jp jU jq jz) K0 (s.2.1, (s.2.1.length : Int), ((0 : Nat) : Int), (r, s, ())) := rfl
  have hw : wI (((0 : Nat) : Int) + 1) = ((1 : Nat) : Int) := rfl
  obtain ⟨m, hK⟩ := zHI
  have hf : ∀ (B0 B1 : (y3 → Option (Bool × Unit)) → y3 → Option (Bool × Unit)) (x : y3), zK4 B0 B1 K0 x = B0 (iter B1 (m + 7)) x := fun B0 B1 x => by rw [hK]; rfl
  have rest := zS2 (B := jV jo qG jp jU jq jz) (i0 := 1) (n := s.2.1.length) (by unfold Go.maxLen; omega) (by omega) (p := fun i => zin r (i : Int) (s.2.1.getD i za)) (fun i => (s.2.1, (s.2.1.length : Int), i, (r, s, ()))) (fun k i _ h => step k i h) hend (m + 7) (by unfold K0 Go.maxLen at hK; omega)
  rw [hf] at first
  rw [first, step _ 0 (by omega), hw]
  refine (congrArg (fun z => bif zin r ((0 : Nat) : Int) (s.2.1.getD 0 za) then z else some (false, ())) rest).trans ?_
  obtain ⟨n, hn⟩ : ∃ n, s.2.1.length = n + 1 := ⟨s.2.1.length - 1, by omega⟩
  rw [hn]
  simp only [qU, Nat.add_sub_cancel]
  cases zin r ((0 : Nat) : Int) (s.2.1.getD 0 za) <;> rfl
theorem zRU {l : List zq} {g : zq × Unit → Option (Bool × Unit)} {p : zq → Bool} (hg : ∀ x, g (x, ()) = some (p x, ())) (z : Int) : qI (some (l, some g, ()), z, ()) = some (decide (0 ≤ z ∧ z < (l.length : Int)) && p (l.getD z.toNat qZ), ()) := by
  by_cases h : 0 ≤ z ∧ z < (l.length : Int)
  · obtain ⟨n, rfl⟩ := Int.eq_ofNat_of_zero_le h.1
    rw [zIU hg (by omega), decide_eq_true h, Bool.true_and, Int.toNat_natCast]
  · rw [decide_eq_false h, Bool.false_and]
    simp only [qI, zje, zHl, Option.bind_some, cond_true]
    grind
theorem zMC {α : Type} {p : α → Bool} (d : α) (L : List α) (q : Int → Bool) : ∀ (l : List α) (i : Nat), (∀ j, j < l.length → L.getD (i + j) d = l.getD j d) → (jA p i l).all q = qU (fun j => !p (L.getD j d) || q (j : Int)) i l.length
  | [], _, _ => rfl
  | x :: l, i, h => by
    have ih := zMC (p := p) d L q l (i + 1) fun j hj => by
      have := h (j + 1) (by simp; omega)
      rw [show i + 1 + j = i + (j + 1) by omega, this]; rfl
    have h0 : L.getD i d = x := h 0 (by simp)
    simp only [jA, List.length_cons, qU, h0]
    rw [← ih]
    cases p x <;> simp
def zy6 (x : zm) (j : Nat) (t : zW) : Bool := (t.2.2.1 : Int) != 3 || (decide (0 ≤ t.2.2.2.1 ∧ t.2.2.2.1 < (x.2.2.2.2.1.length : Int)) && ((x.2.2.2.2.1.getD (Int.toNat t.2.2.2.1) qZ).1 && ((x.2.2.2.2.1.getD (Int.toNat t.2.2.2.1) qZ).2.2.2.1.2.2.1 : Int) == (j : Int)))
def zoC (x : zm) (j : Int) (t : zq) : Bool := (decide (t.2.2.2.1.2.2.1 < (x.2.2.1.length : Int)) && decide (t.2.2.2.2.1.2.2.1 < (x.2.2.1.length : Int))) && (decide (t.2.2.2.1.2.2.1 < 0) || (((x.2.2.1.getD (Int.toNat t.2.2.2.1.2.2.1) vE).2.2.1 : Int) == 3 && ((x.2.2.1.getD (Int.toNat t.2.2.2.1.2.2.1) vE).2.2.2.1 : Int) == j))
def zy7 (x : zm) : Bool := qU (fun j => zy6 x j (x.2.2.1.getD j vE)) 0 (x.2.2.1.length - 0) && qU (fun j => !(x.2.2.2.2.1.getD j qZ).1 || zoC x (j : Int) (x.2.2.2.2.1.getD j qZ)) 0 x.2.2.2.2.1.length
theorem zAw (x : zq) : vc (x, ()) = some (x.1, ()) := by
  rw [qh]; rfl
theorem zPJ {r : zf} {s : zr} (ok : zsQ r) (sz : zoB r s) : zeB ((r, s, ()), ()) = some (qU (fun i => zy7 (s.2.1.getD i za)) 0 (s.2.1.length - 0), ()) := by
  rw [qh]
  have h1 := ok.labels
  have h2 := sz.shelves
  have hm : 12 ≤ Go.maxLen := by unfold Go.maxLen; omega
  have hlm : 12 ≤ lim := by unfold lim; omega
  have l2 : ∀ k0 (i : Nat) (x : zm), x.2.2.2.2.1.length ≤ 12 → ze8 K0 k0 (s.2.1, (s.2.1.length : Int), (i : Int), jA (fun t : zq => t.1) 0 x.2.2.2.2.1, ((jA (fun t : zq => t.1) 0 x.2.2.2.2.1).length : Int), 0, x) = bif qU (fun j => !(x.2.2.2.2.1.getD j qZ).1 || zoC x (j : Int) (x.2.2.2.2.1.getD j qZ)) 0 x.2.2.2.2.1.length then k0 (s.2.1, (s.2.1.length : Int), wI ((i : Int) + 1)) else some (false, ()) := fun k0 i x hx => by
    have hsl := zv1 (p := fun t : zq => t.1) x.2.2.2.2.1 0
    have hsm := zv2 (p := fun t : zq => t.1) x.2.2.2.2.1 0
    have := zQA (B := fun k2 => ze7 k0 k2) (l := jA (fun t : zq => t.1) 0 x.2.2.2.2.1) (0 : Int) (p := fun z => zoC x z (x.2.2.2.2.1.getD z.toNat qZ)) (fin := k0 (s.2.1, (s.2.1.length : Int), wI ((i : Int) + 1))) (bad := some (false, ())) (fun j => (s.2.1, (s.2.1.length : Int), (i : Int), jA (fun t : zq => t.1) 0 x.2.2.2.2.1, ((jA (fun t : zq => t.1) 0 x.2.2.2.2.1).length : Int), j, x)) (by omega) (fun k j z hj hz hmem => by
      obtain ⟨n, rfl, -, hn⟩ := hsm z hmem
      simp only [ze7]
      rw [ltT hj, qu hj, vT, hz, qu (by omega), qu (by omega), Int.toNat_natCast]
      simp only [cond_true, zoC, neI]
      by_cases ha : (x.2.2.2.2.1.getD n qZ).2.2.2.1.2.2.1 < (x.2.2.1.length : Int)
      · by_cases hb : 0 ≤ (x.2.2.2.2.1.getD n qZ).2.2.2.1.2.2.1
        · rw [ixR ⟨hb, ha⟩, ixR ⟨hb, ha⟩]
          grind
        · grind
      · grind) (fun k => by simp only [ze7]; rw [ltF]; rfl)
    refine this.trans ?_
    rw [zMC (p := fun t : zq => t.1) qZ x.2.2.2.2.1 (fun z => zoC x z (x.2.2.2.2.1.getD z.toNat qZ)) x.2.2.2.2.1 0 fun j _ => by rw [Nat.zero_add]]
    simp only [Int.toNat_natCast]
  have l1 : ∀ k0 (i : Nat) (x : zm), x.2.2.1.length ≤ 12 → x.2.2.2.2.1.length ≤ 12 → ze9 qI jf K0 k0 (some (x.2.2.2.2.1, some vc, ()), s.2.1, (s.2.1.length : Int), (i : Int), x.2.2.1, (x.2.2.1.length : Int), 0, x) = bif zy7 x then k0 (s.2.1, (s.2.1.length : Int), wI ((i : Int) + 1)) else some (false, ()) := fun k0 i x hx hx2 => by
    have := yT (B := fun k1 => zcf qI jf (ze8 K0 k0) k0 k1) (i0 := 0) (n := x.2.2.1.length) (p := fun j => zy6 x j (x.2.2.1.getD j vE)) (fin := bif qU (fun j => !(x.2.2.2.2.1.getD j qZ).1 || zoC x (j : Int) (x.2.2.2.2.1.getD j qZ)) 0 x.2.2.2.2.1.length then k0 (s.2.1, (s.2.1.length : Int), wI ((i : Int) + 1)) else some (false, ())) (bad := some (false, ())) (by omega) (Nat.zero_le _) (fun j => (some (x.2.2.2.2.1, some vc, ()), s.2.1, (s.2.1.length : Int), (i : Int), x.2.2.1, (x.2.2.1.length : Int), j, x)) (fun k j _ hj => by
      simp only [zcf]
      rw [ltT hj, qu hj, vT, zRU zAw]
      simp only [cond_true, Option.bind_some, zy6, neI]
      by_cases ha : 0 ≤ (x.2.2.1.getD j vE).2.2.2.1 ∧ (x.2.2.1.getD j vE).2.2.2.1 < (x.2.2.2.2.1.length : Int)
      · rw [ixR ha]
        grind
      · grind) (fun k => by
      simp only [zcf]
      rw [ltF, zFj (by omega) zAw, Option.bind_some]
      exact l2 k0 i x hx2)
    refine this.trans ?_
    unfold zy7
    cases qU (fun j => zy6 x j (x.2.2.1.getD j vE)) 0 (x.2.2.1.length - 0) <;> rfl
  exact yT (B := fun k0 => zcg jt vc (ze9 qI jf K0 k0) k0) (i0 := 0) (n := s.2.1.length) (by omega) (Nat.zero_le _) (fun i => (s.2.1, (s.2.1.length : Int), i)) (fun k i _ h => by
    have hz := sz.shelf _ (yl (d := za) h)
    simp only [zcg]
    have hq : jt ((s.2.1.getD i za).2.2.2.2.1, some vc, ()) = some (some ((s.2.1.getD i za).2.2.2.2.1, some vc, ()), ()) := by
      simp only [jt, zhM, zFh (show (s.2.1.getD i za).2.2.2.2.1.length ≤ lim by omega), Option.bind_some]
      rfl
    rw [ltT h, qu h, vT, hq, Option.bind_some]
    exact l1 k i _ (by omega) (by omega)) (fun k => by simp only [zcg]; rw [ltF]; rfl)
end Go.Proofs.YtaokpakfhdeiiaaGreatDoor
end
section
namespace Go.Proofs.YtaokpakfhdeiiaaGreatDoor
open Go.Ev
set_option linter.unusedVariables false
set_option linter.unusedSimpArgs false
def zRV (r : zf) (s : zr) (i : Int) (x : zm) : Bool := zC3 r s i x && (zin r i x && zy7 x)
theorem zRW {α : Type} {d : α} {l : List α} {p : α → Bool} : l.all p = true ↔ ∀ j, j < l.length → p (l.getD j d) = true := by
  rw [List.all_eq_true]
  constructor
  · exact fun h j hj => h _ (yl hj)
  · intro h x hx
    obtain ⟨i, hi, rfl⟩ := List.mem_iff_getElem.1 hx
    have := h i hi
    simpa [List.getD, hi] using this
end Go.Proofs.YtaokpakfhdeiiaaGreatDoor
end
section
namespace Go.Proofs.YtaokpakfhdeiiaaGreatDoor
open Go.Ev
set_option linter.unusedVariables false
set_option linter.unusedSimpArgs false
def vf : List Int → Int
  | [] => 0
  | x :: l => x + vf l
theorem zKq : ∀ (l m : List Int), vf (l ++ m) = vf l + vf m
  | [], m => by simp [vf]
  | x :: l, m => by simp only [List.cons_append, vf, zKq l m]; omega
theorem zEq : ∀ {l : List Int}, (∀ x ∈ l, 0 ≤ x) → 0 ≤ vf l
  | [], _ => Int.le_refl 0
  | x :: l, h => by
    have h1 := h x (by simp)
    have h2 := zEq (l := l) fun y hy => h y (by simp [hy])
    simp only [vf]; omega
theorem zgZ {α : Type} {g : α → Int} {l : List α} (h : ∀ x ∈ l, 0 ≤ g x) : 0 ≤ vf (l.map g) := zEq fun x hx => by
  obtain ⟨y, hy, rfl⟩ := List.mem_map.1 hx
  exact h y hy
def zBS (n : Int) : Int × Int × Unit := bif decide (n > M62) then (0, 7, ()) else (n, 0, ())
theorem zoD {n : Int} (h : n > M62) : zBS n = (0, 7, ()) := by unfold zBS; rw [decide_eq_true h]; rfl
theorem zwd {n : Int} (h : n ≤ M62) : zBS n = (n, 0, ()) := by unfold zBS; rw [decide_eq_false (by omega)]; rfl
theorem zy8 : ∀ (l : List Int) (a : Int), a ≤ M62 → (∀ x ∈ l, 0 ≤ x) → zy3 a l = zBS (a + vf l)
  | [], a, h, _ => by simp only [zy3, vf, Int.add_zero]; exact (zwd h).symm
  | x :: l, a, h, hp => by
    have h2 := zEq (l := l) fun y hy => hp y (by simp [hy])
    simp only [zy3, vf]
    by_cases hb : a + x > M62
    · rw [decide_eq_true hb, zoD (by omega)]; rfl
    · rw [decide_eq_false hb, cond_false, zy8 l (a + x) (by omega) fun y hy => hp y (by simp [hy])]
      congr 1; omega
theorem zBT {α : Type} (p : α → Bool) (g : α → Int) : ∀ l : List α, vf ((l.filter p).map g) = vf (l.map fun x => bif p x then g x else 0)
  | [] => rfl
  | x :: l => by
    have ih := zBT p g l
    rw [zv9]
    simp only [List.map_cons, vf]
    cases hp : p x with
    | true => simp only [cond_true, List.map_cons, vf, ih]
    | false => simp only [cond_false, ih]; omega
def zy9 (x : zp) : Int := bif (x.2.2.2.1 : Int) == 2 then x.2.2.2.2.1 else x.2.2.2.2.2.1
theorem zWt (x : zp) : zcy (x, ()) = some (zy9 x, ()) := by
  simp only [zcy, zu3, zy9]; grind
def zfk (c : Int) (x : zp) : Int := bif x.1 && zy9 x == c then x.2.2.2.2.2.2.2.2.1 else 0
def zKr (l : List zp) (c : Int) : Int × Int × Unit := bif yQ c then zBS (vf (l.map (zfk c))) else (0, 1, ())
theorem zUL (l : List zp) (hl : l.length ≤ lim) : zkG (l, ()) = some (some (l, some zgM, ()), ()) := by
  simp only [zkG, zD7, zdL, zob, zPx hl, Option.bind_some]
  rfl
theorem zRX (x : zp) : zgM (x, ()) = some (x.1, ()) := by
  rw [qh]; rfl
theorem zS3 {l : List zp} (hl : l.length ≤ lim) (h : ∀ x ∈ l, zwa x) (c : Int) : zil (l, c, ()) = some (zKr l c) := by
  have hl' : l.length ≤ Go.maxLen := by unfold lim at hl; unfold Go.maxLen; omega
  simp only [zil, zsZ, zdU, Option.bind_some]
  unfold zKr
  cases hc : yQ c with
  | false => rfl
  | true =>
    have hslots : zgN (l, ()) = some (jA (fun x : zp => x.1) 0 l, ()) := by
      simp only [zgN, zyD]
      rw [zUL l hl, Option.bind_some, zPC hl zRX, Option.bind_some]
    simp only [cond_true]
    rw [hslots, Option.bind_some]
    have hsl := zv1 (p := fun x : zp => x.1) l 0
    have hsm := zv2 (p := fun x : zp => x.1) l 0
    have hloop := zhU (B := zh8 zcy jy) (l := jA (fun x : zp => x.1) 0 l) (α := List Int) (0 : Int) (fun i o => o.length ≤ i ∧ ∀ x ∈ o, 0 ≤ x ∧ x < U64) (fun i o => (l, c, jA (fun x : zp => x.1) 0 l, ((jA (fun x : zp => x.1) 0 l).length : Int), i, o))
      (fun rest o => some (zy3 0 (o ++ (rest.filter fun z => zy9 (l.getD z.toNat jm) == c).map fun z => (l.getD z.toNat jm).2.2.2.2.2.2.2.2.1))) (by omega) (fun k i x rest o hi hI hx hm hr hk => by
        simp only [zh8]
        obtain ⟨j, rfl, -, hj⟩ := hsm x hm
        rw [ltT hi, qu hi, vT, hx, qu (by omega), qu (by omega), Int.toNat_natCast, set1, zWt]
        have hxx := (h (l.getD j jm) (yl (by omega))).held
        simp only [cond_true, zv9, Int.toNat_natCast, Option.bind_some]
        rw [decide_eq_true (by simp; omega)]
        simp only [cond_true]
        cases hq : zy9 (l.getD j jm) == c with
        | false =>
          exact hk o ⟨by omega, hI.2⟩
        | true =>
          simp only [cond_true, List.map_cons, Int.toNat_natCast]
          refine (hk _ ⟨by simp; omega, fun x hx => ?_⟩).trans ?_
          · rcases List.mem_append.1 hx with hx | hx
            · exact hI.2 x hx
            · rcases List.mem_singleton.1 hx with rfl
              exact hxx
          · rw [List.append_assoc]; rfl) (fun k o hI => by
        simp only [zh8]
        rw [ltF]
        simp only [cond_false]
        rw [zv0 (by omega) hI.2, List.filter_nil, List.map_nil, List.append_nil]
        rfl) [] ⟨Nat.le_refl _, fun x hx => by cases hx⟩
    refine hloop.trans ?_
    rw [List.nil_append, zve (q := fun x : zp => zy9 x == c) (g := fun x : zp => x.2.2.2.2.2.2.2.2.1) jm l l 0 fun j _ => by rw [Nat.zero_add]]
    rw [zy8 _ 0 (by unfold M62; omega) fun x hx => ?_, zBT, Int.zero_add]
    · rfl
    · obtain ⟨y, hy, rfl⟩ := List.mem_map.1 hx
      exact (h y (List.mem_filter.1 hy).1).held.1
theorem zPK {x : zp} (h : zwa x) (c : Int) : zjl (zfk c x) := by
  unfold zfk
  cases x.1 && zy9 x == c with
  | true => exact h.held
  | false => exact (⟨Int.le_refl 0, by unfold U64; decide⟩ : zjl 0)
def zkQ (c : Int) (x : zq) : Int := bif x.1 && (x.2.2.2.1.1 : Int) == c then x.2.2.2.1.2.1 else 0
theorem zRY {l : List zq} (h : ∀ x ∈ l, zHN x) {c : Int} (hc : yQ c = true) : zAt l c = zBS (vf (l.map (zkQ c))) := by
  unfold zAt
  rw [hc, cond_true, zy8 _ 0 (by unfold M62; omega) fun x hx => ?_, zBT, Int.zero_add]
  · rfl
  · obtain ⟨y, hy, rfl⟩ := List.mem_map.1 hx
    exact (h y (List.mem_filter.1 hy).1).1.1
theorem zPL {x : zq} (h : zHN x) (c : Int) : zjl (zkQ c x) := by
  unfold zkQ
  cases x.1 && (x.2.2.2.1.1 : Int) == c with
  | true => exact h.1
  | false => exact (⟨Int.le_refl 0, by unfold U64; decide⟩ : zjl 0)
def zHS (c : Int) (a : List Int) : Int := a.getD c.toNat 0
def zg1 (c : Int) (x : zm) : Int := vf (x.2.2.2.2.1.map (zkQ c)) + vf (x.2.2.2.2.2.1.map (zHS c))
theorem zMD {x : zm} (h : zC2 x) (c : Int) : 0 ≤ vf (x.2.2.2.2.1.map (zkQ c)) := zgZ fun y hy => (zPL (h.trades y hy) c).1
theorem zME {x : zm} (h : zC2 x) (c : Int) : 0 ≤ vf (x.2.2.2.2.2.1.map (zHS c)) := zgZ fun y hy => (zy5 (h.purses y hy) _).1
theorem zFl {x : zm} (h : zC2 x) (c : Int) : 0 ≤ zg1 c x := by
  have := zMD h c
  have := zME h c
  unfold zg1; omega
def zs1 (s : zr) (c : Int) : Int × Int × Unit := bif yQ c then zBS (vf (s.2.2.2.1.map (zfk c)) + vf (s.2.1.map (zg1 c))) else (0, 1, ())
def wts : List zm → Nat
  | [] => 0
  | x :: l => 1 + x.2.2.2.2.2.1.length + wts l
structure zPX (s : zr) : Prop where
  shelves : s.2.1.length ≤ 2000000
  orders : s.2.2.2.1.length ≤ 2000000
  shelf : ∀ x ∈ s.2.1, x.2.2.2.2.1.length ≤ 2000000 ∧ x.2.2.2.2.2.1.length ≤ 2000000
  all : wts s.2.1 ≤ 2000000
theorem zWu {l : List zm} {i : Nat} {x : zm} {rest : List zm} (hi : i < l.length) (hx : l.getD i za = x) (hr : l.drop (i + 1) = rest) : wts (l.drop i) = 1 + x.2.2.2.2.2.1.length + wts rest := by
  rw [zeO za hi, hx, hr]; rfl
theorem zVM {n : Nat} : ∀ {l : List zm}, (∀ x ∈ l, x.2.2.2.2.2.1.length ≤ n) → wts l ≤ l.length * (n + 1)
  | [], _ => Nat.zero_le _
  | x :: l, h => by
    have h1 := h x (by simp)
    have h2 := zVM (l := l) fun y hy => h y (by simp [hy])
    simp only [wts, List.length_cons, Nat.add_mul]
    omega
theorem zOz {c : Int} (hc : yQ c = true) : 0 ≤ c ∧ c < ((4 : Nat) : Int) := by
  simp only [yQ, decide_eq_true_eq] at hc; omega
theorem zHn {s : zr} (hs : zoA s) (sh : zPX s) (c : Int) : qO (s, c, ()) = some (zs1 s c) := by
  have hlm : 10000000 ≤ lim := by unfold lim; omega
  have hmm : 10000000 ≤ Go.maxLen := by unfold Go.maxLen; omega
  have hsh := sh.shelves
  have hso := sh.orders
  simp only [qO, zqB, zdU, Option.bind_some]
  rw [zS3 (by omega) hs.orders]
  unfold zs1 zKr
  cases hc : yQ c with
  | false => rfl
  | true =>
    have hcin := zOz hc
    simp only [cond_true, Option.bind_some]
    have hbook : 0 ≤ vf (s.2.2.2.1.map (zfk c)) := zgZ fun y hy => (zPK (hs.orders y hy) c).1
    have hall : 0 ≤ vf (s.2.1.map (zg1 c)) := zgZ fun y hy => zFl (hs.shelves y hy) c
    have inner : ∀ k0 (i : Nat) (x : zm) (o : List Int), x.2.2.2.2.2.1.length ≤ 2000000 → o.length ≤ 2000001 → zgS K0 k0 (c, s.2.1, (s.2.1.length : Int), (i : Int), x.2.2.2.2.2.1, (x.2.2.2.2.2.1.length : Int), 0, o) = k0 (c, s.2.1, (s.2.1.length : Int), wI ((i : Int) + 1), o ++ x.2.2.2.2.2.1.map (zHS c)) := fun k0 i x o hx ho =>
      zhU (B := fun k1 => zgR k0 k1) (l := x.2.2.2.2.2.1) (α := List Int) (zb (Ty.arr 4 tU)) (fun j o' => o'.length ≤ 2000001 + j) (fun j o' => (c, s.2.1, (s.2.1.length : Int), (i : Int), x.2.2.2.2.2.1, (x.2.2.2.2.2.1.length : Int), j, o')) (fun rest o' => k0 (c, s.2.1, (s.2.1.length : Int), wI ((i : Int) + 1), o' ++ rest.map (zHS c))) (by omega) (fun k j a rest o' hj hI ha hm hr hk => by
        simp only [zgR]
        have h4 : ((4 : Int)) = ((4 : Nat) : Int) := rfl
        rw [ltT hj, qu hj, Int.toNat_natCast, ha, set1, decide_eq_true (by simp; omega)]
        simp only [cond_true]
        refine Eq.trans (ixR hcin) ?_
        refine (hk _ (by simp; omega)).trans ?_
        rw [List.append_assoc]; rfl) (fun k o' _ => by
        simp only [zgR]; rw [ltF]
        simp only [cond_false, List.map_nil, List.append_nil]) o ho
    by_cases hb : vf (s.2.2.2.1.map (zfk c)) > M62
    · rw [zoD hb, zoD (by omega)]; rfl
    · rw [zwd (by omega)]
      have hloop := zhU (B := fun k0 => zdm zdN jy (zgS K0 k0) k0) (l := s.2.1) (α := List Int) za (fun i o => o.length + wts (s.2.1.drop i) ≤ 2000001 ∧ ∀ x ∈ o, 0 ≤ x ∧ x < U64) (fun i o => (c, s.2.1, (s.2.1.length : Int), i, o)) (fun rest o => some (zBS (vf o + vf (rest.map (zg1 c))))) (by omega) (fun k i x rest o hi hI hx hm hr hk => by
        simp only [zdm]
        have hin := hs.shelves x hm
        have hlen := sh.shelf x hm
        have hw := zWu hi hx hr
        have hw2 := hI.1
        rw [hw] at hw2
        have h1 := zMD hin c
        have h2 := zME hin c
        have ho : 0 ≤ vf o := zEq fun y hy => (hI.2 y hy).1
        have hrest : 0 ≤ vf (rest.map (zg1 c)) := zgZ fun y hy => zFl (hs.shelves y (by rw [← hr] at hy; exact List.mem_of_mem_drop hy)) c
        rw [ltT hi, qu hi, vT, hx, zRM (by omega) hin.trades, zRY hin.trades hc]
        simp only [cond_true, Option.bind_some, List.map_cons, vf, zg1]
        by_cases hb : vf (x.2.2.2.2.1.map (zkQ c)) > M62
        · rw [zoD hb, zoD (by omega)]; rfl
        · rw [zwd (by omega), set1, inner k i x _ (by omega) (by simp; omega)]
          rw [decide_eq_true (by simp; omega)]
          simp only [bne_self_eq_false, cond_true, cond_false]
          refine (hk _ ⟨by rw [hr]; simp; omega, fun y hy => ?_⟩).trans ?_
          · rcases List.mem_append.1 hy with hy | hy
            · rcases List.mem_append.1 hy with hy | hy
              · exact hI.2 y hy
              · rcases List.mem_singleton.1 hy with rfl
                unfold M62 at hb; unfold U64; omega
            · obtain ⟨a, ha, rfl⟩ := List.mem_map.1 hy
              exact zy5 (hin.purses a ha) _
          · rw [zKq, zKq]
            simp only [vf]
            congr 2; omega) (fun k o hI => by
        simp only [zdm]
        rw [ltF]
        simp only [cond_false]
        rw [zv0 (by omega) hI.2, zy8 o 0 (by unfold M62; omega) fun y hy => (hI.2 y hy).1]
        simp only [List.map_nil, vf, Int.add_zero, Int.zero_add]
        rfl) [vf (s.2.2.2.1.map (zfk c))] ⟨by have := sh.all; simp; omega, fun y hy => by
          rcases List.mem_singleton.1 hy with rfl
          unfold M62 at hb; unfold U64; omega⟩
      refine hloop.trans ?_
      simp only [vf, Int.add_zero]
end Go.Proofs.YtaokpakfhdeiiaaGreatDoor
end
section
namespace Go.Proofs.YtaokpakfhdeiiaaGreatDoor
open Go.Ev
set_option linter.unusedVariables false
set_option linter.unusedSimpArgs false
def zRZ (a b : Int) : Int × Int × Unit := bif decide (a < b) then (0, 6, ()) else (a - b, 0, ())
theorem zR0 {a b : Int} (ha : 0 ≤ a ∧ a ≤ M62) (hb : 0 ≤ b ∧ b ≤ M62) : zgW (a, b, ()) = some (zRZ a b) := by
  simp only [zgW, zyG, zAx, zC8, zRZ, cond_false]
  unfold M62 at *
  have h2 : b ≤ a → (a - b) % 18446744073709551616 = a - b := fun h => by omega
  grind
def zHo (f : zm → List Int) (s : zr) (c : Int) : Int := vf (s.2.1.map fun x => zHS c (f x))
theorem zR1 {f : zm → List Int} {s : zr} (h : ∀ x ∈ s.2.1, zEm (f x)) (c : Int) : 0 ≤ zHo f s c := zgZ fun y hy => (zy5 (h y hy) _).1
theorem zR2 {s : zr} (sh : zPX s) {f : zm → List Int} {g : zm × Unit → Option (List Int × Unit)} (hg : ∀ x, g (x, ()) = some (f x, ())) (h : ∀ x ∈ s.2.1, zEm (f x)) {c : Int} (hc : yQ c = true) : zgT (s, c, some g, ()) = some (zBS (zHo f s c)) := by
  have hlm : 10000000 ≤ lim := by unfold lim; omega
  have hmm : 10000000 ≤ Go.maxLen := by unfold Go.maxLen; omega
  have hsh := sh.shelves
  have hcin := zOz hc
  have hloop := zhU (B := zdP jy) (l := s.2.1) (α := List Int) za (fun i o => o.length ≤ i ∧ ∀ x ∈ o, 0 ≤ x ∧ x < U64) (fun i o => (c, some g, s.2.1, (s.2.1.length : Int), i, o)) (fun rest o => some (zy3 0 (o ++ rest.map fun x => zHS c (f x)))) (by omega) (fun k i x rest o hi hI hx hm hr hk => by
    simp only [zdP]
    rw [ltT hi, qu hi, vT, hx]
    simp only [cond_true, Option.bind_some]
    rw [hg]
    simp only [Option.bind_some]
    refine Eq.trans (ixR hcin) ?_
    rw [set1, decide_eq_true (by simp; omega)]
    simp only [cond_true]
    refine (hk _ ⟨by simp; omega, fun y hy => ?_⟩).trans ?_
    · rcases List.mem_append.1 hy with hy | hy
      · exact hI.2 y hy
      · rcases List.mem_singleton.1 hy with rfl
        exact zy5 (h x hm) _
    · rw [List.append_assoc]; rfl) (fun k o hI => by
    simp only [zdP]
    rw [ltF]
    simp only [cond_false]
    rw [zv0 (by omega) hI.2, List.map_nil, List.append_nil]
    rfl) [] ⟨Nat.le_refl _, fun x hx => by cases hx⟩
  refine Eq.trans ?_ (hloop.trans ?_)
  · rfl
  · rw [List.nil_append, zy8 _ 0 (by unfold M62; omega) fun y hy => ?_, Int.zero_add]
    · rfl
    · obtain ⟨z, hz, rfl⟩ := List.mem_map.1 hy
      exact (zy5 (h z hz) _).1
def zEr (s : zr) (c : Int) : Int × Int × Unit := bif yQ c then bif decide (zHo (fun x => x.2.2.2.2.2.2.2.1) s c > M62) then (0, 7, ()) else bif decide (zHo (fun x => x.2.2.2.2.2.2.2.2.1) s c > M62) then (0, 7, ()) else zRZ (zHo (fun x => x.2.2.2.2.2.2.2.1) s c) (zHo (fun x => x.2.2.2.2.2.2.2.2.1) s c) else (0, 1, ())
theorem zHp {s : zr} (hs : zoA s) (sh : zPX s) (c : Int) : qP (s, c, ()) = some (zEr s c) := by
  simp only [qP, zyI, zdU, Option.bind_some]
  unfold zEr
  cases hc : yQ c with
  | false => rfl
  | true =>
    have p1 := zR1 (f := fun x => x.2.2.2.2.2.2.2.1) (fun x hx => (hs.shelves x hx).made) c
    have p2 := zR1 (f := fun x => x.2.2.2.2.2.2.2.2.1) (fun x hx => (hs.shelves x hx).spent) c
    rw [zR2 sh (f := fun x => x.2.2.2.2.2.2.2.1) (g := zgU) (fun x => rfl) (fun x hx => (hs.shelves x hx).made) hc, zR2 sh (f := fun x => x.2.2.2.2.2.2.2.2.1) (g := zgV) (fun x => rfl) (fun x hx => (hs.shelves x hx).spent) hc]
    simp only [cond_true, Option.bind_some]
    generalize zHo (fun x => x.2.2.2.2.2.2.2.1) s c = a at *
    generalize zHo (fun x => x.2.2.2.2.2.2.2.2.1) s c = b at *
    by_cases h1 : a > M62
    · rw [zoD h1, decide_eq_true h1]; rfl
    · rw [zwd (by omega), decide_eq_false h1]
      by_cases h2 : b > M62
      · rw [zoD h2, decide_eq_true h2]; rfl
      · rw [zwd (by omega), decide_eq_false h2]
        simp only [bne_self_eq_false, cond_false]
        rw [zR0 (by omega) (by omega)]; rfl
end Go.Proofs.YtaokpakfhdeiiaaGreatDoor
end
section
namespace Go.Proofs.YtaokpakfhdeiiaaGreatDoor
open Go.Ev
set_option linter.unusedVariables false
set_option linter.unusedSimpArgs false
def zEs (r : zf) (s : zr) (c i : Nat) : Bool := !decide (((s.2.1.getD i za).2.2.2.2.2.2.2.1.getD c 0 : Int) > (r.2.2.2.2.1.getD i zbf).2.2.2.2.2.1)
def zza (s : zr) (c : Int) : Bool := (zs1 s c).2.1 == 0 && ((zEr s c).2.1 == 0 && (zs1 s c).1 == (zEr s c).1)
def zib (r : zf) (s : zr) : Bool := zbm r && (ztw r s && (zwc r s && (qU (fun i => (zfj (s.2.1.getD i za) && zRV r s i (s.2.1.getD i za)) && qU (fun c => zEs r s c i) 0 (4 - 0)) 0 (s.2.1.length - 0) && qU (fun c => zza s (c : Int)) 0 (4 - 0))))
theorem zVN {r : zf} {s : zr} (ok : zsQ r) (sz : zoB r s) : zPX s := by
  have h1 := sz.shelves
  have h2 := ok.labels
  have h3 := ok.accounts
  have h4 := sz.orders
  have h5 := zVM (n := 8) (l := s.2.1) fun x hx => by
    have := sz.shelf x hx
    omega
  refine ⟨by omega, by omega, fun x hx => ?_, by omega⟩
  have := sz.shelf x hx
  omega
theorem zPM {r : zf} {s : zr} (ok : zsQ r) (hs : zoA s) (sz : zoB r s) : zeD ((r, s, ()), ()) = some (qU (fun c => qU (fun i => zEs r s c i) 0 (s.2.1.length - 0) && zza s (c : Int)) 0 (4 - 0), ()) := by
  rw [qh]
  have hmm : 1000000 ≤ Go.maxLen := by unfold Go.maxLen; omega
  have sh := zVN ok sz
  have hsh : s.2.1.length ≤ 8 := by rw [sz.shelves]; exact ok.labels.2
  have h2 := sz.shelves
  have h3 := ok.quotas
  have inner : ∀ k0 (c : Nat), c < 4 → zfc qO qP K0 k0 ((c : Int), (c : Int), s.2.1, (s.2.1.length : Int), 0, (r, s, ())) = bif qU (fun i => zEs r s c i) 0 (s.2.1.length - 0) then bif zza s (c : Int) then k0 (wI ((c : Int) + 1), (r, s, ())) else some (false, ()) else some (false, ()) := fun k0 c hc =>
    yT (B := fun k1 => zfb qO qP k0 k1) (i0 := 0) (n := s.2.1.length) (by omega) (Nat.zero_le _) (fun i => ((c : Int), (c : Int), s.2.1, (s.2.1.length : Int), i, (r, s, ()))) (fun k i _ hi => by
      simp only [zfb]
      rw [ltT hi, qu hi, vT, Int.toNat_natCast]
      simp only [cond_true]
      refine Eq.trans (qu (n := 4) hc) ?_
      rw [qu (by omega), vT]
      unfold zEs
      grind) (fun k => by
      simp only [zfb]
      rw [ltF, zHn hs sh, zHp hs sh]
      simp only [Option.bind_some, cond_false, zza]
      generalize zs1 s (c : Int) = h
      generalize zEr s (c : Int) = m
      grind)
  exact yT (B := fun k0 => zfd (zfc qO qP K0 k0) k0) (i0 := 0) (n := 4) (by omega) (Nat.zero_le _) (fun c => (c, (r, s, ()))) (fun k c _ hc => by
    simp only [zfd]
    rw [decide_eq_true (by omega), cond_true]
    refine (inner k c hc).trans ?_
    cases qU (fun i => zEs r s c i) 0 (s.2.1.length - 0) <;> rfl) (fun k => rfl)
def zR3 (r : zf) (s : zr) : Bool := zbm r && (ztw r s && (s.2.1.all zfj && (zwc r s && (qU (fun i => zC3 r s (i : Int) (s.2.1.getD i za)) 0 (s.2.1.length - 0) && (qU (fun i => zin r (i : Int) (s.2.1.getD i za)) 0 s.2.1.length && (qU (fun i => zy7 (s.2.1.getD i za)) 0 (s.2.1.length - 0) && qU (fun c => qU (fun i => zEs r s c i) 0 (s.2.1.length - 0) && zza s (c : Int)) 0 (4 - 0)))))))
theorem zVO (r : zf) (s : zr) : zR3 r s = zib r s := by
  rw [Bool.eq_iff_iff]
  unfold zR3 zib zRV
  simp only [Bool.and_eq_true, zaA, @zRW zm za]
  constructor
  · rintro ⟨h1, h2, h3, h4, h5, h6, h7, h8⟩
    exact ⟨h1, h2, h4, fun i hi1 hi => ⟨⟨h3 i (by omega), h5 i hi1 hi, h6 i hi1 (by omega), h7 i hi1 hi⟩, fun c hc1 hc => (h8 c hc1 hc).1 i hi1 hi⟩, fun c hc1 hc => (h8 c hc1 hc).2⟩
  · rintro ⟨h1, h2, h4, h5, h6⟩
    exact ⟨h1, h2, fun i hi => (h5 i (by omega) (by omega)).1.1, h4, fun i h7 h8 => (h5 i h7 h8).1.2.1, fun i h7 h8 => (h5 i h7 (by omega)).1.2.2.1, fun i h7 h8 => (h5 i h7 h8).1.2.2.2, fun c h7 h8 => ⟨fun i h9 h10 => (h5 i h9 h10).2 c h7 h8, h6 c h7 h8⟩⟩
theorem zFm {r : zf} {s : zr} (hr : yD r) (hs : zoA s) : qM (r, s, ()) = some (zib r s, ()) := by
  rw [← zVO, qh]
  obtain ⟨m, hm⟩ := zHI
  have first : qM (r, s, ()) = iter zjf K0 (true, 7, 0, [some fun z => zcv ((r, s, ()), ()), some fun z => zcw ((r, s, ()), ()), some fun z => zbx ((r, s, ()), ()), some fun z => zeA ((r, s, ()), ()), some fun z => zbz ((r, s, ()), ()), some fun z => zeB ((r, s, ()), ()), some fun z => zeD ((r, s, ()), ())]) := rfl
  have hu : ∀ (f1 f2 f3 f4 f5 f6 f7 : Option (Bool × Unit)), iter zjf (m + 8) (true, 7, 0, [some fun z => f1, some fun z => f2, some fun z => f3, some fun z => f4, some fun z => f5, some fun z => f6, some fun z => f7]) =
    Option.bind f1 fun q => bif q.1 then Option.bind f2 fun q => bif q.1 then Option.bind f3 fun q => bif q.1 then Option.bind f4 fun q => bif q.1 then Option.bind f5 fun q => bif q.1 then Option.bind f6 fun q => bif q.1 then Option.bind f7 fun q => bif q.1 then some (true, ()) else some (false, ()) else some (false, ()) else some (false, ()) else some (false, ()) else some (false, ()) else some (false, ()) else some (false, ()) := fun f1 f2 f3 f4 f5 f6 f7 => by kernel_rfl
  rw [first, hm, hu, zPG hr s, Option.bind_some]
  unfold zR3
  cases hb : zbm r with
  | false => rfl
  | true =>
    cases hz : ztw r s with
    | false => rfl
    | true =>
      have ok := zkg hb
      have sz := zOy hb hz
      rw [zPH ok sz, zN0 hr hb hs sz, zPI hr ok sz, zN1 hr ok sz, zPJ ok sz, zPM ok hs sz]
      simp only [Option.bind_some, Bool.true_and, cond_true]
      generalize s.2.1.all zfj = c1
      generalize zwc r s = c2
      generalize qU (fun i => zC3 r s (i : Int) (s.2.1.getD i za)) 0 (s.2.1.length - 0) = c3
      generalize qU (fun i => zin r (i : Int) (s.2.1.getD i za)) 0 s.2.1.length = c4
      generalize qU (fun i => zy7 (s.2.1.getD i za)) 0 (s.2.1.length - 0) = c5
      generalize qU (fun c => qU (fun i => zEs r s c i) 0 (s.2.1.length - 0) && zza s (c : Int)) 0 (4 - 0) = c6
      cases c1 <;> cases c2 <;> cases c3 <;> cases c4 <;> cases c5 <;> cases c6 <;> rfl
end Go.Proofs.YtaokpakfhdeiiaaGreatDoor
end
section
namespace Go.Proofs.YtaokpakfhdeiiaaGreatDoor
open Go.Ev
set_option linter.unusedVariables false
set_option linter.unusedSimpArgs false
def cpy {α : Type} (x : List α × Unit) : Option (List α × Unit) := bif decide (List.length x.1 ≤ lim) then some (x.1, ()) else none
theorem zeF {τ : Ty} {f : List τ.I × Unit → Option (List τ.I × Unit)} (hf : ∀ l, f (l, ()) = bif List.isEmpty l then both (some ([], ())) (bif decide (List.length (List.replicate 0 (zb τ)) + List.length l ≤ lim) then some (List.replicate 0 (zb τ) ++ l, ()) else none) else bif decide (List.length (List.replicate 0 (zb τ)) + List.length l ≤ lim) then some (List.replicate 0 (zb τ) ++ l, ()) else none) : f = cpy := by
  funext ⟨l, u⟩
  cases u
  rw [hf]
  have e0 : List.length (List.replicate 0 (zb τ)) + List.length l = List.length l := by simp
  have e1 : List.replicate 0 (zb τ) ++ l = l := rfl
  rw [e0, e1]
  unfold cpy
  cases l with
  | nil =>
    have : decide (List.length ([] : List τ.I) ≤ lim) = true := decide_eq_true (Nat.zero_le _)
    rw [this]
    unfold both
    exact if_pos rfl
  | cons x l => rfl
theorem zVP : jX = cpy := zeF (τ := zv) fun _ => rfl
theorem zVQ : zbB = cpy := zeF (τ := zF) fun _ => rfl
theorem zW7 : zar = cpy := zeF (τ := tI) fun _ => rfl
theorem zWv : zch = cpy := zeF (τ := (Ty.sl tI)) fun _ => rfl
theorem zVR : zbC = cpy := zeF (τ := zl) fun _ => rfl
theorem zWw : zci = cpy := zeF (τ := je) fun _ => rfl
theorem zWx : zcj = cpy := zeF (τ := qq) fun _ => rfl
theorem zWy : zck = cpy := zeF (τ := qi) fun _ => rfl
theorem zWz : zcl = cpy := zeF (τ := qB) fun _ => rfl
theorem zVS : jW = cpy := zeF (τ := zI) fun _ => rfl
theorem zXC : zeE = cpy := zeF (τ := (Ty.arr 4 tU)) fun _ => rfl
theorem zW8 : zdn = cpy := zeF (τ := qf) fun _ => rfl
def zVT : ztI := zia cpy cpy cpy cpy (zjg cpy cpy cpy cpy cpy cpy cpy cpy cpy K0)
theorem zWA : zcz = zVT := by
  have h : zcz = zia jX zbB zar zch (zjg zar zbC zci zcj zck zcl jW zeE zdn K0) := rfl
  rw [h, zVP, zVQ, zW7, zWv, zVR, zWw, zWx, zWy, zWz, zVS, zXC, zW8]
  rfl
theorem zXD : zmF zeu zih qM qj zVT zgX qO qP zkO () = some (true, ()) := by kernel_rfl
theorem zTo : vR () = some (true, ()) := by
  have h : vR () = zmF zeu zih qM qj zcz zgX qO qP zkO () := rfl
  rw [h, zWA]
  exact zXD
end Go.Proofs.YtaokpakfhdeiiaaGreatDoor
end
section
namespace Go.Proofs.YtaokpakfhdeiiaaGreatDoor
open Go.Ev
set_option linter.unusedVariables false
set_option linter.unusedSimpArgs false
theorem wf_u64 {x : Int} (h : (Lit.int .u64 x).wf = true) : zjl x := by
  unfold Lit.wf at h
  simp only [Bool.and_eq_true, decide_eq_true_eq] at h
  have e1 : IntKind.min .u64 = 0 := by decide
  have e2 : IntKind.max .u64 = 18446744073709551615 := by decide
  rw [e1, e2] at h
  exact ⟨h.1, Int.lt_of_le_of_lt h.2 (by decide)⟩
theorem zW9 {r : zf} (h : InR zN r) : yD r := by
  obtain ⟨hl, h2⟩ := h
  refine ⟨fun a ha => ?_, h2.2.2.1.1, h2.2.2.2.1.1⟩
  have h3 : (Lit.int .u64 a.2.1).wf = true := (hl.2 a ha).2.1
  exact wf_u64 h3
theorem zR4 {a : List Int} (h : InR (.arr 4 tU) a) : zEm a := fun x hx => wf_u64 (h.2 x hx)
theorem zTp {x : zoL} (h : InR zg5 x) : zjl x.2.1 := wf_u64 (show (Lit.int .u64 x.2.1).wf = true from h.2.1)
theorem zXa {x : zm} (h : InR zl x) : zC2 x := by
  obtain ⟨-, -, -, -, h5, h6, -, h8, h9, -⟩ := h
  refine ⟨fun t ht => ?_, fun a ha => zR4 (h6.2 a ha), zR4 h8, zR4 h9⟩
  obtain ⟨-, -, -, g1, g2, -⟩ := h5.2 t ht
  exact ⟨zTp g1, zTp g2⟩
theorem zXb {x : zp} (h : InR zv x) : zwa x := by
  obtain ⟨-, -, -, -, -, -, h7, h8, h9, -⟩ := h
  exact ⟨wf_u64 h7, wf_u64 h8, wf_u64 h9⟩
theorem zXc {x : zK} (h : InR zF x) : zHP x := by
  obtain ⟨-, -, -, -, -, -, -, h8, h9, -⟩ := h
  exact ⟨wf_u64 h8, wf_u64 h9⟩
theorem zXd {s : zr} (h : InR qA s) : zoA s := by
  obtain ⟨-, h2, -, h4, h5, -⟩ := h
  exact ⟨fun x hx => zXa (h2.2 x hx), fun x hx => zXb (h4.2 x hx), fun x hx => zXc (h5.2 x hx)⟩
end Go.Proofs.YtaokpakfhdeiiaaGreatDoor
end
section
namespace Go.Proofs.YtaokpakfhdeiiaaGreatDoor
open Go.Ev
set_option linter.unusedVariables false
set_option linter.unusedSimpArgs false
theorem zN2 {r : zf} {s : zr} (hr : yD r) (hs : zoA s) (a : jC) : qj (r, s, a, ()) = some (zib r s && ztx s a, ()) := by
  rw [qh]
  simp only [qj, zsF, zFm hr hs, zvg, Option.bind_some]
  cases zib r s <;> cases ztx s a <;> rfl
end Go.Proofs.YtaokpakfhdeiiaaGreatDoor
end
section
namespace Go.Proofs.YtaokpakfhdeiiaaGreatDoor
open Go.Ev
set_option linter.unusedVariables false
noncomputable section
section
variable (zn : zhZ) (zu : zEH) (zj : zoN) (zk : zoO) (zh : zrq) (zy : zIF)
abbrev zA : Env := (Ej E0 false [18, 19, 20] [vU zn, zrr zu, zcq zj, zcr zk, zeR zh, zwu zy])
abbrev zc7 : Type := Int × Int × Bool × Bool × Bool × zf × zr × zm × zW
abbrev zEt : zc7 → St := fun (v10, v12, v14, v15, v16, o0, o1, o2, o3) => St.mk [(2, AV.bp 0 []), (3, AV.bp 1 []), (10, AV.dat tI v10), (11, AV.bp 2 []), (12, AV.dat tI v12), (13, AV.bp 3 []), (14, AV.dat Ty.bool v14), (15, AV.dat Ty.bool v15), (16, AV.dat Ty.bool v16)] [Obj.bx (AV.dat zN o0) false, Obj.bx (AV.dat qA o1) false, Obj.bx (AV.dat zl o2) false, Obj.bx (AV.dat qi o3) false]
abbrev zc8 : Type := Int × Int × Bool × Bool × zf × zr × zm × zW
abbrev zEu : zc8 → St := fun (v10, v12, v14, v15, o0, o1, o2, o3) => St.mk [(2, AV.bp 0 []), (3, AV.bp 1 []), (10, AV.dat tI v10), (11, AV.bp 2 []), (12, AV.dat tI v12), (13, AV.bp 3 []), (14, AV.dat Ty.bool v14), (15, AV.dat Ty.bool v15)] [Obj.bx (AV.dat zN o0) false, Obj.bx (AV.dat qA o1) false, Obj.bx (AV.dat zl o2) false, Obj.bx (AV.dat qi o3) false]
abbrev zc9 : Type := Int × Int × Bool × zf × zr × zm × zW
abbrev zqS : zc9 → St := fun (v10, v12, v14, o0, o1, o2, o3) => St.mk [(2, AV.bp 0 []), (3, AV.bp 1 []), (10, AV.dat tI v10), (11, AV.bp 2 []), (12, AV.dat tI v12), (13, AV.bp 3 []), (14, AV.dat Ty.bool v14)] [Obj.bx (AV.dat zN o0) false, Obj.bx (AV.dat qA o1) false, Obj.bx (AV.dat zl o2) false, Obj.bx (AV.dat qi o3) false]
abbrev qK : Type := Int × Int × zf × zr × zm
abbrev ji : qK → St := fun (v10, v12, o0, o1, o2) => St.mk [(2, AV.bp 0 []), (3, AV.bp 1 []), (10, AV.dat tI v10), (11, AV.bp 2 []), (12, AV.dat tI v12)] [Obj.bx (AV.dat zN o0) false, Obj.bx (AV.dat qA o1) false, Obj.bx (AV.dat zl o2) false]
abbrev qk : Type := Int × zf × zr
abbrev ql : qk → St := fun (v10, o0, o1) => St.mk [(2, AV.bp 0 []), (3, AV.bp 1 []), (10, AV.dat tI v10)] [Obj.bx (AV.dat zN o0) false, Obj.bx (AV.dat qA o1) false]
abbrev zaQ : Type := Int × zf × zr
abbrev zEv : zaQ → St := fun (v5, o0, o1) => St.mk [(2, AV.bp 0 []), (3, AV.bp 1 []), (5, AV.dat tI v5)] [Obj.bx (AV.dat zN o0) false, Obj.bx (AV.dat qA o1) false]
def zda (k1 : qk → Option (Bool × Unit)) (k2 : qK → Option (Bool × Unit)) : zc7 → Option (Bool × Unit) := fun (v10, v12, v14, v15, v16, o0, o1, o2, o3) =>
  bif o3.1 then bif !v14 then bif !v15 then bif !v16 then some (false, ()) else bif o3.1 then k2 (v10, wI (v12 + 1), o0, o1, o2) else bif v14 == false then bif v14 then some (false, ()) else bif v15 then some (false, ()) else bif v16 then some (false, ()) else k2 (v10, wI (v12 + 1), o0, o1, o2) else bif v14 then some (false, ()) else none else bif o3.1 then k2 (v10, wI (v12 + 1), o0, o1, o2) else bif v14 == false then bif v14 then some (false, ()) else bif v15 then some (false, ()) else bif v16 then some (false, ()) else k2 (v10, wI (v12 + 1), o0, o1, o2) else bif v14 then some (false, ()) else none else bif o3.1 then k2 (v10, wI (v12 + 1), o0, o1, o2) else bif v14 == false then bif v14 then some (false, ()) else bif v15 then some (false, ()) else bif v16 then some (false, ()) else k2 (v10, wI (v12 + 1), o0, o1, o2) else bif v14 then some (false, ()) else none else bif o3.1 then k2 (v10, wI (v12 + 1), o0, o1, o2) else bif v14 == false then bif v14 then some (false, ()) else bif v15 then some (false, ()) else bif v16 then some (false, ()) else k2 (v10, wI (v12 + 1), o0, o1, o2) else bif v14 then some (false, ()) else none
abbrev zaR (K : Nat) (k1 : qk → Option (Bool × Unit)) (k2 : qK → Option (Bool × Unit)) : zc7 → Option (Bool × Unit) := gt (zda k1 k2) K
theorem zEw (K : Nat) (n1 n2 : Nat) : ∀ n, evW (zA zn zu zj zk zh zy) K Tryz.f7 0 zw [1, 1, 1, 0, 1, 0, 0, 1, 0, 0, 1, 1, 0, 0, 1, 0, 0, 1, 1, 1, 0] [n1, n2] zEt n = gt (zda (evV (zA zn zu zj zk zh zy) K Tryz.f7 0 zw [1, 1, 1, 0, 1, 0] [] ql n1) (evV (zA zn zu zj zk zh zy) K Tryz.f7 0 zw [1, 1, 1, 0, 1, 0, 0, 1, 0, 0, 1, 1, 0] [n1] ji n2)) n := zVq fun n5 (v10, v12, v14, v15, v16, o0, o1, o2, o3) => by kernel_rfl
def zaS (L5 : zc7 → Option (Bool × Unit)) (k1 : qk → Option (Bool × Unit)) (k2 : qK → Option (Bool × Unit)) : zc8 → Option (Bool × Unit) := fun (v10, v12, v14, v15, o0, o1, o2, o3) =>
  bif o3.2.2.1 == 3 then bif decide (o3.2.2.2.1 ≥ 0) then bif decide (o3.2.2.2.1 < ((List.length o2.2.2.2.2.1) : Int)) then inR o3.2.2.2.1 ((List.length o2.2.2.2.2.1) : Int) (bif (ix qZ o2.2.2.2.2.1 o3.2.2.2.1).1 then inR o3.2.2.2.1 ((List.length o2.2.2.2.2.1) : Int) (bif (ix qZ o2.2.2.2.2.1 o3.2.2.2.1).2.2.2.1.2.2.1 == v12 then L5 (v10, v12, v14, v15, true, o0, o1, o2, o3) else L5 (v10, v12, v14, v15, false, o0, o1, o2, o3)) else L5 (v10, v12, v14, v15, false, o0, o1, o2, o3)) else L5 (v10, v12, v14, v15, false, o0, o1, o2, o3) else L5 (v10, v12, v14, v15, false, o0, o1, o2, o3) else L5 (v10, v12, v14, v15, false, o0, o1, o2, o3)
abbrev zaT (K : Nat) (k1 : qk → Option (Bool × Unit)) (k2 : qK → Option (Bool × Unit)) : zc8 → Option (Bool × Unit) := gt (zaS (zaR K k1 k2) k1 k2) K
theorem zEx (K : Nat) (n1 n2 : Nat) : ∀ n, evW (zA zn zu zj zk zh zy) K Tryz.f7 0 zw [1, 1, 1, 0, 1, 0, 0, 1, 0, 0, 1, 1, 0, 0, 1, 0, 0, 1, 1, 0] [n1, n2] zEu n = gt (zaS (zaR K (evV (zA zn zu zj zk zh zy) K Tryz.f7 0 zw [1, 1, 1, 0, 1, 0] [] ql n1) (evV (zA zn zu zj zk zh zy) K Tryz.f7 0 zw [1, 1, 1, 0, 1, 0, 0, 1, 0, 0, 1, 1, 0] [n1] ji n2)) (evV (zA zn zu zj zk zh zy) K Tryz.f7 0 zw [1, 1, 1, 0, 1, 0] [] ql n1) (evV (zA zn zu zj zk zh zy) K Tryz.f7 0 zw [1, 1, 1, 0, 1, 0, 0, 1, 0, 0, 1, 1, 0] [n1] ji n2)) n := zTk (B := fun L5 => zaS L5 (evV (zA zn zu zj zk zh zy) K Tryz.f7 0 zw [1, 1, 1, 0, 1, 0] [] ql n1) (evV (zA zn zu zj zk zh zy) K Tryz.f7 0 zw [1, 1, 1, 0, 1, 0, 0, 1, 0, 0, 1, 1, 0] [n1] ji n2)) (zEw zn zu zj zk zh zy K n1 n2 K) fun n4 (v10, v12, v14, v15, o0, o1, o2, o3) => by kernel_rfl
def zaU (L4 : zc8 → Option (Bool × Unit)) (k1 : qk → Option (Bool × Unit)) (k2 : qK → Option (Bool × Unit)) : zc9 → Option (Bool × Unit) := fun (v10, v12, v14, o0, o1, o2, o3) =>
  bif o3.2.2.1 == 2 then Option.bind (zh (o0, o1, o3.2.2.2.2.1, ())) fun q3 => bif q3.1 then Option.bind (zy (o0, o3.2.2.2.2.1.1, v10, ())) fun q4 => bif q4.1 then L4 (v10, v12, v14, true, o0, o1, o2, o3) else L4 (v10, v12, v14, false, o0, o1, o2, o3) else L4 (v10, v12, v14, false, o0, o1, o2, o3) else L4 (v10, v12, v14, false, o0, o1, o2, o3)
abbrev ye (K : Nat) (k1 : qk → Option (Bool × Unit)) (k2 : qK → Option (Bool × Unit)) : zc9 → Option (Bool × Unit) := gt (zaU zh zy (zaT K k1 k2) k1 k2) K
theorem zEy (K : Nat) (n1 n2 : Nat) : ∀ n, evW (zA zn zu zj zk zh zy) K Tryz.f7 0 zw [1, 1, 1, 0, 1, 0, 0, 1, 0, 0, 1, 1, 0, 0, 1, 0, 0, 1, 0] [n1, n2] zqS n = gt (zaU zh zy (zaT K (evV (zA zn zu zj zk zh zy) K Tryz.f7 0 zw [1, 1, 1, 0, 1, 0] [] ql n1) (evV (zA zn zu zj zk zh zy) K Tryz.f7 0 zw [1, 1, 1, 0, 1, 0, 0, 1, 0, 0, 1, 1, 0] [n1] ji n2)) (evV (zA zn zu zj zk zh zy) K Tryz.f7 0 zw [1, 1, 1, 0, 1, 0] [] ql n1) (evV (zA zn zu zj zk zh zy) K Tryz.f7 0 zw [1, 1, 1, 0, 1, 0, 0, 1, 0, 0, 1, 1, 0] [n1] ji n2)) n := zTk (B := fun L4 => zaU zh zy L4 (evV (zA zn zu zj zk zh zy) K Tryz.f7 0 zw [1, 1, 1, 0, 1, 0] [] ql n1) (evV (zA zn zu zj zk zh zy) K Tryz.f7 0 zw [1, 1, 1, 0, 1, 0, 0, 1, 0, 0, 1, 1, 0] [n1] ji n2)) (zEx zn zu zj zk zh zy K n1 n2 K) fun n3 (v10, v12, v14, o0, o1, o2, o3) => by kernel_rfl
def yf (L3 : zc9 → Option (Bool × Unit)) (k1 : qk → Option (Bool × Unit)) (k2 : qK → Option (Bool × Unit)) : qK → Option (Bool × Unit) := fun (v10, v12, o0, o1, o2) =>
  bif decide (v12 < ((List.length o2.2.2.1) : Int)) then inR v12 ((List.length o2.2.2.1) : Int) (bif (ix vE o2.2.2.1 v12).2.2.1 == 1 then bif decide ((ix vE o2.2.2.1 v12).2.2.2.1 ≥ 0) then bif decide ((ix vE o2.2.2.1 v12).2.2.2.1 < ((List.length o0.2.2.1) : Int)) then L3 (v10, v12, true, o0, o1, o2, ix vE o2.2.2.1 v12) else L3 (v10, v12, false, o0, o1, o2, ix vE o2.2.2.1 v12) else L3 (v10, v12, false, o0, o1, o2, ix vE o2.2.2.1 v12) else L3 (v10, v12, false, o0, o1, o2, ix vE o2.2.2.1 v12)) else k1 (wI (v10 + 1), o0, o1)
abbrev zaV (K : Nat) (k1 : qk → Option (Bool × Unit)) : qK → Option (Bool × Unit) := iter (fun k2 => yf (ye zh zy K k1 k2) k1 k2) K
theorem zEz (K : Nat) (n1 : Nat) : ∀ n, evV (zA zn zu zj zk zh zy) K Tryz.f7 0 zw [1, 1, 1, 0, 1, 0, 0, 1, 0, 0, 1, 1, 0] [n1] ji n = iter (fun k2 => yf (ye zh zy K (evV (zA zn zu zj zk zh zy) K Tryz.f7 0 zw [1, 1, 1, 0, 1, 0] [] ql n1) k2) (evV (zA zn zu zj zk zh zy) K Tryz.f7 0 zw [1, 1, 1, 0, 1, 0] [] ql n1) k2) n := zeP (B := fun L3 k2 => yf L3 (evV (zA zn zu zj zk zh zy) K Tryz.f7 0 zw [1, 1, 1, 0, 1, 0] [] ql n1) k2) (V1 := fun n2 => evW (zA zn zu zj zk zh zy) K Tryz.f7 0 zw [1, 1, 1, 0, 1, 0, 0, 1, 0, 0, 1, 1, 0, 0, 1, 0, 0, 1, 0] [n1, n2] zqS K) (W1 := fun k2 => (ye zh zy K (evV (zA zn zu zj zk zh zy) K Tryz.f7 0 zw [1, 1, 1, 0, 1, 0] [] ql n1) k2)) (fun n2 => zEy zn zu zj zk zh zy K n1 n2 K) fun n2 (v10, v12, o0, o1, o2) => by kernel_rfl
def yg (L2 : qK → Option (Bool × Unit)) (k1 : qk → Option (Bool × Unit)) : qk → Option (Bool × Unit) := fun (v10, o0, o1) =>
  bif decide (v10 < ((List.length o1.2.1) : Int)) then inR v10 ((List.length o1.2.1) : Int) (L2 (v10, 0, o0, o1, ix za o1.2.1 v10)) else Option.bind (zu ()) fun q5 => bif q5.1 then some (true, ()) else some (false, ())
abbrev zaW (K : Nat) : qk → Option (Bool × Unit) := iter (fun k1 => yg zu (zaV zh zy K k1) k1) K
theorem zEA (K : Nat) : ∀ n, evV (zA zn zu zj zk zh zy) K Tryz.f7 0 zw [1, 1, 1, 0, 1, 0] [] ql n = iter (fun k1 => yg zu (zaV zh zy K k1) k1) n := zeP (B := fun L2 k1 => yg zu L2 k1) (V1 := fun n1 => evV (zA zn zu zj zk zh zy) K Tryz.f7 0 zw [1, 1, 1, 0, 1, 0, 0, 1, 0, 0, 1, 1, 0] [n1] ji K) (W1 := fun k1 => (zaV zh zy K k1)) (fun n1 => zEz zn zu zj zk zh zy K n1 K) fun n1 (v10, o0, o1) => by kernel_rfl
def yh (L1 : qk → Option (Bool × Unit)) (k0 : zaQ → Option (Bool × Unit)) : zaQ → Option (Bool × Unit) := fun (v5, o0, o1) =>
  bif decide (v5 < 4) then Option.bind (zj (o1, v5, ())) fun q1 => Option.bind (zk (o1, v5, ())) fun q2 => bif q1.2.1 != 0 then some (false, ()) else bif q2.2.1 != 0 then some (false, ()) else bif q1.1 != q2.1 then some (false, ()) else bif decide (q1.1 > 4611686018427387904) then some (false, ()) else k0 (wI (v5 + 1), o0, o1) else L1 (0, o0, o1)
abbrev zqT (K : Nat) : zaQ → Option (Bool × Unit) := iter (fun k0 => yh zj zk (zaW zu zh zy K) k0) K
theorem zEB (K : Nat) : ∀ n, evV (zA zn zu zj zk zh zy) K Tryz.f7 0 zw [1, 1, 0, 1, 0] [] zEv n = iter (fun k0 => yh zj zk (zaW zu zh zy K) k0) n := zeP (B := fun L1 k0 => yh zj zk L1 k0) (V1 := fun n0 => evV (zA zn zu zj zk zh zy) K Tryz.f7 0 zw [1, 1, 1, 0, 1, 0] [] ql K) (W1 := fun k0 => (zaW zu zh zy K)) (fun n0 => zEA zn zu zj zk zh zy K K) fun n0 (v5, o0, o1) => by kernel_rfl
def zfl (L0 : zaQ → Option (Bool × Unit)) : (zf × (zr × Unit)) → Option (Bool × Unit) := fun (x0, x1, ()) =>
  Option.bind (zn (x0, x1, ())) fun q0 => bif q0.1 then L0 (0, x0, x1) else Option.bind (zu ()) fun q6 => bif q6.1 then some (true, ()) else some (false, ())
theorem zHq (K : Nat) : evF (zA zn zu zj zk zh zy) K Tryz.f7 0 zeQ zw = zfl zn zu (zqT zu zj zk zh zy K) := tr1 (T := zfl zn zu) (zEB zn zu zj zk zh zy K K) fun (x0, x1, ()) => by kernel_rfl
end
def zfm : zF7 := zfl qM vR (zqT vR qO qP qj ve K0)
theorem zHr : Sd Tryz.prog E0 (zFn zfm) := zXQ (l := [vU qM, zrr vR, zcq qO, zcr qP, zeR qj, zwu ve]) ⟨zmC, zPw, zyE, zyJ, zCP, zSN, trivial⟩ Tryz.func7 (by kernel_rfl) (zHq qM vR qO qP qj ve K0)
end
end Go.Proofs.YtaokpakfhdeiiaaGreatDoor
end
section
namespace Go.Proofs.YtaokpakfhdeiiaaGreatDoor
open Go.Ev
set_option linter.unusedVariables false
set_option linter.unusedSimpArgs false
theorem zMF {r : zf} (hr : yD r) (i : Int) : vC (r, i, ()) = some (zbm r && zok r i, ()) := by
  rw [qh]
  simp only [vC, zqN, zvd r hr, Option.bind_some]
  cases hb : zbm r with
  | false => rfl
  | true =>
    have hl := (zkg hb).labels
    have hw : wI ((r.1.length : Int) - 1) = (r.1.length : Int) - 1 := by
      have := zHF (i := r.1.length) (by omega) (by unfold Go.maxLen; omega)
      rw [this]; omega
    rw [hw, zhT]
    simp only [Option.bind_some, cond_true, Bool.true_and, within, zok]
    grind
theorem zS4 {r : zf} {s : zr} (h : zib r s = true) : zbm r = true ∧ ztw r s = true ∧ zwc r s = true := by
  simp only [zib, Bool.and_eq_true] at h
  exact ⟨h.1, h.2.1, h.2.2.1⟩
end Go.Proofs.YtaokpakfhdeiiaaGreatDoor
end
section
namespace Go.Proofs.YtaokpakfhdeiiaaGreatDoor
open Go.Ev
set_option linter.unusedVariables false
set_option linter.unusedSimpArgs false
theorem zS5 {r : zf} (hr : yD r) (hb : zbm r = true) (a b : Int) : ve (r, a, b, ()) = some (zHm r a b, ()) := by
  rw [qh]
  simp only [ve, zBQ, zMF hr, hb, Bool.true_and, Option.bind_some, zHm, ix]
  cases ha : zok r a with
  | false => rfl
  | true =>
    cases hbb : zok r b with
    | false => rfl
    | true =>
      have h1 := zMB hr a ha
      have h2 := zMB hr b hbb
      simp only [zok, decide_eq_true_eq] at ha hbb
      rw [ixR ha, ixR hbb, zIT h1 h2]
      simp only [Option.bind_some]
      generalize zUC (r.1.getD a.toNat zcC) (r.1.getD b.toNat zcC) = u
      cases u <;> rfl
theorem zR5 {σ ρ : Type} {B : σ → Option ρ} : gt B K0 = B := rfl
def zHs (r : zf) (x : zW) : Bool := (x.2.2.1 : Int) == 1 && zvf r x.2.2.2.1
def zC5 (r : zf) (s : zr) (i : Int) (x : zW) : Bool := (x.2.2.1 : Int) == 2 && (ztx s x.2.2.2.2.1 && zHm r x.2.2.2.2.1.1 i)
def zzb (h : zm) (j : Nat) (x : zW) : Bool := (x.2.2.1 : Int) == 3 && (decide (0 ≤ x.2.2.2.1 ∧ x.2.2.2.1 < (h.2.2.2.2.1.length : Int)) && ((h.2.2.2.2.1.getD x.2.2.2.1.toNat qZ).1 && ((h.2.2.2.2.1.getD x.2.2.2.1.toNat qZ).2.2.2.1.2.2.1 : Int) == (j : Int)))
def zoE (x : zW) (a b c : Bool) : Bool := bif x.1 then a || (b || c) else !(a || (b || c))
theorem zXe {r : zf} {s : zr} (h : zib r s = true) {i j : Nat} (hi : i < s.2.1.length) (hj : j < (s.2.1.getD i za).2.2.1.length) :
    zoE ((s.2.1.getD i za).2.2.1.getD j vE) (zHs r ((s.2.1.getD i za).2.2.1.getD j vE)) (zC5 r s i ((s.2.1.getD i za).2.2.1.getD j vE)) (zzb (s.2.1.getD i za) j ((s.2.1.getD i za).2.2.1.getD j vE)) = true := by
  simp only [zib, Bool.and_eq_true, zaA] at h
  have h1 := (h.2.2.2.1 i (Nat.zero_le _) (by omega)).1
  simp only [zfj, zRV, zC3, zin, zy7, Bool.and_eq_true, zaA, @zRW zW vE] at h1
  obtain ⟨⟨-, -, hok, -⟩, ⟨-, hbelow, -⟩, ⟨hwho, -⟩, hdeal, -⟩ := h1
  have k1 := hok j hj
  have k2 := hbelow j hj
  have k3 := hwho j hj
  have k4 := hdeal j (Nat.zero_le _) (by omega)
  generalize (s.2.1.getD i za).2.2.1.getD j vE = x at *
  generalize s.2.1.getD i za = y at *
  unfold zoE
  unfold zy2 at k1
  unfold ztz at k2
  unfold zC4 at k3
  unfold zy6 at k4
  cases hu : x.1 with
  | true =>
    rw [hu] at k1
    simp only [cond_true, Bool.and_eq_true, zEj, Bool.or_eq_true, beq_iff_eq] at k1
    simp only [cond_true, zHs, zC5, zzb, Bool.or_eq_true, Bool.and_eq_true, beq_iff_eq]
    simp only [zty, Bool.or_eq_true, Bool.and_eq_true, bne_iff_ne, ne_eq] at k2
    simp only [Bool.or_eq_true, bne_iff_ne, ne_eq] at k3
    simp only [Bool.or_eq_true, Bool.and_eq_true, bne_iff_ne, ne_eq, beq_iff_eq] at k4
    rcases k1.2 with ⟨hk | hk, -⟩ | ⟨hk, -⟩
    · left
      exact ⟨hk, k3.resolve_left (fun hn => hn hk)⟩
    · right; right
      exact ⟨hk, k4.resolve_left (fun hn => hn hk)⟩
    · right; left
      exact ⟨hk, k2.resolve_left (fun hn => hn hk)⟩
  | false =>
    rw [hu] at k1
    simp only [cond_false] at k1
    have hz : (x.2.2.1 : Int) = 0 := by
      obtain ⟨u, nm, kd, wh, at', ⟨⟩⟩ := x
      have k1' : cond (u == false) (cond ((nm : ByteArray).toList == _) (cond ((kd : Int) == 0) (cond ((wh : Int) == 0) _ false) false) false) false = true := k1
      cases u with
      | true => cases hu
      | false =>
        simp only [beq_self_eq_true, cond_true] at k1'
        show kd = 0
        by_cases hk : kd = 0
        · exact hk
        · rw [show (kd == 0) = false from beq_eq_false_iff_ne.2 hk] at k1'
          simp at k1'
    simp [zHs, zC5, zzb, hz]
theorem zS6 {r : zf} {s : zr} (h : zib r s = true) {c : Nat} (hc : c < 4) : ∃ n, zs1 s c = (n, 0, ()) ∧ zEr s c = (n, 0, ()) ∧ n ≤ M62 := by
  simp only [zib, Bool.and_eq_true, zaA] at h
  have h1 := h.2.2.2.2 c (Nat.zero_le _) (by omega)
  simp only [zza, Bool.and_eq_true, beq_iff_eq] at h1
  obtain ⟨h2, h3, h4⟩ := h1
  have hck : yQ (c : Int) = true := by simp only [yQ, decide_eq_true_eq]; omega
  have hle : (zs1 s c).2.1 = 0 → (zs1 s c).1 ≤ M62 := by
    unfold zs1
    rw [hck, cond_true]
    intro h
    by_cases hb : vf (s.2.2.2.1.map (zfk c)) + vf (s.2.1.map (zg1 c)) > M62
    · rw [zoD hb] at h; cases h
    · rw [zwd (by omega)]; show _ ≤ M62; omega
  have h5 := hle h2
  rcases e1 : zs1 s c with ⟨a, b, ⟨⟩⟩
  rcases e2 : zEr s c with ⟨a', b', ⟨⟩⟩
  rw [e1] at h2 h4 h5
  rw [e2] at h3 h4
  simp only at h2 h3 h4 h5
  subst h2; subst h3; subst h4
  exact ⟨a, rfl, rfl, h5⟩
theorem zR6 {r : zf} {s : zr} (hr : yD r) (hs : zoA s) : zfm (r, s, ()) = some (true, ()) := by
  simp only [zfm, zfl, zFm hr hs, Option.bind_some]
  cases h : zib r s with
  | false => rw [zTo]; rfl
  | true =>
    obtain ⟨hb, hz, hp⟩ := zS4 h
    have ok := zkg hb
    have sz := zOy hb hz
    have sh := zVN ok sz
    have hmm : 1000000 ≤ Go.maxLen := by unfold Go.maxLen; omega
    have h3 := ok.labels
    have h4 := sz.shelves
    simp only [cond_true]
    have l5 : ∀ k1 k2 (i j : Int) (a b c : Bool) (o2 : zm) (x : zW), zoE x a b c = true → zaR K0 k1 k2 (i, j, a, b, c, r, s, o2, x) = k2 (i, wI (j + 1), r, s, o2) := fun k1 k2 i j a b c o2 x ho => by
      show gt (zda k1 k2) K0 _ = _
      rw [zR5]
      simp only [zda]
      unfold zoE at ho
      generalize hu : x.1 = u at *
      cases u <;> cases a <;> cases b <;> cases c <;> first | rfl | (exact absurd ho (by decide))
    have l4 : ∀ k1 k2 (i j : Nat) (a b : Bool) (o2 : zm) (x : zW), zoE x a b (zzb o2 j x) = true → zaT K0 k1 k2 ((i : Int), (j : Int), a, b, r, s, o2, x) = k2 ((i : Int), wI ((j : Int) + 1), r, s, o2) := fun k1 k2 i j a b o2 x ho => by
      show gt (zaS (zaR K0 k1 k2) k1 k2) K0 _ = _
      rw [zR5]
      simp only [zaS]
      have e : ∀ u : Bool, zzb o2 j x = u → zaR K0 k1 k2 ((i : Int), (j : Int), a, b, u, r, s, o2, x) = k2 ((i : Int), wI ((j : Int) + 1), r, s, o2) := fun u hu => l5 k1 k2 _ _ _ _ _ _ _ (by rw [← hu]; exact ho)
      unfold zzb at e
      by_cases h1 : x.2.2.1 = 3
      · have e1 : ((x.2.2.1 : Int) == 3) = true := by rw [h1]; rfl
        rw [e1] at e ⊢
        by_cases h2 : 0 ≤ x.2.2.2.1 ∧ x.2.2.2.1 < (o2.2.2.2.2.1.length : Int)
        · rw [decide_eq_true h2] at e
          rw [decide_eq_true (p := x.2.2.2.1 ≥ 0) h2.1, decide_eq_true h2.2]
          simp only [cond_true, Bool.true_and] at e ⊢
          rw [ixR h2, ixR h2]
          show (bif (o2.2.2.2.2.1.getD x.2.2.2.1.toNat qZ).1 then (bif ((o2.2.2.2.2.1.getD x.2.2.2.1.toNat qZ).2.2.2.1.2.2.1 : Int) == (j : Int) then _ else _) else _) = _
          generalize (o2.2.2.2.2.1.getD x.2.2.2.1.toNat qZ).1 = u1 at *
          generalize (((o2.2.2.2.2.1.getD x.2.2.2.1.toNat qZ).2.2.2.1.2.2.1 : Int) == (j : Int)) = u2 at *
          cases u1 <;> cases u2 <;> exact e _ rfl
        · rw [decide_eq_false h2] at e
          by_cases h3 : x.2.2.2.1 ≥ 0
          · rw [decide_eq_true h3, decide_eq_false (p := x.2.2.2.1 < (o2.2.2.2.2.1.length : Int)) (by omega)]
            exact e _ rfl
          · rw [decide_eq_false h3]
            exact e _ rfl
      · have e1 : ((x.2.2.1 : Int) == 3) = false := beq_eq_false_iff_ne.2 h1
        rw [e1] at e ⊢
        exact e _ rfl
    have l3 : ∀ k1 k2 (i j : Nat) (a : Bool) (o2 : zm) (x : zW), zoE x a (zC5 r s i x) (zzb o2 j x) = true → ye qj ve K0 k1 k2 ((i : Int), (j : Int), a, r, s, o2, x) = k2 ((i : Int), wI ((j : Int) + 1), r, s, o2) := fun k1 k2 i j a o2 x ho => by
      show gt (zaU qj ve (zaT K0 k1 k2) k1 k2) K0 _ = _
      rw [zR5]
      simp only [zaU]
      have e : ∀ u : Bool, zC5 r s i x = u → zaT K0 k1 k2 ((i : Int), (j : Int), a, u, r, s, o2, x) = k2 ((i : Int), wI ((j : Int) + 1), r, s, o2) := fun u hu => l4 k1 k2 _ _ _ _ _ _ (by rw [← hu]; exact ho)
      rw [zN2 hr hs, h, zS5 hr hb]
      unfold zC5 at e
      simp only [Option.bind_some, Bool.true_and]
      generalize ((x.2.2.1 : Int) == 2) = u1 at *
      generalize ztx s x.2.2.2.2.1 = u2 at *
      generalize zHm r x.2.2.2.2.1.1 i = u3 at *
      cases u1 <;> cases u2 <;> cases u3 <;> exact e _ rfl
    have l2 : ∀ k1 (i : Nat), i < s.2.1.length → zaV qj ve K0 k1 ((i : Int), 0, r, s, s.2.1.getD i za) = k1 (wI ((i : Int) + 1), r, s) := fun k1 i hi => by
      have hsz := sz.shelf _ (yl (d := za) hi)
      have := zQA (B := fun k2 => yf (ye qj ve K0 k1 k2) k1 k2) (l := (s.2.1.getD i za).2.2.1) vE (p := fun _ => true) (fin := k1 (wI ((i : Int) + 1), r, s)) (bad := none) (fun j => ((i : Int), j, r, s, s.2.1.getD i za)) (by omega) (fun k2 j x hj hx hm => by
        simp only [yf]
        have hh := zXe h hi hj
        rw [hx] at hh
        rw [ltT hj, qu hj, vT, hx]
        simp only [cond_true]
        have e : ∀ u : Bool, zHs r x = u → ye qj ve K0 k1 k2 ((i : Int), (j : Int), u, r, s, s.2.1.getD i za, x) = k2 ((i : Int), wI ((j : Int) + 1), r, s, s.2.1.getD i za) := fun u hu => l3 k1 k2 _ _ _ _ _ (by rw [← hu]; exact hh)
        unfold zHs zvf at e
        by_cases h1 : 0 ≤ x.2.2.2.1
        · by_cases h2 : x.2.2.2.1 < (r.2.2.1.length : Int)
          · rw [decide_eq_true (p := x.2.2.2.1 ≥ 0) h1, decide_eq_true h2]
            rw [decide_eq_true (p := 0 ≤ x.2.2.2.1 ∧ x.2.2.2.1 < (r.2.2.1.length : Int)) ⟨h1, h2⟩] at e
            generalize ((x.2.2.1 : Int) == 1) = u1 at *
            cases u1 <;> exact e _ rfl
          · rw [decide_eq_true (p := x.2.2.2.1 ≥ 0) h1, decide_eq_false h2]
            rw [decide_eq_false (p := 0 ≤ x.2.2.2.1 ∧ x.2.2.2.1 < (r.2.2.1.length : Int)) (fun hh => h2 hh.2)] at e
            generalize ((x.2.2.1 : Int) == 1) = u1 at *
            cases u1 <;> exact e _ rfl
        · rw [decide_eq_false (p := x.2.2.2.1 ≥ 0) h1]
          rw [decide_eq_false (p := 0 ≤ x.2.2.2.1 ∧ x.2.2.2.1 < (r.2.2.1.length : Int)) (fun hh => h1 hh.1)] at e
          generalize ((x.2.2.1 : Int) == 1) = u1 at *
          cases u1 <;> exact e _ rfl) (fun k2 => by
        simp only [yf]
        rw [ltF]; rfl)
      refine Eq.trans this ?_
      have ht : ((s.2.1.getD i za).2.2.1.all fun _ => true) = true := by simp
      rw [ht]; rfl
    have l1 : zaW vR qj ve K0 (0, r, s) = some (true, ()) := by
      have := yT (B := fun k1 => yg vR (zaV qj ve K0 k1) k1) (i0 := 0) (n := s.2.1.length) (by omega) (Nat.zero_le _) (p := fun _ => true) (fin := some (true, ())) (bad := none) (fun i => (i, r, s)) (fun k i _ hi => by
        simp only [yg]
        rw [ltT hi, qu hi, vT, l2 k i hi]; rfl) (fun k => by
        simp only [yg]
        rw [ltF, zTo]; rfl)
      refine Eq.trans this ?_
      have ht : qU (fun _ => true) 0 (s.2.1.length - 0) = true := zaA.2 fun _ _ _ => rfl
      rw [ht]; rfl
    have := yT (B := fun k0 => yh qO qP (zaW vR qj ve K0) k0) (i0 := 0) (n := 4) (by omega) (Nat.zero_le _) (p := fun _ => true) (fin := some (true, ())) (bad := none) (fun c => (c, r, s)) (fun k c _ hc => by
      simp only [yh]
      obtain ⟨n, h1, h2, h3⟩ := zS6 h hc
      rw [decide_eq_true (by omega), zHn hs sh, zHp hs sh, h1, h2]
      simp only [Option.bind_some, cond_true]
      have hn : decide (n > 4611686018427387904) = false := decide_eq_false (by unfold M62 at h3; omega)
      rw [hn]
      simp) (fun k => by
      simp only [yh]
      exact l1)
    exact this
end Go.Proofs.YtaokpakfhdeiiaaGreatDoor
end
