import Derived.Test.YtaokpakfhdeiiaaGreatDoorMed
import Derived.Shelf.Spec.BitsCarry
section
namespace Go.Proofs.YtaokpakfhdeiiaaGreatDoor
open Go.Ev
set_option linter.unusedVariables false
noncomputable section
section
variable (zcF : zKn) (zaT : zC0) (zcG : zKo) (zbk : zKp)
abbrev zNV : Env := (En E0 false [ztb zcF, zoV zaT, ztc zcG, ztd zbk])
abbrev zhd : Type := Int × ze
abbrev zVY : zhd → St := fun (v3, o0) => St.mk [(1, AV.bp 0 []), (3, AV.dat tI v3)] [Obj.bx (AV.dat zD o0) false]
def zmK (k0 : zhd → Option (Bool × Unit)) : zhd → Option (Bool × Unit) := fun (v3, o0) =>
  bif decide (v3 < ((List.length o0.2.1) : Int)) then inR v3 ((List.length o0.2.1) : Int) (bif decide (ix (0 : Int) o0.2.1 v3 < 0) then some (false, ()) else inR v3 ((List.length o0.2.1) : Int) (bif decide (ix (0 : Int) o0.2.1 v3 ≥ ((List.length o0.1) : Int)) then some (false, ()) else k0 (wI (v3 + 1), o0))) else bif ((List.length o0.2.2.2.2.1) : Int) != ((List.length o0.1) : Int) then some (false, ()) else Option.bind (zbk (o0.2.2.2.2.1, ())) fun q3 => bif q3.1 then bif decide (o0.2.2.2.2.2.1 ≥ 0) then bif decide (o0.2.2.2.2.2.1 ≤ 24) then bif decide (o0.2.2.2.2.2.2.1 ≥ 0) then bif decide (o0.2.2.2.2.2.2.1 ≤ 48) then bif decide (o0.2.2.2.2.2.2.2.1 ≥ 1) then bif decide (o0.2.2.2.2.2.2.2.1 ≤ 4) then bif decide (o0.2.2.2.2.2.2.2.2.1 ≥ 1) then bif decide (o0.2.2.2.2.2.2.2.2.1 ≤ 16) then some (true, ()) else some (false, ()) else some (false, ()) else some (false, ()) else some (false, ()) else some (false, ()) else some (false, ()) else some (false, ()) else some (false, ()) else some (false, ())
abbrev zvi (K : Nat) : zhd → Option (Bool × Unit) := iter (zmK zbk) K
theorem zVZ (K : Nat) : ∀ n, evV (zNV zcF zaT zcG zbk) K Tryz.f9 0 zqr [1, 1, 0, 1, 0] [] zVY n = iter (zmK zbk) n := zp fun n0 (v3, o0) => by kernel_rfl
def zqQ (L0 : zhd → Option (Bool × Unit)) : (ze × Unit) → Option (Bool × Unit) := fun (x0, ()) =>
  Option.bind (zcF (x0.1, ())) fun q0 => bif q0.1 then bif decide (((List.length x0.2.1) : Int) < 1) then some (false, ()) else bif decide (((List.length x0.2.1) : Int) > 8) then some (false, ()) else Option.bind (zaT (x0.2.2.1, ())) fun q1 => bif q1.1 then Option.bind (zcG (x0.2.2.2.1, x0.1, ((List.length x0.2.2.1) : Int), ())) fun q2 => bif q2.1 then L0 (0, x0) else some (false, ()) else some (false, ()) else some (false, ())
theorem z0f (K : Nat) : evF (zNV zcF zaT zcG zbk) K Tryz.f9 0 zy5 zqr = zqQ zcF zaT zcG (zvi zbk K) := tr1 (T := zqQ zcF zaT zcG) (zVZ zcF zaT zcG zbk K K) fun (x0, ()) => by kernel_rfl
end
def zaK : zy6 := zqQ zeI zcA zeJ (zvi zeK K0)
theorem zNW : Sd Tryz.prog E0 (ziL zaK) := mkS (l := [ztb zeI, zoV zcA, ztc zeJ, ztd zeK]) ⟨zX3, zTC, zX5, zX7, trivial⟩ Tryz.func9 (by kernel_rfl) (z0f zeI zcA zeJ zeK K0)
section
abbrev zNX : Env := (En E0 false [])
abbrev zhe : Type := Int × ze × zf
abbrev zV0 : zhe → St := fun (v5, o0, o1) => St.mk [(2, AV.bp 0 []), (3, AV.bp 1 []), (5, AV.dat tI v5)] [Obj.bx (AV.dat zD o0) false, Obj.bx (AV.dat zX o1) false]
def zmL (k0 : zhe → Option (Bool × Unit)) : zhe → Option (Bool × Unit) := fun (v5, o0, o1) =>
  bif decide (v5 < ((List.length o1.2.1) : Int)) then inR v5 ((List.length o1.2.1) : Int) (inR v5 ((List.length o0.2.2.2.2.1) : Int) (bif ((List.length (ix za o1.2.1 v5).1) : Int) != (ix jl o0.2.2.2.2.1 v5).1 then some (false, ()) else bif ((List.length (ix za o1.2.1 v5).2.1) : Int) != (ix jl o0.2.2.2.2.1 v5).2.1 then some (false, ()) else bif ((List.length (ix za o1.2.1 v5).2.2.1) : Int) != (ix jl o0.2.2.2.2.1 v5).2.2.1 then some (false, ()) else bif ((List.length (ix za o1.2.1 v5).2.2.2.1) : Int) != (ix jl o0.2.2.2.2.1 v5).2.2.2.1 then some (false, ()) else bif ((List.length (ix za o1.2.1 v5).2.2.2.2.1) : Int) != (ix jl o0.2.2.2.2.1 v5).2.2.2.2.1 then some (false, ()) else bif ((List.length (ix za o1.2.1 v5).2.2.2.2.2.1) : Int) != ((List.length o0.2.2.1) : Int) then some (false, ()) else bif ((List.length (ix za o1.2.1 v5).2.2.2.2.2.2.1) : Int) != ((List.length o0.2.2.1) : Int) then some (false, ()) else k0 (wI (v5 + 1), o0, o1))) else some (true, ())
abbrev zvj (K : Nat) : zhe → Option (Bool × Unit) := iter (zmL) K
theorem zV1 (K : Nat) : ∀ n, evV (zNX) K Tryz.f40 0 zqu [1, 1, 0, 1, 0] [] zV0 n = iter (zmL) n := zp fun n0 (v5, o0, o1) => by kernel_rfl
def zqR (L0 : zhe → Option (Bool × Unit)) : (ze × (zf × Unit)) → Option (Bool × Unit) := fun (x0, x1, ()) =>
  bif ((List.length x1.2.1) : Int) != ((List.length x0.1) : Int) then some (false, ()) else bif ((List.length x1.2.2.2.1) : Int) != x0.2.2.2.2.2.1 then some (false, ()) else bif decide (((List.length x1.2.2.2.2.1) : Int) > x0.2.2.2.2.2.2.1) then some (false, ()) else bif ((List.length x1.2.2.2.2.2.1) : Int) != ((List.length x0.2.1) : Int) then some (false, ()) else bif decide (x1.1 > 4611686018427387904) then some (false, ()) else L0 (0, x0, x1)
theorem z0g (K : Nat) : evF (zNX) K Tryz.f40 0 zzo zqu = zqR (zvj K) := tr1 (T := zqR) (zV1 K K) fun (x0, x1, ()) => by kernel_rfl
end
def zgt : zM4 := zqR (zvj K0)
theorem z0h : Sd Tryz.prog E0 (zwm zgt) := mkS (l := []) trivial Tryz.func40 (by kernel_rfl) (z0g K0)
section
variable (z0 : zy6)
abbrev zlc : Env := (En E0 false [ziL z0])
abbrev zhf : Type := (List (List Int)) × Int × Int × ze
abbrev zHI : zhf → St := fun (v1, v5, v6, o0) => St.mk [(1, AV.dat (Ty.sl (Ty.sl tI)) v1), (2, AV.bp 0 []), (5, AV.dat tI v5), (6, AV.dat tI v6)] [Obj.bx (AV.dat zD o0) false]
abbrev zbJ : Type := (List (List Int)) × Int × ze
abbrev zHJ : zbJ → St := fun (v1, v5, o0) => St.mk [(1, AV.dat (Ty.sl (Ty.sl tI)) v1), (2, AV.bp 0 []), (5, AV.dat tI v5)] [Obj.bx (AV.dat zD o0) false]
def zmM (k0 : zbJ → Option (Bool × Unit)) (k1 : zhf → Option (Bool × Unit)) : zhf → Option (Bool × Unit) := fun (v1, v5, v6, o0) =>
  inR v5 ((List.length v1) : Int) (bif decide (v6 < ((List.length (List.getD v1 (Int.toNat v5) ([] : List Int))) : Int)) then inR v5 ((List.length v1) : Int) (inR v6 ((List.length (List.getD v1 (Int.toNat v5) ([] : List Int))) : Int) (bif decide (List.getD (List.getD v1 (Int.toNat v5) ([] : List Int)) (Int.toNat v6) (0 : Int) < 0) then some (false, ()) else inR v5 ((List.length v1) : Int) (inR v6 ((List.length (List.getD v1 (Int.toNat v5) ([] : List Int))) : Int) (bif decide (List.getD (List.getD v1 (Int.toNat v5) ([] : List Int)) (Int.toNat v6) (0 : Int) > 2) then some (false, ()) else k1 (v1, v5, wI (v6 + 1), o0))))) else k0 (v1, wI (v5 + 1), o0))
abbrev zmN (K : Nat) (k0 : zbJ → Option (Bool × Unit)) : zhf → Option (Bool × Unit) := iter (fun k1 => zmM k0 k1) K
theorem zV2 (K : Nat) (n0 : Nat) : ∀ n, evV (zlc z0) K Tryz.f106 0 zdJ [1, 1, 0, 1, 0, 0, 1, 0, 0, 1, 1, 0] [n0] zHI n = iter (fun k1 => zmM (evV (zlc z0) K Tryz.f106 0 zdJ [1, 1, 0, 1, 0] [] zHJ n0) k1) n := zp fun n1 (v1, v5, v6, o0) => by kernel_rfl
def zhg (L1 : zhf → Option (Bool × Unit)) (k0 : zbJ → Option (Bool × Unit)) : zbJ → Option (Bool × Unit) := fun (v1, v5, o0) =>
  bif decide (v5 < ((List.length v1) : Int)) then inR v5 ((List.length v1) : Int) (bif ((List.length (List.getD v1 (Int.toNat v5) ([] : List Int))) : Int) != ((List.length o0.2.2.1) : Int) then some (false, ()) else inR v5 ((List.length v1) : Int) (inR v5 ((List.length o0.2.2.2.1) : Int) (inR (ix jA o0.2.2.2.1 v5).2.1 ((List.length (List.getD v1 (Int.toNat v5) ([] : List Int))) : Int) (bif List.getD (List.getD v1 (Int.toNat v5) ([] : List Int)) (Int.toNat (ix jA o0.2.2.2.1 v5).2.1) (0 : Int) != 2 then some (false, ()) else L1 (v1, v5, 0, o0))))) else some (true, ())
abbrev zvk (K : Nat) : zbJ → Option (Bool × Unit) := iter (fun k0 => zhg (zmN K k0) k0) K
theorem zV3 (K : Nat) : ∀ n, evV (zlc z0) K Tryz.f106 0 zdJ [1, 1, 0, 1, 0] [] zHJ n = iter (fun k0 => zhg (zmN K k0) k0) n := vj (B := fun L1 k0 => zhg L1 k0) (V1 := fun n0 => evV (zlc z0) K Tryz.f106 0 zdJ [1, 1, 0, 1, 0, 0, 1, 0, 0, 1, 1, 0] [n0] zHI K) (W1 := fun k0 => (zmN K k0)) (fun n0 => zV2 z0 K n0 K) fun n0 (v1, v5, o0) => by kernel_rfl
def zqS (L0 : zbJ → Option (Bool × Unit)) : (ze × ((List (List Int)) × Unit)) → Option (Bool × Unit) := fun (x0, x1, ()) =>
  Option.bind (z0 (x0, ())) fun q0 => bif q0.1 then bif ((List.length x1) : Int) != ((List.length x0.2.2.2.1) : Int) then some (false, ()) else L0 (x1, 0, x0) else some (false, ())
theorem z0i (K : Nat) : evF (zlc z0) K Tryz.f106 0 zzS zdJ = zqS z0 (zvk K) := tr1 (T := zqS z0) (zV3 z0 K K) fun (x0, x1, ()) => by kernel_rfl
end
def zgu : zNi := zqS zaK (zvk K0)
theorem z0j : Sd Tryz.prog E0 (zwT zgu) := mkS (l := [ziL zaK]) ⟨zNW, trivial⟩ Tryz.func106 (by kernel_rfl) (z0i zaK K0)
section
def zBp : (Int × (Int × Unit)) → Option (Int × (Int × Unit)) := fun (x0, x1, ()) =>
  bif x0 != 0 then bif x0 == 0 then none else bif decide (x1 > wU (Int.tdiv 4611686018427387904 x0)) then some (0, 7, ()) else some (wU (x0 * x1), 0, ()) else some (wU (x0 * x1), 0, ())
theorem z0k (K : Nat) : evF (En E0 false []) K Tryz.f281 0 zAO zAP = zBp := funext fun (x0, x1, ()) => by kernel_rfl
end
def zgv : zNB := zBp
theorem z0l : Sd Tryz.prog E0 (zxt zgv) := mkS (l := []) trivial Tryz.func281 (by kernel_rfl) (z0k K0)
section
variable (zBq : zNB)
def zF0 : (Int × (Int × (Int × Unit))) → Option (Int × (Int × Unit)) := fun (x0, x1, x2, ()) =>
  bif decide (x0 < 1) then some (0, 1, ()) else bif decide (x0 > 2) then some (0, 1, ()) else bif x1 == 0 then some (0, 1, ()) else bif x2 == 0 then some (0, 1, ()) else Option.bind (zBq (x1, x2, ())) fun q0 => bif q0.2.1 == 0 then bif x0 == 2 then some (x1, q0.2.1, ()) else some (q0.1, q0.2.1, ()) else some (q0.1, q0.2.1, ())
theorem z22 (K : Nat) : evF (En E0 false [zxt zBq]) K Tryz.f243 0 zEl zEm = zF0 zBq := funext fun (x0, x1, x2, ()) => by kernel_rfl
end
def zbK : zEn := zF0 zgv
theorem zQr : Sd Tryz.prog E0 (zk1 zbK) := mkS (l := [zxt zgv]) ⟨z0l, trivial⟩ Tryz.func243 (by kernel_rfl) (z22 zgv K0)
section
def zJU : (Int × Unit) → Option (Bool × Unit) := fun (x0, ()) =>
  bif decide (x0 ≥ 0) then bif decide (x0 < 128) then some (true, ()) else some (false, ()) else some (false, ())
theorem z4I (K : Nat) : evF (En E0 false []) K Tryz.f244 0 zIV zIW = zJU := funext fun (x0, ()) => by kernel_rfl
end
def zlC : zRV := zJU
theorem z4J : Sd Tryz.prog E0 (zEo zlC) := mkS (l := []) trivial Tryz.func244 (by kernel_rfl) (z4I K0)
section
variable (zft : zEn) (zyq : zRV)
def zJV : (zj × Unit) → Option (Bool × Unit) := fun (x0, ()) =>
  Option.bind (zft (x0.2.2.2.1, x0.2.2.2.2.2.2.2.1, x0.2.2.2.2.2.2.1, ())) fun q0 => bif decide (x0.2.2.2.2.1 ≥ 0) then bif decide (x0.2.2.2.2.1 < 4) then bif decide (x0.2.2.2.2.2.1 ≥ 0) then bif decide (x0.2.2.2.2.2.1 < 4) then bif x0.2.2.2.2.1 != x0.2.2.2.2.2.1 then bif q0.2.1 == 0 then bif x0.2.2.2.2.2.2.2.2.1 == q0.1 then Option.bind (zyq (x0.2.1, ())) fun q1 => bif q1.1 then Option.bind (zyq (x0.2.2.1, ())) fun q2 => bif q2.1 then bif decide (x0.2.2.2.2.2.2.2.2.2.1 ≥ 0) then some (true, ()) else some (false, ()) else some (false, ()) else some (false, ()) else some (false, ()) else some (false, ()) else bif q0.2.1 == 0 then bif x0.2.2.2.2.2.2.2.2.1 == q0.1 then some (false, ()) else some (false, ()) else some (false, ()) else bif q0.2.1 == 0 then bif x0.2.2.2.2.2.2.2.2.1 == q0.1 then some (false, ()) else some (false, ()) else some (false, ()) else bif q0.2.1 == 0 then bif x0.2.2.2.2.2.2.2.2.1 == q0.1 then some (false, ()) else some (false, ()) else some (false, ()) else bif q0.2.1 == 0 then bif x0.2.2.2.2.2.2.2.2.1 == q0.1 then some (false, ()) else some (false, ()) else some (false, ()) else bif q0.2.1 == 0 then bif x0.2.2.2.2.2.2.2.2.1 == q0.1 then some (false, ()) else some (false, ()) else some (false, ())
theorem z4K (K : Nat) : evF (En E0 false [zk1 zft, zEo zyq]) K Tryz.f185 0 zIF zIG = zJV zft zyq := funext fun (x0, ()) => by kernel_rfl
end
def ziq : zRN := zJV zbK zlC
theorem z4L : Sd Tryz.prog E0 (zDW ziq) := mkS (l := [zk1 zbK, zEo zlC]) ⟨zQr, z4J, trivial⟩ Tryz.func185 (by kernel_rfl) (z4K zbK zlC K0)
section
abbrev zR7 : Env := (En E0 false [])
abbrev zld : Type := (List zj) × Int × Int × Int
abbrev z0m : zld → St := fun (v0, v1, v2, v7) => St.mk [(0, AV.dat (Ty.sl zw) v0), (1, AV.dat tI v1), (2, AV.dat tI v2), (7, AV.dat tI v7)] []
def zle (k0 : zld → Option (Bool × Unit)) : zld → Option (Bool × Unit) := fun (v0, v1, v2, v7) =>
  bif decide (v7 < v1) then inR v7 ((List.length v0) : Int) (bif (ix zP v0 v7).1 then inR v7 ((List.length v0) : Int) (bif (ix zP v0 v7).2.2.2.2.2.2.2.2.2.1 == v2 then some (true, ()) else k0 (v0, v1, v2, wI (v7 + 1))) else k0 (v0, v1, v2, wI (v7 + 1))) else some (false, ())
abbrev zNY (K : Nat) : zld → Option (Bool × Unit) := iter (zle) K
theorem z0n (K : Nat) : ∀ n, evV (zR7) K Tryz.f186 0 zyk [1, 0, 1, 0] [] z0m n = iter (zle) n := zp fun n0 (v0, v1, v2, v7) => by kernel_rfl
def zJW (L0 : zld → Option (Bool × Unit)) : ((List zj) × (Int × (Int × Unit))) → Option (Bool × Unit) := fun (x0, x1, x2, ()) =>
  L0 (x0, x1, x2, 0)
theorem z4M (K : Nat) : evF (zR7) K Tryz.f186 0 zIH zyk = zJW (zNY K) := tr1 (T := zJW) (z0n K K) fun (x0, x1, x2, ()) => by kernel_rfl
end
def zlD : zRO := zJW (zNY K0)
theorem z4N : Sd Tryz.prog E0 (zDX zlD) := mkS (l := []) trivial Tryz.func186 (by kernel_rfl) (z4M K0)
section
variable (zcT : zRN) (zcU : zRO)
abbrev zNZ : Env := (En E0 false [zDW zcT, zDX zcU])
abbrev zhh : Type := (List zj) × Int
abbrev zV4 : zhh → St := fun (v0, v3) => St.mk [(0, AV.dat (Ty.sl zw) v0), (3, AV.dat tI v3)] []
def zhi (k0 : zhh → Option (Bool × Unit)) : zhh → Option (Bool × Unit) := fun (v0, v3) =>
  bif decide (v3 < ((List.length v0) : Int)) then inR v3 ((List.length v0) : Int) (bif (ix zP v0 v3).1 then inR v3 ((List.length v0) : Int) (bif (ix zP v0 v3).1 then inR v3 ((List.length v0) : Int) (Option.bind (zcT (ix zP v0 v3, ())) fun q0 => bif q0.1 then inR v3 ((List.length v0) : Int) (Option.bind (zcU (v0, v3, (ix zP v0 v3).2.2.2.2.2.2.2.2.2.1, ())) fun q1 => bif q1.1 then some (false, ()) else k0 (v0, wI (v3 + 1))) else some (false, ())) else k0 (v0, wI (v3 + 1))) else inR v3 ((List.length v0) : Int) (bif !eqI zw (ix zP v0 v3) (zb zw) then some (false, ()) else inR v3 ((List.length v0) : Int) (bif (ix zP v0 v3).1 then inR v3 ((List.length v0) : Int) (Option.bind (zcT (ix zP v0 v3, ())) fun q2 => bif q2.1 then inR v3 ((List.length v0) : Int) (Option.bind (zcU (v0, v3, (ix zP v0 v3).2.2.2.2.2.2.2.2.2.1, ())) fun q3 => bif q3.1 then some (false, ()) else k0 (v0, wI (v3 + 1))) else some (false, ())) else k0 (v0, wI (v3 + 1))))) else some (true, ())
abbrev zHK (K : Nat) : zhh → Option (Bool × Unit) := iter (zhi zcT zcU) K
theorem zV5 (K : Nat) : ∀ n, evV (zNZ zcT zcU) K Tryz.f107 0 zqB [1, 0, 1, 0] [] zV4 n = iter (zhi zcT zcU) n := zp fun n0 (v0, v3) => by kernel_rfl
def zBr (L0 : zhh → Option (Bool × Unit)) : ((List zj) × Unit) → Option (Bool × Unit) := fun (x0, ()) =>
  L0 (x0, 0)
theorem z0o (K : Nat) : evF (zNZ zcT zcU) K Tryz.f107 0 zzT zqB = zBr (zHK zcT zcU K) := tr1 (T := zBr) (zV5 zcT zcU K K) fun (x0, ()) => by kernel_rfl
end
def zlf : zNj := zBr (zHK ziq zlD K0)
theorem z0p : Sd Tryz.prog E0 (zwU zlf) := mkS (l := [zDW ziq, zDX zlD]) ⟨z4L, z4N, trivial⟩ Tryz.func107 (by kernel_rfl) (z0o ziq zlD K0)
section
def zJX : (Int × Unit) → Option (Bool × Unit) := fun (x0, ()) =>
  bif decide (x0 ≥ 0) then bif decide (x0 < 128) then some (true, ()) else some (false, ()) else some (false, ())
theorem z4O (K : Nat) : evF (En E0 false []) K Tryz.f245 0 zIX zIY = zJX := funext fun (x0, ()) => by kernel_rfl
end
def zlE : zRW := zJX
theorem z4P : Sd Tryz.prog E0 (zEp zlE) := mkS (l := []) trivial Tryz.func245 (by kernel_rfl) (z4O K0)
section
variable (zlF : zRW) (zft : zEn)
def zJY : (zH × Unit) → Option (Bool × Unit) := fun (x0, ()) =>
  bif decide (x0.1 > 4611686018427387904) then some (false, ()) else Option.bind (zlF (x0.2.1, ())) fun q0 => bif q0.1 then Option.bind (zlF (x0.2.2.1, ())) fun q1 => bif q1.1 then Option.bind (zlF (x0.2.2.2.1, ())) fun q2 => bif q2.1 then bif x0.2.2.2.2.1 == 3 then Option.bind (zlF (x0.2.2.2.2.2.2.2.2.2.1, ())) fun q3 => bif q3.1 then bif x0.2.2.2.2.2.1 == 0 then bif x0.2.2.2.2.2.2.1 == 0 then bif x0.2.2.2.2.2.2.2.1 == 0 then bif x0.2.2.2.2.2.2.2.2.1 == 0 then some (true, ()) else some (false, ()) else some (false, ()) else some (false, ()) else some (false, ()) else some (false, ()) else Option.bind (zft (x0.2.2.2.2.1, x0.2.2.2.2.2.2.2.1, x0.2.2.2.2.2.2.2.2.1, ())) fun q4 => bif q4.2.1 == 0 then bif x0.2.2.2.2.2.2.2.2.2.1 == 0 then bif decide (x0.2.2.2.2.2.1 ≥ 0) then bif decide (x0.2.2.2.2.2.1 < 4) then bif decide (x0.2.2.2.2.2.2.1 ≥ 0) then bif decide (x0.2.2.2.2.2.2.1 < 4) then bif x0.2.2.2.2.2.1 != x0.2.2.2.2.2.2.1 then some (true, ()) else some (false, ()) else some (false, ()) else some (false, ()) else some (false, ()) else some (false, ()) else some (false, ()) else some (false, ()) else some (false, ()) else some (false, ()) else some (false, ())
theorem z4Q (K : Nat) : evF (En E0 false [zEp zlF, zk1 zft]) K Tryz.f187 0 zII zIJ = zJY zlF zft := funext fun (x0, ()) => by kernel_rfl
end
def zir : zRP := zJY zlE zbK
theorem z4R : Sd Tryz.prog E0 (zDY zir) := mkS (l := [zEp zlE, zk1 zbK]) ⟨z4P, zQr, trivial⟩ Tryz.func187 (by kernel_rfl) (z4Q zlE zbK K0)
section
def zxZ : (zH × (zH × Unit)) → Option (Bool × Unit) := fun (x0, x1, ()) =>
  bif decide (x0.1 > x1.1) then some (true, ()) else bif x0.1 == x1.1 then bif decide (x0.2.1 > x1.2.1) then some (true, ()) else some (false, ()) else some (false, ())
theorem zX8 (K : Nat) : evF (En E0 false []) K Tryz.f188 0 zxd zxe = zxZ := funext fun (x0, x1, ()) => by kernel_rfl
end
def zcH : zKF := zxZ
theorem zX9 : Sd Tryz.prog E0 (zue zcH) := mkS (l := []) trivial Tryz.func188 (by kernel_rfl) (zX8 K0)
section
variable (zey : zRP) (zbl : zKF)
abbrev zN0 : Env := (En E0 false [zDY zey, zue zbl])
abbrev zhj : Type := (List zH) × Int
abbrev zV6 : zhj → St := fun (v0, v3) => St.mk [(0, AV.dat (Ty.sl zC) v0), (3, AV.dat tI v3)] []
def zhk (k0 : zhj → Option (Bool × Unit)) : zhj → Option (Bool × Unit) := fun (v0, v3) =>
  bif decide (v3 < ((List.length v0) : Int)) then inR v3 ((List.length v0) : Int) (Option.bind (zey (ix zcc v0 v3, ())) fun q0 => bif q0.1 then bif decide (v3 > 0) then inR v3 ((List.length v0) : Int) (inR (wI (v3 - 1)) ((List.length v0) : Int) (Option.bind (zbl (ix zcc v0 v3, List.getD v0 (Int.toNat (wI (v3 - 1))) (zb zC), ())) fun q1 => bif q1.1 then k0 (v0, wI (v3 + 1)) else some (false, ()))) else k0 (v0, wI (v3 + 1)) else some (false, ())) else some (true, ())
abbrev zHL (K : Nat) : zhj → Option (Bool × Unit) := iter (zhk zey zbl) K
theorem zV7 (K : Nat) : ∀ n, evV (zN0 zey zbl) K Tryz.f108 0 zqC [1, 0, 1, 0] [] zV6 n = iter (zhk zey zbl) n := zp fun n0 (v0, v3) => by kernel_rfl
def zBs (L0 : zhj → Option (Bool × Unit)) : ((List zH) × Unit) → Option (Bool × Unit) := fun (x0, ()) =>
  L0 (x0, 0)
theorem z0q (K : Nat) : evF (zN0 zey zbl) K Tryz.f108 0 zzU zqC = zBs (zHL zey zbl K) := tr1 (T := zBs) (zV7 zey zbl K K) fun (x0, ()) => by kernel_rfl
end
def zlg : zNk := zBs (zHL zir zcH K0)
theorem z0r : Sd Tryz.prog E0 (zwV zlg) := mkS (l := [zDY zir, zue zcH]) ⟨z4R, zX9, trivial⟩ Tryz.func108 (by kernel_rfl) (z0q zir zcH K0)
section
def zBt : (zf × (qi × Unit)) → Option (Bool × Unit) := fun (x0, x1, ()) =>
  bif decide (x1.1 < 0) then some (false, ()) else bif decide (x1.1 ≥ ((List.length x0.2.1) : Int)) then some (false, ()) else bif decide (x1.2.1 < 0) then some (false, ()) else inR x1.1 ((List.length x0.2.1) : Int) (bif decide (x1.2.1 ≥ ((List.length (ix za x0.2.1 x1.1).1) : Int)) then some (false, ()) else inR x1.1 ((List.length x0.2.1) : Int) (inR x1.2.1 ((List.length (ix za x0.2.1 x1.1).1) : Int) (bif (List.getD (ix za x0.2.1 x1.1).1 (Int.toNat x1.2.1) (zb jz)).1 then some (true, ()) else some (false, ()))))
theorem z0s (K : Nat) : evF (En E0 false []) K Tryz.f19 0 zzb zzc = zBt := funext fun (x0, x1, ()) => by kernel_rfl
end
def zaL : zzd := zBt
theorem zN1 : Sd Tryz.prog E0 (ziN zaL) := mkS (l := []) trivial Tryz.func19 (by kernel_rfl) (z0s K0)
section
def zJZ : (ze × (Int × Unit)) → Option (Bool × Unit) := fun (x0, x1, ()) =>
  bif decide (x1 ≥ 0) then bif decide (x1 < ((List.length x0.2.2.1) : Int)) then some (true, ()) else some (false, ()) else some (false, ())
theorem z4S (K : Nat) : evF (En E0 false []) K Tryz.f90 0 zIj zIk = zJZ := funext fun (x0, x1, ()) => by kernel_rfl
end
def z6 : zlu := zJZ
theorem zqj : Sd Tryz.prog E0 (yx z6) := mkS (l := []) trivial Tryz.func90 (by kernel_rfl) (z4S K0)
section
variable (vd : zNi) (ve : zNj) (vf : zNk) (ji : zzd) (zg : zlu)
abbrev zeL : Env := (En E0 false [zwT vd, zwU ve, zwV vf, ziN ji, yx zg])
abbrev zfu : Type := Int × ze × zf
abbrev zF1 : zfu → St := fun (v9, o0, o1) => St.mk [(2, AV.bp 0 []), (3, AV.bp 1 []), (9, AV.dat tI v9)] [Obj.bx (AV.dat zD o0) false, Obj.bx (AV.dat zX o1) false]
abbrev zfv : Type := Int × ze × zf
abbrev zF2 : zfv → St := fun (v7, o0, o1) => St.mk [(2, AV.bp 0 []), (3, AV.bp 1 []), (7, AV.dat tI v7)] [Obj.bx (AV.dat zD o0) false, Obj.bx (AV.dat zX o1) false]
abbrev zfw : Type := Int × ze × zf
abbrev zTJ : zfw → St := fun (v5, o0, o1) => St.mk [(2, AV.bp 0 []), (3, AV.bp 1 []), (5, AV.dat tI v5)] [Obj.bx (AV.dat zD o0) false, Obj.bx (AV.dat zX o1) false]
def zkQ (k2 : zfu → Option (Bool × Unit)) : zfu → Option (Bool × Unit) := fun (v9, o0, o1) =>
  bif decide (v9 < ((List.length o1.2.2.2.2.2.1) : Int)) then inR v9 ((List.length o1.2.2.2.2.2.1) : Int) (bif ix (0 : Int) o1.2.2.2.2.2.1 v9 != -1 then inR v9 ((List.length o1.2.2.2.2.2.1) : Int) (Option.bind (zg (o0, ix (0 : Int) o1.2.2.2.2.2.1 v9, ())) fun q6 => bif q6.1 then k2 (wI (v9 + 1), o0, o1) else some (false, ())) else k2 (wI (v9 + 1), o0, o1)) else some (true, ())
abbrev zfx (K : Nat) : zfu → Option (Bool × Unit) := iter (zkQ zg) K
theorem zTK (K : Nat) : ∀ n, evV (zeL vd ve vf ji zg) K Tryz.f41 0 zaW [1, 1, 1, 1, 0, 1, 0] [] zF1 n = iter (zkQ zg) n := zp fun n2 (v9, o0, o1) => by kernel_rfl
def zfy (L2 : zfu → Option (Bool × Unit)) (k1 : zfv → Option (Bool × Unit)) : zfv → Option (Bool × Unit) := fun (v7, o0, o1) =>
  bif decide (v7 < ((List.length o1.2.2.2.2.1) : Int)) then inR v7 ((List.length o1.2.2.2.2.1) : Int) (bif decide ((ix zcc o1.2.2.2.2.1 v7).2.1 ≥ ((List.length o0.2.1) : Int)) then some (false, ()) else inR (ix zcc o1.2.2.2.2.1 v7).2.1 ((List.length o0.2.1) : Int) (bif (ix zcc o1.2.2.2.2.1 v7).2.2.1 != List.getD o0.2.1 (Int.toNat (ix zcc o1.2.2.2.2.1 v7).2.1) (0 : Int) then some (false, ()) else Option.bind (zg (o0, (ix zcc o1.2.2.2.2.1 v7).2.2.2.1, ())) fun q5 => bif q5.1 then bif decide ((ix zcc o1.2.2.2.2.1 v7).1 > o1.1) then some (false, ()) else k1 (wI (v7 + 1), o0, o1) else some (false, ()))) else L2 (0, o0, o1)
abbrev zfz (K : Nat) : zfv → Option (Bool × Unit) := iter (fun k1 => zfy zg (zfx zg K) k1) K
theorem zTL (K : Nat) : ∀ n, evV (zeL vd ve vf ji zg) K Tryz.f41 0 zaW [1, 1, 1, 0, 1, 0] [] zF2 n = iter (fun k1 => zfy zg (zfx zg K) k1) n := vj (B := fun L2 k1 => zfy zg L2 k1) (V1 := fun n1 => evV (zeL vd ve vf ji zg) K Tryz.f41 0 zaW [1, 1, 1, 1, 0, 1, 0] [] zF1 K) (W1 := fun k1 => (zfx zg K)) (fun n1 => zTK vd ve vf ji zg K K) fun n1 (v7, o0, o1) => by kernel_rfl
def zfA (L1 : zfv → Option (Bool × Unit)) (k0 : zfw → Option (Bool × Unit)) : zfw → Option (Bool × Unit) := fun (v5, o0, o1) =>
  bif decide (v5 < ((List.length o1.2.2.2.1) : Int)) then inR v5 ((List.length o1.2.2.2.1) : Int) (bif (ix zP o1.2.2.2.1 v5).1 then bif decide ((ix zP o1.2.2.2.1 v5).2.1 ≥ ((List.length o0.1) : Int)) then some (false, ()) else Option.bind (zg (o0, (ix zP o1.2.2.2.1 v5).2.2.1, ())) fun q4 => bif q4.1 then bif decide ((ix zP o1.2.2.2.1 v5).2.2.2.2.2.2.2.2.2.1 ≥ ((List.length o1.2.2.2.2.1) : Int)) then some (false, ()) else k0 (wI (v5 + 1), o0, o1) else some (false, ()) else k0 (wI (v5 + 1), o0, o1)) else L1 (0, o0, o1)
abbrev zsI (K : Nat) : zfw → Option (Bool × Unit) := iter (fun k0 => zfA zg (zfz zg K) k0) K
theorem zTM (K : Nat) : ∀ n, evV (zeL vd ve vf ji zg) K Tryz.f41 0 zaW [1, 1, 0, 1, 0] [] zTJ n = iter (fun k0 => zfA zg (zfz zg K) k0) n := vj (B := fun L1 k0 => zfA zg L1 k0) (V1 := fun n0 => evV (zeL vd ve vf ji zg) K Tryz.f41 0 zaW [1, 1, 1, 0, 1, 0] [] zF2 K) (W1 := fun k0 => (zfz zg K)) (fun n0 => zTL vd ve vf ji zg K K) fun n0 (v5, o0, o1) => by kernel_rfl
def zoy (L0 : zfw → Option (Bool × Unit)) : (ze × (zf × Unit)) → Option (Bool × Unit) := fun (x0, x1, ()) =>
  Option.bind (vd (x0, x1.2.2.1, ())) fun q0 => bif q0.1 then Option.bind (ve (x1.2.2.2.1, ())) fun q1 => bif q1.1 then Option.bind (vf (x1.2.2.2.2.1, ())) fun q2 => bif q2.1 then Option.bind (ji (x1, zb z5, ())) fun q3 => bif q3.1 then L0 (0, x0, x1) else some (false, ()) else some (false, ()) else some (false, ()) else some (false, ())
theorem zYa (K : Nat) : evF (zeL vd ve vf ji zg) K Tryz.f41 0 zwn zaW = zoy vd ve vf ji (zsI zg K) := tr1 (T := zoy vd ve vf ji) (zTM vd ve vf ji zg K K) fun (x0, x1, ()) => by kernel_rfl
end
def zeM : zKq := zoy zgu zlf zlg zaL (zsI z6 K0)
theorem zYb : Sd Tryz.prog E0 (zte zeM) := mkS (l := [zwT zgu, zwU zlf, zwV zlg, ziN zaL, yx z6]) ⟨z0j, z0p, z0r, zN1, zqj, trivial⟩ Tryz.func41 (by kernel_rfl) (zYa zgu zlf zlg zaL z6 K0)
section
variable (zi : zqz)
abbrev zN2 : Env := (En E0 false [zcm zi])
abbrev zhl : Type := (List jK) × Int
abbrev zV8 : zhl → St := fun (v0, v3) => St.mk [(0, AV.dat (Ty.sl jz) v0), (3, AV.dat tI v3)] []
def zhm (k0 : zhl → Option (Bool × Unit)) : zhl → Option (Bool × Unit) := fun (v0, v3) =>
  bif decide (v3 < ((List.length v0) : Int)) then inR v3 ((List.length v0) : Int) (bif (ix zqq v0 v3).1 then inR v3 ((List.length v0) : Int) (Option.bind (zi ((ix zqq v0 v3).2.1, ())) fun q0 => bif q0.1 then inR v3 ((List.length v0) : Int) (bif (ix zqq v0 v3).1 then k0 (v0, wI (v3 + 1)) else inR v3 ((List.length v0) : Int) (bif !ByteArray.toList (ix zqq v0 v3).2.1 == ByteArray.toList (ByteArray.mk #[]) then some (false, ()) else k0 (v0, wI (v3 + 1)))) else some (false, ())) else inR v3 ((List.length v0) : Int) (Option.bind (zi ((ix zqq v0 v3).2.1, ())) fun q1 => bif q1.1 then some (false, ()) else inR v3 ((List.length v0) : Int) (bif (ix zqq v0 v3).1 then k0 (v0, wI (v3 + 1)) else inR v3 ((List.length v0) : Int) (bif !ByteArray.toList (ix zqq v0 v3).2.1 == ByteArray.toList (ByteArray.mk #[]) then some (false, ()) else k0 (v0, wI (v3 + 1)))))) else some (true, ())
abbrev zHM (K : Nat) : zhl → Option (Bool × Unit) := iter (zhm zi) K
theorem zV9 (K : Nat) : ∀ n, evV (zN2 zi) K Tryz.f109 0 zqD [1, 0, 1, 0] [] zV8 n = iter (zhm zi) n := zp fun n0 (v0, v3) => by kernel_rfl
def zBu (L0 : zhl → Option (Bool × Unit)) : ((List jK) × Unit) → Option (Bool × Unit) := fun (x0, ()) =>
  L0 (x0, 0)
theorem z0t (K : Nat) : evF (zN2 zi) K Tryz.f109 0 zzV zqD = zBu (zHM zi K) := tr1 (T := zBu) (zV9 zi K K) fun (x0, ()) => by kernel_rfl
end
def zlh : zNl := zBu (zHM jH K0)
theorem z0u : Sd Tryz.prog E0 (zwW zlh) := mkS (l := [zcm jH]) ⟨zBm, trivial⟩ Tryz.func109 (by kernel_rfl) (z0t jH K0)
section
def zBv : (qi × Unit) → Option (Bool × Unit) := fun (x0, ()) =>
  bif decide (x0.1 ≥ 0) then bif decide (x0.1 < 128) then bif decide (x0.2.1 ≥ 0) then bif decide (x0.2.1 < 128) then some (true, ()) else some (false, ()) else some (false, ()) else some (false, ()) else some (false, ())
theorem z0v (K : Nat) : evF (En E0 false []) K Tryz.f189 0 zAt zAu = zBv := funext fun (x0, ()) => by kernel_rfl
end
def yb : zAv := zBv
theorem zN3 : Sd Tryz.prog E0 (ziU yb) := mkS (l := []) trivial Tryz.func189 (by kernel_rfl) (z0v K0)
section
variable (zN : zAv)
abbrev zli : Env := (En E0 false [ziU zN])
abbrev zhn : Type := (List qd) × Int × Int × qd
abbrev zHN : zhn → St := fun (v0, v3, v5, o0) => St.mk [(0, AV.dat (Ty.sl qt) v0), (3, AV.dat tI v3), (4, AV.bp 0 []), (5, AV.dat tI v5)] [Obj.bx (AV.dat qt o0) false]
abbrev zbL : Type := (List qd) × Int
abbrev zHO : zbL → St := fun (v0, v3) => St.mk [(0, AV.dat (Ty.sl qt) v0), (3, AV.dat tI v3)] []
def zho (k0 : zbL → Option (Bool × Unit)) (k1 : zhn → Option (Bool × Unit)) : zhn → Option (Bool × Unit) := fun (v0, v3, v5, o0) =>
  bif decide (v5 < v3) then bif o0.1 then inR v5 ((List.length v0) : Int) (bif (ix qG v0 v5).1 then inR v5 ((List.length v0) : Int) (bif eqI z5 (ix qG v0 v5).2.1 o0.2.1 then inR v5 ((List.length v0) : Int) (bif (ix qG v0 v5).2.2.2.1 == o0.2.2.2.1 then some (false, ()) else k1 (v0, v3, wI (v5 + 1), o0)) else k1 (v0, v3, wI (v5 + 1), o0)) else k1 (v0, v3, wI (v5 + 1), o0)) else k1 (v0, v3, wI (v5 + 1), o0) else k0 (v0, wI (v3 + 1))
abbrev zhp (K : Nat) (k0 : zbL → Option (Bool × Unit)) : zhn → Option (Bool × Unit) := iter (fun k1 => zho k0 k1) K
theorem zWa (K : Nat) (n0 : Nat) : ∀ n, evV (zli zN) K Tryz.f110 0 zdK [1, 0, 1, 0, 0, 1, 0, 0, 1, 1, 1, 0] [n0] zHN n = iter (fun k1 => zho (evV (zli zN) K Tryz.f110 0 zdK [1, 0, 1, 0] [] zHO n0) k1) n := zp fun n1 (v0, v3, v5, o0) => by kernel_rfl
def zdA (L1 : zhn → Option (Bool × Unit)) (k0 : zbL → Option (Bool × Unit)) : zbL → Option (Bool × Unit) := fun (v0, v3) =>
  bif decide (v3 < ((List.length v0) : Int)) then inR v3 ((List.length v0) : Int) (bif (ix qG v0 v3).1 then bif (ix qG v0 v3).1 then Option.bind (zN ((ix qG v0 v3).2.1, ())) fun q0 => bif q0.1 then Option.bind (zN ((ix qG v0 v3).2.2.1, ())) fun q1 => bif q1.1 then bif decide ((ix qG v0 v3).2.2.2.1 < 0) then some (false, ()) else bif decide ((ix qG v0 v3).2.2.2.1 > 5) then some (false, ()) else L1 (v0, v3, 0, ix qG v0 v3) else some (false, ()) else some (false, ()) else L1 (v0, v3, 0, ix qG v0 v3) else bif !eqI qt (ix qG v0 v3) (zb qt) then some (false, ()) else bif (ix qG v0 v3).1 then Option.bind (zN ((ix qG v0 v3).2.1, ())) fun q2 => bif q2.1 then Option.bind (zN ((ix qG v0 v3).2.2.1, ())) fun q3 => bif q3.1 then bif decide ((ix qG v0 v3).2.2.2.1 < 0) then some (false, ()) else bif decide ((ix qG v0 v3).2.2.2.1 > 5) then some (false, ()) else L1 (v0, v3, 0, ix qG v0 v3) else some (false, ()) else some (false, ()) else L1 (v0, v3, 0, ix qG v0 v3)) else some (true, ())
abbrev zHP (K : Nat) : zbL → Option (Bool × Unit) := iter (fun k0 => zdA zN (zhp K k0) k0) K
theorem zWb (K : Nat) : ∀ n, evV (zli zN) K Tryz.f110 0 zdK [1, 0, 1, 0] [] zHO n = iter (fun k0 => zdA zN (zhp K k0) k0) n := vj (B := fun L1 k0 => zdA zN L1 k0) (V1 := fun n0 => evV (zli zN) K Tryz.f110 0 zdK [1, 0, 1, 0, 0, 1, 0, 0, 1, 1, 1, 0] [n0] zHN K) (W1 := fun k0 => (zhp K k0)) (fun n0 => zWa zN K n0 K) fun n0 (v0, v3) => by kernel_rfl
def zBw (L0 : zbL → Option (Bool × Unit)) : ((List qd) × Unit) → Option (Bool × Unit) := fun (x0, ()) =>
  L0 (x0, 0)
theorem z0w (K : Nat) : evF (zli zN) K Tryz.f110 0 zzW zdK = zBw (zHP zN K) := tr1 (T := zBw) (zWb zN K K) fun (x0, ()) => by kernel_rfl
end
def zlj : zNm := zBw (zHP yb K0)
theorem z0x : Sd Tryz.prog E0 (zwX zlj) := mkS (l := [ziU yb]) ⟨zN3, trivial⟩ Tryz.func110 (by kernel_rfl) (z0w yb K0)
section
def zJ0 : (Int × Unit) → Option (Bool × Unit) := fun (x0, ()) =>
  bif decide (x0 ≥ 0) then bif decide (x0 < 128) then some (true, ()) else some (false, ()) else some (false, ())
theorem z4T (K : Nat) : evF (En E0 false []) K Tryz.f190 0 zIK zIL = zJ0 := funext fun (x0, ()) => by kernel_rfl
end
def zis : zRQ := zJ0
theorem z4U : Sd Tryz.prog E0 (zDZ zis) := mkS (l := []) trivial Tryz.func190 (by kernel_rfl) (z4T K0)
section
variable (zcV : zRQ) (zN : zAv) (zi : zqz)
abbrev zN4 : Env := (En E0 false [zDZ zcV, ziU zN, zcm zi])
abbrev zhq : Type := (List qb) × Int
abbrev zWc : zhq → St := fun (v0, v3) => St.mk [(0, AV.dat (Ty.sl zW) v0), (3, AV.dat tI v3)] []
def zhr (k0 : zhq → Option (Bool × Unit)) : zhq → Option (Bool × Unit) := fun (v0, v3) =>
  bif decide (v3 < ((List.length v0) : Int)) then inR v3 ((List.length v0) : Int) (bif (ix zJ v0 v3).1 then bif (ix zJ v0 v3).2.2.1 == 1 then Option.bind (zcV ((ix zJ v0 v3).2.2.2.1, ())) fun q0 => bif q0.1 then bif eqI z5 (ix zJ v0 v3).2.2.2.2.1 (zb z5) then bif (ix zJ v0 v3).2.2.1 == 2 then bif (ix zJ v0 v3).2.2.2.1 == 0 then Option.bind (zN ((ix zJ v0 v3).2.2.2.2.1, ())) fun q1 => bif q1.1 then Option.bind (zi ((ix zJ v0 v3).2.1, ())) fun q2 => bif q2.1 then k0 (v0, wI (v3 + 1)) else some (false, ()) else Option.bind (zi ((ix zJ v0 v3).2.1, ())) fun q3 => bif q3.1 then k0 (v0, wI (v3 + 1)) else some (false, ()) else Option.bind (zi ((ix zJ v0 v3).2.1, ())) fun q4 => bif q4.1 then k0 (v0, wI (v3 + 1)) else some (false, ()) else Option.bind (zi ((ix zJ v0 v3).2.1, ())) fun q5 => bif q5.1 then k0 (v0, wI (v3 + 1)) else some (false, ()) else bif (ix zJ v0 v3).2.2.1 == 2 then bif (ix zJ v0 v3).2.2.2.1 == 0 then Option.bind (zN ((ix zJ v0 v3).2.2.2.2.1, ())) fun q6 => bif q6.1 then Option.bind (zi ((ix zJ v0 v3).2.1, ())) fun q7 => bif q7.1 then k0 (v0, wI (v3 + 1)) else some (false, ()) else Option.bind (zi ((ix zJ v0 v3).2.1, ())) fun q8 => bif q8.1 then some (false, ()) else some (false, ()) else Option.bind (zi ((ix zJ v0 v3).2.1, ())) fun q9 => bif q9.1 then some (false, ()) else some (false, ()) else Option.bind (zi ((ix zJ v0 v3).2.1, ())) fun q10 => bif q10.1 then some (false, ()) else some (false, ()) else bif (ix zJ v0 v3).2.2.1 == 2 then bif (ix zJ v0 v3).2.2.2.1 == 0 then Option.bind (zN ((ix zJ v0 v3).2.2.2.2.1, ())) fun q11 => bif q11.1 then Option.bind (zi ((ix zJ v0 v3).2.1, ())) fun q12 => bif q12.1 then k0 (v0, wI (v3 + 1)) else some (false, ()) else Option.bind (zi ((ix zJ v0 v3).2.1, ())) fun q13 => bif q13.1 then some (false, ()) else some (false, ()) else Option.bind (zi ((ix zJ v0 v3).2.1, ())) fun q14 => bif q14.1 then some (false, ()) else some (false, ()) else Option.bind (zi ((ix zJ v0 v3).2.1, ())) fun q15 => bif q15.1 then some (false, ()) else some (false, ()) else bif (ix zJ v0 v3).2.2.1 == 3 then Option.bind (zcV ((ix zJ v0 v3).2.2.2.1, ())) fun q16 => bif q16.1 then bif eqI z5 (ix zJ v0 v3).2.2.2.2.1 (zb z5) then bif (ix zJ v0 v3).2.2.1 == 2 then bif (ix zJ v0 v3).2.2.2.1 == 0 then Option.bind (zN ((ix zJ v0 v3).2.2.2.2.1, ())) fun q17 => bif q17.1 then Option.bind (zi ((ix zJ v0 v3).2.1, ())) fun q18 => bif q18.1 then k0 (v0, wI (v3 + 1)) else some (false, ()) else Option.bind (zi ((ix zJ v0 v3).2.1, ())) fun q19 => bif q19.1 then k0 (v0, wI (v3 + 1)) else some (false, ()) else Option.bind (zi ((ix zJ v0 v3).2.1, ())) fun q20 => bif q20.1 then k0 (v0, wI (v3 + 1)) else some (false, ()) else Option.bind (zi ((ix zJ v0 v3).2.1, ())) fun q21 => bif q21.1 then k0 (v0, wI (v3 + 1)) else some (false, ()) else bif (ix zJ v0 v3).2.2.1 == 2 then bif (ix zJ v0 v3).2.2.2.1 == 0 then Option.bind (zN ((ix zJ v0 v3).2.2.2.2.1, ())) fun q22 => bif q22.1 then Option.bind (zi ((ix zJ v0 v3).2.1, ())) fun q23 => bif q23.1 then k0 (v0, wI (v3 + 1)) else some (false, ()) else Option.bind (zi ((ix zJ v0 v3).2.1, ())) fun q24 => bif q24.1 then some (false, ()) else some (false, ()) else Option.bind (zi ((ix zJ v0 v3).2.1, ())) fun q25 => bif q25.1 then some (false, ()) else some (false, ()) else Option.bind (zi ((ix zJ v0 v3).2.1, ())) fun q26 => bif q26.1 then some (false, ()) else some (false, ()) else bif (ix zJ v0 v3).2.2.1 == 2 then bif (ix zJ v0 v3).2.2.2.1 == 0 then Option.bind (zN ((ix zJ v0 v3).2.2.2.2.1, ())) fun q27 => bif q27.1 then Option.bind (zi ((ix zJ v0 v3).2.1, ())) fun q28 => bif q28.1 then k0 (v0, wI (v3 + 1)) else some (false, ()) else Option.bind (zi ((ix zJ v0 v3).2.1, ())) fun q29 => bif q29.1 then some (false, ()) else some (false, ()) else Option.bind (zi ((ix zJ v0 v3).2.1, ())) fun q30 => bif q30.1 then some (false, ()) else some (false, ()) else Option.bind (zi ((ix zJ v0 v3).2.1, ())) fun q31 => bif q31.1 then some (false, ()) else some (false, ()) else bif (ix zJ v0 v3).2.2.1 == 2 then bif (ix zJ v0 v3).2.2.2.1 == 0 then Option.bind (zN ((ix zJ v0 v3).2.2.2.2.1, ())) fun q32 => bif q32.1 then Option.bind (zi ((ix zJ v0 v3).2.1, ())) fun q33 => bif q33.1 then k0 (v0, wI (v3 + 1)) else some (false, ()) else Option.bind (zi ((ix zJ v0 v3).2.1, ())) fun q34 => bif q34.1 then some (false, ()) else some (false, ()) else Option.bind (zi ((ix zJ v0 v3).2.1, ())) fun q35 => bif q35.1 then some (false, ()) else some (false, ()) else Option.bind (zi ((ix zJ v0 v3).2.1, ())) fun q36 => bif q36.1 then some (false, ()) else some (false, ()) else bif !eqI zW (ix zJ v0 v3) (zb zW) then some (false, ()) else k0 (v0, wI (v3 + 1))) else some (true, ())
abbrev zHQ (K : Nat) : zhq → Option (Bool × Unit) := iter (zhr zcV zN zi) K
theorem zWd (K : Nat) : ∀ n, evV (zN4 zcV zN zi) K Tryz.f111 0 zqE [1, 0, 1, 0] [] zWc n = iter (zhr zcV zN zi) n := zp fun n0 (v0, v3) => by kernel_rfl
def zBx (L0 : zhq → Option (Bool × Unit)) : ((List qb) × Unit) → Option (Bool × Unit) := fun (x0, ()) =>
  L0 (x0, 0)
theorem z0y (K : Nat) : evF (zN4 zcV zN zi) K Tryz.f111 0 zzX zqE = zBx (zHQ zcV zN zi K) := tr1 (T := zBx) (zWd zcV zN zi K K) fun (x0, ()) => by kernel_rfl
end
def zlk : zNn := zBx (zHQ zis yb jH K0)
theorem z0z : Sd Tryz.prog E0 (zwY zlk) := mkS (l := [zDZ zis, ziU yb, zcm jH]) ⟨z4U, zN3, zBm, trivial⟩ Tryz.func111 (by kernel_rfl) (z0y zis yb jH K0)
section
def zJ1 : (Int × Unit) → Option (Bool × Unit) := fun (x0, ()) =>
  bif decide (x0 ≥ 0) then bif decide (x0 < 128) then some (true, ()) else some (false, ()) else some (false, ())
theorem z4V (K : Nat) : evF (En E0 false []) K Tryz.f191 0 zIM zIN = zJ1 := funext fun (x0, ()) => by kernel_rfl
end
def zit : zRR := zJ1
theorem z4W : Sd Tryz.prog E0 (zD0 zit) := mkS (l := []) trivial Tryz.func191 (by kernel_rfl) (z4V K0)
section
def zJ2 : (Int × Unit) → Option (Bool × Unit) := fun (x0, ()) =>
  bif decide (x0 ≥ 32) then bif decide (x0 ≤ 126) then some (true, ()) else some (false, ()) else some (false, ())
theorem z4X (K : Nat) : evF (En E0 false []) K Tryz.f246 0 zIZ zI0 = zJ2 := funext fun (x0, ()) => by kernel_rfl
end
def ziu : zRX := zJ2
theorem z4Y : Sd Tryz.prog E0 (zEq ziu) := mkS (l := []) trivial Tryz.func246 (by kernel_rfl) (z4X K0)
section
variable (zez : zRX)
abbrev zQs : Env := (En E0 false [zEq zez])
abbrev zjE : Type := ByteArray × Int
abbrev zYc : zjE → St := fun (v0, v3) => St.mk [(0, AV.dat Ty.str v0), (3, AV.dat tI v3)] []
def zoz (k0 : zjE → Option (Bool × Unit)) : zjE → Option (Bool × Unit) := fun (v0, v3) =>
  bif decide (v3 < (↑(ByteArray.size v0) : Int)) then inR v3 (↑(ByteArray.size v0) : Int) (Option.bind (zez ((↑(UInt8.toNat (List.getD (Array.toList (ByteArray.data v0)) (Int.toNat v3) 0)) : Int), ())) fun q0 => bif q0.1 then k0 (v0, wI (v3 + 1)) else some (false, ())) else some (true, ())
abbrev zx0 (K : Nat) : zjE → Option (Bool × Unit) := iter (zoz zez) K
theorem zYd (K : Nat) : ∀ n, evV (zQs zez) K Tryz.f192 0 zuf [1, 1, 0, 1, 0] [] zYc n = iter (zoz zez) n := zp fun n0 (v0, v3) => by kernel_rfl
def zvl (L0 : zjE → Option (Bool × Unit)) : (ByteArray × Unit) → Option (Bool × Unit) := fun (x0, ()) =>
  bif (↑(ByteArray.size x0) : Int) == 0 then some (false, ()) else bif decide ((↑(ByteArray.size x0) : Int) > 40) then some (false, ()) else bif decide (0 < (↑(ByteArray.size x0) : Int)) then bif (↑(UInt8.toNat (List.getD (Array.toList (ByteArray.data x0)) (Int.toNat 0) 0)) : Int) == 32 then some (false, ()) else inR (wI ((↑(ByteArray.size x0) : Int) - 1)) (↑(ByteArray.size x0) : Int) (bif (↑(UInt8.toNat (List.getD (Array.toList (ByteArray.data x0)) (Int.toNat (wI ((↑(ByteArray.size x0) : Int) - 1))) 0)) : Int) == 32 then some (false, ()) else L0 (x0, 0)) else none
theorem z23 (K : Nat) : evF (zQs zez) K Tryz.f192 0 zD1 zuf = zvl (zx0 zez K) := tr1 (T := zvl) (zYd zez K K) fun (x0, ()) => by kernel_rfl
end
def zfB : zPn := zvl (zx0 ziu K0)
theorem z24 : Sd Tryz.prog E0 (zAw zfB) := mkS (l := [zEq ziu]) ⟨z4Y, trivial⟩ Tryz.func192 (by kernel_rfl) (z23 ziu K0)
section
variable (zbo : zRR) (zdh : zPn)
abbrev zN5 : Env := (En E0 false [zD0 zbo, zAw zdh])
abbrev zhs : Type := (List qy) × Int
abbrev zWe : zhs → St := fun (v0, v3) => St.mk [(0, AV.dat (Ty.sl qA) v0), (3, AV.dat tI v3)] []
def zht (k0 : zhs → Option (Bool × Unit)) : zhs → Option (Bool × Unit) := fun (v0, v3) =>
  bif decide (v3 < ((List.length v0) : Int)) then inR v3 ((List.length v0) : Int) (bif (ix zfG v0 v3).1 then Option.bind (zbo ((ix zfG v0 v3).2.1, ())) fun q0 => bif q0.1 then Option.bind (zbo ((ix zfG v0 v3).2.2.1, ())) fun q1 => bif q1.1 then Option.bind (zbo ((ix zfG v0 v3).2.2.2.1, ())) fun q2 => bif q2.1 then Option.bind (zdh ((ix zfG v0 v3).2.2.2.2.1, ())) fun q3 => bif q3.1 then bif (ix zfG v0 v3).1 then k0 (v0, wI (v3 + 1)) else bif !eqI qA (ix zfG v0 v3) (zb qA) then some (false, ()) else k0 (v0, wI (v3 + 1)) else some (false, ()) else some (false, ()) else some (false, ()) else some (false, ()) else bif (ix zfG v0 v3).1 then k0 (v0, wI (v3 + 1)) else bif !eqI qA (ix zfG v0 v3) (zb qA) then some (false, ()) else k0 (v0, wI (v3 + 1))) else some (true, ())
abbrev zHR (K : Nat) : zhs → Option (Bool × Unit) := iter (zht zbo zdh) K
theorem zWf (K : Nat) : ∀ n, evV (zN5 zbo zdh) K Tryz.f112 0 zqF [1, 0, 1, 0] [] zWe n = iter (zht zbo zdh) n := zp fun n0 (v0, v3) => by kernel_rfl
def zBy (L0 : zhs → Option (Bool × Unit)) : ((List qy) × Unit) → Option (Bool × Unit) := fun (x0, ()) =>
  L0 (x0, 0)
theorem z0A (K : Nat) : evF (zN5 zbo zdh) K Tryz.f112 0 zzY zqF = zBy (zHR zbo zdh K) := tr1 (T := zBy) (zWf zbo zdh K K) fun (x0, ()) => by kernel_rfl
end
def zll : zNo := zBy (zHR zit zfB K0)
theorem z0B : Sd Tryz.prog E0 (zwZ zll) := mkS (l := [zD0 zit, zAw zfB]) ⟨z4W, z24, trivial⟩ Tryz.func112 (by kernel_rfl) (z0A zit zfB K0)
section
def zJ3 : (Int × Unit) → Option (Bool × Unit) := fun (x0, ()) =>
  bif decide (x0 ≥ 0) then bif decide (x0 < 128) then some (true, ()) else some (false, ()) else some (false, ())
theorem z4Z (K : Nat) : evF (En E0 false []) K Tryz.f247 0 zI1 zI2 = zJ3 := funext fun (x0, ()) => by kernel_rfl
end
def zlG : zRY := zJ3
theorem z40 : Sd Tryz.prog E0 (zEr zlG) := mkS (l := []) trivial Tryz.func247 (by kernel_rfl) (z4Z K0)
section
def zJ4 : (zmq × Unit) → Option (Bool × Unit) := fun (x0, ()) =>
  bif decide (x0.1 ≥ 0) then bif decide (x0.1 < 4) then bif decide (x0.2.1 ≤ 4611686018427387904) then bif decide (x0.2.2.1 ≥ -1) then bif decide (x0.2.2.1 < 128) then some (true, ()) else some (false, ()) else some (false, ()) else some (false, ()) else some (false, ()) else some (false, ())
theorem z41 (K : Nat) : evF (En E0 false []) K Tryz.f248 0 zI3 zI4 = zJ4 := funext fun (x0, ()) => by kernel_rfl
end
def zlH : zRZ := zJ4
theorem z42 : Sd Tryz.prog E0 (zEs zlH) := mkS (l := []) trivial Tryz.func248 (by kernel_rfl) (z41 K0)
section
variable (yL : zRY) (yM : zRZ)
def zF3 : (zn × Unit) → Option (Bool × Unit) := fun (x0, ()) =>
  bif decide (x0.2.2.2.1.2.1 > 0) then Option.bind (yL (x0.2.1, ())) fun q0 => bif q0.1 then Option.bind (yL (x0.2.2.1, ())) fun q1 => bif q1.1 then bif x0.2.1 != x0.2.2.1 then Option.bind (yM (x0.2.2.2.1, ())) fun q2 => bif q2.1 then Option.bind (yM (x0.2.2.2.2.1, ())) fun q3 => bif q3.1 then some (true, ()) else some (false, ()) else some (false, ()) else some (false, ()) else some (false, ()) else some (false, ()) else bif decide (x0.2.2.2.1.2.2.1 ≥ 0) then Option.bind (yL (x0.2.1, ())) fun q4 => bif q4.1 then Option.bind (yL (x0.2.2.1, ())) fun q5 => bif q5.1 then bif x0.2.1 != x0.2.2.1 then Option.bind (yM (x0.2.2.2.1, ())) fun q6 => bif q6.1 then Option.bind (yM (x0.2.2.2.2.1, ())) fun q7 => bif q7.1 then some (true, ()) else some (false, ()) else some (false, ()) else some (false, ()) else some (false, ()) else some (false, ()) else bif decide (x0.2.2.2.2.1.2.1 > 0) then Option.bind (yL (x0.2.1, ())) fun q8 => bif q8.1 then Option.bind (yL (x0.2.2.1, ())) fun q9 => bif q9.1 then bif x0.2.1 != x0.2.2.1 then Option.bind (yM (x0.2.2.2.1, ())) fun q10 => bif q10.1 then Option.bind (yM (x0.2.2.2.2.1, ())) fun q11 => bif q11.1 then some (true, ()) else some (false, ()) else some (false, ()) else some (false, ()) else some (false, ()) else some (false, ()) else bif decide (x0.2.2.2.2.1.2.2.1 ≥ 0) then Option.bind (yL (x0.2.1, ())) fun q12 => bif q12.1 then Option.bind (yL (x0.2.2.1, ())) fun q13 => bif q13.1 then bif x0.2.1 != x0.2.2.1 then Option.bind (yM (x0.2.2.2.1, ())) fun q14 => bif q14.1 then Option.bind (yM (x0.2.2.2.2.1, ())) fun q15 => bif q15.1 then some (true, ()) else some (false, ()) else some (false, ()) else some (false, ()) else some (false, ()) else some (false, ()) else Option.bind (yL (x0.2.1, ())) fun q16 => bif q16.1 then Option.bind (yL (x0.2.2.1, ())) fun q17 => bif q17.1 then bif x0.2.1 != x0.2.2.1 then Option.bind (yM (x0.2.2.2.1, ())) fun q18 => bif q18.1 then Option.bind (yM (x0.2.2.2.2.1, ())) fun q19 => bif q19.1 then some (false, ()) else some (false, ()) else some (false, ()) else some (false, ()) else some (false, ()) else some (false, ())
theorem z25 (K : Nat) : evF (En E0 false [zEr yL, zEs yM]) K Tryz.f193 0 zD2 zD3 = zF3 yL yM := funext fun (x0, ()) => by kernel_rfl
end
def zfC : zPo := zF3 zlG zlH
theorem z26 : Sd Tryz.prog E0 (zAx zfC) := mkS (l := [zEr zlG, zEs zlH]) ⟨z40, z42, trivial⟩ Tryz.func193 (by kernel_rfl) (z25 zlG zlH K0)
end
end Go.Proofs.YtaokpakfhdeiiaaGreatDoor
end
section
namespace Go.Proofs.YtaokpakfhdeiiaaGreatDoor
open Go.Ev
set_option linter.unusedVariables false
noncomputable section
section
variable (zdi : zPo)
abbrev zN6 : Env := (En E0 false [zAx zdi])
abbrev zhu : Type := (List zn) × Int
abbrev zWg : zhu → St := fun (v0, v3) => St.mk [(0, AV.dat (Ty.sl zB) v0), (3, AV.dat tI v3)] []
def zhv (k0 : zhu → Option (Bool × Unit)) : zhu → Option (Bool × Unit) := fun (v0, v3) =>
  bif decide (v3 < ((List.length v0) : Int)) then inR v3 ((List.length v0) : Int) (bif (ix qe v0 v3).1 then inR v3 ((List.length v0) : Int) (Option.bind (zdi (ix qe v0 v3, ())) fun q0 => bif q0.1 then inR v3 ((List.length v0) : Int) (bif (ix qe v0 v3).1 then k0 (v0, wI (v3 + 1)) else inR v3 ((List.length v0) : Int) (bif !eqI zB (ix qe v0 v3) (zb zB) then some (false, ()) else k0 (v0, wI (v3 + 1)))) else some (false, ())) else inR v3 ((List.length v0) : Int) (bif (ix qe v0 v3).1 then k0 (v0, wI (v3 + 1)) else inR v3 ((List.length v0) : Int) (bif !eqI zB (ix qe v0 v3) (zb zB) then some (false, ()) else k0 (v0, wI (v3 + 1))))) else some (true, ())
abbrev zHS (K : Nat) : zhu → Option (Bool × Unit) := iter (zhv zdi) K
theorem zWh (K : Nat) : ∀ n, evV (zN6 zdi) K Tryz.f113 0 zqG [1, 0, 1, 0] [] zWg n = iter (zhv zdi) n := zp fun n0 (v0, v3) => by kernel_rfl
def zBz (L0 : zhu → Option (Bool × Unit)) : ((List zn) × Unit) → Option (Bool × Unit) := fun (x0, ()) =>
  L0 (x0, 0)
theorem z0C (K : Nat) : evF (zN6 zdi) K Tryz.f113 0 zzZ zqG = zBz (zHS zdi K) := tr1 (T := zBz) (zWh zdi K K) fun (x0, ()) => by kernel_rfl
end
def zlm : zNp := zBz (zHS zfC K0)
theorem z0D : Sd Tryz.prog E0 (zw0 zlm) := mkS (l := [zAx zfC]) ⟨z26, trivial⟩ Tryz.func113 (by kernel_rfl) (z0C zfC K0)
section
variable (zZ : zIr)
abbrev zR8 : Env := (En E0 false [zm0 zZ])
abbrev zln : Type := Int × zu × zu
abbrev z0E : zln → St := fun (v5, o0, o1) => St.mk [(2, AV.bp 0 []), (3, AV.bp 1 []), (5, AV.dat tI v5)] [Obj.bx (AV.dat zr o0) false, Obj.bx (AV.dat zr o1) false]
def zlo (k0 : zln → Option (Bool × Unit)) : zln → Option (Bool × Unit) := fun (v5, o0, o1) =>
  bif decide (v5 < 64) then Option.bind (zZ (o0, v5, ())) fun q0 => bif q0.1 then Option.bind (zZ (o1, v5, ())) fun q1 => bif q1.1 then k0 (wI (v5 + 1), o0, o1) else some (false, ()) else k0 (wI (v5 + 1), o0, o1) else bif decide (o0.1 ≤ o1.1) then some (true, ()) else some (false, ())
abbrev zN7 (K : Nat) : zln → Option (Bool × Unit) := iter (zlo zZ) K
theorem z0F (K : Nat) : ∀ n, evV (zR8 zZ) K Tryz.f194 0 zyl [1, 0, 1, 0] [] z0E n = iter (zlo zZ) n := zp fun n0 (v5, o0, o1) => by kernel_rfl
def zJ5 (L0 : zln → Option (Bool × Unit)) : (zu × (zu × Unit)) → Option (Bool × Unit) := fun (x0, x1, ()) =>
  L0 (0, x0, x1)
theorem z43 (K : Nat) : evF (zR8 zZ) K Tryz.f194 0 zIO zyl = zJ5 (zN7 zZ K) := tr1 (T := zJ5) (z0F zZ K K) fun (x0, x1, ()) => by kernel_rfl
end
def zqk : zRS := zJ5 (zN7 vS K0)
theorem z44 : Sd Tryz.prog E0 (zD4 zqk) := mkS (l := [zm0 vS]) ⟨zR5, trivial⟩ Tryz.func194 (by kernel_rfl) (z43 vS K0)
section
variable (zJ6 : zRS)
def zJ7 : (ze × (Int × (Int × Unit))) → Option (Bool × Unit) := fun (x0, x1, x2, ()) =>
  bif decide (x1 ≥ 0) then bif decide (x2 ≥ 0) then bif decide (x1 < ((List.length x0.1) : Int)) then bif decide (x2 < ((List.length x0.1) : Int)) then inR x1 ((List.length x0.1) : Int) (inR x2 ((List.length x0.1) : Int) (Option.bind (zJ6 (ix yj x0.1 x1, ix yj x0.1 x2, ())) fun q0 => bif q0.1 then some (true, ()) else some (false, ()))) else some (false, ()) else some (false, ()) else some (false, ()) else some (false, ())
theorem z45 (K : Nat) : evF (En E0 false [zD4 zJ6]) K Tryz.f117 0 zIt zIu = zJ7 zJ6 := funext fun (x0, x1, x2, ()) => by kernel_rfl
end
def j3 : zIv := zJ7 zqk
theorem zR9 : Sd Tryz.prog E0 (zm1 j3) := mkS (l := [zD4 zqk]) ⟨z44, trivial⟩ Tryz.func117 (by kernel_rfl) (z45 zqk K0)
section
variable (ji : zzd) (zV : zIv)
def zBA : (ze × (zf × (qi × (Int × Unit)))) → Option (Bool × Unit) := fun (x0, x1, x2, x3, ()) =>
  Option.bind (ji (x1, x2, ())) fun q0 => bif q0.1 then Option.bind (zV (x0, x2.1, x3, ())) fun q1 => bif q1.1 then some (true, ()) else some (false, ()) else some (false, ())
theorem z0G (K : Nat) : evF (En E0 false [ziN ji, zm1 zV]) K Tryz.f114 0 zz0 zz1 = zBA ji zV := funext fun (x0, x1, x2, x3, ()) => by kernel_rfl
end
def qR : zz2 := zBA zaL j3
theorem zN8 : Sd Tryz.prog E0 (ziQ qR) := mkS (l := [ziN zaL, zm1 j3]) ⟨zN1, zR9, trivial⟩ Tryz.func114 (by kernel_rfl) (z0G zaL j3 K0)
section
variable (zg : zlu) (zz : zz2)
def zF4 : (ze × (zf × (Int × (Int × Unit)))) → Option (Bool × Unit) := fun (x0, x1, x2, x3, ()) =>
  inR x2 ((List.length x1.2.1) : Int) (inR x3 ((List.length (ix za x1.2.1 x2).2.2.1) : Int) (bif (List.getD (ix za x1.2.1 x2).2.2.1 (Int.toNat x3) (zb zW)).1 then bif (List.getD (ix za x1.2.1 x2).2.2.1 (Int.toNat x3) (zb zW)).2.2.1 == 1 then Option.bind (zg (x0, (List.getD (ix za x1.2.1 x2).2.2.1 (Int.toNat x3) (zb zW)).2.2.2.1, ())) fun q0 => bif q0.1 then some (true, ()) else some (false, ()) else bif (List.getD (ix za x1.2.1 x2).2.2.1 (Int.toNat x3) (zb zW)).2.2.1 == 2 then Option.bind (zz (x0, x1, (List.getD (ix za x1.2.1 x2).2.2.1 (Int.toNat x3) (zb zW)).2.2.2.2.1, x2, ())) fun q1 => bif q1.1 then some (true, ()) else some (false, ()) else bif decide ((List.getD (ix za x1.2.1 x2).2.2.1 (Int.toNat x3) (zb zW)).2.2.2.1 < ((List.length (ix za x1.2.1 x2).2.2.2.2.1) : Int)) then inR (List.getD (ix za x1.2.1 x2).2.2.1 (Int.toNat x3) (zb zW)).2.2.2.1 ((List.length (ix za x1.2.1 x2).2.2.2.2.1) : Int) (bif (List.getD (ix za x1.2.1 x2).2.2.2.2.1 (Int.toNat (List.getD (ix za x1.2.1 x2).2.2.1 (Int.toNat x3) (zb zW)).2.2.2.1) (zb zB)).1 then inR (List.getD (ix za x1.2.1 x2).2.2.1 (Int.toNat x3) (zb zW)).2.2.2.1 ((List.length (ix za x1.2.1 x2).2.2.2.2.1) : Int) (bif (List.getD (ix za x1.2.1 x2).2.2.2.2.1 (Int.toNat (List.getD (ix za x1.2.1 x2).2.2.1 (Int.toNat x3) (zb zW)).2.2.2.1) (zb zB)).2.2.2.1.2.2.1 == x3 then some (true, ()) else some (false, ())) else some (false, ())) else some (false, ()) else some (true, ())))
theorem z27 (K : Nat) : evF (En E0 false [yx zg, ziQ zz]) K Tryz.f115 0 zDn zDo = zF4 zg zz := funext fun (x0, x1, x2, x3, ()) => by kernel_rfl
end
def zbM : zPc := zF4 z6 qR
theorem z28 : Sd Tryz.prog E0 (zz3 zbM) := mkS (l := [yx z6, ziQ qR]) ⟨zqj, zN8, trivial⟩ Tryz.func115 (by kernel_rfl) (z27 z6 qR K0)
section
variable (zg : zlu)
def zF5 : (ze × (zm × (Int × Unit))) → Option (Bool × Unit) := fun (x0, x1, x2, ()) =>
  inR x2 ((List.length x1.2.2.2.2.1) : Int) (bif (ix qe x1.2.2.2.2.1 x2).1 then Option.bind (zg (x0, (ix qe x1.2.2.2.2.1 x2).2.1, ())) fun q0 => bif q0.1 then Option.bind (zg (x0, (ix qe x1.2.2.2.2.1 x2).2.2.1, ())) fun q1 => bif q1.1 then bif decide ((ix qe x1.2.2.2.2.1 x2).2.2.2.1.2.2.1 ≥ ((List.length x1.2.2.1) : Int)) then some (false, ()) else bif decide ((ix qe x1.2.2.2.2.1 x2).2.2.2.2.1.2.2.1 ≥ ((List.length x1.2.2.1) : Int)) then some (false, ()) else bif decide ((ix qe x1.2.2.2.2.1 x2).2.2.2.1.2.2.1 < 0) then some (true, ()) else inR (ix qe x1.2.2.2.2.1 x2).2.2.2.1.2.2.1 ((List.length x1.2.2.1) : Int) (bif (List.getD x1.2.2.1 (Int.toNat (ix qe x1.2.2.2.2.1 x2).2.2.2.1.2.2.1) (zb zW)).1 then bif (List.getD x1.2.2.1 (Int.toNat (ix qe x1.2.2.2.2.1 x2).2.2.2.1.2.2.1) (zb zW)).2.2.1 == 3 then bif (List.getD x1.2.2.1 (Int.toNat (ix qe x1.2.2.2.2.1 x2).2.2.2.1.2.2.1) (zb zW)).2.2.2.1 == x2 then some (true, ()) else some (false, ()) else some (false, ()) else some (false, ())) else some (false, ()) else some (false, ()) else some (true, ()))
theorem z29 (K : Nat) : evF (En E0 false [yx zg]) K Tryz.f116 0 zDp zDq = zF5 zg := funext fun (x0, x1, x2, ()) => by kernel_rfl
end
def yJ : zPd := zF5 z6
theorem z3a : Sd Tryz.prog E0 (zz4 yJ) := mkS (l := [yx z6]) ⟨zqj, trivial⟩ Tryz.func116 (by kernel_rfl) (z29 z6 K0)
section
variable (qH : zNl) (qI : zNm) (qJ : zNn) (qK : zNo) (qL : zNp) (zz : zz2) (qq : zPc) (qa : zPd) (zV : zIv) (zg : zlu)
abbrev yN : Env := (En E0 false [zwW qH, zwX qI, zwY qJ, zwZ qK, zw0 qL, ziQ zz, zz3 qq, zz4 qa, zm1 zV, yx zg])
abbrev zhw : Type := Int × Int × ze × zf × zm
abbrev zHT : zhw → St := fun (v2, v14, o0, o1, o2) => St.mk [(2, AV.dat tI v2), (3, AV.bp 0 []), (4, AV.bp 1 []), (7, AV.bp 2 []), (14, AV.dat tI v14)] [Obj.bx (AV.dat zD o0) false, Obj.bx (AV.dat zX o1) false, Obj.bx (AV.dat zo o2) false]
abbrev zhx : Type := Int × Int × ze × zf × zm
abbrev zHU : zhx → St := fun (v2, v12, o0, o1, o2) => St.mk [(2, AV.dat tI v2), (3, AV.bp 0 []), (4, AV.bp 1 []), (7, AV.bp 2 []), (12, AV.dat tI v12)] [Obj.bx (AV.dat zD o0) false, Obj.bx (AV.dat zX o1) false, Obj.bx (AV.dat zo o2) false]
abbrev zhy : Type := Int × Int × ze × zf × zm
abbrev zHV : zhy → St := fun (v2, v11, o0, o1, o2) => St.mk [(2, AV.dat tI v2), (3, AV.bp 0 []), (4, AV.bp 1 []), (7, AV.bp 2 []), (11, AV.dat tI v11)] [Obj.bx (AV.dat zD o0) false, Obj.bx (AV.dat zX o1) false, Obj.bx (AV.dat zo o2) false]
abbrev zhz : Type := Int × Int × ze × zf × zm
abbrev zHW : zhz → St := fun (v2, v10, o0, o1, o2) => St.mk [(2, AV.dat tI v2), (3, AV.bp 0 []), (4, AV.bp 1 []), (7, AV.bp 2 []), (10, AV.dat tI v10)] [Obj.bx (AV.dat zD o0) false, Obj.bx (AV.dat zX o1) false, Obj.bx (AV.dat zo o2) false]
abbrev zhA : Type := Int × Int × ze × zf × zm
abbrev zWi : zhA → St := fun (v2, v8, o0, o1, o2) => St.mk [(2, AV.dat tI v2), (3, AV.bp 0 []), (4, AV.bp 1 []), (7, AV.bp 2 []), (8, AV.dat tI v8)] [Obj.bx (AV.dat zD o0) false, Obj.bx (AV.dat zX o1) false, Obj.bx (AV.dat zo o2) false]
def zmO (k4 : zhw → Option (Bool × Unit)) : zhw → Option (Bool × Unit) := fun (v2, v14, o0, o1, o2) =>
  bif decide (v14 < ((List.length o2.2.2.2.2.2.2.1) : Int)) then inR v14 ((List.length o2.2.2.2.2.2.2.1) : Int) (Option.bind (zz (o0, o1, ix z9V o2.2.2.2.2.2.2.1 v14, v2, ())) fun q12 => bif q12.1 then k4 (v2, wI (v14 + 1), o0, o1, o2) else some (false, ())) else some (true, ())
abbrev zhB (K : Nat) : zhw → Option (Bool × Unit) := iter (zmO zz) K
theorem zWj (K : Nat) : ∀ n, evV (yN qH qI qJ qK qL zz qq qa zV zg) K Tryz.f42 0 vE [1, 1, 1, 1, 1, 1, 1, 0, 1, 0] [] zHT n = iter (zmO zz) n := zp fun n4 (v2, v14, o0, o1, o2) => by kernel_rfl
def zhC (L4 : zhw → Option (Bool × Unit)) (k3 : zhx → Option (Bool × Unit)) : zhx → Option (Bool × Unit) := fun (v2, v12, o0, o1, o2) =>
  bif decide (v12 < ((List.length o2.2.2.2.1) : Int)) then inR v12 ((List.length o2.2.2.2.1) : Int) (bif (ix zfG o2.2.2.2.1 v12).1 then Option.bind (zV (o0, (ix zfG o2.2.2.2.1 v12).2.1, v2, ())) fun q9 => bif q9.1 then Option.bind (zg (o0, (ix zfG o2.2.2.2.1 v12).2.2.1, ())) fun q10 => bif q10.1 then Option.bind (zg (o0, (ix zfG o2.2.2.2.1 v12).2.2.2.1, ())) fun q11 => bif q11.1 then k3 (v2, wI (v12 + 1), o0, o1, o2) else some (false, ()) else some (false, ()) else some (false, ()) else k3 (v2, wI (v12 + 1), o0, o1, o2)) else L4 (v2, 0, o0, o1, o2)
abbrev zhD (K : Nat) : zhx → Option (Bool × Unit) := iter (fun k3 => zhC zV zg (zhB zz K) k3) K
theorem zWk (K : Nat) : ∀ n, evV (yN qH qI qJ qK qL zz qq qa zV zg) K Tryz.f42 0 vE [1, 1, 1, 1, 1, 1, 0, 1, 0] [] zHU n = iter (fun k3 => zhC zV zg (zhB zz K) k3) n := vj (B := fun L4 k3 => zhC zV zg L4 k3) (V1 := fun n3 => evV (yN qH qI qJ qK qL zz qq qa zV zg) K Tryz.f42 0 vE [1, 1, 1, 1, 1, 1, 1, 0, 1, 0] [] zHT K) (W1 := fun k3 => (zhB zz K)) (fun n3 => zWj qH qI qJ qK qL zz qq qa zV zg K K) fun n3 (v2, v12, o0, o1, o2) => by kernel_rfl
def zhE (L3 : zhx → Option (Bool × Unit)) (k2 : zhy → Option (Bool × Unit)) : zhy → Option (Bool × Unit) := fun (v2, v11, o0, o1, o2) =>
  bif decide (v11 < ((List.length o2.2.2.2.2.1) : Int)) then Option.bind (qa (o0, o2, v11, ())) fun q8 => bif q8.1 then k2 (v2, wI (v11 + 1), o0, o1, o2) else some (false, ()) else L3 (v2, 0, o0, o1, o2)
abbrev zhF (K : Nat) : zhy → Option (Bool × Unit) := iter (fun k2 => zhE qa (zhD zz zV zg K) k2) K
theorem zWl (K : Nat) : ∀ n, evV (yN qH qI qJ qK qL zz qq qa zV zg) K Tryz.f42 0 vE [1, 1, 1, 1, 1, 0, 1, 0] [] zHV n = iter (fun k2 => zhE qa (zhD zz zV zg K) k2) n := vj (B := fun L3 k2 => zhE qa L3 k2) (V1 := fun n2 => evV (yN qH qI qJ qK qL zz qq qa zV zg) K Tryz.f42 0 vE [1, 1, 1, 1, 1, 1, 0, 1, 0] [] zHU K) (W1 := fun k2 => (zhD zz zV zg K)) (fun n2 => zWk qH qI qJ qK qL zz qq qa zV zg K K) fun n2 (v2, v11, o0, o1, o2) => by kernel_rfl
def zhG (L2 : zhy → Option (Bool × Unit)) (k1 : zhz → Option (Bool × Unit)) : zhz → Option (Bool × Unit) := fun (v2, v10, o0, o1, o2) =>
  bif decide (v10 < ((List.length o2.2.2.1) : Int)) then Option.bind (qq (o0, o1, v2, v10, ())) fun q7 => bif q7.1 then k1 (v2, wI (v10 + 1), o0, o1, o2) else some (false, ()) else L2 (v2, 0, o0, o1, o2)
abbrev zhH (K : Nat) : zhz → Option (Bool × Unit) := iter (fun k1 => zhG qq (zhF zz qa zV zg K) k1) K
theorem zWm (K : Nat) : ∀ n, evV (yN qH qI qJ qK qL zz qq qa zV zg) K Tryz.f42 0 vE [1, 1, 1, 1, 0, 1, 0] [] zHW n = iter (fun k1 => zhG qq (zhF zz qa zV zg K) k1) n := vj (B := fun L2 k1 => zhG qq L2 k1) (V1 := fun n1 => evV (yN qH qI qJ qK qL zz qq qa zV zg) K Tryz.f42 0 vE [1, 1, 1, 1, 1, 0, 1, 0] [] zHV K) (W1 := fun k1 => (zhF zz qa zV zg K)) (fun n1 => zWl qH qI qJ qK qL zz qq qa zV zg K K) fun n1 (v2, v10, o0, o1, o2) => by kernel_rfl
def zhI (L1 : zhz → Option (Bool × Unit)) (k0 : zhA → Option (Bool × Unit)) : zhA → Option (Bool × Unit) := fun (v2, v8, o0, o1, o2) =>
  bif decide (v8 < ((List.length o2.2.1) : Int)) then inR v8 ((List.length o2.2.1) : Int) (bif (ix qG o2.2.1 v8).1 then Option.bind (zz (o0, o1, (ix qG o2.2.1 v8).2.1, v2, ())) fun q5 => bif q5.1 then Option.bind (zz (o0, o1, (ix qG o2.2.1 v8).2.2.1, v2, ())) fun q6 => bif q6.1 then k0 (v2, wI (v8 + 1), o0, o1, o2) else some (false, ()) else some (false, ()) else k0 (v2, wI (v8 + 1), o0, o1, o2)) else L1 (v2, 0, o0, o1, o2)
abbrev zvm (K : Nat) : zhA → Option (Bool × Unit) := iter (fun k0 => zhI zz (zhH zz qq qa zV zg K) k0) K
theorem zWn (K : Nat) : ∀ n, evV (yN qH qI qJ qK qL zz qq qa zV zg) K Tryz.f42 0 vE [1, 1, 1, 0, 1, 0] [] zWi n = iter (fun k0 => zhI zz (zhH zz qq qa zV zg K) k0) n := vj (B := fun L1 k0 => zhI zz L1 k0) (V1 := fun n0 => evV (yN qH qI qJ qK qL zz qq qa zV zg) K Tryz.f42 0 vE [1, 1, 1, 1, 0, 1, 0] [] zHW K) (W1 := fun k0 => (zhH zz qq qa zV zg K)) (fun n0 => zWm qH qI qJ qK qL zz qq qa zV zg K K) fun n0 (v2, v8, o0, o1, o2) => by kernel_rfl
def zqT (L0 : zhA → Option (Bool × Unit)) : (ze × (zf × (Int × Unit))) → Option (Bool × Unit) := fun (x0, x1, x2, ()) =>
  inR x2 ((List.length x1.2.1) : Int) (Option.bind (qH ((ix za x1.2.1 x2).1, ())) fun q0 => bif q0.1 then Option.bind (qI ((ix za x1.2.1 x2).2.1, ())) fun q1 => bif q1.1 then Option.bind (qJ ((ix za x1.2.1 x2).2.2.1, ())) fun q2 => bif q2.1 then Option.bind (qK ((ix za x1.2.1 x2).2.2.2.1, ())) fun q3 => bif q3.1 then Option.bind (qL ((ix za x1.2.1 x2).2.2.2.2.1, ())) fun q4 => bif q4.1 then L0 (x2, 0, x0, x1, ix za x1.2.1 x2) else some (false, ()) else some (false, ()) else some (false, ()) else some (false, ()) else some (false, ()))
theorem z0H (K : Nat) : evF (yN qH qI qJ qK qL zz qq qa zV zg) K Tryz.f42 0 zzp vE = zqT qH qI qJ qK qL (zvm zz qq qa zV zg K) := tr1 (T := zqT qH qI qJ qK qL) (zWn qH qI qJ qK qL zz qq qa zV zg K K) fun (x0, x1, x2, ()) => by kernel_rfl
end
def zb6 : zM5 := zqT zlh zlj zlk zll zlm (zvm qR zbM yJ j3 z6 K0)
theorem z0I : Sd Tryz.prog E0 (zwo zb6) := mkS (l := [zwW zlh, zwX zlj, zwY zlk, zwZ zll, zw0 zlm, ziQ qR, zz3 zbM, zz4 yJ, zm1 j3, yx z6]) ⟨z0u, z0x, z0z, z0B, z0D, zN8, z28, z3a, zR9, zqj, trivial⟩ Tryz.func42 (by kernel_rfl) (z0H zlh zlj zlk zll zlm qR zbM yJ j3 z6 K0)
section
def zBB : (zj × (Int × Unit)) → Option (Int × Unit) := fun (x0, x1, ()) =>
  bif x0.1 then bif x0.2.2.2.1 == 2 then bif x0.2.2.2.2.1 == x1 then some (x0.2.2.2.2.2.2.2.2.1, ()) else bif x0.2.2.2.1 != 2 then bif x0.2.2.2.2.2.1 == x1 then some (x0.2.2.2.2.2.2.2.2.1, ()) else some (0, ()) else some (0, ()) else bif x0.2.2.2.1 != 2 then bif x0.2.2.2.2.2.1 == x1 then some (x0.2.2.2.2.2.2.2.2.1, ()) else some (0, ()) else some (0, ()) else some (0, ())
theorem z0J (K : Nat) : evF (En E0 false []) K Tryz.f123 0 zz8 zz9 = zBB := funext fun (x0, x1, ()) => by kernel_rfl
end
def zdT : zNr := zBB
theorem z0K : Sd Tryz.prog E0 (zw2 zdT) := mkS (l := []) trivial Tryz.func123 (by kernel_rfl) (z0J K0)
section
def zF6 : (Int × (Int × Unit)) → Option (Int × (Int × Unit)) := fun (x0, x1, ()) =>
  bif decide (x0 > 4611686018427387904) then some (0, 7, ()) else bif decide (x1 > wU (4611686018427387904 - x0)) then some (0, 7, ()) else some (wU (x0 + x1), 0, ())
theorem z3b (K : Nat) : evF (En E0 false []) K Tryz.f49 0 zC7 zC8 = zF6 := funext fun (x0, x1, ()) => by kernel_rfl
end
def qj : zmY := zF6
theorem zvn : Sd Tryz.prog E0 (zaH qj) := mkS (l := []) trivial Tryz.func49 (by kernel_rfl) (z3b K0)
section
variable (zb7 : zNr) (zq : zmY)
abbrev zQt : Env := (En E0 false [zw2 zb7, zaH zq])
abbrev zjF : Type := (List zj) × Int × Int × Int
abbrev zYe : zjF → St := fun (v0, v1, v6, v7) => St.mk [(0, AV.dat (Ty.sl zw) v0), (1, AV.dat tI v1), (6, AV.dat tU v6), (7, AV.dat tI v7)] []
def zjG (k0 : zjF → Option (Int × (Int × Unit))) : zjF → Option (Int × (Int × Unit)) := fun (v0, v1, v6, v7) =>
  bif decide (v7 < ((List.length v0) : Int)) then inR v7 ((List.length v0) : Int) (Option.bind (zb7 (ix zP v0 v7, v1, ())) fun q0 => Option.bind (zq (v6, q0.1, ())) fun q1 => bif q1.2.1 != 0 then some (0, q1.2.1, ()) else k0 (v0, v1, q1.1, wI (v7 + 1))) else some (v6, 0, ())
abbrev zLq (K : Nat) : zjF → Option (Int × (Int × Unit)) := iter (zjG zb7 zq) K
theorem zYf (K : Nat) : ∀ n, evV (zQt zb7 zq) K Tryz.f47 0 zth [1, 1, 1, 0, 1, 0] [] zYe n = iter (zjG zb7 zq) n := zp fun n0 (v0, v1, v6, v7) => by kernel_rfl
def zvo (L0 : zjF → Option (Int × (Int × Unit))) : ((List zj) × (Int × Unit)) → Option (Int × (Int × Unit)) := fun (x0, x1, ()) =>
  bif decide (x1 < 0) then some (0, 1, ()) else bif decide (x1 > 3) then some (0, 1, ()) else L0 (x0, x1, 0, 0)
theorem z3c (K : Nat) : evF (zQt zb7 zq) K Tryz.f47 0 zC5 zth = zvo (zLq zb7 zq K) := tr1 (T := zvo) (zYf zb7 zq K K) fun (x0, x1, ()) => by kernel_rfl
end
def zjH : zO7 := zvo (zLq zdT qj K0)
theorem z3d : Sd Tryz.prog E0 (zzr zjH) := mkS (l := [zw2 zdT, zaH qj]) ⟨z0K, zvn, trivial⟩ Tryz.func47 (by kernel_rfl) (z3c zdT qj K0)
section
variable (zq : zmY)
abbrev zQu : Env := (En E0 false [zaH zq])
abbrev zjI : Type := (List zn) × Int × Int × Int
abbrev zYg : zjI → St := fun (v0, v1, v6, v7) => St.mk [(0, AV.dat (Ty.sl zB) v0), (1, AV.dat tI v1), (6, AV.dat tU v6), (7, AV.dat tI v7)] []
def zjJ (k0 : zjI → Option (Int × (Int × Unit))) : zjI → Option (Int × (Int × Unit)) := fun (v0, v1, v6, v7) =>
  bif decide (v7 < ((List.length v0) : Int)) then inR v7 ((List.length v0) : Int) (bif (ix qe v0 v7).1 then inR v7 ((List.length v0) : Int) (bif (ix qe v0 v7).2.2.2.1.1 == v1 then inR v7 ((List.length v0) : Int) (Option.bind (zq (v6, (ix qe v0 v7).2.2.2.1.2.1, ())) fun q0 => bif q0.2.1 != 0 then some (0, q0.2.1, ()) else k0 (v0, v1, q0.1, wI (v7 + 1))) else k0 (v0, v1, v6, wI (v7 + 1))) else k0 (v0, v1, v6, wI (v7 + 1))) else some (v6, 0, ())
abbrev zLr (K : Nat) : zjI → Option (Int × (Int × Unit)) := iter (zjJ zq) K
theorem zYh (K : Nat) : ∀ n, evV (zQu zq) K Tryz.f48 0 zti [1, 1, 1, 0, 1, 0] [] zYg n = iter (zjJ zq) n := zp fun n0 (v0, v1, v6, v7) => by kernel_rfl
def zvp (L0 : zjI → Option (Int × (Int × Unit))) : ((List zn) × (Int × Unit)) → Option (Int × (Int × Unit)) := fun (x0, x1, ()) =>
  bif decide (x1 < 0) then some (0, 1, ()) else bif decide (x1 > 3) then some (0, 1, ()) else L0 (x0, x1, 0, 0)
theorem z3e (K : Nat) : evF (zQu zq) K Tryz.f48 0 zC6 zti = zvp (zLr zq K) := tr1 (T := zvp) (zYh zq K K) fun (x0, x1, ()) => by kernel_rfl
end
def zfD : zO8 := zvp (zLr qj K0)
theorem z3f : Sd Tryz.prog E0 (zzs zfD) := mkS (l := [zaH qj]) ⟨zvn, trivial⟩ Tryz.func48 (by kernel_rfl) (z3e qj K0)
section
variable (yK : zO7) (vO : zO8) (zq : zmY)
abbrev znO : Env := (En E0 false [zzr yK, zzs vO, zaH zq])
abbrev zjK : Type := Int × Int × Int × Int × zf
abbrev zLs : zjK → St := fun (v1, v6, v8, v11, o0) => St.mk [(1, AV.dat tI v1), (2, AV.bp 0 []), (6, AV.dat tU v6), (8, AV.dat tI v8), (11, AV.dat tI v11)] [Obj.bx (AV.dat zX o0) false]
abbrev zcI : Type := Int × Int × Int × zf
abbrev zLt : zcI → St := fun (v1, v6, v8, o0) => St.mk [(1, AV.dat tI v1), (2, AV.bp 0 []), (6, AV.dat tU v6), (8, AV.dat tI v8)] [Obj.bx (AV.dat zX o0) false]
def zjL (k0 : zcI → Option (Int × (Int × Unit))) (k1 : zjK → Option (Int × (Int × Unit))) : zjK → Option (Int × (Int × Unit)) := fun (v1, v6, v8, v11, o0) =>
  inR v8 ((List.length o0.2.1) : Int) (bif decide (v11 < ((List.length (ix za o0.2.1 v8).2.2.2.2.2.1) : Int)) then inR v8 ((List.length o0.2.1) : Int) (inR v11 ((List.length (ix za o0.2.1 v8).2.2.2.2.2.1) : Int) (inR v1 (↑4 : Int) (Option.bind (zq (v6, List.getD (List.getD (ix za o0.2.1 v8).2.2.2.2.2.1 (Int.toNat v11) (zb (Ty.arr 4 tU))) (Int.toNat v1) (0 : Int), ())) fun q3 => bif q3.2.1 != 0 then some (0, q3.2.1, ()) else k1 (v1, q3.1, v8, wI (v11 + 1), o0)))) else k0 (v1, v6, wI (v8 + 1), o0))
abbrev zjM (K : Nat) (k0 : zcI → Option (Int × (Int × Unit))) : zjK → Option (Int × (Int × Unit)) := iter (fun k1 => zjL zq k0 k1) K
theorem zYi (K : Nat) (n0 : Nat) : ∀ n, evV (znO yK vO zq) K Tryz.f14 0 zeT [1, 1, 1, 0, 1, 0, 0, 1, 0, 0, 1, 1, 1, 1, 1, 0] [n0] zLs n = iter (fun k1 => zjL zq (evV (znO yK vO zq) K Tryz.f14 0 zeT [1, 1, 1, 0, 1, 0] [] zLt n0) k1) n := zp fun n1 (v1, v6, v8, v11, o0) => by kernel_rfl
def zeN (L1 : zjK → Option (Int × (Int × Unit))) (k0 : zcI → Option (Int × (Int × Unit))) : zcI → Option (Int × (Int × Unit)) := fun (v1, v6, v8, o0) =>
  bif decide (v8 < ((List.length o0.2.1) : Int)) then inR v8 ((List.length o0.2.1) : Int) (Option.bind (vO ((ix za o0.2.1 v8).2.2.2.2.1, v1, ())) fun q1 => bif q1.2.1 != 0 then some (0, q1.2.1, ()) else Option.bind (zq (v6, q1.1, ())) fun q2 => bif q2.2.1 != 0 then some (0, q2.2.1, ()) else L1 (v1, q2.1, v8, 0, o0)) else some (v6, 0, ())
abbrev zLu (K : Nat) : zcI → Option (Int × (Int × Unit)) := iter (fun k0 => zeN vO zq (zjM zq K k0) k0) K
theorem zYj (K : Nat) : ∀ n, evV (znO yK vO zq) K Tryz.f14 0 zeT [1, 1, 1, 0, 1, 0] [] zLt n = iter (fun k0 => zeN vO zq (zjM zq K k0) k0) n := vj (B := fun L1 k0 => zeN vO zq L1 k0) (V1 := fun n0 => evV (znO yK vO zq) K Tryz.f14 0 zeT [1, 1, 1, 0, 1, 0, 0, 1, 0, 0, 1, 1, 1, 1, 1, 0] [n0] zLs K) (W1 := fun k0 => (zjM zq K k0)) (fun n0 => zYi yK vO zq K n0 K) fun n0 (v1, v6, v8, o0) => by kernel_rfl
def zvq (L0 : zcI → Option (Int × (Int × Unit))) : (zf × (Int × Unit)) → Option (Int × (Int × Unit)) := fun (x0, x1, ()) =>
  Option.bind (yK (x0.2.2.2.1, x1, ())) fun q0 => bif q0.2.1 != 0 then some (0, q0.2.1, ()) else L0 (x1, q0.1, 0, x0)
theorem z3g (K : Nat) : evF (znO yK vO zq) K Tryz.f14 0 zCP zeT = zvq yK (zLu vO zq K) := tr1 (T := zvq yK) (zYj yK vO zq K K) fun (x0, x1, ()) => by kernel_rfl
end
def zbN : zO1 := zvq zjH (zLu zfD qj K0)
theorem z3h : Sd Tryz.prog E0 (zy8 zbN) := mkS (l := [zzr zjH, zzs zfD, zaH qj]) ⟨z3d, z3f, zvn, trivial⟩ Tryz.func14 (by kernel_rfl) (z3g zjH zfD qj K0)
section
def zBC : (Int × (Int × Unit)) → Option (Int × (Int × Unit)) := fun (x0, x1, ()) =>
  bif decide (x1 > x0) then some (0, 6, ()) else some (wU (x0 - x1), 0, ())
theorem z0L (K : Nat) : evF (En E0 false []) K Tryz.f54 0 zzu zzv = zBC := funext fun (x0, x1, ()) => by kernel_rfl
end
def yO : zM6 := zBC
theorem z0M : Sd Tryz.prog E0 (zwu yO) := mkS (l := []) trivial Tryz.func54 (by kernel_rfl) (z0L K0)
section
variable (zq : zmY) (jI : zM6)
abbrev zvr : Env := (En E0 false [zaH zq, zwu jI])
abbrev zjN : Type := Int × Int × Int × Int × Int × zf
abbrev zLv : zjN → St := fun (v1, v6, v7, v8, v10, o0) => St.mk [(1, AV.dat tI v1), (2, AV.bp 0 []), (6, AV.dat tU v6), (7, AV.dat tU v7), (8, AV.dat tI v8), (10, AV.dat tI v10)] [Obj.bx (AV.dat zX o0) false]
abbrev zjO : Type := Int × Int × Int × Int × Int × zf
abbrev zYk : zjO → St := fun (v1, v6, v7, v8, v9, o0) => St.mk [(1, AV.dat tI v1), (2, AV.bp 0 []), (6, AV.dat tU v6), (7, AV.dat tU v7), (8, AV.dat tI v8), (9, AV.dat tI v9)] [Obj.bx (AV.dat zX o0) false]
def zjP (k1 : zjN → Option (Int × (Int × Unit))) : zjN → Option (Int × (Int × Unit)) := fun (v1, v6, v7, v8, v10, o0) =>
  bif decide (v10 < ((List.length o0.2.1) : Int)) then bif v8 == 0 then inR v10 ((List.length o0.2.1) : Int) (inR v1 (↑4 : Int) (Option.bind (zq (v7, List.getD (ix za o0.2.1 v10).2.2.2.2.2.2.2.2.1 (Int.toNat v1) (0 : Int), ())) fun q1 => k1 (v1, v6, q1.1, q1.2.1, wI (v10 + 1), o0))) else bif v8 != 0 then some (0, v8, ()) else Option.bind (jI (v6, v7, ())) fun q2 => some (q2.1, q2.2.1, ()) else bif v8 != 0 then some (0, v8, ()) else Option.bind (jI (v6, v7, ())) fun q3 => some (q3.1, q3.2.1, ())
abbrev zeO (K : Nat) : zjN → Option (Int × (Int × Unit)) := iter (zjP zq jI) K
theorem zYl (K : Nat) : ∀ n, evV (zvr zq jI) K Tryz.f16 0 ziM [1, 1, 1, 1, 1, 1, 0, 1, 0] [] zLv n = iter (zjP zq jI) n := zp fun n1 (v1, v6, v7, v8, v10, o0) => by kernel_rfl
def zeP (L1 : zjN → Option (Int × (Int × Unit))) (k0 : zjO → Option (Int × (Int × Unit))) : zjO → Option (Int × (Int × Unit)) := fun (v1, v6, v7, v8, v9, o0) =>
  bif decide (v9 < ((List.length o0.2.1) : Int)) then bif v8 == 0 then inR v9 ((List.length o0.2.1) : Int) (inR v1 (↑4 : Int) (Option.bind (zq (v6, List.getD (ix za o0.2.1 v9).2.2.2.2.2.2.2.1 (Int.toNat v1) (0 : Int), ())) fun q0 => k0 (v1, q0.1, v7, q0.2.1, wI (v9 + 1), o0))) else L1 (v1, v6, v7, v8, 0, o0) else L1 (v1, v6, v7, v8, 0, o0)
abbrev zLw (K : Nat) : zjO → Option (Int × (Int × Unit)) := iter (fun k0 => zeP zq (zeO zq jI K) k0) K
theorem zYm (K : Nat) : ∀ n, evV (zvr zq jI) K Tryz.f16 0 ziM [1, 1, 1, 1, 1, 0, 1, 0] [] zYk n = iter (fun k0 => zeP zq (zeO zq jI K) k0) n := vj (B := fun L1 k0 => zeP zq L1 k0) (V1 := fun n0 => evV (zvr zq jI) K Tryz.f16 0 ziM [1, 1, 1, 1, 1, 1, 0, 1, 0] [] zLv K) (W1 := fun k0 => (zeO zq jI K)) (fun n0 => zYl zq jI K K) fun n0 (v1, v6, v7, v8, v9, o0) => by kernel_rfl
def zvs (L0 : zjO → Option (Int × (Int × Unit))) : (zf × (Int × Unit)) → Option (Int × (Int × Unit)) := fun (x0, x1, ()) =>
  bif decide (x1 < 0) then some (0, 1, ()) else bif decide (x1 > 3) then some (0, 1, ()) else L0 (x1, 0, 0, 0, 0, x0)
theorem z3i (K : Nat) : evF (zvr zq jI) K Tryz.f16 0 zCT ziM = zvs (zLw zq jI K) := tr1 (T := zvs) (zYm zq jI K K) fun (x0, x1, ()) => by kernel_rfl
end
def zbO : zO2 := zvs (zLw qj yO K0)
theorem z3j : Sd Tryz.prog E0 (zy9 zbO) := mkS (l := [zaH qj, zwu yO]) ⟨zvn, z0M, trivial⟩ Tryz.func16 (by kernel_rfl) (z3i qj yO K0)
section
variable (z0 : zy6) (jP : zM4) (jD : zKq) (jx : zM5) (jm : zO1) (jn : zO2)
abbrev zdU : Env := (En E0 false [ziL z0, zwm jP, zte jD, zwo jx, zy8 jm, zy9 jn])
abbrev zhJ : Type := Int × Int × ze × zf
abbrev zHX : zhJ → St := fun (v5, v6, o0, o1) => St.mk [(2, AV.bp 0 []), (3, AV.bp 1 []), (5, AV.dat tI v5), (6, AV.dat tI v6)] [Obj.bx (AV.dat zD o0) false, Obj.bx (AV.dat zX o1) false]
abbrev zhK : Type := Int × zf
abbrev zHY : zhK → St := fun (v7, o0) => St.mk [(3, AV.bp 0 []), (7, AV.dat tI v7)] [Obj.bx (AV.dat zX o0) false]
abbrev zbP : Type := Int × ze × zf
abbrev zHZ : zbP → St := fun (v5, o0, o1) => St.mk [(2, AV.bp 0 []), (3, AV.bp 1 []), (5, AV.dat tI v5)] [Obj.bx (AV.dat zD o0) false, Obj.bx (AV.dat zX o1) false]
def zmP (k0 : zbP → Option (Bool × Unit)) (k1 : zhJ → Option (Bool × Unit)) : zhJ → Option (Bool × Unit) := fun (v5, v6, o0, o1) =>
  bif decide (v6 < 4) then inR v5 ((List.length o1.2.1) : Int) (inR v6 (↑4 : Int) (inR v5 ((List.length o0.2.2.2.2.1) : Int) (bif decide (List.getD (ix za o1.2.1 v5).2.2.2.2.2.2.2.1 (Int.toNat v6) (0 : Int) > (ix jl o0.2.2.2.2.1 v5).2.2.2.2.2.1) then some (false, ()) else k1 (v5, wI (v6 + 1), o0, o1)))) else k0 (wI (v5 + 1), o0, o1)
abbrev zmQ (K : Nat) (k0 : zbP → Option (Bool × Unit)) : zhJ → Option (Bool × Unit) := iter (fun k1 => zmP k0 k1) K
theorem zWo (K : Nat) (n0 : Nat) : ∀ n, evV (zdU z0 jP jD jx jm jn) K Tryz.f12 0 zaG [1, 1, 0, 1, 0, 0, 1, 0, 0, 1, 1, 0] [n0] zHX n = iter (fun k1 => zmP (evV (zdU z0 jP jD jx jm jn) K Tryz.f12 0 zaG [1, 1, 0, 1, 0] [] zHZ n0) k1) n := zp fun n1 (v5, v6, o0, o1) => by kernel_rfl
def zvt (k2 : zhK → Option (Bool × Unit)) : zhK → Option (Bool × Unit) := fun (v7, o0) =>
  bif decide (v7 < 4) then Option.bind (jm (o0, v7, ())) fun q4 => Option.bind (jn (o0, v7, ())) fun q5 => bif q4.2.1 != 0 then some (false, ()) else bif q5.2.1 != 0 then some (false, ()) else bif q4.1 != q5.1 then some (false, ()) else k2 (wI (v7 + 1), o0) else some (true, ())
abbrev zhL (K : Nat) : zhK → Option (Bool × Unit) := iter (zvt jm jn) K
theorem zWp (K : Nat) : ∀ n, evV (zdU z0 jP jD jx jm jn) K Tryz.f12 0 zaG [1, 1, 1, 0, 1, 0] [] zHY n = iter (zvt jm jn) n := zp fun n2 (v7, o0) => by kernel_rfl
def zhM (L1 : zhJ → Option (Bool × Unit)) (L2 : zhK → Option (Bool × Unit)) (k0 : zbP → Option (Bool × Unit)) : zbP → Option (Bool × Unit) := fun (v5, o0, o1) =>
  bif decide (v5 < ((List.length o1.2.1) : Int)) then Option.bind (jx (o0, o1, v5, ())) fun q3 => bif q3.1 then L1 (v5, 0, o0, o1) else some (false, ()) else L2 (0, o1)
abbrev zvu (K : Nat) : zbP → Option (Bool × Unit) := iter (fun k0 => zhM jx (zmQ K k0) (zhL jm jn K) k0) K
theorem zWq (K : Nat) : ∀ n, evV (zdU z0 jP jD jx jm jn) K Tryz.f12 0 zaG [1, 1, 0, 1, 0] [] zHZ n = iter (fun k0 => zhM jx (zmQ K k0) (zhL jm jn K) k0) n := z7V (B := fun L1 L2 k0 => zhM jx L1 L2 k0) (V1 := fun n0 => evV (zdU z0 jP jD jx jm jn) K Tryz.f12 0 zaG [1, 1, 0, 1, 0, 0, 1, 0, 0, 1, 1, 0] [n0] zHX K) (V2 := fun n0 => evV (zdU z0 jP jD jx jm jn) K Tryz.f12 0 zaG [1, 1, 1, 0, 1, 0] [] zHY K) (W1 := fun k0 => (zmQ K k0)) (W2 := fun k0 => (zhL jm jn K)) (fun n0 => zWo z0 jP jD jx jm jn K n0 K) (fun n0 => zWp z0 jP jD jx jm jn K K) fun n0 (v5, o0, o1) => by kernel_rfl
def zqU (L0 : zbP → Option (Bool × Unit)) : (ze × (zf × Unit)) → Option (Bool × Unit) := fun (x0, x1, ()) =>
  Option.bind (z0 (x0, ())) fun q0 => bif q0.1 then Option.bind (jP (x0, x1, ())) fun q1 => bif q1.1 then Option.bind (jD (x0, x1, ())) fun q2 => bif q2.1 then L0 (0, x0, x1) else some (false, ()) else some (false, ()) else some (false, ())
theorem z0N (K : Nat) : evF (zdU z0 jP jD jx jm jn) K Tryz.f12 0 zy7 zaG = zqU z0 jP jD (zvu jx jm jn K) := tr1 (T := zqU z0 jP jD) (zWq z0 jP jD jx jm jn K K) fun (x0, x1, ()) => by kernel_rfl
end
def zgw : zM1 := zqU zaK zgt zeM (zvu zb6 zbN zbO K0)
theorem z0O : Sd Tryz.prog E0 (zwd zgw) := mkS (l := [ziL zaK, zwm zgt, zte zeM, zwo zb6, zy8 zbN, zy9 zbO]) ⟨zNW, z0h, zYb, z0I, z3h, z3j, trivial⟩ Tryz.func12 (by kernel_rfl) (z0N zaK zgt zeM zb6 zbN zbO K0)
section
variable (zg : zlu)
def zF7 : (ze × (pMe × Unit)) → Option (Bool × Unit) := fun (x0, x1, ()) =>
  bif decide (x1.1 ≥ 0) then bif decide (x1.1 < ((List.length x0.2.1) : Int)) then inR x1.1 ((List.length x0.2.1) : Int) (bif x1.2.1 == ix (0 : Int) x0.2.1 x1.1 then Option.bind (zg (x0, x1.2.2.1, ())) fun q0 => bif q0.1 then some (true, ()) else some (false, ()) else some (false, ())) else some (false, ()) else some (false, ())
theorem z3k (K : Nat) : evF (En E0 false [yx zg]) K Tryz.f27 0 zCY zCZ = zF7 zg := funext fun (x0, x1, ()) => by kernel_rfl
end
def zjQ : zO5 := zF7 z6
theorem z3l : Sd Tryz.prog E0 (zzl zjQ) := mkS (l := [yx z6]) ⟨zqj, trivial⟩ Tryz.func27 (by kernel_rfl) (z3k z6 K0)
end
end Go.Proofs.YtaokpakfhdeiiaaGreatDoor
end
section
namespace Go.Proofs.YtaokpakfhdeiiaaGreatDoor
open Go.Ev
set_option linter.unusedVariables false
theorem zWr {l : List Int} {g : Int × Unit → Option (Bool × Unit)} {p : Int → Bool} (hl : l.length ≤ Go.maxLen) (hp : ∀ x ∈ l, g (x, ()) = some (p x, ())) : zaZ (l, some g, ()) = some (zar p l 0, ()) := vb (τ := tI) (B := zkr) (fun _ _ _ _ _ => rfl) hl hp
theorem zhN {l : List Int} {g : Int × Unit → Option (Bool × Unit)} {p : Int → Bool} (hl : l.length ≤ Go.maxLen) (hp : ∀ x ∈ l, g (x, ()) = some (p x, ())) : zK (l, some g, ()) = some (l.any p, ()) := js (τ := tI) (f := zaZ) (zWr hl hp)
theorem zRt {l : List zu} {g : zu × Unit → Option (Bool × Unit)} {p : zu → Bool} (hl : l.length ≤ Go.maxLen) (hp : ∀ x ∈ l, g (x, ()) = some (p x, ())) : yT (l, some g, ()) = some (zar p l 0, ()) := vb (τ := zr) (B := zh6) (fun _ _ _ _ _ => rfl) hl hp
theorem zvv {l : List zu} {g : zu × Unit → Option (Bool × Unit)} {p : zu → Bool} (hl : l.length ≤ Go.maxLen) (hp : ∀ x ∈ l, g (x, ()) = some (p x, ())) : jk (l, some g, ()) = some (l.any p, ()) := js (τ := zr) (f := yT) (zRt hl hp)
theorem zOJ {l : List qW} {g : qW × Unit → Option (Bool × Unit)} {p : qW → Bool} (hl : l.length ≤ Go.maxLen) (hp : ∀ x ∈ l, g (x, ()) = some (p x, ())) : ye (l, some g, ()) = some (zar p l 0, ()) := vb (τ := jL) (B := ze2) (fun _ _ _ _ _ => rfl) hl hp
theorem zJ8 {l : List qW} {g : qW × Unit → Option (Bool × Unit)} {p : qW → Bool} (hl : l.length ≤ Go.maxLen) (hp : ∀ x ∈ l, g (x, ()) = some (p x, ())) : yk (l, some g, ()) = some (l.any p, ()) := js (τ := jL) (f := ye) (zOJ hl hp)
theorem zRu {l : List zm} {g : zm × Unit → Option (Bool × Unit)} {p : zm → Bool} (hl : l.length ≤ Go.maxLen) (hp : ∀ x ∈ l, g (x, ()) = some (p x, ())) : yX (l, some g, ()) = some (zar p l 0, ()) := vb (τ := zo) (B := zib) (fun _ _ _ _ _ => rfl) hl hp
theorem zMK {l : List zm} {g : zm × Unit → Option (Bool × Unit)} {p : zm → Bool} (hl : l.length ≤ Go.maxLen) (hp : ∀ x ∈ l, g (x, ()) = some (p x, ())) : j6 (l, some g, ()) = some (l.any p, ()) := js (τ := zo) (f := yX) (zRu hl hp)
theorem zTN {l : List jK} {g : jK × Unit → Option (Bool × Unit)} {p : jK → Bool} (hl : l.length ≤ Go.maxLen) (hp : ∀ x ∈ l, g (x, ()) = some (p x, ())) : zaj (l, some g, ()) = some (zar p l 0, ()) := vb (τ := jz) (B := zi8) (fun _ _ _ _ _ => rfl) hl hp
theorem zOK {l : List jK} {g : jK × Unit → Option (Bool × Unit)} {p : jK → Bool} (hl : l.length ≤ Go.maxLen) (hp : ∀ x ∈ l, g (x, ()) = some (p x, ())) : zav (l, some g, ()) = some (l.any p, ()) := js (τ := jz) (f := zaj) (zTN hl hp)
theorem zTO {l : List qb} {g : qb × Unit → Option (Bool × Unit)} {p : qb → Bool} (hl : l.length ≤ Go.maxLen) (hp : ∀ x ∈ l, g (x, ()) = some (p x, ())) : zak (l, some g, ()) = some (zar p l 0, ()) := vb (τ := zW) (B := zjf) (fun _ _ _ _ _ => rfl) hl hp
theorem zv6 {l : List qb} {g : qb × Unit → Option (Bool × Unit)} {p : qb → Bool} (hl : l.length ≤ Go.maxLen) (hp : ∀ x ∈ l, g (x, ()) = some (p x, ())) : qT (l, some g, ()) = some (l.any p, ()) := js (τ := zW) (f := zak) (zTO hl hp)
theorem zTP {l : List qy} {g : qy × Unit → Option (Bool × Unit)} {p : qy → Bool} (hl : l.length ≤ Go.maxLen) (hp : ∀ x ∈ l, g (x, ()) = some (p x, ())) : zal (l, some g, ()) = some (zar p l 0, ()) := vb (τ := qA) (B := zjg) (fun _ _ _ _ _ => rfl) hl hp
theorem zv7 {l : List qy} {g : qy × Unit → Option (Bool × Unit)} {p : qy → Bool} (hl : l.length ≤ Go.maxLen) (hp : ∀ x ∈ l, g (x, ()) = some (p x, ())) : qU (l, some g, ()) = some (l.any p, ()) := js (τ := qA) (f := zal) (zTP hl hp)
theorem zRv {l : List zn} {g : zn × Unit → Option (Bool × Unit)} {p : zn → Bool} (hl : l.length ≤ Go.maxLen) (hp : ∀ x ∈ l, g (x, ()) = some (p x, ())) : yY (l, some g, ()) = some (zar p l 0, ()) := vb (τ := zB) (B := zif) (fun _ _ _ _ _ => rfl) hl hp
theorem zvw {l : List zn} {g : zn × Unit → Option (Bool × Unit)} {p : zn → Bool} (hl : l.length ≤ Go.maxLen) (hp : ∀ x ∈ l, g (x, ()) = some (p x, ())) : qN (l, some g, ()) = some (l.any p, ()) := js (τ := zB) (f := yY) (zRv hl hp)
theorem zRw {l : List zj} {g : zj × Unit → Option (Bool × Unit)} {p : zj → Bool} (hl : l.length ≤ Go.maxLen) (hp : ∀ x ∈ l, g (x, ()) = some (p x, ())) : yZ (l, some g, ()) = some (zar p l 0, ()) := vb (τ := zw) (B := zii) (fun _ _ _ _ _ => rfl) hl hp
theorem zML {l : List zj} {g : zj × Unit → Option (Bool × Unit)} {p : zj → Bool} (hl : l.length ≤ Go.maxLen) (hp : ∀ x ∈ l, g (x, ()) = some (p x, ())) : j8 (l, some g, ()) = some (l.any p, ()) := js (τ := zw) (f := yZ) (zRw hl hp)
theorem zRx {l : List zH} {g : zH × Unit → Option (Bool × Unit)} {p : zH → Bool} (hl : l.length ≤ Go.maxLen) (hp : ∀ x ∈ l, g (x, ()) = some (p x, ())) : y0 (l, some g, ()) = some (zar p l 0, ()) := vb (τ := zC) (B := zij) (fun _ _ _ _ _ => rfl) hl hp
theorem zMM {l : List zH} {g : zH × Unit → Option (Bool × Unit)} {p : zH → Bool} (hl : l.length ≤ Go.maxLen) (hp : ∀ x ∈ l, g (x, ()) = some (p x, ())) : j9 (l, some g, ()) = some (l.any p, ()) := js (τ := zC) (f := y0) (zRx hl hp)
theorem zF8 {l : List qd} {g : qd × Unit → Option (Bool × Unit)} {p : qd → Bool} (hl : l.length ≤ Go.maxLen) (hp : ∀ x ∈ l, g (x, ()) = some (p x, ())) : jX (l, some g, ()) = some (zar p l 0, ()) := vb (τ := qt) (B := zjc) (fun _ _ _ _ _ => rfl) hl hp
theorem zOL {l : List qd} {g : qd × Unit → Option (Bool × Unit)} {p : qd → Bool} (hl : l.length ≤ Go.maxLen) (hp : ∀ x ∈ l, g (x, ()) = some (p x, ())) : vu (l, some g, ()) = some (l.any p, ()) := js (τ := qt) (f := jX) (zF8 hl hp)
theorem zWs {l : List jE} {g : jE × Unit → Option (Bool × Unit)} {p : jE → Bool} (hl : l.length ≤ Go.maxLen) (hp : ∀ x ∈ l, g (x, ()) = some (p x, ())) : zbe (l, some g, ()) = some (zar p l 0, ()) := vb (τ := z5) (B := zkE) (fun _ _ _ _ _ => rfl) hl hp
theorem zQv {l : List jE} {g : jE × Unit → Option (Bool × Unit)} {p : jE → Bool} (hl : l.length ≤ Go.maxLen) (hp : ∀ x ∈ l, g (x, ()) = some (p x, ())) : vM (l, some g, ()) = some (l.any p, ()) := js (τ := z5) (f := zbe) (zWs hl hp)
theorem zTQ {l : List Int} {g : Int × Unit → Option (Bool × Unit)} {p : Int → Bool} (hl : l.length ≤ Go.maxLen) (hp : ∀ x ∈ l, g (x, ()) = some (p x, ())) : zah (l, some g, ()) = some (zar p l 0, ()) := vb (τ := (Ty.int .u8)) (B := zi4) (fun _ _ _ _ _ => rfl) hl hp
theorem zOM {l : List Int} {g : Int × Unit → Option (Bool × Unit)} {p : Int → Bool} (hl : l.length ≤ Go.maxLen) (hp : ∀ x ∈ l, g (x, ()) = some (p x, ())) : vp (l, some g, ()) = some (l.any p, ()) := js (τ := (Ty.int .u8)) (f := zah) (zTQ hl hp)
theorem z46 {l : List zm} {g : zm × Unit → Option (Bool × Unit)} {p : zm → Bool} (hl : l.length ≤ Go.maxLen) (hp : ∀ x ∈ l, g (x, ()) = some (p x, ())) : zd3 (l, some g, ()) = some (l.all p, ()) := by
  have h : j6 (l, some fun z => zai (z.1, some (some g), ()), ()) = some (l.any fun x => !p x, ()) := zMK hl fun x hx => by
    show Option.bind (g (x, ())) (fun q => bif q.1 then some (false, ()) else some (true, ())) = _
    rw [hp x hx]; cases p x <;> rfl
  show Option.bind (j6 (l, some fun z => zai (z.1, some (some g), ()), ())) (fun q => bif q.1 then some (false, ()) else some (true, ())) = _
  rw [h, ← zag]; cases l.any fun x => !p x <;> rfl
theorem z47 {l : List zj} {g : zj × Unit → Option (Bool × Unit)} {p : zj → Bool} (hl : l.length ≤ Go.maxLen) (hp : ∀ x ∈ l, g (x, ()) = some (p x, ())) : zd4 (l, some g, ()) = some (l.all p, ()) := by
  have h : j8 (l, some fun z => zam (z.1, some (some g), ()), ()) = some (l.any fun x => !p x, ()) := zML hl fun x hx => by
    show Option.bind (g (x, ())) (fun q => bif q.1 then some (false, ()) else some (true, ())) = _
    rw [hp x hx]; cases p x <;> rfl
  show Option.bind (j8 (l, some fun z => zam (z.1, some (some g), ()), ())) (fun q => bif q.1 then some (false, ()) else some (true, ())) = _
  rw [h, ← zag]; cases l.any fun x => !p x <;> rfl
theorem z48 {l : List zH} {g : zH × Unit → Option (Bool × Unit)} {p : zH → Bool} (hl : l.length ≤ Go.maxLen) (hp : ∀ x ∈ l, g (x, ()) = some (p x, ())) : zd5 (l, some g, ()) = some (l.all p, ()) := by
  have h : j9 (l, some fun z => zan (z.1, some (some g), ()), ()) = some (l.any fun x => !p x, ()) := zMM hl fun x hx => by
    show Option.bind (g (x, ())) (fun q => bif q.1 then some (false, ()) else some (true, ())) = _
    rw [hp x hx]; cases p x <;> rfl
  show Option.bind (j9 (l, some fun z => zan (z.1, some (some g), ()), ())) (fun q => bif q.1 then some (false, ()) else some (true, ())) = _
  rw [h, ← zag]; cases l.any fun x => !p x <;> rfl
theorem z76 {l : List Int} {g : Int × Unit → Option (Bool × Unit)} {p : Int → Bool} (hl : l.length ≤ Go.maxLen) (hp : ∀ x ∈ l, g (x, ()) = some (p x, ())) : zgS (l, some g, ()) = some (l.all p, ()) := by
  have h : zK (l, some fun z => zbS (z.1, some (some g), ()), ()) = some (l.any fun x => !p x, ()) := zhN hl fun x hx => by
    show Option.bind (g (x, ())) (fun q => bif q.1 then some (false, ()) else some (true, ())) = _
    rw [hp x hx]; cases p x <;> rfl
  show Option.bind (zK (l, some fun z => zbS (z.1, some (some g), ()), ())) (fun q => bif q.1 then some (false, ()) else some (true, ())) = _
  rw [h, ← zag]; cases l.any fun x => !p x <;> rfl
theorem z6U {l : List qd} {g : qd × Unit → Option (Bool × Unit)} {p : qd → Bool} (hl : l.length ≤ Go.maxLen) (hp : ∀ x ∈ l, g (x, ()) = some (p x, ())) : zcv (l, some g, ()) = some (l.all p, ()) := by
  have h : vu (l, some fun z => zbc (z.1, some (some g), ()), ()) = some (l.any fun x => !p x, ()) := zOL hl fun x hx => by
    show Option.bind (g (x, ())) (fun q => bif q.1 then some (false, ()) else some (true, ())) = _
    rw [hp x hx]; cases p x <;> rfl
  show Option.bind (vu (l, some fun z => zbc (z.1, some (some g), ()), ())) (fun q => bif q.1 then some (false, ()) else some (true, ())) = _
  rw [h, ← zag]; cases l.any fun x => !p x <;> rfl
theorem zWt {l : List qb} {g : qb × Unit → Option (Bool × Unit)} {p : qb → Bool} (hl : l.length ≤ Go.maxLen) (hp : ∀ x ∈ l, g (x, ()) = some (p x, ())) : qY (l, some g, ()) = some (l.all p, ()) := by
  have h : qT (l, some fun z => zbd (z.1, some (some g), ()), ()) = some (l.any fun x => !p x, ()) := zv6 hl fun x hx => by
    show Option.bind (g (x, ())) (fun q => bif q.1 then some (false, ()) else some (true, ())) = _
    rw [hp x hx]; cases p x <;> rfl
  show Option.bind (qT (l, some fun z => zbd (z.1, some (some g), ()), ())) (fun q => bif q.1 then some (false, ()) else some (true, ())) = _
  rw [h, ← zag]; cases l.any fun x => !p x <;> rfl
theorem z77 {l : List jE} {g : jE × Unit → Option (Bool × Unit)} {p : jE → Bool} (hl : l.length ≤ Go.maxLen) (hp : ∀ x ∈ l, g (x, ()) = some (p x, ())) : zdr (l, some g, ()) = some (l.all p, ()) := by
  have h : vM (l, some fun z => zbT (z.1, some (some g), ()), ()) = some (l.any fun x => !p x, ()) := zQv hl fun x hx => by
    show Option.bind (g (x, ())) (fun q => bif q.1 then some (false, ()) else some (true, ())) = _
    rw [hp x hx]; cases p x <;> rfl
  show Option.bind (vM (l, some fun z => zbT (z.1, some (some g), ()), ())) (fun q => bif q.1 then some (false, ()) else some (true, ())) = _
  rw [h, ← zag]; cases l.any fun x => !p x <;> rfl
theorem z6V {l : List qy} {g : qy × Unit → Option (Bool × Unit)} {p : qy → Bool} (hl : l.length ≤ Go.maxLen) (hp : ∀ x ∈ l, g (x, ()) = some (p x, ())) : vv (l, some g, ()) = some (l.all p, ()) := by
  have h : qU (l, some fun z => zbf (z.1, some (some g), ()), ()) = some (l.any fun x => !p x, ()) := zv7 hl fun x hx => by
    show Option.bind (g (x, ())) (fun q => bif q.1 then some (false, ()) else some (true, ())) = _
    rw [hp x hx]; cases p x <;> rfl
  show Option.bind (qU (l, some fun z => zbf (z.1, some (some g), ()), ())) (fun q => bif q.1 then some (false, ()) else some (true, ())) = _
  rw [h, ← zag]; cases l.any fun x => !p x <;> rfl
theorem z49 {l : List zn} {g : zn × Unit → Option (Bool × Unit)} {p : zn → Bool} (hl : l.length ≤ Go.maxLen) (hp : ∀ x ∈ l, g (x, ()) = some (p x, ())) : jZ (l, some g, ()) = some (l.all p, ()) := by
  have h : qN (l, some fun z => zao (z.1, some (some g), ()), ()) = some (l.any fun x => !p x, ()) := zvw hl fun x hx => by
    show Option.bind (g (x, ())) (fun q => bif q.1 then some (false, ()) else some (true, ())) = _
    rw [hp x hx]; cases p x <;> rfl
  show Option.bind (qN (l, some fun z => zao (z.1, some (some g), ()), ())) (fun q => bif q.1 then some (false, ()) else some (true, ())) = _
  rw [h, ← zag]; cases l.any fun x => !p x <;> rfl
theorem z0P {l : List zj} (hl : l.length ≤ lim) : vy (l, ()) = some (l, ()) := zYY (τ := zw) hl rfl
theorem zN9 {l : List zn} (hl : l.length ≤ lim) : vx (l, ()) = some (l, ()) := zYY (τ := zB) hl rfl
end Go.Proofs.YtaokpakfhdeiiaaGreatDoor
end
section
namespace Go.Proofs.YtaokpakfhdeiiaaGreatDoor
open Go.Ev
set_option linter.unusedVariables false
set_option linter.unusedSimpArgs false
theorem zQQ : ∃ m, K0 = m + 8 := ⟨Go.maxLen - 6, by unfold K0 Go.maxLen; omega⟩
def within (x a b : Int) : Bool := decide (a ≤ x ∧ x ≤ b)
theorem znP (x a b : Int) : zL (x, a, b, ()) = some (within x a b, ()) := by
  simp only [zL, zxw, within]; grind
def zdB (a : zu) : Bool := within a.1 0 3
theorem z0Q (a : zu) : zgh (a, ()) = some (zdB a, ()) := by
  simp only [zgh, zAS, zdB, within]; grind
theorem z6W (a : zu) : zcn (a, ()) = some (!zdB a, ()) := by
  simp only [zcn, zsh, z0Q, Option.bind_some]; grind
theorem z0R (a : zu) : zdS (a, ()) = some (zdB a, ()) := by
  rw [zM]
  simp only [zdS, zBl, zdB, within]
  grind
def zvx (x y : Int) : Int := bif decide (x < y) then -1 else bif decide (y < x) then 1 else 0
theorem z5a (x : Int) : zdl (x, ()) = some (false, ()) := by
  simp only [zdl, zuD]; grind
theorem zYn (x : Int) : zaY (x, ()) = some (false, ()) := by
  simp only [zaY, zns]; grind
theorem zOa (x y : Int) : vC (x, y, ()) = some (zvx x y, ()) := by
  simp only [vC, zpF, z5a, Option.bind_some, zvx]; grind
theorem zF9 (x y : Int) : jM (x, y, ()) = some (zvx x y, ()) := by
  simp only [jM, zkp, zYn, Option.bind_some, zvx]; grind
def orV (a b : Int) : Int := bif a != 0 then a else b
theorem z9Y (a b : Int) : zat ([a, b], ()) = some (orV a b, ()) := by
  show iter vL K0 (0, [a, b], 2, 0) = _
  obtain ⟨m, hm⟩ := zQQ
  rw [hm]
  show vL (vL (vL (iter vL (m + 5)))) (0, [a, b], 2, 0) = _
  have h : vL (vL (vL (iter vL (m + 5)))) (0, [a, b], 2, 0) = bif a != 0 then some (a, ()) else bif b != 0 then some (b, ()) else some (0, ()) := by kernel_rfl
  rw [h]; unfold orV; grind
def znQ (a b : zu) : Int := orV (zvx a.1 b.1) (zvx a.2.1 b.2.1)
theorem z5b (a b : zu) : zh7 (a, b, ()) = some (znQ a b, ()) := by
  simp only [zh7, zJh, zOa, zF9, Option.bind_some]
  show Option.bind (zat ([zvx a.1 b.1, zvx a.2.1 b.2.1], ())) _ = _
  rw [z9Y]; rfl
theorem zH0 (a b : zu) : eqI zr a b = ((a.1 : Int) == b.1 && (a.2.1 : Int) == b.2.1) := by
  show cond ((a.1 : Int) == b.1) (cond ((a.2.1 : Int) == b.2.1) true false) false = _
  cases ((a.1 : Int) == b.1) <;> cases ((a.2.1 : Int) == b.2.1) <;> rfl
theorem z5c (a b : zu) : zio (a, b, ()) = some (znQ a b, ()) := by
  simp only [zio, zJR, zH0, znQ, orV, zvx]; grind
def zgx (l : List zu) : Bool := within (l.length : Int) 1 8 && (eqI zr (l.getD 0 (zb zr)) (zb zr) && (l.all zdB && qg (fun i => decide (znQ (l.getD (i - 1) (zb zr)) (l.getD i (zb zr)) < 0)) 1 (l.length - 1)))
theorem z6X {α : Type} {d : α} {l : List α} : ix d l 0 = l.getD 0 d := rfl
theorem z8R (r : ze) : yU (r, ()) = some (zgx r.1, ()) := by
  simp only [yU, zof, znP, Option.bind_some]
  by_cases hw : within (List.length r.1 : Int) 1 8 = true
  · have hb : 1 ≤ List.length r.1 ∧ List.length r.1 ≤ 8 := by unfold within at hw; grind
    have hl : List.length r.1 ≤ Go.maxLen := by unfold Go.maxLen; omega
    have hloop : zsi zh7 K0 (1, r) = bif qg (fun i => decide (znQ (List.getD r.1 (i - 1) (zb zr)) (List.getD r.1 i (zb zr)) < 0)) 1 (List.length r.1 - 1) then some (true, ()) else some (false, ()) :=
      qx (i0 := 1) hl hb.1 (fun i => (i, r)) (fun k i h1 h2 => by
        simp only [zkq]
        rw [ltT h2, zwc h1 (by omega), zx (by omega), zx h2, qh, Int.toNat_natCast, z5b]
        simp only [cond_true, Option.bind_some]; grind) (fun k => by simp only [zkq]; rw [ltF]; rfl)
    rw [zvv (p := fun a => !zdB a) hl fun x _ => z6W x, hloop, z6X]
    have := zag (l := r.1) (p := zdB)
    unfold zgx
    simp only [Option.bind_some]
    grind
  · unfold zgx; grind
theorem zYo (l : List zu) : zeI (l, ()) = some (zgx l, ()) := by
  simp only [zeI, zow]
  by_cases hw : within (List.length l : Int) 1 8 = true
  · have hb : 1 ≤ List.length l ∧ List.length l ≤ 8 := by unfold within at hw; grind
    have hl : List.length l ≤ Go.maxLen := by unfold Go.maxLen; omega
    have hloop : zsE zdS zio K0 (l, 1) = bif qg (fun i => zdB (List.getD l i (zb zr)) && decide (znQ (List.getD l (i - 1) (zb zr)) (List.getD l i (zb zr)) < 0)) 1 (List.length l - 1) then some (true, ()) else some (false, ()) :=
      qx (i0 := 1) hl hb.1 (fun i => (l, i)) (fun k i h1 h2 => by
        simp only [zkN]
        rw [ltT h2, zwc h1 (by omega), zx h2, zx (by omega), zx h2, qh, Int.toNat_natCast, z5c, z0R]
        simp only [cond_true, Option.bind_some]; grind) (fun k => by simp only [zkN]; rw [ltF]; rfl)
    rw [hloop, z6X]
    have h0 : eqI zr (l.getD 0 (zb zr)) (zb zr) = true → zdB (l.getD 0 (zb zr)) = true := fun h => by
      rw [zH0] at h
      have : (l.getD 0 (zb zr)).1 = (0 : Int) := by have : (zb zr).1 = (0 : Int) := rfl; grind
      unfold zdB within; grind
    have hsplit : zdB (l.getD 0 (zb zr)) = true → qg (fun i => zdB (List.getD l i (zb zr)) && decide (znQ (List.getD l (i - 1) (zb zr)) (List.getD l i (zb zr)) < 0)) 1 (List.length l - 1) = (l.all zdB && qg (fun i => decide (znQ (l.getD (i - 1) (zb zr)) (l.getD i (zb zr)) < 0)) 1 (l.length - 1)) := fun h0 => by
      rw [Bool.eq_iff_iff, Bool.and_eq_true, vJ, vJ, List.all_eq_true]
      constructor
      · intro h
        refine ⟨fun x hx => ?_, fun j h1 h2 => ?_⟩
        · obtain ⟨i, hi, rfl⟩ := List.mem_iff_getElem.1 hx
          have e : l.getD i (zb zr) = l[i] := by simp [List.getD, hi]
          rw [← e]
          by_cases hz : i = 0
          · subst hz; exact h0
          · have := h i (by omega) (by omega); grind
        · have := h j h1 h2; grind
      · rintro ⟨h1, h2⟩ j h3 h4
        have := h2 j h3 h4
        have := h1 _ (qQ (d := zb zr) (show j < l.length by omega))
        grind
    unfold zgx
    grind
  · unfold zgx within at *; grind
end Go.Proofs.YtaokpakfhdeiiaaGreatDoor
end
section
namespace Go.Proofs.YtaokpakfhdeiiaaGreatDoor
open Go.Ev
set_option linter.unusedVariables false
set_option linter.unusedSimpArgs false
def small (c : Int) : Bool := decide (97 ≤ c ∧ c ≤ 122)
def digit (c : Int) : Bool := decide (48 ≤ c ∧ c ≤ 57)
theorem z5O (c : Int) : zbA (c, ()) = some (small c, ()) := by
  simp only [zbA, zEM, small]; grind
theorem z9r (c : Int) : zi5 (c, ()) = some (digit c, ()) := by
  simp only [zi5, zEO, digit]; grind
def z1q (c : Int) : Bool := small c || digit c
theorem z9Z (c : Int) : zeB (c, ()) = some (z1q c, ()) := by
  simp only [zeB, zxx, z5O, z9r, Option.bind_some, z1q]; grind
def znR (s : ByteArray) : List Int := List.map (fun b : UInt8 => (b.toNat : Int)) s.data.toList
def chr (s : ByteArray) (i : Nat) : Int := (((s.data.toList).getD i 0).toNat : Int)
theorem zBD (s : ByteArray) : (znR s).length = s.size := by unfold znR; rw [List.length_map]; rfl
theorem size_eq (s : ByteArray) : s.data.toList.length = s.size := rfl
theorem zWu (s : ByteArray) (p : Int → Bool) : (znR s).all p = qg (fun i => p (chr s i)) 0 s.size := by
  rw [Bool.eq_iff_iff, vJ, List.all_eq_true]
  have key : ∀ i, i < s.size → (znR s)[i]? = some (chr s i) := fun i hi => by
    unfold znR chr
    rw [List.getElem?_map, List.getElem?_eq_getElem (by rw [size_eq]; exact hi)]
    simp [List.getD, size_eq, hi]
  constructor
  · intro h j _ hj
    exact h _ (List.mem_of_getElem? (key j (by omega)))
  · intro h x hx
    obtain ⟨i, hi, rfl⟩ := List.mem_iff_getElem.1 hx
    rw [zBD] at hi
    have := key i hi
    rw [List.getElem?_eq_getElem (by rw [zBD]; exact hi)] at this
    rw [Option.some.inj this]
    exact h i (by omega) (by omega)
theorem zWv {s : ByteArray} {g : Int × Unit → Option (Bool × Unit)} {p : Int → Bool} (hl : s.size ≤ Go.maxLen) (hp : ∀ c, g (c, ()) = some (p c, ())) : zgL (s, some g, ()) = some ((znR s).all p, ()) := by
  have h : vp (znR s, some fun z => zi3 (z.1, some (some g), ()), ()) = some ((znR s).any fun x => !p x, ()) := zOM (by rw [zBD]; exact hl) fun x hx => by
    show Option.bind (g (x, ())) (fun q => bif q.1 then some (false, ()) else some (true, ())) = _
    rw [hp x]; cases p x <;> rfl
  show Option.bind (vp (znR s, some fun z => zi3 (z.1, some (some g), ()), ())) (fun q => bif q.1 then some (false, ()) else some (true, ())) = _
  rw [h, ← zag]; cases (znR s).any fun x => !p x <;> rfl
def zvy (s : ByteArray) : Bool := decide (1 ≤ s.size) && (decide (s.size ≤ 12) && qg (fun i => small (chr s i) || (decide (i ≠ 0) && digit (chr s i))) 0 s.size)
theorem z8S (s : ByteArray) : zvy s = (decide (1 ≤ s.size) && (decide (s.size ≤ 12) && (small (chr s 0) && (znR s).all z1q))) := by
  rw [zWu, zvy, Bool.eq_iff_iff]
  simp only [Bool.and_eq_true, decide_eq_true_eq, vJ, z1q]
  constructor
  · rintro ⟨h1, h2, h3⟩
    have := h3 0 (by omega) (by omega)
    refine ⟨h1, h2, by grind, fun j h4 h5 => ?_⟩
    have := h3 j h4 h5
    grind
  · rintro ⟨h1, h2, h3, h4⟩
    refine ⟨h1, h2, fun j h5 h6 => ?_⟩
    have := h4 j h5 h6
    by_cases e : j = 0
    · subst e; grind
    · grind
theorem zGa (s : ByteArray) : vX (s, ()) = some (zvy s, ()) := by
  rw [zM]
  simp only [vX, zEQ]
  rw [z8S]
  by_cases h1 : s.size < 1
  · grind
  by_cases h2 : s.size > 12
  · grind
  rw [zWv (by unfold Go.maxLen; omega) z9Z]
  have hc : ((UInt8.toNat (List.getD s.data.toList (Int.toNat 0) 0) : Nat) : Int) = chr s 0 := rfl
  rw [hc, z5O]
  simp only [Option.bind_some]
  grind
theorem zBE (s : ByteArray) : jH (s, ()) = some (zvy s, ()) := by
  rw [zM]
  simp only [jH, zqP]
  unfold zvy
  by_cases h1 : s.size < 1
  · have : s.size = 0 := by omega
    grind
  by_cases h2 : s.size > 12
  · grind
  have hloop : zvh K0 (s, 0) = bif qg (fun i => small (chr s i) || (decide (i ≠ 0) && digit (chr s i))) 0 (s.size - 0) then some (true, ()) else some (false, ()) :=
    qx (i0 := 0) (n := s.size) (by unfold Go.maxLen; omega) (Nat.zero_le _) (fun i => (s, i)) (fun k i h3 h4 => by
      simp only [zmJ]
      have hc : ((UInt8.toNat (List.getD s.data.toList (Int.toNat (i : Int)) 0) : Nat) : Int) = chr s i := by rw [Int.toNat_natCast]; rfl
      rw [hc]
      simp only [ltT h4, zx h4, cond_true, small, digit]
      grind) (fun k => by simp only [zmJ]; rw [ltF]; rfl)
  rw [hloop]
  grind
def zhO (a : qW) : Bool := zvy a.1 && (zvy a.2.1 && within a.2.2.1 0 3)
theorem z3m (a : qW) : za2 (a, ()) = some (!zhO a, ()) := by
  simp only [za2, znv, zGa, znP, Option.bind_some, zhO]; grind
theorem set1 {α : Type} (d x : α) : zk (List.replicate 1 d) 0 x = [x] := rfl
theorem z90 {n : Nat} (h : n ≤ 1000000) : decide (n ≤ lim) = true := decide_eq_true (by unfold lim; omega)
theorem z5d (r : ze) (h : r.2.2.1.length ≤ 1000) : zd2 (r, ()) = some (r.2.2.1.map (·.1), ()) := by
  have hl : r.2.2.1.length ≤ Go.maxLen := by unfold Go.maxLen; omega
  have := zsN (B := zce) (α := List ByteArray) (len := r.2.2.1.length) hl (fun i o => (r.2.2.1, (r.2.2.1.length : Int), i, o)) (fun i o => some (o ++ (r.2.2.1.drop i).map (·.1), ())) (fun i o => o.length ≤ i) (fun k i s hi hI hk => by
    simp only [zce]
    rw [ltT hi, zx hi, qh, set1, z90 (by simp; omega)]
    simp only [cond_true]
    rw [hk _ (by simp; omega), zjU jQ hi]
    simp) (fun k s _ => by
    simp only [zce]
    rw [ltF, List.drop_of_length_le (Nat.le_refl _)]
    simp) [] (Nat.le_refl _)
  exact this
def znS : List ByteArray → Bool
  | [] => true
  | x :: l => !(l.any fun y => eqI .str x y) && znS l
theorem zLx (x y : ByteArray) : eqI .str x y = (x.toList == y.toList) := rfl
theorem z78 (o : List (ByteArray × Int)) (x z : ByteArray) (v : Int) : yq .str (yu .str o x v) z = (yq .str o z || eqI .str z x) := by
  induction o with
  | nil => simp only [yu, yq]; cases eqI .str z x <;> rfl
  | cons e o ih =>
    simp only [yu, yq]
    cases h : eqI .str x e.1 with
    | true =>
      simp only [cond_true, yq]
      have : eqI .str z e.1 = eqI .str z x := by rw [zLx] at *; rw [zLx]; have := eq_of_beq h; rw [this]
      cases h2 : eqI .str z e.1 with
      | true => rfl
      | false => rw [← this, h2]; simp
    | false =>
      simp only [cond_false, yq, ih]
      cases eqI .str z e.1 <;> rfl
theorem z3n (o : List (ByteArray × Int)) (x : ByteArray) (v : Int) : (yu .str o x v).length = o.length + (bif yq .str o x then 0 else 1) := by
  induction o with
  | nil => rfl
  | cons e o ih =>
    simp only [yu, yq]
    cases h : eqI .str x e.1 with
    | true => simp only [cond_true, List.length_cons, Nat.add_zero]
    | false =>
      simp only [cond_false, List.length_cons, ih]
      generalize (bif yq .str o x then 0 else 1) = n
      omega
def zMN : List ByteArray → List (ByteArray × Int) → Nat
  | [], o => o.length
  | x :: l, o => zMN l (yu .str o x (wI (zec .str (0 : Int) o x + 1)))
theorem z5P : ∀ (l : List ByteArray) (o : List (ByteArray × Int)), zMN l o ≤ o.length + l.length
  | [], o => Nat.le_refl _
  | x :: l, o => by
    have h := z5P l (yu .str o x (wI (zec .str (0 : Int) o x + 1)))
    rw [z3n] at h
    simp only [zMN, List.length_cons]
    cases hm : yq .str o x <;> (rw [hm] at h; simp only [cond_true, cond_false] at h; omega)
theorem z5Q : ∀ (l : List ByteArray) (o : List (ByteArray × Int)), (zMN l o == o.length + l.length) = (znS l && l.all fun x => !yq .str o x)
  | [], o => by simp [zMN, znS]
  | x :: l, o => by
    have h := z5P l (yu .str o x (wI (zec .str (0 : Int) o x + 1)))
    have ih := z5Q l (yu .str o x (wI (zec .str (0 : Int) o x + 1)))
    rw [z3n] at h ih
    simp only [zMN, List.length_cons, znS, List.all_cons]
    cases hm : yq .str o x with
    | true =>
      rw [hm] at h
      simp only [cond_true] at h
      have : (zMN l (yu .str o x (wI (zec .str (0 : Int) o x + 1))) == o.length + (l.length + 1)) = false := by
        simp only [beq_eq_false_iff_ne]; omega
      rw [this]
      simp
    | false =>
      rw [hm] at ih
      simp only [cond_false] at ih
      rw [show o.length + (l.length + 1) = o.length + 1 + l.length by omega, ih]
      simp only [z78, Bool.not_or, Bool.not_false, Bool.true_and]
      have : (l.all fun z => !yq .str o z && !eqI .str z x) = ((l.all fun z => !yq .str o z) && !(l.any fun y => eqI .str x y)) := by
        rw [Bool.eq_iff_iff]
        simp only [List.all_eq_true, Bool.and_eq_true, Bool.not_eq_true', List.any_eq_false, Bool.not_eq_true]
        have hs : ∀ z, eqI .str z x = eqI .str x z := fun z => by rw [zLx, zLx]; exact Bool.beq_comm
        grind
      rw [this]
      cases znS l <;> cases (l.all fun z => !yq .str o z) <;> cases (l.any fun y => eqI .str x y) <;> rfl
theorem z79 (m n : Nat) : (((m : Nat) : Int) == ((n : Nat) : Int)) = (m == n) := by
  rw [Bool.eq_iff_iff]; simp only [beq_iff_eq]; omega
theorem z9s (l : List ByteArray) (h : l.length ≤ 1000) : znx (l, ()) = some (znS l, ()) := by
  have := zGO (B := zi7) (l := l) (α := List (ByteArray × Int)) (zb .str) (fun i o => (l, l, (l.length : Int), i, o)) (fun rest o => some (zMN rest o == l.length, ())) (by unfold Go.maxLen; omega) (fun k i x rest s hi hx _ hr hk => by
    simp only [zi7]
    rw [ltT hi, zx hi, Int.toNat_natCast, hx]
    simp only [cond_true]
    exact hk _) (fun k s => by
    simp only [zi7]
    rw [ltF]
    simp only [cond_false, zMN]
    rw [z79]
    cases s.length == l.length <;> rfl) []
  refine this.trans ?_
  have h2 := z5Q l []
  simp only [List.length_nil, Nat.zero_add] at h2
  rw [h2]
  simp [yq]
def zjV (l : List qW) : Bool := within (l.length : Int) 1 8 && (l.all zhO && znS (l.map (·.1)))
theorem z6Y (r : ze) : vV (r, ()) = some (zjV r.2.2.1, ()) := by
  rw [zM]
  simp only [vV, zsj, znP, Option.bind_some]
  unfold zjV
  by_cases hw : within (List.length r.2.2.1 : Int) 1 8 = true
  · have hb : 1 ≤ List.length r.2.2.1 ∧ List.length r.2.2.1 ≤ 8 := by unfold within at hw; grind
    rw [zJ8 (p := fun a => !zhO a) (by unfold Go.maxLen; omega) fun x _ => z3m x, z5d r (by omega)]
    simp only [Option.bind_some]
    rw [z9s _ (by simp; omega)]
    simp only [Option.bind_some]
    have := zag (l := r.2.2.1) (p := zhO)
    grind
  · grind
theorem zWw : ∀ {l : List ByteArray}, znS l = true ↔ ∀ i j : Nat, i < j → j < l.length → eqI .str (l.getD i (zb .str)) (l.getD j (zb .str)) = false
  | [] => by simp [znS]
  | x :: l => by
    simp only [znS, Bool.and_eq_true, Bool.not_eq_true', List.any_eq_false, zWw (l := l)]
    constructor
    · rintro ⟨h1, h2⟩ i j hij hj
      cases j with
      | zero => omega
      | succ j =>
        simp only [List.length_cons] at hj
        cases i with
        | zero =>
          have := h1 (l.getD j (zb .str)) (qQ (by omega))
          simpa using this
        | succ i => exact h2 i j (by omega) (by omega)
    · intro h
      refine ⟨fun y hy => ?_, fun i j h1 h2 => h (i + 1) (j + 1) (by omega) (by simp only [List.length_cons]; omega)⟩
      obtain ⟨j, hj, rfl⟩ := List.mem_iff_getElem.1 hy
      have := h 0 (j + 1) (by omega) (by simp only [List.length_cons]; omega)
      simpa [List.getD, hj] using this
theorem zTR (l : List qW) : zcA (l, ()) = some (zjV l, ()) := by
  rw [zM]
  simp only [zcA, zkO]
  unfold zjV
  by_cases h1 : l.length < 1
  · unfold within; grind
  by_cases h2 : l.length > 8
  · unfold within; grind
  have hl : l.length ≤ Go.maxLen := by unfold Go.maxLen; omega
  have inner : ∀ k0 (j : Nat), j < l.length → zha K0 k0 (l, (j : Int), 0) = bif qg (fun i => !eqI .str (l.getD i jQ).1 (l.getD j jQ).1) 0 j then k0 (l, wI ((j : Int) + 1)) else some (false, ()) := fun k0 j hj =>
    qx (i0 := 0) (n := j) (by omega) (Nat.zero_le _) (fun i => (l, (j : Int), i)) (fun k i h3 h4 => by
      simp only [zg9]
      rw [ltT h4, zx (by omega), zx hj, qh, qh, ← zLx]
      simp only [cond_true]
      cases eqI .str (l.getD i jQ).1 (l.getD j jQ).1 <;> rfl) (fun k => by simp only [zg9]; rw [ltF]; rfl)
  have hloop : znN jH K0 (l, 0) = bif qg (fun j => zhO (l.getD j jQ) && qg (fun i => !eqI .str (l.getD i jQ).1 (l.getD j jQ).1) 0 j) 0 (l.length - 0) then some (true, ()) else some (false, ()) :=
    qx (i0 := 0) hl (Nat.zero_le _) (fun i => (l, i)) (fun k i h3 h4 => by
      simp only [zdg]
      rw [ltT h4]
      simp only [zx h4, qh, zBE, Option.bind_some, cond_true]
      rw [inner k i h4]
      unfold zhO within
      grind) (fun k => by simp only [zdg]; rw [ltF]; rfl)
  rw [hloop]
  have hw : within (l.length : Int) 1 8 = true := by unfold within; grind
  have key : qg (fun j => zhO (l.getD j jQ) && qg (fun i => !eqI .str (l.getD i jQ).1 (l.getD j jQ).1) 0 j) 0 (l.length - 0) = (l.all zhO && znS (l.map (·.1))) := by
    have hm : ∀ i, i < l.length → (l.map (·.1)).getD i (zb .str) = (l.getD i jQ).1 := fun i hi => by simp [List.getD, hi]
    rw [Bool.eq_iff_iff, Bool.and_eq_true, vJ, zWw, List.all_eq_true]
    constructor
    · intro h
      refine ⟨fun x hx => ?_, fun i j h3 h4 => ?_⟩
      · obtain ⟨i, hi, rfl⟩ := List.mem_iff_getElem.1 hx
        have e : l.getD i jQ = l[i] := by simp [List.getD, hi]
        rw [← e]
        have := h i (by omega) (by omega)
        grind
      · rw [List.length_map] at h4
        rw [hm i (by omega), hm j h4]
        have := h j (by omega) (by omega)
        simp only [Bool.and_eq_true, vJ] at this
        have := this.2 i (by omega) (by omega)
        simpa using this
    · rintro ⟨h3, h4⟩ j h5 h6
      simp only [Bool.and_eq_true, vJ]
      refine ⟨h3 _ (qQ (by omega)), fun i h7 h8 => ?_⟩
      have := h4 i j (by omega) (by rw [List.length_map]; omega)
      rw [hm i (by omega), hm j (by omega)] at this
      rw [this]; rfl
  rw [key, hw]
  grind
def zGb (r : ze) : Bool := within (r.2.1.length : Int) 1 8 && r.2.1.all fun i => decide (0 ≤ i) && decide (i < (r.1.length : Int))
theorem z9t (r : ze) (h : r.1.length ≤ 1000) : zaI (r, ()) = some (zGb r, ()) := by
  rw [zM]
  simp only [zaI, zAU, znP, Option.bind_some]
  unfold zGb
  by_cases hw : within (List.length r.2.1 : Int) 1 8 = true
  · have hb : 1 ≤ List.length r.2.1 ∧ List.length r.2.1 ≤ 8 := by unfold within at hw; grind
    have hq : ∀ x : Int, (fun z : Int × Unit => zby (z.1, some r, ())) (x, ()) = some (!(decide (0 ≤ x) && decide (x < (r.1.length : Int))), ()) := fun x => by
      show zby _ = _
      simp only [zby, zuF, znP, Option.bind_some]
      have : wI (((List.length r.1 : Nat) : Int) - 1) = (r.1.length : Int) - 1 := by
        unfold wI
        exact IntWalk.i64_in _ (by omega)
      rw [this]
      unfold within
      grind
    rw [zhN (by unfold Go.maxLen; omega) fun x _ => hq x]
    simp only [Option.bind_some]
    have := zag (l := r.2.1) (p := fun i => decide (0 ≤ i) && decide (i < (r.1.length : Int)))
    grind
  · grind
def zQR (r : ze) : Bool := within r.2.2.2.2.2.1 0 24 && (within r.2.2.2.2.2.2.1 0 48 && (within r.2.2.2.2.2.2.2.1 1 4 && within r.2.2.2.2.2.2.2.2.1 1 16))
theorem z91 (r : ze) : zbB (r, ()) = some (zQR r, ()) := by
  simp only [zbB, zE0, znP, Option.bind_some, zQR]; grind
def zLy (q : zc0) : Bool := within q.1 0 12 && (within q.2.1 0 12 && (within q.2.2.1 0 12 && (within q.2.2.2.1 0 12 && within q.2.2.2.2.1 0 12)))
def zvz : Int → List zc0 → Bool
  | _, [] => true
  | left, q :: l => zLy q && (decide (q.2.2.2.2.2.1 ≤ left) && zvz (wU (left - q.2.2.2.2.2.1)) l)
theorem z6Z (x : Int) : zaQ (x, ()) = some (!within x 0 12, ()) := by
  simp only [zaQ, zsm, znP, Option.bind_some]; grind
def zoA (n : Nat) (l : List zc0) : Bool := decide (l.length = n) && (decide (0 < l.length) && (decide (1 ≤ (l.getD 0 jl).1) && zvz 4611686018427387904 l))
theorem z8T (r : ze) (h : 1 ≤ r.1.length ∧ r.1.length ≤ 1000) : yW (r, ()) = some (zoA r.1.length r.2.2.2.2.1, ()) := by
  rw [zM]
  simp only [yW, zog]
  unfold zoA
  by_cases hn : r.2.2.2.2.1.length = r.1.length
  · have hl : r.2.2.2.2.1.length ≤ Go.maxLen := by unfold Go.maxLen; omega
    have hloop : zsn zaQ zdm zK K0 (4611686018427387904, r.2.2.2.2.1, (r.2.2.2.2.1.length : Int), 0) = some (zvz 4611686018427387904 r.2.2.2.2.1, ()) :=
      zGO (l := r.2.2.2.2.1) (α := Int) jl (fun i s => (s, r.2.2.2.2.1, (r.2.2.2.2.1.length : Int), i)) (fun rest s => some (zvz s rest, ())) hl (fun k i x rest s hi hx _ hr hk => by
        simp only [zkt]
        rw [ltT hi, zx hi]
        simp only [qh, hx, cond_true]
        have hnum : zdm (x, ()) = some ([x.1, x.2.1, x.2.2.1, x.2.2.2.1, x.2.2.2.2.1], ()) := rfl
        rw [hnum]
        simp only [Option.bind_some]
        rw [zhN (p := fun n => !within n 0 12) (l := [x.1, x.2.1, x.2.2.1, x.2.2.2.1, x.2.2.2.2.1]) (by unfold Go.maxLen; simp) fun n _ => z6Z n]
        simp only [Option.bind_some, hk, zvz, zLy, List.any_cons, List.any_nil]
        grind) (fun k s => by simp only [zkt]; rw [ltF]; rfl) _
    rw [hloop, z6X]
    have h1 : (((List.length r.2.2.2.2.1 : Nat) : Int) != ((List.length r.1 : Nat) : Int)) = false := by rw [zs8]; simp [hn]
    rw [h1]
    grind
  · have h1 : (((List.length r.2.2.2.2.1 : Nat) : Int) != ((List.length r.1 : Nat) : Int)) = true := by rw [zs8]; simp [hn]
    rw [h1]
    grind
theorem z0S (x : Int) : zb5 (x, ()) = some (within x 0 12, ()) := by
  simp only [zb5, zBo, within]; grind
theorem zYp (l : List zc0) (hl : l.length ≤ Go.maxLen) : zeK (l, ()) = some (zoA l.length l, ()) := by
  rw [zM]
  show iter (zcE zb5) K0 (l, 4611686018427387904, 0) = _
  have hloop : iter (zcE zb5) K0 (l, 4611686018427387904, 0) = some (zvz 4611686018427387904 l && (decide (0 < l.length) && decide (1 ≤ (l.getD 0 jl).1)), ()) :=
    zGO (l := l) (α := Int) jl (fun i s => (l, s, i)) (fun rest s => some (zvz s rest && (decide (0 < l.length) && decide (1 ≤ (l.getD 0 jl).1)), ())) hl (fun k i x rest s hi hx _ hr hk => by
      simp only [zcE]
      rw [ltT hi, zx hi]
      simp only [qh, hx, cond_true, z0S, Option.bind_some, hk, zvz, zLy]
      grind) (fun k s => by
      simp only [zcE]
      rw [ltF, z6X]
      simp only [zvz]
      grind) _
  rw [hloop]
  unfold zoA
  grind
end Go.Proofs.YtaokpakfhdeiiaaGreatDoor
end
section
namespace Go.Proofs.YtaokpakfhdeiiaaGreatDoor
open Go.Ev
set_option linter.unusedVariables false
set_option linter.unusedSimpArgs false
def zTS (b : Int) : Int := ((2 ^ b.toNat : Nat) : Int)
def zcj (b : Int) : Bool := decide (0 ≤ b) && decide (b < 64)
theorem z8a {b : Int} (h : zcj b = true) : Go.IntKind.wrap .u64 (1 * 2 ^ (min (Int.toNat b) (Go.IntKind.bits .u64))) = zTS b := by
  unfold zcj at h
  simp only [Bool.and_eq_true, decide_eq_true_eq] at h
  obtain ⟨n, rfl⟩ := Int.eq_ofNat_of_zero_le h.1
  have hn : n < 64 := by omega
  unfold zTS
  rw [Int.toNat_natCast]
  have hm : min n (Go.IntKind.bits .u64) = n := Nat.min_eq_left (by show n ≤ 64; omega)
  rw [hm]
  have : ∀ n : Fin 64, Go.IntKind.wrap .u64 (1 * 2 ^ n.val) = ((2 ^ n.val : Nat) : Int) := by decide +kernel
  exact this ⟨n, hn⟩
theorem zvA {n : Int} (h : 0 ≤ n ∧ n < 18446744073709551616) : Go.IntKind.wrap .u64 n = n := by
  show n % ((2 ^ 64 : Nat) : Int) = n
  exact Int.emod_eq_of_lt h.1 (by have : ((2 ^ 64 : Nat) : Int) = 18446744073709551616 := by decide
                                  omega)
def hasB (c : Int) (b : Nat) : Bool := c.toNat.testBit b
theorem has_eq (c b : Int) (hc : 0 ≤ c) (hb : 0 ≤ b ∧ b < 64) : (Int.tmod (Int.fdiv c (2 ^ min (Int.toNat (Go.IntKind.wrap .u64 b)) (Go.IntKind.bits .u64))) 2 == 1) = hasB c b.toNat := by
  obtain ⟨n, rfl⟩ := Int.eq_ofNat_of_zero_le hc
  obtain ⟨m, rfl⟩ := Int.eq_ofNat_of_zero_le hb.1
  rw [zvA (by omega)]
  have hm : min (Int.toNat (m : Int)) (Go.IntKind.bits .u64) = m := Nat.min_eq_left (by show (m : Int).toNat ≤ 64; omega)
  rw [hm]
  unfold hasB
  have h2 : Int.fdiv (n : Int) (2 ^ m) = ((n / 2 ^ m : Nat) : Int) := by
    rw [show ((2 : Int) ^ m) = ((2 ^ m : Nat) : Int) by simp]
    rw [Int.fdiv_eq_ediv_of_nonneg _ (Int.natCast_nonneg _)]
    rfl
  have h3 : Int.tmod ((n / 2 ^ m : Nat) : Int) 2 = ((n / 2 ^ m % 2 : Nat) : Int) := by
    rw [Int.tmod_eq_emod_of_nonneg (Int.natCast_nonneg _)]
    rfl
  rw [h2, h3, Int.toNat_natCast, Int.toNat_natCast, Nat.testBit_eq_decide_div_mod_eq]
  have : (((n / 2 ^ m % 2 : Nat) : Int) == 1) = decide (n / 2 ^ m % 2 = 1) := by
    by_cases h : n / 2 ^ m % 2 = 1
    · rw [h]; rfl
    · rw [decide_eq_false h]
      cases hx : (((n / 2 ^ m % 2 : Nat) : Int) == 1) with
      | false => rfl
      | true => exact absurd (Int.ofNat.inj (by simpa using hx)) h
  exact this
def zoB (a b : Int) : Int := Go.IntKind.wrap .u64 (BitVec.toNat (BitVec.ofInt (Go.IntKind.bits .u64) a &&& ~~~BitVec.ofInt (Go.IntKind.bits .u64) b) : Int)
def orI (a b : Int) : Int := Go.IntKind.wrap .u64 (BitVec.toNat (BitVec.ofInt (Go.IntKind.bits .u64) a ||| BitVec.ofInt (Go.IntKind.bits .u64) b) : Int)
def zCq : Int → List qi → Int
  | a, [] => a
  | a, g :: gs => zCq (orI a (zTS g.1)) gs
theorem zyX (n : Nat) : BitVec.ofInt (Go.IntKind.bits .u64) (n : Int) = BitVec.ofNat 64 n := by
  show BitVec.ofInt 64 (n : Int) = BitVec.ofNat 64 n
  apply BitVec.eq_of_toNat_eq
  rw [BitVec.toNat_ofInt, BitVec.toNat_ofNat]
  omega
theorem z9b (x : BitVec 64) : Go.IntKind.wrap .u64 (x.toNat : Int) = (x.toNat : Int) := by
  have := x.isLt
  exact zvA (by omega)
theorem z9u (a b : Nat) (ha : a < 2 ^ 64) (hb : b < 2 ^ 64) : orI (a : Int) (b : Int) = ((a ||| b : Nat) : Int) := by
  unfold orI
  rw [zyX, zyX]
  show Go.IntKind.wrap .u64 ((BitVec.ofNat 64 a ||| BitVec.ofNat 64 b).toNat : Int) = _
  rw [z9b, BitVec.toNat_or, BitVec.toNat_ofNat, BitVec.toNat_ofNat, Nat.mod_eq_of_lt ha, Nat.mod_eq_of_lt hb]
theorem zSa (c m : Nat) (hc : c < 2 ^ 64) (hm : m < 2 ^ 64) : (zoB (c : Int) (m : Int) != 0) = !((List.range' 0 64).all fun i => !c.testBit i || m.testBit i) := by
  unfold zoB
  rw [zyX, zyX]
  show (Go.IntKind.wrap .u64 ((BitVec.ofNat 64 c &&& ~~~BitVec.ofNat 64 m).toNat : Int) != 0) = _
  rw [z9b]
  have hbit : ∀ i, i < 64 → (BitVec.ofNat 64 c &&& ~~~BitVec.ofNat 64 m).getLsbD i = (c.testBit i && !m.testBit i) := by
    intro i hi
    rw [BitVec.getLsbD_and, BitVec.getLsbD_not, BitVec.getLsbD_ofNat, BitVec.getLsbD_ofNat]
    simp [hi]
  by_cases h : ((List.range' 0 64).all fun i => !c.testBit i || m.testBit i) = true
  · rw [h]
    have h0 : (BitVec.ofNat 64 c &&& ~~~BitVec.ofNat 64 m) = 0#64 := by
      apply BitVec.eq_of_getLsbD_eq
      intro i hi
      rw [hbit i hi]
      have := List.all_eq_true.1 h i (by simp [List.mem_range'_1]; omega)
      revert this
      cases c.testBit i <;> cases m.testBit i <;> simp
    rw [h0]
    rfl
  · have h' := h
    simp only [Bool.not_eq_true] at h'
    rw [h']
    have : (BitVec.ofNat 64 c &&& ~~~BitVec.ofNat 64 m).toNat ≠ 0 := by
      intro h0
      apply h
      rw [List.all_eq_true]
      intro i hi
      simp only [List.mem_range'_1] at hi
      have hb := hbit i (by omega)
      have e0 : (BitVec.ofNat 64 c &&& ~~~BitVec.ofNat 64 m) = 0#64 := BitVec.eq_of_toNat_eq (by rw [h0]; rfl)
      rw [e0] at hb
      revert hb
      cases c.testBit i <;> cases m.testBit i <;> simp
    rw [Bool.not_false, bne_iff_ne]
    omega
theorem z8U {b : Int} (h : zcj b = true) : ∃ n : Nat, b = n ∧ n < 64 ∧ zTS b = ((2 ^ n : Nat) : Int) := by
  unfold zcj at h
  simp only [Bool.and_eq_true, decide_eq_true_eq] at h
  obtain ⟨n, rfl⟩ := Int.eq_ofNat_of_zero_le h.1
  exact ⟨n, rfl, by omega, rfl⟩
theorem zWx : ∀ (l : List qi) (m : Nat), m < 2 ^ 64 → (∀ g ∈ l, zcj g.1 = true) → ∃ k : Nat, zCq (m : Int) l = (k : Int) ∧ k < 2 ^ 64 ∧ ∀ i : Nat, k.testBit i = (m.testBit i || l.any fun g => g.1 == (i : Int))
  | [], m, hm, _ => ⟨m, rfl, hm, fun i => by simp⟩
  | g :: l, m, hm, h => by
    obtain ⟨n, hn, hn64, hv⟩ := z8U (h g (by simp))
    have hp : 2 ^ n < 2 ^ 64 := Nat.pow_lt_pow_right (by omega) hn64
    obtain ⟨k, hk, hk64, hb⟩ := zWx l (m ||| 2 ^ n) (Nat.or_lt_two_pow hm hp) fun g hg => h g (by simp [hg])
    refine ⟨k, ?_, hk64, fun i => ?_⟩
    · simp only [zCq]
      rw [hv, z9u m (2 ^ n) hm hp]
      exact hk
    · rw [hb i, Nat.testBit_or, Nat.testBit_two_pow, List.any_cons, hn, Bool.or_assoc]
      congr 2
      by_cases e : n = i
      · subst e; simp
      · rw [decide_eq_false e]
        symm
        simp only [beq_eq_false_iff_ne, ne_eq]
        omega
def zQS (l : List qi) (c : Int) (i k : Nat) : Bool := (List.range' i k).all fun b => !hasB c b || l.any fun g => g.1 == (b : Int)
def zQw (labels : List zu) (l : List qi) : Bool := labels.all fun a => zQS l a.2.1 0 64
def zGc (l : List zu) : Prop := ∀ a ∈ l, 0 ≤ a.2.1 ∧ a.2.1 < 18446744073709551616
theorem z92 (labels : List zu) (l : List qi) (hl : zGc labels) (h : ∀ g ∈ l, zcj g.1 = true) : (labels.any fun a => zoB a.2.1 (zCq 0 l) != 0) = !zQw labels l := by
  obtain ⟨k, hk, hk64, hb⟩ := zWx l 0 (by decide) h
  have hk' : zCq 0 l = (k : Int) := hk
  rw [hk']
  unfold zQw
  have key : ∀ ls : List zu, zGc ls → (ls.any fun a => zoB a.2.1 (k : Int) != 0) = !(ls.all fun a => zQS l a.2.1 0 64) := by
    intro ls
    induction ls with
    | nil => intro _; rfl
    | cons a ls ih =>
      intro ha
      have h1 := ha a (by simp)
      rw [List.any_cons, List.all_cons, ih fun b hb => ha b (by simp [hb]), Bool.not_and]
      congr 1
      obtain ⟨c, hc⟩ := Int.eq_ofNat_of_zero_le h1.1
      rw [hc, zSa c k (by omega) hk64]
      congr 1
      unfold zQS
      congr 1
      funext i
      rw [hb i]
      unfold hasB
      simp
  exact key labels hl
def zMO (b : Int) : zu := (0, zTS b, ())
theorem z3o (b : Int) : ze3 (b, ()) = some (bif zcj b then (zMO b, 0, ()) else ((0, 0, ()), 1, ())) := by
  simp only [ze3, zEW]
  cases h : zcj b with
  | true =>
    have hs : wU (1 * 2 ^ min (Int.toNat b) (Go.IntKind.bits .u64)) = zTS b := z8a h
    rw [hs]
    simp only [zcj, Bool.and_eq_true, decide_eq_true_eq] at h
    simp only [zMO]
    grind
  | false =>
    simp only [zcj, Bool.and_eq_false_iff, decide_eq_false_iff_not] at h
    grind
theorem z60 (a : zu) (c : Int) : zco (a, some c, ()) = some (zoB a.2.1 c != 0, ()) := by
  rw [zM]; rfl
theorem z61 (a b : zu) : eqI zr a b = eqI zr b a := by
  rw [zH0, zH0]
  grind
theorem z3p {σ α : Type} {B : (σ → Option (Int × Unit)) → σ → Option (Int × Unit)} {l : List α} (d : α) {p : α → Bool} (st : Int → σ) (hl : l.length ≤ Go.maxLen)
    (hin : ∀ k (i : Nat) x, i < l.length → l.getD i d = x → x ∈ l → B k (st i) = bif p x then some ((i : Int), ()) else k (st (wI (i + 1)))) (hout : ∀ k, B k (st l.length) = some (-1, ())) : iter B K0 (st 0) = some (zar p l 0, ()) := by
  have := zsN (α := Unit) (B := B) hl (fun i _ => st i) (fun i _ => some (zar p (l.drop i) i, ())) (fun _ _ => True) (fun k i s hi _ h => ?_) (fun k s _ => ?_) () trivial
  · simpa using this
  · rw [hin k i _ hi rfl (qQ hi), h () trivial, zjU d hi]
    simp only [zar]
    cases p (l.getD i d) <;> rfl
  · rw [hout, List.drop_of_length_le (Nat.le_refl _)]; rfl
theorem z8V {σ α ρ : Type} {B : (σ → Option ρ) → σ → Option ρ} {l : List α} (d : α) {p : α → Bool} {fin hit : Option ρ} (st : Int → σ) (hl : l.length ≤ Go.maxLen)
    (hin : ∀ k (i : Nat) x, i < l.length → l.getD i d = x → x ∈ l → B k (st i) = bif p x then hit else k (st (wI (i + 1)))) (hout : ∀ k, B k (st l.length) = fin) : iter B K0 (st 0) = bif l.any p then hit else fin := by
  have := y9 (B := B) (p := fun x => !p x) (fin := fin) (bad := hit) d st hl (fun k i x h1 h2 h3 => by
    rw [hin k i x h1 h2 h3]; cases p x <;> rfl) hout
  rw [this, ← List.not_any_eq_all_not]
  cases l.any p <;> rfl
theorem zTT {l : List zu} {a : zu} (hl : l.length ≤ Go.maxLen) : yh (l, a, ()) = some (l.any fun y => eqI zr a y, ()) := by
  have h : ze4 (l, a, ()) = some (zar (fun y => eqI zr a y) l 0, ()) :=
    z3p (B := zc6) (l := l) yj (fun i => (l, (l.length : Int), i, a)) hl (fun k i x hi hx _ => by
      simp only [zc6]
      rw [ltT hi, zx hi, qh, hx]; rfl) (fun k => by simp only [zc6]; rw [ltF]; rfl)
  rw [zM]
  simp only [yh, zmb, h, Option.bind_some]
  rw [zSt (p := fun y => eqI zr a y) l 0 (Int.le_refl 0)]
theorem zY4 {α : Type} {p : α → Bool} : ∀ (xs : List α) (i : Int), 0 ≤ i → decide (zar p xs i < 0) = !xs.any p
  | [], _, _ => rfl
  | x :: xs, i, h => by
    have ih := zY4 (p := p) xs (i + 1) (by omega)
    simp only [zar, List.any_cons]
    by_cases hp : p x = true
    · simp [hp]; omega
    · simp only [Bool.not_eq_true] at hp
      simpa [hp] using ih
theorem z3q (b : Int) (h : zcj b = true) : zfn (b, ()) = some (zMO b, ()) := by
  simp only [zfn, zFX]
  have hs := z8a h
  simp only [zcj, Bool.and_eq_true, decide_eq_true_eq] at h
  have hw : wU b = b := zvA (by omega)
  rw [hw, decide_eq_false (by omega), cond_false]
  exact congrArg (fun z : Int => some (((0, z, ()), ()) : zu × Unit)) hs
theorem z0T {l : List zu} {a : zu} (hl : l.length ≤ Go.maxLen) : zgs (l, a, ()) = some (zar (fun y => eqI zr y a) l 0, ()) :=
  z3p (B := zhc) (l := l) yj (fun i => (l, i, a)) hl (fun k i x hi hx _ => by
      simp only [zhc]
      rw [ltT hi, zx hi, qh, hx]; rfl) (fun k => by simp only [zhc]; rw [ltF]; rfl)
theorem z5e {l : List qi} {b : Int} (hl : l.length ≤ Go.maxLen) : zcS (l, b, ()) = some (l.any fun g => (g.1 : Int) == b, ()) := by
  rw [zM]
  exact z8V (B := zlb) (l := l) jA (fun i => (l, b, i)) hl (fun k i x hi hx _ => by
      simp only [zlb]
      rw [ltT hi, zx hi, qh, hx]; rfl) (fun k => by simp only [zlb]; rw [ltF]; rfl)
theorem zJ9 (a : zu) (b : Int) (ha : 0 ≤ a.2.1) (hb : 0 ≤ b ∧ b < 64) : vS (a, b, ()) = some (hasB a.2.1 b.toNat, ()) := by
  rw [zM]
  simp only [vS, zJS]
  have hh := has_eq a.2.1 b ha hb
  have hw : wU b = b := zvA (by omega)
  rw [hw, decide_eq_false (by omega), cond_false, ← hh]
  have hw' : Go.IntKind.wrap .u64 b = b := hw
  rw [hw']
def zTU (labels : List zu) (n : Nat) (last : Int) (g : qi) : Bool := zcj g.1 && (decide (last < g.1) && (within g.2.1 0 ((n : Int) - 1) && labels.any fun y => eqI zr (zMO g.1) y))
def znT (labels : List zu) (n : Nat) : Int → List qi → Bool
  | _, [] => true
  | last, g :: gs => zTU labels n last g && znT labels n g.1 gs
def zCy (labels : List zu) (n : Nat) (l : List qi) : Bool := decide (l.length ≤ 8) && (znT labels n (-1) l && zQw labels l)
theorem zY5 {labels : List zu} {m : Nat} : ∀ (l : List qi) (last : Int), znT labels m last l = true → ∀ g ∈ l, zcj g.1 = true
  | [], _, _, g, hg => by cases hg
  | a :: l, last, h, g, hg => by
    simp only [znT, zTU, Bool.and_eq_true] at h
    rcases List.mem_cons.1 hg with rfl | hg
    · exact h.1.1
    · exact zY5 l a.1 h.2 g hg
theorem z8W (r : ze) (h1 : r.1.length ≤ Go.maxLen) (h2 : r.2.2.1.length ≤ 1000000) (h3 : r.2.2.2.1.length ≤ Go.maxLen) (hL : zGc r.1) : yV (r, ()) = some (zCy r.1 r.2.2.1.length r.2.2.2.1, ()) := by
  have hloop : yV (r, ()) = some (znT r.1 r.2.2.1.length (-1) r.2.2.2.1 && (decide (r.2.2.2.1.length ≤ 8) && !(r.1.any fun a => zoB a.2.1 (zCq 0 r.2.2.2.1) != 0)), ()) :=
    zGO (B := ze6 ze3 zL yh zco jk) (l := r.2.2.2.1) (α := Int × Int) jA (fun i s => (s.1, r.2.2.2.1, (r.2.2.2.1.length : Int), i, r, s.2))
      (fun rest s => some (znT r.1 r.2.2.1.length s.1 rest && (decide (r.2.2.2.1.length ≤ 8) && !(r.1.any fun a => zoB a.2.1 (zCq s.2 rest) != 0)), ())) h3 (fun k i x rest s hi hx _ hr hk => by
        simp only [ze6]
        have hw : wI (((List.length r.2.2.1 : Nat) : Int) - 1) = (r.2.2.1.length : Int) - 1 := by
          unfold wI
          exact IntWalk.i64_in _ (by omega)
        rw [ltT hi, zx hi, hw]
        simp only [qh, hx, cond_true, z3o, Option.bind_some, znT, zTU, zCq]
        cases hb : zcj x.1 with
        | false => rfl
        | true =>
          simp only [cond_true, znP, Option.bind_some, Bool.true_and, zTT h1]
          have hk' := hk (x.1, orI s.2 (zTS x.1))
          have e : decide (s.1 < x.1) = !decide ((x.1 : Int) ≤ s.1) := by grind
          rw [e]
          cases decide ((x.1 : Int) ≤ s.1) with
          | true => rfl
          | false =>
            cases within x.2.1 0 ((r.2.2.1.length : Int) - 1) with
            | false => rfl
            | true =>
              cases (r.1.any fun y => eqI zr (zMO x.1) y) with
              | false => rfl
              | true => exact hk') (fun k s => by
        simp only [ze6]
        rw [ltF]
        simp only [cond_false, znT, zCq, Bool.true_and]
        rw [zvv (p := fun a => zoB a.2.1 s.2 != 0) h1 fun x _ => z60 x s.2, Option.bind_some]
        grind) (-1, 0)
  rw [hloop]
  unfold zCy
  cases hr : znT r.1 r.2.2.1.length (-1) r.2.2.2.1 with
  | false => simp
  | true =>
    rw [z92 r.1 r.2.2.2.1 hL (zY5 _ _ hr)]
    simp
theorem zWy {labels : List zu} {n : Nat} : ∀ {l : List qi} {last : Int}, znT labels n last l = qg (fun i => zTU labels n (if i = 0 then last else (l.getD (i - 1) jA).1) (l.getD i jA)) 0 l.length := by
  intro l
  induction l with
  | nil => intro last; rfl
  | cons a l ih =>
    intro last
    simp only [znT, List.length_cons, qg, ih]
    rw [Bool.eq_iff_iff]
    simp only [Bool.and_eq_true, vJ]
    constructor
    · rintro ⟨h1, h2⟩
      refine ⟨h1, fun j h3 h4 => ?_⟩
      obtain ⟨i, rfl⟩ : ∃ i, j = i + 1 := ⟨j - 1, by omega⟩
      have := h2 i (by omega) (by omega)
      rw [if_neg (by omega)]
      by_cases e : i = 0
      · subst e; simpa using this
      · rw [if_neg e] at this
        obtain ⟨m, rfl⟩ : ∃ m, i = m + 1 := ⟨i - 1, by omega⟩
        exact this
    · rintro ⟨h1, h2⟩
      refine ⟨h1, fun j h3 h4 => ?_⟩
      have := h2 (j + 1) (by omega) (by omega)
      rw [if_neg (by omega)] at this
      by_cases e : j = 0
      · subst e; simpa using this
      · rw [if_neg e]
        obtain ⟨m, rfl⟩ : ∃ m, j = m + 1 := ⟨j - 1, by omega⟩
        exact this
theorem zYq (l : List qi) (labels : List zu) (n : Nat) (h1 : labels.length ≤ Go.maxLen) (hL : zGc labels) : zeJ (l, labels, (n : Int), ()) = some (zCy labels n l, ()) := by
  rw [zM]
  simp only [zeJ, zox]
  unfold zCy
  by_cases h8 : l.length ≤ 8
  · have hl : l.length ≤ Go.maxLen := by unfold Go.maxLen; omega
    have bits : ∀ k1 (j : Nat), j < labels.length → iter (zcD vS zcS k1) K0 (l, labels, (j : Int), 0) = bif zQS l (labels.getD j yj).2.1 0 64 then k1 (l, labels, wI ((j : Int) + 1)) else some (false, ()) := fun k1 j hj => by
      have hc := (hL _ (qQ (d := yj) hj)).1
      have := zYX (B := zcD vS zcS k1) (n := 64) (by unfold Go.maxLen; omega) (p := fun b => !hasB (labels.getD j yj).2.1 b || l.any fun g => (g.1 : Int) == (b : Int)) (fin := k1 (l, labels, wI ((j : Int) + 1))) (bad := some (false, ())) (fun i => (l, labels, (j : Int), i)) (fun k i hi => by
        simp only [zcD]
        rw [decide_eq_true (by omega), zx hj, qh, zJ9 _ _ hc (by omega), z5e hl, Int.toNat_natCast]
        simp only [cond_true, Option.bind_some]
        grind) (fun k => by
        simp only [zcD]
        rfl)
      rw [this]
      unfold zQS
      rw [List.range_eq_range']
    have cover : zkP vS zcS K0 (l, labels, 0) = some (zQw labels l, ()) := by
      rw [zM]
      exact y9 (l := labels) yj (p := fun a => zQS l a.2.1 0 64) (fun i => (l, labels, i)) h1 (fun k i x hi hx _ => by
        simp only [zfq]
        rw [ltT hi, cond_true]
        refine (bits k i hi).trans ?_
        rw [hx]) (fun k => by simp only [zfq]; rw [ltF]; rfl)
    have hloop : zsH zfn zgs vS zcS K0 (l, labels, (n : Int), 0) = bif qg (fun i => zTU labels n (if i = 0 then -1 else (l.getD (i - 1) jA).1) (l.getD i jA)) 0 (l.length - 0) then some (zQw labels l, ()) else some (false, ()) :=
      qx (i0 := 0) hl (Nat.zero_le _) (fun i => (l, labels, (n : Int), i)) (fun k i h3 h4 => by
        simp only [zfr]
        rw [ltT h4]
        simp only [zx h4, cond_true, qh, zTU]
        by_cases hb : zcj (l.getD i jA).1 = true
        · rw [z3q _ hb, Option.bind_some, z0T h1, Option.bind_some, hb]
          have ha : (labels.any fun y => eqI zr y (zMO (l.getD i jA).1)) = labels.any fun y => eqI zr (zMO (l.getD i jA).1) y := by congr 1; funext y; exact z61 _ _
          rw [zY4 labels 0 (Int.le_refl 0), ha]
          simp only [zcj, Bool.and_eq_true, decide_eq_true_eq] at hb
          by_cases hi0 : i = 0
          · subst hi0
            unfold within
            grind
          · rw [zwc (by omega) (by unfold Go.maxLen; omega), zx (by omega), Int.toNat_natCast, if_neg hi0]
            unfold within
            grind
        · simp only [Bool.not_eq_true] at hb
          rw [hb]
          simp only [zcj, Bool.and_eq_false_iff, decide_eq_false_iff_not] at hb
          grind) (fun k => by
        simp only [zfr]
        rw [ltF, cond_false]
        exact cover)
    rw [hloop, zWy]
    grind
  · grind
def zaC (r : ze) : Bool := zgx r.1 && (zGb r && (zjV r.2.2.1 && (zCy r.1 r.2.2.1.length r.2.2.2.1 && (zoA r.1.length r.2.2.2.2.1 && zQR r))))
structure vg (r : ze) : Prop where
  labels : zGc r.1
  guilds : r.2.2.2.1.length ≤ Go.maxLen
  quotas : r.2.2.2.2.1.length ≤ Go.maxLen
theorem zOb (r : ze) (h : vg r) : jf (r, ()) = some (zaC r, ()) := by
  rw [zM]
  show iter zmy K0 (6, 0, r, [some yU, some zaI, some vV, some yV, some yW, some zbB]) = _
  obtain ⟨m, hm⟩ := zQQ
  have hu : iter zmy (m + 8) (6, 0, r, [some yU, some zaI, some vV, some yV, some yW, some zbB]) =
    Option.bind (yU (r, ())) fun q => bif q.1 then Option.bind (zaI (r, ())) fun q => bif q.1 then Option.bind (vV (r, ())) fun q => bif q.1 then Option.bind (yV (r, ())) fun q => bif q.1 then Option.bind (yW (r, ())) fun q => bif q.1 then Option.bind (zbB (r, ())) fun q => bif q.1 then some (true, ()) else some (false, ()) else some (false, ()) else some (false, ()) else some (false, ()) else some (false, ()) else some (false, ()) := by kernel_rfl
  rw [hm, hu, z8R]
  unfold zaC
  simp only [Option.bind_some]
  cases h1 : zgx r.1 with
  | false => rfl
  | true =>
    have hb : 1 ≤ r.1.length ∧ r.1.length ≤ 8 := by unfold zgx within at h1; grind
    rw [z9t r (by omega), z6Y]
    simp only [Option.bind_some, cond_true]
    cases zGb r with
    | false => rfl
    | true =>
      cases h2 : zjV r.2.2.1 with
      | false => rfl
      | true =>
        have hc : r.2.2.1.length ≤ 8 := by unfold zjV within at h2; grind
        rw [z8W r (by unfold Go.maxLen; omega) (by omega) h.guilds h.labels, z8T r (by omega), z91]
        simp only [Option.bind_some]
        grind
theorem zOc (r : ze) (h : vg r) : zaK (r, ()) = some (zaC r, ()) := by
  rw [zM]
  simp only [zaK, zqQ, zYo, zTR, Option.bind_some]
  unfold zaC
  cases h1 : zgx r.1 with
  | false => rfl
  | true =>
    have hb : 1 ≤ r.1.length ∧ r.1.length ≤ 8 := by unfold zgx within at h1; grind
    rw [zYq _ _ _ (by unfold Go.maxLen; omega) h.labels]
    simp only [Option.bind_some]
    by_cases hw : within (List.length r.2.1 : Int) 1 8 = true
    · have hloop : zvi zeK K0 (0, r) = bif (r.2.1.all fun i => decide (0 ≤ i) && decide (i < (r.1.length : Int))) then some (zoA r.1.length r.2.2.2.2.1 && zQR r, ()) else some (false, ()) :=
        y9 (l := r.2.1) (0 : Int) (fun i => (i, r)) (by unfold within at hw; unfold Go.maxLen; grind) (fun k i x hi hx _ => by
          simp only [zmK]
          rw [ltT hi, zx hi, zx hi, qh, hx]
          grind) (fun k => by
          simp only [zmK]
          rw [ltF, zYp _ h.quotas, zs8]
          simp only [Option.bind_some, zoA, zQR, within]
          by_cases hn : r.2.2.2.2.1.length = r.1.length
          · rw [hn]; grind
          · grind)
      rw [hloop]
      unfold zGb
      unfold within at hw ⊢
      grind
    · unfold zGb
      unfold within at hw ⊢
      grind
end Go.Proofs.YtaokpakfhdeiiaaGreatDoor
end
section
namespace Go.Proofs.YtaokpakfhdeiiaaGreatDoor
open Go.Ev
set_option linter.unusedVariables false
set_option linter.unusedSimpArgs false
def vm (x : Int) : Bool := decide (0 ≤ x ∧ x ≤ 127)
theorem z62 (x : Int) : zoh (x, ()) = some (vm x, ()) := by simp only [zoh, zMs, vm]; grind
theorem z5f (x : Int) : zis (x, ()) = some (vm x, ()) := by simp only [zis, zJ0, vm]; grind
theorem z8b (x : Int) : zsV (x, ()) = some (vm x, ()) := by simp only [zsV, zP0, vm]; grind
theorem z5g (x : Int) : zit (x, ()) = some (vm x, ()) := by simp only [zit, zJ1, vm]; grind
def zH1 (x : jE) : Bool := vm x.1 && vm x.2.1
theorem z9v (x : jE) : zja (x, ()) = some (zH1 x, ()) := by simp only [zja, zE2, zH1, vm]; grind
theorem zOd (x : jE) : yb (x, ()) = some (zH1 x, ()) := by simp only [yb, zBv, zH1, vm]; grind
def z1r (x : Int) : Bool := decide (0 ≤ x ∧ x ≤ 5)
theorem z9w (x : Int) : zjb (x, ()) = some (z1r x, ()) := by simp only [zjb, zE3, z1r]; grind
def zGd (s : ByteArray) : Bool := ByteArray.toList s == ByteArray.toList (ByteArray.mk #[])
def zvB (x : jK) : Bool := bif x.1 then zvy x.2.1 else zGd x.2.1
theorem z5h {s : ByteArray} (h : zGd s = true) : zvy s = false := by
  unfold zGd at h
  have := eq_of_beq h
  rw [Go.ByteArray.toList_eq, Go.ByteArray.toList_eq] at this
  have h2 : s.size = 0 := by
    rw [← size_eq, this]; rfl
  unfold zvy; rw [h2]; rfl
theorem z8c (x : jK) : zeC (x, ()) = some (!zvB x, ()) := by
  rw [zM]
  simp only [zeC, zxA, zGa, Option.bind_some, zvB, zGd]
  grind
theorem z3r {l : List jK} (hl : l.length ≤ Go.maxLen) : zi9 (l, ()) = some (l.all zvB, ()) := by
  rw [zM]
  simp only [zi9, zE1]
  rw [zOK (p := fun x => !zvB x) hl fun x _ => z8c x, Option.bind_some, ← zag]
  cases l.any fun x => !zvB x <;> rfl
theorem z0U {l : List jK} (hl : l.length ≤ Go.maxLen) : zlh (l, ()) = some (l.all zvB, ()) := by
  rw [zM]
  exact y9 (B := zhm jH) (l := l) zqq (fun i => (l, i)) hl (fun k i x hi hx _ => by
    simp only [zhm]
    rw [ltT hi]
    simp only [zx hi, qh, hx, zBE, Option.bind_some, cond_true, zvB]
    have := @z5h x.2.1
    unfold zGd at this ⊢
    grind) (fun k => by simp only [zhm]; rw [ltF]; rfl)
theorem z9x (a b : jE) : eqI z5 a b = ((a.1 : Int) == b.1 && (a.2.1 : Int) == b.2.1) := by
  show cond ((a.1 : Int) == b.1) (cond ((a.2.1 : Int) == b.2.1) true false) false = _
  cases ((a.1 : Int) == b.1) <;> cases ((a.2.1 : Int) == b.2.1) <;> rfl
def zQx (x : qd) : Bool := bif x.1 then zH1 x.2.1 && (zH1 x.2.2.1 && z1r x.2.2.2.1) else eqI qt x (zb qt)
theorem z3s (x : qd) : ze8 (x, ()) = some (!zQx x, ()) := by
  rw [zM]
  simp only [ze8, zE5, z9v, z9w, Option.bind_some, zQx]
  grind
def zoC (a b : qd) : Bool := a.1 && (eqI z5 a.2.1 b.2.1 && (a.2.2.2.1 : Int) == b.2.2.2.1)
theorem zYr (x : qd) (r : jE) (d : Int) : zeD (x, some r, some d, ()) = some (x.1 && (eqI z5 x.2.1 r && (x.2.2.2.1 : Int) == d), ()) := by
  rw [zM]
  simp only [zeD, zxC, Option.bind_some]
  grind
theorem z9y {α : Type} {d : α} {p : α → Bool} : ∀ (l : List α) (i : Nat) (a : Int), i < l.length → p (l.getD i d) = true → ((zar p l a) == a + (i : Int)) = qg (fun j => !p (l.getD j d)) 0 i := by
  intro l
  induction l with
  | nil => intro i a h; simp at h
  | cons x l ih =>
    intro i a h hp
    cases i with
    | zero =>
      have hx : p x = true := hp
      simp only [zar, hx, cond_true, qg]
      simp
    | succ i =>
      have h' : i < l.length := by simpa using h
      have hp' : p (l.getD i d) = true := hp
      have := ih i (a + 1) h' hp'
      have e : a + 1 + (i : Int) = a + ((i + 1 : Nat) : Int) := by omega
      rw [e] at this
      simp only [zar]
      rw [Bool.eq_iff_iff, vJ]
      rw [Bool.eq_iff_iff, vJ] at this
      cases hx : p x with
      | true =>
        simp only [cond_true]
        constructor
        · intro h1
          have := eq_of_beq h1
          omega
        · intro h1
          have h2 : (!p x) = true := h1 0 (by omega) (by omega)
          rw [hx] at h2; cases h2
      | false =>
        simp only [cond_false]
        rw [this]
        constructor
        · intro h1 j _ h2
          cases j with
          | zero => show (!p x) = true; rw [hx]; rfl
          | succ j => exact h1 j (by omega) (by omega)
        · intro h1 j _ h2
          exact h1 (j + 1) (by omega) (by omega)
def zWz (l : List qd) : Bool := qg (fun i => zQx (l.getD i qG) && bif (l.getD i qG).1 then qg (fun j => !zoC (l.getD j qG) (l.getD i qG)) 0 i else true) 0 (l.length - 0)
theorem z3t {l : List qd} (hl : l.length ≤ Go.maxLen) : znA (l, ()) = some (zWz l, ()) := by
  rw [zM]
  exact qx (B := zje ze8 ze9) (i0 := 0) hl (Nat.zero_le _) (fun i => (l, l, (l.length : Int), i)) (fun k i h1 h2 => by
    simp only [zje]
    rw [ltT h2, zx h2]
    simp only [qh, z3s, Option.bind_some, cond_true]
    cases he : zQx (l.getD i qG) with
    | false => rfl
    | true =>
      cases hs : (l.getD i qG).1 with
      | false => rfl
      | true =>
        have hi : ze9 (l, (l.getD i qG).2.1, (l.getD i qG).2.2.2.1, ()) = some (zar (fun x => zoC x (l.getD i qG)) l 0, ()) := by
          simp only [ze9, zE6]
          rw [zF8 (p := fun x => zoC x (l.getD i qG)) hl fun x _ => zYr x _ _]
          rfl
        have hp : zoC (l.getD i qG) (l.getD i qG) = true := by
          unfold zoC; rw [z9x, hs]; simp
        have := z9y (d := qG) (p := fun x => zoC x (l.getD i qG)) l i 0 h2 hp
        rw [Int.zero_add] at this
        rw [hi, ← this]
        simp only [Option.bind_some, Bool.not_true, cond_false, cond_true, Bool.true_and, bne]
        cases (zar (fun x => zoC x (l.getD i qG)) l 0 == (i : Int)) <;> rfl) (fun k => by simp only [zje]; rw [ltF]; rfl)
theorem z0V {l : List qd} (hl : l.length ≤ Go.maxLen) : zlj (l, ()) = some (zWz l, ()) := by
  rw [zM]
  have inner : ∀ k0 (i : Nat), i < l.length → zhp K0 k0 (l, (i : Int), 0, l.getD i qG) = bif qg (fun j => !((l.getD i qG).1 && zoC (l.getD j qG) (l.getD i qG))) 0 (i - 0) then k0 (l, wI ((i : Int) + 1)) else some (false, ()) := fun k0 i hi =>
    qx (B := zho k0) (i0 := 0) (n := i) (by omega) (Nat.zero_le _) (fun j => (l, (i : Int), j, l.getD i qG)) (fun k j h1 h2 => by
      simp only [zho]
      rw [ltT h2]
      simp only [zx (show j < l.length by omega), qh, cond_true, zoC]
      grind) (fun k => by simp only [zho]; rw [ltF]; rfl)
  exact qx (B := fun k => zdA yb (zhp K0 k) k) (i0 := 0) hl (Nat.zero_le _) (fun i => (l, i)) (fun k i h1 h2 => by
    simp only [zdA]
    rw [ltT h2]
    simp only [zx h2, qh, zOd, Option.bind_some, cond_true, zQx, z1r]
    have := inner k i h2
    rw [this]
    cases hs : (l.getD i qG).1 with
    | false =>
      simp only [Bool.false_and, Bool.not_false, cond_false, Bool.and_true]
      have : qg (fun _ => true) 0 (i - 0) = true := vJ.2 fun _ _ _ => rfl
      rw [this]
      grind
    | true =>
      simp only [Bool.true_and, cond_true, Nat.sub_zero]
      grind) (fun k => by simp only [zdA]; rw [ltF]; rfl)
def zx1 (k n : Int) (r : jE) : Bool := ((k == 1 || k == 3) && (vm n && eqI z5 r (zb z5))) || (k == 2 && (n == 0 && zH1 r))
def zbQ (x : qb) : Bool := bif x.1 then zvy x.2.1 && zx1 x.2.2.1 x.2.2.2.1 x.2.2.2.2.1 else eqI zW x (zb zW)
theorem z3u (x : zKl) : za9 (x, ()) = some (zx1 x.1 x.2.1 x.2.2.1, ()) := by
  rw [zM]
  simp only [za9, znB, z62, Option.bind_some, zx1, zH1]
  grind
theorem z0W (x : qb) : zgi (x, ()) = some (!zbQ x, ()) := by
  rw [zM]
  have h : zuL (x, ()) = some ((x.2.2.1, x.2.2.2.1, x.2.2.2.2.1, ()), ()) := rfl
  simp only [zgi, zAY, zGa, Option.bind_some, zbQ, h, z3u]
  grind
theorem z0X {l : List qb} (hl : l.length ≤ Go.maxLen) : zgj (l, ()) = some (l.all zbQ, ()) := by
  rw [zM]
  simp only [zgj, zA0]
  rw [zv6 (p := fun x => !zbQ x) hl fun x _ => z0W x, Option.bind_some, ← zag]
  cases l.any fun x => !zbQ x <;> rfl
theorem z0Y {l : List qb} (hl : l.length ≤ Go.maxLen) : zlk (l, ()) = some (l.all zbQ, ()) := by
  rw [zM]
  exact y9 (B := zhr zis yb jH) (l := l) zJ (fun i => (l, i)) hl (fun k i x hi hx _ => by
    simp only [zhr]
    rw [ltT hi]
    simp only [zx hi, qh, hx, zBE, z5f, zOd, Option.bind_some, cond_true, zbQ, zx1]
    grind) (fun k => by simp only [zhr]; rw [ltF]; rfl)
def zLz (c : Int) : Bool := decide (32 ≤ c ∧ c ≤ 126)
theorem z9z (c : Int) : zji (c, ()) = some (zLz c, ()) := by simp only [zji, zE8, zLz]; grind
theorem qad (c : Int) : ziu (c, ()) = some (zLz c, ()) := by simp only [ziu, zJ2, zLz]; grind
def zWA (s : ByteArray) : Bool := decide (1 ≤ s.size ∧ s.size ≤ 40) && ((chr s 0 != 32 && chr s (s.size - 1) != 32) && qg (fun i => zLz (chr s i)) 0 s.size)
theorem zWB (a b : ByteArray) (h : a.size < b.size) : (ByteArray.toList a == ByteArray.toList b) = false := by
  rw [beq_eq_false_iff_ne]
  intro e
  rw [Go.ByteArray.toList_eq, Go.ByteArray.toList_eq] at e
  have := congrArg List.length e
  rw [size_eq, size_eq] at this
  omega
theorem qae (s : ByteArray) : ∀ (n : Nat) (t : ByteArray), t.size ≤ n → ∀ fuel, n < fuel → ∃ r, iter z8 fuel (t, 32) = some (r, ()) ∧ r.size ≤ t.size ∧ (chr t 0 ≠ 32 → r = t) ∧ (1 ≤ t.size → chr t 0 = 32 → r.size < t.size) := by
  intro n
  induction n with
  | zero =>
    intro t ht fuel hf
    obtain ⟨f, rfl⟩ : ∃ f, fuel = f + 1 := ⟨fuel - 1, by omega⟩
    refine ⟨t, ?_, Nat.le_refl _, fun _ => rfl, fun h => by omega⟩
    show z8 _ (t, 32) = _
    simp only [z8]
    rw [decide_eq_false (by omega)]; rfl
  | succ n ih =>
    intro t ht fuel hf
    obtain ⟨f, rfl⟩ : ∃ f, fuel = f + 1 := ⟨fuel - 1, by omega⟩
    by_cases h0 : t.size = 0
    · refine ⟨t, ?_, Nat.le_refl _, fun _ => rfl, fun h => by omega⟩
      show z8 _ (t, 32) = _
      simp only [z8]
      rw [decide_eq_false (by omega)]; rfl
    have hc : ((UInt8.toNat (List.getD t.data.toList (Int.toNat 0) 0) : Nat) : Int) = chr t 0 := rfl
    by_cases h32 : chr t 0 = 32
    · have hsz : (ByteArray.extract t (Int.toNat 1) t.size).size = t.size - 1 := by
        rw [ByteArray.size_extract]
        show min t.size t.size - 1 = _
        omega
      obtain ⟨r, h1, h2, -⟩ := ih (ByteArray.extract t (Int.toNat 1) t.size) (by rw [hsz]; omega) f (by omega)
      refine ⟨r, ?_, by omega, fun h => absurd h32 h, fun _ _ => by omega⟩
      show z8 (iter z8 f) (t, 32) = _
      simp only [z8]
      rw [hc, h32, h1]
      grind
    · refine ⟨t, ?_, Nat.le_refl _, fun _ => rfl, fun _ h => absurd h h32⟩
      show z8 (iter z8 f) (t, 32) = _
      simp only [z8]
      rw [hc, decide_eq_true (by omega), decide_eq_true (by omega)]
      grind
theorem qaf : ∀ (n : Nat) (t : ByteArray), t.size ≤ n → n ≤ 100 → ∀ fuel, n < fuel → ∃ r, iter z3 fuel (t, 32) = some (r, ()) ∧ r.size ≤ t.size ∧ (chr t (t.size - 1) ≠ 32 → r = t) ∧ (1 ≤ t.size → chr t (t.size - 1) = 32 → r.size < t.size) := by
  intro n
  induction n with
  | zero =>
    intro t ht _ fuel hf
    obtain ⟨f, rfl⟩ : ∃ f, fuel = f + 1 := ⟨fuel - 1, by omega⟩
    refine ⟨t, ?_, Nat.le_refl _, fun _ => rfl, fun h => by omega⟩
    show z3 _ (t, 32) = _
    simp only [z3]
    rw [decide_eq_false (by omega)]; rfl
  | succ n ih =>
    intro t ht hn fuel hf
    obtain ⟨f, rfl⟩ : ∃ f, fuel = f + 1 := ⟨fuel - 1, by omega⟩
    by_cases h0 : t.size = 0
    · refine ⟨t, ?_, Nat.le_refl _, fun _ => rfl, fun h => by omega⟩
      show z3 _ (t, 32) = _
      simp only [z3]
      rw [decide_eq_false (by omega)]; rfl
    have hw : wI ((t.size : Int) - 1) = ((t.size - 1 : Nat) : Int) := zwc (by omega) (by unfold Go.maxLen; omega)
    have hc : ((UInt8.toNat (List.getD t.data.toList (Int.toNat ((t.size - 1 : Nat) : Int)) 0) : Nat) : Int) = chr t (t.size - 1) := by rw [Int.toNat_natCast]; rfl
    by_cases h32 : chr t (t.size - 1) = 32
    · have hsz : (ByteArray.extract t 0 (Int.toNat ((t.size - 1 : Nat) : Int))).size = t.size - 1 := by
        rw [ByteArray.size_extract, Int.toNat_natCast]
        omega
      obtain ⟨r, h1, h2, -⟩ := ih (ByteArray.extract t 0 (Int.toNat ((t.size - 1 : Nat) : Int))) (by rw [hsz]; omega) (by omega) f (by omega)
      refine ⟨r, ?_, by omega, fun h => absurd h32 h, fun _ _ => by omega⟩
      show z3 (iter z3 f) (t, 32) = _
      simp only [z3]
      rw [hw, hc, h32, h1, zx (by omega)]
      grind
    · refine ⟨t, ?_, Nat.le_refl _, fun _ => rfl, fun _ h => absurd h h32⟩
      show z3 (iter z3 f) (t, 32) = _
      simp only [z3]
      rw [hw, hc, zx (by omega), decide_eq_true (by omega)]
      grind
theorem z93 (s : ByteArray) (h : 1 ≤ s.size ∧ s.size ≤ 40) : ∃ r, zeE (s, ByteArray.mk #[32], ()) = some (r, ()) ∧ (ByteArray.toList r == ByteArray.toList s) = (chr s 0 != 32 && chr s (s.size - 1) != 32) := by
  obtain ⟨r, h1, h2, h3, h4⟩ := qaf s.size s (Nat.le_refl _) (by omega) K0 (z1p (by unfold Go.maxLen; omega))
  obtain ⟨r', h5, h6, h7, h8⟩ := qae s r.size r (Nat.le_refl _) K0 (z1p (by unfold Go.maxLen; omega))
  refine ⟨r', ?_, ?_⟩
  · simp only [zeE, zxF]
    have e0 : (ByteArray.toList s == ByteArray.toList (ByteArray.mk #[])) = false := by
      cases he : zGd s with
      | false => exact he
      | true =>
        unfold zGd at he
        have := eq_of_beq he
        rw [Go.ByteArray.toList_eq, Go.ByteArray.toList_eq] at this
        have h2 : s.size = 0 := by
          rw [← size_eq, this]; rfl
        omega
    have e1 : (ByteArray.toList (ByteArray.mk #[32]) == ByteArray.toList (ByteArray.mk #[])) = false := by
      rw [Go.ByteArray.toList_eq, Go.ByteArray.toList_eq]; rfl
    have p1 : y8 (s, 32, ()) = some (r, ()) := h1
    have p2 : zaw (r, 32, ()) = some (r', ()) := h5
    have z1 : ((ByteArray.size (ByteArray.mk #[32]) : Nat) : Int) = 1 := rfl
    have z2 : ((UInt8.toNat (List.getD (Array.toList (ByteArray.data (ByteArray.mk #[32]))) (Int.toNat 0) 0) : Nat) : Int) = 32 := rfl
    rw [e0, e1, z1, z2, p1, Option.bind_some, p2]
    rfl
  · by_cases hl : chr s (s.size - 1) = 32
    · have := h4 h.1 hl
      rw [zWB r' s (by omega), hl]; simp
    · obtain rfl := h3 hl
      by_cases hf : chr r 0 = 32
      · have := h8 h.1 hf
        rw [zWB r' r (by omega), hf]; simp
      · rw [h7 hf]
        simp [hf, hl]
theorem z5i (s : ByteArray) : zlw (s, ()) = some (zWA s, ()) := by
  rw [zM]
  simp only [zlw, zJv]
  unfold zWA
  by_cases hb : 1 ≤ s.size ∧ s.size ≤ 40
  · obtain ⟨r, h1, h2⟩ := z93 s hb
    rw [zWv (by unfold Go.maxLen; omega) z9z, h1, zWu, ← h2]
    simp only [Option.bind_some]
    grind
  · grind
theorem z3v (s : ByteArray) : zfB (s, ()) = some (zWA s, ()) := by
  rw [zM]
  simp only [zfB, zvl]
  unfold zWA
  by_cases hb : 1 ≤ s.size ∧ s.size ≤ 40
  · have hw : wI ((s.size : Int) - 1) = ((s.size - 1 : Nat) : Int) := zwc hb.1 (by unfold Go.maxLen; omega)
    have hc : ((UInt8.toNat (List.getD s.data.toList (Int.toNat ((s.size - 1 : Nat) : Int)) 0) : Nat) : Int) = chr s (s.size - 1) := by rw [Int.toNat_natCast]; rfl
    have hc0 : ((UInt8.toNat (List.getD s.data.toList (Int.toNat 0) 0) : Nat) : Int) = chr s 0 := rfl
    have hloop : zx0 ziu K0 (s, 0) = bif qg (fun i => zLz (chr s i)) 0 (s.size - 0) then some (true, ()) else some (false, ()) :=
      qx (i0 := 0) (n := s.size) (by unfold Go.maxLen; omega) (Nat.zero_le _) (fun i => (s, i)) (fun k i h1 h2 => by
        simp only [zoz]
        have hc : ((UInt8.toNat (List.getD s.data.toList (Int.toNat (i : Int)) 0) : Nat) : Int) = chr s i := by rw [Int.toNat_natCast]; rfl
        rw [hc, ltT h2, zx h2, qad]; rfl) (fun k => by simp only [zoz]; rw [ltF]; rfl)
    rw [hw, zx (by omega), hc, hc0, hloop]
    grind
  · grind
def zvC (x : qy) : Bool := bif x.1 then (vm x.2.1 && (vm x.2.2.1 && vm x.2.2.2.1)) && zWA x.2.2.2.2.1 else eqI qA x (zb qA)
theorem z3w (x : qy) : zjj (x, ()) = some (!zvC x, ()) := by
  rw [zM]
  simp only [zjj, zFc, zjh, zxE, z8b, z5i, Option.bind_some, zvC]
  grind
theorem z3x {l : List qy} (hl : l.length ≤ Go.maxLen) : zjk (l, ()) = some (l.all zvC, ()) := by
  rw [zM]
  simp only [zjk, zFe]
  rw [zv7 (p := fun x => !zvC x) hl fun x _ => z3w x, Option.bind_some, ← zag]
  cases l.any fun x => !zvC x <;> rfl
theorem z0Z {l : List qy} (hl : l.length ≤ Go.maxLen) : zll (l, ()) = some (l.all zvC, ()) := by
  rw [zM]
  exact y9 (B := zht zit zfB) (l := l) zfG (fun i => (l, i)) hl (fun k i x hi hx _ => by
    simp only [zht]
    rw [ltT hi]
    simp only [zx hi, qh, hx, z3v, z5g, Option.bind_some, cond_true, zvC]
    grind) (fun k => by simp only [zht]; rw [ltF]; rfl)
end Go.Proofs.YtaokpakfhdeiiaaGreatDoor
end
section
namespace Go.Proofs.YtaokpakfhdeiiaaGreatDoor
open Go.Ev
set_option linter.unusedVariables false
set_option linter.unusedSimpArgs false
abbrev M62 : Int := 4611686018427387904
abbrev U64 : Int := 18446744073709551616
def jN (x : Int) : Bool := decide (0 ≤ x ∧ x ≤ 3)
theorem zfE (x : Int) : qp (x, ()) = some (jN x, ()) := by simp only [qp, zFf, jN]; grind
def zMP (a b : Int) : Int × Int × Unit := bif decide (a + b > M62) then (0, 7, ()) else (a + b, 0, ())
theorem z5j {a b : Int} (ha : 0 ≤ a) (hb : 0 ≤ b ∧ b < U64) : zim (a, b, ()) = some (zMP a b) := by
  simp only [zim, zJN, zH7, zLF, zMP, cond_true]
  have h0 : 0 ≤ (a + b) / 18446744073709551616 := by omega
  have h1 : ((a + b) / 18446744073709551616 != 0) = decide (18446744073709551616 ≤ a + b) := by
    rw [Bool.eq_iff_iff]; simp only [bne_iff_ne, ne_eq, decide_eq_true_eq]; omega
  have h2 : a + b < 18446744073709551616 → (a + b) % 18446744073709551616 = a + b := fun h => by omega
  unfold M62 at *
  unfold U64 at *
  grind
theorem zjR {a b : Int} (ha : 0 ≤ a ∧ a < U64) (hb : 0 ≤ b ∧ b < U64) : qj (a, b, ()) = some (zMP a b) := by
  simp only [qj, zF6, zMP]
  unfold M62
  unfold U64 at *
  by_cases h1 : a > 4611686018427387904
  · grind
  · have hw : wU (4611686018427387904 - a) = 4611686018427387904 - a := zvA (by omega)
    rw [hw]
    by_cases h2 : b > 4611686018427387904 - a
    · grind
    · have hw : wU (a + b) = a + b := zvA (by omega)
      rw [hw]
      grind
def zLA (a b : Int) : Int × Int × Unit := bif decide (a * b > M62) then (0, 7, ()) else (a * b, 0, ())
theorem qag (a b : Nat) (ha : a < 18446744073709551616) (hb : b < 18446744073709551616) : zbR ((a : Int), (b : Int), ()) = some ((((a * b) / 18446744073709551616 : Nat) : Int), (((a * b) % 18446744073709551616 : Nat) : Int), ()) := by
  have e32 : ((2 : Int) ^ min (Int.toNat 32) (Go.IntKind.bits .u64)) = 4294967296 := rfl
  have hand : ∀ x : Nat, x < 18446744073709551616 → wU (BitVec.toNat (BitVec.ofInt (Go.IntKind.bits .u64) (x : Int) &&& BitVec.ofInt (Go.IntKind.bits .u64) 4294967295) : Int) = ((x % 4294967296 : Nat) : Int) := fun x hx => by
    have h1 : BitVec.ofInt (Go.IntKind.bits .u64) 4294967295 = BitVec.ofNat 64 4294967295 := rfl
    rw [zyX, h1]
    have h2 : (BitVec.ofNat 64 x &&& BitVec.ofNat 64 4294967295).toNat = x % 4294967296 := by
      rw [BitVec.toNat_and, BitVec.toNat_ofNat, BitVec.toNat_ofNat, Nat.mod_eq_of_lt (show x < 2 ^ 64 by omega)]
      exact Nat.and_two_pow_sub_one_eq_mod x 32
    have h3 : ((BitVec.ofNat 64 x &&& BitVec.ofNat 64 4294967295 : BitVec (Go.IntKind.bits .u64)).toNat : Int) = ((x % 4294967296 : Nat) : Int) := congrArg _ h2
    exact (congrArg wU h3).trans (zvA (by omega))
  have hdiv : ∀ x : Nat, Int.fdiv (x : Int) 4294967296 = ((x / 4294967296 : Nat) : Int) := fun x => by
    rw [Int.fdiv_eq_ediv_of_nonneg _ (by omega)]; rfl
  have hw : ∀ x : Nat, x < 18446744073709551616 → wU (x : Int) = (x : Int) := fun x hx => zvA (by omega)
  have hmod : wU ((a : Int) * (b : Int)) = (((a * b) % 18446744073709551616 : Nat) : Int) := by
    rw [show ((a : Int) * (b : Int)) = ((a * b : Nat) : Int) by simp]
    show ((a * b : Nat) : Int) % ((2 ^ 64 : Nat) : Int) = _
    rfl
  simp only [zbR, zpJ, e32]
  have ha1 : a / 4294967296 ≤ 4294967295 := by omega
  have ha0 : a % 4294967296 ≤ 4294967295 := by omega
  have hb1 : b / 4294967296 ≤ 4294967295 := by omega
  have hb0 : b % 4294967296 ≤ 4294967295 := by omega
  have hp := Nat.mul_le_mul ha1 hb1
  have hq := Nat.mul_le_mul ha1 hb0
  have hr := Nat.mul_le_mul ha0 hb1
  have hs := Nat.mul_le_mul ha0 hb0
  have hab : a * b = (a / 4294967296 * (b / 4294967296)) * 18446744073709551616 + (a / 4294967296 * (b % 4294967296) + a % 4294967296 * (b / 4294967296)) * 4294967296 + a % 4294967296 * (b % 4294967296) := by
    conv => lhs; rw [← Nat.div_add_mod a 4294967296, ← Nat.div_add_mod b 4294967296]
    grind
  rw [hmod, hab, hand a ha, hand b hb, hdiv a, hdiv b]
  generalize a / 4294967296 = a1 at *
  generalize a % 4294967296 = a0 at *
  generalize b / 4294967296 = b1 at *
  generalize b % 4294967296 = b0 at *
  simp only [← Int.natCast_mul]
  generalize a1 * b1 = p at *
  generalize a1 * b0 = q at *
  generalize a0 * b1 = r at *
  generalize a0 * b0 = s at *
  rw [hw p (by omega), hw q (by omega), hw r (by omega), hw s (by omega), hdiv s]
  simp only [← Int.natCast_add]
  rw [hw (q + s / 4294967296) (by omega), hdiv (q + s / 4294967296), hand _ (by omega)]
  simp only [← Int.natCast_add]
  rw [hw (p + (q + s / 4294967296) / 4294967296) (by omega), hw ((q + s / 4294967296) % 4294967296 + r) (by omega), hdiv]
  simp only [← Int.natCast_add]
  rw [hw _ (by omega)]
  have : p + (q + s / 4294967296) / 4294967296 + ((q + s / 4294967296) % 4294967296 + r) / 4294967296 = (p * 18446744073709551616 + (q + r) * 4294967296 + s) / 18446744073709551616 := by omega
  rw [this]
theorem z3y {a b : Int} (ha : 0 ≤ a ∧ a < U64) (hb : 0 ≤ b ∧ b < U64) : zjn (a, b, ()) = some (zLA a b) := by
  obtain ⟨m, rfl⟩ := Int.eq_ofNat_of_zero_le ha.1
  obtain ⟨n, rfl⟩ := Int.eq_ofNat_of_zero_le hb.1
  unfold U64 at *
  simp only [zjn, zFk]
  rw [qag m n (by omega) (by omega), Option.bind_some]
  unfold zLA M62
  have e : ((m : Int) * (n : Int)) = ((m * n : Nat) : Int) := by simp
  rw [e]
  generalize m * n = p
  by_cases h : p < 18446744073709551616
  · have h1 : p / 18446744073709551616 = 0 := by omega
    have h2 : p % 18446744073709551616 = p := by omega
    simp only [h1, h2]
    grind
  · have h1 : (((p / 18446744073709551616 : Nat) : Int) != 0) = true := by simp only [bne_iff_ne, ne_eq]; omega
    simp only [h1]
    grind
theorem z00 {a b : Int} (ha : 0 ≤ a ∧ a < U64) (hb : 0 ≤ b ∧ b < U64) : zgv (a, b, ()) = some (zLA a b) := by
  obtain ⟨m, rfl⟩ := Int.eq_ofNat_of_zero_le ha.1
  obtain ⟨n, rfl⟩ := Int.eq_ofNat_of_zero_le hb.1
  unfold U64 at *
  simp only [zgv, zBp, zLA]
  unfold M62
  by_cases h0 : m = 0
  · subst h0
    simp only [Int.natCast_zero, Int.zero_mul]
    rfl
  · have e : ((m : Int) * (n : Int)) = ((m * n : Nat) : Int) := by simp
    have hd : Int.tdiv 4611686018427387904 (m : Int) = ((4611686018427387904 / m : Nat) : Int) := rfl
    have hle : 4611686018427387904 / m ≤ 4611686018427387904 := Nat.div_le_self _ _
    have h1 : 4611686018427387904 / m < n ↔ 4611686018427387904 < m * n := by
      have := Nat.div_lt_iff_lt_mul (x := 4611686018427387904) (y := n) (k := m) (by omega)
      rw [Nat.mul_comm] at this
      exact this
    rw [hd]
    generalize 4611686018427387904 / m = q at *
    have hw : wU ((q : Nat) : Int) = (q : Int) := zvA (by omega)
    have b1 : (((m : Nat) : Int) != 0) = true := by simp only [bne_iff_ne, ne_eq]; omega
    have b2 : (((m : Nat) : Int) == 0) = false := by simp only [beq_eq_false_iff_ne, ne_eq]; omega
    rw [hw, b1, b2, e]
    by_cases h2 : m * n > 4611686018427387904
    · have := h1.2 h2
      rw [decide_eq_true (by omega), decide_eq_true (by omega)]
      rfl
    · have h3 : ¬ q < n := fun h => h2 (h1.1 h)
      have hw2 : wU ((m * n : Nat) : Int) = ((m * n : Nat) : Int) := zvA (by omega)
      rw [decide_eq_false (by omega), decide_eq_false (by omega), hw2]
      rfl
def zx2 : Int → List Int → Int × Int × Unit
  | a, [] => (a, 0, ())
  | a, x :: l => bif decide (a + x > M62) then (0, 7, ()) else zx2 (a + x) l
theorem y3 {σ α β ρ : Type} {B : (σ → Option ρ) → σ → Option ρ} {l : List β} (d : β) (I : Nat → α → Prop) (st : Int → α → σ) (G : List β → α → Option ρ) (hl : l.length ≤ Go.maxLen)
    (hin : ∀ k (i : Nat) x rest s, i < l.length → I i s → l.getD i d = x → x ∈ l → l.drop (i + 1) = rest → (∀ s', I (i + 1) s' → k (st (wI (i + 1)) s') = G rest s') → B k (st i s) = G (x :: rest) s) (hout : ∀ k s, I l.length s → B k (st l.length s) = G [] s) (s : α) (h0 : I 0 s) : iter B K0 (st 0 s) = G l s := by
  have := zsN (B := B) hl st (fun i s => G (l.drop i) s) I (fun k i s hi hI h => ?_) (fun k s hI => ?_) s h0
  · simpa using this
  · rw [zjU d hi]
    exact hin k i _ _ s hi hI rfl (qQ hi) rfl fun s' hI' => h s' hI'
  · rw [hout _ _ hI, List.drop_of_length_le (Nat.le_refl _)]
theorem zCr {l : List Int} (hl : l.length ≤ Go.maxLen) (h : ∀ x ∈ l, 0 ≤ x ∧ x < U64) : jY (l, ()) = some (zx2 0 l) :=
  y3 (B := znL zim) (l := l) (α := Int) (0 : Int) (fun _ s => 0 ≤ s) (fun i s => (s, l, (l.length : Int), i)) (fun rest s => some (zx2 s rest)) hl (fun k i x rest s hi hI hx hm hr hk => by
    simp only [znL]
    have hxx := h x hm
    rw [ltT hi, zx hi, qh, hx, z5j hI hxx]
    simp only [cond_true, Option.bind_some, zMP, zx2]
    by_cases hb : s + x > M62
    · rw [decide_eq_true hb]; rfl
    · rw [decide_eq_false hb]
      exact hk (s + x) (by omega)) (fun k s _ => by simp only [znL]; rw [ltF]; rfl) 0 (Int.le_refl 0)
def z3z (a b : zu) : Bool := decide (a.1 ≤ b.1) && (List.range' 0 64).all fun i => !hasB a.2.1 i || hasB b.2.1 i
def zGe (a : zu) : Prop := 0 ≤ a.2.1 ∧ a.2.1 < U64
theorem z5k {a b : zu} (ha : zGe a) (hb : zGe b) : zlz (a, b, ()) = some (z3z a b, ()) := by
  rw [zM]
  simp only [zlz, zJI]
  unfold z3z
  unfold zGe U64 at *
  obtain ⟨m, hm⟩ := Int.eq_ofNat_of_zero_le ha.1
  obtain ⟨n, hn⟩ := Int.eq_ofNat_of_zero_le hb.1
  have h1 := zSa m n (by omega) (by omega)
  unfold zoB at h1
  have h2 : (wU (BitVec.toNat (BitVec.ofInt (Go.IntKind.bits .u64) (a.2.1 : Int) &&& ~~~BitVec.ofInt (Go.IntKind.bits .u64) (b.2.1 : Int)) : Int) == 0) = (List.range' 0 64).all fun i => !hasB a.2.1 i || hasB b.2.1 i := by
    rw [hm, hn]
    have h3 : ∀ z : Int, (z != 0) = !(z == 0) := fun z => rfl
    rw [h3] at h1
    have h4 := congrArg (!·) h1
    simp only [Bool.not_not] at h4
    exact h4
  rw [h2]
  grind
theorem z5l {a b : zu} (ha : zGe a) (hb : zGe b) : zqk (a, b, ()) = some (z3z a b, ()) := by
  rw [zM]
  unfold z3z
  unfold zGe U64 at *
  have hr : List.range 64 = List.range' 0 64 := List.range_eq_range'
  rw [← hr]
  have hloop := zYX (B := zlo vS) (n := 64) (by unfold Go.maxLen; omega) (p := fun i => !hasB a.2.1 i || hasB b.2.1 i) (fin := bif decide (a.1 ≤ b.1) then some (true, ()) else some (false, ())) (bad := some (false, ())) (fun i => (i, a, b)) (fun k i hi => by
    simp only [zlo]
    rw [decide_eq_true (by omega), zJ9 _ _ ha.1 (by omega), zJ9 _ _ hb.1 (by omega), Int.toNat_natCast]
    simp only [cond_true, Option.bind_some]
    grind) (fun k => by simp only [zlo]; rfl)
  refine hloop.trans ?_
  grind
theorem zWC (x : Int) : zeo (x, ()) = some (vm x, ()) := by simp only [zeo, zMw, vm]; grind
theorem z5m (x : Int) : zlG (x, ()) = some (vm x, ()) := by simp only [zlG, zJ3, vm]; grind
def zql (x : zmq) : Bool := jN x.1 && (decide (x.2.1 ≤ M62) && decide (-1 ≤ x.2.2.1 ∧ x.2.2.1 ≤ 127))
theorem z5n (x : zmq) : zlx (x, ()) = some (zql x, ()) := by
  rw [zM]
  simp only [zlx, zJz, zfE, zWC, Option.bind_some, zql, vm]
  unfold M62
  grind
theorem z5o (x : zmq) : zlH (x, ()) = some (zql x, ()) := by
  rw [zM]
  simp only [zlH, zJ4, zql, jN]
  unfold M62
  grind
def zH2 (x : zmq) : Bool := (x.2.1 : Int) == 0 && (x.2.2.1 : Int) == -1
theorem z3A (x : zmq) : zjl (x, ()) = some (zH2 x, ()) := by
  rw [zM]
  simp only [zjl, zFg, zH2]
  have h : eqI ziy x (x.1, (zb ziy).2.1, -1, (zb ziy).2.2.2) = ((x.2.1 : Int) == 0 && (x.2.2.1 : Int) == -1) := by
    show cond ((x.1 : Int) == x.1) (cond ((x.2.1 : Int) == 0) (cond ((x.2.2.1 : Int) == -1) true false) false) false = _
    rw [beq_self_eq_true]
    cases ((x.2.1 : Int) == 0) <;> cases ((x.2.2.1 : Int) == -1) <;> rfl
  rw [h]
def zGf (x : zn) : Bool := (vm x.2.1 && (vm x.2.2.1 && (x.2.1 : Int) != x.2.2.1)) && ((zql x.2.2.2.1 && zql x.2.2.2.2.1) && !(zH2 x.2.2.2.1 && zH2 x.2.2.2.2.1))
def zoD (x : zn) : Prop := (0 ≤ x.2.2.2.1.2.1 ∧ x.2.2.2.1.2.1 < U64) ∧ (0 ≤ x.2.2.2.2.1.2.1 ∧ x.2.2.2.2.1.2.1 < U64)
theorem z5p (x : zn) : zly (x, ()) = some (zGf x, ()) := by
  rw [zM]
  simp only [zly, zJA, zWC, z5n, z3A, Option.bind_some, zGf]
  grind
theorem z3B {x : zn} (h : zoD x) : zfC (x, ()) = some (zGf x, ()) := by
  rw [zM]
  simp only [zfC, zF3, z5m, z5o, Option.bind_some, zGf]
  have h1 : zql x.2.2.2.1 = true → zH2 x.2.2.2.1 = !(decide (x.2.2.2.1.2.1 > 0) || decide (x.2.2.2.1.2.2.1 ≥ 0)) := fun hp => by
    unfold zql at hp; unfold zH2; unfold zoD at h; grind
  have h2 : zql x.2.2.2.2.1 = true → zH2 x.2.2.2.2.1 = !(decide (x.2.2.2.2.1.2.1 > 0) || decide (x.2.2.2.2.1.2.2.1 ≥ 0)) := fun hp => by
    unfold zql at hp; unfold zH2; unfold zoD at h; grind
  generalize decide (x.2.2.2.1.2.1 > 0) = c1 at *
  generalize decide (x.2.2.2.1.2.2.1 ≥ 0) = c2 at *
  generalize decide (x.2.2.2.2.1.2.1 > 0) = c3 at *
  generalize decide (x.2.2.2.2.1.2.2.1 ≥ 0) = c4 at *
  cases c1 <;> cases c2 <;> cases c3 <;> cases c4 <;> grind
def zoE (x : zn) : Bool := bif x.1 then zGf x else eqI zB x (zb zB)
theorem zWD (x : zn) : zdn (x, ()) = some (!zoE x, ()) := by
  rw [zM]
  simp only [zdn, zuO, z5p, Option.bind_some, zoE]
  grind
theorem z01 {l : List zn} (hl : l.length ≤ Go.maxLen) : zgk (l, ()) = some (l.all zoE, ()) := by
  rw [zM]
  simp only [zgk, zA1]
  rw [zvw (p := fun x => !zoE x) hl fun x _ => zWD x, Option.bind_some, ← zag]
  cases l.any fun x => !zoE x <;> rfl
theorem z02 {l : List zn} (hl : l.length ≤ Go.maxLen) (h : ∀ x ∈ l, zoD x) : zlm (l, ()) = some (l.all zoE, ()) := by
  rw [zM]
  exact y9 (B := zhv zfC) (l := l) qe (fun i => (l, i)) hl (fun k i x hi hx hm => by
    simp only [zhv]
    rw [ltT hi]
    simp only [zx hi, qh, hx, z3B (h x hm), Option.bind_some, cond_true, zoE]
    grind) (fun k => by simp only [zhv]; rw [ltF]; rfl)
end Go.Proofs.YtaokpakfhdeiiaaGreatDoor
end
section
namespace Go.Proofs.YtaokpakfhdeiiaaGreatDoor
open Go.Ev
set_option linter.unusedVariables false
set_option linter.unusedSimpArgs false
theorem zx3 {α : Type} {p : α → Bool} {x : α} {l : List α} : (x :: l).filter p = bif p x then x :: l.filter p else l.filter p := by
  rw [List.filter_cons]; cases p x <;> rfl
def j4 {α : Type} (p : α → Bool) : Nat → List α → List Int
  | _, [] => []
  | i, x :: l => bif p x then (i : Int) :: j4 p (i + 1) l else j4 p (i + 1) l
theorem zCs {α : Type} {p : α → Bool} : ∀ (l : List α) (i : Nat), (j4 p i l).length ≤ l.length
  | [], _ => Nat.le_refl _
  | x :: l, i => by
    have := zCs (p := p) l (i + 1)
    simp only [j4, List.length_cons]
    cases p x <;> simp <;> omega
theorem zCt {α : Type} {p : α → Bool} : ∀ (l : List α) (i : Nat), ∀ z ∈ j4 p i l, ∃ j : Nat, z = (j : Int) ∧ i ≤ j ∧ j < i + l.length
  | [], i, z, h => by cases h
  | x :: l, i, z, h => by
    simp only [j4] at h
    have ih := zCt (p := p) l (i + 1)
    cases hp : p x with
    | true =>
      rw [hp, cond_true] at h
      rcases List.mem_cons.1 h with rfl | h
      · exact ⟨i, rfl, Nat.le_refl _, by simp⟩
      · obtain ⟨j, h1, h2, h3⟩ := ih z h
        exact ⟨j, h1, by omega, by simp; omega⟩
    | false =>
      rw [hp, cond_false] at h
      obtain ⟨j, h1, h2, h3⟩ := ih z h
      exact ⟨j, h1, by omega, by simp; omega⟩
theorem zBF {α β : Type} {p q : α → Bool} {g : α → β} (d : α) (L : List α) : ∀ (l : List α) (i : Nat), (∀ j, j < l.length → L.getD (i + j) d = l.getD j d) → ((j4 p i l).filter fun z => q (L.getD z.toNat d)).map (fun z => g (L.getD z.toNat d)) = (l.filter fun x => p x && q x).map g
  | [], _, _ => rfl
  | x :: l, i, h => by
    have ih := zBF (p := p) (q := q) (g := g) d L l (i + 1) fun j hj => by
      have := h (j + 1) (by simp; omega)
      rw [show i + 1 + j = i + (j + 1) by omega, this]; rfl
    have h0 : L.getD i d = x := h 0 (by simp)
    simp only [j4, zx3]
    cases hp : p x with
    | false => simp only [cond_false, Bool.false_and]; exact ih
    | true =>
      simp only [cond_true, Bool.true_and, zx3, Int.toNat_natCast, h0]
      cases hq : q x with
      | false => exact ih
      | true => simp only [cond_true, List.map_cons, Int.toNat_natCast, h0, ih]
theorem zQy {l : List zn} {g : zn × Unit → Option (Bool × Unit)} : yG (some (l, some g, ()), ()) = some (true, ()) := rfl
theorem zSb {l : List zn} {g : zn × Unit → Option (Bool × Unit)} {p : zn → Bool} (hg : ∀ x, g (x, ()) = some (p x, ())) {i : Nat} (hi : i < l.length) : ja (some (l, some g, ()), (i : Int), ()) = some (p (l.getD i qe), ()) := by
  rw [zM]
  simp only [ja, zmB, zQy, Option.bind_some, cond_true]
  rw [decide_eq_true (by omega), ltT hi, zx hi, qh, hg]
  simp only [cond_true, Option.bind_some]
theorem zOe {l : List zn} {g : zn × Unit → Option (Bool × Unit)} {p : zn → Bool} (hl : l.length ≤ lim) (hg : ∀ x, g (x, ()) = some (p x, ())) : jJ (some (l, some g, ()), ()) = some (j4 p 0 l, ()) := by
  have hl' : l.length ≤ Go.maxLen := by unfold lim at hl; unfold Go.maxLen; omega
  have := zsN (B := zcg ja) (α := List Int) hl' (fun i o => (some (l, some g, ()), (l.length : Int), i, o)) (fun i o => some (o ++ j4 p i (l.drop i), ())) (fun i o => o.length ≤ i) (fun k i o hi hI hk => by
    simp only [zcg]
    rw [ltT hi, zSb hg hi, set1, zjU qe hi]
    simp only [cond_true, Option.bind_some, j4]
    rw [decide_eq_true (by simp; omega)]
    cases hp : p (l.getD i qe) with
    | false =>
      simp only [cond_false]
      exact hk o (by omega)
    | true =>
      simp only [cond_true]
      rw [hk _ (by simp; omega)]
      simp) (fun k o _ => by
    simp only [zcg]
    rw [ltF, List.drop_of_length_le (Nat.le_refl _)]
    simp [j4]) [] (Nat.le_refl _)
  refine Eq.trans ?_ (this.trans ?_)
  · rfl
  · simp
theorem z3C {l : List zj} {g : zj × Unit → Option (Bool × Unit)} : yH (some (l, some g, ()), ()) = some (true, ()) := rfl
theorem z5q {l : List zj} {g : zj × Unit → Option (Bool × Unit)} {p : zj → Bool} (hg : ∀ x, g (x, ()) = some (p x, ())) {i : Nat} (hi : i < l.length) : zbG (some (l, some g, ()), (i : Int), ()) = some (p (l.getD i zP), ()) := by
  rw [zM]
  simp only [zbG, zu2, z3C, Option.bind_some, cond_true]
  rw [decide_eq_true (by omega), ltT hi, zx hi, qh, hg]
  simp only [cond_true, Option.bind_some]
theorem z03 {l : List zj} {g : zj × Unit → Option (Bool × Unit)} {p : zj → Bool} (hl : l.length ≤ lim) (hg : ∀ x, g (x, ()) = some (p x, ())) : zd6 (some (l, some g, ()), ()) = some (j4 p 0 l, ()) := by
  have hl' : l.length ≤ Go.maxLen := by unfold lim at hl; unfold Go.maxLen; omega
  have := zsN (B := zci zbG) (α := List Int) hl' (fun i o => (some (l, some g, ()), (l.length : Int), i, o)) (fun i o => some (o ++ j4 p i (l.drop i), ())) (fun i o => o.length ≤ i) (fun k i o hi hI hk => by
    simp only [zci]
    rw [ltT hi, z5q hg hi, set1, zjU zP hi]
    simp only [cond_true, Option.bind_some, j4]
    rw [decide_eq_true (by simp; omega)]
    cases hp : p (l.getD i zP) with
    | false =>
      simp only [cond_false]
      exact hk o (by omega)
    | true =>
      simp only [cond_true]
      rw [hk _ (by simp; omega)]
      simp) (fun k o _ => by
    simp only [zci]
    rw [ltF, List.drop_of_length_le (Nat.le_refl _)]
    simp [j4]) [] (Nat.le_refl _)
  refine Eq.trans ?_ (this.trans ?_)
  · rfl
  · simp
def zs0 (l : List zn) (c : Int) : Int × Int × Unit := bif jN c then zx2 0 ((l.filter fun x => x.1 && (x.2.2.2.1.1 : Int) == c).map fun x => x.2.2.2.1.2.1) else (0, 1, ())
theorem z5r (l : List zn) (hl : l.length ≤ lim) : zlB (l, ()) = some (some (l, some zgo, ()), ()) := by
  simp only [zlB, zJO, jU, zkG, zN9 hl, Option.bind_some]
  rfl
theorem z04 (x : zn) : zgo (x, ()) = some (x.1, ()) := by
  rw [zM]; rfl
theorem z3D {l : List zn} (hl : l.length ≤ lim) (h : ∀ x ∈ l, zoD x) (c : Int) : zfe (l, c, ()) = some (zs0 l c) := by
  have hl' : l.length ≤ Go.maxLen := by unfold lim at hl; unfold Go.maxLen; omega
  simp only [zfe, zu3, zfE, Option.bind_some]
  unfold zs0
  cases hc : jN c with
  | false => rfl
  | true =>
    simp only [cond_true]
    rw [z5r l hl, Option.bind_some, zOe hl z04, Option.bind_some]
    have hsl := zCs (p := fun x : zn => x.1) l 0
    have hsm := zCt (p := fun x : zn => x.1) l 0
    have hloop := y3 (B := zju jY) (l := j4 (fun x : zn => x.1) 0 l) (α := List Int) (0 : Int) (fun i o => o.length ≤ i ∧ ∀ x ∈ o, 0 ≤ x ∧ x < U64) (fun i o => (l, c, j4 (fun x : zn => x.1) 0 l, ((j4 (fun x : zn => x.1) 0 l).length : Int), i, o))
      (fun rest o => some (zx2 0 (o ++ (rest.filter fun z => ((l.getD z.toNat qe).2.2.2.1.1 : Int) == c).map fun z => (l.getD z.toNat qe).2.2.2.1.2.1))) (by omega) (fun k i x rest o hi hI hx hm hr hk => by
        simp only [zju]
        obtain ⟨j, rfl, -, hj⟩ := hsm x hm
        rw [ltT hi, zx hi, qh, hx, zx (by omega), zx (by omega), Int.toNat_natCast, set1]
        have hxx := (h (l.getD j qe) (qQ (by omega))).1
        simp only [cond_true, zx3, Int.toNat_natCast]
        rw [decide_eq_true (by simp; omega)]
        simp only [cond_true]
        cases hq : ((l.getD j qe).2.2.2.1.1 : Int) == c with
        | false =>
          exact hk o ⟨by omega, hI.2⟩
        | true =>
          simp only [cond_true, List.map_cons, Int.toNat_natCast]
          refine (hk _ ⟨by simp; omega, fun x hx => ?_⟩).trans ?_
          · rcases List.mem_append.1 hx with hx | hx
            · exact hI.2 x hx
            · rcases List.mem_singleton.1 hx with rfl
              exact hxx
          · rw [List.append_assoc]; rfl) (fun k o hI => by
        simp only [zju]
        rw [ltF]
        simp only [cond_false]
        rw [zCr (by omega) hI.2, List.filter_nil, List.map_nil, List.append_nil]
        rfl) [] ⟨Nat.le_refl _, fun x hx => by cases hx⟩
    refine hloop.trans ?_
    rw [List.nil_append, zBF (q := fun x : zn => (x.2.2.2.1.1 : Int) == c) (g := fun x : zn => x.2.2.2.1.2.1) qe l l 0 fun j _ => by rw [Nat.zero_add]]
theorem z3E {l : List zn} (hl : l.length ≤ Go.maxLen) (h : ∀ x ∈ l, zoD x) (c : Int) : zfD (l, c, ()) = some (zs0 l c) := by
  simp only [zfD, zvp]
  unfold zs0
  cases hc : jN c with
  | false => unfold jN at hc; grind
  | true =>
    have hloop := y3 (B := zjJ qj) (l := l) (α := Int) qe (fun _ s => 0 ≤ s ∧ s ≤ M62) (fun i s => (l, c, s, i)) (fun rest s => some (zx2 s ((rest.filter fun x => x.1 && (x.2.2.2.1.1 : Int) == c).map fun x => x.2.2.2.1.2.1))) hl (fun k i x rest s hi hI hx hm hr hk => by
      simp only [zjJ]
      have hxx := (h x hm).1
      rw [ltT hi]
      simp only [zx hi, qh, hx, cond_true, zx3]
      unfold M62 at *
      unfold U64 at *
      rw [zjR (by unfold U64; omega) (by unfold U64; omega)]
      cases hl : x.1 with
      | false => exact hk s hI
      | true =>
        cases hq : (x.2.2.2.1.1 : Int) == c with
        | false => exact hk s hI
        | true =>
          simp only [cond_true, Option.bind_some, zMP, Bool.and_self, List.map_cons, zx2]
          unfold M62
          by_cases hb : s + x.2.2.2.1.2.1 > 4611686018427387904
          · rw [decide_eq_true hb]; rfl
          · rw [decide_eq_false hb]
            exact hk (s + x.2.2.2.1.2.1) (by omega)) (fun k s _ => by simp only [zjJ]; rw [ltF]; rfl) 0 (by unfold M62; omega)
    refine Eq.trans ?_ hloop
    unfold jN at hc
    grind
end Go.Proofs.YtaokpakfhdeiiaaGreatDoor
end
section
namespace Go.Proofs.YtaokpakfhdeiiaaGreatDoor
open Go.Ev
set_option linter.unusedVariables false
set_option linter.unusedSimpArgs false
def zTV (x : Int) : Bool := decide (0 ≤ x ∧ x ≤ 2)
theorem zYs (x : Int) : zbb (x, ()) = some (!zTV x, ()) := by simp only [zbb, zxI, zTV]; grind
def zQz (r : ze) (i : Nat) (row : List Int) : Bool := decide (row.length = r.2.2.1.length) && (row.all zTV && row.getD (Int.toNat (r.2.2.2.1.getD i jA).2.1) (0 : Int) == 2)
def zGg (r : ze) (l : List (List Int)) : Bool := decide (l.length = r.2.2.2.1.length) && qg (fun i => zQz r i (l.getD i [])) 0 (l.length - 0)
structure zoF (r : ze) : Prop where
  labels : 1 ≤ r.1.length ∧ r.1.length ≤ 8
  lines : 1 ≤ r.2.1.length ∧ r.2.1.length ≤ 8
  accounts : 1 ≤ r.2.2.1.length ∧ r.2.2.1.length ≤ 8
  guilds : r.2.2.2.1.length ≤ 8
  quotas : r.2.2.2.2.1.length = r.1.length
  heads : ∀ i, i < r.2.2.2.1.length → 0 ≤ (r.2.2.2.1.getD i jA).2.1 ∧ (r.2.2.2.1.getD i jA).2.1 < (r.2.2.1.length : Int)
theorem zhP {r : ze} (h : zaC r = true) : zoF r := by
  simp only [zaC, Bool.and_eq_true] at h
  obtain ⟨h1, h2, h3, h4, h5, -⟩ := h
  simp only [zgx, zGb, zjV, zCy, zoA, within, Bool.and_eq_true, decide_eq_true_eq, zWy, vJ] at h1 h2 h3 h4 h5
  refine ⟨by omega, by omega, by omega, h4.1, by omega, fun i hi => ?_⟩
  have := h4.2.1 i (by omega) (by omega)
  simp only [zTU, within, Bool.and_eq_true, decide_eq_true_eq] at this
  omega
theorem ixR {n : Nat} {x : Int} {ρ : Type} {y : Option ρ} (h : 0 ≤ x ∧ x < (n : Int)) : inR x (n : Int) y = y := z7X h.1 h.2
theorem z3F {r : ze} (hr : vg r) (l : List (List Int)) : zbC (r, l, ()) = some (zaC r && zGg r l, ()) := by
  rw [zM]
  simp only [zbC, zuS, zOb r hr, Option.bind_some]
  cases hb : zaC r with
  | false => rfl
  | true =>
    have ok := zhP hb
    rw [zs8]
    unfold zGg
    by_cases hn : l.length = r.2.2.2.1.length
    · have hg := ok.guilds
      have hloop : zxJ zK K0 (some zbb, l, (l.length : Int), 0, r) = bif qg (fun i => zQz r i (l.getD i [])) 0 (l.length - 0) then some (true, ()) else some (false, ()) :=
        qx (i0 := 0) (n := l.length) (by unfold Go.maxLen; omega) (Nat.zero_le _) (fun i => (some zbb, l, (l.length : Int), i, r)) (fun k i h1 h2 => by
          simp only [zoj]
          rw [ltT h2, zx h2, Int.toNat_natCast, zs8]
          unfold zQz
          by_cases hm : (l.getD i []).length = r.2.2.1.length
          · have ha := ok.accounts
            have hh := ok.heads i (by omega)
            rw [zhN (p := fun x => !zTV x) (l := l.getD i []) (by unfold Go.maxLen; omega) fun x _ => zYs x, zx (by omega), qh, ixR (by rw [hm]; exact hh)]
            have := zag (l := l.getD i []) (p := zTV)
            simp only [Option.bind_some, cond_true]
            grind
          · grind) (fun k => by simp only [zoj]; rw [ltF]; rfl)
      rw [hloop]
      grind
    · grind
theorem z05 {r : ze} (hr : vg r) (l : List (List Int)) : zgu (r, l, ()) = some (zaC r && zGg r l, ()) := by
  rw [zM]
  simp only [zgu, zqS, zOc r hr, Option.bind_some]
  cases hb : zaC r with
  | false => rfl
  | true =>
    have ok := zhP hb
    rw [zs8]
    unfold zGg
    by_cases hn : l.length = r.2.2.2.1.length
    · have hg := ok.guilds
      have ha := ok.accounts
      have inner : ∀ k0 (i : Nat), i < l.length → (l.getD i []).length = r.2.2.1.length → zmN K0 k0 (l, (i : Int), 0, r) = bif (l.getD i []).all zTV then k0 (l, wI ((i : Int) + 1), r) else some (false, ()) := fun k0 i hi hm =>
        y9 (l := l.getD i []) (0 : Int) (fun j => (l, (i : Int), j, r)) (by unfold Go.maxLen; omega) (fun k j x h1 h2 _ => by
          simp only [zmM]
          have h2' : List.getD (l.getD i []) j (0 : Int) = x := h2
          simp only [zx hi, Int.toNat_natCast, ltT h1, zx h1, h2', cond_true, zTV]
          grind) (fun k => by
          simp only [zmM]
          simp only [zx hi, Int.toNat_natCast]
          rw [ltF]; rfl)
      have hloop : zvk K0 (l, 0, r) = bif qg (fun i => zQz r i (l.getD i [])) 0 (l.length - 0) then some (true, ()) else some (false, ()) :=
        qx (i0 := 0) (n := l.length) (by unfold Go.maxLen; omega) (Nat.zero_le _) (fun i => (l, i, r)) (fun k i h1 h2 => by
          simp only [zhg]
          rw [ltT h2]
          simp only [zx h2, Int.toNat_natCast]
          rw [zs8]
          unfold zQz
          by_cases hm : (l.getD i []).length = r.2.2.1.length
          · have hh := ok.heads i (by omega)
            have hi := inner k i h2 hm
            rw [zx (by omega), qh, ixR (by rw [hm]; exact hh), hi]
            simp only [cond_true]
            grind
          · grind) (fun k => by simp only [zhg]; rw [ltF]; rfl)
      rw [hloop]
      grind
    · grind
theorem z8d (x : Int) : zsW (x, ()) = some (vm x, ()) := by simp only [zsW, zP3, vm]; grind
theorem z5s (x : Int) : zlC (x, ()) = some (vm x, ()) := by simp only [zlC, zJU, vm]; grind
theorem z63 (x : Int) : zok (x, ()) = some (vm x, ()) := by simp only [zok, zMy, vm]; grind
theorem z5t (x : Int) : zlE (x, ()) = some (vm x, ()) := by simp only [zlE, zJX, vm]; grind
def zvD (k a b : Int) : Int × Int × Unit := bif (k != 1 && k != 2) || (a == 0 || b == 0) then (0, 1, ()) else bif decide (a * b > M62) then (0, 7, ()) else bif k == 2 then (a, 0, ()) else (a * b, 0, ())
theorem zSc {k a b : Int} (ha : 0 ≤ a ∧ a < U64) (hb : 0 ≤ b ∧ b < U64) : zcQ (k, a, b, ()) = some (zvD k a b) := by
  simp only [zcQ, zJC, z3y ha hb, Option.bind_some, zLA, zvD]
  generalize a * b = p
  cases h : decide (p > M62) <;> simp only [cond_true, cond_false] <;> grind
theorem zQA {k a b : Int} (ha : 0 ≤ a ∧ a < U64) (hb : 0 ≤ b ∧ b < U64) : zbK (k, a, b, ()) = some (zvD k a b) := by
  simp only [zbK, zF0, z00 ha hb, Option.bind_some, zLA, zvD]
  generalize a * b = p
  cases h : decide (p > M62) <;> simp only [cond_true, cond_false] <;> grind
def zmR (x : Int) : Prop := 0 ≤ x ∧ x < U64
structure zoG (x : zj) : Prop where
  amount : zmR x.2.2.2.2.2.2.1
  price : zmR x.2.2.2.2.2.2.2.1
  held : zmR x.2.2.2.2.2.2.2.2.1
def zsJ (x : zj) : Bool := ((zvD x.2.2.2.1 x.2.2.2.2.2.2.2.1 x.2.2.2.2.2.2.1).2.1 == 0 && (zvD x.2.2.2.1 x.2.2.2.2.2.2.2.1 x.2.2.2.2.2.2.1).1 == x.2.2.2.2.2.2.2.2.1) && ((vm x.2.1 && vm x.2.2.1) && ((jN x.2.2.2.2.1 && jN x.2.2.2.2.2.1) && ((x.2.2.2.2.1 : Int) != x.2.2.2.2.2.1 && decide (0 ≤ x.2.2.2.2.2.2.2.2.2.1))))
theorem z64 {x : zj} (h : zoG x) : zky (x, ()) = some (zsJ x, ()) := by
  rw [zM]
  simp only [zky, zMx, zSc h.price h.amount, z8d, zfE, Option.bind_some, zsJ]
  generalize zvD x.2.2.2.1 x.2.2.2.2.2.2.2.1 x.2.2.2.2.2.2.1 = n
  grind
theorem z5u {x : zj} (h : zoG x) : ziq (x, ()) = some (zsJ x, ()) := by
  rw [zM]
  simp only [ziq, zJV, zQA h.price h.amount, z5s, Option.bind_some, zsJ]
  generalize zvD x.2.2.2.1 x.2.2.2.2.2.2.2.1 x.2.2.2.2.2.2.1 = n
  unfold jN
  grind
def zx4 (x : zj) : Bool := bif x.1 then zsJ x else eqI zw x (zb zw)
def zKa (l : List zj) : List Int := (l.filter fun x => x.1).map fun x => x.2.2.2.2.2.2.2.2.2.1
theorem z65 (o : List (Int × Int)) (x z v : Int) : yq tI (yu tI o x v) z = (yq tI o z || z == x) := by
  induction o with
  | nil => simp only [yu, yq]; show (bif z == x then true else false) = (false || z == x); cases z == x <;> rfl
  | cons e o ih =>
    obtain ⟨e1, e2⟩ := e
    have hx : ∀ y : Int, eqI tI y e1 = (y == e1) := fun y => rfl
    simp only [yu, yq, hx]
    cases h : x == e1 with
    | true =>
      have := eq_of_beq h
      subst this
      simp only [cond_true, yq, hx]
      cases z == x <;> simp
    | false =>
      simp only [cond_false, yq, ih, hx]
      cases z == e1 <;> rfl
theorem zY6 (o : List (Int × Int)) (x v : Int) : (yu tI o x v).length = o.length + (bif yq tI o x then 0 else 1) := by
  induction o with
  | nil => rfl
  | cons e o ih =>
    simp only [yu, yq]
    cases h : eqI tI x e.1 with
    | true => simp only [cond_true, List.length_cons, Nat.add_zero]
    | false =>
      simp only [cond_false, List.length_cons, ih]
      generalize (bif yq tI o x then 0 else 1) = n
      omega
def zKb : List Int → List (Int × Int) → Nat
  | [], o => o.length
  | x :: l, o => zKb l (yu tI o x (wI (zec tI (0 : Int) o x + 1)))
theorem z5R : ∀ (l : List Int) (o : List (Int × Int)), zKb l o ≤ o.length + l.length
  | [], o => Nat.le_refl _
  | x :: l, o => by
    have h := z5R l (yu tI o x (wI (zec tI (0 : Int) o x + 1)))
    rw [zY6] at h
    simp only [zKb, List.length_cons]
    cases hm : yq tI o x <;> (rw [hm] at h; simp only [cond_true, cond_false] at h; omega)
theorem z5S : ∀ (l : List Int) (o : List (Int × Int)), zKb l o = o.length + l.length ↔ (l.Pairwise (· ≠ ·) ∧ ∀ x ∈ l, yq tI o x = false)
  | [], o => by simp [zKb]
  | x :: l, o => by
    have h := z5R l (yu tI o x (wI (zec tI (0 : Int) o x + 1)))
    have ih := z5S l (yu tI o x (wI (zec tI (0 : Int) o x + 1)))
    rw [zY6] at h ih
    simp only [zKb, List.length_cons, List.pairwise_cons]
    cases hm : yq tI o x with
    | true =>
      rw [hm] at h
      simp only [cond_true] at h
      constructor
      · intro h1; omega
      · rintro ⟨-, h1⟩
        have := h1 x (by simp)
        rw [hm] at this; cases this
    | false =>
      rw [hm] at ih
      simp only [cond_false] at ih
      rw [show o.length + (l.length + 1) = o.length + 1 + l.length by omega, ih]
      simp only [z65]
      constructor
      · rintro ⟨h1, h2⟩
        refine ⟨⟨fun z hz => ?_, h1⟩, fun z hz => ?_⟩
        · have := h2 z hz
          simp only [Bool.or_eq_false_iff, beq_eq_false_iff_ne] at this
          exact fun e => this.2 e.symm
        · rcases List.mem_cons.1 hz with rfl | hz
          · exact hm
          · have := h2 z hz
            simp only [Bool.or_eq_false_iff] at this
            exact this.1
      · rintro ⟨⟨h1, h2⟩, h3⟩
        refine ⟨h2, fun z hz => ?_⟩
        simp only [Bool.or_eq_false_iff, beq_eq_false_iff_ne]
        exact ⟨h3 z (by simp [hz]), fun e => h1 z hz e.symm⟩
def zlI (l : List zj) : Bool := l.all zx4 && zKb (zKa l) [] == (zKa l).length
theorem z3G {l : List zj} (hl : l.length ≤ 1000000) (h : ∀ x ∈ l, zoG x) : znE (l, ()) = some (zlI l, ()) := by
  have hloop := y3 (B := zjp zky) (l := l) (α := Nat × List (Int × Int)) zP (fun i s => s.1 ≤ i) (fun i s => ((s.1 : Int), l, (l.length : Int), i, s.2))
    (fun rest s => some (rest.all zx4 && zKb (zKa rest) s.2 == s.1 + (zKa rest).length, ())) (by unfold Go.maxLen; omega) (fun k i x rest s hi hI hx hm hr hk => by
      obtain ⟨n, o⟩ := s
      simp only [zjp]
      have hn : n ≤ i := hI
      have hw : wI ((n : Int) + 1) = ((n + 1 : Nat) : Int) := by
        unfold wI
        rw [IntWalk.i64_in _ (by omega)]; rfl
      rw [ltT hi, zx hi]
      simp only [qh, hx, cond_true, z64 (h x hm), Option.bind_some, hw, zKa, zx3, List.all_cons, zx4]
      cases hlive : x.1 with
      | false =>
        simp only [cond_false]
        have := hk (n, o) (by show n ≤ i + 1; omega)
        cases eqI zw x (zb zw) with
        | false => rfl
        | true => exact this
      | true =>
        simp only [cond_true, List.map_cons, zKb, List.length_cons]
        have := hk (n + 1, yu tI o x.2.2.2.2.2.2.2.2.2.1 (wI (zec tI (0 : Int) o x.2.2.2.2.2.2.2.2.2.1 + 1))) (by show n + 1 ≤ i + 1; omega)
        cases zsJ x with
        | false => rfl
        | true =>
          refine this.trans ?_
          simp only [zKa, Bool.true_and]
          rw [show n + 1 + (List.map (fun x : zj => x.2.2.2.2.2.2.2.2.2.1) (List.filter (fun x => x.1) rest)).length = n + ((List.map (fun x : zj => x.2.2.2.2.2.2.2.2.2.1) (List.filter (fun x => x.1) rest)).length + 1) by omega]) (fun k s _ => by
      obtain ⟨n, o⟩ := s
      simp only [zjp]
      rw [ltF]
      simp only [cond_false, zKa, List.filter_nil, List.map_nil, zKb, List.length_nil, List.all_nil, Bool.true_and, Nat.add_zero]
      rw [z79]
      cases o.length == n <;> rfl) (0, []) (Nat.le_refl _)
  refine hloop.trans ?_
  unfold zlI
  rw [Nat.zero_add]
theorem z5v {l : List zj} (hl : l.length ≤ Go.maxLen) (n : Nat) (hn : n ≤ l.length) (b : Int) : zlD (l, (n : Int), b, ()) = some (!qg (fun j => !((l.getD j zP).1 && ((l.getD j zP).2.2.2.2.2.2.2.2.2.1 : Int) == b)) 0 (n - 0), ()) := by
  have hloop := qx (B := zle) (i0 := 0) (n := n) (p := fun j => !((l.getD j zP).1 && ((l.getD j zP).2.2.2.2.2.2.2.2.2.1 : Int) == b)) (fin := some (false, ())) (bad := some (true, ())) (by omega) (Nat.zero_le _) (fun i => (l, (n : Int), b, i)) (fun k i h1 h2 => by
    simp only [zle]
    rw [ltT h2]
    simp only [zx (show i < l.length by omega), qh, cond_true]
    grind) (fun k => by simp only [zle]; rw [ltF]; rfl)
  refine hloop.trans ?_
  cases qg (fun j => !((l.getD j zP).1 && ((l.getD j zP).2.2.2.2.2.2.2.2.2.1 : Int) == b)) 0 (n - 0) <;> rfl
theorem z66 {l : List zj} : (zKa l).Pairwise (· ≠ ·) ↔ ∀ i j : Nat, i < j → j < l.length → (l.getD i zP).1 = true → (l.getD j zP).1 = true → (l.getD i zP).2.2.2.2.2.2.2.2.2.1 ≠ (l.getD j zP).2.2.2.2.2.2.2.2.2.1 := by
  unfold zKa
  rw [List.pairwise_map, List.pairwise_filter, List.pairwise_iff_getElem]
  have e : ∀ i (h : i < l.length), l.getD i zP = l[i] := fun i h => by simp [List.getD, h]
  constructor
  · intro h i j hij hj h1 h2
    rw [e i (by omega)] at h1 ⊢
    rw [e j hj] at h2 ⊢
    exact h i j (by omega) hj hij h1 h2
  · intro h i j hi hj hij h1 h2
    have := h i j hij hj (by rw [e i hi]; exact h1) (by rw [e j hj]; exact h2)
    rw [e i hi, e j hj] at this
    exact this
theorem z67 (l : List zj) : zlI l = qg (fun i => zx4 (l.getD i zP) && (!(l.getD i zP).1 || qg (fun j => !((l.getD j zP).1 && ((l.getD j zP).2.2.2.2.2.2.2.2.2.1 : Int) == (l.getD i zP).2.2.2.2.2.2.2.2.2.1)) 0 (i - 0))) 0 (l.length - 0) := by
  rw [Bool.eq_iff_iff, vJ]
  unfold zlI
  have hc := z5S (zKa l) []
  simp only [List.length_nil, Nat.zero_add] at hc
  simp only [Bool.and_eq_true, List.all_eq_true, beq_iff_eq, hc, z66]
  constructor
  · rintro ⟨h1, h2, -⟩ i _ hi
    refine ⟨h1 _ (qQ (by omega)), ?_⟩
    cases hlive : (l.getD i zP).1 with
    | false => rfl
    | true =>
      simp only [Bool.not_true, Bool.false_or, vJ]
      intro j _ hj
      cases hj1 : (l.getD j zP).1 with
      | false => rfl
      | true =>
        have := h2 j i (by omega) (by omega) hj1 hlive
        simp only [Bool.true_and, Bool.not_eq_true', beq_eq_false_iff_ne]
        exact this
  · intro h
    refine ⟨fun x hx => ?_, fun i j hij hj h1 h2 => ?_, fun x _ => rfl⟩
    · obtain ⟨i, hi, rfl⟩ := List.mem_iff_getElem.1 hx
      have e : l.getD i zP = l[i] := by simp [List.getD, hi]
      rw [← e]
      exact (h i (by omega) (by omega)).1
    · have := (h j (by omega) (by omega)).2
      rw [h2] at this
      simp only [Bool.not_true, Bool.false_or, vJ] at this
      have := this i (by omega) (by omega)
      rw [h1] at this
      simp only [Bool.true_and, Bool.not_eq_true', beq_eq_false_iff_ne] at this
      exact this
theorem z06 {l : List zj} (hl : l.length ≤ Go.maxLen) (h : ∀ x ∈ l, zoG x) : zlf (l, ()) = some (zlI l, ()) := by
  rw [zM, z67]
  exact qx (B := zhi ziq zlD) (i0 := 0) hl (Nat.zero_le _) (fun i => (l, i)) (fun k i h1 h2 => by
    simp only [zhi]
    rw [ltT h2]
    simp only [zx h2, qh, cond_true]
    rw [z5u (h _ (qQ h2)), z5v hl i (by omega)]
    simp only [Option.bind_some, zx4]
    grind) (fun k => by simp only [zhi]; rw [ltF]; rfl)
structure zCz (x : zH) : Prop where
  amount : zmR x.2.2.2.2.2.2.2.1
  price : zmR x.2.2.2.2.2.2.2.2.1
def zoH (x : zH) : Bool := (decide (x.1 ≤ M62) && (vm x.2.1 && (vm x.2.2.1 && (vm x.2.2.2.1 && vm x.2.2.2.2.2.2.2.2.2.1)))) && bif (x.2.2.2.2.1 : Int) == 3 then ((x.2.2.2.2.2.1 : Int) == 0 && (x.2.2.2.2.2.2.1 : Int) == 0) && ((x.2.2.2.2.2.2.2.1 : Int) == 0 && (x.2.2.2.2.2.2.2.2.1 : Int) == 0)
  else ((zvD x.2.2.2.2.1 x.2.2.2.2.2.2.2.1 x.2.2.2.2.2.2.2.2.1).2.1 == 0 && (x.2.2.2.2.2.2.2.2.2.1 : Int) == 0) && ((x.2.2.2.2.2.1 : Int) != x.2.2.2.2.2.2.1 && (jN x.2.2.2.2.2.1 && jN x.2.2.2.2.2.2.1))
theorem z8e (x : zH) : eqI zC x (x.1, x.2.1, x.2.2.1, x.2.2.2.1, x.2.2.2.2.1, (zb zC).2.2.2.2.2.1, (zb zC).2.2.2.2.2.2.1, (zb zC).2.2.2.2.2.2.2.1, (zb zC).2.2.2.2.2.2.2.2.1, x.2.2.2.2.2.2.2.2.2.1, (zb zC).2.2.2.2.2.2.2.2.2.2) = (((x.2.2.2.2.2.1 : Int) == 0 && (x.2.2.2.2.2.2.1 : Int) == 0) && ((x.2.2.2.2.2.2.2.1 : Int) == 0 && (x.2.2.2.2.2.2.2.2.1 : Int) == 0)) := by
  show cond ((x.1 : Int) == x.1) (cond ((x.2.1 : Int) == x.2.1) (cond ((x.2.2.1 : Int) == x.2.2.1) (cond ((x.2.2.2.1 : Int) == x.2.2.2.1) (cond ((x.2.2.2.2.1 : Int) == x.2.2.2.2.1) (cond ((x.2.2.2.2.2.1 : Int) == 0) (cond ((x.2.2.2.2.2.2.1 : Int) == 0) (cond ((x.2.2.2.2.2.2.2.1 : Int) == 0) (cond ((x.2.2.2.2.2.2.2.2.1 : Int) == 0) (cond ((x.2.2.2.2.2.2.2.2.2.1 : Int) == x.2.2.2.2.2.2.2.2.2.1) true false) false) false) false) false) false) false) false) false) false = _
  simp only [beq_self_eq_true, cond_true]
  cases ((x.2.2.2.2.2.1 : Int) == 0) <;> cases ((x.2.2.2.2.2.2.1 : Int) == 0) <;> cases ((x.2.2.2.2.2.2.2.1 : Int) == 0) <;> cases ((x.2.2.2.2.2.2.2.2.1 : Int) == 0) <;> rfl
theorem z5w {x : zH} (h : zCz x) : zih (x, ()) = some (zoH x, ()) := by
  rw [zM]
  simp only [zih, zJD, zSc h.amount h.price, z63, zfE, Option.bind_some, zoH]
  rw [z8e x]
  generalize zvD x.2.2.2.2.1 x.2.2.2.2.2.2.2.1 x.2.2.2.2.2.2.2.2.1 = n
  unfold M62
  grind
theorem z5x {x : zH} (h : zCz x) : zir (x, ()) = some (zoH x, ()) := by
  rw [zM]
  simp only [zir, zJY, zQA h.amount h.price, z5t, Option.bind_some, zoH]
  have hz : (x.2.2.2.2.2.2.2.2.2.1 : Int) == 0 → vm x.2.2.2.2.2.2.2.2.2.1 = true := fun h => by unfold vm; grind
  generalize zvD x.2.2.2.2.1 x.2.2.2.2.2.2.2.1 x.2.2.2.2.2.2.2.2.1 = n
  unfold M62 jN
  grind
def zWE (a b : zH) : Int := orV (zvx a.1 b.1) (zvx a.2.1 b.2.1)
theorem z07 (a b : zH) : zdP (a, b, ()) = some (zWE a b, ()) := by
  simp only [zdP, zA5, zOa, zF9, Option.bind_some]
  show Option.bind (zat ([zvx a.1 b.1, zvx a.2.1 b.2.1], ())) _ = _
  rw [z9Y]; rfl
theorem zYt (a b : zH) : zcH (a, b, ()) = some (!decide (zWE b a ≥ 0), ()) := by
  rw [zM]
  simp only [zcH, zxZ, zWE, orV, zvx]
  grind
def zsK (l : List zH) : Bool := qg (fun i => zoH (l.getD i zcc) && (decide (i = 0) || !decide (zWE (l.getD (i - 1) zcc) (l.getD i zcc) ≥ 0))) 0 (l.length - 0)
theorem z08 {l : List zH} (hl : l.length ≤ Go.maxLen) (h : ∀ x ∈ l, zCz x) : zk5 (l, ()) = some (zsK l, ()) := by
  rw [zM]
  exact qx (B := zgR zih zdP) (i0 := 0) hl (Nat.zero_le _) (fun i => (l, l, (l.length : Int), i)) (fun k i h1 h2 => by
    simp only [zgR]
    rw [ltT h2, zx h2, qh, z5w (h _ (qQ h2))]
    by_cases h0 : i = 0
    · subst h0
      simp only [cond_true, Option.bind_some]
      grind
    · rw [zwc (by omega) (by omega), zx (by omega), Int.toNat_natCast, z07]
      simp only [cond_true, Option.bind_some]
      grind) (fun k => by simp only [zgR]; rw [ltF]; rfl)
theorem z09 {l : List zH} (hl : l.length ≤ Go.maxLen) (h : ∀ x ∈ l, zCz x) : zlg (l, ()) = some (zsK l, ()) := by
  rw [zM]
  exact qx (B := zhk zir zcH) (i0 := 0) hl (Nat.zero_le _) (fun i => (l, i)) (fun k i h1 h2 => by
    simp only [zhk]
    rw [ltT h2, zx h2, qh, z5x (h _ (qQ h2))]
    by_cases h0 : i = 0
    · subst h0
      simp only [cond_true, Option.bind_some]
      grind
    · rw [zwc (by omega) (by omega), zx h2, zx (by omega), Int.toNat_natCast, zYt]
      simp only [cond_true, Option.bind_some]
      grind) (fun k => by simp only [zhk]; rw [ltF]; rfl)
end Go.Proofs.YtaokpakfhdeiiaaGreatDoor
end
section
namespace Go.Proofs.YtaokpakfhdeiiaaGreatDoor
open Go.Ev
set_option linter.unusedVariables false
set_option linter.unusedSimpArgs false
def zMQ (a : List Int) : Prop := ∀ x ∈ a, zmR x
theorem zfF {a : List Int} (h : zMQ a) (i : Nat) : zmR (a.getD i 0) := by
  by_cases hi : i < a.length
  · exact h _ (qQ hi)
  · rw [List.getD_eq_getElem?_getD, List.getElem?_eq_none (by omega)]
    unfold zmR U64; decide
structure zLB (x : zm) : Prop where
  trades : ∀ t ∈ x.2.2.2.2.1, zoD t
  purses : ∀ a ∈ x.2.2.2.2.2.1, zMQ a
  made : zMQ x.2.2.2.2.2.2.2.1
  spent : zMQ x.2.2.2.2.2.2.2.2.1
structure zdC (s : zf) : Prop where
  shelves : ∀ x ∈ s.2.1, zLB x
  orders : ∀ x ∈ s.2.2.2.1, zoG x
  entries : ∀ x ∈ s.2.2.2.2.1, zCz x
def zs1 (r : ze) (x : zm) (q : zc0) : Bool := ((decide ((x.1.length : Int) = q.1) && decide ((x.2.1.length : Int) = q.2.1)) && (decide ((x.2.2.1.length : Int) = q.2.2.1) && decide ((x.2.2.2.1.length : Int) = q.2.2.2.1))) && (decide ((x.2.2.2.2.1.length : Int) = q.2.2.2.2.1) && (decide (x.2.2.2.2.2.1.length = r.2.2.1.length) && decide (x.2.2.2.2.2.2.1.length = r.2.2.1.length)))
def zqm (r : ze) (s : zf) : Bool := (decide (s.2.1.length = r.1.length) && (decide ((s.2.2.2.1.length : Int) = r.2.2.2.2.2.1) && decide ((s.2.2.2.2.1.length : Int) ≤ r.2.2.2.2.2.2.1))) && ((decide (s.2.2.2.2.2.1.length = r.2.1.length) && decide (s.1 ≤ M62)) && qg (fun i => zs1 r (s.2.1.getD i za) (r.2.2.2.2.1.getD i jl)) 0 (s.2.1.length - 0))
theorem neI (a b : Int) : (a != b) = !decide (a = b) := by
  rw [Bool.eq_iff_iff]; simp
theorem z1a {r : ze} (hr : vg r) (s : zf) : zdN ((r, s, ()), ()) = some (zaC r && zqm r s, ()) := by
  rw [zM]
  simp only [zdN, zqK, zOb r hr, Option.bind_some]
  cases hb : zaC r with
  | false => rfl
  | true =>
    have ok := zhP hb
    have ok1 := ok.labels
    have ok2 := ok.quotas
    rw [zs8, zs8]
    unfold zqm M62
    by_cases hn : s.2.1.length = r.1.length
    · have hloop : zuI K0 ((r.2.2.1.length : Int), s.2.1, (s.2.1.length : Int), 0, (r, s, ())) = bif qg (fun i => zs1 r (s.2.1.getD i za) (r.2.2.2.2.1.getD i jl)) 0 (s.2.1.length - 0) then some (true, ()) else some (false, ()) :=
        qx (i0 := 0) (n := s.2.1.length) (by unfold Go.maxLen; omega) (Nat.zero_le _) (fun i => ((r.2.2.1.length : Int), s.2.1, (s.2.1.length : Int), i, (r, s, ()))) (fun k i h1 h2 => by
          simp only [zmz]
          rw [ltT h2, zx h2, zx (by omega)]
          simp only [qh, neI, cond_true, zs1]
          generalize s.2.1.getD i za = x
          generalize r.2.2.2.2.1.getD i jl = q
          generalize k _ = kk
          grind (splits := 30)) (fun k => by simp only [zmz]; rw [ltF]; rfl)
      rw [hloop]
      grind
    · grind
theorem z1b {r : ze} (hb : zaC r = true) (s : zf) : zgt (r, s, ()) = some (zqm r s, ()) := by
  rw [zM]
  simp only [zgt, zqR]
  have ok := zhP hb
  have ok1 := ok.labels
  have ok2 := ok.quotas
  rw [zs8, zs8]
  unfold zqm M62
  by_cases hn : s.2.1.length = r.1.length
  · have hloop : zvj K0 (0, r, s) = bif qg (fun i => zs1 r (s.2.1.getD i za) (r.2.2.2.2.1.getD i jl)) 0 (s.2.1.length - 0) then some (true, ()) else some (false, ()) :=
      qx (i0 := 0) (n := s.2.1.length) (by unfold Go.maxLen; omega) (Nat.zero_le _) (fun i => (i, r, s)) (fun k i h1 h2 => by
        simp only [zmL]
        rw [ltT h2, zx h2, zx (by omega)]
        simp only [qh, neI, cond_true, zs1]
        generalize s.2.1.getD i za = x
        generalize r.2.2.2.2.1.getD i jl = q
        generalize k _ = kk
        grind (splits := 30)) (fun k => by simp only [zmL]; rw [ltF]; rfl)
    rw [hloop]
    grind
  · grind
structure zjS (r : ze) (s : zf) : Prop where
  shelves : s.2.1.length = r.1.length
  orders : s.2.2.2.1.length ≤ 24
  entries : s.2.2.2.2.1.length ≤ 48
  people : s.2.2.2.2.2.1.length = r.2.1.length
  shelf : ∀ x ∈ s.2.1, x.1.length ≤ 12 ∧ x.2.1.length ≤ 12 ∧ x.2.2.1.length ≤ 12 ∧ x.2.2.2.1.length ≤ 12 ∧ x.2.2.2.2.1.length ≤ 12 ∧ x.2.2.2.2.2.1.length = r.2.2.1.length ∧ x.2.2.2.2.2.2.1.length = r.2.2.1.length
theorem z3H : ∀ (l : List zc0) (n : Int), zvz n l = true → ∀ q ∈ l, zLy q = true
  | [], _, _, q, h => by cases h
  | a :: l, n, h, q, hq => by
    simp only [zvz, Bool.and_eq_true] at h
    rcases List.mem_cons.1 hq with rfl | hq
    · exact h.1
    · exact z3H l _ h.2.2 q hq
theorem zY7 {r : ze} {s : zf} (hb : zaC r = true) (h : zqm r s = true) : zjS r s := by
  have ok := zhP hb
  simp only [zaC, Bool.and_eq_true] at hb
  obtain ⟨-, -, -, -, h5, h6⟩ := hb
  simp only [zoA, zQR, within, Bool.and_eq_true, decide_eq_true_eq] at h5 h6
  simp only [zqm, Bool.and_eq_true, decide_eq_true_eq, vJ] at h
  obtain ⟨⟨h7, h8, h9⟩, ⟨h10, -⟩, h11⟩ := h
  refine ⟨h7, by omega, by omega, h10, fun x hx => ?_⟩
  obtain ⟨i, hi, rfl⟩ := List.mem_iff_getElem.1 hx
  have h12 := h11 i (by omega) (by omega)
  have e : s.2.1.getD i za = s.2.1[i] := by simp [List.getD, hi]
  rw [e] at h12
  have hq := z3H _ _ h5.2.2.2 (r.2.2.2.2.1.getD i jl) (qQ (by have := ok.quotas; omega))
  simp only [zLy, within, Bool.and_eq_true, decide_eq_true_eq] at hq
  simp only [zs1, Bool.and_eq_true, decide_eq_true_eq] at h12
  omega
def yp (x : zm) : Bool := (x.1.all zvB) && (zWz x.2.1 && (x.2.2.1.all zbQ && (x.2.2.2.1.all zvC && x.2.2.2.2.1.all zoE)))
theorem zWF {x : zm} (h : x.1.length ≤ 12 ∧ x.2.1.length ≤ 12 ∧ x.2.2.1.length ≤ 12 ∧ x.2.2.2.1.length ≤ 12 ∧ x.2.2.2.2.1.length ≤ 12) : zdo (x, ()) = some (yp x, ()) := by
  rw [zM]
  have hm : 12 ≤ Go.maxLen := by unfold Go.maxLen; omega
  simp only [zdo, zuQ]
  rw [z3r (by omega), z3t (by omega), z0X (by omega), z3x (by omega), z01 (by omega)]
  simp only [Option.bind_some, yp]
  grind
theorem z1c {r : ze} {s : zf} (ok : zoF r) (sz : zjS r s) : zdO ((r, s, ()), ()) = some (s.2.1.all yp, ()) := by
  rw [zM]
  simp only [zdO, zA4]
  have h1 := ok.labels
  have h2 := sz.shelves
  rw [z46 (p := yp) (by unfold Go.maxLen; omega) fun x hx => zWF (by have := sz.shelf x hx; omega)]
  simp only [Option.bind_some]
def zkR (r : ze) (x : Int) : Bool := decide (0 ≤ x ∧ x < (r.2.2.1.length : Int))
def zpS (r : ze) (x : Int) : Bool := decide (0 ≤ x ∧ x < (r.1.length : Int))
theorem zdD (r : ze) (s : zf) (x : Int) : qf ((r, s, ()), x, ()) = some (zkR r x, ()) := by simp only [qf, zuU, zkR]; grind
theorem zOf (r : ze) (s : zf) (x : Int) : zaJ ((r, s, ()), x, ()) = some (zpS r x, ()) := by simp only [zaJ, zA9, zpS]; grind
theorem ziv (r : ze) (x : Int) : z6 (r, x, ()) = some (zkR r x, ()) := by simp only [z6, zJZ, zkR]; grind
def zGh (s : zf) (x : jE) : Bool := decide (0 ≤ x.1 ∧ x.1 < (s.2.1.length : Int)) && (decide (0 ≤ x.2.1 ∧ x.2.1 < ((s.2.1.getD x.1.toNat za).1.length : Int)) && ((s.2.1.getD x.1.toNat za).1.getD x.2.1.toNat zqq).1)
theorem zOg (s : zf) (x : jE) : vG (s, x, ()) = some (zGh s x, ()) := by
  rw [zM]
  simp only [vG, zA7, zGh, ix]
  by_cases h1 : 0 ≤ x.1 ∧ x.1 < (s.2.1.length : Int)
  · rw [ixR h1, ixR h1]
    by_cases h2 : 0 ≤ x.2.1 ∧ x.2.1 < ((s.2.1.getD x.1.toNat za).1.length : Int)
    · rw [ixR h2]
      grind
    · grind
  · grind
theorem zOh (s : zf) (x : jE) : zaL (s, x, ()) = some (zGh s x, ()) := by
  rw [zM]
  simp only [zaL, zBt, zGh, ix]
  by_cases h1 : 0 ≤ x.1 ∧ x.1 < (s.2.1.length : Int)
  · rw [ixR h1, ixR h1]
    by_cases h2 : 0 ≤ x.2.1 ∧ x.2.1 < ((s.2.1.getD x.1.toNat za).1.length : Int)
    · rw [ixR h2]
      grind
    · grind
  · grind
def zx5 (r : ze) (s : zf) (x : zj) : Bool := !x.1 || (zpS r x.2.1 && (zkR r x.2.2.1 && decide (x.2.2.2.2.2.2.2.2.2.1 < (s.2.2.2.2.1.length : Int))))
def zx6 (r : ze) (s : zf) (x : zH) : Bool := decide (x.2.1 < (r.2.1.length : Int)) && ((x.2.2.1 : Int) == r.2.1.getD x.2.1.toNat 0 && (zkR r x.2.2.2.1 && decide (x.1 ≤ s.1)))
def zCA (r : ze) (x : Int) : Bool := x == -1 || zkR r x
theorem z68 (r : ze) (s : zf) (x : zj) : zcq (x, some (r, s, ()), ()) = some (zx5 r s x, ()) := by
  rw [zM]
  simp only [zcq, zso, zdD, zOf, Option.bind_some, zx5]
  grind
theorem z69 (r : ze) (s : zf) {x : zH} (h : zoH x = true) : zcr (x, some (r, s, ()), ()) = some (zx6 r s x, ()) := by
  rw [zM]
  simp only [zcr, zsp, zdD, Option.bind_some, zx6, ix]
  have : 0 ≤ x.2.1 := by unfold zoH vm at h; grind
  by_cases h1 : x.2.1 < (r.2.1.length : Int)
  · rw [ixR ⟨this, h1⟩]
    grind
  · grind
theorem z7a (r : ze) (s : zf) (x : Int) : zcs (x, some (r, s, ()), ()) = some (zCA r x, ()) := by
  rw [zM]
  simp only [zcs, zsq, zdD, Option.bind_some, zCA]
  grind
def zs2 (r : ze) (s : zf) : Bool := zGg r s.2.2.1 && (zlI s.2.2.2.1 && (zsK s.2.2.2.2.1 && (zGh s (zb z5) && (s.2.2.2.1.all (zx5 r s) && (s.2.2.2.2.1.all (zx6 r s) && s.2.2.2.2.2.1.all (zCA r))))))
theorem zQB {l : List zH} (h : zsK l = true) : ∀ x ∈ l, zoH x = true := by
  intro x hx
  simp only [zsK, vJ, Bool.and_eq_true] at h
  obtain ⟨i, hi, rfl⟩ := List.mem_iff_getElem.1 hx
  have e : l.getD i zcc = l[i] := by simp [List.getD, hi]
  rw [← e]
  exact (h i (by omega) (by omega)).1
theorem z5y {l : List zj} (h : zlI l = true) : ∀ x ∈ l, zx4 x = true := by
  intro x hx
  simp only [zlI, Bool.and_eq_true, List.all_eq_true] at h
  exact h.1 x hx
theorem zYu {r : ze} {s : zf} (hr : vg r) (hb : zaC r = true) (hs : zdC s) (sz : zjS r s) : zcu ((r, s, ()), ()) = some (zs2 r s, ()) := by
  rw [zM]
  have ok := zhP hb
  have h1 := ok.lines
  have h2 := sz.orders
  have h3 := sz.entries
  have h4 := sz.people
  have hm : 48 ≤ Go.maxLen := by unfold Go.maxLen; omega
  simp only [zcu, zxK, z3F hr, hb, Bool.true_and, Option.bind_some]
  unfold zs2
  cases zGg r s.2.2.1 with
  | false => rfl
  | true =>
    rw [z3G (by omega) hs.orders, z08 (by omega) hs.entries, zOg]
    simp only [Option.bind_some, cond_true]
    cases zlI s.2.2.2.1 with
    | false => rfl
    | true =>
      cases he : zsK s.2.2.2.2.1 with
      | false => rfl
      | true =>
        rw [z47 (p := zx5 r s) (by omega) fun x _ => z68 r s x, z48 (p := zx6 r s) (by omega) fun x hx => z69 r s (zQB he x hx), z76 (p := zCA r) (by omega) fun x _ => z7a r s x]
        simp only [Option.bind_some, cond_true]
        grind
theorem zYv {r : ze} {s : zf} (hr : vg r) (hb : zaC r = true) (hs : zdC s) (sz : zjS r s) : zeM (r, s, ()) = some (zs2 r s, ()) := by
  rw [zM]
  have ok := zhP hb
  have h1 := ok.lines
  have h2 := sz.orders
  have h3 := sz.entries
  have h4 := sz.people
  have hm : 48 ≤ Go.maxLen := by unfold Go.maxLen; omega
  simp only [zeM, zoy, z05 hr, hb, Bool.true_and, Option.bind_some]
  unfold zs2
  cases zGg r s.2.2.1 with
  | false => rfl
  | true =>
    rw [z06 (by omega) hs.orders, z09 (by omega) hs.entries, zOh]
    simp only [Option.bind_some, cond_true]
    cases ho : zlI s.2.2.2.1 with
    | false => rfl
    | true =>
      cases he : zsK s.2.2.2.2.1 with
      | false => rfl
      | true =>
        cases zGh s (zb z5) with
        | false => rfl
        | true =>
          simp only [cond_true, Bool.true_and]
          have l2 : zfx z6 K0 (0, r, s) = bif s.2.2.2.2.2.1.all (zCA r) then some (true, ()) else some (false, ()) :=
            y9 (l := s.2.2.2.2.2.1) (0 : Int) (fun i => (i, r, s)) (by omega) (fun k i x hi hx _ => by
              simp only [zkQ]
              rw [ltT hi]
              simp only [zx hi, qh, hx, ziv, Option.bind_some, cond_true, zCA]
              grind) (fun k => by simp only [zkQ]; rw [ltF]; rfl)
          have l1 : zfz z6 K0 (0, r, s) = bif s.2.2.2.2.1.all (zx6 r s) then zfx z6 K0 (0, r, s) else some (false, ()) :=
            y9 (l := s.2.2.2.2.1) zcc (fun i => (i, r, s)) (by omega) (fun k i x hi hx hmem => by
              have hok := zQB he x hmem
              have h0 : 0 ≤ x.2.1 := by unfold zoH vm at hok; grind
              simp only [zfy]
              rw [ltT hi]
              simp only [zx hi, qh, hx, ziv, Option.bind_some, cond_true, zx6]
              by_cases h1 : x.2.1 < (r.2.1.length : Int)
              · rw [ixR ⟨h0, h1⟩]
                grind
              · grind) (fun k => by simp only [zfy]; rw [ltF]; rfl)
          have l0 : zsI z6 K0 (0, r, s) = bif s.2.2.2.1.all (zx5 r s) then zfz z6 K0 (0, r, s) else some (false, ()) :=
            y9 (l := s.2.2.2.1) zP (fun i => (i, r, s)) (by omega) (fun k i x hi hx hmem => by
              have hok := z5y ho x hmem
              have h0 : x.1 = true → 0 ≤ x.2.1 := fun h => by unfold zx4 zsJ vm at hok; grind
              simp only [zfA]
              rw [ltT hi]
              simp only [zx hi, qh, hx, ziv, Option.bind_some, cond_true, zx5, zpS]
              grind) (fun k => by simp only [zfA]; rw [ltF]; rfl)
          rw [l0, l1, l2]
          grind
end Go.Proofs.YtaokpakfhdeiiaaGreatDoor
end
section
namespace Go.Proofs.YtaokpakfhdeiiaaGreatDoor
open Go.Ev
set_option linter.unusedVariables false
set_option linter.unusedSimpArgs false
def zYw (r : ze) (a b : Int) : Bool := zpS r a && (zpS r b && z3z (r.1.getD a.toNat yj) (r.1.getD b.toNat yj))
theorem zWG {r : ze} (hr : vg r) (a : Int) (h : zpS r a = true) : zGe (r.1.getD a.toNat yj) := by
  simp only [zpS, decide_eq_true_eq] at h
  exact hr.labels _ (qQ (by omega))
theorem zSd {r : ze} (hr : vg r) (s : zf) (a b : Int) : zcR ((r, s, ()), a, b, ()) = some (zYw r a b, ()) := by
  rw [zM]
  simp only [zcR, zJK, zOf, Option.bind_some, zYw, ix]
  cases ha : zpS r a with
  | false => rfl
  | true =>
    cases hb : zpS r b with
    | false => rfl
    | true =>
      rw [z5k (zWG hr a ha) (zWG hr b hb)]
      simp only [zpS, decide_eq_true_eq] at ha hb
      rw [ixR ha, ixR hb]
      simp only [Option.bind_some]
      grind
theorem zSe {r : ze} (hr : vg r) (a b : Int) : j3 (r, a, b, ()) = some (zYw r a b, ()) := by
  rw [zM]
  simp only [j3, zJ7, zYw, ix]
  cases ha : zpS r a with
  | false => unfold zpS at ha; grind
  | true =>
    cases hb : zpS r b with
    | false => unfold zpS at ha hb; grind
    | true =>
      rw [z5l (zWG hr a ha) (zWG hr b hb)]
      simp only [zpS, decide_eq_true_eq] at ha hb
      rw [ixR ha, ixR hb]
      simp only [Option.bind_some]
      grind
def zhQ (r : ze) (s : zf) (i : Int) (x : jE) : Bool := zGh s x && zYw r x.1 i
theorem zvE {r : ze} (hr : vg r) (s : zf) (i : Int) (x : jE) : ym (x, some (r, s, ()), some i, ()) = some (zhQ r s i x, ()) := by
  rw [zM]
  simp only [ym, zuX, zOg, zSd hr, Option.bind_some, zhQ]
  grind
theorem zBG {r : ze} (hr : vg r) (s : zf) (i : Int) (x : jE) : qR (r, s, x, i, ()) = some (zhQ r s i x, ()) := by
  rw [zM]
  simp only [qR, zBA, zOh, zSe hr, Option.bind_some, zhQ]
  grind
def znU (r : ze) (s : zf) (i : Int) (x : qd) : Bool := !x.1 || (zhQ r s i x.2.1 && zhQ r s i x.2.2.1)
def znV (r : ze) (s : zf) (i : Int) (x : qb) : Bool := (x.2.2.1 : Int) != 2 || zhQ r s i x.2.2.2.2.1
def zLC (r : ze) (s : zf) (i : Int) (x : zm) : Bool := x.2.1.all (znU r s i) && (x.2.2.1.all (znV r s i) && x.2.2.2.2.2.2.1.all (zhQ r s i))
theorem z8f {r : ze} (hr : vg r) (s : zf) (i : Int) (x : qd) : zbD (x, some (some fun z => ym (z.1, some (r, s, ()), some i, ())), ()) = some (znU r s i x, ()) := by
  rw [zM]
  simp only [zbD, zuZ, zvE hr, Option.bind_some, znU]
  grind
theorem z8g {r : ze} (hr : vg r) (s : zf) (i : Int) (x : qb) : zbE (x, some (some fun z => ym (z.1, some (r, s, ()), some i, ())), ()) = some (znV r s i x, ()) := by
  rw [zM]
  simp only [zbE, zu0, zvE hr, Option.bind_some, znV]
  grind
theorem z1d {r : ze} {s : zf} (hr : vg r) (ok : zoF r) (sz : zjS r s) : zgm ((r, s, ()), ()) = some (qg (fun i => zLC r s (i : Int) (s.2.1.getD i za)) 0 (s.2.1.length - 0), ()) := by
  rw [zM]
  have h1 := ok.labels
  have h2 := sz.shelves
  have h3 := ok.accounts
  exact qx (B := zgU zgl zbD zcv zbE qY zdr) (i0 := 0) (n := s.2.1.length) (by unfold Go.maxLen; omega) (Nat.zero_le _) (fun i => (s.2.1, (s.2.1.length : Int), i, (r, s, ()))) (fun k i _ h => by
    have hm : 12 ≤ Go.maxLen := by unfold Go.maxLen; omega
    have hz := sz.shelf _ (qQ (d := za) h)
    simp only [zgU]
    have hbelow : zgl ((r, s, ()), (i : Int), ()) = some (some fun z => ym (z.1, some (r, s, ()), some (i : Int), ()), ()) := rfl
    rw [ltT h, zx h, qh, hbelow, Option.bind_some, z6U (p := znU r s i) (by omega) fun x _ => z8f hr s i x, zWt (p := znV r s i) (by omega) fun x _ => z8g hr s i x, z77 (p := zhQ r s i) (by omega) fun x _ => zvE hr s i x]
    simp only [Option.bind_some, cond_true]
    unfold zLC
    grind) (fun k => by simp only [zgU]; rw [ltF]; rfl)
theorem z5z {σ ρ : Type} {B : (σ → Option ρ) → σ → Option ρ} {i0 n : Nat} (hn : n ≤ Go.maxLen) (h0 : i0 ≤ n) {p : Nat → Bool} {fin bad : Option ρ} (st : Int → σ)
    (hin : ∀ k (i : Nat), i0 ≤ i → i < n → B k (st i) = bif p i then k (st (wI (i + 1))) else bad) (hout : ∀ k, B k (st n) = fin) (K : Nat) (hK : n - i0 < K) : iter B K (st i0) = bif qg p i0 (n - i0) then fin else bad := by
  have key : ∀ (m i fuel : Nat), i0 ≤ i → i + m = n → m < fuel → iter B fuel (st i) = bif qg p i m then fin else bad := by
    intro m
    induction m with
    | zero =>
      intro i fuel _ h1 h2
      obtain ⟨f, rfl⟩ : ∃ f, fuel = f + 1 := ⟨fuel - 1, by omega⟩
      obtain rfl : i = n := by omega
      exact hout _
    | succ m ih =>
      intro i fuel h1 h2 h3
      obtain ⟨f, rfl⟩ : ∃ f, fuel = f + 1 := ⟨fuel - 1, by omega⟩
      show B (iter B f) (st i) = _
      rw [hin _ i h1 (by omega), wI, z6B (len := n) (by omega) hn, show ((i : Int) + 1) = ((i + 1 : Nat) : Int) by omega, ih (i + 1) f (by omega) (by omega) (by omega)]
      simp only [qg]
      cases p i <;> rfl
  exact key (n - i0) i0 K (Nat.le_refl _) (by omega) hK
def zx7 (r : ze) (x : qb) : Bool := (x.2.2.1 : Int) != 1 || zkR r x.2.2.2.1
def zx8 (r : ze) (i : Int) (x : qy) : Bool := !x.1 || (zYw r x.2.1 i && (zkR r x.2.2.1 && zkR r x.2.2.2.1))
def zx9 (r : ze) (x : zn) : Bool := !x.1 || (zkR r x.2.1 && zkR r x.2.2.1)
def zlJ (r : ze) (i : Int) (x : zm) : Bool := x.2.2.1.all (zx7 r) && (x.2.2.2.1.all (zx8 r i) && x.2.2.2.2.1.all (zx9 r))
theorem z7b (r : ze) (s : zf) (x : qb) : jR (x, some (r, s, ()), ()) = some (zx7 r x, ()) := by
  rw [zM]
  simp only [jR, zss, zdD, Option.bind_some, zx7]
  grind
theorem z7c {r : ze} (hr : vg r) (s : zf) (i : Int) (x : qy) : jS (x, some (r, s, ()), some i, ()) = some (zx8 r i x, ()) := by
  rw [zM]
  simp only [jS, zst, zdD, zSd hr, Option.bind_some, zx8]
  grind
theorem z7d (r : ze) (s : zf) (x : zn) : jT (x, some (r, s, ()), ()) = some (zx9 r x, ()) := by
  rw [zM]
  simp only [jT, zsu, zdD, Option.bind_some, zx9]
  grind
theorem zYx {r : ze} {s : zf} (hr : vg r) (ok : zoF r) (sz : zjS r s) : zcw ((r, s, ()), ()) = some (qg (fun i => zlJ r (i : Int) (s.2.1.getD i za)) 0 s.2.1.length, ()) := by
  rw [zM]
  have h1 := ok.labels
  have h2 := sz.shelves
  have hm : 12 ≤ Go.maxLen := by unfold Go.maxLen; omega
  have step : ∀ k (i : Nat), i < s.2.1.length → vw jR qY jS vv jT jZ k (s.2.1, (s.2.1.length : Int), (i : Int), (r, s, ())) = bif zlJ r (i : Int) (s.2.1.getD i za) then k (s.2.1, (s.2.1.length : Int), wI ((i : Int) + 1), (r, s, ())) else some (false, ()) := fun k i h => by
    have hz := sz.shelf _ (qQ (d := za) h)
    simp only [vw]
    rw [ltT h, zx h, qh, zWt (p := zx7 r) (by omega) fun x _ => z7b r s x, z6V (p := zx8 r i) (by omega) fun x _ => z7c hr s i x, z49 (p := zx9 r) (by omega) fun x _ => z7d r s x]
    simp only [Option.bind_some, cond_true]
    unfold zlJ
    grind
  have hend : ∀ k, vw jR qY jS vv jT jZ k (s.2.1, (s.2.1.length : Int), (s.2.1.length : Int), (r, s, ())) = some (true, ()) := fun k => by simp only [vw]; rw [ltF]; rfl
  have first : zcw ((r, s, ()), ()) = zUA (vw jR qY jS vv jT jZ) (vw jR qY jS vv jT jZ) K0 (s.2.1, (s.2.1.length : Int), ((0 : Nat) : Int), (r, s, ())) := rfl
  have hw : wI (((0 : Nat) : Int) + 1) = ((1 : Nat) : Int) := rfl
  obtain ⟨m, hK⟩ := zQQ
  have hf : ∀ (B0 B1 : (zaR → Option (Bool × Unit)) → zaR → Option (Bool × Unit)) (x : zaR), zUA B0 B1 K0 x = B0 (iter B1 (m + 7)) x := fun B0 B1 x => by rw [hK]; rfl
  have rest := z5z (B := vw jR qY jS vv jT jZ) (i0 := 1) (n := s.2.1.length) (by unfold Go.maxLen; omega) (by omega) (p := fun i => zlJ r (i : Int) (s.2.1.getD i za)) (fun i => (s.2.1, (s.2.1.length : Int), i, (r, s, ()))) (fun k i _ h => step k i h) hend (m + 7) (by unfold K0 Go.maxLen at hK; omega)
  rw [hf] at first
  rw [first, step _ 0 (by omega), hw]
  refine (congrArg (fun z => bif zlJ r ((0 : Nat) : Int) (s.2.1.getD 0 za) then z else some (false, ())) rest).trans ?_
  obtain ⟨n, hn⟩ : ∃ n, s.2.1.length = n + 1 := ⟨s.2.1.length - 1, by omega⟩
  rw [hn]
  simp only [qg, Nat.add_sub_cancel]
  cases zlJ r ((0 : Nat) : Int) (s.2.1.getD 0 za) <;> rfl
theorem z3I {l : List zn} {g : zn × Unit → Option (Bool × Unit)} {p : zn → Bool} (hg : ∀ x, g (x, ()) = some (p x, ())) (z : Int) : ja (some (l, some g, ()), z, ()) = some (decide (0 ≤ z ∧ z < (l.length : Int)) && p (l.getD z.toNat qe), ()) := by
  by_cases h : 0 ≤ z ∧ z < (l.length : Int)
  · obtain ⟨n, rfl⟩ := Int.eq_ofNat_of_zero_le h.1
    rw [zSb hg (by omega), decide_eq_true h, Bool.true_and, Int.toNat_natCast]
  · rw [decide_eq_false h, Bool.false_and]
    simp only [ja, zmB, zQy, Option.bind_some, cond_true]
    grind
theorem zWH {α : Type} {p : α → Bool} (d : α) (L : List α) (q : Int → Bool) : ∀ (l : List α) (i : Nat), (∀ j, j < l.length → L.getD (i + j) d = l.getD j d) → (j4 p i l).all q = qg (fun j => !p (L.getD j d) || q (j : Int)) i l.length
  | [], _, _ => rfl
  | x :: l, i, h => by
    have ih := zWH (p := p) d L q l (i + 1) fun j hj => by
      have := h (j + 1) (by simp; omega)
      rw [show i + 1 + j = i + (j + 1) by omega, this]; rfl
    have h0 : L.getD i d = x := h 0 (by simp)
    simp only [j4, List.length_cons, qg, h0]
    rw [← ih]
    cases p x <;> simp
def zsL (x : zm) (j : Nat) (t : qb) : Bool := (t.2.2.1 : Int) != 3 || (decide (0 ≤ t.2.2.2.1 ∧ t.2.2.2.1 < (x.2.2.2.2.1.length : Int)) && ((x.2.2.2.2.1.getD (Int.toNat t.2.2.2.1) qe).1 && ((x.2.2.2.2.1.getD (Int.toNat t.2.2.2.1) qe).2.2.2.1.2.2.1 : Int) == (j : Int)))
def zjW (x : zm) (j : Int) (t : zn) : Bool := (decide (t.2.2.2.1.2.2.1 < (x.2.2.1.length : Int)) && decide (t.2.2.2.2.1.2.2.1 < (x.2.2.1.length : Int))) && (decide (t.2.2.2.1.2.2.1 < 0) || (((x.2.2.1.getD (Int.toNat t.2.2.2.1.2.2.1) zJ).2.2.1 : Int) == 3 && ((x.2.2.1.getD (Int.toNat t.2.2.2.1.2.2.1) zJ).2.2.2.1 : Int) == j))
def zGi (x : zm) : Bool := qg (fun j => zsL x j (x.2.2.1.getD j zJ)) 0 (x.2.2.1.length - 0) && qg (fun j => !(x.2.2.2.2.1.getD j qe).1 || zjW x (j : Int) (x.2.2.2.2.1.getD j qe)) 0 x.2.2.2.2.1.length
theorem zH3 (x : zn) : vQ (x, ()) = some (x.1, ()) := by
  rw [zM]; rfl
theorem z1e {r : ze} {s : zf} (ok : zoF r) (sz : zjS r s) : zgn ((r, s, ()), ()) = some (qg (fun i => zGi (s.2.1.getD i za)) 0 (s.2.1.length - 0), ()) := by
  rw [zM]
  have h1 := ok.labels
  have h2 := sz.shelves
  have hm : 12 ≤ Go.maxLen := by unfold Go.maxLen; omega
  have hlm : 12 ≤ lim := by unfold lim; omega
  have l2 : ∀ k0 (i : Nat) (x : zm), x.2.2.2.2.1.length ≤ 12 → zgY K0 k0 (s.2.1, (s.2.1.length : Int), (i : Int), j4 (fun t : zn => t.1) 0 x.2.2.2.2.1, ((j4 (fun t : zn => t.1) 0 x.2.2.2.2.1).length : Int), 0, x) = bif qg (fun j => !(x.2.2.2.2.1.getD j qe).1 || zjW x (j : Int) (x.2.2.2.2.1.getD j qe)) 0 x.2.2.2.2.1.length then k0 (s.2.1, (s.2.1.length : Int), wI ((i : Int) + 1)) else some (false, ()) := fun k0 i x hx => by
    have hsl := zCs (p := fun t : zn => t.1) x.2.2.2.2.1 0
    have hsm := zCt (p := fun t : zn => t.1) x.2.2.2.2.1 0
    have := y9 (B := fun k2 => zgX k0 k2) (l := j4 (fun t : zn => t.1) 0 x.2.2.2.2.1) (0 : Int) (p := fun z => zjW x z (x.2.2.2.2.1.getD z.toNat qe)) (fin := k0 (s.2.1, (s.2.1.length : Int), wI ((i : Int) + 1))) (bad := some (false, ())) (fun j => (s.2.1, (s.2.1.length : Int), (i : Int), j4 (fun t : zn => t.1) 0 x.2.2.2.2.1, ((j4 (fun t : zn => t.1) 0 x.2.2.2.2.1).length : Int), j, x)) (by omega) (fun k j z hj hz hmem => by
      obtain ⟨n, rfl, -, hn⟩ := hsm z hmem
      simp only [zgX]
      rw [ltT hj, zx hj, qh, hz, zx (by omega), zx (by omega), Int.toNat_natCast]
      simp only [cond_true, zjW, neI]
      by_cases ha : (x.2.2.2.2.1.getD n qe).2.2.2.1.2.2.1 < (x.2.2.1.length : Int)
      · by_cases hb : 0 ≤ (x.2.2.2.2.1.getD n qe).2.2.2.1.2.2.1
        · rw [ixR ⟨hb, ha⟩, ixR ⟨hb, ha⟩]
          grind
        · grind
      · grind) (fun k => by simp only [zgX]; rw [ltF]; rfl)
    refine this.trans ?_
    rw [zWH (p := fun t : zn => t.1) qe x.2.2.2.2.1 (fun z => zjW x z (x.2.2.2.2.1.getD z.toNat qe)) x.2.2.2.2.1 0 fun j _ => by rw [Nat.zero_add]]
    simp only [Int.toNat_natCast]
  have l1 : ∀ k0 (i : Nat) (x : zm), x.2.2.1.length ≤ 12 → x.2.2.2.2.1.length ≤ 12 → zgZ ja jJ K0 k0 (some (x.2.2.2.2.1, some vQ, ()), s.2.1, (s.2.1.length : Int), (i : Int), x.2.2.1, (x.2.2.1.length : Int), 0, x) = bif zGi x then k0 (s.2.1, (s.2.1.length : Int), wI ((i : Int) + 1)) else some (false, ()) := fun k0 i x hx hx2 => by
    have := qx (B := fun k1 => zdt ja jJ (zgY K0 k0) k0 k1) (i0 := 0) (n := x.2.2.1.length) (p := fun j => zsL x j (x.2.2.1.getD j zJ)) (fin := bif qg (fun j => !(x.2.2.2.2.1.getD j qe).1 || zjW x (j : Int) (x.2.2.2.2.1.getD j qe)) 0 x.2.2.2.2.1.length then k0 (s.2.1, (s.2.1.length : Int), wI ((i : Int) + 1)) else some (false, ())) (bad := some (false, ())) (by omega) (Nat.zero_le _) (fun j => (some (x.2.2.2.2.1, some vQ, ()), s.2.1, (s.2.1.length : Int), (i : Int), x.2.2.1, (x.2.2.1.length : Int), j, x)) (fun k j _ hj => by
      simp only [zdt]
      rw [ltT hj, zx hj, qh, z3I zH3]
      simp only [cond_true, Option.bind_some, zsL, neI]
      by_cases ha : 0 ≤ (x.2.2.1.getD j zJ).2.2.2.1 ∧ (x.2.2.1.getD j zJ).2.2.2.1 < (x.2.2.2.2.1.length : Int)
      · rw [ixR ha]
        grind
      · grind) (fun k => by
      simp only [zdt]
      rw [ltF, zOe (by omega) zH3, Option.bind_some]
      exact l2 k0 i x hx2)
    refine this.trans ?_
    unfold zGi
    cases qg (fun j => zsL x j (x.2.2.1.getD j zJ)) 0 (x.2.2.1.length - 0) <;> rfl
  exact qx (B := fun k0 => zdu jU vQ (zgZ ja jJ K0 k0) k0) (i0 := 0) (n := s.2.1.length) (by omega) (Nat.zero_le _) (fun i => (s.2.1, (s.2.1.length : Int), i)) (fun k i _ h => by
    have hz := sz.shelf _ (qQ (d := za) h)
    simp only [zdu]
    have hq : jU ((s.2.1.getD i za).2.2.2.2.1, some vQ, ()) = some (some ((s.2.1.getD i za).2.2.2.2.1, some vQ, ()), ()) := by
      simp only [jU, zkG, zN9 (show (s.2.1.getD i za).2.2.2.2.1.length ≤ lim by omega), Option.bind_some]
      rfl
    rw [ltT h, zx h, qh, hq, Option.bind_some]
    exact l1 k i _ (by omega) (by omega)) (fun k => by simp only [zdu]; rw [ltF]; rfl)
end Go.Proofs.YtaokpakfhdeiiaaGreatDoor
end
section
namespace Go.Proofs.YtaokpakfhdeiiaaGreatDoor
open Go.Ev
set_option linter.unusedVariables false
set_option linter.unusedSimpArgs false
def zCB (r : ze) (s : zf) (i : Int) (x : zm) (j : Nat) (t : qb) : Bool := !t.1 || bif (t.2.2.1 : Int) == 1 then zkR r t.2.2.2.1 else bif (t.2.2.1 : Int) == 2 then zhQ r s i t.2.2.2.2.1 else decide (t.2.2.2.1 < (x.2.2.2.2.1.length : Int)) && ((x.2.2.2.2.1.getD (Int.toNat t.2.2.2.1) qe).1 && ((x.2.2.2.2.1.getD (Int.toNat t.2.2.2.1) qe).2.2.2.1.2.2.1 : Int) == (j : Int))
theorem z3J {r : ze} (hr : vg r) {s : zf} {i j : Nat} (hi : i < s.2.1.length) (hj : j < (s.2.1.getD i za).2.2.1.length) (hok : zbQ ((s.2.1.getD i za).2.2.1.getD j zJ) = true) :
    zbM (r, s, (i : Int), (j : Int), ()) = some (zCB r s i (s.2.1.getD i za) j ((s.2.1.getD i za).2.2.1.getD j zJ), ()) := by
  rw [zM]
  simp only [zbM, zF4]
  rw [zx hi, qh, zx hj, Int.toNat_natCast]
  simp only [ziv, zBG hr, Option.bind_some, zCB]
  generalize s.2.1.getD i za = x at *
  have ht : (x.2.2.1.getD j zJ).1 = true → ((x.2.2.1.getD j zJ).2.2.1 == (1 : Int)) = false → ((x.2.2.1.getD j zJ).2.2.1 == (2 : Int)) = false → 0 ≤ (x.2.2.1.getD j zJ).2.2.2.1 := fun h1 h2 h3 => by
    unfold zbQ zx1 vm at hok; grind
  generalize x.2.2.1.getD j zJ = t at *
  cases h1 : t.1 with
  | false => rfl
  | true =>
    cases h2 : (t.2.2.1 : Int) == 1 with
    | true => cases hw : zkR r t.2.2.2.1 <;> rfl
    | false =>
      cases h3 : (t.2.2.1 : Int) == 2 with
      | true => cases hw : zhQ r s i t.2.2.2.2.1 <;> rfl
      | false =>
        have h0 := ht h1 h2 h3
        by_cases h4 : t.2.2.2.1 < (x.2.2.2.2.1.length : Int)
        · rw [ixR ⟨h0, h4⟩, ixR ⟨h0, h4⟩]
          grind
        · grind
def zCC (r : ze) (x : zm) (j : Nat) (t : zn) : Bool := !t.1 || ((zkR r t.2.1 && zkR r t.2.2.1) && ((decide (t.2.2.2.1.2.2.1 < (x.2.2.1.length : Int)) && decide (t.2.2.2.2.1.2.2.1 < (x.2.2.1.length : Int))) && (decide (t.2.2.2.1.2.2.1 < 0) || ((x.2.2.1.getD (Int.toNat t.2.2.2.1.2.2.1) zJ).1 && (((x.2.2.1.getD (Int.toNat t.2.2.2.1.2.2.1) zJ).2.2.1 : Int) == 3 && ((x.2.2.1.getD (Int.toNat t.2.2.2.1.2.2.1) zJ).2.2.2.1 : Int) == (j : Int))))))
theorem z3K (r : ze) (x : zm) {j : Nat} (hj : j < x.2.2.2.2.1.length) : yJ (r, x, (j : Int), ()) = some (zCC r x j (x.2.2.2.2.1.getD j qe), ()) := by
  rw [zM]
  simp only [yJ, zF5]
  rw [zx hj, qh]
  simp only [ziv, Option.bind_some, zCC]
  generalize x.2.2.2.2.1.getD j qe = t
  cases h1 : t.1 with
  | false => rfl
  | true =>
    by_cases ha : t.2.2.2.1.2.2.1 < (x.2.2.1.length : Int)
    · by_cases hb : 0 ≤ t.2.2.2.1.2.2.1
      · rw [ixR ⟨hb, ha⟩]
        grind
      · grind
    · grind
def zMR (r : ze) (s : zf) (i : Int) (x : zm) : Bool := x.2.1.all (znU r s i) && (qg (fun j => zCB r s i x j (x.2.2.1.getD j zJ)) 0 (x.2.2.1.length - 0) && (qg (fun j => zCC r x j (x.2.2.2.2.1.getD j qe)) 0 (x.2.2.2.2.1.length - 0) && (x.2.2.2.1.all (zx8 r i) && x.2.2.2.2.2.2.1.all (zhQ r s i))))
theorem zYy {r : ze} {s : zf} (hr : vg r) (ok : zoF r) (hs : zdC s) (sz : zjS r s) {i : Nat} (hi : i < s.2.1.length) : zb6 (r, s, (i : Int), ()) = some (yp (s.2.1.getD i za) && zMR r s i (s.2.1.getD i za), ()) := by
  rw [zM]
  have hm : 12 ≤ Go.maxLen := by unfold Go.maxLen; omega
  have hz := sz.shelf _ (qQ (d := za) hi)
  have hin := hs.shelves _ (qQ (d := za) hi)
  have h3 := ok.accounts
  simp only [zb6, zqT]
  have hitem := fun (j : Nat) (hj : j < (s.2.1.getD i za).2.2.1.length) (hok : zbQ ((s.2.1.getD i za).2.2.1.getD j zJ) = true) => z3J hr hi hj hok
  rw [zx hi, qh]
  generalize s.2.1.getD i za = x at *
  rw [z0U (by omega), z0V (by omega), z0Y (by omega), z0Z (by omega), z02 (by omega) hin.trades]
  simp only [Option.bind_some]
  unfold yp
  cases x.1.all zvB with
  | false => rfl
  | true =>
    cases zWz x.2.1 with
    | false => rfl
    | true =>
      cases hit : x.2.2.1.all zbQ with
      | false => rfl
      | true =>
        cases x.2.2.2.1.all zvC with
        | false => rfl
        | true =>
          cases x.2.2.2.2.1.all zoE with
          | false => rfl
          | true =>
            have l4 : zhB qR K0 ((i : Int), 0, r, s, x) = bif x.2.2.2.2.2.2.1.all (zhQ r s i) then some (true, ()) else some (false, ()) :=
              y9 (l := x.2.2.2.2.2.2.1) z9V (fun j => ((i : Int), j, r, s, x)) (by omega) (fun k j y hj hy _ => by
                simp only [zmO]
                rw [ltT hj, zx hj, qh, hy, zBG hr]
                simp only [Option.bind_some, cond_true]) (fun k => by simp only [zmO]; rw [ltF]; rfl)
            have l3 : zhD qR j3 z6 K0 ((i : Int), 0, r, s, x) = bif x.2.2.2.1.all (zx8 r i) then zhB qR K0 ((i : Int), 0, r, s, x) else some (false, ()) :=
              y9 (l := x.2.2.2.1) zfG (fun j => ((i : Int), j, r, s, x)) (by omega) (fun k j y hj hy _ => by
                simp only [zhC]
                rw [ltT hj, zx hj, qh, hy, zSe hr]
                simp only [ziv, Option.bind_some, cond_true, zx8]
                grind) (fun k => by simp only [zhC]; rw [ltF]; rfl)
            have l2 : zhF qR yJ j3 z6 K0 ((i : Int), 0, r, s, x) = bif qg (fun j => zCC r x j (x.2.2.2.2.1.getD j qe)) 0 (x.2.2.2.2.1.length - 0) then zhD qR j3 z6 K0 ((i : Int), 0, r, s, x) else some (false, ()) :=
              qx (i0 := 0) (n := x.2.2.2.2.1.length) (by omega) (Nat.zero_le _) (fun j => ((i : Int), j, r, s, x)) (fun k j _ hj => by
                simp only [zhE]
                rw [ltT hj, z3K r x hj]
                simp only [Option.bind_some, cond_true]) (fun k => by simp only [zhE]; rw [ltF]; rfl)
            have l1 : zhH qR zbM yJ j3 z6 K0 ((i : Int), 0, r, s, x) = bif qg (fun j => zCB r s i x j (x.2.2.1.getD j zJ)) 0 (x.2.2.1.length - 0) then zhF qR yJ j3 z6 K0 ((i : Int), 0, r, s, x) else some (false, ()) :=
              qx (i0 := 0) (n := x.2.2.1.length) (by omega) (Nat.zero_le _) (fun j => ((i : Int), j, r, s, x)) (fun k j _ hj => by
                simp only [zhG]
                rw [ltT hj, hitem j hj (List.all_eq_true.1 hit _ (qQ hj))]
                simp only [Option.bind_some, cond_true]) (fun k => by simp only [zhG]; rw [ltF]; rfl)
            have l0 : zvm qR zbM yJ j3 z6 K0 ((i : Int), 0, r, s, x) = bif x.2.1.all (znU r s i) then zhH qR zbM yJ j3 z6 K0 ((i : Int), 0, r, s, x) else some (false, ()) :=
              y9 (l := x.2.1) qG (fun j => ((i : Int), j, r, s, x)) (by omega) (fun k j y hj hy _ => by
                simp only [zhI]
                rw [ltT hj, zx hj, qh, hy]
                simp only [zBG hr, Option.bind_some, cond_true, znU]
                grind) (fun k => by simp only [zhI]; rw [ltF]; rfl)
            simp only [cond_true]
            rw [l0, l1, l2, l3, l4]
            unfold zMR
            grind
def zGj (r : ze) (s : zf) (i : Int) (x : zm) : Bool := zLC r s i x && (zlJ r i x && zGi x)
theorem zTW {α : Type} {d : α} {l : List α} {p : α → Bool} : l.all p = true ↔ ∀ j, j < l.length → p (l.getD j d) = true := by
  rw [List.all_eq_true]
  constructor
  · exact fun h j hj => h _ (qQ hj)
  · intro h x hx
    obtain ⟨i, hi, rfl⟩ := List.mem_iff_getElem.1 hx
    have := h i hi
    simpa [List.getD, hi] using this
theorem zY8 {t : qb} (h : zbQ t = true) (h1 : t.1 = false) : t.2.2.1 = 0 := by
  unfold zbQ at h
  rw [h1, cond_false] at h
  have e : eqI zW t (zb zW) = cond (t.1 == false) (cond (ByteArray.toList t.2.1 == ByteArray.toList (zb zW).2.1) (cond ((t.2.2.1 : Int) == 0) (cond ((t.2.2.2.1 : Int) == 0) (cond (eqI z5 t.2.2.2.2.1 (zb z5)) true false) false) false) false) false := rfl
  rw [e] at h
  cases hk : (t.2.2.1 : Int) == 0 with
  | true => exact eq_of_beq hk
  | false =>
    rw [hk] at h
    revert h
    cases (t.1 == false) <;> cases (ByteArray.toList t.2.1 == ByteArray.toList (zb zW).2.1) <;> intro h <;> cases h
theorem zWI {r : ze} {s : zf} {i : Int} {x : zm} {j : Nat} {t : qb} (h : zbQ t = true) : zCB r s i x j t = (znV r s i t && (zx7 r t && zsL x j t)) := by
  unfold zCB znV zx7 zsL
  cases h1 : t.1 with
  | false =>
    have := zY8 h h1
    rw [this]; rfl
  | true =>
    unfold zbQ zx1 vm at h
    rw [h1] at h
    generalize zkR r t.2.2.2.1 = a at *
    generalize zhQ r s i t.2.2.2.2.1 = b at *
    grind
theorem z7e {r : ze} {x : zm} (hit : x.2.2.1.all zbQ = true) {j : Nat} {t : zn} : zCC r x j t = (zx9 r t && (!t.1 || zjW x (j : Int) t)) := by
  unfold zCC zx9 zjW
  have hi : 0 ≤ t.2.2.2.1.2.2.1 → t.2.2.2.1.2.2.1 < (x.2.2.1.length : Int) → ((x.2.2.1.getD (Int.toNat t.2.2.2.1.2.2.1) zJ).2.2.1 == (3 : Int)) = true → (x.2.2.1.getD (Int.toNat t.2.2.2.1.2.2.1) zJ).1 = true := fun h1 h2 h3 => by
    have h4 := List.all_eq_true.1 hit _ (qQ (d := zJ) (show (Int.toNat t.2.2.2.1.2.2.1) < x.2.2.1.length by omega))
    cases h5 : (x.2.2.1.getD (Int.toNat t.2.2.2.1.2.2.1) zJ).1 with
    | true => rfl
    | false =>
      have := zY8 h4 h5
      rw [this] at h3
      exact absurd h3 (by decide)
  generalize x.2.2.1.getD (Int.toNat t.2.2.2.1.2.2.1) zJ = y at *
  cases t.1 with
  | false => rfl
  | true => grind
theorem z5A {r : ze} {s : zf} {i : Int} {x : zm} (hit : x.2.2.1.all zbQ = true) : zMR r s i x = zGj r s i x := by
  have hi := List.all_eq_true.1 hit
  rw [Bool.eq_iff_iff]
  unfold zMR zGj zLC zlJ zGi
  simp only [Bool.and_eq_true, vJ, @zTW qb zJ, @zTW zn qe, z7e hit]
  constructor
  · rintro ⟨h1, h2, h3, h4, h5⟩
    have h2' : ∀ j, j < x.2.2.1.length → znV r s i (x.2.2.1.getD j zJ) = true ∧ zx7 r (x.2.2.1.getD j zJ) = true ∧ zsL x j (x.2.2.1.getD j zJ) = true := fun j hj => by
      have := h2 j (Nat.zero_le _) (by omega)
      rw [zWI (hi _ (qQ hj))] at this
      simpa [Bool.and_eq_true] using this
    exact ⟨⟨h1, fun j hj => (h2' j hj).1, h5⟩, ⟨fun j hj => (h2' j hj).2.1, h4, fun j hj => (h3 j (Nat.zero_le _) (by omega)).1⟩, fun j _ hj => (h2' j (by omega)).2.2, fun j _ hj => (h3 j (Nat.zero_le _) (by omega)).2⟩
  · rintro ⟨⟨h1, h2, h3⟩, ⟨h4, h5, h6⟩, h7, h8⟩
    refine ⟨h1, fun j _ hj => ?_, fun j _ hj => ⟨h6 j (by omega), h8 j (by omega) (by omega)⟩, h5, h3⟩
    rw [zWI (hi _ (qQ (by omega))), h2 j (by omega), h4 j (by omega), h7 j (by omega) (by omega)]
    rfl
theorem z1f {r : ze} {s : zf} (hr : vg r) (ok : zoF r) (hs : zdC s) (sz : zjS r s) {i : Nat} (hi : i < s.2.1.length) : zb6 (r, s, (i : Int), ()) = some (yp (s.2.1.getD i za) && zGj r s i (s.2.1.getD i za), ()) := by
  rw [zYy hr ok hs sz hi]
  cases h : yp (s.2.1.getD i za) with
  | false => rfl
  | true =>
    have hit : (s.2.1.getD i za).2.2.1.all zbQ = true := by
      simp only [yp, Bool.and_eq_true] at h
      exact h.2.2.1
    rw [z5A hit]
end Go.Proofs.YtaokpakfhdeiiaaGreatDoor
end
section
namespace Go.Proofs.YtaokpakfhdeiiaaGreatDoor
open Go.Ev
set_option linter.unusedVariables false
set_option linter.unusedSimpArgs false
def qv : List Int → Int
  | [] => 0
  | x :: l => x + qv l
theorem zTX : ∀ (l m : List Int), qv (l ++ m) = qv l + qv m
  | [], m => by simp [qv]
  | x :: l, m => by simp only [List.cons_append, qv, zTX l m]; omega
theorem zMS : ∀ {l : List Int}, (∀ x ∈ l, 0 ≤ x) → 0 ≤ qv l
  | [], _ => Int.le_refl 0
  | x :: l, h => by
    have h1 := h x (by simp)
    have h2 := zMS (l := l) fun y hy => h y (by simp [hy])
    simp only [qv]; omega
theorem vP {α : Type} {g : α → Int} {l : List α} (h : ∀ x ∈ l, 0 ≤ g x) : 0 ≤ qv (l.map g) := zMS fun x hx => by
  obtain ⟨y, hy, rfl⟩ := List.mem_map.1 hx
  exact h y hy
def zya (n : Int) : Int × Int × Unit := bif decide (n > M62) then (0, 7, ()) else (n, 0, ())
theorem y4 {n : Int} (h : n > M62) : zya n = (0, 7, ()) := by unfold zya; rw [decide_eq_true h]; rfl
theorem zdE {n : Int} (h : n ≤ M62) : zya n = (n, 0, ()) := by unfold zya; rw [decide_eq_false (by omega)]; rfl
theorem zGk : ∀ (l : List Int) (a : Int), a ≤ M62 → (∀ x ∈ l, 0 ≤ x) → zx2 a l = zya (a + qv l)
  | [], a, h, _ => by simp only [zx2, qv, Int.add_zero]; exact (zdE h).symm
  | x :: l, a, h, hp => by
    have h2 := zMS (l := l) fun y hy => hp y (by simp [hy])
    simp only [zx2, qv]
    by_cases hb : a + x > M62
    · rw [decide_eq_true hb, y4 (by omega)]; rfl
    · rw [decide_eq_false hb, cond_false, zGk l (a + x) (by omega) fun y hy => hp y (by simp [hy])]
      congr 1; omega
theorem zKc {α : Type} (p : α → Bool) (g : α → Int) : ∀ l : List α, qv ((l.filter p).map g) = qv (l.map fun x => bif p x then g x else 0)
  | [] => rfl
  | x :: l => by
    have ih := zKc p g l
    rw [zx3]
    simp only [List.map_cons, qv]
    cases hp : p x with
    | true => simp only [cond_true, List.map_cons, qv, ih]
    | false => simp only [cond_false, ih]; omega
def zyY (x : zj) : Int := bif (x.2.2.2.1 : Int) == 2 then x.2.2.2.2.1 else x.2.2.2.2.2.1
theorem z8X (x : zj) : zdQ (x, ()) = some (zyY x, ()) := by
  simp only [zdQ, zBd, zyY]; grind
def vD (c : Int) (x : zj) : Int := bif x.1 && zyY x == c then x.2.2.2.2.2.2.2.2.1 else 0
def zyb (l : List zj) (c : Int) : Int × Int × Unit := bif jN c then zya (qv (l.map (vD c))) else (0, 1, ())
theorem z7f (l : List zj) (hl : l.length ≤ lim) : zom (l, ()) = some (some (l, some zjr, ()), ()) := by
  simp only [zom, zMF, zfc, zsv, z0P hl, Option.bind_some]
  rfl
theorem z3L (x : zj) : zjr (x, ()) = some (x.1, ()) := by
  rw [zM]; rfl
theorem z5B {l : List zj} (hl : l.length ≤ lim) (h : ∀ x ∈ l, zoG x) (c : Int) : zlA (l, c, ()) = some (zyb l c) := by
  have hl' : l.length ≤ Go.maxLen := by unfold lim at hl; unfold Go.maxLen; omega
  simp only [zlA, zyo, zfE, Option.bind_some]
  unfold zyb
  cases hc : jN c with
  | false => rfl
  | true =>
    have hslots : zjs (l, ()) = some (j4 (fun x : zj => x.1) 0 l, ()) := by
      simp only [zjs, zFD]
      rw [z7f l hl, Option.bind_some, z03 hl z3L, Option.bind_some]
    simp only [cond_true]
    rw [hslots, Option.bind_some]
    have hsl := zCs (p := fun x : zj => x.1) l 0
    have hsm := zCt (p := fun x : zj => x.1) l 0
    have hloop := y3 (B := zk7 zdQ jY) (l := j4 (fun x : zj => x.1) 0 l) (α := List Int) (0 : Int) (fun i o => o.length ≤ i ∧ ∀ x ∈ o, 0 ≤ x ∧ x < U64) (fun i o => (l, c, j4 (fun x : zj => x.1) 0 l, ((j4 (fun x : zj => x.1) 0 l).length : Int), i, o))
      (fun rest o => some (zx2 0 (o ++ (rest.filter fun z => zyY (l.getD z.toNat zP) == c).map fun z => (l.getD z.toNat zP).2.2.2.2.2.2.2.2.1))) (by omega) (fun k i x rest o hi hI hx hm hr hk => by
        simp only [zk7]
        obtain ⟨j, rfl, -, hj⟩ := hsm x hm
        rw [ltT hi, zx hi, qh, hx, zx (by omega), zx (by omega), Int.toNat_natCast, set1, z8X]
        have hxx := (h (l.getD j zP) (qQ (by omega))).held
        simp only [cond_true, zx3, Int.toNat_natCast, Option.bind_some]
        rw [decide_eq_true (by simp; omega)]
        simp only [cond_true]
        cases hq : zyY (l.getD j zP) == c with
        | false =>
          exact hk o ⟨by omega, hI.2⟩
        | true =>
          simp only [cond_true, List.map_cons, Int.toNat_natCast]
          refine (hk _ ⟨by simp; omega, fun x hx => ?_⟩).trans ?_
          · rcases List.mem_append.1 hx with hx | hx
            · exact hI.2 x hx
            · rcases List.mem_singleton.1 hx with rfl
              exact hxx
          · rw [List.append_assoc]; rfl) (fun k o hI => by
        simp only [zk7]
        rw [ltF]
        simp only [cond_false]
        rw [zCr (by omega) hI.2, List.filter_nil, List.map_nil, List.append_nil]
        rfl) [] ⟨Nat.le_refl _, fun x hx => by cases hx⟩
    refine hloop.trans ?_
    rw [List.nil_append, zBF (q := fun x : zj => zyY x == c) (g := fun x : zj => x.2.2.2.2.2.2.2.2.1) zP l l 0 fun j _ => by rw [Nat.zero_add]]
    rw [zGk _ 0 (by unfold M62; omega) fun x hx => ?_, zKc, Int.zero_add]
    · rfl
    · obtain ⟨y, hy, rfl⟩ := List.mem_map.1 hx
      exact (h y (List.mem_filter.1 hy).1).held.1
theorem zqV {x : zj} (h : zoG x) (c : Int) : zmR (vD c x) := by
  unfold vD
  cases x.1 && zyY x == c with
  | true => exact h.held
  | false => exact (⟨Int.le_refl 0, by unfold U64; decide⟩ : zmR 0)
theorem z1g (x : zj) (c : Int) : zdT (x, c, ()) = some (vD c x, ()) := by
  simp only [zdT, zBB, vD, zyY]; grind
theorem zGl {a b : Int} : zMP a b = zya (a + b) := rfl
theorem z3M {l : List zj} (hl : l.length ≤ Go.maxLen) (h : ∀ x ∈ l, zoG x) (c : Int) : zjH (l, c, ()) = some (zyb l c) := by
  simp only [zjH, zvo]
  unfold zyb
  cases hc : jN c with
  | false => unfold jN at hc; grind
  | true =>
    have hloop := y3 (B := zjG zdT qj) (l := l) (α := Int) zP (fun _ s => 0 ≤ s ∧ s ≤ M62) (fun i s => (l, c, s, i)) (fun rest s => some (zya (s + qv (rest.map (vD c))))) hl (fun k i x rest s hi hI hx hm hr hk => by
      simp only [zjG]
      have hxx := zqV (h x hm) c
      have hrest : 0 ≤ qv (rest.map (vD c)) := vP fun y hy => (zqV (h y (by rw [← hr] at hy; exact List.mem_of_mem_drop hy)) c).1
      rw [ltT hi, zx hi, qh, hx, z1g]
      simp only [cond_true, Option.bind_some, List.map_cons, qv]
      rw [zjR (by unfold M62 at hI; unfold U64; omega) hxx, zGl, Option.bind_some]
      by_cases hb : s + vD c x > M62
      · rw [y4 hb, y4 (by omega)]; rfl
      · rw [zdE (by omega)]
        have := hk (s + vD c x) ⟨by have := hxx.1; omega, by omega⟩
        refine this.trans ?_
        rw [Int.add_assoc]) (fun k s hI => by
      simp only [zjG]; rw [ltF]
      simp only [cond_false, List.map_nil, qv, Int.add_zero]
      rw [zdE hI.2]) 0 (by unfold M62; omega)
    refine Eq.trans ?_ (hloop.trans ?_)
    · unfold jN at hc
      grind
    · rw [Int.zero_add]; rfl
def zeq (c : Int) (x : zn) : Int := bif x.1 && (x.2.2.2.1.1 : Int) == c then x.2.2.2.1.2.1 else 0
theorem zQC {l : List zn} (h : ∀ x ∈ l, zoD x) {c : Int} (hc : jN c = true) : zs0 l c = zya (qv (l.map (zeq c))) := by
  unfold zs0
  rw [hc, cond_true, zGk _ 0 (by unfold M62; omega) fun x hx => ?_, zKc, Int.zero_add]
  · rfl
  · obtain ⟨y, hy, rfl⟩ := List.mem_map.1 hx
    exact (h y (List.mem_filter.1 hy).1).1.1
theorem z1h {x : zn} (h : zoD x) (c : Int) : zmR (zeq c x) := by
  unfold zeq
  cases x.1 && (x.2.2.2.1.1 : Int) == c with
  | true => exact h.1
  | false => exact (⟨Int.le_refl 0, by unfold U64; decide⟩ : zmR 0)
def zbn (c : Int) (a : List Int) : Int := a.getD c.toNat 0
def zdj (c : Int) (x : zm) : Int := qv (x.2.2.2.2.1.map (zeq c)) + qv (x.2.2.2.2.2.1.map (zbn c))
theorem zMT {x : zm} (h : zLB x) (c : Int) : 0 ≤ qv (x.2.2.2.2.1.map (zeq c)) := vP fun y hy => (z1h (h.trades y hy) c).1
theorem zMU {x : zm} (h : zLB x) (c : Int) : 0 ≤ qv (x.2.2.2.2.2.1.map (zbn c)) := vP fun y hy => (zfF (h.purses y hy) _).1
theorem zqW {x : zm} (h : zLB x) (c : Int) : 0 ≤ zdj c x := by
  have := zMT h c
  have := zMU h c
  unfold zdj; omega
def zH4 (s : zf) (c : Int) : Int × Int × Unit := bif jN c then zya (qv (s.2.2.2.1.map (vD c)) + qv (s.2.1.map (zdj c))) else (0, 1, ())
structure zQT (s : zf) : Prop where
  shelves : s.2.1.length ≤ 8
  orders : s.2.2.2.1.length ≤ 24
  shelf : ∀ x ∈ s.2.1, x.2.2.2.2.1.length ≤ 12 ∧ x.2.2.2.2.2.1.length ≤ 8
theorem zH5 {c : Int} (hc : jN c = true) : 0 ≤ c ∧ c < ((4 : Nat) : Int) := by
  simp only [jN, decide_eq_true_eq] at hc; omega
theorem z3N {s : zf} (hs : zdC s) (sh : zQT s) (c : Int) : vk (s, c, ()) = some (zH4 s c) := by
  have hlm : 1000000 ≤ lim := by unfold lim; omega
  have hmm : 1000000 ≤ Go.maxLen := by unfold Go.maxLen; omega
  have hsh := sh.shelves
  have hso := sh.orders
  simp only [vk, zu4, zfE, Option.bind_some]
  rw [z5B (by omega) hs.orders]
  unfold zH4 zyb
  cases hc : jN c with
  | false => rfl
  | true =>
    have hcin := zH5 hc
    simp only [cond_true, Option.bind_some]
    have hbook : 0 ≤ qv (s.2.2.2.1.map (vD c)) := vP fun y hy => (zqV (hs.orders y hy) c).1
    have hall : 0 ≤ qv (s.2.1.map (zdj c)) := vP fun y hy => zqW (hs.shelves y hy) c
    have inner : ∀ k0 (i : Nat) (x : zm) (o : List Int), x.2.2.2.2.2.1.length ≤ 8 → o.length ≤ 10000 → zjx K0 k0 (c, s.2.1, (s.2.1.length : Int), (i : Int), x.2.2.2.2.2.1, (x.2.2.2.2.2.1.length : Int), 0, o) = k0 (c, s.2.1, (s.2.1.length : Int), wI ((i : Int) + 1), o ++ x.2.2.2.2.2.1.map (zbn c)) := fun k0 i x o hx ho =>
      y3 (B := fun k1 => zjw k0 k1) (l := x.2.2.2.2.2.1) (α := List Int) (zb (Ty.arr 4 tU)) (fun j o' => o'.length ≤ 10000 + j) (fun j o' => (c, s.2.1, (s.2.1.length : Int), (i : Int), x.2.2.2.2.2.1, (x.2.2.2.2.2.1.length : Int), j, o')) (fun rest o' => k0 (c, s.2.1, (s.2.1.length : Int), wI ((i : Int) + 1), o' ++ rest.map (zbn c))) (by omega) (fun k j a rest o' hj hI ha hm hr hk => by
        simp only [zjw]
        have h4 : ((4 : Int)) = ((4 : Nat) : Int) := rfl
        rw [ltT hj, zx hj, Int.toNat_natCast, ha, set1, decide_eq_true (by simp; omega)]
        simp only [cond_true]
        refine Eq.trans (ixR hcin) ?_
        refine (hk _ (by simp; omega)).trans ?_
        rw [List.append_assoc]; rfl) (fun k o' _ => by
        simp only [zjw]; rw [ltF]
        simp only [cond_false, List.map_nil, List.append_nil]) o ho
    by_cases hb : qv (s.2.2.2.1.map (vD c)) > M62
    · rw [y4 hb, y4 (by omega)]; rfl
    · rw [zdE (by omega)]
      have hloop := y3 (B := fun k0 => zeF zfe jY (zjx K0 k0) k0) (l := s.2.1) (α := List Int) za (fun i o => o.length ≤ 1 + 9 * i ∧ ∀ x ∈ o, 0 ≤ x ∧ x < U64) (fun i o => (c, s.2.1, (s.2.1.length : Int), i, o)) (fun rest o => some (zya (qv o + qv (rest.map (zdj c))))) (by omega) (fun k i x rest o hi hI hx hm hr hk => by
        simp only [zeF]
        have hin := hs.shelves x hm
        have hlen := sh.shelf x hm
        have h1 := zMT hin c
        have h2 := zMU hin c
        have ho : 0 ≤ qv o := zMS fun y hy => (hI.2 y hy).1
        have hrest : 0 ≤ qv (rest.map (zdj c)) := vP fun y hy => zqW (hs.shelves y (by rw [← hr] at hy; exact List.mem_of_mem_drop hy)) c
        rw [ltT hi, zx hi, qh, hx, z3D (by omega) hin.trades, zQC hin.trades hc]
        simp only [cond_true, Option.bind_some, List.map_cons, qv, zdj]
        by_cases hb : qv (x.2.2.2.2.1.map (zeq c)) > M62
        · rw [y4 hb, y4 (by omega)]; rfl
        · rw [zdE (by omega), set1, inner k i x _ (by omega) (by simp; omega)]
          rw [decide_eq_true (by simp; omega)]
          simp only [bne_self_eq_false, cond_true, cond_false]
          refine (hk _ ⟨by simp; omega, fun y hy => ?_⟩).trans ?_
          · rcases List.mem_append.1 hy with hy | hy
            · rcases List.mem_append.1 hy with hy | hy
              · exact hI.2 y hy
              · rcases List.mem_singleton.1 hy with rfl
                unfold M62 at hb; unfold U64; omega
            · obtain ⟨a, ha, rfl⟩ := List.mem_map.1 hy
              exact zfF (hin.purses a ha) _
          · rw [zTX, zTX]
            simp only [qv]
            congr 2; omega) (fun k o hI => by
        simp only [zeF]
        rw [ltF]
        simp only [cond_false]
        rw [zCr (by omega) hI.2, zGk o 0 (by unfold M62; omega) fun y hy => (hI.2 y hy).1]
        simp only [List.map_nil, qv, Int.add_zero, Int.zero_add]
        rfl) [qv (s.2.2.2.1.map (vD c))] ⟨by simp, fun y hy => by
          rcases List.mem_singleton.1 hy with rfl
          unfold M62 at hb; unfold U64; omega⟩
      refine hloop.trans ?_
      simp only [qv, Int.add_zero]
theorem z3O {s : zf} (hs : zdC s) (sh : zQT s) (c : Int) : zbN (s, c, ()) = some (zH4 s c) := by
  have hmm : 1000000 ≤ Go.maxLen := by unfold Go.maxLen; omega
  have hsh := sh.shelves
  have hso := sh.orders
  simp only [zbN, zvq]
  rw [z3M (by omega) hs.orders]
  unfold zH4 zyb
  cases hc : jN c with
  | false => rfl
  | true =>
    have hcin := zH5 hc
    simp only [cond_true, Option.bind_some]
    have hbook : 0 ≤ qv (s.2.2.2.1.map (vD c)) := vP fun y hy => (zqV (hs.orders y hy) c).1
    have hall : 0 ≤ qv (s.2.1.map (zdj c)) := vP fun y hy => zqW (hs.shelves y hy) c
    have inner : ∀ k0 (i : Nat) (a : Int), i < s.2.1.length → 0 ≤ a ∧ a ≤ M62 → zjM qj K0 k0 (c, a, (i : Int), 0, s) = bif decide (a + qv ((s.2.1.getD i za).2.2.2.2.2.1.map (zbn c)) > M62) then some (0, 7, ()) else k0 (c, a + qv ((s.2.1.getD i za).2.2.2.2.2.1.map (zbn c)), wI ((i : Int) + 1), s) := fun k0 i a hi ha => by
      have hlen := sh.shelf _ (qQ (d := za) hi)
      have hin := hs.shelves _ (qQ (d := za) hi)
      exact y3 (B := fun k1 => zjL qj k0 k1) (l := (s.2.1.getD i za).2.2.2.2.2.1) (α := Int) (zb (Ty.arr 4 tU)) (fun j a => 0 ≤ a ∧ a ≤ M62) (fun j a => (c, a, (i : Int), j, s)) (fun rest a => bif decide (a + qv (rest.map (zbn c)) > M62) then some (0, 7, ()) else k0 (c, a + qv (rest.map (zbn c)), wI ((i : Int) + 1), s)) (by omega) (fun k j y rest a hj hI hy hm hr hk => by
        have hyy := zfF (hin.purses y hm) c.toNat
        have hrest : 0 ≤ qv (rest.map (zbn c)) := vP fun z hz => (zfF (hin.purses z (by rw [← hr] at hz; exact List.mem_of_mem_drop hz)) _).1
        simp only [zjL]
        simp only [zx hi, qh]
        rw [ltT hj, zx hj, hy]
        simp only [cond_true, List.map_cons, qv]
        refine Eq.trans (ixR hcin) ?_
        rw [zjR (by unfold M62 at hI; unfold U64; omega) hyy, zGl, Option.bind_some]
        have hp : zbn c y = List.getD y c.toNat 0 := rfl
        rw [hp]
        by_cases hb : a + List.getD y c.toNat 0 > M62
        · rw [y4 hb, decide_eq_true (by omega)]; rfl
        · rw [zdE (by omega)]
          have := hk (a + List.getD y c.toNat 0) ⟨by have := hyy.1; omega, by omega⟩
          refine this.trans ?_
          rw [Int.add_assoc]) (fun k a hI => by
        simp only [zjL]
        simp only [zx hi, qh]
        rw [ltF]
        simp only [cond_false, List.map_nil, qv, Int.add_zero]
        rw [decide_eq_false (by omega)]; rfl) a ha
    by_cases hb : qv (s.2.2.2.1.map (vD c)) > M62
    · rw [y4 hb, y4 (by omega)]; rfl
    · rw [zdE (by omega)]
      have hloop := y3 (B := fun k0 => zeN zfD qj (zjM qj K0 k0) k0) (l := s.2.1) (α := Int) za (fun i a => 0 ≤ a ∧ a ≤ M62) (fun i a => (c, a, i, s)) (fun rest a => some (zya (a + qv (rest.map (zdj c))))) (by omega) (fun k i x rest a hi hI hx hm hr hk => by
        simp only [zeN]
        have hin := hs.shelves x hm
        have hlen := sh.shelf x hm
        have h1 := zMT hin c
        have h2 := zMU hin c
        have hrest : 0 ≤ qv (rest.map (zdj c)) := vP fun y hy => zqW (hs.shelves y (by rw [← hr] at hy; exact List.mem_of_mem_drop hy)) c
        have hinn := fun a ha => inner k i a hi ha
        rw [hx] at hinn
        rw [ltT hi, zx hi, qh, hx, z3E (by omega) hin.trades, zQC hin.trades hc]
        simp only [cond_true, Option.bind_some, List.map_cons, qv, zdj]
        by_cases hb : qv (x.2.2.2.2.1.map (zeq c)) > M62
        · rw [y4 hb, y4 (by omega)]; rfl
        · rw [zdE (by omega), zjR (by unfold M62 at hI; unfold U64; omega) (by unfold M62 at hb; unfold U64; omega), zGl, Option.bind_some]
          by_cases hb2 : a + qv (x.2.2.2.2.1.map (zeq c)) > M62
          · rw [y4 hb2, y4 (by omega)]; rfl
          · rw [zdE (by omega), hinn _ (by omega)]
            simp only [bne_self_eq_false, cond_false]
            by_cases hb3 : a + qv (x.2.2.2.2.1.map (zeq c)) + qv (x.2.2.2.2.2.1.map (zbn c)) > M62
            · rw [decide_eq_true hb3, y4 (by omega)]; rfl
            · rw [decide_eq_false hb3, cond_false]
              refine (hk _ (by omega)).trans ?_
              congr 2; omega) (fun k a hI => by
        simp only [zeN]
        rw [ltF]
        simp only [cond_false, List.map_nil, qv, Int.add_zero]
        rw [zdE hI.2]) (qv (s.2.2.2.1.map (vD c))) (by omega)
      exact hloop
end Go.Proofs.YtaokpakfhdeiiaaGreatDoor
end
section
namespace Go.Proofs.YtaokpakfhdeiiaaGreatDoor
open Go.Ev
set_option linter.unusedVariables false
set_option linter.unusedSimpArgs false
def zGm (a b : Int) : Int × Int × Unit := bif decide (a < b) then (0, 6, ()) else (a - b, 0, ())
theorem z3P {a b : Int} (ha : 0 ≤ a ∧ a ≤ M62) (hb : 0 ≤ b ∧ b ≤ M62) : zjB (a, b, ()) = some (zGm a b) := by
  simp only [zjB, zFF, zH7, zLF, zGm, cond_false]
  unfold M62 at *
  have h2 : b ≤ a → (a - b) % 18446744073709551616 = a - b := fun h => by omega
  grind
theorem z1i {a b : Int} (ha : 0 ≤ a ∧ a ≤ M62) (hb : 0 ≤ b ∧ b ≤ M62) : yO (a, b, ()) = some (zGm a b) := by
  simp only [yO, zBC, zGm]
  unfold M62 at *
  by_cases h : b > a
  · grind
  · have hw : wU (a - b) = a - b := zvA (by omega)
    rw [hw]; grind
def zyc (f : zm → List Int) (s : zf) (c : Int) : Int := qv (s.2.1.map fun x => zbn c (f x))
theorem zMV {f : zm → List Int} {s : zf} (h : ∀ x ∈ s.2.1, zMQ (f x)) (c : Int) : 0 ≤ zyc f s c := vP fun y hy => (zfF (h y hy) _).1
theorem z3Q {s : zf} (sh : zQT s) {f : zm → List Int} {g : zm × Unit → Option (List Int × Unit)} (hg : ∀ x, g (x, ()) = some (f x, ())) (h : ∀ x ∈ s.2.1, zMQ (f x)) {c : Int} (hc : jN c = true) : zjy (s, c, some g, ()) = some (zya (zyc f s c)) := by
  have hlm : 1000000 ≤ lim := by unfold lim; omega
  have hmm : 1000000 ≤ Go.maxLen := by unfold Go.maxLen; omega
  have hsh := sh.shelves
  have hcin := zH5 hc
  have hloop := y3 (B := zfg jY) (l := s.2.1) (α := List Int) za (fun i o => o.length ≤ i ∧ ∀ x ∈ o, 0 ≤ x ∧ x < U64) (fun i o => (c, some g, s.2.1, (s.2.1.length : Int), i, o)) (fun rest o => some (zx2 0 (o ++ rest.map fun x => zbn c (f x)))) (by omega) (fun k i x rest o hi hI hx hm hr hk => by
    simp only [zfg]
    rw [ltT hi, zx hi, qh, hx]
    simp only [cond_true, Option.bind_some]
    rw [hg]
    simp only [Option.bind_some]
    refine Eq.trans (ixR hcin) ?_
    rw [set1, decide_eq_true (by simp; omega)]
    simp only [cond_true]
    refine (hk _ ⟨by simp; omega, fun y hy => ?_⟩).trans ?_
    · rcases List.mem_append.1 hy with hy | hy
      · exact hI.2 y hy
      · rcases List.mem_singleton.1 hy with rfl
        exact zfF (h x hm) _
    · rw [List.append_assoc]; rfl) (fun k o hI => by
    simp only [zfg]
    rw [ltF]
    simp only [cond_false]
    rw [zCr (by omega) hI.2, List.map_nil, List.append_nil]
    rfl) [] ⟨Nat.le_refl _, fun x hx => by cases hx⟩
  refine Eq.trans ?_ (hloop.trans ?_)
  · rfl
  · rw [List.nil_append, zGk _ 0 (by unfold M62; omega) fun y hy => ?_, Int.zero_add]
    · rfl
    · obtain ⟨z, hz, rfl⟩ := List.mem_map.1 hy
      exact (zfF (h z hz) _).1
def zH6 (s : zf) (c : Int) : Int × Int × Unit := bif jN c then bif decide (zyc (fun x => x.2.2.2.2.2.2.2.1) s c > M62) then (0, 7, ()) else bif decide (zyc (fun x => x.2.2.2.2.2.2.2.2.1) s c > M62) then (0, 7, ()) else zGm (zyc (fun x => x.2.2.2.2.2.2.2.1) s c) (zyc (fun x => x.2.2.2.2.2.2.2.2.1) s c) else (0, 1, ())
theorem z3R {s : zf} (hs : zdC s) (sh : zQT s) (c : Int) : vl (s, c, ()) = some (zH6 s c) := by
  simp only [vl, zFH, zfE, Option.bind_some]
  unfold zH6
  cases hc : jN c with
  | false => rfl
  | true =>
    have p1 := zMV (f := fun x => x.2.2.2.2.2.2.2.1) (fun x hx => (hs.shelves x hx).made) c
    have p2 := zMV (f := fun x => x.2.2.2.2.2.2.2.2.1) (fun x hx => (hs.shelves x hx).spent) c
    rw [z3Q sh (f := fun x => x.2.2.2.2.2.2.2.1) (g := zjz) (fun x => rfl) (fun x hx => (hs.shelves x hx).made) hc, z3Q sh (f := fun x => x.2.2.2.2.2.2.2.2.1) (g := zjA) (fun x => rfl) (fun x hx => (hs.shelves x hx).spent) hc]
    simp only [cond_true, Option.bind_some]
    generalize zyc (fun x => x.2.2.2.2.2.2.2.1) s c = a at *
    generalize zyc (fun x => x.2.2.2.2.2.2.2.2.1) s c = b at *
    by_cases h1 : a > M62
    · rw [y4 h1, decide_eq_true h1]; rfl
    · rw [zdE (by omega), decide_eq_false h1]
      by_cases h2 : b > M62
      · rw [y4 h2, decide_eq_true h2]; rfl
      · rw [zdE (by omega), decide_eq_false h2]
        simp only [bne_self_eq_false, cond_false]
        rw [z3P (by omega) (by omega)]; rfl
theorem z3S {s : zf} (hs : zdC s) (sh : zQT s) (c : Int) : zbO (s, c, ()) = some (zH6 s c) := by
  have hmm : 1000000 ≤ Go.maxLen := by unfold Go.maxLen; omega
  have hsh := sh.shelves
  simp only [zbO, zvs]
  unfold zH6
  cases hc : jN c with
  | false => unfold jN at hc; grind
  | true =>
    have hcin := zH5 hc
    have p1 := zMV (f := fun x => x.2.2.2.2.2.2.2.1) (fun x hx => (hs.shelves x hx).made) c
    have p2 := zMV (f := fun x => x.2.2.2.2.2.2.2.2.1) (fun x hx => (hs.shelves x hx).spent) c
    have l1 : ∀ (a b e : Int), 0 ≤ a ∧ a ≤ M62 → ((e = 0 ∧ 0 ≤ b ∧ b ≤ M62) ∨ e = 7) → zeO qj yO K0 (c, a, b, e, 0, s) = bif e == 0 then (bif decide (b + zyc (fun x => x.2.2.2.2.2.2.2.2.1) s c > M62) then some (0, 7, ()) else some (zGm a (b + zyc (fun x => x.2.2.2.2.2.2.2.2.1) s c))) else some (0, 7, ()) := fun a b e ha he =>
      y3 (B := zjP qj yO) (l := s.2.1) (α := Int × Int) za (fun _ st => (st.2 = 0 ∧ 0 ≤ st.1 ∧ st.1 ≤ M62) ∨ st.2 = 7) (fun i st => (c, a, st.1, st.2, i, s)) (fun rest st => bif st.2 == 0 then (bif decide (st.1 + qv (rest.map fun x => zbn c x.2.2.2.2.2.2.2.2.1) > M62) then some (0, 7, ()) else some (zGm a (st.1 + qv (rest.map fun x => zbn c x.2.2.2.2.2.2.2.2.1)))) else some (0, 7, ())) (by omega) (fun k i x rest st hi hI hx hm hr hk => by
        obtain ⟨b, e⟩ := st
        have hrest : 0 ≤ qv (rest.map fun x : zm => zbn c x.2.2.2.2.2.2.2.2.1) := vP fun y hy => (zfF (hs.shelves y (by rw [← hr] at hy; exact List.mem_of_mem_drop hy)).spent _).1
        simp only [zjP]
        rw [ltT hi, zx hi, qh, hx]
        rcases hI with ⟨h0, hb⟩ | h7
        · simp only at h0 hb
          subst h0
          have hxx := zfF (hs.shelves x hm).spent c.toNat
          simp only [beq_self_eq_true, cond_true, List.map_cons, qv, zbn]
          refine Eq.trans (ixR hcin) ?_
          rw [zjR (by unfold M62 at hb; unfold U64; omega) hxx, zGl, Option.bind_some]
          by_cases hh : b + List.getD x.2.2.2.2.2.2.2.2.1 c.toNat 0 > M62
          · rw [y4 hh]
            unfold zbn at hrest
            rw [decide_eq_true (by omega)]
            exact hk (0, 7) (.inr rfl)
          · rw [zdE (by omega)]
            have := hk (b + List.getD x.2.2.2.2.2.2.2.2.1 c.toNat 0, 0) (.inl ⟨rfl, by have := hxx.1; show 0 ≤ b + _ ∧ b + _ ≤ M62; omega⟩)
            refine this.trans ?_
            simp only [beq_self_eq_true, cond_true]
            rw [Int.add_assoc]; rfl
        · simp only at h7
          subst h7
          rfl) (fun k st hI => by
        obtain ⟨b, e⟩ := st
        simp only [zjP]
        rw [ltF]
        rcases hI with ⟨h0, hb⟩ | h7
        · simp only at h0 hb
          subst h0
          simp only [bne_self_eq_false, cond_false, beq_self_eq_true, cond_true, List.map_nil, qv, Int.add_zero]
          rw [z1i ha hb, decide_eq_false (by omega)]
          rfl
        · simp only at h7
          subst h7
          rfl) (b, e) he
    have l0 := y3 (B := fun k0 => zeP qj (zeO qj yO K0) k0) (l := s.2.1) (α := Int × Int) za (fun _ st => (st.2 = 0 ∧ 0 ≤ st.1 ∧ st.1 ≤ M62) ∨ (st.2 = 7 ∧ st.1 = 0)) (fun i st => (c, st.1, 0, st.2, i, s)) (fun rest st => bif st.2 == 0 then (bif decide (st.1 + qv (rest.map fun x => zbn c x.2.2.2.2.2.2.2.1) > M62) then some (0, 7, ()) else zeO qj yO K0 (c, st.1 + qv (rest.map fun x => zbn c x.2.2.2.2.2.2.2.1), 0, 0, 0, s)) else some (0, 7, ())) (by omega) (fun k i x rest st hi hI hx hm hr hk => by
        obtain ⟨a, e⟩ := st
        have hrest : 0 ≤ qv (rest.map fun x : zm => zbn c x.2.2.2.2.2.2.2.1) := vP fun y hy => (zfF (hs.shelves y (by rw [← hr] at hy; exact List.mem_of_mem_drop hy)).made _).1
        simp only [zeP]
        rw [ltT hi, zx hi, qh, hx]
        rcases hI with ⟨h0, hb⟩ | ⟨h7, ha⟩
        · simp only at h0 hb
          subst h0
          have hxx := zfF (hs.shelves x hm).made c.toNat
          simp only [beq_self_eq_true, cond_true, List.map_cons, qv, zbn]
          refine Eq.trans (ixR hcin) ?_
          rw [zjR (by unfold M62 at hb; unfold U64; omega) hxx, zGl, Option.bind_some]
          by_cases hh : a + List.getD x.2.2.2.2.2.2.2.1 c.toNat 0 > M62
          · rw [y4 hh]
            unfold zbn at hrest
            rw [decide_eq_true (by omega)]
            exact hk (0, 7) (.inr ⟨rfl, rfl⟩)
          · rw [zdE (by omega)]
            have := hk (a + List.getD x.2.2.2.2.2.2.2.1 c.toNat 0, 0) (.inl ⟨rfl, by have := hxx.1; show 0 ≤ a + _ ∧ a + _ ≤ M62; omega⟩)
            refine this.trans ?_
            simp only [beq_self_eq_true, cond_true]
            rw [Int.add_assoc]; rfl
        · simp only at h7 ha
          subst h7
          subst ha
          simp only [cond_true]
          refine (l1 0 0 7 (by unfold M62; omega) (.inr rfl)).trans ?_
          rfl) (fun k st hI => by
        obtain ⟨a, e⟩ := st
        simp only [zeP]
        rw [ltF]
        rcases hI with ⟨h0, hb⟩ | ⟨h7, ha⟩
        · simp only at h0 hb
          subst h0
          simp only [cond_false, beq_self_eq_true, cond_true, List.map_nil, qv, Int.add_zero]
          rw [decide_eq_false (by omega)]; rfl
        · simp only at h7 ha
          subst h7
          subst ha
          refine (l1 0 0 7 (by unfold M62; omega) (.inr rfl)).trans ?_
          rfl) (0, 0) (.inl ⟨rfl, by show (0:Int) ≤ 0 ∧ (0:Int) ≤ M62; unfold M62; omega⟩)
    refine Eq.trans ?_ (l0.trans ?_)
    · unfold jN at hc; grind
    · simp only [beq_self_eq_true, cond_true]
      have e1 : (0 : Int) + qv (s.2.1.map fun x : zm => zbn c x.2.2.2.2.2.2.2.1) = zyc (fun x => x.2.2.2.2.2.2.2.1) s c := by rw [Int.zero_add]; rfl
      rw [e1]
      by_cases h1 : zyc (fun x => x.2.2.2.2.2.2.2.1) s c > M62
      · rw [decide_eq_true h1]; rfl
      · rw [decide_eq_false h1, cond_false, cond_false, l1 _ 0 0 (by omega) (.inl ⟨rfl, by unfold M62; omega⟩), Int.zero_add]
        simp only [beq_self_eq_true, cond_true]
        cases decide (zyc (fun x => x.2.2.2.2.2.2.2.2.1) s c > M62) <;> rfl
end Go.Proofs.YtaokpakfhdeiiaaGreatDoor
end
section
namespace Go.Proofs.YtaokpakfhdeiiaaGreatDoor
open Go.Ev
set_option linter.unusedVariables false
set_option linter.unusedSimpArgs false
def zyr (r : ze) (s : zf) (c i : Nat) : Bool := !decide (((s.2.1.getD i za).2.2.2.2.2.2.2.1.getD c 0 : Int) > (r.2.2.2.2.1.getD i jl).2.2.2.2.2.1)
def zyZ (s : zf) (c : Int) : Bool := (zH4 s c).2.1 == 0 && ((zH6 s c).2.1 == 0 && (zH4 s c).1 == (zH6 s c).1)
def zy0 (r : ze) (s : zf) : Bool := zaC r && (zqm r s && (zs2 r s && (qg (fun i => (yp (s.2.1.getD i za) && zGj r s i (s.2.1.getD i za)) && qg (fun c => zyr r s c i) 0 (4 - 0)) 0 (s.2.1.length - 0) && qg (fun c => zyZ s (c : Int)) 0 (4 - 0))))
theorem z8h {r : ze} {s : zf} (ok : zoF r) (sz : zjS r s) : zQT s := by
  refine ⟨?_, sz.orders, fun x hx => ?_⟩
  · rw [sz.shelves]; exact ok.labels.2
  · have h1 := sz.shelf x hx
    have h2 := ok.accounts
    omega
theorem z1j {r : ze} {s : zf} (ok : zoF r) (hs : zdC s) (sz : zjS r s) : zgp ((r, s, ()), ()) = some (qg (fun c => qg (fun i => zyr r s c i) 0 (s.2.1.length - 0) && zyZ s (c : Int)) 0 (4 - 0), ()) := by
  rw [zM]
  have hmm : 1000000 ≤ Go.maxLen := by unfold Go.maxLen; omega
  have sh := z8h ok sz
  have hsh := sh.shelves
  have h2 := sz.shelves
  have h3 := ok.quotas
  have inner : ∀ k0 (c : Nat), c < 4 → zg2 vk vl K0 k0 ((c : Int), (c : Int), s.2.1, (s.2.1.length : Int), 0, (r, s, ())) = bif qg (fun i => zyr r s c i) 0 (s.2.1.length - 0) then bif zyZ s (c : Int) then k0 (wI ((c : Int) + 1), (r, s, ())) else some (false, ()) else some (false, ()) := fun k0 c hc =>
    qx (B := fun k1 => zg1 vk vl k0 k1) (i0 := 0) (n := s.2.1.length) (by omega) (Nat.zero_le _) (fun i => ((c : Int), (c : Int), s.2.1, (s.2.1.length : Int), i, (r, s, ()))) (fun k i _ hi => by
      simp only [zg1]
      rw [ltT hi, zx hi, qh, Int.toNat_natCast]
      simp only [cond_true]
      refine Eq.trans (zx (n := 4) hc) ?_
      rw [zx (by omega), qh]
      unfold zyr
      grind) (fun k => by
      simp only [zg1]
      rw [ltF, z3N hs sh, z3R hs sh]
      simp only [Option.bind_some, cond_false, zyZ]
      generalize zH4 s (c : Int) = h
      generalize zH6 s (c : Int) = m
      grind)
  exact qx (B := fun k0 => zg3 (zg2 vk vl K0 k0) k0) (i0 := 0) (n := 4) (by omega) (Nat.zero_le _) (fun c => (c, (r, s, ()))) (fun k c _ hc => by
    simp only [zg3]
    rw [decide_eq_true (by omega), cond_true]
    refine (inner k c hc).trans ?_
    cases qg (fun i => zyr r s c i) 0 (s.2.1.length - 0) <;> rfl) (fun k => rfl)
theorem z1k {r : ze} {s : zf} (hr : vg r) (hs : zdC s) : zgw (r, s, ()) = some (zy0 r s, ()) := by
  rw [zM]
  have hmm : 1000000 ≤ Go.maxLen := by unfold Go.maxLen; omega
  simp only [zgw, zqU, zOc r hr, Option.bind_some]
  unfold zy0
  cases hb : zaC r with
  | false => rfl
  | true =>
    rw [z1b hb s, Option.bind_some]
    cases hz : zqm r s with
    | false => rfl
    | true =>
      have ok := zhP hb
      have sz := zY7 hb hz
      have sh := z8h ok sz
      have hsh := sh.shelves
      have h2 := sz.shelves
      have h3 := ok.quotas
      rw [zYv hr hb hs sz, Option.bind_some]
      cases hp : zs2 r s with
      | false => rfl
      | true =>
        have l2 : zhL zbN zbO K0 (0, s) = bif qg (fun c => zyZ s (c : Int)) 0 (4 - 0) then some (true, ()) else some (false, ()) :=
          qx (i0 := 0) (n := 4) (by omega) (Nat.zero_le _) (fun c => (c, s)) (fun k c _ hc => by
            simp only [zvt]
            rw [decide_eq_true (by omega), z3O hs sh, z3S hs sh]
            simp only [Option.bind_some, cond_true, zyZ]
            generalize zH4 s (c : Int) = h
            generalize zH6 s (c : Int) = m
            grind) (fun k => rfl)
        have l1 : ∀ k0 (i : Nat), i < s.2.1.length → zmQ K0 k0 ((i : Int), 0, r, s) = bif qg (fun c => zyr r s c i) 0 (4 - 0) then k0 (wI ((i : Int) + 1), r, s) else some (false, ()) := fun k0 i hi =>
          qx (B := fun k1 => zmP k0 k1) (i0 := 0) (n := 4) (by omega) (Nat.zero_le _) (fun c => ((i : Int), c, r, s)) (fun k c _ hc => by
            simp only [zmP]
            rw [decide_eq_true (by omega), zx hi, zx (by omega), qh, qh, Int.toNat_natCast]
            simp only [cond_true]
            refine Eq.trans (zx (n := 4) hc) ?_
            unfold zyr
            grind) (fun k => rfl)
        have l0 : zvu zb6 zbN zbO K0 (0, r, s) = bif qg (fun i => (yp (s.2.1.getD i za) && zGj r s i (s.2.1.getD i za)) && qg (fun c => zyr r s c i) 0 (4 - 0)) 0 (s.2.1.length - 0) then zhL zbN zbO K0 (0, s) else some (false, ()) :=
          qx (i0 := 0) (n := s.2.1.length) (by omega) (Nat.zero_le _) (fun i => (i, r, s)) (fun k i _ hi => by
            simp only [zhM]
            rw [ltT hi, z1f hr ok hs sz hi]
            have := l1 k i hi
            rw [this]
            simp only [Option.bind_some, cond_true]
            generalize (yp (s.2.1.getD i za) && zGj r s i (s.2.1.getD i za)) = u
            cases u <;> rfl) (fun k => by simp only [zhM]; rw [ltF]; rfl)
        simp only [cond_true, Bool.true_and]
        rw [l0, l2]
        grind
def z3T (r : ze) (s : zf) : Bool := zaC r && (zqm r s && (s.2.1.all yp && (zs2 r s && (qg (fun i => zLC r s (i : Int) (s.2.1.getD i za)) 0 (s.2.1.length - 0) && (qg (fun i => zlJ r (i : Int) (s.2.1.getD i za)) 0 s.2.1.length && (qg (fun i => zGi (s.2.1.getD i za)) 0 (s.2.1.length - 0) && qg (fun c => qg (fun i => zyr r s c i) 0 (s.2.1.length - 0) && zyZ s (c : Int)) 0 (4 - 0)))))))
theorem z8i (r : ze) (s : zf) : z3T r s = zy0 r s := by
  rw [Bool.eq_iff_iff]
  unfold z3T zy0 zGj
  simp only [Bool.and_eq_true, vJ, @zTW zm za]
  constructor
  · rintro ⟨h1, h2, h3, h4, h5, h6, h7, h8⟩
    exact ⟨h1, h2, h4, fun i hi1 hi => ⟨⟨h3 i (by omega), h5 i hi1 hi, h6 i hi1 (by omega), h7 i hi1 hi⟩, fun c hc1 hc => (h8 c hc1 hc).1 i hi1 hi⟩, fun c hc1 hc => (h8 c hc1 hc).2⟩
  · rintro ⟨h1, h2, h4, h5, h6⟩
    exact ⟨h1, h2, fun i hi => (h5 i (by omega) (by omega)).1.1, h4, fun i h7 h8 => (h5 i h7 h8).1.2.1, fun i h7 h8 => (h5 i h7 (by omega)).1.2.2.1, fun i h7 h8 => (h5 i h7 h8).1.2.2.2, fun c h7 h8 => ⟨fun i h9 h10 => (h5 i h9 h10).2 c h7 h8, h6 c h7 h8⟩⟩
theorem z1l {r : ze} {s : zf} (hr : vg r) (hs : zdC s) : jg (r, s, ()) = some (zy0 r s, ()) := by
  rw [← z8i, zM]
  obtain ⟨m, hm⟩ := zQQ
  have first : jg (r, s, ()) = iter zmC K0 (true, 7, 0, [some fun z => zdN ((r, s, ()), ()), some fun z => zdO ((r, s, ()), ()), some fun z => zcu ((r, s, ()), ()), some fun z => zgm ((r, s, ()), ()), some fun z => zcw ((r, s, ()), ()), some fun z => zgn ((r, s, ()), ()), some fun z => zgp ((r, s, ()), ())]) := rfl
  have hu : ∀ (f1 f2 f3 f4 f5 f6 f7 : Option (Bool × Unit)), iter zmC (m + 8) (true, 7, 0, [some fun z => f1, some fun z => f2, some fun z => f3, some fun z => f4, some fun z => f5, some fun z => f6, some fun z => f7]) =
    Option.bind f1 fun q => bif q.1 then Option.bind f2 fun q => bif q.1 then Option.bind f3 fun q => bif q.1 then Option.bind f4 fun q => bif q.1 then Option.bind f5 fun q => bif q.1 then Option.bind f6 fun q => bif q.1 then Option.bind f7 fun q => bif q.1 then some (true, ()) else some (false, ()) else some (false, ()) else some (false, ()) else some (false, ()) else some (false, ()) else some (false, ()) else some (false, ()) := fun f1 f2 f3 f4 f5 f6 f7 => by kernel_rfl
  rw [first, hm, hu, z1a hr s, Option.bind_some]
  unfold z3T
  cases hb : zaC r with
  | false => rfl
  | true =>
    cases hz : zqm r s with
    | false => rfl
    | true =>
      have ok := zhP hb
      have sz := zY7 hb hz
      rw [z1c ok sz, zYu hr hb hs sz, z1d hr ok sz, zYx hr ok sz, z1e ok sz, z1j ok hs sz]
      simp only [Option.bind_some, Bool.true_and, cond_true]
      generalize s.2.1.all yp = c1
      generalize zs2 r s = c2
      generalize qg (fun i => zLC r s (i : Int) (s.2.1.getD i za)) 0 (s.2.1.length - 0) = c3
      generalize qg (fun i => zlJ r (i : Int) (s.2.1.getD i za)) 0 s.2.1.length = c4
      generalize qg (fun i => zGi (s.2.1.getD i za)) 0 (s.2.1.length - 0) = c5
      generalize qg (fun c => qg (fun i => zyr r s c i) 0 (s.2.1.length - 0) && zyZ s (c : Int)) 0 (4 - 0) = c6
      cases c1 <;> cases c2 <;> cases c3 <;> cases c4 <;> cases c5 <;> cases c6 <;> rfl
def zWJ (r : ze) (x : pMe) : Bool := decide (0 ≤ x.1 ∧ x.1 < (r.2.1.length : Int)) && ((x.2.1 : Int) == r.2.1.getD x.1.toNat 0 && zkR r x.2.2.1)
theorem z3U {r : ze} {s : zf} (hr : vg r) (hs : zdC s) (x : pMe) : zjD (r, s, x, ()) = some (zy0 r s && zWJ r x, ()) := by
  rw [zM]
  simp only [zjD, zFW, z1l hr hs, Option.bind_some, zWJ, ix, zkR]
  cases zy0 r s with
  | false => rfl
  | true =>
    by_cases h : 0 ≤ x.1 ∧ x.1 < (r.2.1.length : Int)
    · rw [ixR h]; grind
    · grind
theorem z3V (r : ze) (x : pMe) : zjQ (r, x, ()) = some (zWJ r x, ()) := by
  rw [zM]
  simp only [zjQ, zF7, zWJ, ix, ziv, Option.bind_some]
  by_cases h : 0 ≤ x.1 ∧ x.1 < (r.2.1.length : Int)
  · rw [ixR h]; grind
  · grind
end Go.Proofs.YtaokpakfhdeiiaaGreatDoor
end
section
namespace Go.Proofs.YtaokpakfhdeiiaaGreatDoor
open Go.Ev
set_option linter.unusedVariables false
noncomputable section
section
variable (zBH : zM2) (zGn : zO4) (zqX : zM1) (zvF : zO5)
def zvG : (ze × (zf × (pMe × Unit))) → Option (Bool × Unit) := fun (x0, x1, x2, ()) =>
  Option.bind (zBH ()) fun q0 => bif q0.1 then Option.bind (zGn (x0, x1, x2, ())) fun q1 => bif q1.1 then Option.bind (zqX (x0, x1, ())) fun q2 => bif q2.1 then Option.bind (zvF (x0, x2, ())) fun q3 => bif q3.1 then some (true, ()) else some (false, ()) else some (false, ()) else Option.bind (zqX (x0, x1, ())) fun q4 => bif q4.1 then Option.bind (zvF (x0, x2, ())) fun q5 => bif q5.1 then some (false, ()) else some (true, ()) else some (true, ()) else some (false, ())
theorem zWK (K : Nat) : evF (En E0 false [zwg zBH, zzk zGn, zwd zqX, zzl zvF]) K Tryz.f6 0 zmr zs9 = zvG zBH zGn zqX zvF := funext fun (x0, x1, x2, ()) => by kernel_rfl
end
def zmS : zUB := zvG zgr zjD zgw zjQ
theorem zWL : Sd Tryz.prog E0 (zSu zmS) := mkS (l := [zwg zgr, zzk zjD, zwd zgw, zzl zjQ]) ⟨zZ5, z2Z, z0O, z3l, trivial⟩ Tryz.func6 (by kernel_rfl) (zWK zgr zjD zgw zjQ K0)
end
end Go.Proofs.YtaokpakfhdeiiaaGreatDoor
end
section
namespace Go.Proofs.YtaokpakfhdeiiaaGreatDoor
open Go.Ev
set_option linter.unusedVariables false
set_option linter.unusedSimpArgs false
def cpy {α : Type} (x : List α × Unit) : Option (List α × Unit) := bif decide (List.length x.1 ≤ lim) then some (x.1, ()) else none
theorem zgy {τ : Ty} {f : List τ.I × Unit → Option (List τ.I × Unit)} (hf : ∀ l, f (l, ()) = bif List.isEmpty l then both (some ([], ())) (bif decide (List.length (List.replicate 0 (zb τ)) + List.length l ≤ lim) then some (List.replicate 0 (zb τ) ++ l, ()) else none) else bif decide (List.length (List.replicate 0 (zb τ)) + List.length l ≤ lim) then some (List.replicate 0 (zb τ) ++ l, ()) else none) : f = cpy := by
  funext ⟨l, u⟩
  cases u
  rw [hf]
  have e0 : List.length (List.replicate 0 (zb τ)) + List.length l = List.length l := by simp
  have e1 : List.replicate 0 (zb τ) ++ l = l := rfl
  rw [e0, e1]
  unfold cpy
  cases l with
  | nil =>
    have : decide (List.length ([] : List τ.I) ≤ lim) = true := decide_eq_true (Nat.zero_le _)
    rw [this]
    unfold both
    exact if_pos rfl
  | cons x l => rfl
theorem z8j : vy = cpy := zgy (τ := zw) fun _ => rfl
theorem z8k : zcy = cpy := zgy (τ := zC) fun _ => rfl
theorem z9A : zbi = cpy := zgy (τ := tI) fun _ => rfl
theorem z8Y : zdv = cpy := zgy (τ := (Ty.sl tI)) fun _ => rfl
theorem z8l : zcz = cpy := zgy (τ := zo) fun _ => rfl
theorem z8Z : zdw = cpy := zgy (τ := jz) fun _ => rfl
theorem z80 : zdx = cpy := zgy (τ := qt) fun _ => rfl
theorem z81 : zdy = cpy := zgy (τ := zW) fun _ => rfl
theorem z82 : zdz = cpy := zgy (τ := qA) fun _ => rfl
theorem z8m : vx = cpy := zgy (τ := zB) fun _ => rfl
theorem z94 : zgq = cpy := zgy (τ := (Ty.arr 4 tU)) fun _ => rfl
theorem z9B : zeH = cpy := zgy (τ := z5) fun _ => rfl
def z8n : zzh := zk9 cpy cpy cpy cpy (zmD cpy cpy cpy cpy cpy cpy cpy cpy cpy K0)
theorem z83 : zdR = z8n := by
  have h : zdR = zk9 vy zcy zbi zdv (zmD zbi zcz zdw zdx zdy zdz vx zgq zeH K0) := rfl
  rw [h, z8j, z8k, z9A, z8Y, z8l, z8Z, z80, z81, z82, z8m, z94, z9B]
  rfl
theorem z95 : zqO zgg zlv jg zeG z8n zjC vk vl zou () = some (true, ()) := by kernel_rfl
theorem z9C : zgr () = some (true, ()) := by
  have h : zgr () = zqO zgg zlv jg zeG zdR zjC vk vl zou () := rfl
  rw [h, z83]
  exact z95
theorem z8o {r : ze} {s : zf} {m : pMe} (hr : vg r) (hs : zdC s) : zmS (r, s, m, ()) = some (true, ()) := by
  simp only [zmS, zvG]
  rw [z9C, z3U hr hs, z1k hr hs, z3V]
  simp only [Option.bind_some, cond_true]
  cases zy0 r s <;> cases zWJ r m <;> rfl
end Go.Proofs.YtaokpakfhdeiiaaGreatDoor
end
section
namespace Go.Proofs.YtaokpakfhdeiiaaGreatDoor
open Go.Ev
set_option linter.unusedVariables false
set_option linter.unusedSimpArgs false
theorem wf_u64 {x : Int} (h : (Lit.int .u64 x).wf = true) : zmR x := by
  unfold Lit.wf at h
  simp only [Bool.and_eq_true, decide_eq_true_eq] at h
  have e1 : IntKind.min .u64 = 0 := by decide
  have e2 : IntKind.max .u64 = 18446744073709551615 := by decide
  rw [e1, e2] at h
  exact ⟨h.1, Int.lt_of_le_of_lt h.2 (by decide)⟩
theorem z9D {r : ze} (h : InR zD r) : vg r := by
  obtain ⟨hl, h2⟩ := h
  refine ⟨fun a ha => ?_, h2.2.2.1.1, h2.2.2.2.1.1⟩
  have h3 : (Lit.int .u64 a.2.1).wf = true := (hl.2 a ha).2.1
  exact wf_u64 h3
theorem z3W {a : List Int} (h : InR (.arr 4 tU) a) : zMQ a := fun x hx => wf_u64 (h.2 x hx)
theorem z5T {x : zmq} (h : InR ziy x) : zmR x.2.1 := wf_u64 (show (Lit.int .u64 x.2.1).wf = true from h.2.1)
theorem z9E {x : zm} (h : InR zo x) : zLB x := by
  obtain ⟨-, -, -, -, h5, h6, -, h8, h9, -⟩ := h
  refine ⟨fun t ht => ?_, fun a ha => z3W (h6.2 a ha), z3W h8, z3W h9⟩
  obtain ⟨-, -, -, g1, g2, -⟩ := h5.2 t ht
  exact ⟨z5T g1, z5T g2⟩
theorem z9F {x : zj} (h : InR zw x) : zoG x := by
  obtain ⟨-, -, -, -, -, -, h7, h8, h9, -⟩ := h
  exact ⟨wf_u64 h7, wf_u64 h8, wf_u64 h9⟩
theorem z9G {x : zH} (h : InR zC x) : zCz x := by
  obtain ⟨-, -, -, -, -, -, -, h8, h9, -⟩ := h
  exact ⟨wf_u64 h8, wf_u64 h9⟩
theorem z9H {s : zf} (h : InR zX s) : zdC s := by
  obtain ⟨-, h2, -, h4, h5, -⟩ := h
  exact ⟨fun x hx => z9E (h2.2 x hx), fun x hx => z9F (h4.2 x hx), fun x hx => z9G (h5.2 x hx)⟩
end Go.Proofs.YtaokpakfhdeiiaaGreatDoor
end
