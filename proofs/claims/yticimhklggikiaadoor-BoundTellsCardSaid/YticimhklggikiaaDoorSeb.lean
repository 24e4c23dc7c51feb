import Derived.Test.YticimhklggikiaaDoorSea
import Derived.Test.YticimhklggikiaaDoorEvb
/-! Plain functions, as printed. -/
namespace Go.Proofs.YticimhklggikiaaDoor
open Go.Ev
set_option linter.unusedVariables false
set_option linter.unusedSimpArgs false
abbrev S_api_Account : Type := (ByteArray × (ByteArray × (Int × (Bool × Unit))))
abbrev S_api_Guild : Type := (Int × (Int × Unit))
abbrev S_api_Label : Type := (Int × (Int × Unit))
abbrev S_api_Plan : Type := (Int × (Int × (Int × Unit)))
abbrev S_api_Quota : Type := (Int × (Int × (Int × (Int × (Int × (Int × Unit))))))
abbrev S_api_Realm : Type := ((List S_api_Label) × ((List Int) × ((List S_api_Account) × ((List S_api_Guild) × ((List S_api_Quota) × (Int × (Int × (Int × (Int × Unit)))))))))
abbrev S_runtime_boundsError : Type := (Int × (Int × (Bool × (Int × Unit))))
abbrev S_runtime_errorAddressString : Type := (ByteArray × (Int × Unit))
/-! ref05_hall -/
def Q0_ref05_hall (K : Nat)   (x0 : Int) : Option (S_api_Label × Unit) :=
  bif decide (Go.IntKind.wrap Go.IntKind.u64 x0 < 0) then none else some ((Int.ofNat 0, Go.IntKind.wrap Go.IntKind.u64 (1 * 2 ^ min (Int.toNat (Go.IntKind.wrap Go.IntKind.u64 x0)) (Go.IntKind.bits Go.IntKind.u64)), PUnit.unit), PUnit.unit)
def Q_ref05_hall (K : Nat)  (x0 : Int) : Option (S_api_Label × Unit) := Q0_ref05_hall K   x0
theorem ev_ref05_hall (K : Nat)  (x0 : Int) : evF (E_ref05_hall ) K f_ref05_hall A_ref05_hall R_ref05_hall (x0, ()) = Q_ref05_hall K  x0 := by
  have h : evF (E_ref05_hall ) K f_ref05_hall A_ref05_hall R_ref05_hall (x0, ()) = Q0_ref05_hall K   x0 := by kernel_rfl
  rw [h]; rfl

/-! ref05_place -/
abbrev S_ref05_place_0 (v0 : (List S_api_Label)) (v5 : Int) (o0 : S_api_Label) : St := St.mk [(0, AV.dat (Ty.sl T_api_Label) v0), (3, AV.bp 0 []), (5, AV.dat (Ty.int Go.IntKind.i64) v5)] [Obj.bx (AV.dat T_api_Label o0) false]
def B_ref05_place_0 (K : Nat)   (k0 : (List S_api_Label) → Int → S_api_Label → Option (Int × Unit)) (v0 : (List S_api_Label)) (v5 : Int) (o0 : S_api_Label) : Option (Int × Unit) :=
  bif decide (v5 < (↑(List.length v0) : Int)) then bif decide (0 ≤ v5) then bif decide (v5 < (↑(List.length v0) : Int)) then bif eqI T_api_Label (List.getD v0 (Int.toNat v5) (dflt T_api_Label)) o0 then some (v5, PUnit.unit) else @k0 v0 (Go.IntKind.wrap Go.IntKind.i64 (v5 + 1)) o0 else none else none else some (Int.negSucc 0, PUnit.unit)
def W_ref05_place_0 (K : Nat)   : Nat → (List S_api_Label) → Int → S_api_Label → Option (Int × Unit)
  | 0 => fun _ _ _ => none
  | n + 1 => fun v0 v5 o0 => B_ref05_place_0 K    (W_ref05_place_0 K   n) v0 v5 o0
theorem ev_ref05_place_0 (K : Nat)  : ∀ (n0 : Nat) (v0 : (List S_api_Label)) (v5 : Int) (o0 : S_api_Label), evL (E_ref05_place ) K f_ref05_place R_ref05_place [1, 0, 1, 0] [] n0 (S_ref05_place_0 v0 v5 o0) = W_ref05_place_0 K   n0 v0 v5 o0 := by
  intro n0
  induction n0 with
  | zero => intros; kernel_rfl
  | succ n0 ih =>
    intro v0 v5 o0
    have h : evL (E_ref05_place ) K f_ref05_place R_ref05_place [1, 0, 1, 0] [] (n0 + 1) (S_ref05_place_0 v0 v5 o0) = B_ref05_place_0 K    (fun v0 v5 o0 => evL (E_ref05_place ) K f_ref05_place R_ref05_place [1, 0, 1, 0] [] n0 (S_ref05_place_0 v0 v5 o0)) v0 v5 o0 := by kernel_rfl
    have e : (fun v0 v5 o0 => evL (E_ref05_place ) K f_ref05_place R_ref05_place [1, 0, 1, 0] [] n0 (S_ref05_place_0 v0 v5 o0)) = W_ref05_place_0 K   n0 := by funext v0 v5 o0; exact ih v0 v5 o0
    rw [h, e]; rfl
def Q0_ref05_place (K : Nat)  (L0 : (List S_api_Label) → Int → S_api_Label → Option (Int × Unit)) (x0 : (List S_api_Label)) (x1 : S_api_Label) : Option (Int × Unit) :=
  @L0 x0 (Int.ofNat 0) x1
def Q_ref05_place (K : Nat)  (x0 : (List S_api_Label)) (x1 : S_api_Label) : Option (Int × Unit) := Q0_ref05_place K  (W_ref05_place_0 K  K) x0 x1
theorem ev_ref05_place (K : Nat)  (x0 : (List S_api_Label)) (x1 : S_api_Label) : evF (E_ref05_place ) K f_ref05_place A_ref05_place R_ref05_place (x0, x1, ()) = Q_ref05_place K  x0 x1 := by
  have h : evF (E_ref05_place ) K f_ref05_place A_ref05_place R_ref05_place (x0, x1, ()) = Q0_ref05_place K  (fun v0 v5 o0 => evL (E_ref05_place ) K f_ref05_place R_ref05_place [1, 0, 1, 0] [] K (S_ref05_place_0 v0 v5 o0)) x0 x1 := by kernel_rfl
  have e0 : (fun v0 v5 o0 => evL (E_ref05_place ) K f_ref05_place R_ref05_place [1, 0, 1, 0] [] K (S_ref05_place_0 v0 v5 o0)) = W_ref05_place_0 K  K := by funext v0 v5 o0; exact ev_ref05_place_0 K  K v0 v5 o0
  rw [h, e0]; rfl

/-! ref05_has -/
abbrev S_ref05_has_0 (v0 : (List S_api_Guild)) (v1 : Int) (v5 : Int) : St := St.mk [(0, AV.dat (Ty.sl T_api_Guild) v0), (1, AV.dat (Ty.int Go.IntKind.i64) v1), (5, AV.dat (Ty.int Go.IntKind.i64) v5)] []
def B_ref05_has_0 (K : Nat)   (k0 : (List S_api_Guild) → Int → Int → Option (Bool × Unit)) (v0 : (List S_api_Guild)) (v1 : Int) (v5 : Int) : Option (Bool × Unit) :=
  bif decide (v5 < (↑(List.length v0) : Int)) then bif decide (0 ≤ v5) then bif decide (v5 < (↑(List.length v0) : Int)) then bif Prod.fst (List.getD v0 (Int.toNat v5) (dflt T_api_Guild)) == v1 then some (true, PUnit.unit) else @k0 v0 v1 (Go.IntKind.wrap Go.IntKind.i64 (v5 + 1)) else none else none else some (false, PUnit.unit)
def W_ref05_has_0 (K : Nat)   : Nat → (List S_api_Guild) → Int → Int → Option (Bool × Unit)
  | 0 => fun _ _ _ => none
  | n + 1 => fun v0 v1 v5 => B_ref05_has_0 K    (W_ref05_has_0 K   n) v0 v1 v5
theorem ev_ref05_has_0 (K : Nat)  : ∀ (n0 : Nat) (v0 : (List S_api_Guild)) (v1 : Int) (v5 : Int), evL (E_ref05_has ) K f_ref05_has R_ref05_has [1, 0, 1, 0] [] n0 (S_ref05_has_0 v0 v1 v5) = W_ref05_has_0 K   n0 v0 v1 v5 := by
  intro n0
  induction n0 with
  | zero => intros; kernel_rfl
  | succ n0 ih =>
    intro v0 v1 v5
    have h : evL (E_ref05_has ) K f_ref05_has R_ref05_has [1, 0, 1, 0] [] (n0 + 1) (S_ref05_has_0 v0 v1 v5) = B_ref05_has_0 K    (fun v0 v1 v5 => evL (E_ref05_has ) K f_ref05_has R_ref05_has [1, 0, 1, 0] [] n0 (S_ref05_has_0 v0 v1 v5)) v0 v1 v5 := by kernel_rfl
    have e : (fun v0 v1 v5 => evL (E_ref05_has ) K f_ref05_has R_ref05_has [1, 0, 1, 0] [] n0 (S_ref05_has_0 v0 v1 v5)) = W_ref05_has_0 K   n0 := by funext v0 v1 v5; exact ih v0 v1 v5
    rw [h, e]; rfl
def Q0_ref05_has (K : Nat)  (L0 : (List S_api_Guild) → Int → Int → Option (Bool × Unit)) (x0 : (List S_api_Guild)) (x1 : Int) : Option (Bool × Unit) :=
  @L0 x0 x1 (Int.ofNat 0)
def Q_ref05_has (K : Nat)  (x0 : (List S_api_Guild)) (x1 : Int) : Option (Bool × Unit) := Q0_ref05_has K  (W_ref05_has_0 K  K) x0 x1
theorem ev_ref05_has (K : Nat)  (x0 : (List S_api_Guild)) (x1 : Int) : evF (E_ref05_has ) K f_ref05_has A_ref05_has R_ref05_has (x0, x1, ()) = Q_ref05_has K  x0 x1 := by
  have h : evF (E_ref05_has ) K f_ref05_has A_ref05_has R_ref05_has (x0, x1, ()) = Q0_ref05_has K  (fun v0 v1 v5 => evL (E_ref05_has ) K f_ref05_has R_ref05_has [1, 0, 1, 0] [] K (S_ref05_has_0 v0 v1 v5)) x0 x1 := by kernel_rfl
  have e0 : (fun v0 v1 v5 => evL (E_ref05_has ) K f_ref05_has R_ref05_has [1, 0, 1, 0] [] K (S_ref05_has_0 v0 v1 v5)) = W_ref05_has_0 K  K := by funext v0 v1 v5; exact ev_ref05_has_0 K  K v0 v1 v5
  rw [h, e0]; rfl

/-! ref01_Has -/
def Q0_ref01_Has (K : Nat)   (x0 : S_api_Label) (x1 : Int) : Option (Bool × Unit) :=
  bif decide (Go.IntKind.wrap Go.IntKind.u64 x1 < 0) then none else bif Int.tmod (Int.fdiv (Prod.fst (Prod.snd x0)) (2 ^ min (Int.toNat (Go.IntKind.wrap Go.IntKind.u64 x1)) (Go.IntKind.bits Go.IntKind.u64))) 2 == 1 then some (true, PUnit.unit) else some (false, PUnit.unit)
def Q_ref01_Has (K : Nat)  (x0 : S_api_Label) (x1 : Int) : Option (Bool × Unit) := Q0_ref01_Has K   x0 x1
theorem ev_ref01_Has (K : Nat)  (x0 : S_api_Label) (x1 : Int) : evF (E_ref01_Has ) K f_ref01_Has A_ref01_Has R_ref01_Has (x0, x1, ()) = Q_ref01_Has K  x0 x1 := by
  have h : evF (E_ref01_Has ) K f_ref01_Has A_ref01_Has R_ref01_Has (x0, x1, ()) = Q0_ref01_Has K   x0 x1 := by kernel_rfl
  rw [h]; rfl

/-! realm_guilds -/
abbrev S_realm_guilds_0 (v4 : Int) (v11 : (List S_api_Guild)) (v12 : Int) (v13 : Int) (o0 : S_api_Realm) (o1 : Int) : St := St.mk [(1, AV.bp 0 []), (3, AV.bp 1 []), (4, AV.dat (Ty.int Go.IntKind.i64) v4), (11, AV.dat (Ty.sl T_api_Guild) v11), (12, AV.dat (Ty.int Go.IntKind.i64) v12), (13, AV.dat (Ty.int Go.IntKind.i64) v13)] [Obj.bx (AV.dat T_api_Realm o0) false, Obj.bx (AV.dat (Ty.int Go.IntKind.u64) o1) false]
def B_realm_guilds_0 (K : Nat) (g_label_Hall : (Int × Unit) → Option (S_api_Label × (Int × Unit))) (g_realm_within : (Int × (Int × (Int × Unit))) → Option (Bool × Unit)) (g_slices_Contains___api_Label_api_Label_ : ((List S_api_Label) × (S_api_Label × Unit)) → Option (Bool × Unit)) (g_realm_guilds_1 : (S_api_Label × ((Option Int) × Unit)) → Option (Bool × Unit)) (g_slices_ContainsFunc___api_Label_api_Label_ : ((List S_api_Label) × ((Option ((S_api_Label × Unit) → Option (Bool × Unit))) × Unit)) → Option (Bool × Unit))  (k0 : Int → (List S_api_Guild) → Int → Int → S_api_Realm → Int → Option (Bool × Unit)) (v4 : Int) (v11 : (List S_api_Guild)) (v12 : Int) (v13 : Int) (o0 : S_api_Realm) (o1 : Int) : Option (Bool × Unit) :=
  bif decide (v13 < v12) then bif decide (0 ≤ v13) then bif decide (v13 < (↑(List.length v11) : Int)) then Option.bind (g_label_Hall (Prod.fst (List.getD v11 (Int.toNat v13) (dflt T_api_Guild)), ())) fun q0 => bif Prod.fst (Prod.snd q0) != 0 then some (false, PUnit.unit) else bif decide (Prod.fst (List.getD v11 (Int.toNat v13) (dflt T_api_Guild)) ≤ v4) then some (false, PUnit.unit) else Option.bind (g_realm_within (Prod.fst (Prod.snd (List.getD v11 (Int.toNat v13) (dflt T_api_Guild))), 0, Go.IntKind.wrap Go.IntKind.i64 ((↑(List.length (Prod.fst (Prod.snd (Prod.snd o0)))) : Int) - 1), ())) fun q1 => bif Prod.fst q1 then Option.bind (g_slices_Contains___api_Label_api_Label_ (Prod.fst o0, Prod.fst q0, ())) fun q2 => bif Prod.fst q2 then @k0 (Prod.fst (List.getD v11 (Int.toNat v13) (dflt T_api_Guild))) v11 v12 (Go.IntKind.wrap Go.IntKind.i64 (v13 + 1)) o0 (Go.IntKind.wrap Go.IntKind.u64 (↑(BitVec.toNat (BitVec.ofInt (Go.IntKind.bits Go.IntKind.u64) o1 ||| BitVec.ofInt (Go.IntKind.bits Go.IntKind.u64) (Prod.fst (Prod.snd (Prod.fst q0))))) : Int)) else some (false, PUnit.unit) else some (false, PUnit.unit) else none else none else bif decide ((↑(List.length (Prod.fst (Prod.snd (Prod.snd (Prod.snd o0))))) : Int) ≤ 8) then Option.bind (g_slices_ContainsFunc___api_Label_api_Label_ (Prod.fst o0, some fun z => g_realm_guilds_1 (Prod.fst z, some o1, ()), ())) fun q3 => bif Prod.fst q3 then some (false, PUnit.unit) else some (true, PUnit.unit) else some (false, PUnit.unit)
def W_realm_guilds_0 (K : Nat) (g_label_Hall : (Int × Unit) → Option (S_api_Label × (Int × Unit))) (g_realm_within : (Int × (Int × (Int × Unit))) → Option (Bool × Unit)) (g_slices_Contains___api_Label_api_Label_ : ((List S_api_Label) × (S_api_Label × Unit)) → Option (Bool × Unit)) (g_realm_guilds_1 : (S_api_Label × ((Option Int) × Unit)) → Option (Bool × Unit)) (g_slices_ContainsFunc___api_Label_api_Label_ : ((List S_api_Label) × ((Option ((S_api_Label × Unit) → Option (Bool × Unit))) × Unit)) → Option (Bool × Unit))  : Nat → Int → (List S_api_Guild) → Int → Int → S_api_Realm → Int → Option (Bool × Unit)
  | 0 => fun _ _ _ _ _ _ => none
  | n + 1 => fun v4 v11 v12 v13 o0 o1 => B_realm_guilds_0 K g_label_Hall g_realm_within g_slices_Contains___api_Label_api_Label_ g_realm_guilds_1 g_slices_ContainsFunc___api_Label_api_Label_   (W_realm_guilds_0 K g_label_Hall g_realm_within g_slices_Contains___api_Label_api_Label_ g_realm_guilds_1 g_slices_ContainsFunc___api_Label_api_Label_  n) v4 v11 v12 v13 o0 o1
theorem ev_realm_guilds_0 (K : Nat) (g_label_Hall : (Int × Unit) → Option (S_api_Label × (Int × Unit))) (g_realm_within : (Int × (Int × (Int × Unit))) → Option (Bool × Unit)) (g_slices_Contains___api_Label_api_Label_ : ((List S_api_Label) × (S_api_Label × Unit)) → Option (Bool × Unit)) (g_realm_guilds_1 : (S_api_Label × ((Option Int) × Unit)) → Option (Bool × Unit)) (g_slices_ContainsFunc___api_Label_api_Label_ : ((List S_api_Label) × ((Option ((S_api_Label × Unit) → Option (Bool × Unit))) × Unit)) → Option (Bool × Unit)) : ∀ (n0 : Nat) (v4 : Int) (v11 : (List S_api_Guild)) (v12 : Int) (v13 : Int) (o0 : S_api_Realm) (o1 : Int), evL (E_realm_guilds g_label_Hall g_realm_within g_slices_Contains___api_Label_api_Label_ g_realm_guilds_1 g_slices_ContainsFunc___api_Label_api_Label_) K f_realm_guilds R_realm_guilds [1, 1, 1, 0, 1, 0] [] n0 (S_realm_guilds_0 v4 v11 v12 v13 o0 o1) = W_realm_guilds_0 K g_label_Hall g_realm_within g_slices_Contains___api_Label_api_Label_ g_realm_guilds_1 g_slices_ContainsFunc___api_Label_api_Label_  n0 v4 v11 v12 v13 o0 o1 := by
  intro n0
  induction n0 with
  | zero => intros; kernel_rfl
  | succ n0 ih =>
    intro v4 v11 v12 v13 o0 o1
    have h : evL (E_realm_guilds g_label_Hall g_realm_within g_slices_Contains___api_Label_api_Label_ g_realm_guilds_1 g_slices_ContainsFunc___api_Label_api_Label_) K f_realm_guilds R_realm_guilds [1, 1, 1, 0, 1, 0] [] (n0 + 1) (S_realm_guilds_0 v4 v11 v12 v13 o0 o1) = B_realm_guilds_0 K g_label_Hall g_realm_within g_slices_Contains___api_Label_api_Label_ g_realm_guilds_1 g_slices_ContainsFunc___api_Label_api_Label_   (fun v4 v11 v12 v13 o0 o1 => evL (E_realm_guilds g_label_Hall g_realm_within g_slices_Contains___api_Label_api_Label_ g_realm_guilds_1 g_slices_ContainsFunc___api_Label_api_Label_) K f_realm_guilds R_realm_guilds [1, 1, 1, 0, 1, 0] [] n0 (S_realm_guilds_0 v4 v11 v12 v13 o0 o1)) v4 v11 v12 v13 o0 o1 := by kernel_rfl
    have e : (fun v4 v11 v12 v13 o0 o1 => evL (E_realm_guilds g_label_Hall g_realm_within g_slices_Contains___api_Label_api_Label_ g_realm_guilds_1 g_slices_ContainsFunc___api_Label_api_Label_) K f_realm_guilds R_realm_guilds [1, 1, 1, 0, 1, 0] [] n0 (S_realm_guilds_0 v4 v11 v12 v13 o0 o1)) = W_realm_guilds_0 K g_label_Hall g_realm_within g_slices_Contains___api_Label_api_Label_ g_realm_guilds_1 g_slices_ContainsFunc___api_Label_api_Label_  n0 := by funext v4 v11 v12 v13 o0 o1; exact ih v4 v11 v12 v13 o0 o1
    rw [h, e]; rfl
def Q0_realm_guilds (K : Nat) (g_label_Hall : (Int × Unit) → Option (S_api_Label × (Int × Unit))) (g_realm_within : (Int × (Int × (Int × Unit))) → Option (Bool × Unit)) (g_slices_Contains___api_Label_api_Label_ : ((List S_api_Label) × (S_api_Label × Unit)) → Option (Bool × Unit)) (g_realm_guilds_1 : (S_api_Label × ((Option Int) × Unit)) → Option (Bool × Unit)) (g_slices_ContainsFunc___api_Label_api_Label_ : ((List S_api_Label) × ((Option ((S_api_Label × Unit) → Option (Bool × Unit))) × Unit)) → Option (Bool × Unit)) (L0 : Int → (List S_api_Guild) → Int → Int → S_api_Realm → Int → Option (Bool × Unit)) (x0 : S_api_Realm) : Option (Bool × Unit) :=
  @L0 (Int.negSucc 0) (Prod.fst (Prod.snd (Prod.snd (Prod.snd x0)))) (↑(List.length (Prod.fst (Prod.snd (Prod.snd (Prod.snd x0))))) : Int) (Int.ofNat 0) x0 (Int.ofNat 0)
def Q_realm_guilds (K : Nat) (g_label_Hall : (Int × Unit) → Option (S_api_Label × (Int × Unit))) (g_realm_within : (Int × (Int × (Int × Unit))) → Option (Bool × Unit)) (g_slices_Contains___api_Label_api_Label_ : ((List S_api_Label) × (S_api_Label × Unit)) → Option (Bool × Unit)) (g_realm_guilds_1 : (S_api_Label × ((Option Int) × Unit)) → Option (Bool × Unit)) (g_slices_ContainsFunc___api_Label_api_Label_ : ((List S_api_Label) × ((Option ((S_api_Label × Unit) → Option (Bool × Unit))) × Unit)) → Option (Bool × Unit)) (x0 : S_api_Realm) : Option (Bool × Unit) := Q0_realm_guilds K g_label_Hall g_realm_within g_slices_Contains___api_Label_api_Label_ g_realm_guilds_1 g_slices_ContainsFunc___api_Label_api_Label_ (W_realm_guilds_0 K g_label_Hall g_realm_within g_slices_Contains___api_Label_api_Label_ g_realm_guilds_1 g_slices_ContainsFunc___api_Label_api_Label_ K) x0
theorem ev_realm_guilds (K : Nat) (g_label_Hall : (Int × Unit) → Option (S_api_Label × (Int × Unit))) (g_realm_within : (Int × (Int × (Int × Unit))) → Option (Bool × Unit)) (g_slices_Contains___api_Label_api_Label_ : ((List S_api_Label) × (S_api_Label × Unit)) → Option (Bool × Unit)) (g_realm_guilds_1 : (S_api_Label × ((Option Int) × Unit)) → Option (Bool × Unit)) (g_slices_ContainsFunc___api_Label_api_Label_ : ((List S_api_Label) × ((Option ((S_api_Label × Unit) → Option (Bool × Unit))) × Unit)) → Option (Bool × Unit)) (x0 : S_api_Realm) : evF (E_realm_guilds g_label_Hall g_realm_within g_slices_Contains___api_Label_api_Label_ g_realm_guilds_1 g_slices_ContainsFunc___api_Label_api_Label_) K f_realm_guilds A_realm_guilds R_realm_guilds (x0, ()) = Q_realm_guilds K g_label_Hall g_realm_within g_slices_Contains___api_Label_api_Label_ g_realm_guilds_1 g_slices_ContainsFunc___api_Label_api_Label_ x0 := by
  have h : evF (E_realm_guilds g_label_Hall g_realm_within g_slices_Contains___api_Label_api_Label_ g_realm_guilds_1 g_slices_ContainsFunc___api_Label_api_Label_) K f_realm_guilds A_realm_guilds R_realm_guilds (x0, ()) = Q0_realm_guilds K g_label_Hall g_realm_within g_slices_Contains___api_Label_api_Label_ g_realm_guilds_1 g_slices_ContainsFunc___api_Label_api_Label_ (fun v4 v11 v12 v13 o0 o1 => evL (E_realm_guilds g_label_Hall g_realm_within g_slices_Contains___api_Label_api_Label_ g_realm_guilds_1 g_slices_ContainsFunc___api_Label_api_Label_) K f_realm_guilds R_realm_guilds [1, 1, 1, 0, 1, 0] [] K (S_realm_guilds_0 v4 v11 v12 v13 o0 o1)) x0 := by kernel_rfl
  have e0 : (fun v4 v11 v12 v13 o0 o1 => evL (E_realm_guilds g_label_Hall g_realm_within g_slices_Contains___api_Label_api_Label_ g_realm_guilds_1 g_slices_ContainsFunc___api_Label_api_Label_) K f_realm_guilds R_realm_guilds [1, 1, 1, 0, 1, 0] [] K (S_realm_guilds_0 v4 v11 v12 v13 o0 o1)) = W_realm_guilds_0 K g_label_Hall g_realm_within g_slices_Contains___api_Label_api_Label_ g_realm_guilds_1 g_slices_ContainsFunc___api_Label_api_Label_ K := by funext v4 v11 v12 v13 o0 o1; exact ev_realm_guilds_0 K g_label_Hall g_realm_within g_slices_Contains___api_Label_api_Label_ g_realm_guilds_1 g_slices_ContainsFunc___api_Label_api_Label_ K v4 v11 v12 v13 o0 o1
  rw [h, e0]; rfl

/-! ref05_accounts -/
abbrev S_ref05_accounts_1 (v0 : (List S_api_Account)) (v3 : Int) (v4 : Int) : St := St.mk [(0, AV.dat (Ty.sl T_api_Account) v0), (3, AV.dat (Ty.int Go.IntKind.i64) v3), (4, AV.dat (Ty.int Go.IntKind.i64) v4)] []
abbrev S_ref05_accounts_0 (v0 : (List S_api_Account)) (v3 : Int) : St := St.mk [(0, AV.dat (Ty.sl T_api_Account) v0), (3, AV.dat (Ty.int Go.IntKind.i64) v3)] []
def B_ref05_accounts_1 (K : Nat) (g_ref03_Right : (ByteArray × Unit) → Option (Bool × Unit))  (k0 : (List S_api_Account) → Int → Option (Bool × Unit)) (k1 : (List S_api_Account) → Int → Int → Option (Bool × Unit)) (v0 : (List S_api_Account)) (v3 : Int) (v4 : Int) : Option (Bool × Unit) :=
  bif decide (v4 < v3) then bif decide (0 ≤ v4) then bif decide (v4 < (↑(List.length v0) : Int)) then bif decide (0 ≤ v3) then bif decide (v3 < (↑(List.length v0) : Int)) then bif ByteArray.toList (Prod.fst (List.getD v0 (Int.toNat v4) (dflt T_api_Account))) == ByteArray.toList (Prod.fst (List.getD v0 (Int.toNat v3) (dflt T_api_Account))) then some (false, PUnit.unit) else @k1 v0 v3 (Go.IntKind.wrap Go.IntKind.i64 (v4 + 1)) else none else none else none else none else @k0 v0 (Go.IntKind.wrap Go.IntKind.i64 (v3 + 1))
def W_ref05_accounts_1 (K : Nat) (g_ref03_Right : (ByteArray × Unit) → Option (Bool × Unit)) (k0 : (List S_api_Account) → Int → Option (Bool × Unit)) : Nat → (List S_api_Account) → Int → Int → Option (Bool × Unit)
  | 0 => fun _ _ _ => none
  | n + 1 => fun v0 v3 v4 => B_ref05_accounts_1 K g_ref03_Right  k0 (W_ref05_accounts_1 K g_ref03_Right k0 n) v0 v3 v4
theorem ev_ref05_accounts_1 (K : Nat) (g_ref03_Right : (ByteArray × Unit) → Option (Bool × Unit)) (n0 : Nat) : ∀ (n1 : Nat) (v0 : (List S_api_Account)) (v3 : Int) (v4 : Int), evL (E_ref05_accounts g_ref03_Right) K f_ref05_accounts R_ref05_accounts [1, 1, 0, 1, 0, 0, 1, 0, 0, 1, 1, 0] [n0] n1 (S_ref05_accounts_1 v0 v3 v4) = W_ref05_accounts_1 K g_ref03_Right (fun v0 v3 => evL (E_ref05_accounts g_ref03_Right) K f_ref05_accounts R_ref05_accounts [1, 1, 0, 1, 0] [] n0 (S_ref05_accounts_0 v0 v3)) n1 v0 v3 v4 := by
  intro n1
  induction n1 with
  | zero => intros; kernel_rfl
  | succ n1 ih =>
    intro v0 v3 v4
    have h : evL (E_ref05_accounts g_ref03_Right) K f_ref05_accounts R_ref05_accounts [1, 1, 0, 1, 0, 0, 1, 0, 0, 1, 1, 0] [n0] (n1 + 1) (S_ref05_accounts_1 v0 v3 v4) = B_ref05_accounts_1 K g_ref03_Right  (fun v0 v3 => evL (E_ref05_accounts g_ref03_Right) K f_ref05_accounts R_ref05_accounts [1, 1, 0, 1, 0] [] n0 (S_ref05_accounts_0 v0 v3)) (fun v0 v3 v4 => evL (E_ref05_accounts g_ref03_Right) K f_ref05_accounts R_ref05_accounts [1, 1, 0, 1, 0, 0, 1, 0, 0, 1, 1, 0] [n0] n1 (S_ref05_accounts_1 v0 v3 v4)) v0 v3 v4 := by kernel_rfl
    have e : (fun v0 v3 v4 => evL (E_ref05_accounts g_ref03_Right) K f_ref05_accounts R_ref05_accounts [1, 1, 0, 1, 0, 0, 1, 0, 0, 1, 1, 0] [n0] n1 (S_ref05_accounts_1 v0 v3 v4)) = W_ref05_accounts_1 K g_ref03_Right (fun v0 v3 => evL (E_ref05_accounts g_ref03_Right) K f_ref05_accounts R_ref05_accounts [1, 1, 0, 1, 0] [] n0 (S_ref05_accounts_0 v0 v3)) n1 := by funext v0 v3 v4; exact ih v0 v3 v4
    rw [h, e]; rfl
def B_ref05_accounts_0 (K : Nat) (g_ref03_Right : (ByteArray × Unit) → Option (Bool × Unit)) (L1 : (List S_api_Account) → Int → Int → Option (Bool × Unit)) (k0 : (List S_api_Account) → Int → Option (Bool × Unit)) (v0 : (List S_api_Account)) (v3 : Int) : Option (Bool × Unit) :=
  bif decide (v3 < (↑(List.length v0) : Int)) then bif decide (0 ≤ v3) then bif decide (v3 < (↑(List.length v0) : Int)) then Option.bind (g_ref03_Right (Prod.fst (List.getD v0 (Int.toNat v3) (dflt T_api_Account)), ())) fun q0 => bif Prod.fst q0 then bif decide (0 ≤ v3) then bif decide (v3 < (↑(List.length v0) : Int)) then Option.bind (g_ref03_Right (Prod.fst (Prod.snd (List.getD v0 (Int.toNat v3) (dflt T_api_Account))), ())) fun q1 => bif Prod.fst q1 then bif decide (0 ≤ v3) then bif decide (v3 < (↑(List.length v0) : Int)) then bif decide (Prod.fst (Prod.snd (Prod.snd (List.getD v0 (Int.toNat v3) (dflt T_api_Account)))) < 0) then some (false, PUnit.unit) else bif decide (0 ≤ v3) then bif decide (v3 < (↑(List.length v0) : Int)) then bif decide (Prod.fst (Prod.snd (Prod.snd (List.getD v0 (Int.toNat v3) (dflt T_api_Account)))) > 3) then some (false, PUnit.unit) else @L1 v0 v3 (Int.ofNat 0) else none else none else none else none else some (false, PUnit.unit) else none else none else some (false, PUnit.unit) else none else none else some (true, PUnit.unit)
def W_ref05_accounts_0 (K : Nat) (g_ref03_Right : (ByteArray × Unit) → Option (Bool × Unit))  : Nat → (List S_api_Account) → Int → Option (Bool × Unit)
  | 0 => fun _ _ => none
  | n + 1 => fun v0 v3 => B_ref05_accounts_0 K g_ref03_Right (W_ref05_accounts_1 K g_ref03_Right (W_ref05_accounts_0 K g_ref03_Right  n) K)  (W_ref05_accounts_0 K g_ref03_Right  n) v0 v3
theorem ev_ref05_accounts_0 (K : Nat) (g_ref03_Right : (ByteArray × Unit) → Option (Bool × Unit)) : ∀ (n0 : Nat) (v0 : (List S_api_Account)) (v3 : Int), evL (E_ref05_accounts g_ref03_Right) K f_ref05_accounts R_ref05_accounts [1, 1, 0, 1, 0] [] n0 (S_ref05_accounts_0 v0 v3) = W_ref05_accounts_0 K g_ref03_Right  n0 v0 v3 := by
  intro n0
  induction n0 with
  | zero => intros; kernel_rfl
  | succ n0 ih =>
    intro v0 v3
    have h : evL (E_ref05_accounts g_ref03_Right) K f_ref05_accounts R_ref05_accounts [1, 1, 0, 1, 0] [] (n0 + 1) (S_ref05_accounts_0 v0 v3) = B_ref05_accounts_0 K g_ref03_Right (fun v0 v3 v4 => evL (E_ref05_accounts g_ref03_Right) K f_ref05_accounts R_ref05_accounts [1, 1, 0, 1, 0, 0, 1, 0, 0, 1, 1, 0] [n0] K (S_ref05_accounts_1 v0 v3 v4))  (fun v0 v3 => evL (E_ref05_accounts g_ref03_Right) K f_ref05_accounts R_ref05_accounts [1, 1, 0, 1, 0] [] n0 (S_ref05_accounts_0 v0 v3)) v0 v3 := by kernel_rfl
    have e1 : (fun v0 v3 v4 => evL (E_ref05_accounts g_ref03_Right) K f_ref05_accounts R_ref05_accounts [1, 1, 0, 1, 0, 0, 1, 0, 0, 1, 1, 0] [n0] K (S_ref05_accounts_1 v0 v3 v4)) = W_ref05_accounts_1 K g_ref03_Right (fun v0 v3 => evL (E_ref05_accounts g_ref03_Right) K f_ref05_accounts R_ref05_accounts [1, 1, 0, 1, 0] [] n0 (S_ref05_accounts_0 v0 v3)) K := by funext v0 v3 v4; exact ev_ref05_accounts_1 K g_ref03_Right n0 K v0 v3 v4
    have e : (fun v0 v3 => evL (E_ref05_accounts g_ref03_Right) K f_ref05_accounts R_ref05_accounts [1, 1, 0, 1, 0] [] n0 (S_ref05_accounts_0 v0 v3)) = W_ref05_accounts_0 K g_ref03_Right  n0 := by funext v0 v3; exact ih v0 v3
    rw [h, e1, e]; rfl
def Q0_ref05_accounts (K : Nat) (g_ref03_Right : (ByteArray × Unit) → Option (Bool × Unit)) (L0 : (List S_api_Account) → Int → Option (Bool × Unit)) (x0 : (List S_api_Account)) : Option (Bool × Unit) :=
  bif decide ((↑(List.length x0) : Int) < 1) then some (false, PUnit.unit) else bif decide ((↑(List.length x0) : Int) > 8) then some (false, PUnit.unit) else @L0 x0 (Int.ofNat 0)
def Q_ref05_accounts (K : Nat) (g_ref03_Right : (ByteArray × Unit) → Option (Bool × Unit)) (x0 : (List S_api_Account)) : Option (Bool × Unit) := Q0_ref05_accounts K g_ref03_Right (W_ref05_accounts_0 K g_ref03_Right K) x0
theorem ev_ref05_accounts (K : Nat) (g_ref03_Right : (ByteArray × Unit) → Option (Bool × Unit)) (x0 : (List S_api_Account)) : evF (E_ref05_accounts g_ref03_Right) K f_ref05_accounts A_ref05_accounts R_ref05_accounts (x0, ()) = Q_ref05_accounts K g_ref03_Right x0 := by
  have h : evF (E_ref05_accounts g_ref03_Right) K f_ref05_accounts A_ref05_accounts R_ref05_accounts (x0, ()) = Q0_ref05_accounts K g_ref03_Right (fun v0 v3 => evL (E_ref05_accounts g_ref03_Right) K f_ref05_accounts R_ref05_accounts [1, 1, 0, 1, 0] [] K (S_ref05_accounts_0 v0 v3)) x0 := by kernel_rfl
  have e0 : (fun v0 v3 => evL (E_ref05_accounts g_ref03_Right) K f_ref05_accounts R_ref05_accounts [1, 1, 0, 1, 0] [] K (S_ref05_accounts_0 v0 v3)) = W_ref05_accounts_0 K g_ref03_Right K := by funext v0 v3; exact ev_ref05_accounts_0 K g_ref03_Right K v0 v3
  rw [h, e0]; rfl

/-! ref05_guilds -/
abbrev S_ref05_guilds_2 (v0 : (List S_api_Guild)) (v1 : (List S_api_Label)) (v8 : Int) (v9 : Int) : St := St.mk [(0, AV.dat (Ty.sl T_api_Guild) v0), (1, AV.dat (Ty.sl T_api_Label) v1), (8, AV.dat (Ty.int Go.IntKind.i64) v8), (9, AV.dat (Ty.int Go.IntKind.i64) v9)] []
abbrev S_ref05_guilds_1 (v0 : (List S_api_Guild)) (v1 : (List S_api_Label)) (v8 : Int) : St := St.mk [(0, AV.dat (Ty.sl T_api_Guild) v0), (1, AV.dat (Ty.sl T_api_Label) v1), (8, AV.dat (Ty.int Go.IntKind.i64) v8)] []
abbrev S_ref05_guilds_0 (v0 : (List S_api_Guild)) (v1 : (List S_api_Label)) (v2 : Int) (v7 : Int) : St := St.mk [(0, AV.dat (Ty.sl T_api_Guild) v0), (1, AV.dat (Ty.sl T_api_Label) v1), (2, AV.dat (Ty.int Go.IntKind.i64) v2), (7, AV.dat (Ty.int Go.IntKind.i64) v7)] []
def B_ref05_guilds_2 (K : Nat) (g_ref05_hall : (Int × Unit) → Option (S_api_Label × Unit)) (g_ref05_place : ((List S_api_Label) × (S_api_Label × Unit)) → Option (Int × Unit)) (g_ref01_Has : (S_api_Label × (Int × Unit)) → Option (Bool × Unit)) (g_ref05_has : ((List S_api_Guild) × (Int × Unit)) → Option (Bool × Unit))  (k1 : (List S_api_Guild) → (List S_api_Label) → Int → Option (Bool × Unit)) (k2 : (List S_api_Guild) → (List S_api_Label) → Int → Int → Option (Bool × Unit)) (v0 : (List S_api_Guild)) (v1 : (List S_api_Label)) (v8 : Int) (v9 : Int) : Option (Bool × Unit) :=
  bif decide (v9 < 64) then bif decide (0 ≤ v8) then bif decide (v8 < (↑(List.length v1) : Int)) then Option.bind (g_ref01_Has (List.getD v1 (Int.toNat v8) (dflt T_api_Label), v9, ())) fun q4 => bif Prod.fst q4 then Option.bind (g_ref05_has (v0, v9, ())) fun q5 => bif Prod.fst q5 then @k2 v0 v1 v8 (Go.IntKind.wrap Go.IntKind.i64 (v9 + 1)) else some (false, PUnit.unit) else @k2 v0 v1 v8 (Go.IntKind.wrap Go.IntKind.i64 (v9 + 1)) else none else none else @k1 v0 v1 (Go.IntKind.wrap Go.IntKind.i64 (v8 + 1))
def W_ref05_guilds_2 (K : Nat) (g_ref05_hall : (Int × Unit) → Option (S_api_Label × Unit)) (g_ref05_place : ((List S_api_Label) × (S_api_Label × Unit)) → Option (Int × Unit)) (g_ref01_Has : (S_api_Label × (Int × Unit)) → Option (Bool × Unit)) (g_ref05_has : ((List S_api_Guild) × (Int × Unit)) → Option (Bool × Unit)) (k1 : (List S_api_Guild) → (List S_api_Label) → Int → Option (Bool × Unit)) : Nat → (List S_api_Guild) → (List S_api_Label) → Int → Int → Option (Bool × Unit)
  | 0 => fun _ _ _ _ => none
  | n + 1 => fun v0 v1 v8 v9 => B_ref05_guilds_2 K g_ref05_hall g_ref05_place g_ref01_Has g_ref05_has  k1 (W_ref05_guilds_2 K g_ref05_hall g_ref05_place g_ref01_Has g_ref05_has k1 n) v0 v1 v8 v9
theorem ev_ref05_guilds_2 (K : Nat) (g_ref05_hall : (Int × Unit) → Option (S_api_Label × Unit)) (g_ref05_place : ((List S_api_Label) × (S_api_Label × Unit)) → Option (Int × Unit)) (g_ref01_Has : (S_api_Label × (Int × Unit)) → Option (Bool × Unit)) (g_ref05_has : ((List S_api_Guild) × (Int × Unit)) → Option (Bool × Unit)) (n1 : Nat) : ∀ (n2 : Nat) (v0 : (List S_api_Guild)) (v1 : (List S_api_Label)) (v8 : Int) (v9 : Int), evL (E_ref05_guilds g_ref05_hall g_ref05_place g_ref01_Has g_ref05_has) K f_ref05_guilds R_ref05_guilds [1, 1, 1, 0, 1, 0, 0, 1, 0, 0, 1, 0] [n1] n2 (S_ref05_guilds_2 v0 v1 v8 v9) = W_ref05_guilds_2 K g_ref05_hall g_ref05_place g_ref01_Has g_ref05_has (fun v0 v1 v8 => evL (E_ref05_guilds g_ref05_hall g_ref05_place g_ref01_Has g_ref05_has) K f_ref05_guilds R_ref05_guilds [1, 1, 1, 0, 1, 0] [] n1 (S_ref05_guilds_1 v0 v1 v8)) n2 v0 v1 v8 v9 := by
  intro n2
  induction n2 with
  | zero => intros; kernel_rfl
  | succ n2 ih =>
    intro v0 v1 v8 v9
    have h : evL (E_ref05_guilds g_ref05_hall g_ref05_place g_ref01_Has g_ref05_has) K f_ref05_guilds R_ref05_guilds [1, 1, 1, 0, 1, 0, 0, 1, 0, 0, 1, 0] [n1] (n2 + 1) (S_ref05_guilds_2 v0 v1 v8 v9) = B_ref05_guilds_2 K g_ref05_hall g_ref05_place g_ref01_Has g_ref05_has  (fun v0 v1 v8 => evL (E_ref05_guilds g_ref05_hall g_ref05_place g_ref01_Has g_ref05_has) K f_ref05_guilds R_ref05_guilds [1, 1, 1, 0, 1, 0] [] n1 (S_ref05_guilds_1 v0 v1 v8)) (fun v0 v1 v8 v9 => evL (E_ref05_guilds g_ref05_hall g_ref05_place g_ref01_Has g_ref05_has) K f_ref05_guilds R_ref05_guilds [1, 1, 1, 0, 1, 0, 0, 1, 0, 0, 1, 0] [n1] n2 (S_ref05_guilds_2 v0 v1 v8 v9)) v0 v1 v8 v9 := by kernel_rfl
    have e : (fun v0 v1 v8 v9 => evL (E_ref05_guilds g_ref05_hall g_ref05_place g_ref01_Has g_ref05_has) K f_ref05_guilds R_ref05_guilds [1, 1, 1, 0, 1, 0, 0, 1, 0, 0, 1, 0] [n1] n2 (S_ref05_guilds_2 v0 v1 v8 v9)) = W_ref05_guilds_2 K g_ref05_hall g_ref05_place g_ref01_Has g_ref05_has (fun v0 v1 v8 => evL (E_ref05_guilds g_ref05_hall g_ref05_place g_ref01_Has g_ref05_has) K f_ref05_guilds R_ref05_guilds [1, 1, 1, 0, 1, 0] [] n1 (S_ref05_guilds_1 v0 v1 v8)) n2 := by funext v0 v1 v8 v9; exact ih v0 v1 v8 v9
    rw [h, e]; rfl
def B_ref05_guilds_1 (K : Nat) (g_ref05_hall : (Int × Unit) → Option (S_api_Label × Unit)) (g_ref05_place : ((List S_api_Label) × (S_api_Label × Unit)) → Option (Int × Unit)) (g_ref01_Has : (S_api_Label × (Int × Unit)) → Option (Bool × Unit)) (g_ref05_has : ((List S_api_Guild) × (Int × Unit)) → Option (Bool × Unit)) (L2 : (List S_api_Guild) → (List S_api_Label) → Int → Int → Option (Bool × Unit)) (k1 : (List S_api_Guild) → (List S_api_Label) → Int → Option (Bool × Unit)) (v0 : (List S_api_Guild)) (v1 : (List S_api_Label)) (v8 : Int) : Option (Bool × Unit) :=
  bif decide (v8 < (↑(List.length v1) : Int)) then @L2 v0 v1 v8 (Int.ofNat 0) else some (true, PUnit.unit)
def W_ref05_guilds_1 (K : Nat) (g_ref05_hall : (Int × Unit) → Option (S_api_Label × Unit)) (g_ref05_place : ((List S_api_Label) × (S_api_Label × Unit)) → Option (Int × Unit)) (g_ref01_Has : (S_api_Label × (Int × Unit)) → Option (Bool × Unit)) (g_ref05_has : ((List S_api_Guild) × (Int × Unit)) → Option (Bool × Unit))  : Nat → (List S_api_Guild) → (List S_api_Label) → Int → Option (Bool × Unit)
  | 0 => fun _ _ _ => none
  | n + 1 => fun v0 v1 v8 => B_ref05_guilds_1 K g_ref05_hall g_ref05_place g_ref01_Has g_ref05_has (W_ref05_guilds_2 K g_ref05_hall g_ref05_place g_ref01_Has g_ref05_has (W_ref05_guilds_1 K g_ref05_hall g_ref05_place g_ref01_Has g_ref05_has  n) K)  (W_ref05_guilds_1 K g_ref05_hall g_ref05_place g_ref01_Has g_ref05_has  n) v0 v1 v8
theorem ev_ref05_guilds_1 (K : Nat) (g_ref05_hall : (Int × Unit) → Option (S_api_Label × Unit)) (g_ref05_place : ((List S_api_Label) × (S_api_Label × Unit)) → Option (Int × Unit)) (g_ref01_Has : (S_api_Label × (Int × Unit)) → Option (Bool × Unit)) (g_ref05_has : ((List S_api_Guild) × (Int × Unit)) → Option (Bool × Unit)) : ∀ (n1 : Nat) (v0 : (List S_api_Guild)) (v1 : (List S_api_Label)) (v8 : Int), evL (E_ref05_guilds g_ref05_hall g_ref05_place g_ref01_Has g_ref05_has) K f_ref05_guilds R_ref05_guilds [1, 1, 1, 0, 1, 0] [] n1 (S_ref05_guilds_1 v0 v1 v8) = W_ref05_guilds_1 K g_ref05_hall g_ref05_place g_ref01_Has g_ref05_has  n1 v0 v1 v8 := by
  intro n1
  induction n1 with
  | zero => intros; kernel_rfl
  | succ n1 ih =>
    intro v0 v1 v8
    have h : evL (E_ref05_guilds g_ref05_hall g_ref05_place g_ref01_Has g_ref05_has) K f_ref05_guilds R_ref05_guilds [1, 1, 1, 0, 1, 0] [] (n1 + 1) (S_ref05_guilds_1 v0 v1 v8) = B_ref05_guilds_1 K g_ref05_hall g_ref05_place g_ref01_Has g_ref05_has (fun v0 v1 v8 v9 => evL (E_ref05_guilds g_ref05_hall g_ref05_place g_ref01_Has g_ref05_has) K f_ref05_guilds R_ref05_guilds [1, 1, 1, 0, 1, 0, 0, 1, 0, 0, 1, 0] [n1] K (S_ref05_guilds_2 v0 v1 v8 v9))  (fun v0 v1 v8 => evL (E_ref05_guilds g_ref05_hall g_ref05_place g_ref01_Has g_ref05_has) K f_ref05_guilds R_ref05_guilds [1, 1, 1, 0, 1, 0] [] n1 (S_ref05_guilds_1 v0 v1 v8)) v0 v1 v8 := by kernel_rfl
    have e2 : (fun v0 v1 v8 v9 => evL (E_ref05_guilds g_ref05_hall g_ref05_place g_ref01_Has g_ref05_has) K f_ref05_guilds R_ref05_guilds [1, 1, 1, 0, 1, 0, 0, 1, 0, 0, 1, 0] [n1] K (S_ref05_guilds_2 v0 v1 v8 v9)) = W_ref05_guilds_2 K g_ref05_hall g_ref05_place g_ref01_Has g_ref05_has (fun v0 v1 v8 => evL (E_ref05_guilds g_ref05_hall g_ref05_place g_ref01_Has g_ref05_has) K f_ref05_guilds R_ref05_guilds [1, 1, 1, 0, 1, 0] [] n1 (S_ref05_guilds_1 v0 v1 v8)) K := by funext v0 v1 v8 v9; exact ev_ref05_guilds_2 K g_ref05_hall g_ref05_place g_ref01_Has g_ref05_has n1 K v0 v1 v8 v9
    have e : (fun v0 v1 v8 => evL (E_ref05_guilds g_ref05_hall g_ref05_place g_ref01_Has g_ref05_has) K f_ref05_guilds R_ref05_guilds [1, 1, 1, 0, 1, 0] [] n1 (S_ref05_guilds_1 v0 v1 v8)) = W_ref05_guilds_1 K g_ref05_hall g_ref05_place g_ref01_Has g_ref05_has  n1 := by funext v0 v1 v8; exact ih v0 v1 v8
    rw [h, e2, e]; rfl
def B_ref05_guilds_0 (K : Nat) (g_ref05_hall : (Int × Unit) → Option (S_api_Label × Unit)) (g_ref05_place : ((List S_api_Label) × (S_api_Label × Unit)) → Option (Int × Unit)) (g_ref01_Has : (S_api_Label × (Int × Unit)) → Option (Bool × Unit)) (g_ref05_has : ((List S_api_Guild) × (Int × Unit)) → Option (Bool × Unit)) (L1 : (List S_api_Guild) → (List S_api_Label) → Int → Option (Bool × Unit)) (k0 : (List S_api_Guild) → (List S_api_Label) → Int → Int → Option (Bool × Unit)) (v0 : (List S_api_Guild)) (v1 : (List S_api_Label)) (v2 : Int) (v7 : Int) : Option (Bool × Unit) :=
  bif decide (v7 < (↑(List.length v0) : Int)) then bif decide (0 ≤ v7) then bif decide (v7 < (↑(List.length v0) : Int)) then bif decide (Prod.fst (List.getD v0 (Int.toNat v7) (dflt T_api_Guild)) < 0) then some (false, PUnit.unit) else bif decide (0 ≤ v7) then bif decide (v7 < (↑(List.length v0) : Int)) then bif decide (Prod.fst (List.getD v0 (Int.toNat v7) (dflt T_api_Guild)) > 63) then some (false, PUnit.unit) else bif decide (0 ≤ v7) then bif decide (v7 < (↑(List.length v0) : Int)) then bif decide (Prod.fst (Prod.snd (List.getD v0 (Int.toNat v7) (dflt T_api_Guild))) < 0) then some (false, PUnit.unit) else bif decide (0 ≤ v7) then bif decide (v7 < (↑(List.length v0) : Int)) then bif decide (Prod.fst (Prod.snd (List.getD v0 (Int.toNat v7) (dflt T_api_Guild))) ≥ v2) then some (false, PUnit.unit) else bif decide (v7 > 0) then bif decide (0 ≤ Go.IntKind.wrap Go.IntKind.i64 (v7 - 1)) then bif decide (Go.IntKind.wrap Go.IntKind.i64 (v7 - 1) < (↑(List.length v0) : Int)) then bif decide (0 ≤ v7) then bif decide (v7 < (↑(List.length v0) : Int)) then bif decide (Prod.fst (List.getD v0 (Int.toNat (Go.IntKind.wrap Go.IntKind.i64 (v7 - 1))) (dflt T_api_Guild)) ≥ Prod.fst (List.getD v0 (Int.toNat v7) (dflt T_api_Guild))) then some (false, PUnit.unit) else bif decide (0 ≤ v7) then bif decide (v7 < (↑(List.length v0) : Int)) then Option.bind (g_ref05_hall (Prod.fst (List.getD v0 (Int.toNat v7) (dflt T_api_Guild)), ())) fun q0 => Option.bind (g_ref05_place (v1, Prod.fst q0, ())) fun q1 => bif decide (Prod.fst q1 < 0) then some (false, PUnit.unit) else @k0 v0 v1 v2 (Go.IntKind.wrap Go.IntKind.i64 (v7 + 1)) else none else none else none else none else none else none else bif decide (0 ≤ v7) then bif decide (v7 < (↑(List.length v0) : Int)) then Option.bind (g_ref05_hall (Prod.fst (List.getD v0 (Int.toNat v7) (dflt T_api_Guild)), ())) fun q2 => Option.bind (g_ref05_place (v1, Prod.fst q2, ())) fun q3 => bif decide (Prod.fst q3 < 0) then some (false, PUnit.unit) else @k0 v0 v1 v2 (Go.IntKind.wrap Go.IntKind.i64 (v7 + 1)) else none else none else none else none else none else none else none else none else none else none else @L1 v0 v1 (Int.ofNat 0)
def W_ref05_guilds_0 (K : Nat) (g_ref05_hall : (Int × Unit) → Option (S_api_Label × Unit)) (g_ref05_place : ((List S_api_Label) × (S_api_Label × Unit)) → Option (Int × Unit)) (g_ref01_Has : (S_api_Label × (Int × Unit)) → Option (Bool × Unit)) (g_ref05_has : ((List S_api_Guild) × (Int × Unit)) → Option (Bool × Unit))  : Nat → (List S_api_Guild) → (List S_api_Label) → Int → Int → Option (Bool × Unit)
  | 0 => fun _ _ _ _ => none
  | n + 1 => fun v0 v1 v2 v7 => B_ref05_guilds_0 K g_ref05_hall g_ref05_place g_ref01_Has g_ref05_has (W_ref05_guilds_1 K g_ref05_hall g_ref05_place g_ref01_Has g_ref05_has  K)  (W_ref05_guilds_0 K g_ref05_hall g_ref05_place g_ref01_Has g_ref05_has  n) v0 v1 v2 v7
theorem ev_ref05_guilds_0 (K : Nat) (g_ref05_hall : (Int × Unit) → Option (S_api_Label × Unit)) (g_ref05_place : ((List S_api_Label) × (S_api_Label × Unit)) → Option (Int × Unit)) (g_ref01_Has : (S_api_Label × (Int × Unit)) → Option (Bool × Unit)) (g_ref05_has : ((List S_api_Guild) × (Int × Unit)) → Option (Bool × Unit)) : ∀ (n0 : Nat) (v0 : (List S_api_Guild)) (v1 : (List S_api_Label)) (v2 : Int) (v7 : Int), evL (E_ref05_guilds g_ref05_hall g_ref05_place g_ref01_Has g_ref05_has) K f_ref05_guilds R_ref05_guilds [1, 1, 0, 1, 0] [] n0 (S_ref05_guilds_0 v0 v1 v2 v7) = W_ref05_guilds_0 K g_ref05_hall g_ref05_place g_ref01_Has g_ref05_has  n0 v0 v1 v2 v7 := by
  intro n0
  induction n0 with
  | zero => intros; kernel_rfl
  | succ n0 ih =>
    intro v0 v1 v2 v7
    have h : evL (E_ref05_guilds g_ref05_hall g_ref05_place g_ref01_Has g_ref05_has) K f_ref05_guilds R_ref05_guilds [1, 1, 0, 1, 0] [] (n0 + 1) (S_ref05_guilds_0 v0 v1 v2 v7) = B_ref05_guilds_0 K g_ref05_hall g_ref05_place g_ref01_Has g_ref05_has (fun v0 v1 v8 => evL (E_ref05_guilds g_ref05_hall g_ref05_place g_ref01_Has g_ref05_has) K f_ref05_guilds R_ref05_guilds [1, 1, 1, 0, 1, 0] [] K (S_ref05_guilds_1 v0 v1 v8))  (fun v0 v1 v2 v7 => evL (E_ref05_guilds g_ref05_hall g_ref05_place g_ref01_Has g_ref05_has) K f_ref05_guilds R_ref05_guilds [1, 1, 0, 1, 0] [] n0 (S_ref05_guilds_0 v0 v1 v2 v7)) v0 v1 v2 v7 := by kernel_rfl
    have e1 : (fun v0 v1 v8 => evL (E_ref05_guilds g_ref05_hall g_ref05_place g_ref01_Has g_ref05_has) K f_ref05_guilds R_ref05_guilds [1, 1, 1, 0, 1, 0] [] K (S_ref05_guilds_1 v0 v1 v8)) = W_ref05_guilds_1 K g_ref05_hall g_ref05_place g_ref01_Has g_ref05_has  K := by funext v0 v1 v8; exact ev_ref05_guilds_1 K g_ref05_hall g_ref05_place g_ref01_Has g_ref05_has  K v0 v1 v8
    have e : (fun v0 v1 v2 v7 => evL (E_ref05_guilds g_ref05_hall g_ref05_place g_ref01_Has g_ref05_has) K f_ref05_guilds R_ref05_guilds [1, 1, 0, 1, 0] [] n0 (S_ref05_guilds_0 v0 v1 v2 v7)) = W_ref05_guilds_0 K g_ref05_hall g_ref05_place g_ref01_Has g_ref05_has  n0 := by funext v0 v1 v2 v7; exact ih v0 v1 v2 v7
    rw [h, e1, e]; rfl
def Q0_ref05_guilds (K : Nat) (g_ref05_hall : (Int × Unit) → Option (S_api_Label × Unit)) (g_ref05_place : ((List S_api_Label) × (S_api_Label × Unit)) → Option (Int × Unit)) (g_ref01_Has : (S_api_Label × (Int × Unit)) → Option (Bool × Unit)) (g_ref05_has : ((List S_api_Guild) × (Int × Unit)) → Option (Bool × Unit)) (L0 : (List S_api_Guild) → (List S_api_Label) → Int → Int → Option (Bool × Unit)) (x0 : (List S_api_Guild)) (x1 : (List S_api_Label)) (x2 : Int) : Option (Bool × Unit) :=
  bif decide ((↑(List.length x0) : Int) > 8) then some (false, PUnit.unit) else @L0 x0 x1 x2 (Int.ofNat 0)
def Q_ref05_guilds (K : Nat) (g_ref05_hall : (Int × Unit) → Option (S_api_Label × Unit)) (g_ref05_place : ((List S_api_Label) × (S_api_Label × Unit)) → Option (Int × Unit)) (g_ref01_Has : (S_api_Label × (Int × Unit)) → Option (Bool × Unit)) (g_ref05_has : ((List S_api_Guild) × (Int × Unit)) → Option (Bool × Unit)) (x0 : (List S_api_Guild)) (x1 : (List S_api_Label)) (x2 : Int) : Option (Bool × Unit) := Q0_ref05_guilds K g_ref05_hall g_ref05_place g_ref01_Has g_ref05_has (W_ref05_guilds_0 K g_ref05_hall g_ref05_place g_ref01_Has g_ref05_has K) x0 x1 x2
theorem ev_ref05_guilds (K : Nat) (g_ref05_hall : (Int × Unit) → Option (S_api_Label × Unit)) (g_ref05_place : ((List S_api_Label) × (S_api_Label × Unit)) → Option (Int × Unit)) (g_ref01_Has : (S_api_Label × (Int × Unit)) → Option (Bool × Unit)) (g_ref05_has : ((List S_api_Guild) × (Int × Unit)) → Option (Bool × Unit)) (x0 : (List S_api_Guild)) (x1 : (List S_api_Label)) (x2 : Int) : evF (E_ref05_guilds g_ref05_hall g_ref05_place g_ref01_Has g_ref05_has) K f_ref05_guilds A_ref05_guilds R_ref05_guilds (x0, x1, x2, ()) = Q_ref05_guilds K g_ref05_hall g_ref05_place g_ref01_Has g_ref05_has x0 x1 x2 := by
  have h : evF (E_ref05_guilds g_ref05_hall g_ref05_place g_ref01_Has g_ref05_has) K f_ref05_guilds A_ref05_guilds R_ref05_guilds (x0, x1, x2, ()) = Q0_ref05_guilds K g_ref05_hall g_ref05_place g_ref01_Has g_ref05_has (fun v0 v1 v2 v7 => evL (E_ref05_guilds g_ref05_hall g_ref05_place g_ref01_Has g_ref05_has) K f_ref05_guilds R_ref05_guilds [1, 1, 0, 1, 0] [] K (S_ref05_guilds_0 v0 v1 v2 v7)) x0 x1 x2 := by kernel_rfl
  have e0 : (fun v0 v1 v2 v7 => evL (E_ref05_guilds g_ref05_hall g_ref05_place g_ref01_Has g_ref05_has) K f_ref05_guilds R_ref05_guilds [1, 1, 0, 1, 0] [] K (S_ref05_guilds_0 v0 v1 v2 v7)) = W_ref05_guilds_0 K g_ref05_hall g_ref05_place g_ref01_Has g_ref05_has K := by funext v0 v1 v2 v7; exact ev_ref05_guilds_0 K g_ref05_hall g_ref05_place g_ref01_Has g_ref05_has K v0 v1 v2 v7
  rw [h, e0]; rfl

/-! ref05_Right -/
abbrev S_ref05_Right_0 (v3 : Int) (o0 : S_api_Realm) : St := St.mk [(1, AV.bp 0 []), (3, AV.dat (Ty.int Go.IntKind.i64) v3)] [Obj.bx (AV.dat T_api_Realm o0) false]
def B_ref05_Right_0 (K : Nat) (g_ref05_labels : ((List S_api_Label) × Unit) → Option (Bool × Unit)) (g_ref05_accounts : ((List S_api_Account) × Unit) → Option (Bool × Unit)) (g_ref05_guilds : ((List S_api_Guild) × ((List S_api_Label) × (Int × Unit))) → Option (Bool × Unit)) (g_ref05_quotas : ((List S_api_Quota) × Unit) → Option (Bool × Unit))  (k0 : Int → S_api_Realm → Option (Bool × Unit)) (v3 : Int) (o0 : S_api_Realm) : Option (Bool × Unit) :=
  bif decide (v3 < (↑(List.length (Prod.fst (Prod.snd o0))) : Int)) then bif decide (0 ≤ v3) then bif decide (v3 < (↑(List.length (Prod.fst (Prod.snd o0))) : Int)) then bif decide (List.getD (Prod.fst (Prod.snd o0)) (Int.toNat v3) (dflt (Ty.int Go.IntKind.i64)) < 0) then some (false, PUnit.unit) else bif decide (0 ≤ v3) then bif decide (v3 < (↑(List.length (Prod.fst (Prod.snd o0))) : Int)) then bif decide (List.getD (Prod.fst (Prod.snd o0)) (Int.toNat v3) (dflt (Ty.int Go.IntKind.i64)) ≥ (↑(List.length (Prod.fst o0)) : Int)) then some (false, PUnit.unit) else @k0 (Go.IntKind.wrap Go.IntKind.i64 (v3 + 1)) o0 else none else none else none else none else bif (↑(List.length (Prod.fst (Prod.snd (Prod.snd (Prod.snd (Prod.snd o0)))))) : Int) != (↑(List.length (Prod.fst o0)) : Int) then some (false, PUnit.unit) else Option.bind (g_ref05_quotas (Prod.fst (Prod.snd (Prod.snd (Prod.snd (Prod.snd o0)))), ())) fun q3 => bif Prod.fst q3 then bif decide (Prod.fst (Prod.snd (Prod.snd (Prod.snd (Prod.snd (Prod.snd o0))))) ≥ 0) then bif decide (Prod.fst (Prod.snd (Prod.snd (Prod.snd (Prod.snd (Prod.snd o0))))) ≤ 24) then bif decide (Prod.fst (Prod.snd (Prod.snd (Prod.snd (Prod.snd (Prod.snd (Prod.snd o0)))))) ≥ 0) then bif decide (Prod.fst (Prod.snd (Prod.snd (Prod.snd (Prod.snd (Prod.snd (Prod.snd o0)))))) ≤ 48) then bif decide (Prod.fst (Prod.snd (Prod.snd (Prod.snd (Prod.snd (Prod.snd (Prod.snd (Prod.snd o0))))))) ≥ 1) then bif decide (Prod.fst (Prod.snd (Prod.snd (Prod.snd (Prod.snd (Prod.snd (Prod.snd (Prod.snd o0))))))) ≤ 4) then bif decide (Prod.fst (Prod.snd (Prod.snd (Prod.snd (Prod.snd (Prod.snd (Prod.snd (Prod.snd (Prod.snd o0)))))))) ≥ 1) then bif decide (Prod.fst (Prod.snd (Prod.snd (Prod.snd (Prod.snd (Prod.snd (Prod.snd (Prod.snd (Prod.snd o0)))))))) ≤ 16) then some (true, PUnit.unit) else some (false, PUnit.unit) else some (false, PUnit.unit) else some (false, PUnit.unit) else some (false, PUnit.unit) else some (false, PUnit.unit) else some (false, PUnit.unit) else some (false, PUnit.unit) else some (false, PUnit.unit) else some (false, PUnit.unit)
def W_ref05_Right_0 (K : Nat) (g_ref05_labels : ((List S_api_Label) × Unit) → Option (Bool × Unit)) (g_ref05_accounts : ((List S_api_Account) × Unit) → Option (Bool × Unit)) (g_ref05_guilds : ((List S_api_Guild) × ((List S_api_Label) × (Int × Unit))) → Option (Bool × Unit)) (g_ref05_quotas : ((List S_api_Quota) × Unit) → Option (Bool × Unit))  : Nat → Int → S_api_Realm → Option (Bool × Unit)
  | 0 => fun _ _ => none
  | n + 1 => fun v3 o0 => B_ref05_Right_0 K g_ref05_labels g_ref05_accounts g_ref05_guilds g_ref05_quotas   (W_ref05_Right_0 K g_ref05_labels g_ref05_accounts g_ref05_guilds g_ref05_quotas  n) v3 o0
theorem ev_ref05_Right_0 (K : Nat) (g_ref05_labels : ((List S_api_Label) × Unit) → Option (Bool × Unit)) (g_ref05_accounts : ((List S_api_Account) × Unit) → Option (Bool × Unit)) (g_ref05_guilds : ((List S_api_Guild) × ((List S_api_Label) × (Int × Unit))) → Option (Bool × Unit)) (g_ref05_quotas : ((List S_api_Quota) × Unit) → Option (Bool × Unit)) : ∀ (n0 : Nat) (v3 : Int) (o0 : S_api_Realm), evL (E_ref05_Right g_ref05_labels g_ref05_accounts g_ref05_guilds g_ref05_quotas) K f_ref05_Right R_ref05_Right [1, 1, 0, 1, 0] [] n0 (S_ref05_Right_0 v3 o0) = W_ref05_Right_0 K g_ref05_labels g_ref05_accounts g_ref05_guilds g_ref05_quotas  n0 v3 o0 := by
  intro n0
  induction n0 with
  | zero => intros; kernel_rfl
  | succ n0 ih =>
    intro v3 o0
    have h : evL (E_ref05_Right g_ref05_labels g_ref05_accounts g_ref05_guilds g_ref05_quotas) K f_ref05_Right R_ref05_Right [1, 1, 0, 1, 0] [] (n0 + 1) (S_ref05_Right_0 v3 o0) = B_ref05_Right_0 K g_ref05_labels g_ref05_accounts g_ref05_guilds g_ref05_quotas   (fun v3 o0 => evL (E_ref05_Right g_ref05_labels g_ref05_accounts g_ref05_guilds g_ref05_quotas) K f_ref05_Right R_ref05_Right [1, 1, 0, 1, 0] [] n0 (S_ref05_Right_0 v3 o0)) v3 o0 := by kernel_rfl
    have e : (fun v3 o0 => evL (E_ref05_Right g_ref05_labels g_ref05_accounts g_ref05_guilds g_ref05_quotas) K f_ref05_Right R_ref05_Right [1, 1, 0, 1, 0] [] n0 (S_ref05_Right_0 v3 o0)) = W_ref05_Right_0 K g_ref05_labels g_ref05_accounts g_ref05_guilds g_ref05_quotas  n0 := by funext v3 o0; exact ih v3 o0
    rw [h, e]; rfl
def Q0_ref05_Right (K : Nat) (g_ref05_labels : ((List S_api_Label) × Unit) → Option (Bool × Unit)) (g_ref05_accounts : ((List S_api_Account) × Unit) → Option (Bool × Unit)) (g_ref05_guilds : ((List S_api_Guild) × ((List S_api_Label) × (Int × Unit))) → Option (Bool × Unit)) (g_ref05_quotas : ((List S_api_Quota) × Unit) → Option (Bool × Unit)) (L0 : Int → S_api_Realm → Option (Bool × Unit)) (x0 : S_api_Realm) : Option (Bool × Unit) :=
  Option.bind (g_ref05_labels (Prod.fst x0, ())) fun q0 => bif Prod.fst q0 then bif decide ((↑(List.length (Prod.fst (Prod.snd x0))) : Int) < 1) then some (false, PUnit.unit) else bif decide ((↑(List.length (Prod.fst (Prod.snd x0))) : Int) > 8) then some (false, PUnit.unit) else Option.bind (g_ref05_accounts (Prod.fst (Prod.snd (Prod.snd x0)), ())) fun q1 => bif Prod.fst q1 then Option.bind (g_ref05_guilds (Prod.fst (Prod.snd (Prod.snd (Prod.snd x0))), Prod.fst x0, (↑(List.length (Prod.fst (Prod.snd (Prod.snd x0)))) : Int), ())) fun q2 => bif Prod.fst q2 then @L0 (Int.ofNat 0) x0 else some (false, PUnit.unit) else some (false, PUnit.unit) else some (false, PUnit.unit)
def Q_ref05_Right (K : Nat) (g_ref05_labels : ((List S_api_Label) × Unit) → Option (Bool × Unit)) (g_ref05_accounts : ((List S_api_Account) × Unit) → Option (Bool × Unit)) (g_ref05_guilds : ((List S_api_Guild) × ((List S_api_Label) × (Int × Unit))) → Option (Bool × Unit)) (g_ref05_quotas : ((List S_api_Quota) × Unit) → Option (Bool × Unit)) (x0 : S_api_Realm) : Option (Bool × Unit) := Q0_ref05_Right K g_ref05_labels g_ref05_accounts g_ref05_guilds g_ref05_quotas (W_ref05_Right_0 K g_ref05_labels g_ref05_accounts g_ref05_guilds g_ref05_quotas K) x0
theorem ev_ref05_Right (K : Nat) (g_ref05_labels : ((List S_api_Label) × Unit) → Option (Bool × Unit)) (g_ref05_accounts : ((List S_api_Account) × Unit) → Option (Bool × Unit)) (g_ref05_guilds : ((List S_api_Guild) × ((List S_api_Label) × (Int × Unit))) → Option (Bool × Unit)) (g_ref05_quotas : ((List S_api_Quota) × Unit) → Option (Bool × Unit)) (x0 : S_api_Realm) : evF (E_ref05_Right g_ref05_labels g_ref05_accounts g_ref05_guilds g_ref05_quotas) K f_ref05_Right A_ref05_Right R_ref05_Right (x0, ()) = Q_ref05_Right K g_ref05_labels g_ref05_accounts g_ref05_guilds g_ref05_quotas x0 := by
  have h : evF (E_ref05_Right g_ref05_labels g_ref05_accounts g_ref05_guilds g_ref05_quotas) K f_ref05_Right A_ref05_Right R_ref05_Right (x0, ()) = Q0_ref05_Right K g_ref05_labels g_ref05_accounts g_ref05_guilds g_ref05_quotas (fun v3 o0 => evL (E_ref05_Right g_ref05_labels g_ref05_accounts g_ref05_guilds g_ref05_quotas) K f_ref05_Right R_ref05_Right [1, 1, 0, 1, 0] [] K (S_ref05_Right_0 v3 o0)) x0 := by kernel_rfl
  have e0 : (fun v3 o0 => evL (E_ref05_Right g_ref05_labels g_ref05_accounts g_ref05_guilds g_ref05_quotas) K f_ref05_Right R_ref05_Right [1, 1, 0, 1, 0] [] K (S_ref05_Right_0 v3 o0)) = W_ref05_Right_0 K g_ref05_labels g_ref05_accounts g_ref05_guilds g_ref05_quotas K := by funext v3 o0; exact ev_ref05_Right_0 K g_ref05_labels g_ref05_accounts g_ref05_guilds g_ref05_quotas K v3 o0
  rw [h, e0]; rfl

/-! bound_Sectors -/
def Q0_bound_Sectors (K : Nat) (g_bound_Plan : (S_api_Realm × Unit) → Option (S_api_Plan × (Int × Unit))) (g_vault_Need : (S_api_Plan × Unit) → Option (Int × Unit))  (x0 : S_api_Realm) : Option (Int × Unit) :=
  Option.bind (g_bound_Plan (x0, ())) fun q0 => Option.bind (g_vault_Need (Prod.fst q0, ())) fun q1 => some (Prod.fst q1, PUnit.unit)
def Q_bound_Sectors (K : Nat) (g_bound_Plan : (S_api_Realm × Unit) → Option (S_api_Plan × (Int × Unit))) (g_vault_Need : (S_api_Plan × Unit) → Option (Int × Unit)) (x0 : S_api_Realm) : Option (Int × Unit) := Q0_bound_Sectors K g_bound_Plan g_vault_Need  x0
theorem ev_bound_Sectors (K : Nat) (g_bound_Plan : (S_api_Realm × Unit) → Option (S_api_Plan × (Int × Unit))) (g_vault_Need : (S_api_Plan × Unit) → Option (Int × Unit)) (x0 : S_api_Realm) : evF (E_bound_Sectors g_bound_Plan g_vault_Need) K f_bound_Sectors A_bound_Sectors R_bound_Sectors (x0, ()) = Q_bound_Sectors K g_bound_Plan g_vault_Need x0 := by
  have h : evF (E_bound_Sectors g_bound_Plan g_vault_Need) K f_bound_Sectors A_bound_Sectors R_bound_Sectors (x0, ()) = Q0_bound_Sectors K g_bound_Plan g_vault_Need  x0 := by kernel_rfl
  rw [h]; rfl

/-! law05_Small -/
def Q0_law05_Small (K : Nat)    : Option (S_api_Realm × Unit) :=
  some (([(Int.ofNat 0, Int.ofNat 0, PUnit.unit), (Int.ofNat 0, Int.ofNat 1, PUnit.unit), (Int.ofNat 1, Int.ofNat 1, PUnit.unit)], [Int.ofNat 0, Int.ofNat 1, Int.ofNat 2], [(ByteArray.mk #[97, 110, 110], ByteArray.mk #[97], Int.ofNat 1, true, PUnit.unit), (ByteArray.mk #[98, 111, 98], ByteArray.mk #[98], Int.ofNat 0, false, PUnit.unit)], [(Int.ofNat 0, Int.ofNat 0, PUnit.unit)], [(Int.ofNat 2, Int.ofNat 2, Int.ofNat 2, Int.ofNat 2, Int.ofNat 2, Int.ofNat 1000, PUnit.unit), (Int.ofNat 2, Int.ofNat 2, Int.ofNat 2, Int.ofNat 2, Int.ofNat 2, Int.ofNat 1000, PUnit.unit), (Int.ofNat 2, Int.ofNat 2, Int.ofNat 2, Int.ofNat 2, Int.ofNat 2, Int.ofNat 1000, PUnit.unit)], Int.ofNat 4, Int.ofNat 6, Int.ofNat 2, Int.ofNat 3, PUnit.unit), PUnit.unit)
def Q_law05_Small (K : Nat)   : Option (S_api_Realm × Unit) := Q0_law05_Small K   
theorem ev_law05_Small (K : Nat)   : evF (E_law05_Small ) K f_law05_Small A_law05_Small R_law05_Small (()) = Q_law05_Small K   := by
  have h : evF (E_law05_Small ) K f_law05_Small A_law05_Small R_law05_Small (()) = Q0_law05_Small K    := by kernel_rfl
  rw [h]; rfl

/-! law24_alive -/
def Q0_law24_alive (K : Nat) (g_law05_Small : Unit → Option (S_api_Realm × Unit)) (g_bound_Plan : (S_api_Realm × Unit) → Option (S_api_Plan × (Int × Unit))) (g_bound_Record : (S_api_Realm × Unit) → Option (Int × Unit)) (g_bound_Image : (S_api_Realm × Unit) → Option (Int × Unit)) (g_bound_Sectors : (S_api_Realm × Unit) → Option (Int × Unit))   : Option (Bool × Unit) :=
  Option.bind (g_law05_Small ()) fun q0 => Option.bind (g_bound_Plan ((Prod.fst (Prod.fst q0), setAt (List.replicate 1 (dflt (Ty.int Go.IntKind.i64))) 0 0, Prod.snd (Prod.snd (Prod.fst q0))), ())) fun q1 => Option.bind (g_bound_Record ((Prod.fst (Prod.fst q0), setAt (List.replicate 1 (dflt (Ty.int Go.IntKind.i64))) 0 0, Prod.snd (Prod.snd (Prod.fst q0))), ())) fun q2 => bif Prod.fst q2 == 69 then bif Prod.fst (Prod.snd (Prod.snd (Prod.fst q1))) == 1 then bif Prod.fst (Prod.snd (Prod.fst q1)) == 3 then bif decide (Prod.fst (Prod.fst q1) > 1) then bif Prod.fst (Prod.snd q1) == 0 then Option.bind (g_bound_Image ((Prod.fst (Prod.fst q0), setAt (List.replicate 1 (dflt (Ty.int Go.IntKind.i64))) 0 0, Prod.snd (Prod.snd (Prod.fst q0))), ())) fun q3 => bif decide (Prod.fst q3 > 100) then Option.bind (g_bound_Sectors ((Prod.fst (Prod.fst q0), setAt (List.replicate 1 (dflt (Ty.int Go.IntKind.i64))) 0 0, Prod.snd (Prod.snd (Prod.fst q0))), ())) fun q4 => bif Prod.fst q4 == Go.IntKind.wrap Go.IntKind.i64 (Go.IntKind.wrap Go.IntKind.i64 (2 * Prod.fst (Prod.fst q1)) + 3) then Option.bind (g_bound_Image (dflt T_api_Realm, ())) fun q5 => bif Prod.fst q5 == 0 then Option.bind (g_bound_Sectors (dflt T_api_Realm, ())) fun q6 => bif Prod.fst q6 == 0 then some (true, PUnit.unit) else some (false, PUnit.unit) else some (false, PUnit.unit) else some (false, PUnit.unit) else some (false, PUnit.unit) else some (false, PUnit.unit) else some (false, PUnit.unit) else some (false, PUnit.unit) else some (false, PUnit.unit) else some (false, PUnit.unit)
def Q_law24_alive (K : Nat) (g_law05_Small : Unit → Option (S_api_Realm × Unit)) (g_bound_Plan : (S_api_Realm × Unit) → Option (S_api_Plan × (Int × Unit))) (g_bound_Record : (S_api_Realm × Unit) → Option (Int × Unit)) (g_bound_Image : (S_api_Realm × Unit) → Option (Int × Unit)) (g_bound_Sectors : (S_api_Realm × Unit) → Option (Int × Unit))  : Option (Bool × Unit) := Q0_law24_alive K g_law05_Small g_bound_Plan g_bound_Record g_bound_Image g_bound_Sectors  
theorem ev_law24_alive (K : Nat) (g_law05_Small : Unit → Option (S_api_Realm × Unit)) (g_bound_Plan : (S_api_Realm × Unit) → Option (S_api_Plan × (Int × Unit))) (g_bound_Record : (S_api_Realm × Unit) → Option (Int × Unit)) (g_bound_Image : (S_api_Realm × Unit) → Option (Int × Unit)) (g_bound_Sectors : (S_api_Realm × Unit) → Option (Int × Unit))  : evF (E_law24_alive g_law05_Small g_bound_Plan g_bound_Record g_bound_Image g_bound_Sectors) K f_law24_alive A_law24_alive R_law24_alive (()) = Q_law24_alive K g_law05_Small g_bound_Plan g_bound_Record g_bound_Image g_bound_Sectors  := by
  have h : evF (E_law24_alive g_law05_Small g_bound_Plan g_bound_Record g_bound_Image g_bound_Sectors) K f_law24_alive A_law24_alive R_law24_alive (()) = Q0_law24_alive K g_law05_Small g_bound_Plan g_bound_Record g_bound_Image g_bound_Sectors   := by kernel_rfl
  rw [h]; rfl

/-! law24_BoundTells -/
def Q0_law24_BoundTells (K : Nat) (g_bound_Plan : (S_api_Realm × Unit) → Option (S_api_Plan × (Int × Unit))) (g_ref24_Plan : (S_api_Realm × Unit) → Option (S_api_Plan × (Int × Unit))) (g_law24_alive : Unit → Option (Bool × Unit)) (g_bound_Image : (S_api_Realm × Unit) → Option (Int × Unit)) (g_ref24_Image : (S_api_Realm × Unit) → Option (Int × Unit)) (g_bound_Record : (S_api_Realm × Unit) → Option (Int × Unit)) (g_ref24_Record : (S_api_Realm × Unit) → Option (Int × Unit)) (g_bound_Sectors : (S_api_Realm × Unit) → Option (Int × Unit))  (x0 : S_api_Realm) : Option (Bool × Unit) :=
  Option.bind (g_bound_Plan (x0, ())) fun q0 => Option.bind (g_ref24_Plan (x0, ())) fun q1 => Option.bind (g_law24_alive ()) fun q2 => bif Prod.fst q2 then Option.bind (g_bound_Image (x0, ())) fun q3 => Option.bind (g_ref24_Image (x0, ())) fun q4 => bif Prod.fst q3 == Prod.fst q4 then Option.bind (g_bound_Record (x0, ())) fun q5 => Option.bind (g_ref24_Record (x0, ())) fun q6 => bif Prod.fst q5 == Prod.fst q6 then bif eqI T_api_Plan (Prod.fst q0) (Prod.fst q1) then bif Prod.fst (Prod.snd q0) == Prod.fst (Prod.snd q1) then Option.bind (g_bound_Sectors (x0, ())) fun q7 => bif Prod.fst q7 == Go.IntKind.wrap Go.IntKind.i64 (Go.IntKind.wrap Go.IntKind.i64 (2 * Prod.fst (Prod.fst q1)) + Go.IntKind.wrap Go.IntKind.i64 (Prod.fst (Prod.snd (Prod.fst q1)) * Prod.fst (Prod.snd (Prod.snd (Prod.fst q1))))) then some (true, PUnit.unit) else some (false, PUnit.unit) else some (false, PUnit.unit) else some (false, PUnit.unit) else some (false, PUnit.unit) else some (false, PUnit.unit) else some (false, PUnit.unit)
def Q_law24_BoundTells (K : Nat) (g_bound_Plan : (S_api_Realm × Unit) → Option (S_api_Plan × (Int × Unit))) (g_ref24_Plan : (S_api_Realm × Unit) → Option (S_api_Plan × (Int × Unit))) (g_law24_alive : Unit → Option (Bool × Unit)) (g_bound_Image : (S_api_Realm × Unit) → Option (Int × Unit)) (g_ref24_Image : (S_api_Realm × Unit) → Option (Int × Unit)) (g_bound_Record : (S_api_Realm × Unit) → Option (Int × Unit)) (g_ref24_Record : (S_api_Realm × Unit) → Option (Int × Unit)) (g_bound_Sectors : (S_api_Realm × Unit) → Option (Int × Unit)) (x0 : S_api_Realm) : Option (Bool × Unit) := Q0_law24_BoundTells K g_bound_Plan g_ref24_Plan g_law24_alive g_bound_Image g_ref24_Image g_bound_Record g_ref24_Record g_bound_Sectors  x0
theorem ev_law24_BoundTells (K : Nat) (g_bound_Plan : (S_api_Realm × Unit) → Option (S_api_Plan × (Int × Unit))) (g_ref24_Plan : (S_api_Realm × Unit) → Option (S_api_Plan × (Int × Unit))) (g_law24_alive : Unit → Option (Bool × Unit)) (g_bound_Image : (S_api_Realm × Unit) → Option (Int × Unit)) (g_ref24_Image : (S_api_Realm × Unit) → Option (Int × Unit)) (g_bound_Record : (S_api_Realm × Unit) → Option (Int × Unit)) (g_ref24_Record : (S_api_Realm × Unit) → Option (Int × Unit)) (g_bound_Sectors : (S_api_Realm × Unit) → Option (Int × Unit)) (x0 : S_api_Realm) : evF (E_law24_BoundTells g_bound_Plan g_ref24_Plan g_law24_alive g_bound_Image g_ref24_Image g_bound_Record g_ref24_Record g_bound_Sectors) K f_law24_BoundTells A_law24_BoundTells R_law24_BoundTells (x0, ()) = Q_law24_BoundTells K g_bound_Plan g_ref24_Plan g_law24_alive g_bound_Image g_ref24_Image g_bound_Record g_ref24_Record g_bound_Sectors x0 := by
  have h : evF (E_law24_BoundTells g_bound_Plan g_ref24_Plan g_law24_alive g_bound_Image g_ref24_Image g_bound_Record g_ref24_Record g_bound_Sectors) K f_law24_BoundTells A_law24_BoundTells R_law24_BoundTells (x0, ()) = Q0_law24_BoundTells K g_bound_Plan g_ref24_Plan g_law24_alive g_bound_Image g_ref24_Image g_bound_Record g_ref24_Record g_bound_Sectors  x0 := by kernel_rfl
  rw [h]; rfl

/-! law24_BoundFits -/
def Q0_law24_BoundFits (K : Nat) (g_bound_Plan : (S_api_Realm × Unit) → Option (S_api_Plan × (Int × Unit))) (g_law24_alive : Unit → Option (Bool × Unit)) (g_realm_Right : (S_api_Realm × Unit) → Option (Bool × Unit)) (g_vault_Room : (S_api_Plan × Unit) → Option (Int × (Int × Unit))) (g_vault_Need : (S_api_Plan × Unit) → Option (Int × Unit)) (g_bound_Sectors : (S_api_Realm × Unit) → Option (Int × Unit)) (g_bound_Image : (S_api_Realm × Unit) → Option (Int × Unit)) (g_bound_Record : (S_api_Realm × Unit) → Option (Int × Unit))  (x0 : S_api_Realm) : Option (Bool × Unit) :=
  Option.bind (g_bound_Plan (x0, ())) fun q0 => bif Prod.fst (Prod.snd q0) != 0 then Option.bind (g_law24_alive ()) fun q1 => bif Prod.fst q1 then Option.bind (g_realm_Right (x0, ())) fun q2 => bif Prod.fst q2 then some (false, PUnit.unit) else some (true, PUnit.unit) else some (false, PUnit.unit) else Option.bind (g_vault_Room (Prod.fst q0, ())) fun q3 => Option.bind (g_vault_Room ((Go.IntKind.wrap Go.IntKind.i64 (Prod.fst (Prod.fst q0) - 1), Prod.snd (Prod.fst q0)), ())) fun q4 => Option.bind (g_vault_Room ((Go.IntKind.wrap Go.IntKind.i64 (Go.IntKind.wrap Go.IntKind.i64 (Prod.fst (Prod.fst q0) - 1) + 1), Prod.fst (Prod.snd (Prod.fst q0)), Go.IntKind.wrap Go.IntKind.i64 (Prod.fst (Prod.snd (Prod.snd (Prod.fst q0))) - 1), Prod.snd (Prod.snd (Prod.snd (Prod.fst q0)))), ())) fun q5 => Option.bind (g_law24_alive ()) fun q6 => bif Prod.fst q6 then Option.bind (g_vault_Need ((Go.IntKind.wrap Go.IntKind.i64 (Go.IntKind.wrap Go.IntKind.i64 (Prod.fst (Prod.fst q0) - 1) + 1), Prod.fst (Prod.snd (Prod.fst q0)), Go.IntKind.wrap Go.IntKind.i64 (Go.IntKind.wrap Go.IntKind.i64 (Prod.fst (Prod.snd (Prod.snd (Prod.fst q0))) - 1) + 1), Prod.snd (Prod.snd (Prod.snd (Prod.fst q0)))), ())) fun q7 => bif decide (Prod.fst q7 > 0) then Option.bind (g_vault_Need ((Go.IntKind.wrap Go.IntKind.i64 (Go.IntKind.wrap Go.IntKind.i64 (Prod.fst (Prod.fst q0) - 1) + 1), Prod.fst (Prod.snd (Prod.fst q0)), Go.IntKind.wrap Go.IntKind.i64 (Go.IntKind.wrap Go.IntKind.i64 (Prod.fst (Prod.snd (Prod.snd (Prod.fst q0))) - 1) + 1), Prod.snd (Prod.snd (Prod.snd (Prod.fst q0)))), ())) fun q8 => bif decide (Prod.fst q8 ≤ 16384) then Option.bind (g_vault_Need ((Go.IntKind.wrap Go.IntKind.i64 (Go.IntKind.wrap Go.IntKind.i64 (Prod.fst (Prod.fst q0) - 1) + 1), Prod.fst (Prod.snd (Prod.fst q0)), Go.IntKind.wrap Go.IntKind.i64 (Go.IntKind.wrap Go.IntKind.i64 (Prod.fst (Prod.snd (Prod.snd (Prod.fst q0))) - 1) + 1), Prod.snd (Prod.snd (Prod.snd (Prod.fst q0)))), ())) fun q9 => Option.bind (g_bound_Sectors (x0, ())) fun q10 => bif Prod.fst q9 == Prod.fst q10 then Option.bind (g_bound_Image (x0, ())) fun q11 => bif decide (Prod.fst q3 ≥ Prod.fst q11) then Option.bind (g_bound_Record (x0, ())) fun q12 => bif decide (Prod.fst (Prod.snd q3) ≥ Prod.fst q12) then Option.bind (g_bound_Image (x0, ())) fun q13 => bif decide (Prod.fst q4 < Prod.fst q13) then Option.bind (g_bound_Record (x0, ())) fun q14 => bif decide (Prod.fst (Prod.snd q5) < Prod.fst q14) then some (true, PUnit.unit) else some (false, PUnit.unit) else some (false, PUnit.unit) else some (false, PUnit.unit) else some (false, PUnit.unit) else some (false, PUnit.unit) else some (false, PUnit.unit) else some (false, PUnit.unit) else some (false, PUnit.unit)
def Q_law24_BoundFits (K : Nat) (g_bound_Plan : (S_api_Realm × Unit) → Option (S_api_Plan × (Int × Unit))) (g_law24_alive : Unit → Option (Bool × Unit)) (g_realm_Right : (S_api_Realm × Unit) → Option (Bool × Unit)) (g_vault_Room : (S_api_Plan × Unit) → Option (Int × (Int × Unit))) (g_vault_Need : (S_api_Plan × Unit) → Option (Int × Unit)) (g_bound_Sectors : (S_api_Realm × Unit) → Option (Int × Unit)) (g_bound_Image : (S_api_Realm × Unit) → Option (Int × Unit)) (g_bound_Record : (S_api_Realm × Unit) → Option (Int × Unit)) (x0 : S_api_Realm) : Option (Bool × Unit) := Q0_law24_BoundFits K g_bound_Plan g_law24_alive g_realm_Right g_vault_Room g_vault_Need g_bound_Sectors g_bound_Image g_bound_Record  x0
theorem ev_law24_BoundFits (K : Nat) (g_bound_Plan : (S_api_Realm × Unit) → Option (S_api_Plan × (Int × Unit))) (g_law24_alive : Unit → Option (Bool × Unit)) (g_realm_Right : (S_api_Realm × Unit) → Option (Bool × Unit)) (g_vault_Room : (S_api_Plan × Unit) → Option (Int × (Int × Unit))) (g_vault_Need : (S_api_Plan × Unit) → Option (Int × Unit)) (g_bound_Sectors : (S_api_Realm × Unit) → Option (Int × Unit)) (g_bound_Image : (S_api_Realm × Unit) → Option (Int × Unit)) (g_bound_Record : (S_api_Realm × Unit) → Option (Int × Unit)) (x0 : S_api_Realm) : evF (E_law24_BoundFits g_bound_Plan g_law24_alive g_realm_Right g_vault_Room g_vault_Need g_bound_Sectors g_bound_Image g_bound_Record) K f_law24_BoundFits A_law24_BoundFits R_law24_BoundFits (x0, ()) = Q_law24_BoundFits K g_bound_Plan g_law24_alive g_realm_Right g_vault_Room g_vault_Need g_bound_Sectors g_bound_Image g_bound_Record x0 := by
  have h : evF (E_law24_BoundFits g_bound_Plan g_law24_alive g_realm_Right g_vault_Room g_vault_Need g_bound_Sectors g_bound_Image g_bound_Record) K f_law24_BoundFits A_law24_BoundFits R_law24_BoundFits (x0, ()) = Q0_law24_BoundFits K g_bound_Plan g_law24_alive g_realm_Right g_vault_Room g_vault_Need g_bound_Sectors g_bound_Image g_bound_Record  x0 := by kernel_rfl
  rw [h]; rfl

end Go.Proofs.YticimhklggikiaaDoor

/-! Plain specs: halls, places of labels and guilds, the document's. -/
namespace Go.Proofs.YticimhklggikiaaDoor
open Go.Ev
set_option linter.unusedVariables false
set_option linter.unusedSimpArgs false

theorem wrapU {n : Int} (h : 0 ≤ n ∧ n < 18446744073709551616) : Go.IntKind.wrap .u64 n = n := by
  show n % ((2 ^ 64 : Nat) : Int) = n
  exact Int.emod_eq_of_lt h.1 (by have : ((2 ^ 64 : Nat) : Int) = 18446744073709551616 := by decide
                                  omega)
/-! ### ref05.hall -/
def hallL (b : Int) : S_api_Label := (0, bitV b, ())
def sp_hall (x : Int × Unit) : Option (S_api_Label × Unit) := if hallOk x.1 = true then some (hallL x.1, ()) else none
theorem ev_hall : ∀ (x : A_ref05_hall.I) y, sp_hall x = some y → ∃ K, evF E_ref05_hall K f_ref05_hall A_ref05_hall R_ref05_hall x = some y := by
  rintro ⟨b, ⟨⟩⟩ y h
  refine ⟨0, (ev_ref05_hall 0 b).trans ?_⟩
  have key (b : Int) (h : hallOk b = true) : Q_ref05_hall 0 b = some (hallL b, ()) := by
    have hs := shl_eq h
    unfold hallOk at h
    simp only [Bool.and_eq_true, decide_eq_true_eq] at h
    unfold Q_ref05_hall Q0_ref05_hall
    rw [wrapU (n := b) (by omega), decide_eq_false (by omega), cond_false, hs]
    rfl
  unfold sp_hall at h
  split at h
  · rename_i hb
    rw [← h]
    exact key b hb
  · cases h

/-! ### ref05.place -/
def bodyPl (a : S_api_Label) (s : Unit) (i : Int) (x : S_api_Label) (k : Unit → Option (Int × Unit)) : Option (Int × Unit) := cond (eqI T_api_Label x a) (some (i, ())) (k s)
theorem forL_pl (a : S_api_Label) : ∀ (xs : List S_api_Label) (i : Int), forL (bodyPl a) (fun _ => some ((-1 : Int), ())) xs i () = some (idxB (fun y => eqI T_api_Label y a) xs i, ())
  | [], _ => rfl
  | x :: xs, i => by
    simp only [forL, idxB, bodyPl]
    by_cases h : eqI T_api_Label x a = true
    · rw [h]; rfl
    · simp only [Bool.not_eq_true] at h
      rw [h]
      exact forL_pl a xs (i + 1)
def sp_place (x : List S_api_Label × S_api_Label × Unit) : Option (Int × Unit) := if x.1.length ≤ Go.maxLen then some (idxB (fun y => eqI T_api_Label y x.2.1) x.1 0, ()) else none
theorem ev_place : ∀ (x : A_ref05_place.I) y, sp_place x = some y → ∃ K, evF E_ref05_place K f_ref05_place A_ref05_place R_ref05_place x = some y := by
  rintro ⟨xs, a, ⟨⟩⟩ y h
  have key (xs : List S_api_Label) (a : S_api_Label) (hl : xs.length ≤ Go.maxLen) : Q_ref05_place (xs.length + 1) xs a = some (idxB (fun y => eqI T_api_Label y a) xs 0, ()) := by
    rw [← forL_pl]
    exact for_loop0 (σ := Unit) (L := fun n _ i => W_ref05_place_0 (xs.length + 1) n xs i a) (d := dflt T_api_Label) (body := bodyPl a) (fin := fun _ => some ((-1 : Int), ())) hl (fun n s i => rfl) ()
  unfold sp_place at h
  split at h
  · rename_i hl
    refine ⟨List.length xs + 1, (ev_ref05_place _ xs a).trans ?_⟩
    rw [← h]
    exact key xs a hl
  · cases h

/-! ### ref05.has -/
def bodyHas (b : Int) (s : Unit) (i : Int) (x : S_api_Guild) (k : Unit → Option (Bool × Unit)) : Option (Bool × Unit) := cond (x.1 == b) (some (true, ())) (k s)
theorem forL_has (b : Int) : ∀ (xs : List S_api_Guild) (i : Int), forL (bodyHas b) (fun _ => some (false, ())) xs i () = some (xs.any fun g => g.1 == b, ())
  | [], _ => rfl
  | x :: xs, i => by
    simp only [forL, bodyHas, List.any_cons]
    cases h : (x.1 == b) with
    | true => rfl
    | false => exact forL_has b xs (i + 1)
def sp_has (x : List S_api_Guild × Int × Unit) : Option (Bool × Unit) := if x.1.length ≤ Go.maxLen then some (x.1.any fun g => g.1 == x.2.1, ()) else none
theorem ev_has : ∀ (x : A_ref05_has.I) y, sp_has x = some y → ∃ K, evF E_ref05_has K f_ref05_has A_ref05_has R_ref05_has x = some y := by
  rintro ⟨xs, a, ⟨⟩⟩ y h
  have key (xs : List S_api_Guild) (a : Int) (hl : xs.length ≤ Go.maxLen) : Q_ref05_has (xs.length + 1) xs a = some (xs.any fun g => g.1 == a, ()) := by
    rw [← forL_has a xs 0]
    exact for_loop0 (σ := Unit) (L := fun n _ i => W_ref05_has_0 (xs.length + 1) n xs a i) (d := dflt T_api_Guild) (body := bodyHas a) (fin := fun _ => some (false, ())) hl (fun n s i => rfl) ()
  unfold sp_has at h
  split at h
  · rename_i hl
    refine ⟨List.length xs + 1, (ev_ref05_has _ xs a).trans ?_⟩
    rw [← h]
    exact key xs a hl
  · cases h

/-! ### ref01.Has -/
def hasB (c : Int) (b : Nat) : Bool := c.toNat.testBit b
theorem has_eq (c b : Int) (hc : 0 ≤ c) (hb : 0 ≤ b ∧ b < 64) : (Int.tmod (Int.fdiv c (2 ^ min (Int.toNat (Go.IntKind.wrap .u64 b)) (Go.IntKind.bits .u64))) 2 == 1) = hasB c b.toNat := by
  obtain ⟨n, rfl⟩ := Int.eq_ofNat_of_zero_le hc
  obtain ⟨m, rfl⟩ := Int.eq_ofNat_of_zero_le hb.1
  rw [wrapU (by omega)]
  have hm : min (Int.toNat (m : Int)) (Go.IntKind.bits .u64) = m := Nat.min_eq_left (by show (m : Int).toNat ≤ 64; omega)
  rw [hm]
  unfold hasB
  have h2 : Int.fdiv (n : Int) (2 ^ m) = ((n / 2 ^ m : Nat) : Int) := by
    rw [show ((2 : Int) ^ m) = ((2 ^ m : Nat) : Int) by simp]
    rw [Int.fdiv_eq_ediv_of_nonneg _ (Int.natCast_nonneg _)]
    rfl
  have h3 : Int.tmod ((n / 2 ^ m : Nat) : Int) 2 = ((n / 2 ^ m % 2 : Nat) : Int) := by
    rw [Int.tmod_eq_emod_of_nonneg (Int.natCast_nonneg _)]
    rfl
  rw [h2, h3, Int.toNat_natCast, Int.toNat_natCast, Nat.testBit_eq_decide_div_mod_eq]
  have : (((n / 2 ^ m % 2 : Nat) : Int) == 1) = decide (n / 2 ^ m % 2 = 1) := by
    by_cases h : n / 2 ^ m % 2 = 1
    · rw [h]; rfl
    · rw [decide_eq_false h]
      cases hx : (((n / 2 ^ m % 2 : Nat) : Int) == 1) with
      | false => rfl
      | true => exact absurd (Int.ofNat.inj (by simpa using hx)) h
  exact this
def sp_Has (x : S_api_Label × Int × Unit) : Option (Bool × Unit) := if (decide (0 ≤ x.1.2.1) && (decide (0 ≤ x.2.1) && decide (x.2.1 < 64))) = true then some (hasB x.1.2.1 x.2.1.toNat, ()) else none
theorem ev_Has : ∀ (x : A_ref01_Has.I) y, sp_Has x = some y → ∃ K, evF E_ref01_Has K f_ref01_Has A_ref01_Has R_ref01_Has x = some y := by
  rintro ⟨a, b, ⟨⟩⟩ y h
  have key (a : S_api_Label) (b : Int) (h : 0 ≤ a.2.1 ∧ 0 ≤ b ∧ b < 64) : Q_ref01_Has 0 a b = some (hasB a.2.1 b.toNat, ()) := by
    have hh := has_eq a.2.1 b h.1 h.2
    unfold Q_ref01_Has Q0_ref01_Has
    rw [hh, wrapU (n := b) (by omega), decide_eq_false (by omega), cond_false]
    cases hasB a.2.1 b.toNat <;> rfl
  unfold sp_Has at h
  split at h
  · rename_i hl
    simp only [Bool.and_eq_true, decide_eq_true_eq] at hl
    refine ⟨0, (ev_ref01_Has _ a b).trans ?_⟩
    rw [← h]
    exact key a b hl
  · cases h
end Go.Proofs.YticimhklggikiaaDoor

/-! Plain specs: guilds. -/
namespace Go.Proofs.YticimhklggikiaaDoor
open Go.Ev
set_option linter.unusedVariables false
set_option linter.unusedSimpArgs false

def andNotI (a b : Int) : Int := Go.IntKind.wrap .u64 (BitVec.toNat (BitVec.ofInt (Go.IntKind.bits .u64) a &&& ~~~BitVec.ofInt (Go.IntKind.bits .u64) b) : Int)
def orI (a b : Int) : Int := Go.IntKind.wrap .u64 (BitVec.toNat (BitVec.ofInt (Go.IntKind.bits .u64) a ||| BitVec.ofInt (Go.IntKind.bits .u64) b) : Int)
/-- A guild that may be. -/
def gOne (labels : List S_api_Label) (n : Nat) (last : Int) (g : S_api_Guild) : Bool := hallOk g.1 && (!decide (g.1 ≤ last) && (within g.2.1 0 ((n : Int) - 1) && labels.any (fun y => eqI T_api_Label (hallL g.1) y)))
def risesG (labels : List S_api_Label) (n : Nat) : Int → List S_api_Guild → Bool
  | _, [] => true
  | last, g :: gs => gOne labels n last g && risesG labels n g.1 gs
def allOf : Int → List S_api_Guild → Int
  | a, [] => a
  | a, g :: gs => allOf (orI a (bitV g.1)) gs

/-! ### realm.guilds -/
def sp_guilds_1 (x : S_api_Label × Option Int × Unit) : Option (Bool × Unit) := match x.2.1 with
  | some c => some (andNotI x.1.2.1 c != 0, ())
  | none => none
theorem ev_guilds_1 : ∀ (x : A_realm_guilds_1.I) y, sp_guilds_1 x = some y → ∃ K, evF E_realm_guilds_1 K f_realm_guilds_1 A_realm_guilds_1 R_realm_guilds_1 x = some y := by
  rintro ⟨a, c, ⟨⟩⟩ y h
  cases c with
  | none => cases h
  | some c =>
    have h0 (a : S_api_Label) (c : Int) : evF E_realm_guilds_1 0 f_realm_guilds_1 A_realm_guilds_1 R_realm_guilds_1 (a, some c, ()) = cond (andNotI a.2.1 c != 0) (some (true, ())) (some (false, ())) := by kernel_rfl
    have key (a : S_api_Label) (c : Int) : cond (andNotI a.2.1 c != 0) (some (true, ())) (some (false, ())) = some (andNotI a.2.1 c != 0, ()) := by cases (andNotI a.2.1 c != 0) <;> rfl
    exact ⟨0, (h0 a c).trans ((key a c).trans h)⟩

def sp_labelHall (x : Int × Unit) : Option (S_api_Label × Int × Unit) := some ((hallF x.1).1, (hallF x.1).2, ())
abbrev gWithin' : Int × Int × Int × Unit → Option (Bool × Unit) := fun x => some (within x.1 x.2.1 x.2.2.1, ())
def finG (r : S_api_Realm) (all : Int) : Bool := decide (r.2.2.2.1.length ≤ 8) && !(r.1.any fun a => andNotI a.2.1 all != 0)
def guildsB (r : S_api_Realm) : Bool := risesG r.1 r.2.2.1.length (-1) r.2.2.2.1 && finG r (allOf 0 r.2.2.2.1)
theorem w_guilds (K : Nat) (r : S_api_Realm) (h1 : r.1.length ≤ Go.maxLen) (h2 : r.2.2.1.length ≤ 1000000) (h3 : r.2.2.2.1.length ≤ Go.maxLen) (n : Nat) (hn : r.2.2.2.1.length < n) :
    W_realm_guilds_0 K sp_labelHall gWithin' sp_Contains sp_guilds_1 (sp_ContainsFunc T_api_Label) n (-1) r.2.2.2.1 (r.2.2.2.1.length : Int) 0 r 0 = some (guildsB r, ()) := by
  have := idx_loop0 (σ := Int × Int) (L := fun n i s => W_realm_guilds_0 K sp_labelHall gWithin' sp_Contains sp_guilds_1 (sp_ContainsFunc T_api_Label) n s.1 r.2.2.2.1 (r.2.2.2.1.length : Int) i r s.2) (len := r.2.2.2.1.length) h3
    (F := fun i s => some (risesG r.1 r.2.2.1.length s.1 (r.2.2.2.1.drop i) && finG r (allOf s.2 (r.2.2.2.1.drop i)), ())) (I := fun _ _ => True) ?_ ?_ n hn (-1, 0) trivial
  · exact this
  · intro n i s hi _ ih
    obtain ⟨last, all⟩ := s
    have b0 : decide (0 ≤ (i : Int)) = true := decide_eq_true (by omega)
    have b1 : decide ((i : Int) < (r.2.2.2.1.length : Int)) = true := decide_eq_true (by omega)
    have hw := wrapS hi h3
    have hd := drop_getD (dflt T_api_Guild) hi
    rw [hd]
    show B_realm_guilds_0 K sp_labelHall gWithin' sp_Contains sp_guilds_1 (sp_ContainsFunc T_api_Label) (W_realm_guilds_0 K sp_labelHall gWithin' sp_Contains sp_guilds_1 (sp_ContainsFunc T_api_Label) n) last r.2.2.2.1 (r.2.2.2.1.length : Int) i r all = _
    unfold B_realm_guilds_0
    simp only [b0, b1, cond_true, Int.toNat_natCast, hw]
    have key : ∀ (b f : Int), (Option.bind (sp_labelHall (b, ())) fun q0 => bif q0.2.1 != 0 then some (false, PUnit.unit) else bif decide (b ≤ last) then some (false, PUnit.unit) else Option.bind (gWithin' (f, 0, Go.IntKind.wrap .i64 ((r.2.2.1.length : Int) - 1), ())) fun q1 => bif q1.1 then Option.bind (sp_Contains (r.1, q0.1, ())) fun q2 => bif q2.1 then W_realm_guilds_0 K sp_labelHall gWithin' sp_Contains sp_guilds_1 (sp_ContainsFunc T_api_Label) n b r.2.2.2.1 (r.2.2.2.1.length : Int) ((i : Int) + 1) r (orI all q0.1.2.1) else some (false, PUnit.unit) else some (false, PUnit.unit)) =
        some (risesG r.1 r.2.2.1.length last ((b, f, ()) :: r.2.2.2.1.drop (i + 1)) && finG r (allOf all ((b, f, ()) :: r.2.2.2.1.drop (i + 1))), ()) := by
      intro b f
      simp only [sp_labelHall, Option.bind_some, risesG, gOne, allOf]
      by_cases hb : hallOk b = true
      · have e1 : (hallF b) = (hallL b, 0) := by unfold hallF; rw [if_pos hb]; rfl
        rw [e1, hb]
        simp only [bne_self_eq_false, cond_false, Bool.true_and]
        rw [wrap64 (n := (r.2.2.1.length : Int) - 1) (by omega)]
        cases hle : decide (b ≤ last) with
        | true => rfl
        | false =>
          simp only [cond_false, Bool.not_false, Bool.true_and]
          cases hwi : within f 0 ((r.2.2.1.length : Int) - 1) with
          | false => rfl
          | true =>
            simp only [cond_true, Bool.true_and]
            have e2 : sp_Contains (r.1, hallL b, ()) = some (r.1.any (fun y => eqI T_api_Label (hallL b) y), ()) := by unfold sp_Contains; rw [if_pos h1]
            rw [e2, Option.bind_some]
            cases hc : (r.1.any (fun y => eqI T_api_Label (hallL b) y)) with
            | false => rfl
            | true =>
              simp only [cond_true, Bool.true_and]
              exact ih (b, orI all (bitV b)) trivial
      · have e1 : (hallF b).2 = 1 := by unfold hallF; rw [if_neg hb]
        simp only [Bool.not_eq_true] at hb
        rw [e1, hb]
        rfl
    exact key (r.2.2.2.1.getD i (dflt T_api_Guild)).1 (r.2.2.2.1.getD i (dflt T_api_Guild)).2.1
  · intro n s _
    obtain ⟨last, all⟩ := s
    show B_realm_guilds_0 K sp_labelHall gWithin' sp_Contains sp_guilds_1 (sp_ContainsFunc T_api_Label) (W_realm_guilds_0 K sp_labelHall gWithin' sp_Contains sp_guilds_1 (sp_ContainsFunc T_api_Label) n) last r.2.2.2.1 (r.2.2.2.1.length : Int) (r.2.2.2.1.length : Int) r all = _
    unfold B_realm_guilds_0
    rw [decide_eq_false (Int.lt_irrefl _), cond_false, List.drop_length]
    simp only [risesG, allOf, finG, Bool.true_and]
    by_cases h8 : r.2.2.2.1.length ≤ 8
    · rw [decide_eq_true (show (r.2.2.2.1.length : Int) ≤ 8 by omega), decide_eq_true h8, cond_true, Bool.true_and]
      rw [sp_ContainsFunc_eq (τ := T_api_Label) (p := fun a => andNotI a.2.1 all != 0) h1 (fun x _ => rfl), Option.bind_some]
      cases (List.any r.1 fun a => andNotI a.2.1 all != 0) <;> rfl
    · rw [decide_eq_false (show ¬ (r.2.2.2.1.length : Int) ≤ 8 by omega), decide_eq_false h8]
      rfl
end Go.Proofs.YticimhklggikiaaDoor

/-! Plain specs: guilds, the document's. -/
namespace Go.Proofs.YticimhklggikiaaDoor
open Go.Ev
set_option linter.unusedVariables false
set_option linter.unusedSimpArgs false

/-! ### Bits -/
theorem ofInt_nat (n : Nat) : BitVec.ofInt (Go.IntKind.bits .u64) (n : Int) = BitVec.ofNat 64 n := by
  show BitVec.ofInt 64 (n : Int) = BitVec.ofNat 64 n
  apply BitVec.eq_of_toNat_eq
  rw [BitVec.toNat_ofInt, BitVec.toNat_ofNat]
  omega
theorem wrapB (x : BitVec 64) : Go.IntKind.wrap .u64 (x.toNat : Int) = (x.toNat : Int) := by
  have := x.isLt
  exact wrapU (by omega)
theorem orI_nat (a b : Nat) (ha : a < 2 ^ 64) (hb : b < 2 ^ 64) : orI (a : Int) (b : Int) = ((a ||| b : Nat) : Int) := by
  unfold orI
  rw [ofInt_nat, ofInt_nat]
  show Go.IntKind.wrap .u64 ((BitVec.ofNat 64 a ||| BitVec.ofNat 64 b).toNat : Int) = _
  rw [wrapB, BitVec.toNat_or, BitVec.toNat_ofNat, BitVec.toNat_ofNat, Nat.mod_eq_of_lt ha, Nat.mod_eq_of_lt hb]
theorem andNot_bits (c m : Nat) (hc : c < 2 ^ 64) (hm : m < 2 ^ 64) : (andNotI (c : Int) (m : Int) != 0) = !((List.range' 0 64).all fun i => !c.testBit i || m.testBit i) := by
  unfold andNotI
  rw [ofInt_nat, ofInt_nat]
  show (Go.IntKind.wrap .u64 ((BitVec.ofNat 64 c &&& ~~~BitVec.ofNat 64 m).toNat : Int) != 0) = _
  rw [wrapB]
  have hbit : ∀ i, i < 64 → (BitVec.ofNat 64 c &&& ~~~BitVec.ofNat 64 m).getLsbD i = (c.testBit i && !m.testBit i) := by
    intro i hi
    rw [BitVec.getLsbD_and, BitVec.getLsbD_not, BitVec.getLsbD_ofNat, BitVec.getLsbD_ofNat]
    simp [hi]
  by_cases h : ((List.range' 0 64).all fun i => !c.testBit i || m.testBit i) = true
  · rw [h]
    have h0 : (BitVec.ofNat 64 c &&& ~~~BitVec.ofNat 64 m) = 0#64 := by
      apply BitVec.eq_of_getLsbD_eq
      intro i hi
      rw [hbit i hi]
      have := List.all_eq_true.1 h i (by simp [List.mem_range'_1]; omega)
      revert this
      cases c.testBit i <;> cases m.testBit i <;> simp
    rw [h0]
    rfl
  · have h' := h
    simp only [Bool.not_eq_true] at h'
    rw [h']
    have : (BitVec.ofNat 64 c &&& ~~~BitVec.ofNat 64 m).toNat ≠ 0 := by
      intro h0
      apply h
      rw [List.all_eq_true]
      intro i hi
      simp only [List.mem_range'_1] at hi
      have hb := hbit i (by omega)
      have e0 : (BitVec.ofNat 64 c &&& ~~~BitVec.ofNat 64 m) = 0#64 := BitVec.eq_of_toNat_eq (by rw [h0]; rfl)
      rw [e0] at hb
      revert hb
      cases c.testBit i <;> cases m.testBit i <;> simp
    rw [Bool.not_false, bne_iff_ne]
    omega
theorem bitV_nat {b : Int} (h : hallOk b = true) : ∃ n : Nat, b = n ∧ n < 64 ∧ bitV b = ((2 ^ n : Nat) : Int) := by
  unfold hallOk at h
  simp only [Bool.and_eq_true, decide_eq_true_eq] at h
  obtain ⟨n, rfl⟩ := Int.eq_ofNat_of_zero_le h.1
  exact ⟨n, rfl, by omega, rfl⟩
theorem allOf_bits : ∀ (l : List S_api_Guild) (m : Nat), m < 2 ^ 64 → (∀ g ∈ l, hallOk g.1 = true) → ∃ k : Nat, allOf (m : Int) l = (k : Int) ∧ k < 2 ^ 64 ∧ ∀ i : Nat, k.testBit i = (m.testBit i || l.any fun g => g.1 == (i : Int))
  | [], m, hm, _ => ⟨m, rfl, hm, fun i => by simp⟩
  | g :: l, m, hm, h => by
    obtain ⟨n, hn, hn64, hv⟩ := bitV_nat (h g (by simp))
    have hp : 2 ^ n < 2 ^ 64 := Nat.pow_lt_pow_right (by omega) hn64
    obtain ⟨k, hk, hk64, hb⟩ := allOf_bits l (m ||| 2 ^ n) (Nat.or_lt_two_pow hm hp) fun g hg => h g (by simp [hg])
    refine ⟨k, ?_, hk64, fun i => ?_⟩
    · simp only [allOf]
      rw [hv, orI_nat m (2 ^ n) hm hp]
      exact hk
    · rw [hb i, Nat.testBit_or, Nat.testBit_two_pow, List.any_cons, hn, Bool.or_assoc]
      congr 2
      by_cases e : n = i
      · subst e; simp
      · rw [decide_eq_false e]
        symm
        simp only [beq_eq_false_iff_ne, ne_eq]
        omega

/-! ### The document's guilds -/
def bitsF (l : List S_api_Guild) (c : Int) (i k : Nat) : Bool := (List.range' i k).all fun b => !hasB c b || l.any fun g => g.1 == (b : Int)
def finR (labels : List S_api_Label) (l : List S_api_Guild) : Bool := labels.all fun a => bitsF l a.2.1 0 64
/-- Labels whose compartments are numbers of 64 bits. -/
def inLabels (l : List S_api_Label) : Prop := ∀ a ∈ l, 0 ≤ a.2.1 ∧ a.2.1 < 18446744073709551616
theorem fin_eq (labels : List S_api_Label) (l : List S_api_Guild) (hl : inLabels labels) (h : ∀ g ∈ l, hallOk g.1 = true) : (labels.any fun a => andNotI a.2.1 (allOf 0 l) != 0) = !finR labels l := by
  obtain ⟨k, hk, hk64, hb⟩ := allOf_bits l 0 (by decide) h
  have hk' : allOf 0 l = (k : Int) := hk
  rw [hk']
  unfold finR
  have key : ∀ ls : List S_api_Label, inLabels ls → (ls.any fun a => andNotI a.2.1 (k : Int) != 0) = !(ls.all fun a => bitsF l a.2.1 0 64) := by
    intro ls
    induction ls with
    | nil => intro _; rfl
    | cons a ls ih =>
      intro ha
      have h1 := ha a (by simp)
      rw [List.any_cons, List.all_cons, ih fun b hb => ha b (by simp [hb]), Bool.not_and]
      congr 1
      obtain ⟨c, hc⟩ := Int.eq_ofNat_of_zero_le h1.1
      rw [hc, andNot_bits c k (by omega) hk64]
      congr 1
      unfold bitsF
      congr 1
      funext i
      rw [hb i]
      unfold hasB
      simp
  exact key labels hl

theorem idxB_none {α : Type} {p : α → Bool} : ∀ (xs : List α) (i : Int), 0 ≤ i → decide (idxB p xs i < 0) = !xs.any p
  | [], _, _ => rfl
  | x :: xs, i, h => by
    have ih := idxB_none (p := p) xs (i + 1) (by omega)
    simp only [idxB, List.any_cons]
    by_cases hp : p x = true
    · simp [hp]; omega
    · simp only [Bool.not_eq_true] at hp
      simpa [hp] using ih
theorem eqI_label (a b : S_api_Label) : eqI T_api_Label a b = eqI T_api_Label b a := by
  obtain ⟨x, c, ⟨⟩⟩ := a
  obtain ⟨y, d, ⟨⟩⟩ := b
  show cond ((x : Int) == y) (cond ((c : Int) == d) true false) false = cond ((y : Int) == x) (cond ((d : Int) == c) true false) false
  rw [Bool.beq_comm, Bool.beq_comm (a := c)]
  

section
variable (K : Nat) (l : List S_api_Guild) (labels : List S_api_Label)
theorem w_guilds_2 (hl : l.length ≤ Go.maxLen) (hL : inLabels labels) (k1 : List S_api_Guild → List S_api_Label → Int → Option (Bool × Unit)) (j : Nat) (hj : j < labels.length) (n : Nat) (hn : 64 < n) :
    W_ref05_guilds_2 K sp_hall sp_place sp_Has sp_has k1 n l labels j 0 = bif bitsF l (labels.getD j (dflt T_api_Label)).2.1 0 64 then k1 l labels (Go.IntKind.wrap .i64 ((j : Int) + 1)) else some (false, ()) := by
  have hc : 0 ≤ (labels.getD j (dflt T_api_Label)).2.1 := by
    have hm : labels.getD j (dflt T_api_Label) ∈ labels := by simp [List.getD, hj]
    exact (hL _ hm).1
  refine idx_loop0 (σ := Unit) (L := fun n i _ => W_ref05_guilds_2 K sp_hall sp_place sp_Has sp_has k1 n l labels j i) (len := 64) (by decide)
    (F := fun i _ => bif bitsF l (labels.getD j (dflt T_api_Label)).2.1 i (64 - i) then k1 l labels (Go.IntKind.wrap .i64 ((j : Int) + 1)) else some (false, ())) (I := fun _ _ => True) ?_ ?_ n hn () trivial
  · intro n i s hi _ ih
    have ih' := ih () trivial
    have b0 : decide (0 ≤ (j : Int)) = true := decide_eq_true (by omega)
    have b1 : decide ((j : Int) < (labels.length : Int)) = true := decide_eq_true (by omega)
    have b2 : decide ((i : Int) < 64) = true := decide_eq_true (by omega)
    have hw : Go.IntKind.wrap .i64 ((i : Int) + 1) = (i : Int) + 1 := wrapS (len := 64) hi (by decide)
    show B_ref05_guilds_2 K sp_hall sp_place sp_Has sp_has k1 (W_ref05_guilds_2 K sp_hall sp_place sp_Has sp_has k1 n) l labels j i = _
    unfold B_ref05_guilds_2
    simp only [b0, b1, b2, cond_true, Int.toNat_natCast, hw]
    have e1 : sp_Has (labels.getD j (dflt T_api_Label), (i : Int), ()) = some (hasB (labels.getD j (dflt T_api_Label)).2.1 i, ()) := by
      unfold sp_Has
      rw [if_pos (by simp only [Bool.and_eq_true, decide_eq_true_eq]; exact ⟨hc, by omega, by omega⟩)]
      rfl
    have e2 : sp_has (l, (i : Int), ()) = some (l.any fun g => g.1 == (i : Int), ()) := by unfold sp_has; rw [if_pos hl]
    rw [e1, e2, Option.bind_some, Option.bind_some]
    have e3 : bitsF l (labels.getD j (dflt T_api_Label)).2.1 i (64 - i) = ((!hasB (labels.getD j (dflt T_api_Label)).2.1 i || l.any fun g => g.1 == (i : Int)) && bitsF l (labels.getD j (dflt T_api_Label)).2.1 (i + 1) (64 - (i + 1))) := by
      unfold bitsF
      rw [show 64 - i = (64 - (i + 1)) + 1 by omega, List.range'_succ, List.all_cons]
    rw [e3]
    cases hasB (labels.getD j (dflt T_api_Label)).2.1 i with
    | false => simpa using ih'
    | true =>
      cases (l.any fun g => g.1 == (i : Int)) with
      | false => rfl
      | true => simpa using ih'
  · intro n s _
    rfl
theorem w_guilds_1 (hK : 64 < K) (hl : l.length ≤ Go.maxLen) (hlab : labels.length ≤ Go.maxLen) (hL : inLabels labels) (n : Nat) (hn : labels.length < n) :
    W_ref05_guilds_1 K sp_hall sp_place sp_Has sp_has n l labels 0 = some (finR labels l, ()) := by
  refine idx_loop0 (σ := Unit) (L := fun n i _ => W_ref05_guilds_1 K sp_hall sp_place sp_Has sp_has n l labels i) (len := labels.length) hlab
    (F := fun i _ => some (finR (labels.drop i) l, ())) (I := fun _ _ => True) ?_ ?_ n hn () trivial
  · intro n i s hi _ ih
    have ih' := ih () trivial
    have b1 : decide ((i : Int) < (labels.length : Int)) = true := decide_eq_true (by omega)
    show B_ref05_guilds_1 K sp_hall sp_place sp_Has sp_has (W_ref05_guilds_2 K sp_hall sp_place sp_Has sp_has (W_ref05_guilds_1 K sp_hall sp_place sp_Has sp_has n) K) (W_ref05_guilds_1 K sp_hall sp_place sp_Has sp_has n) l labels i = _
    unfold B_ref05_guilds_1
    rw [b1, cond_true]
    refine (w_guilds_2 K l labels hl hL _ i hi K hK).trans ?_
    rw [wrapS hi hlab, drop_getD (dflt T_api_Label) hi]
    have e : finR (labels.getD i (dflt T_api_Label) :: labels.drop (i + 1)) l = (bitsF l (labels.getD i (dflt T_api_Label)).2.1 0 64 && finR (labels.drop (i + 1)) l) := List.all_cons
    rw [e]
    cases bitsF l (labels.getD i (dflt T_api_Label)).2.1 0 64 with
    | false => rfl
    | true => simpa using ih'
  · intro n s _
    show B_ref05_guilds_1 K sp_hall sp_place sp_Has sp_has (W_ref05_guilds_2 K sp_hall sp_place sp_Has sp_has (W_ref05_guilds_1 K sp_hall sp_place sp_Has sp_has n) K) (W_ref05_guilds_1 K sp_hall sp_place sp_Has sp_has n) l labels labels.length = _
    unfold B_ref05_guilds_1
    rw [decide_eq_false (Int.lt_irrefl _), cond_false, List.drop_length]
    rfl

def lastAt (l : List S_api_Guild) (i : Nat) : Int := if i = 0 then -1 else (l.getD (i - 1) (dflt T_api_Guild)).1
theorem w_guilds_0 (hK : 64 < K) (hKl : labels.length < K) (hl : l.length ≤ Go.maxLen) (hlab : labels.length ≤ Go.maxLen) (hL : inLabels labels) (m : Nat) (hm : m ≤ 1000000) (n : Nat) (hn : l.length < n) :
    W_ref05_guilds_0 K sp_hall sp_place sp_Has sp_has n l labels (m : Int) 0 = some (risesG labels m (-1) l && finR labels l, ()) := by
  refine idx_loop0 (σ := Unit) (L := fun n i _ => W_ref05_guilds_0 K sp_hall sp_place sp_Has sp_has n l labels (m : Int) i) (len := l.length) hl
    (F := fun i _ => some (risesG labels m (lastAt l i) (l.drop i) && finR labels l, ())) (I := fun _ _ => True) ?_ ?_ n hn () trivial
  · intro n i s hi _ ih
    have ih' := ih () trivial
    have b0 : decide (0 ≤ (i : Int)) = true := decide_eq_true (by omega)
    have b1 : decide ((i : Int) < (l.length : Int)) = true := decide_eq_true (by omega)
    have hw := wrapS hi hl
    show B_ref05_guilds_0 K sp_hall sp_place sp_Has sp_has (W_ref05_guilds_1 K sp_hall sp_place sp_Has sp_has K) (W_ref05_guilds_0 K sp_hall sp_place sp_Has sp_has n) l labels (m : Int) i = _
    unfold B_ref05_guilds_0
    simp only [b0, b1, cond_true, Int.toNat_natCast, hw]
    rw [drop_getD (dflt T_api_Guild) hi]
    have hlast : lastAt l (i + 1) = (l.getD i (dflt T_api_Guild)).1 := by unfold lastAt; simp
    rw [hlast] at ih'
    -- what is asked of the guild before
    have key : ∀ (b f : Int) (X Y : Option (Bool × Unit)) (rest : Bool), Y = some (rest && finR labels l, ()) →
        (bif decide (b < 0) then some (false, PUnit.unit) else bif decide (b > 63) then some (false, PUnit.unit) else bif decide (f < 0) then some (false, PUnit.unit) else bif decide (f ≥ (m : Int)) then some (false, PUnit.unit) else
          bif decide ((i : Int) > 0) then bif decide (0 ≤ Go.IntKind.wrap .i64 ((i : Int) - 1)) then bif decide (Go.IntKind.wrap .i64 ((i : Int) - 1) < (l.length : Int)) then bif decide ((l.getD (Int.toNat (Go.IntKind.wrap .i64 ((i : Int) - 1))) (dflt T_api_Guild)).1 ≥ b) then some (false, PUnit.unit) else
            Option.bind (sp_hall (b, ())) fun q0 => Option.bind (sp_place (labels, q0.1, ())) fun q1 => bif decide (q1.1 < 0) then some (false, PUnit.unit) else Y else none else none else
            Option.bind (sp_hall (b, ())) fun q0 => Option.bind (sp_place (labels, q0.1, ())) fun q1 => bif decide (q1.1 < 0) then some (false, PUnit.unit) else Y) =
        some ((gOne labels m (lastAt l i) (b, f, ()) && rest) && finR labels l, ()) := by
      intro b f X Y rest hY
      by_cases h1 : b < 0
      · rw [decide_eq_true h1]
        have : hallOk b = false := by unfold hallOk; rw [decide_eq_false (by omega)]; rfl
        unfold gOne; rw [this]; rfl
      rw [decide_eq_false h1, cond_false]
      by_cases h2 : b > 63
      · rw [decide_eq_true h2]
        have : hallOk b = false := by unfold hallOk; rw [decide_eq_false (show ¬ b < 64 by omega)]; simp
        unfold gOne; rw [this]; rfl
      have hb : hallOk b = true := by unfold hallOk; rw [decide_eq_true (by omega), decide_eq_true (by omega)]; rfl
      rw [decide_eq_false h2, cond_false]
      by_cases h3 : f < 0
      · rw [decide_eq_true h3]
        have : within f 0 ((m : Int) - 1) = false := by unfold within; rw [decide_eq_false (by omega)]; rfl
        unfold gOne; rw [this]; simp
      rw [decide_eq_false h3, cond_false]
      by_cases h4 : f ≥ (m : Int)
      · rw [decide_eq_true h4]
        have : within f 0 ((m : Int) - 1) = false := by unfold within; rw [decide_eq_false (show ¬ f ≤ (m : Int) - 1 by omega)]; simp
        unfold gOne; rw [this]; simp
      have hf : within f 0 ((m : Int) - 1) = true := by unfold within; rw [decide_eq_true (by omega), decide_eq_true (by omega)]; rfl
      rw [decide_eq_false h4, cond_false]
      have e1 : sp_hall (b, ()) = some (hallL b, ()) := by unfold sp_hall; rw [if_pos hb]
      have e2 : sp_place (labels, hallL b, ()) = some (idxB (fun y => eqI T_api_Label y (hallL b)) labels 0, ()) := by unfold sp_place; rw [if_pos hlab]
      have e3 : (labels.any fun y => eqI T_api_Label y (hallL b)) = labels.any fun y => eqI T_api_Label (hallL b) y := by congr 1; funext y; exact eqI_label _ _
      have tail : (Option.bind (sp_hall (b, ())) fun q0 => Option.bind (sp_place (labels, q0.1, ())) fun q1 => bif decide (q1.1 < 0) then some (false, PUnit.unit) else Y) = some ((labels.any (fun y => eqI T_api_Label (hallL b) y) && rest) && finR labels l, ()) := by
        rw [e1, Option.bind_some, e2, Option.bind_some]
        show (bif decide (idxB (fun y => eqI T_api_Label y (hallL b)) labels 0 < 0) then some (false, PUnit.unit) else Y) = _
        rw [idxB_none labels 0 (Int.le_refl 0), e3, hY]
        cases (labels.any fun y => eqI T_api_Label (hallL b) y) <;> rfl
      rw [tail]
      unfold gOne
      rw [hb, hf]
      by_cases hi0 : i = 0
      · subst hi0
        have : lastAt l 0 = -1 := rfl
        rw [this, decide_eq_false (show ¬ b ≤ -1 by omega), decide_eq_false (show ¬ ((0 : Nat) : Int) > 0 by omega)]
        simp
      · have hw1 : Go.IntKind.wrap .i64 ((i : Int) - 1) = ((i - 1 : Nat) : Int) := by
          have hm' := hl
          unfold Go.maxLen at hm'
          rw [show (i : Int) - 1 = ((i - 1 : Nat) : Int) by omega]
          exact wrap64 (by omega)
        rw [hw1, decide_eq_true (show (i : Int) > 0 by omega), decide_eq_true (show (0 : Int) ≤ ((i - 1 : Nat) : Int) by omega), decide_eq_true (show ((i - 1 : Nat) : Int) < (l.length : Int) by omega), Int.toNat_natCast]
        have : lastAt l i = (l.getD (i - 1) (dflt T_api_Guild)).1 := by unfold lastAt; rw [if_neg hi0]
        rw [this]
        simp only [cond_true, Bool.true_and]
        have hd : decide ((l.getD (i - 1) (dflt T_api_Guild)).1 ≥ b) = decide (b ≤ (l.getD (i - 1) (dflt T_api_Guild)).1) := rfl
        rw [hd]
        cases decide (b ≤ (l.getD (i - 1) (dflt T_api_Guild)).1) <;> simp
    exact key (l.getD i (dflt T_api_Guild)).1 (l.getD i (dflt T_api_Guild)).2.1 none _ _ ih'
  · intro n s _
    show B_ref05_guilds_0 K sp_hall sp_place sp_Has sp_has (W_ref05_guilds_1 K sp_hall sp_place sp_Has sp_has K) (W_ref05_guilds_0 K sp_hall sp_place sp_Has sp_has n) l labels (m : Int) l.length = _
    unfold B_ref05_guilds_0
    rw [decide_eq_false (Int.lt_irrefl _), cond_false, List.drop_length]
    exact (w_guilds_1 K l labels hK hl hlab hL K hKl).trans rfl
end
end Go.Proofs.YticimhklggikiaaDoor

/-! Plain specs: accounts, the document's; guilds' contracts. -/
namespace Go.Proofs.YticimhklggikiaaDoor
open Go.Ev
set_option linter.unusedVariables false
set_option linter.unusedSimpArgs false

abbrev gNm : ByteArray × Unit → Option (Bool × Unit) := fun x => some (nameB x.1, ())
section
variable (K : Nat) (l : List S_api_Account)
theorem w_accounts_1 (hl : l.length ≤ Go.maxLen) (k0 : List S_api_Account → Int → Option (Bool × Unit)) (j : Nat) (hj : j < l.length) (n : Nat) (hn : j < n) :
    W_ref05_accounts_1 K gNm k0 n l j 0 = bif ((l.map fun a => a.1).take j).any (fun b => eqI .str (l.getD j (dflt T_api_Account)).1 b) then some (false, ()) else k0 l (Go.IntKind.wrap .i64 ((j : Int) + 1)) := by
  refine idx_loop0 (σ := Unit) (L := fun n i _ => W_ref05_accounts_1 K gNm k0 n l j i) (len := j) (by omega)
    (F := fun i _ => bif (((l.map fun a => a.1).take j).drop i).any (fun b => eqI .str (l.getD j (dflt T_api_Account)).1 b) then some (false, ()) else k0 l (Go.IntKind.wrap .i64 ((j : Int) + 1))) (I := fun _ _ => True) ?_ ?_ n hn () trivial
  · intro n i s hi _ ih
    have ih' := ih () trivial
    have b0 : decide (0 ≤ (j : Int)) = true := decide_eq_true (by omega)
    have b1 : decide ((j : Int) < (l.length : Int)) = true := decide_eq_true (by omega)
    have b2 : decide (0 ≤ (i : Int)) = true := decide_eq_true (by omega)
    have b3 : decide ((i : Int) < (l.length : Int)) = true := decide_eq_true (by omega)
    have b4 : decide ((i : Int) < (j : Int)) = true := decide_eq_true (by omega)
    have hw := wrapS hi (show j ≤ Go.maxLen by omega)
    show B_ref05_accounts_1 K gNm k0 (W_ref05_accounts_1 K gNm k0 n) l j i = _
    unfold B_ref05_accounts_1
    simp only [b0, b1, b2, b3, b4, cond_true, Int.toNat_natCast, hw]
    have hlen : i < ((l.map fun a => a.1).take j).length := by simp; omega
    have hd : ((l.map fun a => a.1).take j).drop i = (l.getD i (dflt T_api_Account)).1 :: ((l.map fun a => a.1).take j).drop (i + 1) := by
      rw [List.drop_eq_getElem_cons hlen]
      congr 1
      have hil : i < l.length := by omega
      simp [List.getD, hil]
    rw [hd, List.any_cons]
    have he : ((l.getD i (dflt T_api_Account)).1.toList == (l.getD j (dflt T_api_Account)).1.toList) = eqI .str (l.getD j (dflt T_api_Account)).1 (l.getD i (dflt T_api_Account)).1 := Bool.beq_comm
    have key : ∀ (c d : Bool) (X Y : Option (Bool × Unit)), c = d → (∀ z, X = cond z (some (false, ())) Y → cond c (some (false, ())) X = cond (d || z) (some (false, ())) Y) := by
      intro c d X Y h z hz; subst h; cases c
      · simpa using hz
      · rfl
    exact key _ _ _ _ he _ ih'
  · intro n s _
    show B_ref05_accounts_1 K gNm k0 (W_ref05_accounts_1 K gNm k0 n) l j j = _
    unfold B_ref05_accounts_1
    rw [decide_eq_false (Int.lt_irrefl _), cond_false, List.drop_eq_nil_iff.2 (by simp; omega)]
    rfl
theorem w_accounts_0 (hl : l.length ≤ Go.maxLen) (hK : l.length < K) (n : Nat) (hn : l.length < n) :
    W_ref05_accounts_0 K gNm n l 0 = some (!(l.any fun a => !accountB a) && apartL [] (l.map fun a => a.1), ()) := by
  refine idx_loop0 (σ := Unit) (L := fun n i _ => W_ref05_accounts_0 K gNm n l i) (len := l.length) hl
    (F := fun i _ => some (!((l.drop i).any fun a => !accountB a) && apartL ((l.map fun a => a.1).take i) ((l.map fun a => a.1).drop i), ())) (I := fun _ _ => True) ?_ ?_ n hn () trivial
  · intro n i s hi _ ih
    have ih' := ih () trivial
    have b0 : decide (0 ≤ (i : Int)) = true := decide_eq_true (by omega)
    have b1 : decide ((i : Int) < (l.length : Int)) = true := decide_eq_true (by omega)
    show B_ref05_accounts_0 K gNm (W_ref05_accounts_1 K gNm (W_ref05_accounts_0 K gNm n) K) (W_ref05_accounts_0 K gNm n) l i = _
    unfold B_ref05_accounts_0
    have hin := w_accounts_1 K l hl (W_ref05_accounts_0 K gNm n) i hi K (by omega)
    rw [wrapS hi hl, ih'] at hin
    have hin' : W_ref05_accounts_1 K gNm (W_ref05_accounts_0 K gNm n) K l (i : Int) (Int.ofNat 0) = _ := hin
    simp only [b0, b1, cond_true, Int.toNat_natCast, hin']
    rw [drop_getD (dflt T_api_Account) hi, List.any_cons]
    have hmap : (l.map fun a => a.1).drop i = (l.getD i (dflt T_api_Account)).1 :: (l.map fun a => a.1).drop (i + 1) := by
      rw [← List.map_drop, drop_getD (dflt T_api_Account) hi, List.map_cons, List.map_drop]
    have htake : (l.map fun a => a.1).take (i + 1) = (l.map fun a => a.1).take i ++ [(l.getD i (dflt T_api_Account)).1] := by
      rw [List.take_add_one]
      congr 1
      simp [List.getD, hi]
    rw [hmap, htake]
    have key : ∀ (a b : ByteArray) (lv : Int) (sn z : Bool), (Option.bind (gNm (a, ())) fun q0 => bif q0.1 then Option.bind (gNm (b, ())) fun q1 => bif q1.1 then bif decide (lv < 0) then some (false, PUnit.unit) else bif decide (lv > 3) then some (false, PUnit.unit) else (bif sn then some (false, ()) else some (z, ())) else some (false, PUnit.unit) else some (false, PUnit.unit)) =
        some (nameB a && (nameB b && within lv 0 3) && (!sn && z), ()) := by
      intro a b lv sn z
      simp only [Option.bind_some]
      cases nameB a with
      | false => rfl
      | true =>
        cases nameB b with
        | false => rfl
        | true =>
          unfold within
          by_cases h1 : lv < 0
          · rw [decide_eq_true h1, decide_eq_false (show ¬ (0 : Int) ≤ lv by omega)]; rfl
          · rw [decide_eq_false h1, decide_eq_true (show (0 : Int) ≤ lv by omega)]
            by_cases h2 : lv > 3
            · rw [decide_eq_true h2, decide_eq_false (show ¬ lv ≤ 3 by omega)]; rfl
            · rw [decide_eq_false h2, decide_eq_true (show lv ≤ 3 by omega)]
              cases sn <;> rfl
    refine (key _ _ _ _ _).trans ?_
    simp only [apartL]
    show some (accountB (l.getD i (dflt T_api_Account)) && _, ()) = _
    cases accountB (l.getD i (dflt T_api_Account)) with
    | false => rfl
    | true =>
      simp only [Bool.true_and, Bool.not_true, Bool.false_or]
      cases (((l.map fun a => a.1).take i).any fun b => eqI .str (l.getD i (dflt T_api_Account)).1 b) <;> cases ((l.drop (i + 1)).any fun a => !accountB a) <;> simp
  · intro n s _
    show B_ref05_accounts_0 K gNm (W_ref05_accounts_1 K gNm (W_ref05_accounts_0 K gNm n) K) (W_ref05_accounts_0 K gNm n) l l.length = _
    unfold B_ref05_accounts_0
    rw [decide_eq_false (Int.lt_irrefl _), cond_false, List.drop_length, List.drop_eq_nil_iff.2 (by simp)]
    rfl
theorem t_ref05_accounts (x : A_ref05_accounts.I) : ∃ K, evF (E_ref05_accounts gNm) K f_ref05_accounts A_ref05_accounts R_ref05_accounts x = some (accountsB x.1, ()) := by
  obtain ⟨l, ⟨⟩⟩ := x
  have key (l : List S_api_Account) : Q_ref05_accounts 9 gNm l = some (accountsB l, ()) := by
    unfold Q_ref05_accounts Q0_ref05_accounts accountsB within
    by_cases h1 : (l.length : Int) < 1
    · rw [decide_eq_true h1, decide_eq_false (show ¬ (1 : Int) ≤ (l.length : Int) by omega)]; rfl
    rw [decide_eq_false h1, decide_eq_true (show (1 : Int) ≤ (l.length : Int) by omega)]
    by_cases h2 : (l.length : Int) > 8
    · rw [decide_eq_true h2, decide_eq_false (show ¬ (l.length : Int) ≤ 8 by omega)]; rfl
    rw [decide_eq_false h2, decide_eq_true (show (l.length : Int) ≤ 8 by omega)]
    exact w_accounts_0 9 l (by unfold Go.maxLen; omega) (by omega) 9 (by omega)
  exact ⟨9, (ev_ref05_accounts 9 gNm l).trans (key l)⟩
end

/-! ### Guilds' contracts -/
def inLabelsB (l : List S_api_Label) : Bool := l.all fun a => decide (0 ≤ a.2.1) && decide (a.2.1 < 18446744073709551616)
theorem inLabelsB_iff {l : List S_api_Label} (h : inLabelsB l = true) : inLabels l := by
  intro a ha
  have := List.all_eq_true.1 h a ha
  simpa using this
def sp_guilds (x : S_api_Realm × Unit) : Option (Bool × Unit) := if (decide (x.1.1.length ≤ 8) && (decide (x.1.2.2.1.length ≤ 8) && decide (x.1.2.2.2.1.length ≤ Go.maxLen))) = true then some (guildsB x.1, ()) else none
theorem ev_guilds : ∀ (x : A_realm_guilds.I) y, sp_guilds x = some y → ∃ K, evF (E_realm_guilds sp_labelHall gWithin' sp_Contains sp_guilds_1 (sp_ContainsFunc T_api_Label)) K f_realm_guilds A_realm_guilds R_realm_guilds x = some y := by
  rintro ⟨r, ⟨⟩⟩ y h
  have key (r : S_api_Realm) (y : Bool × Unit) (h : sp_guilds (r, ()) = some y) : ∃ K, Q_realm_guilds K sp_labelHall gWithin' sp_Contains sp_guilds_1 (sp_ContainsFunc T_api_Label) r = some y := by
    simp only [sp_guilds] at h
    split at h
    · rename_i hc
      simp only [Bool.and_eq_true, decide_eq_true_eq] at hc
      rw [← h]
      exact ⟨r.2.2.2.1.length + 1, w_guilds _ r (by unfold Go.maxLen; omega) (by omega) hc.2.2 _ (by omega)⟩
    · cases h
  obtain ⟨K, hK⟩ := key r y h
  exact ⟨K, (ev_realm_guilds K _ _ _ _ _ r).trans hK⟩
def guildsBR (l : List S_api_Guild) (labels : List S_api_Label) (m : Nat) : Bool := decide (l.length ≤ 8) && (risesG labels m (-1) l && finR labels l)
def sp_ref05_guilds (x : List S_api_Guild × List S_api_Label × Int × Unit) : Option (Bool × Unit) := if (decide (x.2.1.length ≤ 8) && (decide (0 ≤ x.2.2.1) && (decide (x.2.2.1 ≤ 8) && (decide (x.1.length ≤ Go.maxLen) && inLabelsB x.2.1)))) = true then some (guildsBR x.1 x.2.1 x.2.2.1.toNat, ()) else none
theorem ev_ref05_guilds' : ∀ (x : A_ref05_guilds.I) y, sp_ref05_guilds x = some y → ∃ K, evF (E_ref05_guilds sp_hall sp_place sp_Has sp_has) K f_ref05_guilds A_ref05_guilds R_ref05_guilds x = some y := by
  rintro ⟨l, labels, m, ⟨⟩⟩ y h
  have key (l : List S_api_Guild) (labels : List S_api_Label) (m : Int) (y : Bool × Unit) (h : sp_ref05_guilds (l, labels, m, ()) = some y) : ∃ K, Q_ref05_guilds K sp_hall sp_place sp_Has sp_has l labels m = some y := by
    simp only [sp_ref05_guilds] at h
    split at h
    · rename_i hc
      simp only [Bool.and_eq_true, decide_eq_true_eq] at hc
      rw [← h]
      refine ⟨l.length + 100, ?_⟩
      unfold Q_ref05_guilds Q0_ref05_guilds guildsBR
      by_cases h8 : l.length ≤ 8
      · rw [decide_eq_true h8, decide_eq_false (show ¬ (l.length : Int) > 8 by omega), cond_false, Bool.true_and]
        have := w_guilds_0 (l.length + 100) l labels (by omega) (by omega) hc.2.2.2.1 (by unfold Go.maxLen; omega) (inLabelsB_iff hc.2.2.2.2) m.toNat (by omega) (l.length + 100) (by omega)
        rw [Int.toNat_of_nonneg hc.2.1] at this
        exact this
      · rw [decide_eq_false h8, decide_eq_true (show (l.length : Int) > 8 by omega)]
        rfl
    · cases h
  obtain ⟨K, hK⟩ := key l labels m y h
  exact ⟨K, (ev_ref05_guilds K _ _ _ _ l labels m).trans hK⟩
theorem risesG_ok {labels : List S_api_Label} {m : Nat} : ∀ (l : List S_api_Guild) (last : Int), risesG labels m last l = true → ∀ g ∈ l, hallOk g.1 = true
  | [], _, _, g, hg => by cases hg
  | a :: l, last, h, g, hg => by
    simp only [risesG, gOne, Bool.and_eq_true] at h
    rcases List.mem_cons.1 hg with rfl | hg
    · exact h.1.1
    · exact risesG_ok l a.1 h.2 g hg
theorem guildsB_eq (r : S_api_Realm) (h : inLabels r.1) : guildsBR r.2.2.2.1 r.1 r.2.2.1.length = guildsB r := by
  unfold guildsBR guildsB finG
  cases hr : risesG r.1 r.2.2.1.length (-1) r.2.2.2.1 with
  | false => simp
  | true =>
    rw [fin_eq r.1 r.2.2.2.1 h (risesG_ok _ _ hr)]
    simp
end Go.Proofs.YticimhklggikiaaDoor

/-! Plain specs: which realms may be, both ways. -/
namespace Go.Proofs.YticimhklggikiaaDoor
open Go.Ev
set_option linter.unusedVariables false
set_option linter.unusedSimpArgs false

def rightB (r : S_api_Realm) : Bool := labelsB r.1 && (linesB r && (accountsB r.2.2.1 && (guildsB r && (quotasB r.1.length r.2.2.2.2.1 && restB r))))
/-- What is asked of a realm that is looked at: numbers of 64 bits, lists that can be. -/
def okIn (r : S_api_Realm) : Bool := inLabelsB r.1 && decide (r.2.2.2.1.length ≤ Go.maxLen)
def sp_Right (x : S_api_Realm × Unit) : Option (Bool × Unit) := if okIn x.1 = true then some (rightB x.1, ()) else none
theorem labelsB_len {l : List S_api_Label} (h : labelsB l = true) : 1 ≤ l.length ∧ l.length ≤ 8 := by
  unfold labelsB within at h
  simp only [Bool.and_eq_true, decide_eq_true_eq] at h
  omega
theorem accountsB_len {l : List S_api_Account} (h : accountsB l = true) : 1 ≤ l.length ∧ l.length ≤ 8 := by
  unfold accountsB within at h
  simp only [Bool.and_eq_true, decide_eq_true_eq] at h
  omega
theorem guildsB_len {r : S_api_Realm} (h : guildsB r = true) : r.2.2.2.1.length ≤ 8 := by
  unfold guildsB finG at h
  simp only [Bool.and_eq_true, decide_eq_true_eq] at h
  exact h.2.1
abbrev gLabels : S_api_Realm × Unit → Option (Bool × Unit) := fun x => some (labelsB x.1.1, ())
abbrev gLines : S_api_Realm × Unit → Option (Bool × Unit) := fun x => some (linesB x.1, ())
abbrev gAccounts : S_api_Realm × Unit → Option (Bool × Unit) := fun x => some (accountsB x.1.2.2.1, ())
abbrev gRest : S_api_Realm × Unit → Option (Bool × Unit) := fun x => some (restB x.1, ())
theorem ev_Right : ∀ (x : A_realm_Right.I) y, sp_Right x = some y → ∃ K, evF (E_realm_Right gLabels gLines gAccounts sp_guilds sp_quotas gRest) K f_realm_Right A_realm_Right R_realm_Right x = some y := by
  rintro ⟨r, ⟨⟩⟩ y h
  have h0 (g1 : A_realm_labels.I → Option R_realm_labels.I) (g2 : A_realm_lines.I → Option R_realm_lines.I) (g3 : A_realm_accounts.I → Option R_realm_accounts.I) (g4 : A_realm_guilds.I → Option R_realm_guilds.I) (g5 : A_realm_quotas.I → Option R_realm_quotas.I) (g6 : A_realm_rest.I → Option R_realm_rest.I) (r : S_api_Realm) :
      evF (E_realm_Right g1 g2 g3 g4 g5 g6) 7 f_realm_Right A_realm_Right R_realm_Right (r, ()) = (g1 (r, ())).bind fun q => cond q.1 ((g2 (r, ())).bind fun q => cond q.1 ((g3 (r, ())).bind fun q => cond q.1 ((g4 (r, ())).bind fun q => cond q.1 ((g5 (r, ())).bind fun q => cond q.1 ((g6 (r, ())).bind fun q => cond q.1 (some (true, ())) (some (false, ()))) (some (false, ()))) (some (false, ()))) (some (false, ()))) (some (false, ()))) (some (false, ())) := by kernel_rfl
  have key (r : S_api_Realm) (y : Bool × Unit) (h : sp_Right (r, ()) = some y) : ((gLabels (r, ())).bind fun q => cond q.1 ((gLines (r, ())).bind fun q => cond q.1 ((gAccounts (r, ())).bind fun q => cond q.1 ((sp_guilds (r, ())).bind fun q => cond q.1 ((sp_quotas (r, ())).bind fun q => cond q.1 ((gRest (r, ())).bind fun q => cond q.1 (some (true, ())) (some (false, ()))) (some (false, ()))) (some (false, ()))) (some (false, ()))) (some (false, ()))) (some (false, ()))) = some y := by
    simp only [sp_Right] at h
    split at h
    · rename_i hc
      rw [← h]
      unfold okIn at hc
      simp only [Bool.and_eq_true, decide_eq_true_eq] at hc
      unfold rightB
      simp only [Option.bind_some]
      cases h1 : labelsB r.1 with
      | false => rfl
      | true =>
        cases h2 : linesB r with
        | false => rfl
        | true =>
          cases h3 : accountsB r.2.2.1 with
          | false => rfl
          | true =>
            have l1 := labelsB_len h1
            have l3 := accountsB_len h3
            have e4 : sp_guilds (r, ()) = some (guildsB r, ()) := by unfold sp_guilds; rw [if_pos (by simp only [Bool.and_eq_true, decide_eq_true_eq]; exact ⟨l1.2, l3.2, hc.2⟩)]
            have e5 : sp_quotas (r, ()) = some (quotasB r.1.length r.2.2.2.2.1, ()) := by unfold sp_quotas; rw [if_pos (by unfold within; simp only [Bool.and_eq_true, decide_eq_true_eq]; omega)]
            simp only [e4, e5, Option.bind_some, cond_true, Bool.true_and]
            cases guildsB r with
            | false => rfl
            | true =>
              cases quotasB r.1.length r.2.2.2.2.1 with
              | false => rfl
              | true => cases restB r <;> rfl
    · cases h
  exact ⟨7, (h0 _ _ _ _ _ _ r).trans (key r y h)⟩

/-! ### ref05.Right -/
abbrev gRLabels : List S_api_Label × Unit → Option (Bool × Unit) := fun x => some (labelsB x.1, ())
abbrev gRAccounts : List S_api_Account × Unit → Option (Bool × Unit) := fun x => some (accountsB x.1, ())
def tailR (r : S_api_Realm) : Bool := decide (r.2.2.2.2.1.length = r.1.length) && (quotasBR r.2.2.2.2.1 && restB r)
theorem w_Right_0 (K : Nat) (r : S_api_Realm) (h1 : 1 ≤ r.1.length ∧ r.1.length ≤ 8) (h2 : r.2.1.length ≤ 8) (n : Nat) (hn : r.2.1.length < n) :
    W_ref05_Right_0 K gRLabels gRAccounts sp_ref05_guilds sp_ref05_quotas n 0 r = some (!(r.2.1.any fun i => !within i 0 (Go.IntKind.wrap .i64 ((r.1.length : Int) - 1))) && tailR r, ()) := by
  have hmx : 8 ≤ Go.maxLen := by decide
  refine idx_loop0 (σ := Unit) (L := fun n i _ => W_ref05_Right_0 K gRLabels gRAccounts sp_ref05_guilds sp_ref05_quotas n i r) (len := r.2.1.length) (by omega)
    (F := fun i _ => some (!((r.2.1.drop i).any fun i => !within i 0 (Go.IntKind.wrap .i64 ((r.1.length : Int) - 1))) && tailR r, ())) (I := fun _ _ => True) ?_ ?_ n hn () trivial
  · intro n i s hi _ ih
    have ih' := ih () trivial
    have b0 : decide (0 ≤ (i : Int)) = true := decide_eq_true (by omega)
    have b1 : decide ((i : Int) < (r.2.1.length : Int)) = true := decide_eq_true (by omega)
    have hw := wrapS hi (show r.2.1.length ≤ Go.maxLen by omega)
    show B_ref05_Right_0 K gRLabels gRAccounts sp_ref05_guilds sp_ref05_quotas (W_ref05_Right_0 K gRLabels gRAccounts sp_ref05_guilds sp_ref05_quotas n) i r = _
    unfold B_ref05_Right_0
    simp only [b0, b1, cond_true, Int.toNat_natCast, hw, ih']
    rw [drop_getD (dflt (.int .i64)) hi, List.any_cons]
    have key : ∀ (x : Int) (z t : Bool), (bif decide (x < 0) then some (false, PUnit.unit) else bif decide (x ≥ (r.1.length : Int)) then some (false, PUnit.unit) else some (!z && t, ())) = some (!(!within x 0 (Go.IntKind.wrap .i64 ((r.1.length : Int) - 1)) || z) && t, ()) := by
      intro x z t
      rw [wrap64 (n := (r.1.length : Int) - 1) (by omega)]
      unfold within
      by_cases h3 : x < 0
      · rw [decide_eq_true h3, decide_eq_false (show ¬ (0 : Int) ≤ x by omega)]; rfl
      rw [decide_eq_false h3, decide_eq_true (show (0 : Int) ≤ x by omega)]
      by_cases h4 : x ≥ (r.1.length : Int)
      · rw [decide_eq_true h4, decide_eq_false (show ¬ x ≤ (r.1.length : Int) - 1 by omega)]; rfl
      rw [decide_eq_false h4, decide_eq_true (show x ≤ (r.1.length : Int) - 1 by omega)]
      cases z <;> rfl
    exact key _ _ _
  · intro n s _
    show B_ref05_Right_0 K gRLabels gRAccounts sp_ref05_guilds sp_ref05_quotas (W_ref05_Right_0 K gRLabels gRAccounts sp_ref05_guilds sp_ref05_quotas n) r.2.1.length r = _
    unfold B_ref05_Right_0
    rw [decide_eq_false (Int.lt_irrefl _), cond_false, List.drop_length]
    simp only [List.any_nil, Bool.not_false, Bool.true_and]
    unfold tailR
    by_cases hq : r.2.2.2.2.1.length = r.1.length
    · have e1 : ((r.2.2.2.2.1.length : Int) != (r.1.length : Int)) = false := by rw [hq]; simp
      have e2 : sp_ref05_quotas (r.2.2.2.2.1, ()) = some (quotasBR r.2.2.2.2.1, ()) := by
        unfold sp_ref05_quotas; rw [if_pos (show r.2.2.2.2.1.length ≤ 8 by omega)]
      rw [e1, cond_false, e2, Option.bind_some, decide_eq_true hq, Bool.true_and]
      cases quotasBR r.2.2.2.2.1 with
      | false => rfl
      | true =>
        have key : ∀ a b c d : Int, (bif decide (a ≥ 0) then bif decide (a ≤ 24) then bif decide (b ≥ 0) then bif decide (b ≤ 48) then bif decide (c ≥ 1) then bif decide (c ≤ 4) then bif decide (d ≥ 1) then bif decide (d ≤ 16) then some (true, PUnit.unit) else some (false, PUnit.unit) else some (false, PUnit.unit) else some (false, PUnit.unit) else some (false, PUnit.unit) else some (false, PUnit.unit) else some (false, PUnit.unit) else some (false, PUnit.unit) else some (false, PUnit.unit)) =
            some (within a 0 24 && (within b 0 48 && (within c 1 4 && within d 1 16)), ()) := by
          intro a b c d
          unfold within
          show (bif decide (0 ≤ a) then bif decide (a ≤ 24) then bif decide (0 ≤ b) then bif decide (b ≤ 48) then bif decide (1 ≤ c) then bif decide (c ≤ 4) then bif decide (1 ≤ d) then bif decide (d ≤ 16) then some (true, PUnit.unit) else some (false, PUnit.unit) else some (false, PUnit.unit) else some (false, PUnit.unit) else some (false, PUnit.unit) else some (false, PUnit.unit) else some (false, PUnit.unit) else some (false, PUnit.unit) else some (false, PUnit.unit)) = _
          cases decide (0 ≤ a) <;> cases decide (a ≤ 24) <;> cases decide (0 ≤ b) <;> cases decide (b ≤ 48) <;> cases decide (1 ≤ c) <;> cases decide (c ≤ 4) <;> cases decide (1 ≤ d) <;> cases decide (d ≤ 16) <;> rfl
        exact key _ _ _ _
    · have e1 : ((r.2.2.2.2.1.length : Int) != (r.1.length : Int)) = true := by rw [bne_iff_ne]; omega
      rw [e1, decide_eq_false hq]
      rfl
theorem quotas_eq {n : Nat} (h : 1 ≤ n) (l : List S_api_Quota) : (decide (l.length = n) && quotasBR l) = quotasB n l := by
  unfold quotasB quotasBR
  by_cases hn : l.length = n
  · rw [decide_eq_true hn, decide_eq_true (show 0 < l.length by omega)]
    simp only [Bool.true_and]
    exact Bool.and_comm _ _
  · rw [decide_eq_false hn]; rfl
theorem ev_ref05_Right' : ∀ (x : A_ref05_Right.I) y, sp_Right x = some y → ∃ K, evF (E_ref05_Right gRLabels gRAccounts sp_ref05_guilds sp_ref05_quotas) K f_ref05_Right A_ref05_Right R_ref05_Right x = some y := by
  rintro ⟨r, ⟨⟩⟩ y h
  have key (r : S_api_Realm) (y : Bool × Unit) (h : sp_Right (r, ()) = some y) : Q_ref05_Right 9 gRLabels gRAccounts sp_ref05_guilds sp_ref05_quotas r = some y := by
    simp only [sp_Right] at h
    split at h
    · rename_i hc
      rw [← h]
      unfold okIn at hc
      simp only [Bool.and_eq_true, decide_eq_true_eq] at hc
      unfold Q_ref05_Right Q0_ref05_Right rightB
      simp only [Option.bind_some]
      cases h1 : labelsB r.1 with
      | false => rfl
      | true =>
        have l1 := labelsB_len h1
        simp only [cond_true, Bool.true_and]
        unfold linesB within
        by_cases g1 : (r.2.1.length : Int) < 1
        · rw [decide_eq_true g1, decide_eq_false (show ¬ (1 : Int) ≤ (r.2.1.length : Int) by omega)]; rfl
        rw [decide_eq_false g1, decide_eq_true (show (1 : Int) ≤ (r.2.1.length : Int) by omega)]
        by_cases g2 : (r.2.1.length : Int) > 8
        · rw [decide_eq_true g2, decide_eq_false (show ¬ (r.2.1.length : Int) ≤ 8 by omega)]; rfl
        rw [decide_eq_false g2, decide_eq_true (show (r.2.1.length : Int) ≤ 8 by omega)]
        simp only [cond_false, Bool.true_and]
        have hL : (W_ref05_Right_0 9 gRLabels gRAccounts sp_ref05_guilds sp_ref05_quotas 9 (Int.ofNat 0) r) = _ := w_Right_0 9 r l1 (by omega) 9 (by omega)
        rw [hL]
        cases h3 : accountsB r.2.2.1 with
        | false => rw [cond_false]; simp
        | true =>
          have l3 := accountsB_len h3
          have e4 : sp_ref05_guilds (r.2.2.2.1, r.1, (r.2.2.1.length : Int), ()) = some (guildsB r, ()) := by
            unfold sp_ref05_guilds
            rw [if_pos (by simp only [Bool.and_eq_true, decide_eq_true_eq]; exact ⟨l1.2, by omega, by omega, hc.2, hc.1⟩)]
            rw [← guildsB_eq r (inLabelsB_iff hc.1), Int.toNat_natCast]
          rw [cond_true, e4, Option.bind_some]
          simp only [Bool.true_and]
          cases guildsB r with
          | false => rw [cond_false]; simp
          | true =>
            rw [cond_true]
            unfold tailR
            rw [← Bool.and_assoc (decide _), quotas_eq l1.1]
            rfl
    · cases h
  exact ⟨9, (ev_ref05_Right 9 _ _ _ _ r).trans (key r y h)⟩
end Go.Proofs.YticimhklggikiaaDoor

/-! Plain specs: what a realm needs, by one function of a realm each; alive; the laws. -/
namespace Go.Proofs.YticimhklggikiaaDoor
open Go.Ev
set_option linter.unusedVariables false
set_option linter.unusedSimpArgs false

theorem quotasL_slots : ∀ (qs : List S_api_Quota) (left : Int), quotasL left qs = true → ∀ q ∈ qs, slotsB q = true
  | [], _, _, q, hq => by cases hq
  | a :: qs, left, h, q, hq => by
    simp only [quotasL, Bool.and_eq_true] at h
    rcases List.mem_cons.1 hq with rfl | hq
    · exact h.2.1
    · exact quotasL_slots qs _ h.2.2 q hq
theorem rightB_ok {r : S_api_Realm} (h : rightB r = true) : OkR r := by
  unfold rightB at h
  simp only [Bool.and_eq_true] at h
  obtain ⟨h1, h2, h3, h4, h5, h6⟩ := h
  have l1 := labelsB_len h1
  have l3 := accountsB_len h3
  have l4 := guildsB_len h4
  unfold linesB within at h2
  simp only [Bool.and_eq_true, decide_eq_true_eq] at h2
  unfold quotasB at h5
  simp only [Bool.and_eq_true, decide_eq_true_eq] at h5
  unfold restB at h6
  simp only [Bool.and_eq_true] at h6
  have l5 : r.2.2.2.2.1.length ≤ 8 := by omega
  refine ⟨⟨?_, ?_⟩, l3.2, l4, l5, fun q hq => ?_, h6.1, h6.2.1⟩
  · show 1 ≤ r.2.1.length
    omega
  · show r.2.1.length ≤ 8
    omega
  · have := quotasL_slots _ _ h5.2.2 q hq
    unfold slotsB numbersV at this
    simp only [List.any_cons, List.any_nil, Bool.or_false, Bool.not_eq_true', Bool.or_eq_false_iff, Bool.not_eq_false'] at this
    exact this
theorem rightB_rounds {r : S_api_Realm} (h : rightB r = true) : within r.2.2.2.2.2.2.2.2.1 1 16 = true := by
  unfold rightB restB at h
  simp only [Bool.and_eq_true] at h
  exact h.2.2.2.2.2.2.2.2
def onR {α : Type} (f : S_api_Realm → α) (x : S_api_Realm × Unit) : Option α := if okIn x.1 = true then some (f x.1) else none
theorem onR_some {α : Type} {f : S_api_Realm → α} {r : S_api_Realm} (h : okIn r = true) : onR f (r, ()) = some (f r) := by unfold onR; rw [if_pos h]
theorem onR_ev {α : Type} {f : S_api_Realm → α} {X : Nat → S_api_Realm → Option α} (h : ∀ r, okIn r = true → ∃ K, X K r = some (f r)) (r : S_api_Realm) (y : α) (hy : onR f (r, ()) = some y) : ∃ K, X K r = some y := by
  unfold onR at hy
  split at hy
  · rename_i hc; rw [← hy]; exact h r hc
  · cases hy
theorem sp_Right_on {r : S_api_Realm} (h : okIn r = true) : sp_Right (r, ()) = some (rightB r, ()) := by unfold sp_Right; rw [if_pos h]
def imgR (r : S_api_Realm) : Int := imgV (rightB r) r
def recR (r : S_api_Realm) : Int := recV (rightB r) r
def planR (r : S_api_Realm) : S_api_Plan × Int := planOf (rightB r) (imgR r) (recR r) r
def needP (p : S_api_Plan) : Int := if mayP p = true then 2 * p.1 + p.2.1 * p.2.2.1 else 0
abbrev sp_Image : S_api_Realm × Unit → Option (Int × Unit) := onR fun r => (imgR r, ())
abbrev sp_Record : S_api_Realm × Unit → Option (Int × Unit) := onR fun r => (recR r, ())
abbrev sp_Plan : S_api_Realm × Unit → Option (S_api_Plan × Int × Unit) := onR fun r => ((planR r).1, (planR r).2, ())
abbrev gNeed : S_api_Plan × Unit → Option (Int × Unit) := fun x => some (needP x.1, ())
abbrev sp_Sectors : S_api_Realm × Unit → Option (Int × Unit) := onR fun r => (needP (planR r).1, ())
theorem ev_Image : ∀ (x : A_bound_Image.I) y, sp_Image x = some y → ∃ K, evF (E_bound_Image sp_Right sp_shelf) K f_bound_Image A_bound_Image R_bound_Image x = some y := fun x y hy =>
  onR_ev (X := fun K r => evF (E_bound_Image sp_Right sp_shelf) K f_bound_Image A_bound_Image R_bound_Image (r, ())) (fun r h => t_Image (sp_Right_on h) rightB_ok) x.1 y hy
theorem ev_ref24_Image' : ∀ (x : A_ref24_Image.I) y, sp_Image x = some y → ∃ K, evF (E_ref24_Image sp_Right) K f_ref24_Image A_ref24_Image R_ref24_Image x = some y := fun x y hy =>
  onR_ev (X := fun K r => evF (E_ref24_Image sp_Right) K f_ref24_Image A_ref24_Image R_ref24_Image (r, ())) (fun r h => t_ref24_Image (sp_Right_on h) rightB_ok) x.1 y hy
theorem ev_Record : ∀ (x : A_bound_Record.I) y, sp_Record x = some y → ∃ K, evF (E_bound_Record sp_Right) K f_bound_Record A_bound_Record R_bound_Record x = some y := fun x y hy =>
  onR_ev (X := fun K r => evF (E_bound_Record sp_Right) K f_bound_Record A_bound_Record R_bound_Record (r, ())) (fun r h => t_Record (sp_Right_on h) rightB_ok) x.1 y hy
theorem ev_ref24_Record' : ∀ (x : A_ref24_Record.I) y, sp_Record x = some y → ∃ K, evF (E_ref24_Record sp_Right) K f_ref24_Record A_ref24_Record R_ref24_Record x = some y := fun x y hy =>
  onR_ev (X := fun K r => evF (E_ref24_Record sp_Right) K f_ref24_Record A_ref24_Record R_ref24_Record (r, ())) (fun r h => t_ref24_Record (sp_Right_on h) rightB_ok) x.1 y hy
theorem numsR (r : S_api_Realm) : rightB r = true → (1 ≤ imgR r ∧ imgR r ≤ 500000) ∧ 1 ≤ recR r ∧ recR r ≤ 500 := by
  intro h
  have ho := rightB_ok h
  have h1 := imgV_le ho
  unfold imgR recR
  rw [h]
  refine ⟨h1, ?_⟩
  unfold recV
  rw [if_pos rfl]
  have := ho.lines
  omega
theorem ev_Plan : ∀ (x : A_bound_Plan.I) y, sp_Plan x = some y → ∃ K, evF (E_bound_Plan sp_Right (sp_Plan_1 sp_Image) sp_least (sp_Plan_2 sp_Record)) K f_bound_Plan A_bound_Plan R_bound_Plan x = some y := fun x y hy =>
  onR_ev (X := fun K r => evF (E_bound_Plan sp_Right (sp_Plan_1 sp_Image) sp_least (sp_Plan_2 sp_Record)) K f_bound_Plan A_bound_Plan R_bound_Plan (r, ())) (fun r h => t_Plan (sp_Right_on h) (onR_some h) (onR_some h) fun hb => by
    have := numsR r hb; omega) x.1 y hy
theorem ev_ref24_Plan' : ∀ (x : A_ref24_Plan.I) y, sp_Plan x = some y → ∃ K, evF (E_ref24_Plan sp_Right sp_Image sp_up sp_Record) K f_ref24_Plan A_ref24_Plan R_ref24_Plan x = some y := fun x y hy =>
  onR_ev (X := fun K r => evF (E_ref24_Plan sp_Right sp_Image sp_up sp_Record) K f_ref24_Plan A_ref24_Plan R_ref24_Plan (r, ())) (fun r h => t_ref24_Plan (sp_Right_on h) (onR_some h) (onR_some h) fun hb => by
    have := numsR r hb; omega) x.1 y hy
theorem ev_Sectors : ∀ (x : A_bound_Sectors.I) y, sp_Sectors x = some y → ∃ K, evF (E_bound_Sectors sp_Plan gNeed) K f_bound_Sectors A_bound_Sectors R_bound_Sectors x = some y := fun x y hy =>
  onR_ev (X := fun K r => evF (E_bound_Sectors sp_Plan gNeed) K f_bound_Sectors A_bound_Sectors R_bound_Sectors (r, ())) (fun r h => ⟨0, (ev_bound_Sectors 0 sp_Plan gNeed r).trans (by
    unfold Q_bound_Sectors Q0_bound_Sectors
    rw [show sp_Plan (r, ()) = _ from onR_some h]
    rfl)⟩) x.1 y hy

/-! ### alive -/
def smallR : S_api_Realm := ([(0, 0, ()), (0, 1, ()), (1, 1, ())], [0, 1, 2], [(⟨#[97, 110, 110]⟩, ⟨#[97]⟩, 1, true, ()), (⟨#[98, 111, 98]⟩, ⟨#[98]⟩, 0, false, ())], [(0, 0, ())], [(2, 2, 2, 2, 2, 1000, ()), (2, 2, 2, 2, 2, 1000, ()), (2, 2, 2, 2, 2, 1000, ())], 4, 6, 2, 3, ())
abbrev gSmallR : Unit → Option (S_api_Realm × Unit) := fun _ => some (smallR, ())
theorem ev_Small : ∀ (x : A_law05_Small.I) y, gSmallR x = some y → ∃ K, evF E_law05_Small K f_law05_Small A_law05_Small R_law05_Small x = some y := by
  rintro ⟨⟩ y h
  rw [← h]
  exact ⟨0, (ev_law05_Small 0).trans rfl⟩
abbrev gAlive : Unit → Option (Bool × Unit) := fun _ => some (true, ())
theorem alive_eq : Q_law24_alive 0 gSmallR sp_Plan sp_Record sp_Image sp_Sectors = some (true, ()) := by kernel_rfl
theorem ev_alive : ∀ (x : A_law24_alive.I) y, gAlive x = some y → ∃ K, evF (E_law24_alive gSmallR sp_Plan sp_Record sp_Image sp_Sectors) K f_law24_alive A_law24_alive R_law24_alive x = some y := by
  rintro ⟨⟩ y h
  rw [← h]
  exact ⟨0, (ev_law24_alive 0 _ _ _ _ _).trans alive_eq⟩

/-! ### The laws -/
abbrev sp_law : S_api_Realm × Unit → Option (Bool × Unit) := onR fun r => (true, ())
theorem eqI_plan (p : S_api_Plan) : eqI T_api_Plan p p = true := by
  obtain ⟨a, b, c, ⟨⟩⟩ := p
  show cond ((a : Int) == a) (cond ((b : Int) == b) (cond ((c : Int) == c) true false) false) false = true
  simp
theorem wrap_need (p : S_api_Plan) (h : needP p = 2 * p.1 + p.2.1 * p.2.2.1) (h1 : 0 ≤ p.1 ∧ p.1 ≤ 1000000) (h2 : 0 ≤ p.2.1 * p.2.2.1 ∧ p.2.1 * p.2.2.1 ≤ 1000000) : (needP p == Go.IntKind.wrap .i64 (Go.IntKind.wrap .i64 (2 * p.1) + Go.IntKind.wrap .i64 (p.2.1 * p.2.2.1))) = true := by
  rw [wrap64 (n := 2 * p.1) (by omega), wrap64 (n := p.2.1 * p.2.2.1) (by omega), wrap64 (by omega), h]
  simp
/-- What a plan is, of a realm that may be. -/
theorem planR_ok (r : S_api_Realm) (h : rightB r = true) : ∃ a p e : Int, planR r = ((a, p, e, ()), 0) ∧ a = (imgR r + 119) / 108 ∧ e = (recR r + 111) / 108 ∧ (1 ≤ p ∧ p ≤ 16) ∧ (1 ≤ a ∧ a ≤ 4700) ∧ (1 ≤ e ∧ e ≤ 6) ∧ (0 ≤ p * e ∧ p * e ≤ 96) ∧ mayP (a, p, e, ()) = true := by
  have h1 := numsR r h
  have h2 := rightB_rounds h
  unfold within at h2
  simp only [Bool.and_eq_true, decide_eq_true_eq] at h2
  refine ⟨(imgR r + 119) / 108, r.2.2.2.2.2.2.2.2.1, (recR r + 111) / 108, ?_, rfl, rfl, ?_⟩
  · unfold planR planOf
    rw [if_pos h]
    rfl
  · have key : ∀ p a e : Int, (1 ≤ p ∧ p ≤ 16) → (1 ≤ a ∧ a ≤ 4700) → (1 ≤ e ∧ e ≤ 6) → (1 ≤ p ∧ p ≤ 16) ∧ (1 ≤ a ∧ a ≤ 4700) ∧ (1 ≤ e ∧ e ≤ 6) ∧ (0 ≤ p * e ∧ p * e ≤ 96) ∧ mayP (a, p, e, ()) = true := by
      intro p a e hp ha he
      have hpe : 0 ≤ p * e := Int.mul_nonneg (by omega) (by omega)
      have hpe2 : p * e ≤ 16 * 6 := Int.mul_le_mul (by omega) (by omega) (by omega) (by omega)
      refine ⟨hp, ha, he, ⟨hpe, by omega⟩, ?_⟩
      unfold mayP within
      simp only [Bool.and_eq_true, decide_eq_true_eq]
      have g : 2 * a + p * e ≤ 16384 := by omega
      exact ⟨⟨⟨⟨by omega, by omega⟩, by omega, by omega⟩, by omega, by omega⟩, g⟩
    exact key _ _ _ h2 (by omega) (by omega)
theorem planR_no (r : S_api_Realm) (h : rightB r = false) : planR r = ((0, 0, 0, ()), 1) := by
  unfold planR planOf
  rw [h]
  rfl
theorem tells_eq (r : S_api_Realm) (h : okIn r = true) : Q_law24_BoundTells 0 sp_Plan sp_Plan gAlive sp_Image sp_Image sp_Record sp_Record sp_Sectors r = some (true, ()) := by
  unfold Q_law24_BoundTells Q0_law24_BoundTells
  rw [show sp_Plan (r, ()) = _ from onR_some h, show sp_Image (r, ()) = _ from onR_some h, show sp_Record (r, ()) = _ from onR_some h, show sp_Sectors (r, ()) = _ from onR_some h]
  simp only [Option.bind_some, beq_self_eq_true, cond_true]
  rw [eqI_plan]
  have hw : (needP (planR r).1 == Go.IntKind.wrap .i64 (Go.IntKind.wrap .i64 (2 * (planR r).1.1) + Go.IntKind.wrap .i64 ((planR r).1.2.1 * (planR r).1.2.2.1))) = true := by
    cases hr : rightB r with
    | true =>
      obtain ⟨a, p, e, h1, _, _, h2, h3, h4, h5, h6⟩ := planR_ok r hr
      rw [h1]
      have g1 : 0 ≤ a ∧ a ≤ 1000000 := by omega
      have g2 : 0 ≤ p * e ∧ p * e ≤ 1000000 := by omega
      exact wrap_need (a, p, e, ()) (by unfold needP; rw [if_pos h6]) g1 g2
    | false => rw [planR_no r hr]; rfl
  rw [cond_true, hw]
  rfl
theorem ev_Tells : ∀ (x : A_law24_BoundTells.I) y, sp_law x = some y → ∃ K, evF (E_law24_BoundTells sp_Plan sp_Plan gAlive sp_Image sp_Image sp_Record sp_Record sp_Sectors) K f_law24_BoundTells A_law24_BoundTells R_law24_BoundTells x = some y := fun x y hy =>
  onR_ev (X := fun K r => evF (E_law24_BoundTells sp_Plan sp_Plan gAlive sp_Image sp_Image sp_Record sp_Record sp_Sectors) K f_law24_BoundTells A_law24_BoundTells R_law24_BoundTells (r, ())) (fun r h => ⟨0, (ev_law24_BoundTells 0 _ _ _ _ _ _ _ _ r).trans (tells_eq r h)⟩) x.1 y hy

theorem fits_num (a p e i c : Int) (ha : a = (i + 119) / 108) (he : e = (c + 111) / 108) (hi : 1 ≤ i ∧ i ≤ 500000) (hc : 1 ≤ c ∧ c ≤ 500) (hp : 1 ≤ p ∧ p ≤ 16) (h2 : 1 ≤ a ∧ a ≤ 4700) (h3 : 1 ≤ e ∧ e ≤ 6) (h4 : 0 ≤ p * e ∧ p * e ≤ 96) (hm : mayP (a, p, e, ()) = true) :
    (roomV (a, p, e, ())).1 ≥ i ∧ (roomV (a, p, e, ())).2 ≥ c ∧ (roomV (a - 1, p, e, ())).1 < i ∧ (roomV (a, p, e - 1, ())).2 < c ∧ 0 < needP (a, p, e, ()) ∧ needP (a, p, e, ()) ≤ 16384 := by
  have n1 : needP (a, p, e, ()) = 2 * a + p * e := by unfold needP; rw [if_pos hm]
  have r1 : roomV (a, p, e, ()) = (if roomA a - 8 < 0 then 0 else roomA a - 8, roomA e) := by unfold roomV; rw [if_pos hm]
  have ra : roomA a = 108 * a - 4 := by unfold roomA; rw [if_neg (by omega)]
  have re : roomA e = 108 * e - 4 := by unfold roomA; rw [if_neg (by omega)]
  rw [n1, r1, ra, re, if_neg (by omega)]
  refine ⟨by show 108 * a - 4 - 8 ≥ i; omega, by show 108 * e - 4 ≥ c; omega, ?_, ?_, by omega, by omega⟩
  · unfold roomV
    split
    · rename_i hq
      have hq' := hq
      unfold mayP within at hq'
      simp only [Bool.and_eq_true, decide_eq_true_eq] at hq'
      have ra' : roomA (a - 1) = 108 * (a - 1) - 4 := by unfold roomA; rw [if_neg (by omega)]
      show (if roomA (a - 1) - 8 < 0 then 0 else roomA (a - 1) - 8) < i
      rw [ra']
      split <;> omega
    · show (0 : Int) < i
      omega
  · unfold roomV
    split
    · rename_i hq
      have hq' := hq
      unfold mayP within at hq'
      simp only [Bool.and_eq_true, decide_eq_true_eq] at hq'
      have ra' : roomA (e - 1) = 108 * (e - 1) - 4 := by unfold roomA; rw [if_neg (by omega)]
      show roomA (e - 1) < c
      rw [ra']
      omega
    · show (0 : Int) < c
      omega
abbrev gRoom' : S_api_Plan × Unit → Option (Int × Int × Unit) := fun x => some ((roomV x.1).1, (roomV x.1).2, ())
theorem fits_eq (r : S_api_Realm) (h : okIn r = true) : Q_law24_BoundFits 0 sp_Plan gAlive sp_Right gRoom' gNeed sp_Sectors sp_Image sp_Record r = some (true, ()) := by
  unfold Q_law24_BoundFits Q0_law24_BoundFits
  rw [show sp_Plan (r, ()) = _ from onR_some h, show sp_Image (r, ()) = _ from onR_some h, show sp_Record (r, ()) = _ from onR_some h, show sp_Sectors (r, ()) = _ from onR_some h, sp_Right_on h]
  cases hr : rightB r with
  | false =>
    rw [planR_no r hr]
    rfl
  | true =>
    obtain ⟨a, p, e, h1, h2, h3, hp, ha, he, hpe, hm⟩ := planR_ok r hr
    have hn := numsR r hr
    obtain ⟨k1, k2, k3, k4, k5, k6⟩ := fits_num a p e (imgR r) (recR r) h2 h3 hn.1 hn.2 hp ha he hpe hm
    rw [h1]
    have w1 : Go.IntKind.wrap .i64 (a - 1) = a - 1 := wrap64 (by omega)
    have w2 : Go.IntKind.wrap .i64 (a - 1 + 1) = a := by rw [wrap64 (by omega)]; omega
    have w3 : Go.IntKind.wrap .i64 (e - 1) = e - 1 := wrap64 (by omega)
    have w4 : Go.IntKind.wrap .i64 (e - 1 + 1) = e := by rw [wrap64 (by omega)]; omega
    have e0 : ((0 : Int) != 0) = false := rfl
    simp only [Option.bind_some, w1, w2, w3, w4, e0, cond_false, cond_true]
    rw [decide_eq_true (show needP (a, p, e, ()) > 0 from k5), decide_eq_true k6, decide_eq_true k1, decide_eq_true k2, decide_eq_true k3, decide_eq_true k4]
    simp
theorem ev_Fits : ∀ (x : A_law24_BoundFits.I) y, sp_law x = some y → ∃ K, evF (E_law24_BoundFits sp_Plan gAlive sp_Right gRoom' gNeed sp_Sectors sp_Image sp_Record) K f_law24_BoundFits A_law24_BoundFits R_law24_BoundFits x = some y := fun x y hy =>
  onR_ev (X := fun K r => evF (E_law24_BoundFits sp_Plan gAlive sp_Right gRoom' gNeed sp_Sectors sp_Image sp_Record) K f_law24_BoundFits A_law24_BoundFits R_law24_BoundFits (r, ())) (fun r h => ⟨0, (ev_law24_BoundFits 0 _ _ _ _ _ _ _ _ r).trans (fits_eq r h)⟩) x.1 y hy
end Go.Proofs.YticimhklggikiaaDoor

/-! Every function's contract, from leaf to root. -/
namespace Go.Proofs.YticimhklggikiaaDoor
open Go.Ev
set_option linter.unusedVariables false

theorem ev_of {E : Env} {fn : Func} {a r : Ty} {spec : a.I → Option r.I} (t : ∀ x, ∃ K, evF E K fn a r x = spec x) : ∀ x y, spec x = some y → ∃ K, evF E K fn a r x = some y := fun x y h =>
  let ⟨K, e⟩ := t x
  ⟨K, e.trans h⟩
section
variable {G : FH} (hb : EnvOk Tryd.prog G ⟨types, [], glob, 0⟩)
include hb
abbrev Sd (G : FH) (n : Nat) (a r : Ty) (spec : a.I → Option r.I) : Prop := SndF Tryd.prog G n ⟨n, a, r, 0, spec⟩
theorem c_within : Sd G n_realm_within A_realm_within R_realm_within gWithin := snd_realm_within hb (ev_of t_realm_within)
theorem c_labelRight : Sd G n_label_Right A_label_Right R_label_Right gLabelRight := snd_label_Right hb (ev_of t_label_Right)
theorem c_labels1 : Sd G n_realm_labels_1 A_realm_labels_1 R_realm_labels_1 gLabels1 := snd_realm_labels_1 hb (c_labelRight hb) (ev_of t_labels_1)
theorem c_idxL : Sd G n_slices_IndexFunc___api_Label_api_Label_ A_slices_IndexFunc___api_Label_api_Label_ R_slices_IndexFunc___api_Label_api_Label_ (sp_IndexFunc T_api_Label) := snd_slices_IndexFunc___api_Label_api_Label_ hb ev_IndexFunc_Label
theorem c_conL : Sd G n_slices_ContainsFunc___api_Label_api_Label_ A_slices_ContainsFunc___api_Label_api_Label_ R_slices_ContainsFunc___api_Label_api_Label_ (sp_ContainsFunc T_api_Label) := snd_slices_ContainsFunc___api_Label_api_Label_ hb (c_idxL hb) ev_ContainsFunc_Label
theorem c_idxI : Sd G n_slices_IndexFunc___int_int_ A_slices_IndexFunc___int_int_ R_slices_IndexFunc___int_int_ (sp_IndexFunc (.int .i64)) := snd_slices_IndexFunc___int_int_ hb ev_IndexFunc_Int
theorem c_conI : Sd G n_slices_ContainsFunc___int_int_ A_slices_ContainsFunc___int_int_ R_slices_ContainsFunc___int_int_ (sp_ContainsFunc (.int .i64)) := snd_slices_ContainsFunc___int_int_ hb (c_idxI hb) ev_ContainsFunc_Int
theorem c_idxA : Sd G n_slices_IndexFunc___api_Account_api_Account_ A_slices_IndexFunc___api_Account_api_Account_ R_slices_IndexFunc___api_Account_api_Account_ (sp_IndexFunc T_api_Account) := snd_slices_IndexFunc___api_Account_api_Account_ hb ev_IndexFunc_Account
theorem c_conA : Sd G n_slices_ContainsFunc___api_Account_api_Account_ A_slices_ContainsFunc___api_Account_api_Account_ R_slices_ContainsFunc___api_Account_api_Account_ (sp_ContainsFunc T_api_Account) := snd_slices_ContainsFunc___api_Account_api_Account_ hb (c_idxA hb) ev_ContainsFunc_Account
theorem c_idxB : Sd G n_slices_IndexFunc___byte_byte_ A_slices_IndexFunc___byte_byte_ R_slices_IndexFunc___byte_byte_ (sp_IndexFunc (.int .u8)) := snd_slices_IndexFunc___byte_byte_ hb ev_IndexFunc_Byte
theorem c_conB : Sd G n_slices_ContainsFunc___byte_byte_ A_slices_ContainsFunc___byte_byte_ R_slices_ContainsFunc___byte_byte_ (sp_ContainsFunc (.int .u8)) := snd_slices_ContainsFunc___byte_byte_ hb (c_idxB hb) ev_ContainsFunc_Byte
theorem c_cmpI : Sd G n_cmp_Compare_int_ A_cmp_Compare_int_ R_cmp_Compare_int_ gCmpI := snd_cmp_Compare_int_ hb (snd_cmp_isNaN_int_ hb (spec := fun _ => some (false, ())) (ev_of t_cmp_isNaN_int)) (ev_of t_cmp_Compare_int)
theorem c_cmpU : Sd G n_cmp_Compare_uint64_ A_cmp_Compare_uint64_ R_cmp_Compare_uint64_ gCmpU := snd_cmp_Compare_uint64_ hb (snd_cmp_isNaN_uint64_ hb (spec := fun _ => some (false, ())) (ev_of t_cmp_isNaN_uint64)) (ev_of t_cmp_Compare_uint64)
theorem c_or : Sd G n_cmp_Or_int_ A_cmp_Or_int_ R_cmp_Or_int_ sp_Or := snd_cmp_Or_int_ hb ev_Or
theorem c_labelCmp : Sd G n_label_Cmp A_label_Cmp R_label_Cmp gLabelCmp := snd_label_Cmp hb (c_cmpI hb) (c_cmpU hb) (c_or hb) (ev_of t_label_Cmp)
theorem c_labels : Sd G n_realm_labels A_realm_labels R_realm_labels gLabels := snd_realm_labels hb (c_labels1 hb) (c_within hb) (c_conL hb) (c_labelCmp hb) (ev_of t_labels)
theorem c_lines : Sd G n_realm_lines A_realm_lines R_realm_lines gLines := snd_realm_lines hb (snd_realm_lines_1 hb (c_within hb) ev_lines_1) (c_within hb) (c_conI hb) (ev_of t_lines)
theorem c_small : Sd G n_name_small A_name_small R_name_small gSmall := snd_name_small hb (ev_of t_name_small)
theorem c_word : Sd G n_name_Right_1 A_name_Right_1 R_name_Right_1 gWord := snd_name_Right_1 hb (c_small hb) (snd_name_digit hb (spec := fun x => some (digit x.1, ())) (ev_of t_name_digit)) (ev_of t_name_Right_1)
theorem c_all : Sd G n_name_all A_name_all R_name_all sp_all := snd_name_all hb (snd_name_all_1 hb ev_all_1) (c_conB hb) ev_all
theorem c_name : Sd G n_name_Right A_name_Right R_name_Right gName := snd_name_Right hb (c_small hb) (c_all hb) (c_word hb) (ev_of t_name_Right)
theorem c_accounts : Sd G n_realm_accounts A_realm_accounts R_realm_accounts gAccounts := snd_realm_accounts hb (snd_realm_accounts_1 hb (c_name hb) (c_within hb) (ev_of t_accounts_1)) (c_within hb) (c_conA hb) (snd_realm_callNames hb ev_callNames) (snd_name_Apart hb ev_Apart) (ev_of t_accounts)
theorem c_contains : Sd G n_slices_Contains___api_Label_api_Label_ A_slices_Contains___api_Label_api_Label_ R_slices_Contains___api_Label_api_Label_ sp_Contains := snd_slices_Contains___api_Label_api_Label_ hb (snd_slices_Index___api_Label_api_Label_ hb ev_Index) ev_Contains
theorem c_guilds : Sd G n_realm_guilds A_realm_guilds R_realm_guilds sp_guilds := snd_realm_guilds hb (snd_label_Hall hb (spec := sp_labelHall) (ev_of t_label_Hall)) (c_within hb) (c_contains hb) (snd_realm_guilds_1 hb ev_guilds_1) (c_conL hb) ev_guilds
theorem c_quotas : Sd G n_realm_quotas A_realm_quotas R_realm_quotas sp_quotas := snd_realm_quotas hb (snd_realm_quotas_1 hb (c_within hb) (ev_of t_quotas_1)) (snd_realm_numbers hb (ev_of t_numbers)) (c_conI hb) ev_quotas
theorem c_Right : Sd G n_realm_Right A_realm_Right R_realm_Right sp_Right := snd_realm_Right hb (c_labels hb) (c_lines hb) (c_accounts hb) (c_guilds hb) (c_quotas hb) (snd_realm_rest hb (spec := gRest) (c_within hb) (ev_of t_rest)) ev_Right
theorem c_ref05Right : Sd G n_ref05_Right A_ref05_Right R_ref05_Right sp_Right := snd_ref05_Right hb
  (snd_ref05_labels hb (spec := gRLabels) (snd_ref01_Right hb (spec := gRef01Right) (ev_of t_ref01_Right)) (snd_ref01_Cmp hb (spec := gRef01Cmp) (ev_of t_ref01_Cmp)) (ev_of t_ref05_labels))
  (snd_ref05_accounts hb (spec := gRAccounts) (snd_ref03_Right hb (spec := gNm) (ev_of t_ref03_Right)) (ev_of t_ref05_accounts))
  (snd_ref05_guilds hb (snd_ref05_hall hb ev_hall) (snd_ref05_place hb ev_place) (snd_ref01_Has hb ev_Has) (snd_ref05_has hb ev_has) ev_ref05_guilds')
  (snd_ref05_quotas hb (snd_ref05_slots hb (spec := gSlots) (ev_of t_ref05_slots)) ev_ref05_quotas) ev_ref05_Right'
theorem c_may : Sd G n_vault_may A_vault_may R_vault_may gMay := snd_vault_may hb (ev_of t_vault_may)
theorem c_vRoom : Sd G n_vault_Room A_vault_Room R_vault_Room gRoom' := snd_vault_Room hb (c_may hb) (snd_area_Room hb ev_area_Room) (ev_of t_vault_Room)
theorem c_need : Sd G n_vault_Need A_vault_Need R_vault_Need gNeed := snd_vault_Need hb (c_may hb) (ev_of t_vault_Need)
theorem c_image : Sd G n_bound_Image A_bound_Image R_bound_Image sp_Image := snd_bound_Image hb (c_Right hb) (snd_bound_shelf hb ev_shelf) ev_Image
theorem c_record : Sd G n_bound_Record A_bound_Record R_bound_Record sp_Record := snd_bound_Record hb (c_Right hb) ev_Record
theorem c_image' : Sd G n_ref24_Image A_ref24_Image R_ref24_Image sp_Image := snd_ref24_Image hb (c_ref05Right hb) ev_ref24_Image'
theorem c_record' : Sd G n_ref24_Record A_ref24_Record R_ref24_Record sp_Record := snd_ref24_Record hb (c_ref05Right hb) ev_ref24_Record'
theorem c_plan : Sd G n_bound_Plan A_bound_Plan R_bound_Plan sp_Plan := snd_bound_Plan hb (c_Right hb) (snd_bound_Plan_1 hb (c_vRoom hb) (c_image hb) (ev_Plan_1 sp_Image)) (snd_bound_least hb ev_least) (snd_bound_Plan_2 hb (c_vRoom hb) (c_record hb) (ev_Plan_2 sp_Record)) ev_Plan
theorem c_plan' : Sd G n_ref24_Plan A_ref24_Plan R_ref24_Plan sp_Plan := snd_ref24_Plan hb (c_ref05Right hb) (c_image' hb) (snd_ref24_up hb ev_up) (c_record' hb) ev_ref24_Plan'
theorem c_sectors : Sd G n_bound_Sectors A_bound_Sectors R_bound_Sectors sp_Sectors := snd_bound_Sectors hb (c_plan hb) (c_need hb) ev_Sectors
theorem c_alive : Sd G n_law24_alive A_law24_alive R_law24_alive gAlive := snd_law24_alive hb (snd_law05_Small hb ev_Small) (c_plan hb) (c_record hb) (c_image hb) (c_sectors hb) ev_alive
theorem c_Tells : Sd G n_law24_BoundTells A_law24_BoundTells R_law24_BoundTells sp_law := snd_law24_BoundTells hb (c_plan hb) (c_plan' hb) (c_alive hb) (c_image hb) (c_image' hb) (c_record hb) (c_record' hb) (c_sectors hb) ev_Tells
theorem c_Fits : Sd G n_law24_BoundFits A_law24_BoundFits R_law24_BoundFits sp_law := snd_law24_BoundFits hb (c_plan hb) (c_alive hb) (c_Right hb) (c_vRoom hb) (c_need hb) (c_sectors hb) (c_image hb) (c_record hb) ev_Fits
end
end Go.Proofs.YticimhklggikiaaDoor
