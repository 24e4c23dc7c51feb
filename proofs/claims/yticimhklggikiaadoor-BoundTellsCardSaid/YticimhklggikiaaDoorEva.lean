import Derived.Calls
import Derived.KernelRfl
import Derived.Below
import Derived.Laws.Cells
import Derived.Lib.FrozenHead
import Derived.ChangeKeysEq
import Derived.Laws.CopyRow
/-! An evaluator of the model's code over typed values, in continuation style: what a function computes, with no memory of others in sight. -/
namespace Go.Ev

inductive Ty where
  | unit | bool | int (k : IntKind) | str | pair (a b : Ty) | st (a : Ty) | arr (n : Nat) (a : Ty) | sl (a : Ty) | ptr (a : Ty) | fn (a b : Ty)
  deriving DecidableEq

@[reducible] def Ty.I : Ty → Type
  | .unit => Unit
  | .bool => Bool
  | .int _ => Int
  | .str => ByteArray
  | .pair a b => a.I × b.I
  | .st a => a.I
  | .arr _ a => List a.I
  | .sl a => List a.I
  | .ptr a => Option a.I
  | .fn a b => Option (a.I → Option b.I)

def dflt : (τ : Ty) → τ.I
  | .unit => ()
  | .bool => false
  | .int _ => (0 : Int)
  | .str => (⟨#[]⟩ : ByteArray)
  | .pair a b => (dflt a, dflt b)
  | .st a => dflt a
  | .arr n a => List.replicate n (dflt a)
  | .sl _ => []
  | .ptr _ => none
  | .fn _ _ => none

def castI (τ σ : Ty) (x : τ.I) : Option σ.I := if h : τ = σ then some (h ▸ x) else none

inductive AV where
  | dat (τ : Ty) (x : τ.I)
  | clip (τ : Ty) (xs : List τ.I)
  | tup (vs : List AV)
  | bp (id : Nat) (path : List Nat)
  | rp (id i : Nat) (path : List Nat)
  | ow (id : Nat)
  | om (id : Nat)
  | dead

inductive Obj where
  | bx (v : AV) (fz : Bool)
  | row (τ : Ty) (xs : List τ.I) (fz : Bool)
  | mp (κ σ : Ty) (es : List (κ.I × σ.I))
  | gone

def look {α : Type} : List (Nat × α) → Nat → Option α
  | [], _ => none
  | (k, v) :: r, t => bif Nat.beq k t then some v else look r t

def ins (d : Nat) (v : AV) : List (Nat × AV) → List (Nat × AV)
  | [] => [(d, v)]
  | (k, u) :: r => bif Nat.beq k d then (d, v) :: r else bif Nat.blt d k then (d, v) :: (k, u) :: r else (k, u) :: ins d v r

structure St where
  fr : List (Nat × AV)
  h : List Obj

def St.put (st : St) (dst : Option Nat) (v : AV) : St :=
  match dst with
  | some d => ⟨ins d v st.fr, st.h⟩
  | none => st

structure Fun where
  id : FuncId
  a : Ty
  r : Ty
  md : Nat
  spec : a.I → Option r.I

structure Env where
  types : List (Nat × Ty)
  funs : List (Nat × Fun)
  glob : List (Nat × AV)
  nt : Nat := 0

def Ty.agg : Ty → Bool
  | .st _ | .arr _ _ => true
  | _ => false
/-- How many cells a type has. -/
def nc : Ty → Nat
  | .unit => 0
  | .pair a b => nc a + nc b
  | .st a => nc a
  | .arr n a => n * nc a
  | _ => 1
/-- No chain by itself. -/
def Ty.np : Ty → Bool
  | .pair _ _ => false
  | _ => true
/-- Is it the type with that number? -/
def Env.is (E : Env) (t : Nat) (τ : Ty) : Bool := match look E.types t with | some σ => decide (σ = τ) && τ.np | none => false
def Env.isM (E : Env) (t : Nat) (κ σ : Ty) : Bool := match look E.types t with | some ρ => decide (ρ = .pair κ σ) | none => false
def Env.flat (E : Env) (t : Nat) : Bool := match look E.types t with | some (.sl _) | some (.pair _ _) | some (.ptr _) => true | _ => false

def deOne {α : Type} (q : Value → Option α) : List Value → Option (α × List Value)
  | v :: l => match q v with | some x => some (x, l) | none => none
  | [] => none
/-- A constant's cells, read as a type's. -/
def decC : (τ : Ty) → List Value → Option (τ.I × List Value)
  | .unit, l => some ((), l)
  | .bool, l => deOne (fun v => match v with | .bool b => some b | _ => none) l
  | .int k, l => deOne (fun v => match v with | .int k' n => bif decide (k = k') then some n else none | _ => none) l
  | .str, l => deOne (fun v => match v with | .string s => some s | _ => none) l
  | .pair a b, l => match decC a l with
    | some (x, l) => match decC b l with | some (y, l) => some ((x, y), l) | none => none
    | none => none
  | .st a, l => decC a l
  | .sl _, l => deOne (fun v => match v with | .slice none 0 0 => some [] | _ => none) l
  | .ptr _, l => deOne (fun v => match v with | .pointer none => some none | _ => none) l
  | .fn _ _, l => deOne (fun v => match v with | .nilFunc => some none | _ => none) l
  | .arr n a, l => n.rec (motive := fun _ => List Value → Option (List a.I × List Value)) (fun l => some ([], l))
      (fun _ ih l => match decC a l with
        | some (x, l) => match ih l with | some (xs, l) => some (x :: xs, l) | none => none
        | none => none) l

def ofConst (θ : Option Ty) : Value → Option AV
  | .bool b => some (.dat .bool b)
  | .int k n => some (.dat (.int k) n)
  | .string s => some (.dat .str s)
  | .agg cs => match θ with
    | some (.st a) => match decC a cs.toList with | some (x, []) => some (.dat (.st a) x) | _ => none
    | some (.arr n a) => match decC (.arr n a) cs.toList with | some (x, []) => some (.dat (.arr n a) x) | _ => none
    | _ => none
  | .slice none 0 0 => match θ with | some (.sl a) => some (.clip a []) | _ => none
  | .pointer none => match θ with | some (.ptr a) => some (.dat (.ptr a) none) | _ => none
  | .nilFunc => match θ with | some (.fn a b) => some (.dat (.fn a b) none) | _ => none
  | _ => none

def rd (E : Env) (st : St) (θ : Option Ty) : Operand → Option AV
  | .tmp t => look st.fr t
  | .const v => ofConst θ v
  | .global g => look E.glob g
  | .func f => (look E.funs f).map fun F => .dat (.fn F.a F.r) (some F.spec)

/-! ### Fields and paths of typed values -/

/-- Part i of a chain: its type, and it. -/
def nth : (τ : Ty) → τ.I → Nat → Option AV
  | .pair a _, x, 0 => some (.dat a x.1)
  | .pair _ b, x, i + 1 => nth b x.2 i
  | _, _, _ => none

def setNth : (τ : Ty) → τ.I → Nat → (σ : Ty) → σ.I → Option τ.I
  | .pair a b, x, 0, σ, y => (castI σ a y).map fun y => ((y, x.2) : a.I × b.I)
  | .pair a b, x, i + 1, σ, y => (setNth b x.2 i σ y).map fun y => ((x.1, y) : a.I × b.I)
  | _, _, _, _, _ => none

/-- What stands at a path in a value. -/
def getP : (p : List Nat) → (τ : Ty) → τ.I → Option AV
  | [], τ, x => some (.dat τ x)
  | i :: p, .st a, x => match nth a x i with | some (.dat σ y) => getP p σ y | _ => none
  | i :: p, .arr _ a, x => getP p a (x.getD i (dflt a))
  | _ :: _, _, _ => none

def setP : (p : List Nat) → (τ : Ty) → τ.I → (σ : Ty) → σ.I → Option τ.I
  | [], τ, _, σ, y => castI σ τ y
  | i :: p, .st a, x, σ, y => match nth a x i with
    | some (.dat ρ z) => (setP p ρ z σ y).bind fun z => setNth a x i ρ z
    | _ => none
  | i :: p, .arr _ a, x, σ, y => (setP p a (x.getD i (dflt a)) σ y).map fun z => x.set i z
  | _ :: _, _, _, _, _ => none

/-! ### The heap of a call -/

def setAt {α : Type} : List α → Nat → α → List α
  | [], _, _ => []
  | _ :: l, 0, x => x :: l
  | y :: l, i + 1, x => y :: setAt l i x
def atN {α : Type} : List α → Nat → Option α
  | [], _ => none
  | x :: _, 0 => some x
  | _ :: l, i + 1 => atN l i

/-- A value that nobody can turn any more: its type, itself, and the heap in which what it led to is frozen ('q': nothing is to be frozen that is not yet). -/
def frz (q : Bool) (st : St) : AV → Option ((τ : Ty) × τ.I × St)
  | .dat τ x => some ⟨τ, x, st⟩
  | .clip τ xs => some ⟨.sl τ, xs, st⟩
  | .ow id => match atN st.h id with
    | some (.row τ xs true) => some ⟨.sl τ, xs, st⟩
    | some (.row τ xs false) => cond q none (some ⟨.sl τ, xs, ⟨st.fr, setAt st.h id (.row τ xs true)⟩⟩)
    | _ => none
  | .bp id [] => match atN st.h id with
    | some (.bx (.dat τ x) true) => some ⟨.ptr τ, some x, st⟩
    | some (.bx (.dat τ x) false) => cond q none (some ⟨.ptr τ, some x, ⟨st.fr, setAt st.h id (.bx (.dat τ x) true)⟩⟩)
    | _ => none
  | _ => none

def frzAs (q : Bool) (σ : Ty) (st : St) (v : AV) : Option (σ.I × St) :=
  match frz q st v with
  | some ⟨τ, x, st⟩ => match castI τ σ x with | some x => some (x, st) | none => none
  | none => none

def packAs (q : Bool) : (τ : Ty) → List AV → St → Option (τ.I × St)
  | .unit, [], st => some ((), st)
  | .pair a b, v :: vs, st => match frzAs q a st v with
    | some (x, st) => match packAs q b vs st with | some (xs, st) => some ((x, xs), st) | none => none
    | none => none
  | _, _, _ => none

/-- Results laid down: the first is a new row where it is the call's own. -/
def layAll : (τ : Ty) → τ.I → List AV
  | .pair a b, x => .dat a x.1 :: layAll b x.2
  | _, _ => []
def unT : List AV → AV
  | [v] => v
  | vs => .tup vs
/-- md 1: the first result is a row of its own; 2: it has no spare places; else all is frozen. -/
def layRes (md : Nat) (τ : Ty) (x : τ.I) (h : List Obj) : AV × List Obj :=
  match md, τ, x with
  | 1, .pair (.sl a) b, x => (unT (.ow h.length :: layAll b x.2), h ++ [.row a x.1 false])
  | 2, .pair (.sl a) b, x => (unT (.clip a x.1 :: layAll b x.2), h)
  | _, τ, x => (unT (layAll τ x), h)

/-! ### Equality -/
def eqI : (τ : Ty) → τ.I → τ.I → Bool
  | .unit, _, _ => true
  | .bool, x, y => x == y
  | .int _, x, y => (x : Int) == y
  | .str, x, y => (x : ByteArray).toList == y.toList
  | .pair a b, x, y => cond (eqI a x.1 y.1) (eqI b x.2 y.2) false
  | .st a, x, y => eqI a x y
  | .arr _ a, x, y => (List.zip x y).all fun p => eqI a p.1 p.2
  | _, _, _ => false
def Ty.eqIn : Ty → Bool
  | .unit | .bool | .int _ | .str => true
  | .pair a b => a.eqIn && b.eqIn
  | .st a => a.eqIn
  | .arr _ a => a.eqIn
  | _ => false
def Ty.dep : Ty → Nat
  | .pair a b => max a.dep b.dep
  | .st a => a.dep + 1
  | .arr _ a => a.dep + 1
  | _ => 0
def Ty.eqOk (τ : Ty) : Bool := τ.eqIn && Nat.ble τ.dep 1000

/-! ### Operations -/
def cmpI (op : BinOp) (x y : Int) : Option Bool :=
  match op with
  | .eql => some (x == y) | .neq => some (x != y) | .lss => some (decide (x < y)) | .leq => some (decide (x ≤ y))
  | .gtr => some (decide (x > y)) | .geq => some (decide (x ≥ y)) | _ => none
def arithI (op : BinOp) (k : IntKind) (x y : Int) : Option Int :=
  match op with
  | .add => some (k.wrap (x + y)) | .sub => some (k.wrap (x - y)) | .mul => some (k.wrap (x * y))
  | .and => some (k.wrap (BitVec.ofInt k.bits x &&& BitVec.ofInt k.bits y).toNat)
  | .or => some (k.wrap (BitVec.ofInt k.bits x ||| BitVec.ofInt k.bits y).toNat)
  | .xor => some (k.wrap (BitVec.ofInt k.bits x ^^^ BitVec.ofInt k.bits y).toNat)
  | .andNot => some (k.wrap (BitVec.ofInt k.bits x &&& ~~~BitVec.ofInt k.bits y).toNat)
  | _ => none

section
variable {R : Type}

/-- A bool goes on as the one or as the other one. -/
def kB (b : Bool) (st : St) (k : AV → St → Option R) : Option R := cond b (k (.dat .bool true) st) (k (.dat .bool false) st)

def kAV (v : AV) (st : St) (k : AV → St → Option R) : Option R :=
  match v with
  | .dat .bool b => kB b st k
  | v => k v st

def evBin (E : Env) (op : BinOp) (t : TypeId) (x y : AV) (st : St) (k : AV → St → Option R) : Option R :=
  match x, y with
  | .dat (.int a) x, .dat (.int b) y =>
    match op with
    | .shl => cond (decide (y < 0)) none (k (.dat (.int a) (a.wrap (x * 2 ^ (min (Int.toNat y) a.bits)))) st)
    | .shr => cond (decide (y < 0)) none (k (.dat (.int a) (Int.fdiv x (2 ^ (min (Int.toNat y) a.bits)))) st)
    | op => cond (decide (a = b)) (
      match op with
      | .quo => cond ((y : Int) == 0) none (k (.dat (.int a) (a.wrap (Int.tdiv x y))) st)
      | .rem => cond ((y : Int) == 0) none (k (.dat (.int a) (Int.tmod x y)) st)
      | op => match cmpI op x y with
        | some c => kB c st k
        | none => match arithI op a x y with
          | some n => k (.dat (.int a) n) st
          | none => none) none
  | .dat .str x, .dat .str y =>
    match op with
    | .eql => kB ((x : ByteArray).toList == y.toList) st k
    | .neq => kB (!((x : ByteArray).toList == y.toList)) st k
    | .lss => kB (Op.bytesLess x.toList y.toList) st k
    | .leq => kB (Op.bytesLess x.toList y.toList || x.toList == y.toList) st k
    | .gtr => kB (!(Op.bytesLess x.toList y.toList || x.toList == y.toList)) st k
    | .geq => kB (!Op.bytesLess x.toList y.toList) st k
    | .add => cond (decide ((x.size + y.size : Nat) ≤ 4294967296)) (k (.dat .str (x ++ y)) st) none
    | _ => none
  | .dat (.ptr a) x, .dat (.ptr _) none => cond (E.is t (.ptr a)) (match op with | .eql => kB x.isNone st k | .neq => kB x.isSome st k | _ => none) none
  | .dat (.fn a b) x, .dat (.fn _ _) none => cond (E.is t (.fn a b)) (match op with | .eql => kB x.isNone st k | .neq => kB x.isSome st k | _ => none) none
  | .dat τ x, .dat σ y => cond (match τ with | .st _ | .arr _ _ | .bool => τ.eqOk && E.is t τ | _ => false) (match castI σ τ y with
    | some y => match op with | .eql => kB (eqI τ x y) st k | .neq => kB (!eqI τ x y) st k | _ => none
    | none => none) none
  | _, _ => none

def evUn (op : UnOp) (x : AV) (st : St) (k : AV → St → Option R) : Option R :=
  match op, x with
  | .not, .dat .bool b => kB (!b) st k
  | .neg, .dat (.int a) x => k (.dat (.int a) (a.wrap (0 - (x : Int)))) st
  | .xor, .dat (.int a) x => k (.dat (.int a) (a.wrap (BitVec.ofInt a.bits (if a.signed then -1 else a.max) ^^^ BitVec.ofInt a.bits x).toNat)) st
  | _, _ => none

/-- What an address leads to. -/
def evLoad (E : Env) (t : TypeId) (a : AV) (st : St) (k : AV → St → Option R) : Option R :=
  match a with
  | .dat (.ptr τ) (some x) => cond (E.is t τ) (kAV (.dat τ x) st k) none
  | .bp id p => match atN st.h id with
    | some (.bx (.dat τ x) _) => match getP p τ x with | some (.dat σ y) => cond (E.is t σ) (kAV (.dat σ y) st k) none | _ => none
    | some (.bx v _) => match p with | [] => cond (E.flat t) (k v st) none | _ => none
    | _ => none
  | .rp id i p => match atN st.h id with
    | some (.row τ xs _) => match getP p τ (xs.getD i (dflt τ)) with | some (.dat σ y) => cond (E.is t σ) (kAV (.dat σ y) st k) none | _ => none
    | _ => none
  | _ => none

/-- Whether an object is there. -/
def live (h : List Obj) (i : Nat) : Bool := match atN h i with
  | some (.bx _ _) | some (.row _ _ _) | some (.mp _ _ _) => true
  | _ => false

def evStore (E : Env) (t : TypeId) (a v : AV) (st : St) (k : AV → St → Option R) : Option R :=
  match a with
  | .bp id p => match atN st.h id with
    | some (.bx (.dat _ _) _) => match frz false st v with
      | some ⟨σ, y, st⟩ => match atN st.h id with
        | some (.bx (.dat τ x) false) => match setP p τ x σ y with
          | some x => cond (E.is t σ) (k (.tup []) ⟨st.fr, setAt st.h id (.bx (.dat τ x) false)⟩) none
          | none => none
        | _ => none
      | none => none
    | some (.bx _ false) => match p with
      | [] => cond (E.flat t) (match v with
        | .ow i => cond (live st.h i) (k (.tup []) ⟨st.fr, setAt st.h id (.bx (.ow i) false)⟩) none
        | .om i => cond (live st.h i) (k (.tup []) ⟨st.fr, setAt st.h id (.bx (.om i) false)⟩) none
        | .clip τ xs => k (.tup []) ⟨st.fr, setAt st.h id (.bx (.clip τ xs) false)⟩
        | _ => none) none
      | _ => none
    | _ => none
  | .rp id i p => match frz false st v with
    | some ⟨σ, y, st⟩ => match atN st.h id with
      | some (.row τ xs false) => match setP p τ (xs.getD i (dflt τ)) σ y with
        | some x => cond (E.is t σ) (k (.tup []) ⟨st.fr, setAt st.h id (.row τ (xs.set i x) false)⟩) none
        | none => none
      | _ => none
    | none => none
  | _ => none

def evBuild (q : Bool) : (τ : Ty) → τ.I → List (Nat × Option AV) → St → Option (τ.I × St)
  | _, x, [], st => some (x, st)
  | τ, x, (i, some v) :: ps, st => match frz q st v with
    | some ⟨σ, y, st⟩ => match (match τ, x with
        | .st a, x => setNth a x i σ y
        | .arr n a, x => match castI σ a y with | some y => cond (decide (i < n)) (some (setAt x i y)) none | none => none
        | _, _ => none) with
      | some x => evBuild q τ x ps st
      | none => none
    | none => none
  | _, _, (_, none) :: _, _ => none

def evBuildRow (q : Bool) (τ : Ty) : List τ.I → List (Nat × Option AV) → St → Option (List τ.I × St)
  | xs, [], st => some (xs, st)
  | xs, (i, some v) :: ps, st => match frzAs q τ st v with
    | some (x, st) => cond (decide (i < xs.length)) (evBuildRow q τ (setAt xs i x) ps st) none
    | none => none
  | _, (_, none) :: _, _ => none

/-- An index that is in a range. -/
def kIdx (n : Int) (len : Nat) (k : Nat → Option R) : Option R := cond (decide (0 ≤ n)) (cond (decide (n < (len : Int))) (k n.toNat) none) none

def evIndexAddr (E : Env) (t : TypeId) (x i : AV) (st : St) (k : AV → St → Option R) : Option R :=
  match x, i with
  | .dat (.sl τ) xs, .dat (.int _) n => cond (E.is t (.sl τ)) (kIdx n (List.length xs) fun n => k (.dat (.ptr τ) (some (List.getD xs n (dflt τ)))) st) none
  | .clip τ xs, .dat (.int _) n => cond (E.is t (.sl τ)) (kIdx n xs.length fun n => k (.dat (.ptr τ) (some (xs.getD n (dflt τ)))) st) none
  | .ow id, .dat (.int _) n => match atN st.h id with
    | some (.row τ xs _) => cond (E.is t (.sl τ)) (kIdx n xs.length fun n => k (.rp id n []) st) none
    | _ => none
  | .dat (.ptr (.arr m τ)) (some xs), .dat (.int _) n => cond (E.is t (.arr m τ)) (kIdx n m fun n => k (.dat (.ptr τ) (some (List.getD xs n (dflt τ)))) st) none
  | .bp id p, .dat (.int _) n => match atN st.h id with
    | some (.bx (.dat σ y) _) => match getP p σ y with
      | some (.dat (.arr m τ) _) => cond (E.is t (.arr m τ)) (kIdx n m fun n => k (.bp id (p ++ [n])) st) none
      | _ => none
    | _ => none
  | _, _ => none

def evIndex (E : Env) (t : TypeId) (x i : AV) (st : St) (k : AV → St → Option R) : Option R :=
  match x, i with
  | .dat (.arr m τ) xs, .dat (.int _) n => cond (E.is t (.arr m τ)) (kIdx n m fun n => kAV (.dat τ (List.getD xs n (dflt τ))) st k) none
  | .dat .str s, .dat (.int _) n => cond (E.is t .str) (kIdx n (ByteArray.size s) fun n => k (.dat (.int .u8) (((((s : ByteArray).data.toList).getD n 0).toNat : Nat) : Int)) st) none
  | _, _ => none

/-- The chain of two chains. -/
def Ty.join : Ty → Ty → Ty
  | .pair a b, c => .pair a (b.join c)
  | .unit, c => c
  | τ, _ => τ
def joinI : (a : Ty) → a.I → (c : Ty) → c.I → (a.join c).I
  | .pair _ b, x, c, y => (x.1, joinI b x.2 c y)
  | .unit, _, _, y => y
  | .bool, x, _, _ => x | .int _, x, _, _ => x | .str, x, _, _ => x | .st _, x, _, _ => x | .arr _ _, x, _, _ => x | .sl _, x, _, _ => x | .ptr _, x, _, _ => x | .fn _ _, x, _, _ => x

/-- Frozen values, as a chain. -/
def chain (q : Bool) : List AV → St → Option ((τ : Ty) × τ.I × St)
  | [], st => some ⟨.unit, (), st⟩
  | v :: vs, st => match frz q st v with
    | some ⟨a, x, st⟩ => match chain q vs st with | some ⟨b, y, st⟩ => some ⟨.pair a b, (x, y), st⟩ | none => none
    | none => none

def evMakeFunc (q : Bool) (E : Env) (ty : TypeId) (fn : Fn) (first caps : List (Option AV)) (st : St) (k : AV → St → Option R) : Option R :=
  match fn, look E.types ty with
  | .func f, some (.fn a r) => match look E.funs f, chain q (first.filterMap id) st with
    | some F, some ⟨b, x, st⟩ => match chain q (caps.filterMap id) st with
      | some ⟨c, y, st⟩ =>
        if h : F.a = b.join (a.join c) ∧ F.r = r then
          cond (first.all Option.isSome && caps.all Option.isSome) (k (.dat (.fn a r) (some fun z => h.2 ▸ F.spec (h.1 ▸ joinI b x _ (joinI a z c y)))) st) none
        else none
      | none => none
    | _, _ => none
  | _, _ => none

def lim : Nat := 4294967296

/-- Whether a value mentions an object. -/
def AV.has (i : Nat) : AV → Bool
  | .bp id _ | .rp id _ _ | .ow id | .om id => Nat.beq id i
  | .tup _ => true
  | _ => false
def evAppendRow (σ : Ty) (x : AV) (ys : List σ.I) (st : St) (k : AV → St → Option R) : Option R :=
  match x with
  | .clip τ xs => match castI (.sl τ) (.sl σ) xs with
    | some xs => cond (decide (List.length xs + ys.length ≤ lim)) (
        cond (List.isEmpty xs) (k (.ow st.h.length) ⟨st.fr, st.h ++ [.row σ ys false]⟩)
          (cond ys.isEmpty (k (.clip σ xs) st) (k (.ow st.h.length) ⟨st.fr, st.h ++ [.row σ (xs ++ ys) false]⟩))) none
    | none => none
  | .ow id => match atN st.h id with
    | some (.row τ xs false) => match castI (.sl τ) (.sl σ) xs with
      | some xs => cond (decide (List.length xs + ys.length ≤ lim)) (k (.ow st.h.length) ⟨st.fr, setAt st.h id .gone ++ [.row σ (xs ++ ys) false]⟩) none
      | none => none
    | _ => none
  | _ => none

def evAppend (E : Env) (t u : TypeId) (x y : AV) (st : St) (k : AV → St → Option R) : Option R :=
  match frz false st y with
  | some ⟨.sl τ, ys, st⟩ => cond (E.is t (.sl τ) && E.is u (.sl τ)) (evAppendRow τ x ys st k) none
  | some ⟨.str, s, st⟩ => cond (E.is t (.sl (.int .u8)) && E.is u .str) (evAppendRow (.int .u8) x ((ByteArray.data s).toList.map fun b => (b.toNat : Int)) st k) none
  | _ => none

/-- A bound of a slice expression. -/
def bnd (x : Option (Option AV)) (d : Nat) (most : Nat) (k : Nat → Option R) : Option R :=
  match x with
  | none => k d
  | some (some (.dat (.int _) n)) => cond (decide (0 ≤ (n : Int))) (cond (decide ((n : Int) ≤ (most : Int))) (k (Int.toNat n)) none) none
  | _ => none

def evSliceL (τ : Ty) (xs : List τ.I) (lo hi mx : Option (Option AV)) (st : St) (k : AV → St → Option R) : Option R :=
  match mx with
  | none => bnd hi xs.length xs.length fun h => bnd lo 0 h fun l => k (.dat (.sl τ) (List.drop l (List.take h xs))) st
  | some m => match hi with
    | none => none
    | some hv => bnd (some m) 0 xs.length fun m => bnd (some hv) 0 m fun h => bnd lo 0 h fun l => cond (decide (h = m)) (k (.clip τ (List.drop l (List.take h xs))) st) none

def evSlice (q : Bool) (E : Env) (t : TypeId) (x : AV) (lo hi mx : Option (Option AV)) (st : St) (k : AV → St → Option R) : Option R :=
  match frz q st x with
  | some ⟨.str, s, st⟩ => match mx with
    | none => cond (E.is t .str) (bnd hi (ByteArray.size s) (ByteArray.size s) fun h => bnd lo 0 h fun l => k (.dat .str (ByteArray.extract s l h)) st) none
    | some _ => none
  | some ⟨.sl τ, xs, st⟩ => cond (E.is t (.sl τ)) (evSliceL τ xs lo hi mx st k) none
  | _ => none

def evLen (E : Env) (t : TypeId) (x : AV) (st : St) (k : AV → St → Option R) : Option R :=
  match x with
  | .dat .str s => cond (E.is t .str) (k (.dat (.int .i64) (ByteArray.size s : Int)) st) none
  | .dat (.sl τ) xs => cond (E.is t (.sl τ)) (k (.dat (.int .i64) (List.length xs : Int)) st) none
  | .clip τ xs => cond (E.is t (.sl τ)) (k (.dat (.int .i64) (xs.length : Int)) st) none
  | .ow id => match atN st.h id with | some (.row τ xs _) => cond (E.is t (.sl τ)) (k (.dat (.int .i64) (xs.length : Int)) st) none | _ => none
  | .om id => match atN st.h id with | some (.mp κ σ es) => cond (E.isM t κ σ) (k (.dat (.int .i64) (es.length : Int)) st) none | _ => none
  | _ => none

/-! ### Maps of the call's own: a list of entries, the latest behind -/
def mget (κ : Ty) {β : Type} (d : β) : List (κ.I × β) → κ.I → β
  | [], _ => d
  | e :: es, x => cond (eqI κ x e.1) e.2 (mget κ d es x)
def mhas (κ : Ty) {β : Type} : List (κ.I × β) → κ.I → Bool
  | [], _ => false
  | e :: es, x => cond (eqI κ x e.1) true (mhas κ es x)
def mput (κ : Ty) {β : Type} : List (κ.I × β) → κ.I → β → List (κ.I × β)
  | [], x, y => [(x, y)]
  | e :: es, x, y => cond (eqI κ x e.1) ((e.1, y) :: es) (e :: mput κ es x y)
def keyOk : Ty → Bool
  | .int _ | .str | .bool => true
  | _ => false

def evLookup (E : Env) (t : TypeId) (m i : AV) (ok : Bool) (st : St) (k : AV → St → Option R) : Option R :=
  match m with
  | .om id => match atN st.h id with
    | some (.mp κ σ es) => match i with
      | .dat ρ x => match castI ρ κ x with
        | some x => cond (keyOk κ && E.isM t κ σ && σ.np) (match ok with
          | false => kAV (.dat σ (mget κ (dflt σ) es x)) st k
          | true => k (.tup [.dat σ (mget κ (dflt σ) es x), .dat .bool (mhas κ es x)]) st) none
        | none => none
      | _ => none
    | _ => none
  | _ => none

def evMapUpdate (E : Env) (t : TypeId) (m i v : AV) (st : St) (k : AV → St → Option R) : Option R :=
  match m with
  | .om id => match atN st.h id with
    | some (.mp κ σ es) => match i, v with
      | .dat ρ x, .dat τ y => match castI ρ κ x, castI τ σ y with
        | some x, some y => cond (keyOk κ && E.isM t κ σ && σ.np) (k (.tup []) ⟨st.fr, setAt st.h id (.mp κ σ (mput κ es x y))⟩) none
        | _, _ => none
      | _, _ => none
    | _ => none
  | _ => none

def evCallF (q : Bool) (a r : Ty) (md : Nat) (g : a.I → Option r.I) (args : List (Option AV)) (st : St) (k : AV → St → Option R) : Option R :=
  cond (args.all Option.isSome) (match packAs q a (args.filterMap id) st with
    | some (x, st) => (g x).bind fun y => match layRes (bif q && Nat.beq md 1 then 0 else md) r y st.h with
      | (v, h) => kAV v ⟨st.fr, h⟩ k
    | none => none) none

def evCall (q : Bool) (E : Env) (c : Call) (st : St) (k : AV → St → Option R) : Option R :=
  match c.callee with
  | .value (.func f) => match look E.funs f with
    | some F => evCallF q F.a F.r F.md F.spec (c.args.toList.map (rd E st none)) st k
    | none => none
  | .value f => match rd E st none f with
    | some (.dat (.fn a r) (some g)) => evCallF q a r 0 g (c.args.toList.map (rd E st none)) st k
    | _ => none
  | .builtin .len => match c.args.toList, c.argTypes.toList with
    | [x], [t] => match rd E st none x with | some v => evLen E t v st k | none => none
    | _, _ => none
  | .builtin .append => match c.args.toList, c.argTypes.toList with
    | [x, y], [t, u] => match rd E st (look E.types t) x, rd E st (look E.types u) y with | some v, some u' => cond q none (evAppend E t u v u' st k) | _, _ => none
    | _, _ => none
  | .builtin .max => match c.args.toList with
    | [x, y] => match rd E st none x, rd E st none y with
      | some (.dat (.int a) x), some (.dat (.int b) y) => cond (decide (a = b)) (k (.dat (.int a) (if (x : Int) < y then y else x)) st) none
      | _, _ => none
    | _ => none
  | .builtin .min => match c.args.toList with
    | [x, y] => match rd E st none x, rd E st none y with
      | some (.dat (.int a) x), some (.dat (.int b) y) => cond (decide (a = b)) (k (.dat (.int a) (if (y : Int) < x then y else x)) st) none
      | _, _ => none
    | _ => none
  | _ => none

def bytesOf (xs : List Int) : ByteArray := xs.foldl (fun r n => r.push (UInt8.ofNat n.toNat)) ByteArray.empty

def evConvert (q : Bool) (E : Env) (src dst : TypeId) (x : AV) (st : St) (k : AV → St → Option R) : Option R :=
  match look E.types src, look E.types dst, x with
  | some (.int _), some (.int b), .dat (.int _) n => k (.dat (.int b) (b.wrap n)) st
  | some .str, some .str, .dat .str s => k (.dat .str s) st
  | some .str, some (.sl (.int .u8)), .dat .str s => cond q none (k (.ow st.h.length) ⟨st.fr, st.h ++ [.row (.int .u8) ((ByteArray.data s).toList.map fun b => (b.toNat : Int)) true]⟩)
  | some (.sl (.int .u8)), some .str, .dat (.sl (.int .u8)) xs => k (.dat .str (bytesOf xs)) st
  | some (.sl (.int .u8)), some .str, .ow id => match atN st.h id with | some (.row (.int .u8) xs _) => k (.dat .str (bytesOf xs)) st | _ => none
  | _, _, _ => none

def evFieldAddr (E : Env) (t : TypeId) (x : AV) (f : Nat) (st : St) (k : AV → St → Option R) : Option R :=
  match x with
  | .dat (.ptr (.st a)) (some y) => cond (E.is t (.st a)) (match nth a y f with | some (.dat σ z) => k (.dat (.ptr σ) (some z)) st | _ => none) none
  | .bp id p => match atN st.h id with
    | some (.bx (.dat σ y) _) => match getP p σ y with
      | some (.dat (.st a) z) => cond (E.is t (.st a)) (match nth a z f with | some _ => k (.bp id (p ++ [f])) st | none => none) none
      | _ => none
    | _ => none
  | .rp id i p => match atN st.h id with
    | some (.row σ xs _) => match getP p σ (xs.getD i (dflt σ)) with
      | some (.dat (.st a) z) => cond (E.is t (.st a)) (match nth a z f with | some _ => k (.rp id i (p ++ [f])) st | none => none) none
      | _ => none
    | _ => none
  | _ => none

def evAlloc (v : AV) (st : St) (k : AV → St → Option R) : Option R := k (.bp st.h.length []) ⟨st.fr, st.h ++ [.bx v false]⟩

def evOp (q : Bool) (E : Env) (op : Op) (ty : TypeId) (st : St) (k : AV → St → Option R) : Option R :=
  match op with
  | .move x | .assign x => match rd E st (look E.types ty) x with | some v => k v st | none => none
  | .pick c a b => match rd E st none c with
    | some (.dat .bool t) => cond t (match rd E st none a with | some v => kAV v st k | none => none) (match rd E st none b with | some v => kAV v st k | none => none)
    | _ => none
  | .alloc e => match look E.types e with
    | some (.sl a) => evAlloc (.clip a []) st k
    | some (.pair _ _) => none
    | some τ => evAlloc (.dat τ (dflt τ)) st k
    | none => none
  | .box e x => match rd E st (look E.types e) x with
    | some (.dat τ y) => cond (E.is e τ) (evAlloc (.dat τ y) st k) none
    | some (.clip τ y) => cond (E.is e (.sl τ)) (evAlloc (.clip τ y) st k) none
    | some (.ow i) => cond (E.flat e && live st.h i) (evAlloc (.ow i) st k) none
    | _ => none
  | .build t ps => match look E.types t with
    | some τ => match evBuild q τ (dflt τ) (ps.toList.map fun p => (p.1, rd E st none p.2)) st with
      | some (x, st) => cond τ.agg (k (.dat τ x) st) none
      | none => none
    | none => none
  | .buildSlice t n ps => match look E.types t with
    | some (.sl τ) => match evBuildRow q τ (List.replicate n (dflt τ)) (ps.toList.map fun p => (p.1, rd E st (some τ) p.2)) st with
      | some (xs, st) => cond (decide (n * nc τ ≤ 16777216)) (k (.ow st.h.length) ⟨st.fr, st.h ++ [.row τ xs false]⟩) none
      | none => none
    | _ => none
  | .load t a => match rd E st none a with | some v => evLoad E t v st k | none => none
  | .store t a x => match rd E st none a, rd E st (look E.types t) x with | some v, some u => evStore E t v u st k | _, _ => none
  | .nilCheck x => match rd E st none x with
    | some (.dat (.ptr τ) (some y)) => k (.dat (.ptr τ) (some y)) st
    | some (.dat (.fn a b) (some y)) => k (.dat (.fn a b) (some y)) st
    | some (.bp id p) => cond (live st.h id) (k (.bp id p) st) none
    | some (.rp id i p) => cond (live st.h id) (k (.rp id i p) st) none
    | _ => none
  | .binOp o t x y _ => match rd E st (look E.types t) x, rd E st (look E.types t) y with | some v, some u => evBin E o t v u st k | _, _ => none
  | .unOp o _ x => match rd E st none x with | some v => evUn o v st k | none => none
  | .convert s d x => match rd E st none x with | some v => evConvert q E s d v st k | none => none
  | .makeFunc fn first caps => evMakeFunc q E ty fn (first.toList.map (rd E st none)) (caps.toList.map (rd E st none)) st k
  | .makeMap t none => match look E.types t with
    | some (.pair κ σ) => k (.om st.h.length) ⟨st.fr, st.h ++ [.mp κ σ []]⟩
    | _ => none
  | .makeSlice t l c => match look E.types t, rd E st none l, rd E st none c with
    | some (.sl τ), some (.dat (.int _) n), some (.dat (.int _) m) =>
      cond (decide (0 ≤ (n : Int))) (cond (decide ((n : Int) ≤ m)) (cond (decide ((m : Int) ≤ (lim : Int))) (k (.ow st.h.length) ⟨st.fr, st.h ++ [.row τ (List.replicate (Int.toNat n) (dflt τ)) false]⟩) none) none) none
    | _, _, _ => none
  | .slice t x lo hi mx => match rd E st none x with | some v => evSlice q E t v (lo.map (rd E st none)) (hi.map (rd E st none)) (mx.map (rd E st none)) st k | none => none
  | .fieldAddr t x f => match rd E st none x with | some v => evFieldAddr E t v f st k | none => none
  | .field t x f => match rd E st none x with
    | some (.dat (.st a) y) => cond (E.is t (.st a)) (match nth a y f with | some (.dat σ z) => kAV (.dat σ z) st k | _ => none) none
    | _ => none
  | .indexAddr t x i => match rd E st none x, rd E st none i with | some v, some u => evIndexAddr E t v u st k | _, _ => none
  | .index t x i => match rd E st none x, rd E st none i with | some v, some u => evIndex E t v u st k | _, _ => none
  | .lookup t m i ok => match rd E st none m, rd E st none i with | some v, some u => evLookup E t v u ok st k | _, _ => none
  | .mapUpdate t m i x => match rd E st none m, rd E st none i, rd E st none x with | some v, some u, some y => evMapUpdate E t v u y st k | _, _, _ => none
  | .extract t i => match rd E st none t with
    | some (.tup vs) => match atN vs i with | some v => kAV v st k | none => none
    | _ => none
  | .call c => evCall q E c st k
  | _ => none

/-! ### Regions -/
def dstOf (all : List Oper) (j : Nat) : Option Tmp := (atN all j).bind (·.dst)
def dstIn (E : Env) (o : Oper) : Bool := match o.dst with | some d => Nat.blt d E.nt | none => true
/-- Whether an operation is to run. -/
def guardV (all : List Oper) (fr : List (Nat × AV)) (o : Oper) : Option Bool :=
  match o.guard with
  | none => some true
  | some (j, w) => match (dstOf all j).bind (look fr) with
    | some (.dat .bool b) => some (b == w)
    | some (.tup []) => some false
    | _ => none
def evOps (E : Env) (all : List Oper) : List Oper → St → (St → Option R) → Option R
  | [], st, k => k st
  | o :: rest, st, k => cond (dstIn E o) (
    match guardV all st.fr o with
    | some b => cond b (evOp false E o.op o.type st fun v st => evOps E all rest (st.put o.dst v) k) (evOps E all rest (st.put o.dst (.tup [])) k)
    | none => none) none

/-! Regions whose order is open: what is not ordered leaves each other alone. -/
def obit (acc : List Nat) (es : List Edge) : Nat := es.foldl (fun s e => cond (Region.binds .any e) ((s ||| 2 ^ e.on) ||| (atN acc e.on).getD 0) s) 0
def obits : List Oper → List Nat → List Nat
  | [], acc => acc
  | o :: r, acc => obits r (acc ++ [obit acc o.after.toList])
def tmpsOf (o : Oper) : List Nat := o.op.operands.toList.filterMap fun x => match x with | .tmp t => some t | _ => none
def memN (t : Nat) : List Nat → Bool
  | [] => false
  | x :: l => cond (Nat.beq x t) true (memN t l)
/-- What operation j looks at is ordered before it, and no other writes where it writes. -/
def dataOk1 (bj j : Nat) (o : Oper) : List Oper → Nat → Bool
  | [], _ => true
  | u :: r, i => (match u.dst with
      | some d => (Nat.beq i j || (match o.dst with | some e => !Nat.beq d e | none => true)) && (!memN d (tmpsOf o) || (Nat.testBit bj i && Nat.blt i j))
      | none => true) && dataOk1 bj j o r (i + 1)
def dataOkAux (bs : List Nat) (all : List Oper) : List Oper → Nat → Bool
  | [], _ => true
  | o :: r, j => (dataOk1 ((atN bs j).getD 0) j o all 0 && (match o.guard with | some (g, _) => Nat.testBit ((atN bs j).getD 0) g && Nat.blt g j | none => true) && (o.after.toList.all fun e => !Region.binds .any e || Nat.blt e.on j)) && dataOkAux bs all r (j + 1)
def dataOk (bs : List Nat) (all : List Oper) : Bool := dataOkAux bs all all 0

def AV.pure1 : AV → Bool
  | .dat .. | .clip .. => true
  | _ => false
def AV.pure : AV → Bool
  | .tup vs => vs.all AV.pure1
  | v => v.pure1
/-- What a frozen object tells, in place of a way to it; and whether it was asked. -/
def purify (h : List Obj) (v : AV) : AV × Bool :=
  cond v.pure (v, false) (match frz true ⟨[], h⟩ v with | some ⟨τ, x, _⟩ => (.dat τ x, true) | none => (v, true))
def restr (st : St) : List Nat → List (Nat × AV) × Bool × Bool
  | [] => ([], true, false)
  | t :: l => match look st.fr t with
    | none => restr st l
    | some v =>
      let q := restr st l
      ((t, (purify st.h v).1) :: q.1, (purify st.h v).1.pure && q.2.1, (purify st.h v).2 || q.2.2)
def AV.sh (n : Nat) : AV → AV
  | .bp id p => .bp (n + id) p
  | .rp id i p => .rp (n + id) i p
  | .ow id => .ow (n + id)
  | .om id => .om (n + id)
  | v => v
def AV.shT (n : Nat) : AV → AV
  | .tup vs => .tup (vs.map (AV.sh n))
  | v => v.sh n
def Obj.sh (n : Nat) : Obj → Obj
  | .bx v f => .bx (v.sh n) f
  | o => o
/-- What has been done: its number, whether it looked at objects, whether it made some, whether it changed some. -/
structure Did where
  i : Nat
  rd : Bool
  wr : Bool
  ch : Bool
def ordOk (bj : Nat) (d : Did) : List Did → Bool
  | [] => true
  | e :: l => cond (Nat.testBit bj e.i) (ordOk bj d l) (cond (e.wr && (d.rd || d.wr)) false (cond (e.rd && d.ch) false (ordOk bj d l)))
def stillOp : Op → Bool
  | .load .. | .fieldAddr .. | .indexAddr .. | .nilCheck .. | .binOp .. | .lookup .. => true
  | .call c => (match c.callee with | .builtin .len => true | _ => false)
  | _ => false
def isNil {α : Type} : List α → Bool
  | [] => true
  | _ => false

def evD (E : Env) (all : List Oper) (bs : List Nat) : List Oper → Nat → List Did → St → (St → Option R) → Option R
  | [], _, _, st, k => k st
  | o :: rest, j, seen, st, k => cond (dstIn E o) (
    match guardV all st.fr o with
    | none => none
    | some b => cond b (
        match restr st (tmpsOf o) with
        | (fr', pu, rs) => cond pu
          (evOp false E o.op o.type ⟨fr', []⟩ fun v st' =>
            cond (ordOk ((atN bs j).getD 0) ⟨j, rs, !isNil st'.h, false⟩ seen)
              (evD E all bs rest (j + 1) (⟨j, rs, !isNil st'.h, false⟩ :: seen) ((⟨st.fr, st.h ++ st'.h.map (Obj.sh st.h.length)⟩ : St).put o.dst (v.shT st.h.length)) k) none)
          (cond (stillOp o.op)
            (cond (ordOk ((atN bs j).getD 0) ⟨j, true, false, false⟩ seen)
              (evOp false E o.op o.type st fun v st' => evD E all bs rest (j + 1) (⟨j, true, false, false⟩ :: seen) (st'.put o.dst v) k) none)
            (cond (ordOk ((atN bs j).getD 0) ⟨j, true, true, true⟩ seen)
              (evOp false E o.op o.type st fun v st' => evD E all bs rest (j + 1) (⟨j, true, true, true⟩ :: seen) (st'.put o.dst v) k) none)))
        (evD E all bs rest (j + 1) seen (st.put o.dst (.tup [])) k)) none

/-! ### Which slots are read later -/
inductive Ex where
  | normal | exit (id : Nat) | ret

def opLive (all : List Oper) (o : Oper) : List Nat :=
  (o.op.operands.toList.filterMap fun x => match x with | .tmp t => some t | _ => none) ++ (match o.guard with | some (j, _) => (dstOf all j).toList | none => [])
def setBit (m t : Nat) : Nat := m ||| (1 <<< t)
def clrBit (m t : Nat) : Nat := bif Nat.testBit m t then m ^^^ (1 <<< t) else m
def regLive (all : List Oper) : List Oper → Nat → Nat
  | [], m => m
  | o :: rest, m =>
    let m := regLive all rest m
    let m := match o.dst with | some d => clrBit m d | none => m
    (opLive all o).foldl setBit m
def lv (fin : Nat) : Code → (Nat → Nat) → Nat → Nat
  | .region _ ops _, _, n => regLive ops.toList ops.toList n
  | .seq a b, x, n => lv fin a x (lv fin b x n)
  | .cond c a b, x, n => (lv fin a x n ||| lv fin b x n) ||| (match c with | .tmp t => 1 <<< t | _ => 0)
  | .block id b, x, n => lv fin b (fun i => bif Nat.beq i id then n else x i) n
  | .loop b, x, _ => lv fin b x (lv fin b x (lv fin b x 0))
  | .exit id, x, _ => x id
  | .scope b, x, n => lv fin b x n
  | .ret, _, _ => fin
  | _, _, n => n

def mask (m : Nat) (fr : List (Nat × AV)) : List (Nat × AV) := fr.filter fun p => Nat.testBit m p.1

/-! ### Objects that nobody leads to any more are left behind -/
def AV.ids : AV → List Nat
  | .bp id _ | .rp id _ _ | .ow id | .om id => [id]
  | _ => []
def addNew : List Nat → List Nat → List Nat
  | seen, [] => seen
  | seen, i :: l => addNew (bif seen.contains i then seen else seen ++ [i]) l
def frIds : List (Nat × AV) → List Nat → List Nat
  | [], seen => seen
  | (_, v) :: r, seen => frIds r (addNew seen v.ids)
def closeIds (h : List Obj) : Nat → Nat → List Nat → List Nat
  | 0, _, seen => seen
  | n + 1, i, seen => match atN seen i with
    | none => seen
    | some id => closeIds h n (i + 1) (match atN h id with | some (.bx v _) => addNew seen v.ids | _ => seen)
def idxOf : List Nat → Nat → Nat
  | [], _ => 0
  | x :: l, i => bif Nat.beq x i then 0 else idxOf l i + 1
def AV.ren (l : List Nat) : AV → AV
  | .bp id p => .bp (idxOf l id) p
  | .rp id i p => .rp (idxOf l id) i p
  | .ow id => .ow (idxOf l id)
  | .om id => .om (idxOf l id)
  | v => v
def Obj.ren (l : List Nat) : Obj → Obj
  | .bx v f => .bx (v.ren l) f
  | o => o
def AV.okG (l : List Nat) : AV → Bool
  | .bp id _ | .rp id _ _ | .ow id | .om id => memN id l
  | .tup vs => vs.all AV.pure1
  | _ => true
def Obj.okG (l : List Nat) : Obj → Bool
  | .bx v _ => v.okG l
  | _ => true
def nodupN : List Nat → Bool
  | [] => true
  | x :: l => !memN x l && nodupN l
/-- With the objects of 'l' alone, in that order. -/
def gcWith (l : List Nat) (st : St) : St :=
  cond (nodupN l && (st.fr.all (fun p => p.2.okG l) && l.all fun i => match atN st.h i with | some o => o.okG l | none => true))
    ⟨st.fr.map fun p => (p.1, p.2.ren l), l.map fun i => ((atN st.h i).getD .gone).ren l⟩ st
def St.gc (st : St) : St := gcWith (closeIds st.h st.h.length 0 (frIds st.fr [])) st

def loopN (live : Nat) (B : (Ex → St → Option R) → St → Option R) (k : Ex → St → Option R) : Nat → St → Option R
  | 0, _ => none
  | n + 1, st => B (fun e st' => match e with | .normal => loopN live B k n (St.gc ⟨mask live st'.fr, st'.h⟩) | e => k e st') st

def evC (E : Env) (K fin : Nat) : Code → (lx : Nat → Nat) → (ln : Nat) → (Ex → St → Option R) → St → Option R
  | .skip, _, _, k, st => k .normal st
  | .region _ ops d, _, _, k, st => cond d (cond (dataOk (obits ops.toList []) ops.toList) (evD E ops.toList (obits ops.toList []) ops.toList 0 [] st (k .normal)) none) (evOps E ops.toList ops.toList st (k .normal))
  | .seq a b, lx, ln, k, st => evC E K fin a lx (lv fin b lx ln) (fun e st => match e with | .normal => evC E K fin b lx ln k st | e => k e st) st
  | .cond c a b, lx, ln, k, st => match rd E st none c with
    | some (.dat .bool t) => cond t (evC E K fin a lx ln k st) (evC E K fin b lx ln k st)
    | _ => none
  | .block id b, lx, ln, k, st => evC E K fin b (fun i => bif Nat.beq i id then ln else lx i) ln (fun e st => match e with | .exit i => bif Nat.beq i id then k .normal st else k (.exit i) st | e => k e st) st
  | .loop b, lx, ln, k, st =>
    let live := lv fin (.loop b) lx ln
    loopN live (evC E K fin b lx live) k K (St.gc ⟨mask live st.fr, st.h⟩)
  | .exit id, _, _, k, st => k (.exit id) st
  | .scope b, lx, ln, k, st => evC E K fin b lx ln k st
  | .label _, _, _, k, st => k .normal st
  | .ret, _, _, k, st => k .ret st
  | _, _, _, _, _ => none
end

/-- The code at a place, with what follows it; 'ns': what is left to each loop that stands around it. -/
def locate (R : Type) (E : Env) (K fin : Nat) : List Nat → List Nat → Code → (Nat → Nat) → Nat → (Ex → St → Option R) → Option (Code × (Nat → Nat) × Nat × (Ex → St → Option R))
  | [], _, c, lx, ln, k => some (c, lx, ln, k)
  | i :: p, ns, .seq a b, lx, ln, k => bif Nat.beq i 0 then locate R E K fin p ns a lx (lv fin b lx ln) (fun e st => match e with | .normal => evC E K fin b lx ln k st | e => k e st)
    else locate R E K fin p ns b lx ln k
  | i :: p, ns, .cond _ a b, lx, ln, k => bif Nat.beq i 0 then locate R E K fin p ns a lx ln k else locate R E K fin p ns b lx ln k
  | _ :: p, ns, .block id b, lx, ln, k => locate R E K fin p ns b (fun i => bif Nat.beq i id then ln else lx i) ln (fun e st => match e with | .exit i => bif Nat.beq i id then k .normal st else k (.exit i) st | e => k e st)
  | _ :: p, ns, .loop b, lx, ln, k =>
    let live := lv fin (.loop b) lx ln
    match ns with
    | n :: ns => locate R E K fin p ns b lx live (fun e st' => match e with | .normal => loopN live (evC E K fin b lx live) k n (St.gc ⟨mask live st'.fr, st'.h⟩) | e => k e st')
    | [] => none
  | _ :: p, ns, .scope b, lx, ln, k => locate R E K fin p ns b lx ln k
  | _, _, _, _, _, _ => none

def resAV (E : Env) (st : St) : ResultVar → Option AV
  | .tmp t => look st.fr t
  | .cell a t => match look st.fr a with
    | some (.bp id []) => match atN st.h id with
      | some (.bx (.dat τ x) _) => cond (E.is t τ) (some (.dat τ x)) none
      | some (.bx v _) => cond (E.flat t) (some v) none
      | _ => none
    | _ => none

def finLive (rs : List ResultVar) : Nat := rs.foldl (fun m r => setBit m (match r with | .tmp t => t | .cell a _ => a)) 0

def params : (τ : Ty) → τ.I → Nat → List (Nat × AV)
  | .pair a b, x, i => (i, .dat a x.1) :: params b x.2 (i + 1)
  | _, _, _ => []

def finK (E : Env) (f : Func) (r : Ty) (e : Ex) (st : St) : Option r.I :=
  match e with
  | .exit _ => none
  | _ => cond ((f.results.toList.map (resAV E st)).all Option.isSome) (match packAs false r ((f.results.toList.map (resAV E st)).filterMap id) st with | some p => some p.1 | none => none) none

/-- What a function comes to. -/
def evF (E : Env) (K : Nat) (f : Func) (a r : Ty) (x : a.I) : Option r.I :=
  match f.body with
  | some c => evC { E with nt := f.ntmps } K (finLive f.results.toList) c (fun _ => 0) (finLive f.results.toList) (finK E f r) ⟨params a x 0, []⟩
  | none => none

/-- What it comes to from the head of the loop at a place on, with n rounds left. -/
def evL (E : Env) (K : Nat) (f : Func) (r : Ty) (p ns : List Nat) (n : Nat) (st : St) : Option r.I :=
  match f.body with
  | some c => match locate r.I { E with nt := f.ntmps } K (finLive f.results.toList) p ns c (fun _ => 0) (finLive f.results.toList) (finK E f r) with
    | some (.loop b, lx, ln, k) => loopN (lv (finLive f.results.toList) (.loop b) lx ln) (evC { E with nt := f.ntmps } K (finLive f.results.toList) b lx (lv (finLive f.results.toList) (.loop b) lx ln)) k n st
    | _ => none
  | none => none

end Go.Ev

/-! What it says that cells of memory hold a typed value: told of a part of memory that nobody turns any more. -/
namespace Go.Ev
open Go.RowKit

/-- A part of memory that stays as it is: blocks and what they hold. -/
abbrev FH := Nat → Option (Array Value)
def FH.le (F F' : FH) : Prop := ∀ k c, F k = some c → F' k = some c
def FH.ok (F : FH) (w : World) : Prop := ∀ k c, F k = some c → ∃ el fz, w.heap[k]? = some (.cells c el fz)
def FH.grow (F F' : FH) (n : Nat) : Prop := F.le F' ∧ ∀ k, k < n → F' k = F k

theorem FH.le.refl (F : FH) : F.le F := fun _ _ h => h
theorem FH.le.trans {F F' F'' : FH} (h : F.le F') (h' : F'.le F'') : F.le F'' := fun k c hk => h' k c (h k c hk)
theorem FH.grow.refl (F : FH) (n : Nat) : F.grow F n := ⟨.refl F, fun _ _ => rfl⟩
theorem FH.grow.trans {F F' F'' : FH} {n m : Nat} (h : F.grow F' n) (h' : F'.grow F'' m) (hm : n ≤ m) : F.grow F'' n :=
  ⟨h.1.trans h'.1, fun k hk => (h'.2 k (by omega)).trans (h.2 k hk)⟩

/-- Cells that lie at an address, for good. -/
def At (F : FH) (a : Addr) (cs : List Value) : Prop :=
  a.spot = none ∧ ∃ c, F a.block = some c ∧ ∀ (j : Nat) (v : Value), cs[j]? = some v → c[a.off + j]? = some v

theorem At.mono {F F' : FH} (h : F.le F') {a : Addr} {cs : List Value} : At F a cs → At F' a cs
  | ⟨h1, c, h2, h3⟩ => ⟨h1, c, h _ _ h2, h3⟩

def RepL {α : Type} (R : α → List Value → Prop) : List α → List Value → Prop
  | [], cs => cs = []
  | x :: xs, cs => ∃ c d, cs = c ++ d ∧ R x c ∧ RepL R xs d

theorem RepL.mono {α : Type} {R R' : α → List Value → Prop} (h : ∀ x c, R x c → R' x c) : ∀ xs cs, RepL R xs cs → RepL R' xs cs
  | [], _, hc => hc
  | _ :: xs, _, ⟨c, d, e, h1, h2⟩ => ⟨c, d, e, h _ _ h1, RepL.mono h xs d h2⟩

def isAggV : Value → Bool
  | .agg _ => true
  | _ => false

def unTup : List Value → Value
  | [v] => v
  | vs => .tuple vs.toArray

def Enters (P : Program) (f : FuncId) : Prop := ∃ fn, P.funcs[f]? = some fn ∧ (fn.name == "runtime.NumGoroutine") = false ∧ fn.body.isNone = false

/-- Of each type: what it says that cells are a value of it; that values are a chain of it. -/
def RR (P : Program) : (τ : Ty) → (FH → τ.I → List Value → Prop) × (FH → τ.I → List Value → Prop)
  | .unit => (fun _ _ cs => cs = [], fun _ _ vs => vs = [])
  | .bool => (fun _ b cs => cs = [.bool b], fun _ _ _ => False)
  | .int k => (fun _ n cs => cs = [.int k n], fun _ _ _ => False)
  | .str => (fun _ s cs => cs = [.string s], fun _ _ _ => False)
  | .pair a b => (fun F x cs => ∃ c d, cs = c ++ d ∧ (RR P a).1 F x.1 c ∧ (RR P b).1 F x.2 d,
      fun F x vs => ∃ v r, vs = v :: r ∧ (RR P a).1 F x.1 v.cells.toList ∧ isAggV v = a.agg ∧ (RR P b).2 F x.2 r)
  | .st a => (fun F x cs => (RR P a).1 F x cs, fun _ _ _ => False)
  | .arr n a => (fun F xs cs => List.length xs = n ∧ RepL ((RR P a).1 F) xs cs, fun _ _ _ => False)
  | .sl a => (fun F xs cs => ∃ ad cap, cs = [.slice ad (List.length xs) cap] ∧ List.length xs ≤ cap ∧
      (xs ≠ [] → ∃ d cc, ad = some d ∧ At F d cc ∧ RepL ((RR P a).1 F) xs cc), fun _ _ _ => False)
  | .ptr a => (fun F x cs => match x with
      | none => cs = [.pointer none]
      | some x => ∃ d cc, cs = [.pointer (some d)] ∧ At F d cc ∧ (RR P a).1 F x cc, fun _ _ _ => False)
  | .fn a b => (fun F g cs => match g with
      | none => cs = [.nilFunc]
      | some g => ∃ f first caps, cs = [.func (.func f) first caps] ∧ Enters P f ∧ ∀ x y, g x = some y → ∀ F' w vs, F.le F' → F'.ok w → (RR P a).2 F' x vs →
          Calls P f (first ++ vs.toArray ++ caps) w fun e w' => ∃ us F'', e = .returned (unTup us) ∧ Below w.heap.size w w' ∧ F'.grow F'' w.heap.size ∧ F''.ok w' ∧ (RR P b).2 F'' y us,
      fun _ _ _ => False)

def Rep (P : Program) (F : FH) (τ : Ty) (x : τ.I) (cs : List Value) : Prop := (RR P τ).1 F x cs
def RepV (P : Program) (F : FH) (τ : Ty) (x : τ.I) (v : Value) : Prop := Rep P F τ x v.cells.toList ∧ isAggV v = τ.agg
def RepA (P : Program) (F : FH) (τ : Ty) (x : τ.I) (vs : List Value) : Prop := (RR P τ).2 F x vs

theorem RR_mono (P : Program) {F F' : FH} (h : F.le F') : ∀ τ : Ty, (∀ x cs, (RR P τ).1 F x cs → (RR P τ).1 F' x cs) ∧ (∀ x vs, (RR P τ).2 F x vs → (RR P τ).2 F' x vs) := by
  intro τ
  induction τ with
  | unit => exact ⟨fun _ _ h => h, fun _ _ h => h⟩
  | bool => exact ⟨fun _ _ h => h, fun _ _ h => h⟩
  | int k => exact ⟨fun _ _ h => h, fun _ _ h => h⟩
  | str => exact ⟨fun _ _ h => h, fun _ _ h => h⟩
  | pair a b iha ihb =>
    exact ⟨fun x cs ⟨c, d, e, h1, h2⟩ => ⟨c, d, e, iha.1 _ _ h1, ihb.1 _ _ h2⟩, fun x vs ⟨v, r, e, h1, h2, h3⟩ => ⟨v, r, e, iha.1 _ _ h1, h2, ihb.2 _ _ h3⟩⟩
  | st a ih => exact ⟨fun x cs h1 => ih.1 _ _ h1, fun _ _ h => h⟩
  | arr n a ih => exact ⟨fun x cs ⟨h1, h2⟩ => ⟨h1, RepL.mono ih.1 _ _ h2⟩, fun _ _ h => h⟩
  | sl a ih =>
    exact ⟨fun x cs ⟨ad, cap, e, h1, h2⟩ => ⟨ad, cap, e, h1, fun hx => let ⟨d, cc, e1, e2, e3⟩ := h2 hx; ⟨d, cc, e1, e2.mono h, RepL.mono ih.1 _ _ e3⟩⟩, fun _ _ h => h⟩
  | ptr a ih =>
    refine ⟨fun x cs h1 => ?_, fun _ _ h => h⟩
    cases x with
    | none => exact h1
    | some x => obtain ⟨d, cc, e, e1, e2⟩ := h1; exact ⟨d, cc, e, e1.mono h, ih.1 _ _ e2⟩
  | fn a b _ _ =>
    refine ⟨fun x cs h1 => ?_, fun _ _ h => h⟩
    cases x with
    | none => exact h1
    | some g => obtain ⟨f, first, caps, e, he, hc⟩ := h1; exact ⟨f, first, caps, e, he, fun x y hg F2 w vs hle => hc x y hg F2 w vs (h.trans hle)⟩

theorem Rep.mono {P : Program} {F F' : FH} (h : F.le F') {τ : Ty} {x : τ.I} {cs : List Value} (hr : Rep P F τ x cs) : Rep P F' τ x cs := (RR_mono P h τ).1 _ _ hr
theorem RepV.mono {P : Program} {F F' : FH} (h : F.le F') {τ : Ty} {x : τ.I} {v : Value} (hr : RepV P F τ x v) : RepV P F' τ x v := ⟨hr.1.mono h, hr.2⟩
theorem RepA.mono {P : Program} {F F' : FH} (h : F.le F') {τ : Ty} {x : τ.I} {vs : List Value} (hr : RepA P F τ x vs) : RepA P F' τ x vs := (RR_mono P h τ).2 _ _ hr

theorem RepL.length {α : Type} {R : α → List Value → Prop} {n : Nat} (h : ∀ x c, R x c → c.length = n) : ∀ xs cs, RepL R xs cs → cs.length = xs.length * n
  | [], _, e => by cases e; simp
  | x :: xs, _, ⟨c, d, e, h1, h2⟩ => by
    subst e
    have := RepL.length h xs d h2
    have := h _ _ h1
    simp only [List.length_append, List.length_cons, Nat.add_mul, Nat.one_mul]
    omega

theorem Rep.length {P : Program} {F : FH} : ∀ {τ : Ty} {x : τ.I} {cs : List Value}, Rep P F τ x cs → cs.length = nc τ := by
  intro τ
  induction τ with
  | unit => intro x cs h; cases h; rfl
  | bool => intro x cs h; cases h; rfl
  | int k => intro x cs h; cases h; rfl
  | str => intro x cs h; cases h; rfl
  | pair a b iha ihb =>
    rintro x cs ⟨c, d, rfl, h1, h2⟩
    have := iha h1
    have := ihb h2
    simp only [List.length_append, nc]
    omega
  | st a ih => intro x cs h; exact ih (x := x) h
  | arr n a ih =>
    rintro x cs ⟨h1, h2⟩
    have := RepL.length (n := nc a) (fun y c hc => ih (x := y) hc) _ _ h2
    rw [this, h1]; rfl
  | sl a _ => rintro x cs ⟨ad, cap, rfl, _⟩; rfl
  | ptr a _ =>
    intro x cs h
    cases x with
    | none => cases h; rfl
    | some x => obtain ⟨_, _, rfl, _⟩ := h; rfl
  | fn a b _ _ =>
    intro x cs h
    cases x with
    | none => cases h; rfl
    | some x => obtain ⟨_, _, _, rfl, _⟩ := h; rfl

/-! ### Lists of values -/
theorem RepL.get {α : Type} {R : α → List Value → Prop} {n : Nat} (hn : ∀ x c, R x c → c.length = n) : ∀ (xs : List α) (cs : List Value), RepL R xs cs →
    ∀ (i : Nat) (x : α), xs[i]? = some x → ∃ c, R x c ∧ ∀ (j : Nat) (v : Value), c[j]? = some v → cs[i * n + j]? = some v
  | [], _, _, i, x, h => by simp at h
  | y :: ys, _, ⟨c, d, e, h1, h2⟩, 0, x, h => by
    subst e
    obtain rfl : y = x := by simpa using h
    refine ⟨c, h1, fun j v hj => ?_⟩
    have hlt : j < c.length := (List.getElem?_eq_some_iff.1 hj).1
    rw [Nat.zero_mul, Nat.zero_add, List.getElem?_append_left hlt]; exact hj
  | y :: ys, _, ⟨c, d, e, h1, h2⟩, i + 1, x, h => by
    subst e
    obtain ⟨c', hc', hj⟩ := RepL.get hn ys d h2 i x (by simpa using h)
    refine ⟨c', hc', fun j v hv => ?_⟩
    have hl := hn _ _ h1
    have := hj j v hv
    rw [List.getElem?_append_right (by rw [hl, Nat.add_mul]; omega), hl]
    rw [show (i + 1) * n + j - n = i * n + j by rw [Nat.add_mul]; omega]
    exact this

/-- Cells of which a part is taken by others. -/
def splice (cs : List Value) (off : Nat) (new : List Value) : List Value := cs.take off ++ new ++ cs.drop (off + new.length)

theorem splice_append_left {a b new : List Value} {off : Nat} (h : off + new.length ≤ a.length) : splice (a ++ b) off new = splice a off new ++ b := by
  unfold splice
  rw [List.take_append_of_le_length (by omega), List.drop_append_of_le_length (by omega)]
  simp
theorem splice_append_right {a b new : List Value} {off : Nat} : splice (a ++ b) (a.length + off) new = a ++ splice b off new := by
  unfold splice
  rw [List.take_length_add_append, show a.length + off + new.length = a.length + (off + new.length) by omega, List.drop_length_add_append]
  simp

theorem RepL.set {α : Type} {R : α → List Value → Prop} {n : Nat} (hn : ∀ x c, R x c → c.length = n) : ∀ (xs : List α) (cs : List Value), RepL R xs cs →
    ∀ (i : Nat) (x : α) (c : List Value), i < xs.length → R x c → RepL R (xs.set i x) (splice cs (i * n) c)
  | [], _, _, i, x, c, h, _ => by simp at h
  | y :: ys, _, ⟨c0, d, e, h1, h2⟩, 0, x, c, h, hc => by
    subst e
    have hl := hn _ _ h1
    have hl' := hn _ _ hc
    refine ⟨c, d, ?_, hc, h2⟩
    unfold splice
    simp [hl', ← hl]
  | y :: ys, _, ⟨c0, d, e, h1, h2⟩, i + 1, x, c, h, hc => by
    subst e
    have hl := hn _ _ h1
    refine ⟨c0, splice d (i * n) c, ?_, h1, RepL.set hn ys d h2 i x c (by simpa using h) hc⟩
    rw [show (i + 1) * n = c0.length + i * n by rw [Nat.add_mul, hl]; omega, splice_append_right]

theorem RepL.append {α : Type} {R : α → List Value → Prop} : ∀ (xs ys : List α) (cs ds : List Value), RepL R xs cs → RepL R ys ds → RepL R (xs ++ ys) (cs ++ ds)
  | [], ys, cs, ds, h1, h2 => by cases h1; simpa using h2
  | x :: xs, ys, _, ds, ⟨c, d, e, h1, h2⟩, h3 => by
    subst e
    exact ⟨c, d ++ ds, by simp, h1, RepL.append xs ys d ds h2 h3⟩

theorem RepL.replicate {α : Type} {R : α → List Value → Prop} {x : α} {c : List Value} (h : R x c) : ∀ n : Nat, RepL R (List.replicate n x) (List.replicate n c).flatten
  | 0 => rfl
  | n + 1 => ⟨c, (List.replicate n c).flatten, by simp [List.replicate_succ], h, RepL.replicate h n⟩

end Go.Ev

/-! How a state of the evaluator stands to a frame and a world. -/
namespace Go.Ev
open Go.RowKit
set_option linter.unusedSimpArgs false
set_option linter.unusedVariables false

theorem atN_eq {α : Type} : ∀ (l : List α) (i : Nat), atN l i = l[i]?
  | [], i => by simp [atN]
  | _ :: _, 0 => by simp [atN]
  | _ :: l, i + 1 => by simp [atN, atN_eq l i]
theorem setAt_eq {α : Type} : ∀ (l : List α) (i : Nat) (x : α), setAt l i x = l.set i x
  | [], _, _ => rfl
  | _ :: _, 0, _ => rfl
  | _ :: l, i + 1, x => by simp [setAt, setAt_eq l i x]

theorem beq_ne {k t : Nat} (h : k ≠ t) : Nat.beq k t = false := by
  cases hb : Nat.beq k t with
  | false => rfl
  | true => exact absurd (Nat.eq_of_beq_eq_true hb) h
theorem beq_self (k : Nat) : Nat.beq k k = true := Nat.beq_refl k

theorem look_ins (d : Nat) (v : AV) : ∀ (fr : List (Nat × AV)) (t : Nat), look (ins d v fr) t = if d = t then some v else look fr t
  | [], t => by
    by_cases h : d = t
    · subst h; simp [ins, look, beq_self]
    · simp [ins, look, h, beq_ne h]
  | (k, u) :: r, t => by
    have ih := look_ins d v r t
    by_cases hk : k = d
    · subst hk
      by_cases h : k = t
      · subst h; simp [ins, look, beq_self]
      · simp [ins, look, h, beq_ne h, beq_self]
    · have hk' : Nat.beq k d = false := beq_ne hk
      cases hb : Nat.blt d k with
      | true =>
        by_cases h : d = t
        · subst h; simp [ins, look, hk', hb, beq_self]
        · simp [ins, look, hk', hb, h, beq_ne h]
      | false =>
        by_cases h : k = t
        · subst h
          have : d ≠ k := fun e => hk e.symm
          simp [ins, look, hk', hb, this, beq_self]
        · simp [ins, look, hk', hb, beq_ne h, ih]

theorem look_map (f : AV → AV) : ∀ (fr : List (Nat × AV)) (t : Nat), look (fr.map fun p => (p.1, f p.2)) t = (look fr t).map f
  | [], _ => rfl
  | (k, u) :: r, t => by
    by_cases h : k = t
    · subst h; simp [look, beq_self]
    · simp [look, beq_ne h, look_map f r t]

theorem look_filter (q : Nat → Bool) : ∀ (fr : List (Nat × AV)) (t : Nat) (v : AV), look (fr.filter fun p => q p.1) t = some v → look fr t = some v
  | [], _, _, h => by simp [look] at h
  | (k, u) :: r, t, v, h => by
    by_cases hq : q k = true
    · rw [List.filter_cons_of_pos (by simpa using hq)] at h
      by_cases hk : k = t
      · subst hk; simpa [look, beq_self] using h
      · simp only [look, beq_ne hk, cond_false] at h ⊢
        exact look_filter q r t v h
    · rw [List.filter_cons_of_neg (by simpa using hq)] at h
      by_cases hk : k = t
      · subst hk
        exfalso
        have : ∀ (r : List (Nat × AV)), look (r.filter fun p => q p.1) k = none := by
          intro r
          induction r with
          | nil => rfl
          | cons p r ih =>
            obtain ⟨k', u'⟩ := p
            by_cases hq' : q k' = true
            · rw [List.filter_cons_of_pos (by simpa using hq')]
              have : k' ≠ k := fun e => hq (e ▸ hq')
              simpa [look, beq_ne this] using ih
            · rw [List.filter_cons_of_neg (by simpa using hq')]; exact ih
        rw [this r] at h
        cases h
      · simp only [look, beq_ne hk, cond_false]
        exact look_filter q r t v h

/-! ### Types -/
def nthT : Ty → Nat → Option (Nat × Ty)
  | .pair a _, 0 => some (0, a)
  | .pair a b, i + 1 => (nthT b i).map fun p => (nc a + p.1, p.2)
  | _, _ => none
def offP : List Nat → Ty → Option (Nat × Ty)
  | [], τ => some (0, τ)
  | i :: p, .st a => (nthT a i).bind fun q => (offP p q.2).map fun r => (q.1 + r.1, r.2)
  | i :: p, .arr n a => if i < n then (offP p a).map fun r => (i * nc a + r.1, r.2) else none
  | _ :: _, _ => none

theorem nth_rep {P : Program} {F : FH} : ∀ {a : Ty} {x : a.I} {i : Nat} {v : AV} {cs : List Value}, nth a x i = some v → Rep P F a x cs →
    ∃ o σ y c, nthT a i = some (o, σ) ∧ v = .dat σ y ∧ Rep P F σ y c ∧ ∀ (j : Nat) (u : Value), c[j]? = some u → cs[o + j]? = some u := by
  intro a
  induction a with
  | pair a b _ ihb =>
    rintro x i v cs h ⟨c, d, rfl, h1, h2⟩
    cases i with
    | zero =>
      simp only [nth, Option.some.injEq] at h
      subst h
      refine ⟨0, a, x.1, c, rfl, rfl, h1, fun j u hj => ?_⟩
      have := (List.getElem?_eq_some_iff.1 hj).1
      rw [Nat.zero_add, List.getElem?_append_left this]; exact hj
    | succ i =>
      simp only [nth] at h
      obtain ⟨o, σ, y, c', h3, h4, h5, h6⟩ := ihb h h2
      have hl := Rep.length h1
      refine ⟨nc a + o, σ, y, c', by simp [nthT, h3], h4, h5, fun j u hj => ?_⟩
      rw [List.getElem?_append_right (by omega), show nc a + o + j - c.length = o + j by omega]
      exact h6 j u hj
  | _ => intro x i v cs h; simp [nth] at h

theorem castI_spec {τ σ : Ty} {x : τ.I} {y : σ.I} (h : castI τ σ x = some y) : ∃ e : τ = σ, e ▸ x = y := by
  unfold castI at h
  split at h
  · rename_i e; exact ⟨e, by simpa using h⟩
  · cases h

theorem setNth_rep {P : Program} {F : FH} : ∀ {a : Ty} {x x' : a.I} {i : Nat} {σ : Ty} {y : σ.I} {cs c : List Value}, setNth a x i σ y = some x' → Rep P F a x cs → Rep P F σ y c →
    ∃ o, nthT a i = some (o, σ) ∧ Rep P F a x' (splice cs o c) ∧ o + c.length ≤ cs.length := by
  intro a
  induction a with
  | pair a b _ ihb =>
    rintro x x' i σ y cs c h ⟨c0, d, rfl, h1, h2⟩ hc
    cases i with
    | zero =>
      simp only [setNth, Option.map_eq_some_iff] at h
      obtain ⟨z, hz, rfl⟩ := h
      obtain ⟨rfl, rfl⟩ := castI_spec hz
      have hl := Rep.length h1
      have hl' := Rep.length hc
      refine ⟨0, rfl, ⟨c, d, ?_, hc, h2⟩, by simp; omega⟩
      unfold splice
      simp [hl', ← hl]
    | succ i =>
      simp only [setNth, Option.map_eq_some_iff] at h
      obtain ⟨z, hz, rfl⟩ := h
      obtain ⟨o, h3, h4, h5⟩ := ihb hz h2 hc
      have hl := Rep.length h1
      refine ⟨nc a + o, by simp [nthT, h3], ⟨c0, splice d o c, ?_, h1, h4⟩, by simp; omega⟩
      rw [← hl, splice_append_right]
  | _ => intro x x' i σ y cs c h; simp [setNth] at h

theorem getP_rep {P : Program} {F : FH} : ∀ {p : List Nat} {τ : Ty} {x : τ.I} {v : AV} {off : Nat} {σ : Ty} {cs : List Value}, getP p τ x = some v → offP p τ = some (off, σ) → Rep P F τ x cs →
    ∃ y c, v = .dat σ y ∧ Rep P F σ y c ∧ ∀ (j : Nat) (u : Value), c[j]? = some u → cs[off + j]? = some u := by
  intro p
  induction p with
  | nil =>
    intro τ x v off σ cs h ho hr
    simp only [getP, Option.some.injEq] at h
    simp only [offP, Option.some.injEq, Prod.mk.injEq] at ho
    obtain ⟨rfl, rfl⟩ := ho
    exact ⟨x, cs, h.symm, hr, fun j u hj => by simpa using hj⟩
  | cons i p ih =>
    intro τ x v off σ cs h ho hr
    cases τ with
    | st a =>
      simp only [getP] at h
      split at h
      · rename_i ρ z hz
        obtain ⟨o, ρ', z', c, h1, h2, h3, h4⟩ := nth_rep (a := a) hz hr
        cases h2
        simp only [offP, h1, Option.bind_some, Option.map_eq_some_iff, Prod.mk.injEq, Prod.exists] at ho
        obtain ⟨o', σ', h5, h6, h7⟩ := ho
        subst h7
        obtain ⟨y, c', h8, h9, h10⟩ := ih h h5 h3
        refine ⟨y, c', h8, h9, fun j u hj => ?_⟩
        rw [← h6, Nat.add_assoc]
        exact h4 _ _ (h10 j u hj)
      · cases h
    | arr n a =>
      simp only [getP] at h
      simp only [offP] at ho
      split at ho
      · rename_i hin
        simp only [Option.map_eq_some_iff, Prod.mk.injEq, Prod.exists] at ho
        obtain ⟨o', σ', h5, h6, h7⟩ := ho
        subst h7
        obtain ⟨hlen, hl⟩ := hr
        have hx : x[i]? = some (x.getD i (dflt a)) := by
          have : i < x.length := by omega
          simp [List.getD, this]
        obtain ⟨c, hc1, hc2⟩ := RepL.get (n := nc a) (fun x c h => Rep.length (P := P) (F := F) (x := x) h) _ _ hl i _ hx
        obtain ⟨y, c', h8, h9, h10⟩ := ih h h5 hc1
        refine ⟨y, c', h8, h9, fun j u hj => ?_⟩
        rw [← h6, Nat.add_assoc]
        exact hc2 _ _ (h10 j u hj)
      · cases ho
    | _ => simp [getP] at h

theorem splice_length {cs new : List Value} {o : Nat} (h : o + new.length ≤ cs.length) : (splice cs o new).length = cs.length := by
  unfold splice; simp; omega
theorem splice_get {cs new : List Value} {o : Nat} (h : o + new.length ≤ cs.length) (j : Nat) :
    (splice cs o new)[j]? = if o ≤ j ∧ j < o + new.length then new[j - o]? else cs[j]? := by
  unfold splice
  rw [List.append_assoc]
  by_cases h1 : j < o
  · rw [List.getElem?_append_left (by simp; omega), if_neg (by omega), List.getElem?_take, if_pos h1]
  · rw [List.getElem?_append_right (by simp; omega)]
    have ht : (cs.take o).length = o := by simp; omega
    rw [ht]
    by_cases h2 : j < o + new.length
    · rw [List.getElem?_append_left (by omega), if_pos (by omega)]
    · rw [List.getElem?_append_right (by omega), if_neg (by omega), List.getElem?_drop]
      congr 1
      omega

theorem splice_sub {cs c new : List Value} {o off : Nat} (h : ∀ (j : Nat) (u : Value), c[j]? = some u → cs[o + j]? = some u) (hlen : off + new.length ≤ c.length) (ho : o + c.length ≤ cs.length) :
    splice cs o (splice c off new) = splice cs (o + off) new := by
  apply List.ext_getElem?
  intro j
  have hl := splice_length hlen
  rw [splice_get (cs := cs) (new := splice c off new) (o := o) (by omega), splice_get (cs := cs) (new := new) (o := o + off) (by omega), hl]
  by_cases h1 : o ≤ j ∧ j < o + c.length
  · rw [if_pos h1, splice_get hlen]
    by_cases h2 : off ≤ j - o ∧ j - o < off + new.length
    · rw [if_pos h2, if_pos (by omega)]
      congr 1
      omega
    · rw [if_neg h2, if_neg (by omega)]
      have hj : j - o < c.length := by omega
      have := h (j - o) c[j - o] (List.getElem?_eq_getElem hj)
      rw [List.getElem?_eq_getElem hj, ← this]
      congr 1
      omega
  · rw [if_neg h1, if_neg (by omega)]

theorem setP_rep {P : Program} {F : FH} : ∀ {p : List Nat} {τ : Ty} {x x' : τ.I} {off : Nat} {σ ρ : Ty} {y : ρ.I} {cs c : List Value}, setP p τ x ρ y = some x' → offP p τ = some (off, σ) → Rep P F τ x cs → Rep P F ρ y c →
    ρ = σ ∧ Rep P F τ x' (splice cs off c) ∧ off + c.length ≤ cs.length := by
  intro p
  induction p with
  | nil =>
    intro τ x x' off σ ρ y cs c h ho hr hc
    simp only [setP] at h
    simp only [offP, Option.some.injEq, Prod.mk.injEq] at ho
    obtain ⟨rfl, rfl⟩ := ho
    obtain ⟨rfl, rfl⟩ := castI_spec h
    have hl := Rep.length hr
    have hl' := Rep.length hc
    refine ⟨rfl, ?_, by omega⟩
    have : splice cs 0 c = c := by unfold splice; simp [hl', ← hl]
    rw [this]; exact hc
  | cons i p ih =>
    intro τ x x' off σ ρ y cs c h ho hr hc
    cases τ with
    | st a =>
      simp only [setP] at h
      split at h
      · rename_i ρ' z hz
        obtain ⟨o, ρ'', z', c', h1, h2, h3, h4⟩ := nth_rep (a := a) hz hr
        cases h2
        simp only [offP, h1, Option.bind_some, Option.map_eq_some_iff, Prod.mk.injEq, Prod.exists] at ho
        obtain ⟨o', σ', h5, h6, h7⟩ := ho
        subst h7
        simp only [Option.bind_eq_some_iff] at h
        obtain ⟨z', hz', hs⟩ := h
        obtain ⟨e1, e2, e3⟩ := ih hz' h5 h3 hc
        obtain ⟨o2, e4, e5, e6⟩ := setNth_rep (P := P) (F := F) (a := a) hs hr e2
        rw [h1] at e4
        obtain ⟨rfl, -⟩ := by simpa using e4
        rw [splice_length (by omega)] at e6
        refine ⟨e1, ?_, by omega⟩
        rw [← h6, ← splice_sub h4 e3 e6]
        exact e5
      · cases h
    | arr n a =>
      simp only [setP, Option.map_eq_some_iff] at h
      simp only [offP] at ho
      split at ho
      · rename_i hin
        simp only [Option.map_eq_some_iff, Prod.mk.injEq, Prod.exists] at ho
        obtain ⟨o', σ', h5, h6, h7⟩ := ho
        subst h7
        obtain ⟨hlen, hl⟩ := hr
        have hx : x[i]? = some (x.getD i (dflt a)) := by
          have : i < x.length := by omega
          simp [List.getD, this]
        have hn : ∀ (x : a.I) c, (RR P a).1 F x c → c.length = nc a := fun x c h => Rep.length (P := P) (F := F) (x := x) h
        obtain ⟨c1, hc1, hc2⟩ := RepL.get (n := nc a) hn _ _ hl i _ hx
        obtain ⟨z, hz, rfl⟩ := h
        obtain ⟨e1, e2, e3⟩ := ih hz h5 hc1 hc
        have hl1 := hn _ _ hc1
        have hl2 := hn _ _ e2
        have hL := RepL.length hn _ _ hl
        have hb : i * nc a + nc a ≤ cs.length := by
          rw [hL, hlen]
          calc i * nc a + nc a = (i + 1) * nc a := by rw [Nat.add_mul]; omega
            _ ≤ n * nc a := Nat.mul_le_mul_right _ (by omega)
        refine ⟨e1, ⟨by simpa using hlen, ?_⟩, by omega⟩
        rw [← h6, ← splice_sub hc2 e3 (by omega)]
        exact RepL.set hn _ _ hl i z _ (by omega) e2
      · cases ho
    | _ => simp [setP] at h

end Go.Ev

/-! The state: its slots and objects, and the frame and the world. -/
namespace Go.Ev
open Go.RowKit
set_option linter.unusedSimpArgs false
set_option linter.unusedVariables false

abbrev MM := Nat → Option (Nat × Nat)

def RelV1 (P : Program) (h : List Obj) (m : MM) (F : FH) : AV → Value → Prop
  | .dat τ x, v => RepV P F τ x v
  | .clip τ xs, v => ∃ ad, v = .slice ad xs.length xs.length ∧ (xs ≠ [] → ∃ d cc, ad = some d ∧ At F d cc ∧ RepL (Rep P F τ) xs cc)
  | .bp id p, v => atN h id = some .gone ∨ ∃ b n o off, m id = some (b, n) ∧ atN h id = some o ∧ v = .pointer (some ⟨b, off, none⟩) ∧
      (match o with
        | .bx (.dat τ _) _ => ∃ σ, offP p τ = some (off, σ)
        | .bx _ _ => p = [] ∧ off = 0
        | _ => False)
  | .rp id i p, v => atN h id = some .gone ∨ ∃ b n τ xs fz off σ, m id = some (b, n) ∧ atN h id = some (.row τ xs fz) ∧ i < xs.length ∧ offP p τ = some (off, σ) ∧ v = .pointer (some ⟨b, i * nc τ + off, none⟩)
  | .ow id, v => atN h id = some .gone ∨ ∃ τ xs fz, atN h id = some (.row τ xs fz) ∧
      (match m id with
        | some (b, n) => ∃ cap, n = cap * nc τ ∧ xs.length ≤ cap ∧ v = .slice (some ⟨b, 0, none⟩) xs.length cap
        | none => xs = [] ∧ ∃ ad, v = .slice ad 0 0)
  | .om id, v => atN h id = some .gone ∨ ∃ b n κ σ es, m id = some (b, n) ∧ atN h id = some (.mp κ σ es) ∧ v = .map (some b)
  | .tup _, _ => False
  | .dead, _ => True

def RelV (P : Program) (h : List Obj) (m : MM) (F : FH) : AV → Value → Prop
  | .tup vs, v => ∃ arr : Array Value, v = .tuple arr ∧ arr.size = vs.length ∧ ∀ (i : Nat) (u : AV), vs[i]? = some u → ∃ x, arr[i]? = some x ∧ RelV1 P h m F u x
  | v, u => RelV1 P h m F v u

def RelE (P : Program) (F : FH) (κ σ : Ty) (es : List (κ.I × σ.I)) (ents : List MapEntry) : Prop :=
  es.length = ents.length ∧ ∀ (i : Nat) (p : κ.I × σ.I) (e : MapEntry), es[i]? = some p → ents[i]? = some e → RepV P F κ p.1 e.key ∧ RepV P F σ p.2 e.val

def FzOk (F : FH) (b : Nat) (cs : Array Value) (fr : Nat × Nat) : Bool → Prop
  | true => F b = some cs
  | false => F b = none ∧ fr = (0, 0)

def RelO (P : Program) (h : List Obj) (m : MM) (F : FH) (w : World) (i : Nat) : Obj → Prop
  | .bx v fz => ∃ b n el fr cs, m i = some (b, n) ∧ w.heap[b]? = some (.cells cs el fr) ∧
      (match v with
        | .dat τ x => Rep P F τ x cs.toList
        | .clip τ xs => ∃ u, cs = #[u] ∧ RelV1 P h m F (.clip τ xs) u
        | .ow id => ∃ u, cs = #[u] ∧ RelV1 P h m F (.ow id) u
        | .om id => ∃ u, cs = #[u] ∧ RelV1 P h m F (.om id) u
        | .dead => cs.size = 1
        | _ => False) ∧
      FzOk F b cs fr fz
  | .row τ xs fz => match m i with
    | some (b, n) => ∃ el fr cs c d, w.heap[b]? = some (.cells cs el fr) ∧ cs.size = n ∧ cs.toList = c ++ d ∧ RepL (Rep P F τ) xs c ∧
        FzOk F b cs fr fz
    | none => xs = []
  | .mp κ σ es => ∃ b n ents clock, m i = some (b, n) ∧ w.heap[b]? = some (.map ents clock) ∧ RelE P F κ σ es ents.toList ∧ F b = none
  | .gone => True

/-- The state 'st' tells of frame 'a' and world 'w', in a call that began in world 'w0' with 'F0' frozen. -/
structure Rel (P : Program) (nt : Nat) (F0 : FH) (w0 : World) (st : St) (m : MM) (F : FH) (a : Act) (w : World) : Prop where
  nt : nt ≤ a.tmps.size
  fr : ∀ t v, look st.fr t = some v → RelV P st.h m F v (a.tmps.getD t undef)
  obs : ∀ i o, atN st.h i = some o → RelO P st.h m F w i o
  inj : ∀ i j b n n', m i = some (b, n) → m j = some (b, n') → i = j
  rng : ∀ i b n, m i = some (b, n) → i < st.h.length ∧ w0.heap.size ≤ b ∧ b < w.heap.size
  fok : F.ok w
  gro : F0.grow F w0.heap.size
  bel : Below w0.heap.size w0 w
  dfr : a.defers = []

/-! ### One heap of objects that tells what another one did -/
def Obj.like1 : Obj → Obj → Prop
  | .bx (.dat τ _) _, .bx (.dat τ' _) _ => τ = τ'
  | .bx (.dat _ _) _, .bx _ _ => False
  | .bx _ _, .bx (.dat _ _) _ => False
  | .bx _ _, .bx _ _ => True
  | .row τ xs _, .row τ' xs' _ => τ = τ' ∧ xs.length = xs'.length
  | .mp κ σ _, .mp κ' σ' _ => κ = κ' ∧ σ = σ'
  | _, _ => False
/-- It is as it was, or gone. -/
def Obj.like (o o' : Obj) : Prop := o' = .gone ∨ o.like1 o'

theorem Obj.like1.trans {o o1 o2 : Obj} (h : o.like1 o1) (h' : o1.like1 o2) : o.like1 o2 := by
  cases o with
  | gone => cases o1 <;> exact h.elim
  | bx v f => cases o1 with
    | bx v1 f1 => cases o2 with
      | bx v2 f2 =>
        cases v <;> cases v1 <;> first | exact h.elim | (cases v2 <;> first | exact h'.elim | exact h' | (simp only [Obj.like1] at h h' ⊢; first | exact h.trans h' | trivial))
      | _ => cases v1 <;> exact h'.elim
    | _ => cases v <;> exact h.elim
  | row τ xs f => cases o1 with
    | row τ1 xs1 f1 => cases o2 with
      | row τ2 xs2 f2 => exact ⟨h.1.trans h'.1, h.2.trans h'.2⟩
      | _ => exact h'.elim
    | _ => exact h.elim
  | mp κ σ es => cases o1 with
    | mp κ1 σ1 es1 => cases o2 with
      | mp κ2 σ2 es2 => exact ⟨h.1.trans h'.1, h.2.trans h'.2⟩
      | _ => exact h'.elim
    | _ => exact h.elim
theorem Obj.like.trans {o o1 o2 : Obj} (h : o.like o1) (h' : o1.like o2) : o.like o2 := by
  rcases h' with h' | h'
  · exact .inl h'
  · rcases h with rfl | h
    · cases o2 <;> exact h'.elim
    · exact .inr (h.trans h')

def HLe (h h' : List Obj) : Prop := ∀ i o, atN h i = some o → ∃ o', atN h' i = some o' ∧ o.like o'

theorem Obj.like.refl (o : Obj) : o.like o := by
  cases o with
  | bx v f => right; cases v <;> simp [Obj.like1]
  | row τ xs f => right; simp [Obj.like1]
  | mp κ σ es => right; simp [Obj.like1]
  | gone => exact .inl rfl
theorem HLe.refl (h : List Obj) : HLe h h := fun i o ho => ⟨o, ho, .refl o⟩
theorem HLe.trans {h h' h'' : List Obj} (a : HLe h h') (b : HLe h' h'') : HLe h h'' := fun i o ho => let ⟨o1, h1, l1⟩ := a i o ho; let ⟨o2, h2, l2⟩ := b i o1 h1; ⟨o2, h2, l1.trans l2⟩
theorem HLe.append (h k : List Obj) : HLe h (h ++ k) := fun i o ho => ⟨o, by
  rw [atN_eq] at ho ⊢
  rw [List.getElem?_append_left (List.getElem?_eq_some_iff.1 ho).1]; exact ho, .refl o⟩
theorem HLe.set {h : List Obj} {i : Nat} {o o' : Obj} (ho : atN h i = some o) (hl : o.like o') : HLe h (setAt h i o') := fun j u hu => by
  rw [setAt_eq, atN_eq] at *
  by_cases e : i = j
  · subst e
    rw [ho] at hu; cases hu
    exact ⟨o', by rw [List.getElem?_set_self (List.getElem?_eq_some_iff.1 ho).1], hl⟩
  · exact ⟨u, by rw [List.getElem?_set_ne e]; exact hu, .refl u⟩

/-- More is known of where objects are. -/
def MLe (m m' : MM) : Prop := ∀ i b, m i = some b → m' i = some b

theorem RelV1.mono_on {P : Program} {h h' : List Obj} {m m' : MM} {F F' : FH} {v : AV} {u : Value} (hh : ∀ i o, v.has i = true → atN h i = some o → ∃ o', atN h' i = some o' ∧ o.like o')
    (hm : ∀ i o, v.has i = true → atN h i = some o → atN h' i ≠ some .gone → m' i = m i) (hF : F.le F') (hr : RelV1 P h m F v u) : RelV1 P h' m' F' v u := by
  cases v with
  | dat τ x => exact RepV.mono hF hr
  | clip τ xs => obtain ⟨ad, e, h1⟩ := hr; exact ⟨ad, e, fun hx => let ⟨d, cc, e1, e2, e3⟩ := h1 hx; ⟨d, cc, e1, e2.mono hF, RepL.mono (fun _ _ h => Rep.mono hF h) _ _ e3⟩⟩
  | bp id p =>
    rcases hr with hg | ⟨b, n, o, off, h1, h2, h3, h4⟩
    · obtain ⟨o', h5, h6⟩ := hh _ _ (Nat.beq_refl _) hg
      rcases h6 with rfl | h6
      · exact .inl h5
      · cases o' <;> exact h6.elim
    obtain ⟨o', h5, h6⟩ := hh _ _ (Nat.beq_refl _) h2
    rcases h6 with rfl | h6
    · exact .inl h5
    have hng : atN h' id ≠ some .gone := by intro e; rw [h5] at e; cases e; (cases o with | bx v f => cases v <;> exact h6.elim | _ => exact h6.elim)
    rw [← hm _ _ (Nat.beq_refl _) h2 hng] at h1
    refine .inr ⟨b, n, o', off, h1, h5, h3, ?_⟩
    cases o with
    | bx v f => cases v <;> (cases o' with
      | bx v' f' => cases v' <;> first | exact h4 | exact h6.elim | (simp only [Obj.like1] at h6; subst h6; exact h4)
      | _ => exact h6.elim)
    | _ => exact h4.elim
  | rp id i p =>
    rcases hr with hg | ⟨b, n, τ, xs, fz, off, σ, h1, h2, h3, h4, h5⟩
    · obtain ⟨o', h5, h6⟩ := hh _ _ (Nat.beq_refl _) hg
      rcases h6 with rfl | h6
      · exact .inl h5
      · cases o' <;> exact h6.elim
    obtain ⟨o', h6, h7⟩ := hh _ _ (Nat.beq_refl _) h2
    rcases h7 with rfl | h7
    · exact .inl h6
    cases o' with
    | row τ' xs' fz' =>
      obtain ⟨rfl, hl⟩ := h7
      exact .inr ⟨b, n, τ, xs', fz', off, σ, by rw [hm _ _ (Nat.beq_refl _) h2 (by rw [h6]; simp)]; exact h1, h6, by omega, h4, h5⟩
    | _ => exact h7.elim
  | ow id =>
    rcases hr with hg | ⟨τ, xs, fz, h2, h3⟩
    · obtain ⟨o', h5, h6⟩ := hh _ _ (Nat.beq_refl _) hg
      rcases h6 with rfl | h6
      · exact .inl h5
      · cases o' <;> exact h6.elim
    obtain ⟨o', h6, h7⟩ := hh _ _ (Nat.beq_refl _) h2
    rcases h7 with rfl | h7
    · exact .inl h6
    cases o' with
    | row τ' xs' fz' =>
      obtain ⟨rfl, hl⟩ := h7
      refine .inr ⟨τ, xs', fz', h6, ?_⟩
      rw [hm _ _ (Nat.beq_refl _) h2 (by rw [h6]; simp)]
      cases hmi : m id with
      | none =>
        rw [hmi] at h3
        obtain ⟨rfl, h3⟩ := h3
        exact ⟨List.length_eq_zero_iff.1 hl.symm, h3⟩
      | some b => rw [hmi] at h3; rw [← hl]; exact h3
    | _ => exact h7.elim
  | om id =>
    rcases hr with hg | ⟨b, n, κ, σ, es, h1, h2, h3⟩
    · obtain ⟨o', h5, h6⟩ := hh _ _ (Nat.beq_refl _) hg
      rcases h6 with rfl | h6
      · exact .inl h5
      · cases o' <;> exact h6.elim
    obtain ⟨o', h6, h7⟩ := hh _ _ (Nat.beq_refl _) h2
    rcases h7 with rfl | h7
    · exact .inl h6
    cases o' with
    | mp κ' σ' es' => obtain ⟨rfl, rfl⟩ := h7; exact .inr ⟨b, n, κ, σ, es', by rw [hm _ _ (Nat.beq_refl _) h2 (by rw [h6]; simp)]; exact h1, h6, h3⟩
    | _ => exact h7.elim
  | tup vs => exact hr.elim
  | dead => trivial

theorem RelV1.mono' {P : Program} {h h' : List Obj} {m m' : MM} {F F' : FH} (hh : HLe h h') (hm : ∀ i o, atN h i = some o → atN h' i ≠ some .gone → m' i = m i) (hF : F.le F') {v : AV} {u : Value} (hr : RelV1 P h m F v u) : RelV1 P h' m' F' v u :=
  RelV1.mono_on (fun i o _ ho => hh i o ho) (fun i o _ ho => hm i o ho) hF hr
theorem RelV1.mono {P : Program} {h h' : List Obj} {m m' : MM} {F F' : FH} (hh : HLe h h') (hm : ∀ i o, atN h i = some o → m' i = m i) (hF : F.le F') {v : AV} {u : Value} (hr : RelV1 P h m F v u) : RelV1 P h' m' F' v u :=
  RelV1.mono' hh (fun i o ho _ => hm i o ho) hF hr

theorem RelV.eq1 {P : Program} {h : List Obj} {m : MM} {F : FH} {v : AV} {u : Value} (hv : ∀ vs, v ≠ .tup vs) : RelV P h m F v u = RelV1 P h m F v u := by
  cases v <;> first | rfl | exact absurd rfl (hv _)

theorem RelV.mono' {P : Program} {h h' : List Obj} {m m' : MM} {F F' : FH} (hh : HLe h h') (hm : ∀ i o, atN h i = some o → atN h' i ≠ some .gone → m' i = m i) (hF : F.le F') {v : AV} {u : Value} (hr : RelV P h m F v u) : RelV P h' m' F' v u := by
  cases v with
  | tup vs => obtain ⟨arr, e, h1, h2⟩ := hr; exact ⟨arr, e, h1, fun i u hu => let ⟨x, hx, hx'⟩ := h2 i u hu; ⟨x, hx, RelV1.mono' hh hm hF hx'⟩⟩
  | _ => rw [RelV.eq1 (by intro vs e; cases e)] at hr ⊢; exact RelV1.mono' hh hm hF hr
theorem RelV.mono {P : Program} {h h' : List Obj} {m m' : MM} {F F' : FH} (hh : HLe h h') (hm : ∀ i o, atN h i = some o → m' i = m i) (hF : F.le F') {v : AV} {u : Value} (hr : RelV P h m F v u) : RelV P h' m' F' v u :=
  RelV.mono' hh (fun i o ho _ => hm i o ho) hF hr

theorem RelV.of1 {P : Program} {h : List Obj} {m : MM} {F : FH} {v : AV} {u : Value} (hr : RelV1 P h m F v u) : RelV P h m F v u := by
  cases v <;> first | exact hr | exact hr.elim

theorem live_ne {h : List Obj} {i : Nat} (hl : live h i = true) : atN h i ≠ some .gone := by
  intro e
  unfold live at hl
  rw [e] at hl
  cases hl

section
variable {P : Program} {h : List Obj} {m : MM} {F : FH} {v : Value}
/-- Of a way to an object that is there. -/
theorem RelV.bpAt {id : Nat} {p : List Nat} {v0 : AV} {f : Bool} (ho : atN h id = some (.bx v0 f)) (hr : RelV P h m F (.bp id p) v) :
    ∃ b n o off, m id = some (b, n) ∧ atN h id = some o ∧ v = .pointer (some ⟨b, off, none⟩) ∧
      (match o with
        | .bx (.dat τ _) _ => ∃ σ, offP p τ = some (off, σ)
        | .bx _ _ => p = [] ∧ off = 0
        | _ => False) := by
  rcases hr with hg | hr
  · rw [ho] at hg; cases hg
  · exact hr
theorem RelV.rpAt {id i : Nat} {p : List Nat} {τ : Ty} {xs : List τ.I} {f : Bool} (ho : atN h id = some (.row τ xs f)) (hr : RelV P h m F (.rp id i p) v) :
    ∃ b n τ xs fz off σ, m id = some (b, n) ∧ atN h id = some (.row τ xs fz) ∧ i < xs.length ∧ offP p τ = some (off, σ) ∧ v = .pointer (some ⟨b, i * nc τ + off, none⟩) := by
  rcases hr with hg | hr
  · rw [ho] at hg; cases hg
  · exact hr
theorem RelV1.owAt {id : Nat} {τ : Ty} {xs : List τ.I} {f : Bool} (ho : atN h id = some (.row τ xs f)) (hr : RelV1 P h m F (.ow id) v) :
    ∃ τ xs fz, atN h id = some (.row τ xs fz) ∧
      (match m id with
        | some (b, n) => ∃ cap, n = cap * nc τ ∧ xs.length ≤ cap ∧ v = .slice (some ⟨b, 0, none⟩) xs.length cap
        | none => xs = [] ∧ ∃ ad, v = .slice ad 0 0) := by
  rcases hr with hg | hr
  · rw [ho] at hg; cases hg
  · exact hr
theorem RelV.owAt {id : Nat} {τ : Ty} {xs : List τ.I} {f : Bool} (ho : atN h id = some (.row τ xs f)) (hr : RelV P h m F (.ow id) v) :
    ∃ τ xs fz, atN h id = some (.row τ xs fz) ∧
      (match m id with
        | some (b, n) => ∃ cap, n = cap * nc τ ∧ xs.length ≤ cap ∧ v = .slice (some ⟨b, 0, none⟩) xs.length cap
        | none => xs = [] ∧ ∃ ad, v = .slice ad 0 0) := RelV1.owAt (P := P) (F := F) ho hr
theorem RelV1.omAt {id : Nat} {κ σ : Ty} {es : List (κ.I × σ.I)} (ho : atN h id = some (.mp κ σ es)) (hr : RelV1 P h m F (.om id) v) :
    ∃ b n κ σ es, m id = some (b, n) ∧ atN h id = some (.mp κ σ es) ∧ v = .map (some b) := by
  rcases hr with hg | hr
  · rw [ho] at hg; cases hg
  · exact hr
theorem RelV.omAt {id : Nat} {κ σ : Ty} {es : List (κ.I × σ.I)} (ho : atN h id = some (.mp κ σ es)) (hr : RelV P h m F (.om id) v) :
    ∃ b n κ σ es, m id = some (b, n) ∧ atN h id = some (.mp κ σ es) ∧ v = .map (some b) := RelV1.omAt (P := P) (F := F) ho hr
end
theorem RelE.mono {P : Program} {F F' : FH} (hF : F.le F') {κ σ : Ty} {es : List (κ.I × σ.I)} {ents : List MapEntry} (h : RelE P F κ σ es ents) : RelE P F' κ σ es ents :=
  ⟨h.1, fun i p e hp he => let ⟨h1, h2⟩ := h.2 i p e hp he; ⟨h1.mono hF, h2.mono hF⟩⟩

/-- Of an object that is not the one that was turned. -/
theorem RelO.mono' {P : Program} {h h' : List Obj} {m m' : MM} {F F' : FH} {w w' : World} {i : Nat} {o : Obj} (hh : HLe h h') (hm : ∀ i o, atN h i = some o → atN h' i ≠ some .gone → m' i = m i) (hF : F.le F') (hmi' : m' i = m i)
    (hw : ∀ b n, m i = some (b, n) → w'.heap[b]? = w.heap[b]?) (hFb : ∀ b n, m i = some (b, n) → F b = none → F' b = none) (hr : RelO P h m F w i o) : RelO P h' m' F' w' i o := by
  cases o with
  | bx v fz =>
    obtain ⟨b, n, el, fr, cs, h1, h2, h3, h4⟩ := hr
    refine ⟨b, n, el, fr, cs, by rw [hmi']; exact h1, by rw [hw _ _ h1]; exact h2, ?_, ?_⟩
    · cases v with
      | dat τ x => exact Rep.mono hF h3
      | clip τ xs => obtain ⟨u, e, hu⟩ := h3; exact ⟨u, e, RelV1.mono' hh hm hF hu⟩
      | ow id => obtain ⟨u, e, hu⟩ := h3; exact ⟨u, e, RelV1.mono' hh hm hF hu⟩
      | om id => obtain ⟨u, e, hu⟩ := h3; exact ⟨u, e, RelV1.mono' hh hm hF hu⟩
      | dead => exact h3
      | _ => exact h3.elim
    · cases fz with
      | true => exact hF _ _ h4
      | false => exact ⟨hFb _ _ h1 h4.1, h4.2⟩
  | row τ xs fz =>
    simp only [RelO] at hr ⊢
    rw [hmi']
    cases hmi : m i with
    | none => rw [hmi] at hr; exact hr
    | some bn =>
      obtain ⟨b, n⟩ := bn
      rw [hmi] at hr
      obtain ⟨el, fr, cs, c, d, h2, h3, h4, h5, h6⟩ := hr
      refine ⟨el, fr, cs, c, d, by rw [hw _ _ hmi]; exact h2, h3, h4, RepL.mono (fun _ _ h => Rep.mono hF h) _ _ h5, ?_⟩
      cases fz with
      | true => exact hF _ _ h6
      | false => exact ⟨hFb _ _ hmi h6.1, h6.2⟩
  | mp κ σ es =>
    obtain ⟨b, n, ents, clock, h1, h2, h3, h4⟩ := hr
    exact ⟨b, n, ents, clock, by rw [hmi']; exact h1, by rw [hw _ _ h1]; exact h2, h3.mono hF, hFb _ _ h1 h4⟩
  | gone => trivial
theorem RelO.mono {P : Program} {h h' : List Obj} {m m' : MM} {F F' : FH} {w w' : World} {i : Nat} {o : Obj} (hh : HLe h h') (hm : ∀ i o, atN h i = some o → m' i = m i) (hF : F.le F') (ho : atN h i = some o)
    (hw : ∀ b n, m i = some (b, n) → w'.heap[b]? = w.heap[b]?) (hFb : ∀ b n, m i = some (b, n) → F b = none → F' b = none) (hr : RelO P h m F w i o) : RelO P h' m' F' w' i o :=
  RelO.mono' hh (fun i o ho _ => hm i o ho) hF (hm i o ho) hw hFb hr

section
variable {P : Program} {nt : Nat} {F0 F : FH} {w0 w : World} {st : St} {m : MM} {a : Act}

theorem Rel.put (h : Rel P nt F0 w0 st m F a w) {dst : Option Tmp} (hd : ∀ d, dst = some d → d < nt) {v : AV} {u : Value} (hv : RelV P st.h m F v u) :
    Rel P nt F0 w0 (st.put dst v) m F (a.put dst u) w := by
  cases dst with
  | none => exact h
  | some d =>
    refine ⟨by simpa [Act.put] using h.nt, fun t v' ht => ?_, h.obs, h.inj, h.rng, h.fok, h.gro, h.bel, h.dfr⟩
    simp only [St.put, look_ins] at ht ⊢
    have hlt : d < a.tmps.size := Nat.lt_of_lt_of_le (hd d rfl) h.nt
    by_cases e : d = t
    · subst e
      rw [if_pos rfl] at ht
      cases ht
      simpa [Act.put, hlt] using hv
    · rw [if_neg e] at ht
      have := h.fr t v' ht
      simpa [Act.put, Array.getElem?_setIfInBounds_ne e] using this

theorem Rel.frames (h : Rel P nt F0 w0 st m F a w) {fr : List (Nat × AV)} (hf : ∀ t v, look fr t = some v → look st.fr t = some v) : Rel P nt F0 w0 ⟨fr, st.h⟩ m F a w :=
  ⟨h.nt, fun t v ht => h.fr t v (hf t v ht), h.obs, h.inj, h.rng, h.fok, h.gro, h.bel, h.dfr⟩

/-- One object is turned, and its block; all others stay. -/
theorem Rel.turn (h : Rel P nt F0 w0 st m F a w) {i : Nat} {o o' : Obj} {w' : World} (ho : atN st.h i = some o) (hl : o.like o')
    (hos : w'.os = w.os) (htape : w'.tape = w.tape) (hout : w'.output = w.output) (hsz : w'.heap.size = w.heap.size)
    (hbl : ∀ b, (∀ n, m i ≠ some (b, n)) → w'.heap[b]? = w.heap[b]?) (hfz : ∀ b n, m i = some (b, n) → F b = none)
    (hnew : RelO P (setAt st.h i o') m F w' i o') : Rel P nt F0 w0 ⟨st.fr, setAt st.h i o'⟩ m F a w' := by
  have hh : HLe st.h (setAt st.h i o') := HLe.set ho hl
  have hi : i < st.h.length := by rw [atN_eq] at ho; exact (List.getElem?_eq_some_iff.1 ho).1
  refine ⟨h.nt, fun t v ht => (h.fr t v ht).mono hh (fun _ _ _ => rfl) (.refl F), fun j u hu => ?_, h.inj, fun j b n hj => ?_, fun k c hk => ?_, h.gro, ?_, h.dfr⟩
  · by_cases e : i = j
    · subst e
      rw [setAt_eq, atN_eq, List.getElem?_set_self hi] at hu
      cases hu
      exact hnew
    · have hu' : atN st.h j = some u := by rw [setAt_eq, atN_eq, List.getElem?_set_ne e] at hu; rw [atN_eq]; exact hu
      refine (h.obs j u hu').mono hh (fun _ _ _ => rfl) (.refl F) hu' (fun b n hb => ?_) (fun b n hb hn => hn)
      exact hbl b fun n' hn' => e (h.inj _ _ _ _ _ hn' hb)
  · have := h.rng j b n hj
    simp only [setAt_eq, List.length_set]
    omega
  · obtain ⟨el, fz, hw⟩ := h.fok k c hk
    refine ⟨el, fz, ?_⟩
    rw [hbl k fun n hn => ?_]
    · exact hw
    · rw [hfz _ _ hn] at hk; cases hk
  · refine h.bel.trans ⟨hos, htape, hout, by omega, fun k hk => hbl k fun n hn => ?_⟩
    have := h.rng i k n hn
    omega

/-- An object's block is frozen. -/
def FH.put (F : FH) (b : Nat) (cs : Array Value) : FH := fun k => if k = b then some cs else F k

theorem FH.put_le (b : Nat) (cs : Array Value) (h : F b = none) : F.le (F.put b cs) := fun k c hk => by
  unfold FH.put
  by_cases e : k = b
  · subst e; rw [h] at hk; cases hk
  · rw [if_neg e]; exact hk

theorem Rel.freeze (h : Rel P nt F0 w0 st m F a w) {i b n : Nat} {o o' : Obj} {el : TypeId} {fz : Nat × Nat} {cs : Array Value} (ho : atN st.h i = some o) (hl : o.like o')
    (hm : m i = some (b, n)) (hF : F b = none) (hw : w.heap[b]? = some (.cells cs el fz)) (hnew : RelO P (setAt st.h i o') m (F.put b cs) w i o') :
    Rel P nt F0 w0 ⟨st.fr, setAt st.h i o'⟩ m (F.put b cs) a w ∧ F.le (F.put b cs) := by
  have hh : HLe st.h (setAt st.h i o') := HLe.set ho hl
  have hle : F.le (F.put b cs) := FH.put_le b cs hF
  have hi : i < st.h.length := by rw [atN_eq] at ho; exact (List.getElem?_eq_some_iff.1 ho).1
  have hr := h.rng _ _ _ hm
  refine ⟨⟨h.nt, fun t v ht => (h.fr t v ht).mono hh (fun _ _ _ => rfl) hle, fun j u hu => ?_, h.inj, fun j b n hj => ?_, fun k c hk => ?_, ⟨h.gro.1.trans hle, fun k hk => ?_⟩, h.bel, h.dfr⟩, hle⟩
  · by_cases e : i = j
    · subst e
      rw [setAt_eq, atN_eq, List.getElem?_set_self hi] at hu
      cases hu
      exact hnew
    · have hu' : atN st.h j = some u := by rw [setAt_eq, atN_eq, List.getElem?_set_ne e] at hu; rw [atN_eq]; exact hu
      refine (h.obs j u hu').mono hh (fun _ _ _ => rfl) hle hu' (fun b n hb => rfl) (fun b' n' hb hn => ?_)
      unfold FH.put
      rw [if_neg]
      · exact hn
      · rintro rfl
        exact e (h.inj _ _ _ _ _ hm hb)
  · have := h.rng j b n hj
    simp only [setAt_eq, List.length_set]
    omega
  · unfold FH.put at hk
    by_cases e : k = b
    · subst e; rw [if_pos rfl] at hk; cases hk; exact ⟨el, fz, hw⟩
    · rw [if_neg e] at hk; exact h.fok k c hk
  · unfold FH.put
    rw [if_neg (by omega)]
    exact h.gro.2 k hk

/-- A new object, and its block. -/
def MM.put (m : MM) (i : Nat) (b : Nat × Nat) : MM := fun j => if j = i then some b else m j

theorem Rel.fresh (h : Rel P nt F0 w0 st m F a w) : m st.h.length = none := by
  cases hm : m st.h.length with
  | none => rfl
  | some bn => obtain ⟨b, n⟩ := bn; have := h.rng _ _ _ hm; omega

theorem Rel.noF (h : Rel P nt F0 w0 st m F a w) : F w.heap.size = none := by
  cases hm : F w.heap.size with
  | none => rfl
  | some c =>
    obtain ⟨el, fz, hw⟩ := h.fok _ _ hm
    simp at hw

theorem Rel.alloc (h : Rel P nt F0 w0 st m F a w) {o : Obj} {ob : Go.Obj} {n : Nat} {w' : World}
    (hos : w'.os = w.os) (htape : w'.tape = w.tape) (hout : w'.output = w.output) (hheap : w'.heap = w.heap.push ob)
    (hnew : RelO P (st.h ++ [o]) (m.put st.h.length (w.heap.size, n)) F w' st.h.length o) :
    Rel P nt F0 w0 ⟨st.fr, st.h ++ [o]⟩ (m.put st.h.length (w.heap.size, n)) F a w' := by
  have hh : HLe st.h (st.h ++ [o]) := HLe.append _ _
  have hlt : ∀ {j u}, atN st.h j = some u → j < st.h.length := fun {j u} hu => by rw [atN_eq] at hu; exact (List.getElem?_eq_some_iff.1 hu).1
  have hmm : ∀ j u, atN st.h j = some u → (m.put st.h.length (w.heap.size, n)) j = m j := fun j u hu => by
    have := hlt hu
    unfold MM.put; rw [if_neg (by omega)]
  have hbl : ∀ k, k < w.heap.size → w'.heap[k]? = w.heap[k]? := fun k hk => by rw [hheap, Array.getElem?_push, if_neg (by omega)]
  refine ⟨h.nt, fun t v ht => (h.fr t v ht).mono hh hmm (.refl F), fun j u hu => ?_, fun i j b n1 n2 hi hj => ?_, fun j b n' hj => ?_, fun k c hk => ?_, h.gro, ?_, h.dfr⟩
  · by_cases e : j = st.h.length
    · subst e
      rw [atN_eq] at hu
      simp at hu
      subst hu
      exact hnew
    · have hu' : atN st.h j = some u := by
        rw [atN_eq] at hu ⊢
        have := (List.getElem?_eq_some_iff.1 hu).1
        simp at this
        rw [List.getElem?_append_left (by omega)] at hu; exact hu
      refine (h.obs j u hu').mono hh hmm (.refl F) hu' (fun b n hb => hbl b (h.rng _ _ _ hb).2.2) (fun _ _ _ hn => hn)
  · unfold MM.put at hi hj
    by_cases e1 : i = st.h.length <;> by_cases e2 : j = st.h.length
    · omega
    · rw [if_pos e1] at hi; rw [if_neg e2] at hj
      have := h.rng _ _ _ hj
      simp at hi
      omega
    · rw [if_neg e1] at hi; rw [if_pos e2] at hj
      have := h.rng _ _ _ hi
      simp at hj
      omega
    · rw [if_neg e1] at hi; rw [if_neg e2] at hj
      exact h.inj _ _ _ _ _ hi hj
  · unfold MM.put at hj
    have hb0 := h.bel.size
    simp only [List.length_append, List.length_cons, List.length_nil, hheap, Array.size_push]
    by_cases e : j = st.h.length
    · rw [if_pos e] at hj
      simp at hj
      omega
    · rw [if_neg e] at hj
      have := h.rng _ _ _ hj
      omega
  · obtain ⟨el, fz, hw⟩ := h.fok k c hk
    exact ⟨el, fz, by rw [hbl k (Array.getElem?_eq_some_iff.1 hw).1]; exact hw⟩
  · exact h.bel.trans ⟨hos, htape, hout, by rw [hheap]; simp, fun k hk => hbl k (Nat.lt_of_lt_of_le hk h.bel.size)⟩

/-- The world has gone on below nothing: a call that wrote nothing of ours. -/
theorem Rel.step (h : Rel P nt F0 w0 st m F a w) {w' : World} {F' : FH} (hb : Below w.heap.size w w') (hF : F.grow F' w.heap.size) (hk : F'.ok w') : Rel P nt F0 w0 st m F' a w' := by
  have hs := h.bel.size
  refine ⟨h.nt, fun t v ht => (h.fr t v ht).mono (.refl _) (fun _ _ _ => rfl) hF.1, fun j u hu => ?_, h.inj, fun j b n hj => ?_, hk, h.gro.trans hF hs, h.bel.trans (hb.mono hs), h.dfr⟩
  · refine (h.obs j u hu).mono (.refl _) (fun _ _ _ => rfl) hF.1 hu (fun b n hb' => hb.block b (h.rng _ _ _ hb').2.2) (fun b n hb' hn => ?_)
    rw [hF.2 b (h.rng _ _ _ hb').2.2]; exact hn
  · have := h.rng j b n hj
    have := hb.size
    omega

theorem Rel.drew (h : Rel P nt F0 w0 st m F a w) : Rel P nt F0 w0 st m F a { w with drawn := w.drawn + 1 } :=
  ⟨h.nt, h.fr, h.obs, h.inj, h.rng, h.fok, h.gro, h.bel.trans ⟨rfl, rfl, rfl, Nat.le_refl _, fun _ _ => rfl⟩, h.dfr⟩

end
end Go.Ev

/-! What comes of an operation does not hang on what follows it. -/
namespace Go.Ev
set_option linter.unusedSimpArgs false
set_option linter.unusedVariables false

/-- The state and the value that an operation comes to. -/
abbrev pk (v : AV) (st : St) : Option (AV × St) := some (v, st)

section
variable {R : Type} {k : AV → St → Option R} {st : St} {E : Env}

theorem cond_bind {α β : Type} (c : Bool) (x y : Option α) (f : α → Option β) : (cond c x y).bind f = cond c (x.bind f) (y.bind f) := by cases c <;> rfl

theorem kB_nat (b : Bool) : kB b st k = (kB b st pk).bind fun p => k p.1 p.2 := by cases b <;> rfl
theorem kAV_nat (v : AV) : kAV v st k = (kAV v st pk).bind fun p => k p.1 p.2 := by
  unfold kAV
  split
  · exact kB_nat _
  · rfl
theorem evBin_nat (op : BinOp) (t : TypeId) (x y : AV) : evBin E op t x y st k = (evBin E op t x y st pk).bind fun p => k p.1 p.2 := by
  unfold evBin
  (repeat' split) <;> simp only [cond_bind, Option.bind_some, Option.bind_none, ← kB_nat]
theorem evUn_nat (op : UnOp) (x : AV) : evUn op x st k = (evUn op x st pk).bind fun p => k p.1 p.2 := by
  unfold evUn
  (repeat' split) <;> simp only [cond_bind, Option.bind_some, Option.bind_none, ← kB_nat]
theorem evLoad_nat (t : TypeId) (a : AV) : evLoad E t a st k = (evLoad E t a st pk).bind fun p => k p.1 p.2 := by
  unfold evLoad
  (repeat' split) <;> simp only [cond_bind, Option.bind_some, Option.bind_none, ← kAV_nat]
theorem evStore_nat (t : TypeId) (a v : AV) : evStore E t a v st k = (evStore E t a v st pk).bind fun p => k p.1 p.2 := by
  unfold evStore
  (repeat' split) <;> simp only [cond_bind, Option.bind_some, Option.bind_none, ← kAV_nat]
theorem kIdx_nat (n : Int) (len : Nat) (f : Nat → Option (AV × St)) : (kIdx n len f).bind (fun p => k p.1 p.2) = kIdx n len fun i => (f i).bind fun p => k p.1 p.2 := by
  simp only [kIdx, cond_bind, Option.bind_none]
theorem bnd_nat (x : Option (Option AV)) (d most : Nat) (f : Nat → Option (AV × St)) : (bnd x d most f).bind (fun p => k p.1 p.2) = bnd x d most fun i => (f i).bind fun p => k p.1 p.2 := by
  unfold bnd
  split <;> simp only [cond_bind, Option.bind_none]
theorem evIndexAddr_nat (t : TypeId) (x i : AV) : evIndexAddr E t x i st k = (evIndexAddr E t x i st pk).bind fun p => k p.1 p.2 := by
  unfold evIndexAddr
  (repeat' split) <;> simp only [cond_bind, Option.bind_some, Option.bind_none, kIdx_nat]
theorem evIndex_nat (t : TypeId) (x i : AV) : evIndex E t x i st k = (evIndex E t x i st pk).bind fun p => k p.1 p.2 := by
  unfold evIndex
  (repeat' split) <;> simp only [cond_bind, Option.bind_some, Option.bind_none, kIdx_nat, ← kAV_nat]
theorem evMakeFunc_nat (q : Bool) (ty : TypeId) (fn : Fn) (first caps : List (Option AV)) : evMakeFunc q E ty fn first caps st k = (evMakeFunc q E ty fn first caps st pk).bind fun p => k p.1 p.2 := by
  unfold evMakeFunc
  (repeat' split) <;> simp only [cond_bind, Option.bind_some, Option.bind_none]
theorem evAppendRow_nat (σ : Ty) (x : AV) (ys : List σ.I) : evAppendRow σ x ys st k = (evAppendRow σ x ys st pk).bind fun p => k p.1 p.2 := by
  unfold evAppendRow
  (repeat' split) <;> simp only [cond_bind, Option.bind_some, Option.bind_none]
theorem evAppend_nat (t u : TypeId) (x y : AV) : evAppend E t u x y st k = (evAppend E t u x y st pk).bind fun p => k p.1 p.2 := by
  unfold evAppend
  (repeat' split) <;> simp only [cond_bind, Option.bind_some, Option.bind_none, ← evAppendRow_nat]
theorem evSlice_nat (q : Bool) (t : TypeId) (x : AV) (lo hi mx : Option (Option AV)) : evSlice q E t x lo hi mx st k = (evSlice q E t x lo hi mx st pk).bind fun p => k p.1 p.2 := by
  unfold evSlice
  (repeat' split) <;> simp only [evSliceL, cond_bind, Option.bind_some, Option.bind_none, bnd_nat]
  (repeat' split) <;> simp only [evSliceL, cond_bind, Option.bind_some, Option.bind_none, bnd_nat]
theorem evLen_nat (t : TypeId) (x : AV) : evLen E t x st k = (evLen E t x st pk).bind fun p => k p.1 p.2 := by
  unfold evLen
  (repeat' split) <;> simp only [cond_bind, Option.bind_some, Option.bind_none]
theorem evLookup_nat (t : TypeId) (m i : AV) (ok : Bool) : evLookup E t m i ok st k = (evLookup E t m i ok st pk).bind fun p => k p.1 p.2 := by
  unfold evLookup
  (repeat' split) <;> simp only [cond_bind, Option.bind_some, Option.bind_none, ← kAV_nat]
theorem evMapUpdate_nat (t : TypeId) (m i v : AV) : evMapUpdate E t m i v st k = (evMapUpdate E t m i v st pk).bind fun p => k p.1 p.2 := by
  unfold evMapUpdate
  (repeat' split) <;> simp only [cond_bind, Option.bind_some, Option.bind_none]
theorem evCallF_nat (q : Bool) (a r : Ty) (md : Nat) (g : a.I → Option r.I) (args : List (Option AV)) : evCallF q a r md g args st k = (evCallF q a r md g args st pk).bind fun p => k p.1 p.2 := by
  unfold evCallF
  simp only [cond_bind, Option.bind_none]
  congr 1
  split
  · rw [Option.bind_assoc]
    congr 1
    funext y
    exact kAV_nat _
  · rfl
theorem evCall_nat (q : Bool) (c : Call) : evCall q E c st k = (evCall q E c st pk).bind fun p => k p.1 p.2 := by
  unfold evCall
  (repeat' split) <;> simp only [cond_bind, Option.bind_some, Option.bind_none, ← evCallF_nat, ← evLen_nat, ← evAppend_nat]
theorem evConvert_nat (q : Bool) (s d : TypeId) (x : AV) : evConvert q E s d x st k = (evConvert q E s d x st pk).bind fun p => k p.1 p.2 := by
  unfold evConvert
  (repeat' split) <;> simp only [cond_bind, Option.bind_some, Option.bind_none]
theorem evFieldAddr_nat (t : TypeId) (x : AV) (f : Nat) : evFieldAddr E t x f st k = (evFieldAddr E t x f st pk).bind fun p => k p.1 p.2 := by
  unfold evFieldAddr
  (repeat' split) <;> simp only [cond_bind, Option.bind_some, Option.bind_none]

theorem evOp_nat (q : Bool) (op : Op) (ty : TypeId) : evOp q E op ty st k = (evOp q E op ty st pk).bind fun p => k p.1 p.2 := by
  unfold evOp
  split
  all_goals ((repeat' split) <;> simp only [evAlloc, cond_bind, Option.bind_some, Option.bind_none, ← kAV_nat, ← evBin_nat, ← evUn_nat, ← evLoad_nat, ← evStore_nat, ← evIndexAddr_nat, ← evIndex_nat, ← evMakeFunc_nat, ← evSlice_nat, ← evLookup_nat, ← evMapUpdate_nat, ← evCall_nat, ← evConvert_nat, ← evFieldAddr_nat])
end
end Go.Ev

/-! The types of the program, held against the evaluator's. -/
namespace Go.Ev
open Go.RowKit
set_option linter.unusedSimpArgs false
set_option linter.unusedVariables false

def zcOne (q : Value → Bool) : List Value → Option (List Value)
  | v :: l => cond (q v) (some l) none
  | [] => none
/-- Cells that begin with a type's zero: what is behind. -/
def zcB : Ty → List Value → Option (List Value)
  | .unit, l => some l
  | .bool, l => zcOne (fun v => match v with | .bool false => true | _ => false) l
  | .int k, l => zcOne (fun v => match v with | .int k' n => decide (k = k') && decide (n = 0) | _ => false) l
  | .str, l => zcOne (fun v => match v with | .string s => decide (s.data = #[]) | _ => false) l
  | .pair a b, l => (zcB a l).bind (zcB b)
  | .st a, l => zcB a l
  | .arr n a, l => n.rec (motive := fun _ => List Value → Option (List Value)) some (fun _ ih l => (zcB a l).bind ih) l
  | .sl _, l => zcOne (fun v => match v with | .slice none 0 0 => true | _ => false) l
  | .ptr _, l => zcOne (fun v => match v with | .pointer none => true | _ => false) l
  | .fn _ _, l => zcOne (fun v => match v with | .nilFunc => true | _ => false) l

theorem zcOne_spec {q : Value → Bool} {l r : List Value} (h : zcOne q l = some r) : ∃ v, l = v :: r ∧ q v = true := by
  cases l with
  | nil => cases h
  | cons v l =>
    simp only [zcOne] at h
    cases hq : q v with
    | false => rw [hq] at h; cases h
    | true => rw [hq] at h; simp only [cond_true, Option.some.injEq] at h; exact ⟨v, by rw [h], hq⟩

theorem zcB_spec (P : Program) (F : FH) : ∀ (τ : Ty) (l r : List Value), zcB τ l = some r → ∃ c, l = c ++ r ∧ Rep P F τ (dflt τ) c := by
  intro τ
  induction τ with
  | unit => intro l r h; simp only [zcB, Option.some.injEq] at h; exact ⟨[], by simp [h], rfl⟩
  | bool =>
    intro l r h
    obtain ⟨v, rfl, hv⟩ := zcOne_spec h
    split at hv
    · exact ⟨[.bool false], rfl, rfl⟩
    · cases hv
  | int k =>
    intro l r h
    obtain ⟨v, rfl, hv⟩ := zcOne_spec h
    split at hv
    · simp only [Bool.and_eq_true, decide_eq_true_eq] at hv
      obtain ⟨rfl, rfl⟩ := hv
      exact ⟨[.int k 0], rfl, rfl⟩
    · cases hv
  | str =>
    intro l r h
    obtain ⟨v, rfl, hv⟩ := zcOne_spec h
    split at hv
    · rename_i s
      obtain ⟨d⟩ := s
      simp only [decide_eq_true_eq] at hv
      subst hv
      exact ⟨[.string ⟨#[]⟩], rfl, rfl⟩
    · cases hv
  | pair a b iha ihb =>
    intro l r h
    simp only [zcB, Option.bind_eq_some_iff] at h
    obtain ⟨l1, h1, h2⟩ := h
    obtain ⟨c, rfl, hc⟩ := iha _ _ h1
    obtain ⟨d, rfl, hd⟩ := ihb _ _ h2
    exact ⟨c ++ d, by simp, c, d, rfl, hc, hd⟩
  | st a ih => intro l r h; exact ih l r h
  | arr n a ih =>
    intro l r h
    have : ∀ (n : Nat) (l r : List Value), Nat.rec (motive := fun _ => List Value → Option (List Value)) some (fun _ ih l => (zcB a l).bind ih) n l = some r → ∃ c, l = c ++ r ∧ RepL ((RR P a).1 F) (List.replicate n (dflt a)) c := by
      intro n
      induction n with
      | zero => intro l r h; change some l = some r at h; simp only [Option.some.injEq] at h; exact ⟨[], by simp [h], rfl⟩
      | succ n ihn =>
        intro l r h
        change (zcB a l).bind _ = some r at h
        simp only [Option.bind_eq_some_iff] at h
        obtain ⟨l1, h1, h2⟩ := h
        obtain ⟨c, rfl, hc⟩ := ih _ _ h1
        obtain ⟨d, rfl, hd⟩ := ihn _ _ h2
        exact ⟨c ++ d, by simp, c, d, rfl, hc, hd⟩
    obtain ⟨c, h1, h2⟩ := this n l r h
    exact ⟨c, h1, by simp [dflt], h2⟩
  | sl a _ =>
    intro l r h
    obtain ⟨v, rfl, hv⟩ := zcOne_spec h
    split at hv
    · exact ⟨[.slice none 0 0], rfl, none, 0, rfl, Nat.le_refl _, fun hx => absurd rfl hx⟩
    · cases hv
  | ptr a _ =>
    intro l r h
    obtain ⟨v, rfl, hv⟩ := zcOne_spec h
    split at hv
    · exact ⟨[.pointer none], rfl, rfl⟩
    · cases hv
  | fn a b _ _ =>
    intro l r h
    obtain ⟨v, rfl, hv⟩ := zcOne_spec h
    split at hv
    · exact ⟨[.nilFunc], rfl, rfl⟩
    · cases hv

def bytesMost : Nat := 16384

def headB (P : Program) (t : TypeId) (τ : Ty) : Bool :=
  match P.info? t with
  | some i => Nat.beq i.size (nc τ) && Nat.ble i.bytes bytesMost && Nat.ble 1 i.bytes && (match i.zero with
    | some z => (isAggV z == τ.agg) && (match zcB τ z.cells.toList with | some [] => true | _ => false)
    | none => false)
  | none => false

theorem Ty.np_spec {τ : Ty} (h : τ.np = true) : ∀ a b, τ ≠ .pair a b := by rintro a b rfl; cases h

/-- Of each type: whether the program's type with a number is it; whether fields are a chain of it, from an offset on. -/
def tyB (P : Program) : Ty → (TypeId → Bool) × (List Field → Nat → Bool)
  | .unit => (fun _ => false, fun fs _ => fs.isEmpty)
  | .bool => (fun t => headB P t .bool && (match P.underlying t with | some .bool => true | _ => false), fun _ _ => false)
  | .int k => (fun t => headB P t (.int k) && (match P.underlying t with | some (.int k') => decide (k = k') | _ => false), fun _ _ => false)
  | .str => (fun t => headB P t .str && (match P.underlying t with | some .string => true | _ => false), fun _ _ => false)
  | .pair a b => (fun t => (match P.underlying t with | some (.map k e) => (tyB P a).1 k && (tyB P b).1 e | _ => false) && (match P.info? t with | some i => Nat.beq i.size 1 | none => false),
      fun fs off => match fs with
        | f :: fs => Nat.beq f.offset off && (tyB P a).1 f.type && (Nat.blt 0 (nc a) && a.np) && (f.name != "_") && (tyB P b).2 fs (off + nc a)
        | [] => false)
  | .st a => (fun t => headB P t (.st a) && (match P.underlying t with | some (.struct fs) => (tyB P a).2 fs.toList 0 && !P.stoodInHeld t && !P.eqGuardType P.depth t | _ => false), fun _ _ => false)
  | .arr n a => (fun t => headB P t (.arr n a) && (Nat.blt 0 (nc a) && a.np) && (match P.underlying t with | some (.array m e) => Nat.beq m n && (tyB P a).1 e && !P.eqGuardType P.depth t | _ => false), fun _ _ => false)
  | .sl a => (fun t => headB P t (.sl a) && (Nat.blt 0 (nc a) && a.np) && (match P.underlying t with | some (.slice e) => (tyB P a).1 e | _ => false), fun _ _ => false)
  | .ptr a => (fun t => headB P t (.ptr a) && (match P.underlying t with | some (.pointer _) => true | _ => false), fun _ _ => false)
  | .fn a b => (fun t => headB P t (.fn a b) && (match P.underlying t with | some (.func _ _ _) => true | _ => false), fun _ _ => false)

def TyOk (P : Program) (t : TypeId) (τ : Ty) : Prop := (tyB P τ).1 t = true

theorem headB_spec {P : Program} {t : TypeId} {τ : Ty} (h : headB P t τ = true) :
    ∃ i z, P.info? t = some i ∧ i.size = nc τ ∧ i.bytes ≤ bytesMost ∧ i.zero = some z ∧ ∀ F, RepV P F τ (dflt τ) z := by
  unfold headB at h
  split at h
  · rename_i i hi
    simp only [Bool.and_eq_true] at h
    obtain ⟨⟨⟨h1, h2⟩, _⟩, h3⟩ := h
    split at h3
    · rename_i z hz
      simp only [Bool.and_eq_true, beq_iff_eq] at h3
      obtain ⟨h4, h5⟩ := h3
      split at h5
      · rename_i hzc
        refine ⟨i, z, hi, Nat.eq_of_beq_eq_true h1, Nat.le_of_ble_eq_true h2, hz, fun F => ⟨?_, h4⟩⟩
        obtain ⟨c, hc, hr⟩ := zcB_spec P F τ _ _ hzc
        rw [List.append_nil] at hc
        rw [hc]; exact hr
      · cases h5
    · cases h3
  · cases h

theorem headB_bytes {P : Program} {t : TypeId} {τ : Ty} (h : headB P t τ = true) {i : TypeInfo} (hi : P.info? t = some i) : 0 < i.bytes := by
  unfold headB at h
  rw [hi] at h
  simp only [Bool.and_eq_true] at h
  exact Nat.le_of_ble_eq_true h.1.2

theorem TyOk.head {P : Program} {t : TypeId} {τ : Ty} (h : TyOk P t τ) (hp : ∀ a b, τ ≠ .pair a b) : headB P t τ = true := by
  cases τ with
  | unit => cases h
  | pair a b => exact absurd rfl (hp a b)
  | _ => simp only [TyOk, tyB, Bool.and_eq_true] at h; first | exact h.1 | exact h.1.1

theorem TyOk.sl {P : Program} {t : TypeId} {a : Ty} (h : TyOk P t (.sl a)) : ∃ e, P.underlying t = some (.slice e) ∧ TyOk P e a ∧ 0 < nc a ∧ a.np = true := by
  simp only [TyOk, tyB, Bool.and_eq_true] at h
  obtain ⟨⟨_, h1⟩, h2⟩ := h
  split at h2
  · rename_i e he; exact ⟨e, he, h2, Nat.le_of_ble_eq_true h1.1, h1.2⟩
  · cases h2
theorem TyOk.arr {P : Program} {t : TypeId} {n : Nat} {a : Ty} (h : TyOk P t (.arr n a)) : ∃ e, P.underlying t = some (.array n e) ∧ TyOk P e a ∧ 0 < nc a ∧ a.np = true ∧ P.eqGuardType P.depth t = false := by
  simp only [TyOk, tyB, Bool.and_eq_true] at h
  obtain ⟨⟨_, h1⟩, h2⟩ := h
  split at h2
  · rename_i m e he
    simp only [Bool.and_eq_true, Bool.not_eq_true'] at h2
    obtain rfl := Nat.eq_of_beq_eq_true h2.1.1
    exact ⟨e, he, h2.1.2, Nat.le_of_ble_eq_true h1.1, h1.2, h2.2⟩
  · cases h2
theorem TyOk.st {P : Program} {t : TypeId} {a : Ty} (h : TyOk P t (.st a)) : ∃ fs, P.underlying t = some (.struct fs) ∧ (tyB P a).2 fs.toList 0 = true ∧ P.stoodInHeld t = false ∧ P.eqGuardType P.depth t = false := by
  simp only [TyOk, tyB, Bool.and_eq_true] at h
  obtain ⟨_, h2⟩ := h
  split at h2
  · rename_i fs he
    simp only [Bool.and_eq_true, Bool.not_eq_true'] at h2
    exact ⟨fs, he, h2.1.1, h2.1.2, h2.2⟩
  · cases h2

theorem flds_nth {P : Program} : ∀ {a : Ty} {fs : List Field} {off i o : Nat} {σ : Ty}, (tyB P a).2 fs off = true → nthT a i = some (o, σ) →
    ∃ f, fs[i]? = some f ∧ f.offset = off + o ∧ TyOk P f.type σ ∧ 0 < nc σ ∧ σ.np = true ∧ (f.name != "_") = true := by
  intro a
  induction a with
  | pair a b _ ihb =>
    intro fs off i o σ h hn
    simp only [tyB] at h
    cases fs with
    | nil => cases h
    | cons f fs =>
      simp only [Bool.and_eq_true] at h
      obtain ⟨⟨⟨⟨h1, h2⟩, h3⟩, h4⟩, h5⟩ := h
      cases i with
      | zero =>
        simp only [nthT, Option.some.injEq, Prod.mk.injEq] at hn
        obtain ⟨rfl, rfl⟩ := hn
        exact ⟨f, rfl, Nat.eq_of_beq_eq_true h1, h2, Nat.le_of_ble_eq_true h3.1, h3.2, h4⟩
      | succ i =>
        simp only [nthT, Option.map_eq_some_iff, Prod.mk.injEq, Prod.exists] at hn
        obtain ⟨o', σ', hn, rfl, rfl⟩ := hn
        obtain ⟨f', e1, e2, e3⟩ := ihb h5 hn
        exact ⟨f', by simpa using e1, by omega, e3⟩
  | _ => intro fs off i o σ h hn; simp [nthT] at hn

/-- Is the type told of an aggregate's? -/
theorem TyOk.isAgg {P : Program} {t : TypeId} {τ : Ty} (h : TyOk P t τ) : ∃ d, P.underlying t = some d ∧ (match d with | .struct _ | .array _ _ => true | _ => false) = τ.agg := by
  cases τ with
  | unit => cases h
  | pair a b =>
    simp only [TyOk, tyB, Bool.and_eq_true] at h
    have h := h.1
    split at h
    · rename_i k e he; exact ⟨_, he, rfl⟩
    · cases h
  | sl a => obtain ⟨e, he, _⟩ := h.sl; exact ⟨_, he, rfl⟩
  | arr n a => obtain ⟨e, he, _⟩ := h.arr; exact ⟨_, he, rfl⟩
  | st a => obtain ⟨e, he, _⟩ := h.st; exact ⟨_, he, rfl⟩
  | _ =>
    simp only [TyOk, tyB, Bool.and_eq_true] at h
    have h := h.2
    split at h
    · rename_i he; exact ⟨_, he, rfl⟩
    · cases h

/-- What an environment is to tell truly. -/
def SndF (P : Program) (G : FH) (f : FuncId) (F : Fun) : Prop :=
  Enters P f ∧ ∀ x y, F.spec x = some y → ∀ F0 w vs, G.le F0 → F0.ok w → RepA P F0 F.a x vs →
    Calls P f vs.toArray w fun e w' => ∃ us F', e = .returned (unTup us) ∧ Below w.heap.size w w' ∧ F0.grow F' w.heap.size ∧ F'.ok w' ∧
      (match F.md with
        | 1 => match F.r, y with
          | .pair (.sl a) b, y => ∃ v r, us = v :: r ∧ RepA P F' b y.2 r ∧
              ((∃ bk cap el cs c d, v = .slice (some ⟨bk, 0, none⟩) (List.length y.1) cap ∧ List.length y.1 ≤ cap ∧ w.heap.size ≤ bk ∧ w'.heap[bk]? = some (.cells cs el (0, 0)) ∧ F' bk = none ∧
                  cs.size = cap * nc a ∧ cs.toList = c ++ d ∧ RepL (Rep P F' a) y.1 c) ∨ (y.1 = [] ∧ ∃ ad, v = .slice ad 0 0))
          | _, _ => False
        | 2 => match F.r, y with
          | .pair (.sl a) b, y => ∃ v r ad, us = v :: r ∧ RepA P F' b y.2 r ∧ v = .slice ad (List.length y.1) (List.length y.1) ∧ (y.1 ≠ [] → ∃ d cc, ad = some d ∧ At F' d cc ∧ RepL (Rep P F' a) y.1 cc)
          | _, _ => False
        | _ => RepA P F' F.r y us)

structure EnvOk (P : Program) (G : FH) (E : Env) : Prop where
  types : ∀ t τ, look E.types t = some τ → TyOk P t τ
  funs : ∀ f F, look E.funs f = some F → SndF P G f F
  glob : ∀ g v, look E.glob g = some v → ∃ τ x cs, v = .dat (.ptr τ) (some x) ∧ At G ⟨g, 0, none⟩ cs ∧ Rep P G τ x cs

theorem Env.is_spec {E : Env} {t : Nat} {τ : Ty} (h : E.is t τ = true) : look E.types t = some τ := by
  unfold Env.is at h
  split at h
  · rename_i σ hσ; rw [hσ]; simp only [Bool.and_eq_true, decide_eq_true_eq] at h; rw [h.1]
  · cases h
theorem Env.is_np {E : Env} {t : Nat} {τ : Ty} (h : E.is t τ = true) : ∀ a b, τ ≠ .pair a b := by
  unfold Env.is at h
  split at h
  · simp only [Bool.and_eq_true] at h; exact Ty.np_spec h.2
  · cases h
theorem Env.isM_spec {E : Env} {t : Nat} {κ σ : Ty} (h : E.isM t κ σ = true) : look E.types t = some (.pair κ σ) := by
  unfold Env.isM at h
  split at h
  · rename_i ρ hσ; rw [hσ]; simp only [decide_eq_true_eq] at h; rw [h]
  · cases h

end Go.Ev

/-! Reading operands, freezing, packing. -/
namespace Go.Ev
open Go.RowKit
set_option linter.unusedSimpArgs false
set_option linter.unusedVariables false

theorem Rep.one {P : Program} {F : FH} : ∀ {τ : Ty} {x : τ.I} {cs : List Value}, Rep P F τ x cs → ∀ v ∈ cs, v.oneCell' = true := by
  intro τ
  induction τ with
  | unit => intro x cs h; cases h; simp
  | bool => intro x cs h; cases h; simp [Value.oneCell']
  | int k => intro x cs h; cases h; simp [Value.oneCell']
  | str => intro x cs h; cases h; simp [Value.oneCell']
  | pair a b iha ihb =>
    rintro x cs ⟨c, d, rfl, h1, h2⟩ v hv
    rcases List.mem_append.1 hv with hv | hv
    · exact iha h1 v hv
    · exact ihb h2 v hv
  | st a ih => intro x cs h; exact ih (x := x) h
  | arr n a ih =>
    rintro x cs ⟨_, h2⟩
    have : ∀ (xs : List a.I) cs, RepL ((RR P a).1 F) xs cs → ∀ v ∈ cs, v.oneCell' = true := by
      intro xs
      induction xs with
      | nil => intro cs h; cases h; simp
      | cons x xs ihx =>
        rintro cs ⟨c, d, rfl, h1, h2⟩ v hv
        rcases List.mem_append.1 hv with hv | hv
        · exact ih h1 v hv
        · exact ihx d h2 v hv
    exact this _ _ h2
  | sl a _ => rintro x cs ⟨ad, cap, rfl, _⟩; simp [Value.oneCell']
  | ptr a _ =>
    intro x cs h
    cases x with
    | none => cases h; simp [Value.oneCell']
    | some x => obtain ⟨_, _, rfl, _⟩ := h; simp [Value.oneCell']
  | fn a b _ _ =>
    intro x cs h
    cases x with
    | none => cases h; simp [Value.oneCell']
    | some x => obtain ⟨_, _, _, rfl, _⟩ := h; simp [Value.oneCell']

/-- A value of cells: as its type has it. -/
def toV (τ : Ty) (cs : List Value) : Value := match τ.agg, cs with | true, cs => .agg cs.toArray | false, [v] => v | false, _ => undef
theorem toV_spec {P : Program} {F : FH} {τ : Ty} {x : τ.I} {cs : List Value} (h : Rep P F τ x cs) (hn : nc τ = 1 ∨ τ.agg = true) : RepV P F τ x (toV τ cs) ∧ (toV τ cs).cells.toList = cs := by
  have h1 := Rep.one h
  have hl := Rep.length h
  unfold toV
  cases ha : τ.agg with
  | true => simp only []; exact ⟨⟨by simpa [Value.cells] using h, by rw [ha]; rfl⟩, by simp [Value.cells]⟩
  | false =>
    rw [ha] at hn
    have hl : cs.length = 1 := by rw [hl]; exact hn.resolve_right (by simp)
    match cs, hl with
    | [v], _ =>
      have hv := h1 v (by simp)
      have hc : v.cells = #[v] := by cases v <;> first | rfl | cases hv
      refine ⟨⟨by rw [hc]; exact h, ?_⟩, by simp [hc]⟩
      rw [ha]
      cases v <;> first | rfl | cases hv

theorem nc_one {P : Program} {t : TypeId} {τ : Ty} (h : TyOk P t τ) (hp : ∀ a b, τ ≠ .pair a b) : nc τ = 1 ∨ τ.agg = true := by
  cases τ with
  | unit => cases h
  | pair a b => exact absurd rfl (hp a b)
  | _ => first | exact .inl rfl | exact .inr rfl

section
variable {P : Program} {nt : Nat} {F0 F G : FH} {w0 w : World} {st st' : St} {m : MM} {a : Act} {E : Env}

/-! ### Freezing -/
theorem Rel.row (h : Rel P nt F0 w0 st m F a w) {i b n : Nat} {τ : Ty} {xs : List τ.I} {fz : Bool} (ho : atN st.h i = some (.row τ xs fz)) (hm : m i = some (b, n)) :
    ∃ el fr cs c d, w.heap[b]? = some (.cells cs el fr) ∧ cs.size = n ∧ cs.toList = c ++ d ∧ RepL (Rep P F τ) xs c ∧ FzOk F b cs fr fz := by
  have := h.obs i _ ho
  simp only [RelO, hm] at this
  exact this

theorem Rel.row0 (h : Rel P nt F0 w0 st m F a w) {i : Nat} {τ : Ty} {xs : List τ.I} {fz : Bool} (ho : atN st.h i = some (.row τ xs fz)) (hm : m i = none) : xs = [] := by
  have := h.obs i _ ho
  simp only [RelO, hm] at this
  exact this

theorem RepV.sl_of_row {F : FH} {τ : Ty} {xs : List τ.I} {b cap : Nat} {cs : Array Value} {c d : List Value} (hF : F b = some cs) (hc : cs.toList = c ++ d) (hr : RepL (Rep P F τ) xs c) (hcap : xs.length ≤ cap) :
    RepV P F (.sl τ) xs (.slice (some ⟨b, 0, none⟩) xs.length cap) := by
  refine ⟨⟨_, cap, rfl, hcap, fun _ => ⟨_, c, rfl, ⟨rfl, cs, hF, fun j v hj => ?_⟩, hr⟩⟩, rfl⟩
  have hlt := (List.getElem?_eq_some_iff.1 hj).1
  rw [Nat.zero_add, ← Array.getElem?_toList, hc, List.getElem?_append_left hlt]
  exact hj

theorem RepV.sl_nil {F : FH} {τ : Ty} {ad : Option Addr} : RepV P F (.sl τ) [] (.slice ad 0 0) :=
  ⟨⟨ad, 0, rfl, Nat.le_refl _, fun h => absurd rfl h⟩, rfl⟩

theorem frz_spec {q : Bool} {v : AV} {u : Value} {τ : Ty} {x : τ.I} (hz : frz q st v = some ⟨τ, x, st'⟩) (h : Rel P nt F0 w0 st m F a w) (hv : RelV P st.h m F v u) :
    ∃ F', F.le F' ∧ Rel P nt F0 w0 st' m F' a w ∧ RepV P F' τ x u ∧ HLe st.h st'.h := by
  cases v with
  | dat τ' y =>
    simp only [frz, Option.some.injEq] at hz
    cases hz
    exact ⟨F, .refl F, h, hv, .refl _⟩
  | clip τ' ys =>
    simp only [frz, Option.some.injEq] at hz
    cases hz
    obtain ⟨ad, rfl, h1⟩ := hv
    exact ⟨F, .refl F, h, ⟨⟨ad, _, rfl, Nat.le_refl _, h1⟩, rfl⟩, .refl _⟩
  | ow id =>
    rcases hv with hg | ⟨σ, xs, fz, ho, hu⟩
    · simp [frz, hg] at hz
    simp only [frz, ho] at hz
    cases hmi : m id with
    | none =>
      rw [hmi] at hu
      obtain ⟨rfl, ad, rfl⟩ := hu
      cases fz with
      | true => simp only [Option.some.injEq] at hz; cases hz; exact ⟨F, .refl F, h, .sl_nil, .refl _⟩
      | false =>
        cases q with
        | true => cases hz
        | false =>
          simp only [cond_false, Option.some.injEq] at hz
          cases hz
          refine ⟨F, .refl F, ?_, .sl_nil, HLe.set ho (.inr ⟨rfl, rfl⟩)⟩
          exact h.turn ho (.inr ⟨rfl, rfl⟩) rfl rfl rfl rfl (fun _ _ => rfl) (fun b n hb => by rw [hmi] at hb; cases hb) (by simp only [RelO, hmi])
    | some bn =>
      obtain ⟨b, n⟩ := bn
      rw [hmi] at hu
      obtain ⟨cap, hn, hcap, rfl⟩ := hu
      obtain ⟨el, fr, cs, c, d, h1, h2, h3, h4, h5⟩ := h.row ho hmi
      cases fz with
      | true =>
        simp only [Option.some.injEq] at hz
        cases hz
        exact ⟨F, .refl F, h, .sl_of_row h5 h3 h4 hcap, .refl _⟩
      | false =>
        cases q with
        | true => cases hz
        | false =>
          simp only [cond_false, Option.some.injEq] at hz
          cases hz
          have hle := FH.put_le b cs h5.1
          have hr : RepL (Rep P (F.put b cs) σ) xs c := RepL.mono (fun _ _ h => Rep.mono hle h) _ _ h4
          have hF : F.put b cs b = some cs := by simp [FH.put]
          obtain ⟨h6, h7⟩ := h.freeze (o' := .row σ xs true) ho (.inr ⟨rfl, rfl⟩) hmi h5.1 h1 (by
            simp only [RelO, hmi]
            exact ⟨el, fr, cs, c, d, h1, h2, h3, hr, hF⟩)
          exact ⟨_, h7, h6, .sl_of_row hF h3 hr hcap, HLe.set ho (.inr ⟨rfl, rfl⟩)⟩
  | bp id p =>
    cases p with
    | cons _ _ => simp [frz] at hz
    | nil =>
      rcases hv with hg | ⟨b, n, o, off, hmi, ho, rfl, h2⟩
      · simp [frz, hg] at hz
      simp only [frz, ho] at hz
      cases o with
      | bx v fz =>
        cases v with
        | dat σ y =>
          obtain ⟨ρ, h3⟩ := h2
          simp only [offP, Option.some.injEq, Prod.mk.injEq] at h3
          obtain ⟨rfl, rfl⟩ := h3
          obtain ⟨b', n', el, fr, cs, h4, h5, h6, h7⟩ := h.obs id _ ho
          rw [hmi] at h4
          cases h4
          have hat : ∀ F', F' b = some cs → Rep P F' σ y cs.toList → RepV P F' (.ptr σ) (some y) (.pointer (some ⟨b, 0, none⟩)) := fun F' hF' hr =>
            ⟨⟨_, _, rfl, ⟨rfl, cs, hF', fun j v hj => by rw [Nat.zero_add, ← Array.getElem?_toList]; exact hj⟩, hr⟩, rfl⟩
          cases fz with
          | true =>
            simp only [Option.some.injEq] at hz
            cases hz
            exact ⟨F, .refl F, h, hat _ h7 h6, .refl _⟩
          | false =>
            cases q with
            | true => cases hz
            | false =>
              simp only [cond_false, Option.some.injEq] at hz
              cases hz
              have hle := FH.put_le b cs h7.1
              have hF : F.put b cs b = some cs := by simp [FH.put]
              obtain ⟨h8, h9⟩ := h.freeze (o' := .bx (.dat σ y) true) ho (.inr rfl) hmi h7.1 h5 ⟨b, n, el, fr, cs, hmi, h5, Rep.mono hle h6, hF⟩
              exact ⟨_, h9, h8, hat _ hF (Rep.mono hle h6), HLe.set ho (.inr rfl)⟩
        | _ => cases hz
      | _ => cases hz
  | _ => simp [frz] at hz

theorem frzAs_spec {q : Bool} {v : AV} {u : Value} {σ : Ty} {x : σ.I} (hz : frzAs q σ st v = some (x, st')) (h : Rel P nt F0 w0 st m F a w) (hv : RelV P st.h m F v u) :
    ∃ F', F.le F' ∧ Rel P nt F0 w0 st' m F' a w ∧ RepV P F' σ x u ∧ HLe st.h st'.h := by
  unfold frzAs at hz
  split at hz
  · rename_i τ y st1 h1
    split at hz
    · rename_i z hc
      cases hz
      obtain ⟨rfl, rfl⟩ := castI_spec hc
      exact frz_spec h1 h hv
    · cases hz
  · cases hz

/-- Values that stand for a list of the evaluator's. -/
def RelVs (P : Program) (h : List Obj) (m : MM) (F : FH) : List AV → List Value → Prop
  | [], us => us = []
  | v :: vs, us => ∃ u r, us = u :: r ∧ RelV P h m F v u ∧ RelVs P h m F vs r
theorem RelVs.mono {h h' : List Obj} {F F' : FH} (hh : HLe h h') (hF : F.le F') : ∀ {vs : List AV} {us : List Value}, RelVs P h m F vs us → RelVs P h' m F' vs us
  | [], _, e => e
  | _ :: _, _, ⟨u, r, e, h1, h2⟩ => ⟨u, r, e, RelV.mono hh (fun _ _ _ => rfl) hF h1, RelVs.mono hh hF h2⟩

theorem packAs_spec {q : Bool} : ∀ {τ : Ty} {vs : List AV} {us : List Value} {x : τ.I} {st st' : St} {F : FH}, packAs q τ vs st = some (x, st') → Rel P nt F0 w0 st m F a w → RelVs P st.h m F vs us →
    ∃ F', F.le F' ∧ Rel P nt F0 w0 st' m F' a w ∧ RepA P F' τ x us ∧ HLe st.h st'.h := by
  intro τ
  induction τ with
  | unit =>
    intro vs us x st st' F hz h hv
    cases vs with
    | nil => simp only [packAs, Option.some.injEq] at hz; cases hz; exact ⟨F, .refl F, h, hv, .refl _⟩
    | cons _ _ => simp [packAs] at hz
  | pair a b iha ihb =>
    intro vs us x st st' F hz h hv
    cases vs with
    | nil => simp [packAs] at hz
    | cons v vs =>
      obtain ⟨u, r, rfl, h1, h2⟩ := hv
      simp only [packAs] at hz
      split at hz
      · rename_i y st1 hy
        split at hz
        · rename_i ys st2 hys
          cases hz
          obtain ⟨F1, e1, e2, e3, e4⟩ := frzAs_spec hy h h1
          obtain ⟨F2, f1, f2, f3, f4⟩ := ihb hys e2 (h2.mono e4 e1)
          exact ⟨F2, e1.trans f1, f2, ⟨u, r, rfl, (e3.mono f1).1, e3.2, f3⟩, e4.trans f4⟩
        · cases hz
      · cases hz
  | _ => intro vs us x st st' F hz h hv; simp [packAs] at hz

end
end Go.Ev

/-! Constants and operands. -/
namespace Go.Ev
open Go.RowKit
set_option linter.unusedSimpArgs false
set_option linter.unusedVariables false

theorem deOne_spec {α : Type} {q : Value → Option α} {l r : List Value} {x : α} (h : deOne q l = some (x, r)) : ∃ v, l = v :: r ∧ q v = some x := by
  cases l with
  | nil => cases h
  | cons v l =>
    simp only [deOne] at h
    cases hq : q v with
    | none => rw [hq] at h; cases h
    | some y => rw [hq] at h; simp only [Option.some.injEq, Prod.mk.injEq] at h; obtain ⟨rfl, rfl⟩ := h; exact ⟨v, rfl, hq⟩

theorem decC_spec (P : Program) (F : FH) : ∀ (τ : Ty) (l r : List Value) (x : τ.I), decC τ l = some (x, r) → ∃ c, l = c ++ r ∧ Rep P F τ x c := by
  intro τ
  induction τ with
  | unit => intro l r x h; simp only [decC, Option.some.injEq, Prod.mk.injEq] at h; exact ⟨[], by simp [h.2], rfl⟩
  | bool =>
    intro l r x h
    obtain ⟨v, rfl, hv⟩ := deOne_spec h
    split at hv
    · cases hv; exact ⟨[.bool x], rfl, rfl⟩
    · cases hv
  | int k =>
    intro l r x h
    obtain ⟨v, rfl, hv⟩ := deOne_spec h
    split at hv
    · rename_i k' n
      cases hk : decide (k = k') with
      | false => rw [hk] at hv; cases hv
      | true => rw [hk] at hv; cases hv; simp only [decide_eq_true_eq] at hk; subst hk; exact ⟨[.int k x], rfl, rfl⟩
    · cases hv
  | str =>
    intro l r x h
    obtain ⟨v, rfl, hv⟩ := deOne_spec h
    split at hv
    · cases hv; exact ⟨[.string x], rfl, rfl⟩
    · cases hv
  | pair a b iha ihb =>
    intro l r x h
    simp only [decC] at h
    split at h
    · rename_i y l1 h1
      split at h
      · rename_i z l2 h2
        cases h
        obtain ⟨c, rfl, hc⟩ := iha _ _ _ h1
        obtain ⟨d, rfl, hd⟩ := ihb _ _ _ h2
        exact ⟨c ++ d, by simp, c, d, rfl, hc, hd⟩
      · cases h
    · cases h
  | st a ih => intro l r x h; exact ih l r x h
  | arr n a ih =>
    intro l r x h
    have : ∀ (n : Nat) (l r : List Value) (x : List a.I), Nat.rec (motive := fun _ => List Value → Option (List a.I × List Value)) (fun l => some ([], l))
      (fun _ ih l => match decC a l with
        | some (x, l) => match ih l with | some (xs, l) => some (x :: xs, l) | none => none
        | none => none) n l = some (x, r) → ∃ c, l = c ++ r ∧ x.length = n ∧ RepL ((RR P a).1 F) x c := by
      intro n
      induction n with
      | zero => intro l r x h; change some ([], l) = some (x, r) at h; cases h; exact ⟨[], rfl, rfl, rfl⟩
      | succ n ihn =>
        intro l r x h
        change (match decC a l with
          | some (x, l) => match Nat.rec (motive := fun _ => List Value → Option (List a.I × List Value)) (fun l => some ([], l))
              (fun _ ih l => match decC a l with
                | some (x, l) => match ih l with | some (xs, l) => some (x :: xs, l) | none => none
                | none => none) n l with | some (xs, l) => some (x :: xs, l) | none => none
          | none => none) = some (x, r) at h
        split at h
        · rename_i y l1 h1
          split at h
          · rename_i z l2 h2
            cases h
            obtain ⟨c, rfl, hc⟩ := ih _ _ _ h1
            obtain ⟨d, rfl, hl, hd⟩ := ihn _ _ _ h2
            exact ⟨c ++ d, by simp, by simp [hl], c, d, rfl, hc, hd⟩
          · cases h
        · cases h
    obtain ⟨c, h1, h2, h3⟩ := this n l r x h
    exact ⟨c, h1, h2, h3⟩
  | sl a _ =>
    intro l r x h
    obtain ⟨v, rfl, hv⟩ := deOne_spec h
    split at hv
    · cases hv; exact ⟨[.slice none 0 0], rfl, none, 0, rfl, Nat.le_refl _, fun hx => absurd rfl hx⟩
    · cases hv
  | ptr a _ =>
    intro l r x h
    obtain ⟨v, rfl, hv⟩ := deOne_spec h
    split at hv
    · cases hv; exact ⟨[.pointer none], rfl, rfl⟩
    · cases hv
  | fn a b _ _ =>
    intro l r x h
    obtain ⟨v, rfl, hv⟩ := deOne_spec h
    split at hv
    · cases hv; exact ⟨[.nilFunc], rfl, rfl⟩
    · cases hv

theorem ofConst_spec {P : Program} {h : List Obj} {m : MM} {F : FH} {θ : Option Ty} {v : Value} {av : AV} (hc : ofConst θ v = some av) : RelV P h m F av v := by
  unfold ofConst at hc
  split at hc
  · cases hc; exact ⟨rfl, rfl⟩
  · cases hc; exact ⟨rfl, rfl⟩
  · cases hc; exact ⟨rfl, rfl⟩
  · rename_i cs
    split at hc
    · split at hc
      · rename_i x hx
        cases hc
        obtain ⟨c, h1, h2⟩ := decC_spec P F _ _ _ _ hx
        rw [List.append_nil] at h1
        exact ⟨by simp only [Value.cells]; rw [h1]; exact h2, rfl⟩
      · cases hc
    · split at hc
      · rename_i x hx
        cases hc
        obtain ⟨c, h1, h2⟩ := decC_spec P F _ _ _ _ hx
        rw [List.append_nil] at h1
        exact ⟨by simp only [Value.cells]; rw [h1]; exact h2, rfl⟩
      · cases hc
    · cases hc
  · split at hc
    · cases hc; exact ⟨none, rfl, fun hx => absurd rfl hx⟩
    · cases hc
  · split at hc
    · cases hc; exact ⟨rfl, rfl⟩
    · cases hc
  · split at hc
    · cases hc; exact ⟨rfl, rfl⟩
    · cases hc
  · cases hc

theorem unTup_one (v : Value) : unTup [v] = v := rfl

/-- What a function's contract says of a result that is frozen. -/
theorem SndF.frozen {P : Program} {G : FH} {f : FuncId} {F : Fun} (h : SndF P G f F) {x : F.a.I} {y : F.r.I} (hs : F.spec x = some y) {F0 : FH} {w : World} {vs : List Value} (hG : G.le F0) (hok : F0.ok w) (hr : RepA P F0 F.a x vs) :
    Calls P f vs.toArray w fun e w' => ∃ us F', e = .returned (unTup us) ∧ Below w.heap.size w w' ∧ F0.grow F' w.heap.size ∧ F'.ok w' ∧ RepA P F' F.r y us := by
  refine (h.2 x y hs F0 w vs hG hok hr).mono ?_
  rintro e w' ⟨us, F', rfl, hb, hg, hk, hres⟩
  obtain ⟨id, a, r, md, spec⟩ := F
  simp only at hres
  split at hres
  · split at hres
    · rename_i a' b y'
      obtain ⟨v, r, rfl, h1, h2⟩ := hres
      rcases h2 with ⟨bk, cap, el, cs, c, d, rfl, hcap, hlo, hw, hFb, hsz, hcd, hrep⟩ | ⟨hy, ad, rfl⟩
      · have hle := FH.put_le (F := F') bk cs hFb
        refine ⟨_, F'.put bk cs, rfl, hb, ⟨hg.1.trans hle, fun k hk' => ?_⟩, fun k c' hk' => ?_, _, r, rfl, ?_, rfl, RepA.mono hle h1⟩
        · unfold FH.put; rw [if_neg (by omega)]; exact hg.2 k hk'
        · unfold FH.put at hk'
          by_cases e : k = bk
          · subst e; rw [if_pos rfl] at hk'; cases hk'; exact ⟨el, (0, 0), hw⟩
          · rw [if_neg e] at hk'; exact hk k c' hk'
        · exact (RepV.sl_of_row (F := F'.put bk cs) (by simp [FH.put]) hcd (RepL.mono (fun _ _ h => Rep.mono hle h) _ _ hrep) hcap).1
      · refine ⟨_, F', rfl, hb, hg, hk, _, r, rfl, ?_, rfl, h1⟩
        rw [hy]
        exact (RepV.sl_nil (F := F') (τ := a') (ad := ad)).1
    · exact hres.elim
  · split at hres
    · rename_i a' b y'
      obtain ⟨v, r, ad, rfl, h1, rfl, h2⟩ := hres
      exact ⟨_, F', rfl, hb, hg, hk, _, r, rfl, ⟨ad, _, rfl, Nat.le_refl _, h2⟩, rfl, h1⟩
    · exact hres.elim
  · exact ⟨us, F', rfl, hb, hg, hk, hres⟩

section
variable {P : Program} {nt : Nat} {F0 F G : FH} {w0 w : World} {st st' : St} {m : MM} {a : Act} {E : Env}

theorem rd_spec (hE : EnvOk P G E) (hG : G.le F0) (h : Rel P nt F0 w0 st m F a w) {θ : Option Ty} {x : Operand} {v : AV} (hr : rd E st θ x = some v) : RelV P st.h m F v (a.eval x) := by
  cases x with
  | tmp t => exact h.fr t v hr
  | const c => exact ofConst_spec hr
  | global g =>
    obtain ⟨τ, y, cs, rfl, h1, h2⟩ := hE.glob g v hr
    have hle := hG.trans h.gro.1
    exact ⟨⟨_, cs, rfl, h1.mono hle, Rep.mono hle h2⟩, rfl⟩
  | func f =>
    simp only [rd, Option.map_eq_some_iff] at hr
    obtain ⟨Fn, hf, rfl⟩ := hr
    have hs := hE.funs f Fn hf
    refine ⟨⟨f, #[], #[], rfl, hs.1, fun x y hxy F' w' vs hle hok hvs => ?_⟩, rfl⟩
    have := hs.frozen hxy ((hG.trans h.gro.1).trans hle) hok hvs
    rw [show #[] ++ vs.toArray ++ #[] = vs.toArray by simp]
    exact this

theorem rds_spec (hE : EnvOk P G E) (hG : G.le F0) (h : Rel P nt F0 w0 st m F a w) {θ : Option Ty} : ∀ {xs : List Operand}, (xs.map (rd E st θ)).all Option.isSome = true → RelVs P st.h m F ((xs.map (rd E st θ)).filterMap id) (xs.map a.eval)
  | [], _ => rfl
  | x :: xs, hall => by
    simp only [List.map_cons, List.all_cons, Bool.and_eq_true] at hall
    obtain ⟨v, hv⟩ := Option.isSome_iff_exists.1 hall.1
    simp only [List.map_cons, hv, List.filterMap_cons, id]
    exact ⟨_, _, rfl, rd_spec hE hG h hv, rds_spec hE hG h hall.2⟩
end
end Go.Ev

/-! Operations that reckon with values. -/
namespace Go.Ev
open Go.RowKit
set_option linter.unusedSimpArgs false
set_option linter.unusedVariables false

/-- Operation 'o' goes well, and leaves what R says. -/
def OpTo (P : Program) (o : Oper) (a : Act) (w : World) (R : Value → World → Prop) : Prop :=
  ∀ (next : Act → World → Prop) (Q : Exit → Act → World → Prop), (∀ u w', R u w' → next (a.put o.dst u) w') → o.wp P a w next Q

def Post (P : Program) (nt : Nat) (F0 : FH) (w0 : World) (st' : St) (a : Act) (F : FH) (v : AV) (u : Value) (w' : World) : Prop :=
  ∃ m' F', F.le F' ∧ Rel P nt F0 w0 st' m' F' a w' ∧ RelV P st'.h m' F' v u

theorem OpTo.val {P : Program} {o : Oper} {a : Act} {w w' : World} {R : Value → World → Prop} {u : Value} (h : (execOp a.eval o).run P w = .ok (.value u) w') (hr : R u w') : OpTo P o a w R := by
  intro next Q hn
  unfold Oper.wp
  rw [h]
  exact hn _ _ hr
theorem OpTo.skip {P : Program} {o : Oper} {a : Act} {w w' : World} {R : Value → World → Prop} (h : (execOp a.eval o).run P w = .ok .skip w') (hr : R undef w') : OpTo P o a w R := by
  intro next Q hn
  unfold Oper.wp
  rw [h]
  exact hn _ _ hr
theorem OpTo.enter {P : Program} {o : Oper} {a : Act} {w : World} {R : Value → World → Prop} {f : FuncId} {args : Array Value} (h : (execOp a.eval o).run P w = .ok (.enter f args) w)
    (hc : Calls P f args w fun e w' => ∃ u, e = .returned u ∧ R u w') : OpTo P o a w R := by
  intro next Q hn
  unfold Oper.wp
  rw [h]
  refine hc.mono ?_
  rintro e w' ⟨u, rfl, hr⟩
  exact hn _ _ hr

theorem kB_pk {b : Bool} {st st' : St} {v : AV} (h : kB b st pk = some (v, st')) : v = .dat .bool b ∧ st' = st := by
  cases b <;> (simp only [kB, cond_true, cond_false, Option.some.injEq, Prod.mk.injEq] at h; exact ⟨h.1.symm, h.2.symm⟩)
theorem kAV_pk {u : AV} {st st' : St} {v : AV} (h : kAV u st pk = some (v, st')) : v = u ∧ st' = st := by
  unfold kAV at h
  split at h
  · exact kB_pk h
  · simp only [Option.some.injEq, Prod.mk.injEq] at h; exact ⟨h.1.symm, h.2.symm⟩
theorem cond_some {c : Bool} {α : Type} {x : Option α} {y : α} (h : cond c x none = some y) : c = true ∧ x = some y := by
  cases c with
  | true => exact ⟨rfl, h⟩
  | false => cases h
theorem cond_none {c : Bool} {α : Type} {x : Option α} {y : α} (h : cond c none x = some y) : c = false ∧ x = some y := by
  cases c with
  | false => exact ⟨rfl, h⟩
  | true => cases h

section
variable {P : Program} {nt : Nat} {F0 F G : FH} {w0 w : World} {st st' : St} {m : MM} {a : Act} {E : Env} {v : AV} {u : Value}

theorem RelV.one {τ : Ty} {x : τ.I} (ha : τ.agg = false) (h : RelV P st.h m F (.dat τ x) u) : Rep P F τ x [u] := by
  obtain ⟨h1, h2⟩ := h
  rw [ha] at h2
  cases u <;> first | exact h1 | cases h2
theorem RelV.int {k : IntKind} {n : Int} (h : RelV P st.h m F (.dat (.int k) n) u) : u = .int k n := by
  have := RelV.one rfl h; simpa [Rep, RR] using this
theorem RelV.bool {b : Bool} (h : RelV P st.h m F (.dat .bool b) u) : u = .bool b := by
  have := RelV.one rfl h; simpa [Rep, RR] using this
theorem RelV.str {s : ByteArray} (h : RelV P st.h m F (.dat .str s) u) : u = .string s := by
  have := RelV.one rfl h; simpa [Rep, RR] using this
theorem RelV.sl {τ : Ty} {xs : List τ.I} (h : RelV P st.h m F (.dat (.sl τ) xs) u) :
    ∃ ad cap, u = .slice ad xs.length cap ∧ xs.length ≤ cap ∧ (xs ≠ [] → ∃ d cc, ad = some d ∧ At F d cc ∧ RepL (Rep P F τ) xs cc) := by
  obtain ⟨ad, cap, e, h1, h2⟩ := RelV.one rfl h
  exact ⟨ad, cap, by simpa using e, h1, h2⟩
theorem RelV.ptr {τ : Ty} {x : τ.I} (h : RelV P st.h m F (.dat (.ptr τ) (some x)) u) : ∃ d cc, u = .pointer (some d) ∧ At F d cc ∧ Rep P F τ x cc := by
  obtain ⟨d, cc, e, h1, h2⟩ := RelV.one rfl h
  exact ⟨d, cc, by simpa using e, h1, h2⟩
theorem RelV.ptr0 {τ : Ty} (h : RelV P st.h m F (.dat (.ptr τ) none) u) : u = .pointer none := by
  have := RelV.one rfl h; simpa [Rep, RR] using this
theorem RelV.fn0 {τ σ : Ty} (h : RelV P st.h m F (.dat (.fn τ σ) none) u) : u = .nilFunc := by
  have := RelV.one rfl h; simpa [Rep, RR] using this
theorem RelV.agg {τ : Ty} {x : τ.I} (ha : τ.agg = true) (h : RelV P st.h m F (.dat τ x) u) : ∃ cs : Array Value, u = .agg cs ∧ Rep P F τ x cs.toList := by
  obtain ⟨h1, h2⟩ := h
  rw [ha] at h2
  cases u <;> first | exact ⟨_, rfl, h1⟩ | cases h2

theorem RelV.mkInt {k : IntKind} {n : Int} : RelV P st.h m F (.dat (.int k) n) (.int k n) := ⟨rfl, rfl⟩
theorem RelV.mkBool {b : Bool} : RelV P st.h m F (.dat .bool b) (.bool b) := ⟨rfl, rfl⟩
theorem RelV.mkStr {s : ByteArray} : RelV P st.h m F (.dat .str s) (.string s) := ⟨rfl, rfl⟩

theorem Post.same (h : Rel P nt F0 w0 st m F a w) (hv : RelV P st.h m F v u) : Post P nt F0 w0 st a F v u w := ⟨m, F, .refl F, h, hv⟩

/-! ### Equality of typed values -/
theorem run_underlying' {t : TypeId} {d : TypeDesc} (h : P.underlying t = some d) : (underlying t).run P w = .ok d w := by
  unfold underlying
  simp [h]
theorem run_typeInfo' {t : TypeId} {i : TypeInfo} (h : P.info? t = some i) : (typeInfo t).run P w = .ok i w := by
  unfold typeInfo
  simp [h]
theorem run_sizeOf' {t : TypeId} {i : TypeInfo} (h : P.info? t = some i) : (sizeOf t).run P w = .ok i.size w := by
  unfold sizeOf
  simp [run_typeInfo' h]
theorem run_zeroValue' {t : TypeId} {i : TypeInfo} {z : Value} (h : P.info? t = some i) (hz : i.zero = some z) : (zeroValue t).run P w = .ok z w := by
  unfold zeroValue
  simp [run_typeInfo' h, hz]
theorem run_isAgg' {t : TypeId} {τ : Ty} (h : TyOk P t τ) : (isAgg t).run P w = .ok τ.agg w := by
  obtain ⟨d, h1, h2⟩ := h.isAgg
  unfold isAgg
  simp only [Sem.run_bind, run_underlying' h1, Result.andThen_ok]
  cases d <;> simp_all

theorem evUn_snd {op : UnOp} {x : AV} {y : Value} (h : Rel P nt F0 w0 st m F a w) (hx : RelV P st.h m F x y) (he : evUn op x st pk = some (v, st')) :
    ∃ u, (Op.unary op y).run P w = .ok u w ∧ st' = st ∧ RelV P st.h m F v u := by
  unfold evUn at he
  split at he
  · obtain ⟨rfl, rfl⟩ := kB_pk he
    obtain rfl := hx.bool
    exact ⟨_, rfl, rfl, .mkBool⟩
  · cases he
    obtain rfl := hx.int
    exact ⟨_, rfl, rfl, .mkInt⟩
  · cases he
    obtain rfl := hx.int
    exact ⟨_, rfl, rfl, .mkInt⟩
  · cases he

end
end Go.Ev

/-! Equality of typed values; reading a part of a value. -/
namespace Go.Ev
open Go.RowKit
set_option linter.unusedSimpArgs false
set_option linter.unusedVariables false

section
variable {P : Program} {F : FH} {w : World}

theorem TyOk.size {t : TypeId} {τ : Ty} (h : TyOk P t τ) (hp : ∀ a b, τ ≠ .pair a b) : ∃ i, P.info? t = some i ∧ i.size = nc τ := by
  obtain ⟨i, z, h1, h2, _⟩ := headB_spec (h.head hp)
  exact ⟨i, h1, h2⟩

theorem sub_extract {cs c : List Value} {o : Nat} (h : ∀ (j : Nat) (u : Value), c[j]? = some u → cs[o + j]? = some u) : (cs.drop o).take c.length = c := by
  apply List.ext_getElem?
  intro j
  rw [List.getElem?_take]
  by_cases hj : j < c.length
  · rw [if_pos hj, List.getElem?_drop, h j _ (List.getElem?_eq_getElem hj), List.getElem?_eq_getElem hj]
  · rw [if_neg hj, List.getElem?_eq_none (by omega)]

theorem run_part' {t : TypeId} {τ : Ty} (h : TyOk P t τ) (hp : ∀ a b, τ ≠ .pair a b) {y : τ.I} {c : List Value} (hr : Rep P F τ y c) {cs : Array Value} {o : Nat}
    (hs : ∀ (j : Nat) (u : Value), c[j]? = some u → cs.toList[o + j]? = some u) : ∃ u, (part t cs o).run P w = .ok u w ∧ RepV P F τ y u := by
  obtain ⟨i, hi, hsz⟩ := h.size hp
  have hl := Rep.length hr
  have h1 := nc_one h hp
  obtain ⟨hv, hc⟩ := toV_spec hr h1
  refine ⟨_, ?_, hv⟩
  unfold part
  simp only [Sem.run_bind, run_isAgg' h, Result.andThen_ok]
  cases ha : τ.agg with
  | true =>
    simp only [if_true, Sem.run_bind, run_sizeOf' hi, Result.andThen_ok, Sem.run_pure]
    congr 1
    unfold toV
    rw [ha]
    simp only [Value.agg.injEq]
    apply Array.ext'
    simp only [Array.toList_extract, List.extract_eq_take_drop]
    rw [show o + i.size - o = c.length by omega]
    exact sub_extract hs
  | false =>
    rw [ha] at h1
    have : c.length = 1 := by rw [hl]; exact h1.resolve_right (by simp)
    match c, this with
    | [v], _ =>
      have := hs 0 v rfl
      rw [Nat.add_zero, Array.getElem?_toList] at this
      simp [this, toV, ha]

theorem RepV.agg' {τ : Ty} {x : τ.I} {u : Value} (ha : τ.agg = true) (h : RepV P F τ x u) : ∃ cs : Array Value, u = .agg cs ∧ Rep P F τ x cs.toList := by
  obtain ⟨h1, h2⟩ := h
  rw [ha] at h2
  cases u <;> first | exact ⟨_, rfl, h1⟩ | cases h2
theorem RepV.one' {τ : Ty} {x : τ.I} {u : Value} (ha : τ.agg = false) (h : RepV P F τ x u) : Rep P F τ x [u] := by
  obtain ⟨h1, h2⟩ := h
  rw [ha] at h2
  cases u <;> first | exact h1 | cases h2

theorem eq_run : ∀ (τ : Ty), τ.eqIn = true →
    (∀ (t : TypeId) (d : Nat) (x y : τ.I) (u v : Value) (w : World), TyOk P t τ → (∀ a b, τ ≠ .pair a b) → RepV P F τ x u → RepV P F τ y v → τ.dep < d → (Op.equalIn d t u v).run P w = .ok (eqI τ x y) w) ∧
    (∀ (fs : List Field) (off d : Nat) (x y : τ.I) (c e : List Value) (cs ds : Array Value) (w : World), (tyB P τ).2 fs off = true → Rep P F τ x c → Rep P F τ y e →
      (∀ (j : Nat) (u : Value), c[j]? = some u → cs.toList[off + j]? = some u) → (∀ (j : Nat) (u : Value), e[j]? = some u → ds.toList[off + j]? = some u) → τ.dep < d → (Op.eqFields d cs ds fs).run P w = .ok (eqI τ x y) w) := by
  intro τ
  induction τ with
  | unit =>
    intro _
    refine ⟨(fun t d x y u v w h => by cases h), fun fs off d x y c e cs ds w h _ _ _ _ _ => ?_⟩
    simp only [tyB, List.isEmpty_iff] at h
    subst h
    simp [Op.eqFields, eqI]
  | bool =>
    intro _
    refine ⟨fun t d x y u v w h _ hu hv hd => ?_, (fun fs off d x y c e cs ds w h => by cases h)⟩
    obtain ⟨d, rfl⟩ : ∃ d', d = d' + 1 := ⟨d - 1, by omega⟩
    have := RepV.one' rfl hu; have := RepV.one' rfl hv
    simp only [Rep, RR, List.cons.injEq, and_true] at *
    subst_vars
    simp only [TyOk, tyB, Bool.and_eq_true] at h
    have h := h.2
    split at h
    · rename_i hd'
      rw [run_equalIn_bool' w d t _ _ hd']; rfl
    · cases h
  | int k =>
    intro _
    refine ⟨fun t d x y u v w h _ hu hv hd => ?_, (fun fs off d x y c e cs ds w h => by cases h)⟩
    obtain ⟨d, rfl⟩ : ∃ d', d = d' + 1 := ⟨d - 1, by omega⟩
    have := RepV.one' rfl hu; have := RepV.one' rfl hv
    simp only [Rep, RR, List.cons.injEq, and_true] at *
    subst_vars
    simp only [TyOk, tyB, Bool.and_eq_true] at h
    have h := h.2
    split at h
    · rename_i k' hd'
      rw [run_equalIn_int w d t k k' _ _ hd']; rfl
    · cases h
  | str =>
    intro _
    refine ⟨fun t d x y u v w h _ hu hv hd => ?_, (fun fs off d x y c e cs ds w h => by cases h)⟩
    obtain ⟨d, rfl⟩ : ∃ d', d = d' + 1 := ⟨d - 1, by omega⟩
    have := RepV.one' rfl hu; have := RepV.one' rfl hv
    simp only [Rep, RR, List.cons.injEq, and_true] at *
    subst_vars
    simp only [TyOk, tyB, Bool.and_eq_true] at h
    have h := h.2
    split at h
    · rename_i hd'
      rw [run_equalIn_string w d t _ _ hd']; rfl
    · cases h
  | pair a b iha ihb =>
    intro he
    simp only [Ty.eqIn, Bool.and_eq_true] at he
    refine ⟨fun t d x y u v w _ hp => absurd rfl (hp a b), fun fs off d x y c e cs ds w h hx hy hc hd hdep => ?_⟩
    cases fs with
    | nil => cases h
    | cons f fs =>
      simp only [tyB, Bool.and_eq_true] at h
      obtain ⟨⟨⟨⟨h1, h2⟩, h3⟩, h4⟩, h5⟩ := h
      obtain rfl := Nat.eq_of_beq_eq_true h1
      obtain ⟨c1, c2, rfl, hx1, hx2⟩ := hx
      obtain ⟨e1, e2, rfl, hy1, hy2⟩ := hy
      have lc := Rep.length hx1
      have le := Rep.length hy1
      have hpa := Ty.np_spec h3.2
      obtain ⟨u, hu1, hu2⟩ := run_part' (w := w) h2 hpa hx1 (cs := cs) (o := f.offset) (fun j v hj => hc j v (by rw [List.getElem?_append_left (List.getElem?_eq_some_iff.1 hj).1]; exact hj))
      obtain ⟨v, hv1, hv2⟩ := run_part' (w := w) h2 hpa hy1 (cs := ds) (o := f.offset) (fun j v hj => hd j v (by rw [List.getElem?_append_left (List.getElem?_eq_some_iff.1 hj).1]; exact hj))
      simp only [Ty.dep] at hdep
      have h6 := (iha he.1).1 f.type d x.1 y.1 u v w h2 hpa hu2 hv2 (by omega)
      have h7 := (ihb he.2).2 fs (f.offset + nc a) d x.2 y.2 c2 e2 cs ds w h5 hx2 hy2
        (fun j v hj => by rw [Nat.add_assoc]; exact hc (nc a + j) v (by rw [List.getElem?_append_right (by omega), show nc a + j - c1.length = j by omega]; exact hj))
        (fun j v hj => by rw [Nat.add_assoc]; exact hd (nc a + j) v (by rw [List.getElem?_append_right (by omega), show nc a + j - e1.length = j by omega]; exact hj)) (by omega)
      have h4' : f.name ≠ "_" := by simpa using h4
      simp only [Op.eqFields, if_pos h4', Sem.run_bind, hu1, hv1, h6, Result.andThen_ok, ite_not, Sem.run_ite, Sem.run_pure, h7, eqI]
      cases eqI a x.1 y.1 <;> simp
  | st a ih =>
    intro he
    refine ⟨fun t d x y u v w h hp hu hv hd => ?_, (fun fs off d x y c e cs ds w h => by cases h)⟩
    simp only [Ty.dep] at hd
    obtain ⟨d, rfl⟩ : ∃ d', d = d' + 1 := ⟨d - 1, by omega⟩
    obtain ⟨fs, h1, h2, h3, _⟩ := h.st
    obtain ⟨cs, rfl, hx⟩ := RepV.agg' rfl hu
    obtain ⟨ds, rfl, hy⟩ := RepV.agg' rfl hv
    have hf : P.fieldsOf t = fs := by unfold Program.fieldsOf; rw [h1]
    rw [run_equalIn_struct w d t cs ds (by rw [hf]; exact h1) h3, hf]
    exact (ih he).2 fs.toList 0 d x y cs.toList ds.toList cs ds w h2 hx hy (fun j u hj => by simpa using hj) (fun j u hj => by simpa using hj) (by omega)
  | arr n a ih =>
    intro he
    refine ⟨fun t d x y u v w h hp hu hv hd => ?_, (fun fs off d x y c e cs ds w h => by cases h)⟩
    simp only [Ty.dep] at hd
    obtain ⟨d, rfl⟩ : ∃ d', d = d' + 1 := ⟨d - 1, by omega⟩
    obtain ⟨e, h1, h2, h3, h4, _⟩ := h.arr
    obtain ⟨cs, rfl, hlx, hx⟩ := RepV.agg' rfl hu
    obtain ⟨ds, rfl, hly, hy⟩ := RepV.agg' rfl hv
    have hpa := Ty.np_spec h4
    obtain ⟨i, hi, hsz⟩ := h2.size hpa
    rw [run_equalIn_array (w := w) d cs ds h1 hi]
    have hce : P.cellsOf e = nc a := by unfold Program.cellsOf; simp [hi, hsz]
    rw [hce]
    have hn : ∀ (z : a.I) c, (RR P a).1 F z c → c.length = nc a := fun z c h => Rep.length (P := P) (F := F) (x := z) h
    have key : ∀ (k j : Nat), k + j = n → (Op.eqItems d e (nc a) cs ds (List.range' j k)).run P w = .ok ((List.zip (x.drop j) (y.drop j)).all fun p => eqI a p.1 p.2) w := by
      intro k
      induction k with
      | zero =>
        intro j hj
        have : x.drop j = [] := by simp; omega
        simp [Op.eqItems, this]
      | succ k ihk =>
        intro j hj
        have hjx : j < x.length := by omega
        have hjy : j < y.length := by omega
        obtain ⟨c, hc1, hc2⟩ := RepL.get hn _ _ hx j _ (List.getElem?_eq_getElem hjx)
        obtain ⟨c', hc1', hc2'⟩ := RepL.get hn _ _ hy j _ (List.getElem?_eq_getElem hjy)
        obtain ⟨u, hu1, hu2⟩ := run_part' (w := w) h2 hpa hc1 (cs := cs) (o := j * nc a) hc2
        obtain ⟨v, hv1, hv2⟩ := run_part' (w := w) h2 hpa hc1' (cs := ds) (o := j * nc a) hc2'
        have h6 := (ih he).1 e d _ _ u v w h2 hpa hu2 hv2 (by omega)
        have h7 := ihk (j + 1) (by omega)
        rw [List.drop_eq_getElem_cons hjx, List.drop_eq_getElem_cons hjy]
        simp only [List.range'_succ, Op.eqItems, Sem.run_bind, hu1, hv1, h6, Result.andThen_ok, Sem.run_ite, Sem.run_pure, h7, List.zip_cons_cons, List.all_cons]
        cases eqI a x[j] y[j] <;> simp
    have := key n 0 (by omega)
    rw [← List.range_eq_range'] at this
    simpa [eqI] using this
  | _ => intro he; cases he

end
end Go.Ev

/-! Binary operators. -/
namespace Go.Ev
open Go.RowKit
set_option linter.unusedSimpArgs false
set_option linter.unusedVariables false

section
variable {P : Program} {nt : Nat} {F0 F G : FH} {w0 w : World} {st st' : St} {m : MM} {a : Act} {E : Env} {v : AV} {u : Value}

def plainV : Value → Bool
  | .agg _ | .nilIface => false
  | _ => true
theorem run_eqGuard_plain (op : BinOp) (t : TypeId) (x y : Operand) {p q : Value} (h : plainV p = true) : (eqGuard op t x y p q).run P w = .ok () w := by
  cases op <;> cases p <;> first | (cases h; done) | (simp [eqGuard])

theorem cmp_run {op : BinOp} {x y : Int} {c : Bool} (h : cmpI op x y = some c) : (Op.intCmp op x y).run P w = .ok (.bool c) w := by
  unfold cmpI at h
  cases op <;> first | (cases h; done) | (simp only [Option.some.injEq] at h; subst h; rfl)
theorem arith_run {op : BinOp} {k : IntKind} {x y n : Int} (t : TypeId) (hc : cmpI op x y = none) (hq : op ≠ .quo) (hr : op ≠ .rem) (hl : op ≠ .shl) (hs : op ≠ .shr) (h : arithI op k x y = some n) :
    (binOp op t (.int k x) (.int k y)).run P w = .ok (.int k n) w := by
  unfold arithI at h
  cases op <;> first | (cases h; done) | (simp only [Option.some.injEq] at h; subst h; simp [binOp, Op.intArith, Op.intBits])

theorem run_equal_ptr_nil {t e : TypeId} {ad : Option Addr} (hu : P.underlying t = some (.pointer e)) : (Op.equal t (.pointer ad) (.pointer none)).run P w = .ok ad.isNone w := by
  have h : ∀ d, (Op.equalIn (d + 1) t (.pointer ad) (.pointer none)).run P w = .ok ad.isNone w := fun d => by
    cases ad <;> simp [Op.equalIn, run_underlying' hu]
  exact h 9999
theorem run_equal_fn_nil {t : TypeId} {ps rs : Array TypeId} {vr : Bool} (hu : P.underlying t = some (.func ps rs vr)) :
    (Op.equal t .nilFunc .nilFunc).run P w = .ok true w ∧ ∀ f first caps, (Op.equal t (.func f first caps) .nilFunc).run P w = .ok false w := by
  have h : ∀ d, (Op.equalIn (d + 1) t .nilFunc .nilFunc).run P w = .ok true w := fun d => by simp [Op.equalIn, run_underlying' hu]
  have h' : ∀ d f first caps, (Op.equalIn (d + 1) t (.func f first caps) .nilFunc).run P w = .ok false w := fun d f first caps => by simp [Op.equalIn, run_underlying' hu]
  exact ⟨h 9999, h' 9999⟩

theorem fin_agg {op : BinOp} {t : TypeId} {X Y : Operand} {τ : Ty} {x y : τ.I} {p q : Value} (hE : EnvOk P G E) (ha : τ.agg = true) (hgd : ∀ t, TyOk P t τ → P.eqGuardType P.depth t = false)
    (h1 : (τ.eqOk && E.is t τ) = true) (hx : RelV P st.h m F (.dat τ x) p) (hy : RelV P st.h m F (.dat τ y) q)
    (h2 : (match op with | .eql => kB (eqI τ x y) st pk | .neq => kB (!eqI τ x y) st pk | _ => none) = some (v, st')) :
    ∃ u, ((do eqGuard op t X Y p q; binOp op t p q) : Sem Value).run P w = .ok u w ∧ st' = st ∧ RelV P st.h m F v u := by
  simp only [Bool.and_eq_true] at h1
  have hty := hE.types t _ (Env.is_spec h1.2)
  have hok := h1.1
  simp only [Ty.eqOk, Bool.and_eq_true] at hok
  have hdep := Nat.le_of_ble_eq_true hok.2
  have hpair : ∀ a1 b1, τ ≠ .pair a1 b1 := by rintro a1 b1 rfl; cases ha
  have hrun := (eq_run τ hok.1).1 t 10000 x y p q w hty hpair hx hy (by omega)
  obtain ⟨cs, rfl, _⟩ := RelV.agg ha hx
  obtain ⟨ds, rfl, _⟩ := RelV.agg ha hy
  simp only [Sem.run_bind, run_eqGuard_agg w op t X Y cs ds (hgd t hty), Result.andThen_ok]
  split at h2
  · obtain ⟨rfl, rfl⟩ := kB_pk h2
    exact ⟨_, by rw [run_eql_struct, hrun]; rfl, rfl, .mkBool⟩
  · obtain ⟨rfl, rfl⟩ := kB_pk h2
    exact ⟨_, by rw [run_neq_struct, hrun]; rfl, rfl, .mkBool⟩
  · cases h2

theorem fin_bool {op : BinOp} {t : TypeId} {X Y : Operand} {x y : Bool} {p q : Value} (hE : EnvOk P G E)
    (h1 : (Ty.bool.eqOk && E.is t .bool) = true) (hx : RelV P st.h m F (.dat .bool x) p) (hy : RelV P st.h m F (.dat .bool y) q)
    (h2 : (match op with | .eql => kB (eqI .bool x y) st pk | .neq => kB (!eqI .bool x y) st pk | _ => none) = some (v, st')) :
    ∃ u, ((do eqGuard op t X Y p q; binOp op t p q) : Sem Value).run P w = .ok u w ∧ st' = st ∧ RelV P st.h m F v u := by
  simp only [Bool.and_eq_true] at h1
  have hty := hE.types t _ (Env.is_spec h1.2)
  have hu : P.underlying t = some .bool := by
    simp only [TyOk, tyB, Bool.and_eq_true] at hty
    have h := hty.2
    split at h
    · rename_i he; exact he
    · cases h
  obtain rfl := hx.bool
  obtain rfl := hy.bool
  simp only [Sem.run_bind, run_eqGuard_plain op t X Y (p := .bool x) rfl, Result.andThen_ok]
  have hrun := run_equal_bool (P := P) w t x y hu
  split at h2
  · obtain ⟨rfl, rfl⟩ := kB_pk h2; exact ⟨.bool (x == y), by simp [binOp, hrun], rfl, .mkBool⟩
  · obtain ⟨rfl, rfl⟩ := kB_pk h2; exact ⟨.bool (!(x == y)), by simp [binOp, hrun], rfl, .mkBool⟩
  · cases h2

theorem evBin_snd {op : BinOp} {t : TypeId} {X Y : Operand} {x y : AV} {p q : Value} (hE : EnvOk P G E) (hx : RelV P st.h m F x p) (hy : RelV P st.h m F y q)
    (he : evBin E op t x y st pk = some (v, st')) :
    ∃ u, ((do eqGuard op t X Y p q; binOp op t p q) : Sem Value).run P w = .ok u w ∧ st' = st ∧ RelV P st.h m F v u := by
  unfold evBin at he
  split at he
  · -- numbers
    rename_i k x k' y
    obtain rfl := hx.int
    obtain rfl := hy.int
    simp only [Sem.run_bind, run_eqGuard_plain op t X Y (p := .int k x) rfl, Result.andThen_ok]
    split at he
    · obtain ⟨h1, h2⟩ := cond_none he
      cases h2
      simp only [decide_eq_false_iff_not] at h1
      exact ⟨_, by simp [binOp, Op.shift, h1], rfl, .mkInt⟩
    · obtain ⟨h1, h2⟩ := cond_none he
      cases h2
      simp only [decide_eq_false_iff_not] at h1
      exact ⟨_, by simp [binOp, Op.shift, h1], rfl, .mkInt⟩
    · rename_i hl hs
      obtain ⟨h1, h2⟩ := cond_some he
      simp only [decide_eq_true_eq] at h1
      subst h1
      split at h2
      · obtain ⟨h3, h4⟩ := cond_none h2
        cases h4
        have h3 : (y : Int) ≠ 0 := by simpa using h3
        exact ⟨_, by simp [binOp, Op.intDiv, h3], rfl, .mkInt⟩
      · obtain ⟨h3, h4⟩ := cond_none h2
        cases h4
        have h3 : (y : Int) ≠ 0 := by simpa using h3
        exact ⟨_, by simp [binOp, Op.intDiv, h3], rfl, .mkInt⟩
      · rename_i hq hr
        split at h2
        · rename_i c hc
          obtain ⟨rfl, rfl⟩ := kB_pk h2
          refine ⟨.bool c, ?_, rfl, .mkBool⟩
          have := cmp_run (P := P) (w := w) hc
          unfold cmpI at hc
          cases op <;> first | (cases hc; done) | (simpa [binOp] using this)
        · rename_i hc
          split at h2
          · rename_i n hn
            cases h2
            exact ⟨_, arith_run t hc (by simpa using hq) (by simpa using hr) (by simpa using hl) (by simpa using hs) hn, rfl, .mkInt⟩
          · cases h2
  · -- strings
    rename_i x y
    obtain rfl := hx.str
    obtain rfl := hy.str
    simp only [Sem.run_bind, run_eqGuard_plain op t X Y (p := .string x) rfl, Result.andThen_ok]
    split at he
    · obtain ⟨rfl, rfl⟩ := kB_pk he; exact ⟨_, by simp [binOp, Op.stringOp], rfl, .mkBool⟩
    · obtain ⟨rfl, rfl⟩ := kB_pk he; exact ⟨_, by simp [binOp, Op.stringOp], rfl, .mkBool⟩
    · obtain ⟨rfl, rfl⟩ := kB_pk he; exact ⟨_, by simp [binOp, Op.stringOp], rfl, .mkBool⟩
    · obtain ⟨rfl, rfl⟩ := kB_pk he; exact ⟨_, by simp [binOp, Op.stringOp], rfl, .mkBool⟩
    · obtain ⟨rfl, rfl⟩ := kB_pk he; exact ⟨_, by simp [binOp, Op.stringOp], rfl, .mkBool⟩
    · obtain ⟨rfl, rfl⟩ := kB_pk he; exact ⟨_, by simp [binOp, Op.stringOp], rfl, .mkBool⟩
    · obtain ⟨h1, h2⟩ := cond_some he
      cases h2
      simp only [decide_eq_true_eq] at h1
      refine ⟨_, ?_, rfl, .mkStr⟩
      have h9 : IntKind.i64.max = 9223372036854775807 := by decide
      have : ¬ (((ByteArray.size x + ByteArray.size y : Nat) : Int) > IntKind.i64.max) := by omega
      simp only [binOp, Op.stringOp, if_neg this, Sem.run_pure]
    · cases he
  · -- pointers
    rename_i b x _ 
    obtain ⟨h1, h2⟩ := cond_some he
    have hty := hE.types t _ (Env.is_spec h1)
    obtain ⟨e, hu⟩ : ∃ e, P.underlying t = some (.pointer e) := by
      simp only [TyOk, tyB, Bool.and_eq_true] at hty
      have h := hty.2
      split at h
      · rename_i e he; exact ⟨e, he⟩
      · cases h
    obtain rfl := hy.ptr0
    have hp : ∃ ad, p = .pointer ad ∧ ad.isNone = Option.isNone x := by
      cases x with
      | none => exact ⟨none, hx.ptr0, rfl⟩
      | some x => obtain ⟨d, cc, e, _⟩ := hx.ptr; exact ⟨some d, e, rfl⟩
    obtain ⟨ad, rfl, had⟩ := hp
    simp only [Sem.run_bind, run_eqGuard_plain op t X Y (p := .pointer ad) rfl, Result.andThen_ok]
    have hrun : (Op.equal t (.pointer ad) (.pointer none)).run P w = .ok ad.isNone w := run_equal_ptr_nil hu
    split at h2
    · obtain ⟨rfl, rfl⟩ := kB_pk h2
      exact ⟨.bool ad.isNone, by simp [binOp, hrun], rfl, by rw [had]; exact .mkBool⟩
    · obtain ⟨rfl, rfl⟩ := kB_pk h2
      refine ⟨.bool (!ad.isNone), by simp [binOp, hrun], rfl, ?_⟩
      rw [had]
      cases x <;> exact RelV.mkBool
    · cases h2
  · -- functions
    rename_i b c x _ _
    obtain ⟨h1, h2⟩ := cond_some he
    have hty := hE.types t _ (Env.is_spec h1)
    obtain ⟨ps, rs, vr, hu⟩ : ∃ ps rs vr, P.underlying t = some (.func ps rs vr) := by
      simp only [TyOk, tyB, Bool.and_eq_true] at hty
      have h := hty.2
      split at h
      · rename_i ps rs vr he; exact ⟨ps, rs, vr, he⟩
      · cases h
    obtain rfl := hy.fn0
    have hp : (x = none ∧ p = .nilFunc) ∨ (∃ g f first caps, x = some g ∧ p = .func f first caps) := by
      cases x with
      | none => exact .inl ⟨rfl, hx.fn0⟩
      | some x => obtain ⟨f, first, caps, e, _⟩ := RelV.one rfl hx; exact .inr ⟨x, .func f, first, caps, rfl, by simpa using e⟩
    rcases hp with ⟨rfl, rfl⟩ | ⟨g, f, first, caps, rfl, rfl⟩
    · simp only [Sem.run_bind, run_eqGuard_plain op t X Y (p := .nilFunc) rfl, Result.andThen_ok]
      have hrun : (Op.equal t .nilFunc .nilFunc).run P w = .ok true w := (run_equal_fn_nil hu).1
      split at h2
      · obtain ⟨rfl, rfl⟩ := kB_pk h2; exact ⟨.bool true, by simp [binOp, hrun], rfl, .mkBool⟩
      · obtain ⟨rfl, rfl⟩ := kB_pk h2; exact ⟨.bool false, by simp [binOp, hrun], rfl, .mkBool⟩
      · cases h2
    · simp only [Sem.run_bind, run_eqGuard_plain op t X Y (p := .func f first caps) rfl, Result.andThen_ok]
      have hrun : (Op.equal t (.func f first caps) .nilFunc).run P w = .ok false w := (run_equal_fn_nil hu).2 _ _ _
      split at h2
      · obtain ⟨rfl, rfl⟩ := kB_pk h2; exact ⟨.bool false, by simp [binOp, hrun], rfl, .mkBool⟩
      · obtain ⟨rfl, rfl⟩ := kB_pk h2; exact ⟨.bool true, by simp [binOp, hrun], rfl, .mkBool⟩
      · cases h2
  · -- structs, bools
    rename_i τ x σ y _ _ _ _
    obtain ⟨h1, h2⟩ := cond_some he
    split at h2
    · rename_i z hz
      obtain ⟨rfl, rfl⟩ := castI_spec hz
      split at h1
      · exact fin_agg hE rfl (fun t h => by obtain ⟨_, _, _, _, h⟩ := TyOk.st h; exact h) h1 hx hy h2
      · exact fin_agg hE rfl (fun t h => by obtain ⟨_, _, _, _, _, h⟩ := TyOk.arr h; exact h) h1 hx hy h2
      · exact fin_bool hE h1 hx hy h2
      · cases h1
    · cases h2
  · cases he

end
end Go.Ev

/-! Memory: loads, stores, new variables. -/
namespace Go.Ev
open Go.RowKit
set_option linter.unusedSimpArgs false
set_option linter.unusedVariables false

theorem add_none (b off j : Nat) : (⟨b, off, none⟩ : Addr).add j = ⟨b, off + j, none⟩ := by
  unfold Addr.add
  split
  · rename_i h; subst h; rfl
  · rfl
theorem add_spot {d : Addr} (h : d.spot = none) (j : Nat) : d.add j = ⟨d.block, d.off + j, none⟩ := by
  obtain ⟨b, off, s⟩ := d
  simp only at h
  subst h
  exact add_none b off j
theorem cell_block {w : World} {b off : Nat} {cs : Array Value} {el : TypeId} {fr : Nat × Nat} (h : w.heap[b]? = some (.cells cs el fr)) : w.cell? ⟨b, off, none⟩ = cs.toList[off]? := by
  simp [World.cell?, h]

section
variable {P : Program} {nt : Nat} {F0 F G : FH} {w0 w : World} {st st' : St} {m : MM} {a : Act} {E : Env} {v : AV} {u : Value}

theorem run_loadVar' {t : TypeId} {τ : Ty} (h : TyOk P t τ) (hp : ∀ a b, τ ≠ .pair a b) {y : τ.I} {c : List Value} (hr : Rep P F τ y c) {d : Addr}
    (hs : ∀ (j : Nat) (u : Value), c[j]? = some u → w.cell? (d.add j) = some u) : ∃ u, (loadVar t d).run P w = .ok u w ∧ RepV P F τ y u := by
  obtain ⟨i, hi, hsz⟩ := h.size hp
  have hl := Rep.length hr
  have h1 := nc_one h hp
  obtain ⟨hv, hc⟩ := toV_spec hr h1
  refine ⟨_, ?_, hv⟩
  unfold loadVar
  simp only [Sem.run_bind, run_isAgg' h, Result.andThen_ok]
  cases ha : τ.agg with
  | true =>
    have hrun := run_loadCells_list (P := P) w d c hs
    rw [hl, ← hsz] at hrun
    simp only [if_true, Sem.run_bind, run_sizeOf' hi, Result.andThen_ok, hrun, Sem.run_pure]
    unfold toV
    rw [ha]
  | false =>
    rw [ha] at h1
    have : c.length = 1 := by rw [hl]; exact h1.resolve_right (by simp)
    match c, this with
    | [x], _ =>
      have := hs 0 x rfl
      have hd0 : d.add 0 = d := by simp [Addr.add]
      rw [hd0] at this
      simp [this, toV, ha]

theorem at_cells {F : FH} (hk : F.ok w) {d : Addr} {cc : List Value} (h : At F d cc) (j : Nat) (x : Value) (hj : cc[j]? = some x) : w.cell? (d.add j) = some x := by
  obtain ⟨h1, c, h2, h3⟩ := h
  obtain ⟨el, fz, hw⟩ := hk _ _ h2
  rw [add_spot h1, cell_block hw, Array.getElem?_toList]
  exact h3 j x hj

theorem flat_agg (hE : EnvOk P G E) {t : TypeId} (h : E.flat t = true) : (isAgg t).run P w = .ok false w := by
  unfold Env.flat at h
  split at h
  · rename_i τ hτ; exact run_isAgg' (hE.types t _ hτ)
  · rename_i κ σ hτ; exact run_isAgg' (hE.types t _ hτ)
  · rename_i τ hτ; exact run_isAgg' (hE.types t _ hτ)
  · cases h
theorem flat_size (hE : EnvOk P G E) {t : TypeId} (h : E.flat t = true) : (sizeOf t).run P w = .ok 1 w := by
  unfold Env.flat at h
  split at h
  · rename_i τ hτ
    obtain ⟨i, hi, hs⟩ := (hE.types t _ hτ).size (by intro a b e; cases e)
    rw [run_sizeOf' hi, hs]; rfl
  · rename_i κ σ hτ
    have := hE.types t _ hτ
    simp only [TyOk, tyB, Bool.and_eq_true] at this
    have h2 := this.2
    split at h2
    · rename_i i hi
      rw [run_sizeOf' hi, Nat.eq_of_beq_eq_true h2]
    · cases h2
  · rename_i τ hτ
    obtain ⟨i, hi, hs⟩ := (hE.types t _ hτ).size (by intro a b e; cases e)
    rw [run_sizeOf' hi, hs]; rfl
  · cases h

theorem evLoad_snd {t : TypeId} {x : AV} {p : Value} (hE : EnvOk P G E) (h : Rel P nt F0 w0 st m F a w) (hx : RelV P st.h m F x p) (he : evLoad E t x st pk = some (v, st')) :
    ∃ u, (Instr.loadAt t p).run P w = .ok u w ∧ st' = st ∧ RelV P st.h m F v u := by
  unfold evLoad at he
  split at he
  · rename_i τ y
    obtain ⟨h1, h2⟩ := cond_some he
    obtain ⟨rfl, rfl⟩ := kAV_pk h2
    obtain ⟨d, cc, rfl, h3, h4⟩ := hx.ptr
    obtain ⟨u, h5, h6⟩ := run_loadVar' (hE.types t _ (Env.is_spec h1)) (Env.is_np h1) h4 (d := d) (at_cells h.fok h3)
    exact ⟨u, by simpa [Instr.loadAt, Instr.sureAddr] using h5, rfl, h6⟩
  · rename_i id pth
    rcases hx with hg | ⟨b, n, o, off, hmi, ho, rfl, hoff⟩
    · simp [hg] at he
    have hob := h.obs id o ho
    split at he
    · rename_i τ y fz ho'
      rw [ho] at ho'
      cases ho'
      obtain ⟨σ, hσ⟩ := hoff
      obtain ⟨b', n', el, fr, cs, h1, h2, h3, h4⟩ := hob
      rw [hmi] at h1
      cases h1
      split at he
      · rename_i ρ z hz
        obtain ⟨y', c, h5, h6, h7⟩ := getP_rep hz hσ h3
        cases h5
        obtain ⟨h8, h9⟩ := cond_some he
        obtain ⟨rfl, rfl⟩ := kAV_pk h9
        obtain ⟨u, h10, h11⟩ := run_loadVar' (w := w) (hE.types t _ (Env.is_spec h8)) (Env.is_np h8) h6 (d := ⟨b, off, none⟩) (fun j x hj => by rw [add_none, cell_block h2]; exact h7 j x hj)
        exact ⟨u, by simpa [Instr.loadAt, Instr.sureAddr] using h10, rfl, h11⟩
      · cases he
    · rename_i av fz hnd ho'
      rw [ho] at ho'
      cases ho'
      split at he
      · obtain ⟨h8, h9⟩ := cond_some he
        cases h9
        have hoff' : off = 0 := by
          cases v <;> first | exact hoff.2 | exact absurd rfl (hnd _ _)
        subst hoff'
        obtain ⟨b', n', el, fr, cs, h1, h2, h3, h4⟩ := hob
        rw [hmi] at h1
        cases h1
        have : ∃ x, cs = #[x] ∧ RelV1 P st.h m F v x := by
          cases v with
          | dat τ y => exact absurd rfl (hnd _ _)
          | clip τ xs => exact h3
          | ow id => exact h3
          | om id => exact h3
          | dead => 
            match cs, h3 with
            | ⟨[x]⟩, _ => exact ⟨x, rfl, trivial⟩
          | _ => exact h3.elim
        obtain ⟨x, rfl, hx1⟩ := this
        refine ⟨x, ?_, rfl, RelV.of1 hx1⟩
        simp [Instr.loadAt, Instr.sureAddr, loadVar, flat_agg hE h8, cell_block h2]
      · cases he
    · cases he
  · rename_i id i pth
    rcases hx with hg | ⟨b, n, τ, xs, fz, off, σ, hmi, ho, hlt, hσ, rfl⟩
    · simp [hg] at he
    rw [ho] at he
    simp only at he
    obtain ⟨el, fr, cs, c, d, h1, h2, h3, h4, h5⟩ := h.row ho hmi
    split at he
    · rename_i ρ z hz
      have hn : ∀ (z : τ.I) c, Rep P F τ z c → c.length = nc τ := fun z c h => Rep.length h
      have hxi : xs[i]? = some (xs.getD i (dflt τ)) := by simp [List.getD, hlt]
      obtain ⟨c1, hc1, hc2⟩ := RepL.get hn _ _ h4 i _ hxi
      obtain ⟨y', c', h6, h7, h8⟩ := getP_rep hz hσ hc1
      cases h6
      obtain ⟨h9, h10⟩ := cond_some he
      obtain ⟨rfl, rfl⟩ := kAV_pk h10
      obtain ⟨u, h11, h12⟩ := run_loadVar' (w := w) (hE.types t _ (Env.is_spec h9)) (Env.is_np h9) h7 (d := ⟨b, i * nc τ + off, none⟩) (fun j x hj => by
        rw [add_none, cell_block h1, h3, Nat.add_assoc]
        have := hc2 _ _ (h8 j x hj)
        rw [List.getElem?_append_left (List.getElem?_eq_some_iff.1 this).1]; exact this)
      exact ⟨u, by simpa [Instr.loadAt, Instr.sureAddr] using h11, rfl, h12⟩
    · cases he
  · cases he

/-! ### Stores -/
theorem run_storeVar' {t : TypeId} {b off : Nat} {cs : Array Value} {el : TypeId} {q : Value} {c : List Value} (hsz : (sizeOf t).run P w = .ok c.length w) (hq : q.cells.toList = c) (h1 : ∀ x ∈ c, x.oneCell' = true)
    (hw : w.heap[b]? = some (.cells cs el (0, 0))) (hl : off + c.length ≤ cs.size) :
    (storeVar t ⟨b, off, none⟩ q).run P w = .ok () (w.setRow b (splice cs.toList off c).toArray) := by
  unfold storeVar
  have hqs : q.cells.size = c.length := by rw [← hq]; simp
  simp only [Sem.run_bind, hsz, Result.andThen_ok, hqs, ne_eq, not_true_eq_false, if_false, Sem.run_pure]
  have := run_storeCells_at (P := P) b off el c 0 cs w hw (by omega) h1
  rw [hq]
  simpa [splice] using this

theorem relUndef {h' : List Obj} {m' : MM} {F' : FH} : RelV P h' m' F' (.tup []) undef := ⟨#[], rfl, rfl, fun i u hu => by simp at hu⟩

theorem evStore_snd {t : TypeId} {x y : AV} {p q : Value} (hE : EnvOk P G E) (h : Rel P nt F0 w0 st m F a w) (hx : RelV P st.h m F x p) (hy : RelV P st.h m F y q)
    (he : evStore E t x y st pk = some (v, st')) :
    ∃ w', (Instr.storeAt t p q).run P w = .ok () w' ∧ Post P nt F0 w0 st' a F v undef w' := by
  unfold evStore at he
  split at he
  · rename_i id pth
    split at he
    · rename_i τ0 z0 fz0 ho0
      split at he
      · rename_i ρ y' st1 hfz
        split at he
        · rename_i τ z ho
          split at he
          · rename_i x' hset
            obtain ⟨h8, h9⟩ := cond_some he
            cases h9
            obtain ⟨F', hF, hrel, hrv, hh⟩ := frz_spec hfz h hy
            obtain ⟨b, n, o, off, hmi, ho2, rfl, hoff⟩ := (RelV.mono hh (fun _ _ _ => rfl) hF hx).bpAt ho
            rw [ho] at ho2
            cases ho2
            obtain ⟨σ, hσ⟩ := hoff
            obtain ⟨b', n', el, fr, cs, h1, h2, h3, h4⟩ := hrel.obs id _ ho
            rw [hmi] at h1
            cases h1
            obtain ⟨hFb, rfl⟩ := h4
            obtain ⟨e1, e2, e3⟩ := setP_rep hset hσ h3 hrv.1
            have hty := hE.types t _ (Env.is_spec h8)
            obtain ⟨i, hi, hsz⟩ := hty.size (Env.is_np h8)
            have hlc := Rep.length hrv.1
            have hrun := run_storeVar' (P := P) (w := w) (t := t) (b := b) (off := off) (q := q) (by rw [run_sizeOf' hi, hsz, hlc]) rfl (Rep.one hrv.1) h2 (by simpa using e3)
            refine ⟨_, by simpa [Instr.storeAt, Instr.sureAddr] using hrun, m, F', hF, ?_, relUndef⟩
            refine hrel.turn ho (.inr rfl) rfl rfl rfl (by simp) (fun k hk => setRow_other w b k _ (fun e => hk n (e ▸ hmi))) (fun b' n' hb' => by rw [hmi] at hb'; cases hb'; exact hFb) ?_
            exact ⟨b, n, el, (0, 0), _, hmi, setRow_heap w b _ _ el _ h2, by simpa using e2, hFb, rfl⟩
          · cases he
        · cases he
      · cases he
    · rename_i av hnd ho
      split at he
      · obtain ⟨h8, h9⟩ := cond_some he
        obtain ⟨b, n, o, off, hmi, ho2, rfl, hoff⟩ := hx.bpAt ho
        rw [ho] at ho2
        cases ho2
        have hoff' : off = 0 := by
          cases av <;> first | exact hoff.2 | exact absurd rfl (hnd _ _)
        subst hoff'
        obtain ⟨b', n', el, fr, cs, h1, h2, h3, h4⟩ := h.obs id _ ho
        rw [hmi] at h1
        cases h1
        obtain ⟨hFb, rfl⟩ := h4
        have hcs : ∃ x, cs = #[x] := by
          cases av with
          | dat τ y => exact absurd rfl (hnd _ _)
          | clip τ xs => exact ⟨_, h3.choose_spec.1⟩
          | ow id => exact ⟨_, h3.choose_spec.1⟩
          | om id => exact ⟨_, h3.choose_spec.1⟩
          | dead =>
            match cs, h3 with
            | ⟨[x]⟩, _ => exact ⟨x, rfl⟩
          | _ => exact h3.elim
        obtain ⟨x0, rfl⟩ := hcs
        have hone : (∃ ad l c, q = .slice ad l c) ∨ (∃ r, q = .map r) → (Instr.storeAt t (.pointer (some ⟨b, 0, none⟩)) q).run P w = .ok () (w.setRow b #[q]) := by
          intro hq
          have hq1 : q.cells.toList = [q] ∧ q.oneCell' = true := by rcases hq with ⟨_, _, _, rfl⟩ | ⟨_, rfl⟩ <;> exact ⟨rfl, rfl⟩
          have := run_storeVar' (P := P) (w := w) (t := t) (b := b) (off := 0) (q := q) (c := [q]) (flat_size hE h8) hq1.1 (by simpa using hq1.2) h2 (by simp)
          simpa [Instr.storeAt, Instr.sureAddr, splice] using this
        have hfin : ∀ (nv : AV), ((∃ ad l c, q = .slice ad l c) ∨ (∃ r, q = .map r)) → (Obj.bx av false).like (.bx nv false) → RelO P (setAt st.h id (.bx nv false)) m F (w.setRow b #[q]) id (.bx nv false) → v = .tup [] → st' = ⟨st.fr, setAt st.h id (.bx nv false)⟩ →
            ∃ w', (Instr.storeAt t (.pointer (some ⟨b, 0, none⟩)) q).run P w = .ok () w' ∧ Post P nt F0 w0 st' a F v undef w' := by
          rintro nv hq hl hro rfl rfl
          refine ⟨_, hone hq, m, F, .refl F, ?_, relUndef⟩
          exact h.turn ho hl rfl rfl rfl (by simp) (fun k hk => setRow_other w b k _ (fun e => hk n (e ▸ hmi))) (fun b' n' hb' => by rw [hmi] at hb'; cases hb'; exact hFb) hro
        have hlk : ∀ nv : AV, (∀ τ y, nv ≠ .dat τ y) → (Obj.bx av false).like (.bx nv false) := by
          intro nv hnv
          cases av <;> cases nv <;> first | exact absurd rfl (hnd _ _) | exact absurd rfl (hnv _ _) | exact .inr trivial
        have hmono : ∀ nv, (Obj.bx av false).like (.bx nv false) → HLe st.h (setAt st.h id (.bx nv false)) := fun nv hl => HLe.set ho hl
        split at h9
        · rename_i i
          obtain ⟨hlive, h9⟩ := cond_some h9
          cases h9
          have hl := hlk (.ow i) (by intro τ y e; cases e)
          have hy' := RelV1.mono (hmono _ hl) (fun _ _ _ => rfl) (.refl F) (show RelV1 P st.h m F (.ow i) q from hy)
          refine hfin _ ?_ hl ⟨b, n, el, (0, 0), _, hmi, setRow_heap w b _ _ el _ h2, ⟨q, rfl, hy'⟩, hFb, rfl⟩ rfl rfl
          obtain ⟨τ, xs, fz, _, hq⟩ := hy.resolve_left (live_ne hlive)
          left
          split at hq
          · obtain ⟨cap, _, _, rfl⟩ := hq; exact ⟨_, _, _, rfl⟩
          · obtain ⟨_, ad, rfl⟩ := hq; exact ⟨_, _, _, rfl⟩
        · rename_i i
          obtain ⟨hlive, h9⟩ := cond_some h9
          cases h9
          have hl := hlk (.om i) (by intro τ y e; cases e)
          have hy' := RelV1.mono (hmono _ hl) (fun _ _ _ => rfl) (.refl F) (show RelV1 P st.h m F (.om i) q from hy)
          refine hfin _ ?_ hl ⟨b, n, el, (0, 0), _, hmi, setRow_heap w b _ _ el _ h2, ⟨q, rfl, hy'⟩, hFb, rfl⟩ rfl rfl
          obtain ⟨b, n, κ, σ, es, _, _, rfl⟩ := hy.resolve_left (live_ne hlive)
          exact .inr ⟨_, rfl⟩
        · rename_i τ xs
          cases h9
          have hl := hlk (.clip τ xs) (by intro τ y e; cases e)
          have hy' := RelV1.mono (hmono _ hl) (fun _ _ _ => rfl) (.refl F) (show RelV1 P st.h m F (.clip τ xs) q from hy)
          refine hfin _ ?_ hl ⟨b, n, el, (0, 0), _, hmi, setRow_heap w b _ _ el _ h2, ⟨q, rfl, hy'⟩, hFb, rfl⟩ rfl rfl
          obtain ⟨ad, rfl, _⟩ := hy
          exact .inl ⟨_, _, _, rfl⟩
        · cases h9
      · cases he
    · cases he
  · rename_i id i pth
    split at he
    · rename_i ρ y' st1 hfz
      split at he
      · rename_i τ xs ho
        split at he
        · rename_i x' hset
          obtain ⟨h8, h9⟩ := cond_some he
          cases h9
          obtain ⟨F', hF, hrel, hrv, hh⟩ := frz_spec hfz h hy
          obtain ⟨b, n, τ', xs', fz', off, σ, hmi, ho2, hlt, hσ, rfl⟩ := (RelV.mono hh (fun _ _ _ => rfl) hF hx).rpAt ho
          rw [ho] at ho2
          cases ho2
          obtain ⟨el, fr, cs, c, d, h1, h2, h3, h4, h5⟩ := hrel.row ho hmi
          obtain ⟨hFb, rfl⟩ := h5
          have hn : ∀ (z : τ.I) c, Rep P F' τ z c → c.length = nc τ := fun z c h => Rep.length h
          have hxi : xs[i]? = some (xs.getD i (dflt τ)) := by simp [List.getD, hlt]
          obtain ⟨c1, hc1, hc2⟩ := RepL.get hn _ _ h4 i _ hxi
          obtain ⟨e1, e2, e3⟩ := setP_rep hset hσ hc1 hrv.1
          have hty := hE.types t _ (Env.is_spec h8)
          obtain ⟨ii, hi, hsz⟩ := hty.size (Env.is_np h8)
          have hlc := Rep.length hrv.1
          have hL := RepL.length hn _ _ h4
          have hl1 := hn _ _ hc1
          have hb : i * nc τ + nc τ ≤ c.length := by
            rw [hL]
            calc i * nc τ + nc τ = (i + 1) * nc τ := by rw [Nat.add_mul]; omega
              _ ≤ xs.length * nc τ := Nat.mul_le_mul_right _ (by omega)
          have hcsl : cs.size = c.length + d.length := by rw [← Array.length_toList, h3]; simp
          have hrun := run_storeVar' (P := P) (w := w) (t := t) (b := b) (off := i * nc τ + off) (q := q) (by rw [run_sizeOf' hi, hsz, hlc]) rfl (Rep.one hrv.1) h1 (by omega)
          refine ⟨_, by simpa [Instr.storeAt, Instr.sureAddr] using hrun, m, F', hF, ?_, relUndef⟩
          refine hrel.turn ho (.inr ⟨rfl, by simp⟩) rfl rfl rfl (by simp) (fun k hk => setRow_other w b k _ (fun e => hk n (e ▸ hmi))) (fun b' n' hb' => by rw [hmi] at hb'; cases hb'; exact hFb) ?_
          simp only [RelO, hmi]
          have hspl : splice cs.toList (i * nc τ + off) q.cells.toList = splice c (i * nc τ) (splice c1 off q.cells.toList) ++ d := by
            rw [h3, splice_append_left (by omega), splice_sub hc2 e3 (by omega)]
          refine ⟨el, (0, 0), _, _, d, setRow_heap w b _ _ el _ h1, ?_, by simpa using hspl, RepL.set hn _ _ h4 i x' _ hlt e2, hFb, rfl⟩
          have e3' : off + q.cells.size ≤ c1.length := by simpa using e3
          simp only [List.size_toArray]
          rw [splice_length (by simp; omega)]
          simpa using h2
        · cases he
      · cases he
    · cases he
  · cases he

end
end Go.Ev

/-! Addresses, fields, indexes. -/
namespace Go.Ev
open Go.RowKit
set_option linter.unusedSimpArgs false
set_option linter.unusedVariables false

theorem offP_append : ∀ {p : List Nat} {τ σ ρ : Ty} {i off o : Nat}, offP p τ = some (off, σ) → offP [i] σ = some (o, ρ) → offP (p ++ [i]) τ = some (off + o, ρ) := by
  intro p
  induction p with
  | nil =>
    intro τ σ ρ i off o h1 h2
    simp only [offP, Option.some.injEq, Prod.mk.injEq] at h1
    obtain ⟨rfl, rfl⟩ := h1
    simpa using h2
  | cons j p ih =>
    intro τ σ ρ i off o h1 h2
    cases τ with
    | st a =>
      simp only [offP, Option.bind_eq_some_iff, Option.map_eq_some_iff, Prod.mk.injEq, Prod.exists] at h1
      obtain ⟨o1, τ1, h3, o2, τ2, h4, h5, h6⟩ := h1
      subst h6
      have := ih h4 h2
      rw [List.cons_append, offP, h3, Option.bind_some]
      simp only [this, Option.map_some]
      rw [← h5, Nat.add_assoc]
    | arr n a =>
      simp only [offP] at h1
      split at h1
      · rename_i hj
        simp only [Option.map_eq_some_iff, Prod.mk.injEq, Prod.exists] at h1
        obtain ⟨o2, τ2, h4, h5, h6⟩ := h1
        subst h6
        have := ih h4 h2
        rw [List.cons_append, offP, if_pos hj]
        simp only [this, Option.map_some]
        rw [← h5, Nat.add_assoc]
      · cases h1
    | _ => simp [offP] at h1
theorem offP_st {a σ : Ty} {i o : Nat} (h : nthT a i = some (o, σ)) : offP [i] (.st a) = some (o, σ) := by
  simp [offP, h]
theorem offP_arr {a : Ty} {n i : Nat} (h : i < n) : offP [i] (.arr n a) = some (i * nc a, a) := by
  simp [offP, h]

theorem At.sub {F : FH} {d : Addr} {cc c : List Value} {o : Nat} (h : At F d cc) (hs : ∀ (j : Nat) (u : Value), c[j]? = some u → cc[o + j]? = some u) : At F (d.add o) c := by
  obtain ⟨h1, x, h2, h3⟩ := h
  rw [add_spot h1]
  exact ⟨rfl, x, h2, fun j v hj => by rw [Nat.add_assoc]; exact h3 _ _ (hs j v hj)⟩

section
variable {P : Program} {nt : Nat} {F0 F G : FH} {w0 w : World} {st st' : St} {m : MM} {a : Act} {E : Env} {v : AV} {u : Value}

theorem run_fieldAt {t : TypeId} {c σ : Ty} {i o : Nat} {d : Addr} (h : TyOk P t (.st c)) (hn : nthT c i = some (o, σ)) (hd : d.spot = none) :
    (Instr.fieldAt t (.pointer (some d)) i).run P w = .ok (.pointer (some (d.add o))) w := by
  obtain ⟨fs, h1, h2, _⟩ := h.st
  obtain ⟨f, h3, h4, h5, h6, h7, _⟩ := flds_nth h2 hn
  obtain ⟨i', hi, hsz⟩ := h5.size (Ty.np_spec h7)
  have hne : i'.size ≠ 0 := by omega
  unfold Instr.fieldAt
  simp only [Sem.run_bind, run_underlying' h1, Result.andThen_ok]
  rw [show fs[i]? = some f by rw [← Array.getElem?_toList]; exact h3]
  simp only [Sem.run_bind, Instr.sureAddr, Sem.run_pure, Result.andThen_ok, fieldPlace, run_sizeOf' hi, hne, if_false, h4, Nat.zero_add]

theorem evFieldAddr_snd {t : TypeId} {x : AV} {p : Value} {f : Nat} (hE : EnvOk P G E) (h : Rel P nt F0 w0 st m F a w) (hx : RelV P st.h m F x p) (he : evFieldAddr E t x f st pk = some (v, st')) :
    ∃ u, (Instr.fieldAt t p f).run P w = .ok u w ∧ st' = st ∧ RelV P st.h m F v u := by
  unfold evFieldAddr at he
  split at he
  · rename_i c y
    obtain ⟨h1, h2⟩ := cond_some he
    obtain ⟨d, cc, rfl, h3, h4⟩ := hx.ptr
    split at h2
    · rename_i σ z hz
      cases h2
      obtain ⟨o, σ', y', c', h5, h6, h7, h8⟩ := nth_rep (a := c) hz h4
      cases h6
      refine ⟨_, run_fieldAt (hE.types t _ (Env.is_spec h1)) h5 h3.1, rfl, ?_⟩
      exact ⟨⟨_, c', rfl, h3.sub h8, h7⟩, rfl⟩
    · cases h2
  · rename_i id pth
    rcases hx with hg | ⟨b, n, o, off, hmi, ho, rfl, hoff⟩
    · simp [hg] at he
    rw [ho] at he
    cases o with
    | bx av fz =>
      cases av with
      | dat τ y =>
        simp only at he
        obtain ⟨σ, hσ⟩ := hoff
        obtain ⟨b', n', el, fr, cs, h1, h2, h3, h4⟩ := h.obs id _ ho
        split at he
        · rename_i c z hz
          obtain ⟨y', c', h5, h6, h7⟩ := getP_rep hz hσ h3
          cases h5
          obtain ⟨h8, h9⟩ := cond_some he
          split at h9
          · rename_i nv hnv
            cases h9
            obtain ⟨o', σ', y'', c'', h10, h11, _⟩ := nth_rep (a := c) hnv h6
            refine ⟨_, run_fieldAt (hE.types t _ (Env.is_spec h8)) h10 rfl, rfl, ?_⟩
            exact .inr ⟨b, n, _, off + o', hmi, ho, by rw [add_none], σ', offP_append hσ (offP_st h10)⟩
          · cases h9
        · cases he
      | _ => cases he
    | _ => cases he
  · rename_i id i pth
    rcases hx with hg | ⟨b, n, τ, xs, fz, off, σ, hmi, ho, hlt, hσ, rfl⟩
    · simp [hg] at he
    rw [ho] at he
    simp only at he
    obtain ⟨el, fr, cs, c, d, h1, h2, h3, h4, h5⟩ := h.row ho hmi
    split at he
    · rename_i c z hz
      have hn : ∀ (z : τ.I) c, Rep P F τ z c → c.length = nc τ := fun z c h => Rep.length h
      have hxi : xs[i]? = some (xs.getD i (dflt τ)) := by simp [List.getD, hlt]
      obtain ⟨c1, hc1, hc2⟩ := RepL.get hn _ _ h4 i _ hxi
      obtain ⟨y', c', h5, h6, h7⟩ := getP_rep hz hσ hc1
      cases h5
      obtain ⟨h8, h9⟩ := cond_some he
      split at h9
      · rename_i nv hnv
        cases h9
        obtain ⟨o', σ', y'', c'', h10, h11, _⟩ := nth_rep (a := c) hnv h6
        refine ⟨_, run_fieldAt (hE.types t _ (Env.is_spec h8)) h10 rfl, rfl, ?_⟩
        exact .inr ⟨b, n, τ, xs, fz, off + o', σ', hmi, ho, hlt, offP_append hσ (offP_st h10), by rw [add_none, Nat.add_assoc]⟩
      · cases h9
    · cases he
  · cases he

theorem kIdx_some {n : Int} {len : Nat} {α : Type} {k : Nat → Option α} {y : α} (h : kIdx n len k = some y) : ∃ i : Nat, n = i ∧ i < len ∧ k i = some y := by
  unfold kIdx at h
  obtain ⟨h1, h2⟩ := cond_some h
  obtain ⟨h3, h4⟩ := cond_some h2
  simp only [decide_eq_true_eq] at h1 h3
  exact ⟨n.toNat, by omega, by omega, h4⟩

theorem run_indexAt_slice {t e : TypeId} {i : TypeInfo} {d : Addr} {len cap j : Nat} {k : IntKind} (hu : P.underlying t = some (.slice e)) (hi : P.info? e = some i) (hj : j < len) :
    (Instr.indexAt t (.slice (some d) len cap) (.int k j)).run P w = .ok (.pointer (some (d.add (j * i.size)))) w := by
  unfold Instr.indexAt
  have h1 : (0 : Int) ≤ j ∧ (j : Int) < len := by omega
  simp only [Sem.run_bind, asIntOf, Sem.run_pure, Result.andThen_ok, run_underlying' hu, h1, and_self, if_true, run_sizeOf' hi, Int.toNat_natCast]

theorem run_indexAt_array {t e : TypeId} {i : TypeInfo} {d : Addr} {n j : Nat} {k : IntKind} (hu : P.underlying t = some (.array n e)) (hi : P.info? e = some i) (hj : j < n) :
    (Instr.indexAt t (.pointer (some d)) (.int k j)).run P w = .ok (.pointer (some (d.add (j * i.size)))) w := by
  unfold Instr.indexAt
  have h1 : (0 : Int) ≤ j ∧ (j : Int) < n := by omega
  simp only [Sem.run_bind, asIntOf, Sem.run_pure, Result.andThen_ok, run_underlying' hu, Instr.sureAddr, h1, and_self, if_true, run_sizeOf' hi, Int.toNat_natCast]

theorem slice_elem {F : FH} {τ : Ty} {xs : List τ.I} {d : Addr} {cc : List Value} {j : Nat} (h1 : At F d cc) (h2 : RepL (Rep P F τ) xs cc) (hj : j < xs.length) :
    RepV P F (.ptr τ) (some (xs.getD j (dflt τ))) (.pointer (some (d.add (j * nc τ)))) := by
  have hn : ∀ (z : τ.I) c, Rep P F τ z c → c.length = nc τ := fun z c h => Rep.length h
  have hxi : xs[j]? = some (xs.getD j (dflt τ)) := by simp [List.getD, hj]
  obtain ⟨c1, hc1, hc2⟩ := RepL.get hn _ _ h2 j _ hxi
  exact ⟨⟨_, c1, rfl, h1.sub hc2, hc1⟩, rfl⟩

theorem evIndexAddr_snd {t : TypeId} {x y : AV} {p q : Value} (hE : EnvOk P G E) (h : Rel P nt F0 w0 st m F a w) (hx : RelV P st.h m F x p) (hy : RelV P st.h m F y q) (he : evIndexAddr E t x y st pk = some (v, st')) :
    ∃ u, (Instr.indexAt t p q).run P w = .ok u w ∧ st' = st ∧ RelV P st.h m F v u := by
  unfold evIndexAddr at he
  split at he
  · rename_i τ xs k n
    obtain ⟨h1, h2⟩ := cond_some he
    obtain ⟨j, rfl, hj, h3⟩ := kIdx_some h2
    cases h3
    obtain rfl := hy.int
    obtain ⟨e, he1, he2, _, hnp⟩ := (hE.types t _ (Env.is_spec h1)).sl
    obtain ⟨i, hi, hsz⟩ := he2.size (Ty.np_spec hnp)
    obtain ⟨ad, cap, rfl, hcap, h4⟩ := hx.sl
    obtain ⟨d, cc, rfl, h5, h6⟩ := h4 (by rintro rfl; simp at hj)
    refine ⟨_, run_indexAt_slice he1 hi hj, rfl, ?_⟩
    rw [hsz]
    exact slice_elem h5 h6 hj
  · rename_i τ xs k n
    obtain ⟨h1, h2⟩ := cond_some he
    obtain ⟨j, rfl, hj, h3⟩ := kIdx_some h2
    cases h3
    obtain rfl := hy.int
    obtain ⟨e, he1, he2, _, hnp⟩ := (hE.types t _ (Env.is_spec h1)).sl
    obtain ⟨i, hi, hsz⟩ := he2.size (Ty.np_spec hnp)
    obtain ⟨ad, rfl, h4⟩ := hx
    obtain ⟨d, cc, rfl, h5, h6⟩ := h4 (by rintro rfl; simp at hj)
    refine ⟨_, run_indexAt_slice he1 hi hj, rfl, ?_⟩
    rw [hsz]
    exact slice_elem h5 h6 hj
  · rename_i id k n
    split at he
    · rename_i τ xs fz ho
      obtain ⟨h1, h2⟩ := cond_some he
      obtain ⟨j, rfl, hj, h3⟩ := kIdx_some h2
      cases h3
      obtain rfl := hy.int
      obtain ⟨e, he1, he2, _, hnp⟩ := (hE.types t _ (Env.is_spec h1)).sl
      obtain ⟨i, hi, hsz⟩ := he2.size (Ty.np_spec hnp)
      obtain ⟨τ', xs', fz', ho', hu⟩ := hx.owAt ho
      rw [ho] at ho'
      cases ho'
      cases hmi : m id with
      | none => rw [hmi] at hu; obtain ⟨rfl, _⟩ := hu; simp at hj
      | some bn =>
        obtain ⟨b, n⟩ := bn
        rw [hmi] at hu
        obtain ⟨cap, _, _, rfl⟩ := hu
        refine ⟨_, run_indexAt_slice he1 hi hj, rfl, ?_⟩
        rw [hsz, add_none]
        exact .inr ⟨b, n, τ, xs, fz, 0, τ, hmi, ho, hj, rfl, by simp⟩
    · cases he
  · rename_i n τ xs k i
    obtain ⟨h1, h2⟩ := cond_some he
    obtain ⟨j, rfl, hj, h3⟩ := kIdx_some h2
    cases h3
    obtain rfl := hy.int
    obtain ⟨e, he1, he2, _, hnp, _⟩ := (hE.types t _ (Env.is_spec h1)).arr
    obtain ⟨i, hi, hsz⟩ := he2.size (Ty.np_spec hnp)
    obtain ⟨d, cc, rfl, h5, hl, h6⟩ := hx.ptr
    refine ⟨_, run_indexAt_array he1 hi hj, rfl, ?_⟩
    rw [hsz]
    exact slice_elem h5 h6 (by omega)
  · rename_i id pth k n
    rcases hx with hg | ⟨b, nn, o, off, hmi, ho, rfl, hoff⟩
    · simp [hg] at he
    rw [ho] at he
    cases o with
    | bx av fz =>
      cases av with
      | dat τ y =>
        simp only at he
        obtain ⟨σ, hσ⟩ := hoff
        obtain ⟨b', n', el, fr, cs, h1, h2, h3, h4⟩ := h.obs id _ ho
        split at he
        · rename_i mm ρ z hz
          obtain ⟨y', c', h5, h6, h7⟩ := getP_rep hz hσ h3
          cases h5
          obtain ⟨h8, h9⟩ := cond_some he
          obtain ⟨j, rfl, hj, h10⟩ := kIdx_some h9
          cases h10
          obtain rfl := hy.int
          obtain ⟨e, he1, he2, _, hnp, _⟩ := (hE.types t _ (Env.is_spec h8)).arr
          obtain ⟨i, hi, hsz⟩ := he2.size (Ty.np_spec hnp)
          refine ⟨_, run_indexAt_array he1 hi hj, rfl, ?_⟩
          exact .inr ⟨b, nn, _, off + j * nc ρ, hmi, ho, by rw [add_none, hsz], ρ, offP_append hσ (offP_arr hj)⟩
        · cases he
      | _ => cases he
    | _ => cases he
  · cases he

theorem evIndex_snd {t : TypeId} {x y : AV} {p q : Value} (hE : EnvOk P G E) (hx : RelV P st.h m F x p) (hy : RelV P st.h m F y q) (he : evIndex E t x y st pk = some (v, st')) :
    ∃ u, (Instr.index t p q).run P w = .ok u w ∧ st' = st ∧ RelV P st.h m F v u := by
  unfold evIndex at he
  split at he
  · rename_i n τ xs k i
    obtain ⟨h1, h2⟩ := cond_some he
    obtain ⟨j, rfl, hj, h3⟩ := kIdx_some h2
    obtain ⟨rfl, rfl⟩ := kAV_pk h3
    obtain rfl := hy.int
    obtain ⟨e, he1, he2, _, hnp, _⟩ := (hE.types t _ (Env.is_spec h1)).arr
    obtain ⟨i, hi, hsz⟩ := he2.size (Ty.np_spec hnp)
    obtain ⟨cs, rfl, hl, h4⟩ := hx.agg rfl
    have hn : ∀ (z : τ.I) c, Rep P F τ z c → c.length = nc τ := fun z c h => Rep.length h
    have hxi : xs[j]? = some (xs.getD j (dflt τ)) := by
      have : j < xs.length := by omega
      simp [List.getD, this]
    obtain ⟨c1, hc1, hc2⟩ := RepL.get hn _ _ h4 j _ hxi
    obtain ⟨u, h5, h6⟩ := run_part' (w := w) he2 (Ty.np_spec hnp) hc1 (cs := cs) (o := j * nc τ) hc2
    refine ⟨u, ?_, rfl, h6⟩
    unfold Instr.index
    have h7 : (0 : Int) ≤ j ∧ (j : Int) < n := by omega
    simp only [Sem.run_bind, asIntOf, Sem.run_pure, Result.andThen_ok, run_underlying' he1, h7, and_self, if_true, run_sizeOf' hi, Int.toNat_natCast, hsz]
    exact h5
  · rename_i s k i
    obtain ⟨h1, h2⟩ := cond_some he
    obtain ⟨j, rfl, hj, h3⟩ := kIdx_some h2
    cases h3
    obtain rfl := hy.int
    obtain rfl := hx.str
    have hty := hE.types t _ (Env.is_spec h1)
    have hu : P.underlying t = some .string := by
      simp only [TyOk, tyB, Bool.and_eq_true] at hty
      have h := hty.2
      split at h
      · rename_i he; exact he
      · cases h
    refine ⟨.int .u8 _, ?_, rfl, .mkInt⟩
    unfold Instr.index
    have h7 : (0 : Int) ≤ j := by omega
    simp only [Sem.run_bind, asIntOf, Sem.run_pure, Result.andThen_ok, run_underlying' hu, h7, if_true, Int.toNat_natCast]
    have h8 : (s : ByteArray)[j]? = some (s[j]'hj) := getElem?_pos s j hj
    rw [h8]
    simp only [Sem.run_pure]
    congr 2
    obtain ⟨⟨l⟩⟩ := s
    have : j < l.length := hj
    simp [List.getD, this]
    rfl
  · cases he

end
end Go.Ev

/-! New variables and rows; aggregates. -/
namespace Go.Ev
open Go.RowKit
set_option linter.unusedSimpArgs false
set_option linter.unusedVariables false

theorem cells_one {z v : Value} (h : z.cells.toList = [v]) (ha : isAggV z = false) : z = v := by
  cases z <;> first | (cases ha; done) | (simpa [Value.cells] using h)

theorem TyOk.sl_zero {P : Program} {t : TypeId} {a : Ty} (h : TyOk P t (.sl a)) : ∃ i, P.info? t = some i ∧ i.zero = some (.slice none 0 0) := by
  have hh := h.head (by intro a b e; cases e)
  unfold headB at hh
  split at hh
  · rename_i i hi
    simp only [Bool.and_eq_true] at hh
    obtain ⟨_, h3⟩ := hh
    split at h3
    · rename_i z hz
      simp only [Bool.and_eq_true, beq_iff_eq] at h3
      obtain ⟨h4, h5⟩ := h3
      split at h5
      · rename_i hzc
        obtain ⟨v, hv, hq⟩ := zcOne_spec hzc
        have hv' : z.cells.toList = [v] := hv
        refine ⟨i, hi, ?_⟩
        split at hq
        · rw [hz, cells_one hv' h4]
        · cases hq
      · cases h5
    · cases h3
  · cases hh

section
variable {P : Program} {nt : Nat} {F0 F G : FH} {w0 w : World} {st st' : St} {m : MM} {a : Act} {E : Env} {v : AV} {u : Value}

theorem heap_new (w : World) (o : Go.Obj) : (w.alloc o).heap[w.heap.size]? = some o := by
  show (w.heap.push o)[w.heap.size]? = some o
  simp

theorem alloc_box {nv : AV} {cs : Array Value} {el : TypeId} (h : Rel P nt F0 w0 st m F a w)
    (hb : match nv with
        | .dat τ x => Rep P F τ x cs.toList
        | .clip τ xs => ∃ u, cs = #[u] ∧ RelV1 P st.h m F (.clip τ xs) u
        | .ow id => ∃ u, cs = #[u] ∧ RelV1 P st.h m F (.ow id) u
        | _ => False) :
    Rel P nt F0 w0 ⟨st.fr, st.h ++ [.bx nv false]⟩ (m.put st.h.length (w.heap.size, cs.size)) F a (w.alloc (.cells cs el)) ∧
    RelV P (st.h ++ [.bx nv false]) (m.put st.h.length (w.heap.size, cs.size)) F (.bp st.h.length []) (.pointer (some ⟨w.heap.size, 0, none⟩)) := by
  have hm : (m.put st.h.length (w.heap.size, cs.size)) st.h.length = some (w.heap.size, cs.size) := by simp [MM.put]
  have hmm : ∀ j o, atN st.h j = some o → (m.put st.h.length (w.heap.size, cs.size)) j = m j := fun j o hj => by
    rw [atN_eq] at hj
    have := (List.getElem?_eq_some_iff.1 hj).1
    unfold MM.put; rw [if_neg (by omega)]
  have hmono : ∀ {x : AV} {u : Value}, RelV1 P st.h m F x u → RelV1 P (st.h ++ [.bx nv false]) (m.put st.h.length (w.heap.size, cs.size)) F x u := fun hx => RelV1.mono (HLe.append _ _) hmm (.refl F) hx
  refine ⟨h.alloc (ob := .cells cs el) rfl rfl rfl rfl ⟨_, _, el, (0, 0), cs, hm, heap_new w _, ?_, h.noF, rfl⟩, ?_⟩
  · cases nv with
    | dat τ x => exact hb
    | clip τ xs => obtain ⟨u, e, hu⟩ := hb; exact ⟨u, e, hmono hu⟩
    | ow id => obtain ⟨u, e, hu⟩ := hb; exact ⟨u, e, hmono hu⟩
    | _ => exact hb.elim
  · refine .inr ⟨w.heap.size, cs.size, .bx nv false, 0, hm, by rw [atN_eq]; simp, rfl, ?_⟩
    cases nv with
    | dat τ x => exact ⟨τ, rfl⟩
    | clip τ xs => exact ⟨rfl, rfl⟩
    | ow id => exact ⟨rfl, rfl⟩
    | _ => exact hb.elim

theorem alloc_row {τ : Ty} {xs : List τ.I} {cs : Array Value} {el : TypeId} {c d : List Value} {cap : Nat} (h : Rel P nt F0 w0 st m F a w) (hc : cs.toList = c ++ d) (hr : RepL (Rep P F τ) xs c) (hn : cs.size = cap * nc τ) (hcap : xs.length ≤ cap) {w' : World}
    (hos : w'.os = w.os) (htape : w'.tape = w.tape) (hout : w'.output = w.output) (hheap : w'.heap = w.heap.push (.cells cs el)) :
    Rel P nt F0 w0 ⟨st.fr, st.h ++ [.row τ xs false]⟩ (m.put st.h.length (w.heap.size, cs.size)) F a w' ∧
    RelV P (st.h ++ [.row τ xs false]) (m.put st.h.length (w.heap.size, cs.size)) F (.ow st.h.length) (.slice (some ⟨w.heap.size, 0, none⟩) xs.length cap) := by
  have hm : (m.put st.h.length (w.heap.size, cs.size)) st.h.length = some (w.heap.size, cs.size) := by simp [MM.put]
  have hw : w'.heap[w.heap.size]? = some (.cells cs el) := by rw [hheap]; simp
  constructor
  · refine h.alloc hos htape hout hheap ?_
    simp only [RelO, hm]
    exact ⟨el, (0, 0), cs, c, d, hw, rfl, hc, hr, h.noF, rfl⟩
  · refine .inr ⟨τ, xs, false, by rw [atN_eq]; simp, ?_⟩
    rw [hm]
    exact ⟨cap, hn, hcap, rfl⟩

/-- An empty row that nobody backs. -/
theorem alloc_row0 {τ : Ty} {ad : Option Addr} (h : Rel P nt F0 w0 st m F a w) :
    Rel P nt F0 w0 ⟨st.fr, st.h ++ [.row τ [] false]⟩ m F a w ∧ RelV P (st.h ++ [.row τ [] false]) m F (.ow st.h.length) (.slice ad 0 0) := by
  have hm := h.fresh
  have hh : HLe st.h (st.h ++ [.row τ [] false]) := HLe.append _ _
  constructor
  · refine ⟨h.nt, fun t v ht => (h.fr t v ht).mono hh (fun _ _ _ => rfl) (.refl F), fun j u hu => ?_, h.inj, fun j b n hj => ?_, h.fok, h.gro, h.bel, h.dfr⟩
    · by_cases e : j = st.h.length
      · subst e
        rw [atN_eq] at hu
        simp at hu
        subst hu
        simp only [RelO, hm]
      · have hu' : atN st.h j = some u := by
          rw [atN_eq] at hu ⊢
          have := (List.getElem?_eq_some_iff.1 hu).1
          simp at this
          rw [List.getElem?_append_left (by omega)] at hu; exact hu
        exact (h.obs j u hu').mono hh (fun _ _ _ => rfl) (.refl F) hu' (fun b n hb => rfl) (fun _ _ _ hn => hn)
    · have := h.rng _ _ _ hj
      simp only [List.length_append]
      omega
  · refine .inr ⟨τ, [], false, by rw [atN_eq]; simp, ?_⟩
    rw [hm]
    exact ⟨rfl, ad, rfl⟩

theorem run_newVar (t : TypeId) (z : Value) : (newVar t z).run P w = .ok ⟨w.heap.size, 0, none⟩ (w.alloc (.cells z.cells t)) := by
  unfold newVar newRow
  simp

theorem evAlloc_alloc {e : TypeId} {τ : Ty} (hE : EnvOk P G E) (h : Rel P nt F0 w0 st m F a w) (ht : look E.types e = some τ) (hp : ∀ a b, τ ≠ .pair a b) (hs : ∀ a, τ ≠ .sl a) (he : evAlloc (.dat τ (dflt τ)) st pk = some (v, st')) :
    ∃ u w', (Instr.alloc e true (.tuple #[])).run P w = .ok u w' ∧ Post P nt F0 w0 st' a F v u w' := by
  cases he
  obtain ⟨i, z, h1, h2, h3, h4, h5⟩ := headB_spec ((hE.types e τ ht).head hp)
  obtain ⟨h6, h7⟩ := alloc_box (nv := .dat τ (dflt τ)) (cs := z.cells) (el := e) h (h5 F).1
  refine ⟨_, _, ?_, _, F, .refl F, h6, h7⟩
  unfold Instr.alloc
  simp only [Sem.run_bind, run_zeroValue' h1 h4, Result.andThen_ok, run_newVar, Sem.run_pure]

theorem evAlloc_sl {e : TypeId} {τ : Ty} (hE : EnvOk P G E) (h : Rel P nt F0 w0 st m F a w) (ht : look E.types e = some (.sl τ)) (he : evAlloc (.clip τ []) st pk = some (v, st')) :
    ∃ u w', (Instr.alloc e true (.tuple #[])).run P w = .ok u w' ∧ Post P nt F0 w0 st' a F v u w' := by
  cases he
  obtain ⟨i, h1, h4⟩ := (hE.types e _ ht).sl_zero
  obtain ⟨h6, h7⟩ := alloc_box (nv := .clip τ []) (cs := #[.slice none 0 0]) (el := e) h ⟨_, rfl, none, rfl, fun hx => absurd rfl hx⟩
  refine ⟨_, _, ?_, _, F, .refl F, h6, h7⟩
  unfold Instr.alloc
  simp only [Sem.run_bind, run_zeroValue' h1 h4, Result.andThen_ok, run_newVar, Sem.run_pure]
  rfl

theorem run_box (e : TypeId) (q : Value) : (Instr.box e q).run P w = .ok (.pointer (some ⟨w.heap.size, 0, none⟩)) (w.alloc (.cells q.cells e)) := by
  unfold Instr.box
  simp only [Sem.run_bind, run_newVar, Result.andThen_ok, Sem.run_pure]

/-! ### Aggregates -/
theorem fill_one {place : Nat → Option (Nat × Nat)} {cells : Array Value} {i off size : Nat} {q : Value} {rest : List (Nat × Value)} (hp : place i = some (off, size)) (hs : q.cells.size = size) (hl : off + q.cells.size ≤ cells.size) :
    Instr.fill place cells ((i, q) :: rest) = Instr.fill place (splice cells.toList off q.cells.toList).toArray rest := by
  have : ¬ (q.cells.size ≠ size ∨ off + q.cells.size > cells.size) := by omega
  simp only [Instr.fill, hp, hs, ne_eq, not_true_eq_false, decide_false, Bool.false_or, decide_eq_true_eq]
  rw [if_neg (by omega)]
  congr 1
  have key : ∀ (l : List Value) (k : Nat) (cs : Array Value), off + k + l.length ≤ cs.size → (l.zipIdx k).foldl (fun cs (p : Value × Nat) => cs.setIfInBounds (off + p.2) p.1) cs = (splice cs.toList (off + k) l).toArray := by
    intro l
    induction l with
    | nil => intro k cs h; simp [splice]
    | cons x l ih =>
      intro k cs h
      simp only [List.zipIdx_cons, List.foldl_cons]
      rw [ih (k + 1) _ (by simp at h ⊢; omega)]
      congr 1
      apply List.ext_getElem?
      intro j
      simp at h
      rw [splice_get (by simp; omega), splice_get (by simp; omega)]
      simp only [Array.toList_setIfInBounds, List.length_cons]
      by_cases h1 : off + (k + 1) ≤ j ∧ j < off + (k + 1) + l.length
      · rw [if_pos h1, if_pos (by omega), show j - (off + k) = (j - (off + (k + 1))) + 1 by omega, List.getElem?_cons_succ]
      · rw [if_neg h1]
        by_cases h2 : j = off + k
        · subst h2
          rw [if_pos (by omega), List.getElem?_set_self (by simp; omega)]
          simp
        · rw [if_neg (by omega), List.getElem?_set_ne (by omega)]
  have := key q.cells.toList 0 cells (by simp; omega)
  rw [Nat.add_zero] at this
  rw [← this, ← Array.foldl_toList, Array.toList_zipIdx]

/-- Parts of a value under construction, with what they stand for. -/
def RelPs (P : Program) (h : List Obj) (m : MM) (F : FH) : List (Nat × Option AV) → List (Nat × Value) → Prop
  | [], us => us = []
  | (i, some v) :: ps, us => ∃ u r, us = (i, u) :: r ∧ RelV P h m F v u ∧ RelPs P h m F ps r
  | (_, none) :: _, _ => False
theorem RelPs.mono {h h' : List Obj} {F F' : FH} (hh : HLe h h') (hF : F.le F') : ∀ {ps : List (Nat × Option AV)} {us : List (Nat × Value)}, RelPs P h m F ps us → RelPs P h' m F' ps us
  | [], _, e => e
  | (_, some _) :: _, _, ⟨u, r, e, h1, h2⟩ => ⟨u, r, e, RelV.mono hh (fun _ _ _ => rfl) hF h1, RelPs.mono hh hF h2⟩

theorem nthT_np {a : Ty} {fs : List Field} (h : (tyB P a).2 fs 0 = true) {i o : Nat} {σ : Ty} (hn : nthT a i = some (o, σ)) : ∃ f, fs[i]? = some f ∧ f.offset = o ∧ ∃ j, P.info? f.type = some j ∧ j.size = nc σ := by
  obtain ⟨f, h1, h2, h3, h4, h5, _⟩ := flds_nth h hn
  obtain ⟨j, hj, hs⟩ := h3.size (Ty.np_spec h5)
  exact ⟨f, h1, by omega, j, hj, hs⟩

theorem evBuild_st {q : Bool} {c : Ty} {place : Nat → Option (Nat × Nat)} (hplace : ∀ i o σ, nthT c i = some (o, σ) → place i = some (o, nc σ)) :
    ∀ {ps : List (Nat × Option AV)} {us : List (Nat × Value)} {x x' : (Ty.st c).I} {st st' : St} {F : FH} {cells : Array Value}, evBuild q (.st c) x ps st = some (x', st') → Rel P nt F0 w0 st m F a w → RelPs P st.h m F ps us → Rep P F (.st c) x cells.toList →
      ∃ F' cells', F.le F' ∧ Rel P nt F0 w0 st' m F' a w ∧ Instr.fill place cells us = some cells' ∧ Rep P F' (.st c) x' cells'.toList
  | [], us, x, x', st, st', F, cells, he, h, hps, hr => by
    cases he
    cases hps
    exact ⟨F, cells, .refl F, h, rfl, hr⟩
  | (i, none) :: ps, us, x, x', st, st', F, cells, he, h, hps, hr => hps.elim
  | (i, some v) :: ps, us, x, x', st, st', F, cells, he, h, hps, hr => by
    obtain ⟨u, r, rfl, h1, h2⟩ := hps
    simp only [evBuild] at he
    split at he
    · rename_i σ y st1 hz
      obtain ⟨F1, e1, e2, e3, e4⟩ := frz_spec hz h h1
      split at he
      · rename_i x1 hs
        have hr' : Rep P F1 c x cells.toList := Rep.mono (τ := c) e1 hr
        obtain ⟨o, f1, f2, f3⟩ := setNth_rep (P := P) (F := F1) (a := c) hs hr' e3.1
        obtain ⟨F2, cells', g1, g2, g3, g4⟩ := evBuild_st hplace (cells := (splice cells.toList o u.cells.toList).toArray) he e2 (h2.mono e4 e1) (show Rep P F1 (.st c) x1 _ by rw [List.toList_toArray]; exact f2)
        have hl := Rep.length e3.1
        refine ⟨F2, cells', e1.trans g1, g2, ?_, g4⟩
        rw [fill_one (hplace _ _ _ f1) (by simpa using hl) (by simpa using f3)]
        exact g3
      · cases he
    · cases he

theorem evBuild_arr {q : Bool} {n : Nat} {c : Ty} :
    ∀ {ps : List (Nat × Option AV)} {us : List (Nat × Value)} {x x' : (Ty.arr n c).I} {st st' : St} {F : FH} {cells : Array Value}, evBuild q (.arr n c) x ps st = some (x', st') → Rel P nt F0 w0 st m F a w → RelPs P st.h m F ps us → Rep P F (.arr n c) x cells.toList →
      ∃ F' cells', F.le F' ∧ Rel P nt F0 w0 st' m F' a w ∧ Instr.fill (fun i => some (i * nc c, nc c)) cells us = some cells' ∧ Rep P F' (.arr n c) x' cells'.toList
  | [], us, x, x', st, st', F, cells, he, h, hps, hr => by
    cases he
    cases hps
    exact ⟨F, cells, .refl F, h, rfl, hr⟩
  | (i, none) :: ps, us, x, x', st, st', F, cells, he, h, hps, hr => hps.elim
  | (i, some v) :: ps, us, x, x', st, st', F, cells, he, h, hps, hr => by
    obtain ⟨u, r, rfl, h1, h2⟩ := hps
    simp only [evBuild] at he
    split at he
    · rename_i σ y st1 hz
      obtain ⟨F1, e1, e2, e3, e4⟩ := frz_spec hz h h1
      split at he
      · rename_i x1 hs
        split at hs
        · rename_i y' hc
          obtain ⟨rfl, rfl⟩ := castI_spec hc
          obtain ⟨h3, h4⟩ := cond_some hs
          simp only [decide_eq_true_eq] at h3
          cases h4
          obtain ⟨hlen, hl⟩ := Rep.mono (τ := .arr n σ) e1 hr
          have hn : ∀ (z : σ.I) c, (RR P σ).1 F1 z c → c.length = nc σ := fun z c h => Rep.length (P := P) (F := F1) (x := z) h
          have hL := RepL.length hn _ _ hl
          have hcl := Rep.length e3.1
          have hset := RepL.set hn _ _ hl i y _ (by omega) e3.1
          have hb : i * nc σ + nc σ ≤ cells.toList.length := by
            rw [hL, hlen]
            calc i * nc σ + nc σ = (i + 1) * nc σ := by rw [Nat.add_mul]; omega
              _ ≤ n * nc σ := Nat.mul_le_mul_right _ (by omega)
          obtain ⟨F2, cells', g1, g2, g3, g4⟩ := evBuild_arr (cells := (splice cells.toList (i * nc σ) u.cells.toList).toArray) he e2 (h2.mono e4 e1) ⟨by simpa [setAt_eq] using hlen, by simpa [setAt_eq] using hset⟩
          refine ⟨F2, cells', e1.trans g1, g2, ?_, g4⟩
          rw [fill_one rfl (by simpa using hcl) (by simp at hcl hb ⊢; omega)]
          exact g3
        · cases hs
      · cases he
    · cases he

theorem evBuildRow_spec {q : Bool} {c : Ty} :
    ∀ {ps : List (Nat × Option AV)} {us : List (Nat × Value)} {x x' : List c.I} {st st' : St} {F : FH} {cells : Array Value}, evBuildRow q c x ps st = some (x', st') → Rel P nt F0 w0 st m F a w → RelPs P st.h m F ps us → RepL (Rep P F c) x cells.toList →
      ∃ F' cells', F.le F' ∧ Rel P nt F0 w0 st' m F' a w ∧ Instr.fill (fun i => some (i * nc c, nc c)) cells us = some cells' ∧ RepL (Rep P F' c) x' cells'.toList ∧ x'.length = x.length
  | [], us, x, x', st, st', F, cells, he, h, hps, hr => by
    cases he
    cases hps
    exact ⟨F, cells, .refl F, h, rfl, hr, rfl⟩
  | (i, none) :: ps, us, x, x', st, st', F, cells, he, h, hps, hr => hps.elim
  | (i, some v) :: ps, us, x, x', st, st', F, cells, he, h, hps, hr => by
    obtain ⟨u, r, rfl, h1, h2⟩ := hps
    simp only [evBuildRow] at he
    split at he
    · rename_i y st1 hz
      obtain ⟨F1, e1, e2, e3, e4⟩ := frzAs_spec hz h h1
      obtain ⟨h3, h4⟩ := cond_some he
      simp only [decide_eq_true_eq] at h3
      have hl : RepL (Rep P F1 c) x cells.toList := RepL.mono (fun _ _ h => Rep.mono e1 h) _ _ hr
      have hn : ∀ (z : c.I) d, Rep P F1 c z d → d.length = nc c := fun z d h => Rep.length h
      have hL := RepL.length hn _ _ hl
      have hcl := Rep.length e3.1
      have hset := RepL.set hn _ _ hl i y _ h3 e3.1
      have hb : i * nc c + nc c ≤ cells.toList.length := by
        rw [hL]
        calc i * nc c + nc c = (i + 1) * nc c := by rw [Nat.add_mul]; omega
          _ ≤ x.length * nc c := Nat.mul_le_mul_right _ (by omega)
      obtain ⟨F2, cells', g1, g2, g3, g4, g5⟩ := evBuildRow_spec (cells := (splice cells.toList (i * nc c) u.cells.toList).toArray) h4 e2 (h2.mono e4 e1) (by simpa [setAt_eq] using hset)
      refine ⟨F2, cells', e1.trans g1, g2, ?_, g4, by rw [g5]; simp [setAt_eq]⟩
      rw [fill_one rfl (by simpa using hcl) (by simp at hcl hb ⊢; omega)]
      exact g3
    · cases he

end
end Go.Ev

/-! Lengths, slices, rows made, appends. -/
namespace Go.Ev
open Go.RowKit
set_option linter.unusedSimpArgs false
set_option linter.unusedVariables false

theorem growBy_le (n : Nat) : ∀ (r c B : Nat), c ≤ B → n + (n + 768) / 4 ≤ B → Builtin.growBy n r c ≤ B
  | 0, c, B, h, _ => h
  | r + 1, c, B, h, hB => by
    simp only [Builtin.growBy]
    split
    · exact h
    · exact growBy_le n r _ B (by omega) hB
theorem nextcap_le (need cap : Nat) (h : cap < need) : Builtin.nextslicecap need cap ≤ 2 * need + 1000 := by
  unfold Builtin.nextslicecap
  split
  · omega
  · split
    · omega
    · exact growBy_le need 4 cap _ (by omega) (by omega)

section
variable {P : Program} {nt : Nat} {F0 F G : FH} {w0 w : World} {st st' : St} {m : MM} {a : Act} {E : Env} {v : AV} {u : Value}

theorem TyOk.str {t : TypeId} (h : TyOk P t .str) : P.underlying t = some .string := by
  simp only [TyOk, tyB, Bool.and_eq_true] at h
  have h := h.2
  split at h
  · rename_i he; exact he
  · cases h
theorem TyOk.int {t : TypeId} {k : IntKind} (h : TyOk P t (.int k)) : P.underlying t = some (.int k) := by
  simp only [TyOk, tyB, Bool.and_eq_true] at h
  have h := h.2
  split at h
  · rename_i k' he
    simp only [decide_eq_true_eq] at h
    rw [he, h]
  · cases h
theorem TyOk.mp {t : TypeId} {κ σ : Ty} (h : TyOk P t (.pair κ σ)) : ∃ k e, P.underlying t = some (.map k e) ∧ TyOk P k κ ∧ TyOk P e σ := by
  simp only [TyOk, tyB, Bool.and_eq_true] at h
  have h := h.1
  split at h
  · rename_i k e he
    simp only [Bool.and_eq_true] at h
    exact ⟨k, e, he, h.1, h.2⟩
  · cases h

theorem evLen_snd {t : TypeId} {ts : Array TypeId} {x : AV} {p : Value} {ty : TypeId} (hE : EnvOk P G E) (h : Rel P nt F0 w0 st m F a w) (hx : RelV P st.h m F x p) (hts : ts.toList = [t]) (he : evLen E t x st pk = some (v, st')) :
    ∃ u, (Builtin.len_ ts ty #[p]).run P w = .ok u w ∧ st' = st ∧ RelV P st.h m F v u := by
  have ht0 : ts[0]? = some t := by rw [← Array.getElem?_toList, hts]; rfl
  have hp0 : (#[p] : Array Value)[0]? = some p := rfl
  unfold evLen at he
  split at he
  · obtain ⟨h1, h2⟩ := cond_some he
    cases h2
    obtain rfl := hx.str
    refine ⟨_, ?_, rfl, .mkInt⟩
    unfold Builtin.len_
    simp only [ht0, hp0, Sem.run_bind, run_underlying' (hE.types t _ (Env.is_spec h1)).str, Result.andThen_ok, Sem.run_pure]
    rfl
  · obtain ⟨h1, h2⟩ := cond_some he
    cases h2
    obtain ⟨ad, cap, rfl, _⟩ := hx.sl
    obtain ⟨e, hu, _⟩ := (hE.types t _ (Env.is_spec h1)).sl
    refine ⟨_, ?_, rfl, .mkInt⟩
    unfold Builtin.len_
    simp only [ht0, hp0, Sem.run_bind, run_underlying' hu, Result.andThen_ok, Sem.run_pure]
    rfl
  · obtain ⟨h1, h2⟩ := cond_some he
    cases h2
    obtain ⟨ad, rfl, _⟩ := hx
    obtain ⟨e, hu, _⟩ := (hE.types t _ (Env.is_spec h1)).sl
    refine ⟨_, ?_, rfl, .mkInt⟩
    unfold Builtin.len_
    simp only [ht0, hp0, Sem.run_bind, run_underlying' hu, Result.andThen_ok, Sem.run_pure]
    rfl
  · rename_i id
    split at he
    · rename_i τ xs fz ho
      obtain ⟨h1, h2⟩ := cond_some he
      cases h2
      obtain ⟨e, hu, _⟩ := (hE.types t _ (Env.is_spec h1)).sl
      obtain ⟨τ', xs', fz', ho', hq⟩ := hx.owAt ho
      rw [ho] at ho'
      cases ho'
      have hp : ∃ ad cap, p = .slice ad xs.length cap := by
        split at hq
        · obtain ⟨cap, _, _, rfl⟩ := hq; exact ⟨_, cap, rfl⟩
        · obtain ⟨rfl, ad, rfl⟩ := hq; exact ⟨ad, 0, rfl⟩
      obtain ⟨ad, cap, rfl⟩ := hp
      refine ⟨_, ?_, rfl, .mkInt⟩
      unfold Builtin.len_
      simp only [ht0, hp0, Sem.run_bind, run_underlying' hu, Result.andThen_ok, Sem.run_pure]
      rfl
    · cases he
  · rename_i id
    split at he
    · rename_i κ σ es ho
      obtain ⟨h1, h2⟩ := cond_some he
      cases h2
      obtain ⟨k, e, hu, _⟩ := (hE.types t _ (Env.isM_spec h1)).mp
      obtain ⟨b, n, κ', σ', es', hmi, ho', rfl⟩ := hx.omAt ho
      rw [ho] at ho'
      cases ho'
      obtain ⟨b', n', ents, clock, h3, h4, h5, h6⟩ := h.obs id _ ho
      rw [hmi] at h3
      cases h3
      refine ⟨_, ?_, rfl, .mkInt⟩
      unfold Builtin.len_
      have hg : (getObj b).run P w = .ok (.map ents clock) w := by simp [getObj, Sem.run, h4]
      simp only [ht0, hp0, Sem.run_bind, run_underlying' hu, Result.andThen_ok, hg, Sem.run_pure]
      rw [show ents.size = es.length by rw [h5.1]; simp]
      rfl
    · cases he
  · cases he

/-! ### Slice expressions -/
theorem bnd_some {x : Option (Option AV)} {d most : Nat} {α : Type} {k : Nat → Option α} {y : α} (h : bnd x d most k = some y) :
    (x = none ∧ k d = some y) ∨ ∃ (κ : IntKind) (j : Nat), x = some (some (.dat (.int κ) (j : Int))) ∧ j ≤ most ∧ k j = some y := by
  unfold bnd at h
  split at h
  · exact .inl ⟨rfl, h⟩
  · rename_i κ n
    obtain ⟨h1, h2⟩ := cond_some h
    obtain ⟨h3, h4⟩ := cond_some h2
    have h1' : (0 : Int) ≤ (show Int from n) := of_decide_eq_true h1
    have h3' : (show Int from n) ≤ (most : Int) := of_decide_eq_true h3
    refine .inr ⟨κ, Int.toNat n, ?_, Int.toNat_le.2 h3', h4⟩
    rw [Int.toNat_of_nonneg h1']
  · cases h

theorem run_bound {κ : IntKind} {j most : Nat} {code : BoundsCode} (h : j ≤ most) : (Instr.sliceBound (.int κ j) most code).run P w = .ok j w := by
  unfold Instr.sliceBound
  have : (0 : Int) ≤ j ∧ (j : Int) ≤ most := by omega
  simp only [Sem.run_bind, asIntOf, Sem.run_pure, Result.andThen_ok, this, and_self, if_true, Int.toNat_natCast]

/-- A bound and what it stands for. -/
def RelB (P : Program) (h : List Obj) (m : MM) (F : FH) : Option (Option AV) → Option Value → Prop
  | none, o => o = none
  | some (some v), o => ∃ u, o = some u ∧ RelV P h m F v u
  | some none, _ => True

theorem At.drop {F : FH} {d : Addr} {τ : Ty} {xs : List τ.I} {cc : List Value} (h1 : At F d cc) (h2 : RepL (Rep P F τ) xs cc) (l h : Nat) (hl : l ≤ xs.length) :
    ∃ cc', At F (d.add (l * nc τ)) cc' ∧ RepL (Rep P F τ) (List.drop l (List.take h xs)) cc' := by
  have hn : ∀ (z : τ.I) c, Rep P F τ z c → c.length = nc τ := fun z c h => Rep.length h
  have key : ∀ (l h : Nat) (xs : List τ.I) (cc : List Value), RepL (Rep P F τ) xs cc → l ≤ xs.length → ∃ cc', RepL (Rep P F τ) (List.drop l (List.take h xs)) cc' ∧ ∀ (j : Nat) (u : Value), cc'[j]? = some u → cc[l * nc τ + j]? = some u := by
    intro l
    induction l with
    | zero =>
      intro h
      induction h with
      | zero => intro xs cc _ _; exact ⟨[], by simp [RepL], fun j u hj => by simp at hj⟩
      | succ h ih =>
        intro xs cc hr _
        cases xs with
        | nil => exact ⟨[], by simp [RepL], fun j u hj => by simp at hj⟩
        | cons x xs =>
          obtain ⟨c, d, rfl, h3, h4⟩ := hr
          obtain ⟨cc', h5, h6⟩ := ih xs d h4 (by omega)
          refine ⟨c ++ cc', ⟨c, cc', rfl, h3, by simpa using h5⟩, fun j u hj => ?_⟩
          rw [Nat.zero_mul, Nat.zero_add]
          by_cases hjc : j < c.length
          · rw [List.getElem?_append_left hjc] at hj ⊢; exact hj
          · rw [List.getElem?_append_right (by omega)] at hj ⊢
            have := h6 _ u hj
            simpa using this
    | succ l ih =>
      intro h xs cc hr hl
      cases xs with
      | nil => simp at hl
      | cons x xs =>
        obtain ⟨c, d, rfl, h3, h4⟩ := hr
        cases h with
        | zero => exact ⟨[], by simp [RepL], fun j u hj => by simp at hj⟩
        | succ h =>
          obtain ⟨cc', h5, h6⟩ := ih h xs d h4 (by simpa using hl)
          refine ⟨cc', by simpa using h5, fun j u hj => ?_⟩
          have hc := hn _ _ h3
          rw [List.getElem?_append_right (by rw [hc, Nat.add_mul]; omega), hc, show (l + 1) * nc τ + j - nc τ = l * nc τ + j by rw [Nat.add_mul]; omega]
          exact h6 j u hj
  obtain ⟨cc', h3, h4⟩ := key l h xs cc h2 hl
  exact ⟨cc', h1.sub h4, h3⟩

theorem RelB.val {κ : IntKind} {j : Nat} {o : Option Value} (h : RelB P st.h m F (some (some (.dat (.int κ) (j : Int)))) o) : o = some (.int κ j) := by
  obtain ⟨u, rfl, hu⟩ := h
  rw [hu.int]

theorem evSliceL_snd {t e : TypeId} {τ : Ty} {xs : List τ.I} {lo hi mx : Option (Option AV)} {lo' hi' mx' : Option Value} {ad : Option Addr} {cap : Nat} {i : TypeInfo}
    (hu : P.underlying t = some (.slice e)) (hi1 : P.info? e = some i) (hsz : i.size = nc τ) (hcap : xs.length ≤ cap) (hm : xs ≠ [] → ∃ d cc, ad = some d ∧ At F d cc ∧ RepL (Rep P F τ) xs cc)
    (hlo : RelB P st.h m F lo lo') (hhi : RelB P st.h m F hi hi') (hmx : RelB P st.h m F mx mx') (he : evSliceL τ xs lo hi mx st pk = some (v, st')) :
    ∃ u, (Instr.sliceAt t (.slice ad xs.length cap) lo' hi' mx').run P w = .ok u w ∧ st' = st ∧ RelV P st.h m F v u := by
  have hmem : ∀ l h c : Nat, l ≤ h → h ≤ xs.length → h ≤ c → List.drop l (List.take h xs) ≠ [] → ∃ d cc, (if c = l then ad else ad.map (·.add (l * i.size))) = some d ∧ At F d cc ∧ RepL (Rep P F τ) (List.drop l (List.take h xs)) cc := by
    intro l h c hlh hh hc hne
    have hlt : c ≠ l := by
      rintro rfl
      apply hne
      apply List.length_eq_zero_iff.1
      simp; omega
    have hx : xs ≠ [] := by rintro rfl; simp at hne
    obtain ⟨d, cc, rfl, h1, h2⟩ := hm hx
    obtain ⟨cc', h3, h4⟩ := At.drop h1 h2 l h (by omega)
    refine ⟨d.add (l * nc τ), cc', ?_, h3, h4⟩
    rw [if_neg hlt, hsz]; rfl
  have hlen : ∀ l h : Nat, l ≤ h → h ≤ xs.length → (List.drop l (List.take h xs)).length = h - l := by intro l h h1 h2; simp; omega
  unfold evSliceL at he
  split at he
  · -- two indexes
    obtain rfl := hmx
    have hfin : ∀ l h : Nat, l ≤ h → h ≤ xs.length → pk (.dat (.sl τ) (List.drop l (List.take h xs))) st = some (v, st') →
        (Instr.sliceBounds true xs.length cap lo' hi' none).run P w = .ok (l, h, cap) w →
        ∃ u, (Instr.sliceAt t (.slice ad xs.length cap) lo' hi' none).run P w = .ok u w ∧ st' = st ∧ RelV P st.h m F v u := by
      intro l h hlh hh hk hb
      cases hk
      refine ⟨.slice (if cap = l then ad else ad.map (·.add (l * i.size))) (h - l) (cap - l), ?_, rfl, ?_⟩
      · unfold Instr.sliceAt Instr.slice
        simp only [Sem.run_bind, run_underlying' hu, Result.andThen_ok, hb, run_sizeOf' hi1, Sem.run_pure]
      · refine ⟨⟨(if cap = l then ad else ad.map (·.add (l * i.size))), cap - l, ?_, ?_, fun hne => hmem l h cap hlh hh (by omega) hne⟩, rfl⟩
        · simp only [Value.cells]; rw [hlen l h hlh hh]
        · rw [hlen l h hlh hh]; omega
    rcases bnd_some he with ⟨rfl, h1⟩ | ⟨κ, j, rfl, hj, h1⟩
    · obtain rfl := hhi
      rcases bnd_some h1 with ⟨rfl, h2⟩ | ⟨κ', j', rfl, hj', h2⟩
      · obtain rfl := hlo
        exact hfin 0 xs.length (by omega) (by omega) h2 (by unfold Instr.sliceBounds; simp)
      · obtain rfl := hlo.val
        exact hfin j' xs.length (by omega) (by omega) h2 (by unfold Instr.sliceBounds; simp [run_bound hj'])
    · obtain rfl := hhi.val
      have hjc : j ≤ cap := by omega
      rcases bnd_some h1 with ⟨rfl, h2⟩ | ⟨κ', j', rfl, hj', h2⟩
      · obtain rfl := hlo
        exact hfin 0 j (by omega) (by omega) h2 (by unfold Instr.sliceBounds; simp [run_bound hjc])
      · obtain rfl := hlo.val
        exact hfin j' j (by omega) (by omega) h2 (by unfold Instr.sliceBounds; simp [run_bound hj', run_bound hjc])
  · -- three
    rename_i mv
    split at he
    · cases he
    rename_i hv
    rcases bnd_some he with ⟨hh, _⟩ | ⟨κ0, mm, hmm, hm1, h0⟩
    · cases hh
    · cases hmm
      obtain rfl := hmx.val
      have hfin : ∀ l h : Nat, l ≤ h → h ≤ mm → cond (decide (h = mm)) (pk (.clip τ (List.drop l (List.take h xs))) st) none = some (v, st') →
          (Instr.sliceBounds true xs.length cap lo' hi' (some (.int κ0 mm))).run P w = .ok (l, h, mm) w →
          ∃ u, (Instr.sliceAt t (.slice ad xs.length cap) lo' hi' (some (.int κ0 mm))).run P w = .ok u w ∧ st' = st ∧ RelV P st.h m F v u := by
        intro l h hlh hh hk0 hb
        obtain ⟨hhm, hk⟩ := cond_some hk0
        clear hk0
        simp only [decide_eq_true_eq] at hhm
        subst hhm
        cases hk
        refine ⟨.slice (if h = l then ad else ad.map (·.add (l * i.size))) (h - l) (h - l), ?_, rfl, ?_⟩
        · unfold Instr.sliceAt Instr.slice
          simp only [Sem.run_bind, run_underlying' hu, Result.andThen_ok, hb, run_sizeOf' hi1, Sem.run_pure]
        · refine ⟨(if h = l then ad else ad.map (·.add (l * i.size))), ?_, fun hne => hmem l h h hlh hm1 (Nat.le_refl _) hne⟩
          rw [hlen l h hlh hm1]
      have hmc : mm ≤ cap := by omega
      rcases bnd_some h0 with ⟨hh, _⟩ | ⟨κ, j, hjj, hj, h1⟩
      · cases hh
      · cases hjj
        obtain rfl := hhi.val
        rcases bnd_some h1 with ⟨rfl, h2⟩ | ⟨κ', j', rfl, hj', h2⟩
        · obtain rfl := hlo
          exact hfin 0 j (by omega) (by omega) h2 (by unfold Instr.sliceBounds; simp [run_bound hj, run_bound hmc])
        · obtain rfl := hlo.val
          exact hfin j' j (by omega) (by omega) h2 (by unfold Instr.sliceBounds; simp [run_bound hj', run_bound hj, run_bound hmc])

end
end Go.Ev
